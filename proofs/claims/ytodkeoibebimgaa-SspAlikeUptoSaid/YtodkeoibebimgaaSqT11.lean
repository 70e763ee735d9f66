/- What a function computes, and that it does: 11. -/
import Derived.Test.YtodkeoibebimgaaSq0
import Derived.Test.YtodkeoibebimgaaSq1
import Derived.Test.YtodkeoibebimgaaSq2
import Derived.Test.YtodkeoibebimgaaSq4
import Derived.Test.YtodkeoibebimgaaSq6
import Derived.Test.YtodkeoibebimgaaSq7
namespace Go.Proofs.Ytodkeoibebimgaa.Sq
open Go Go.RowKit Go.Proofs.Ytodkeoibebimgaa.SL
set_option linter.unusedVariables false
set_option linter.unusedSimpArgs false
attribute [local irreducible] IntKind.wrap minI maxI shrI shlI andI orI xorI andNotI cplI rd sub bytesOf strOf slA
/-! ### function 11: wayfarer/wayfarerlaw23.SspAlike -/
def F11.l0 (l0 : (List ByteArray)) (l1 : (List Int)) : Nat → S131 → S162 → Int → Int → ByteArray → (List ByteArray) → (List S54) → Int → Option (Out (Bool) (Unit))
  | 0, _, _, _, _, _, _, _, _ => none
  | k + 1, x5_20, x6_20, x7_20, x8_20, x9_20, x10_20, x11_20, x12_20 => if x12_20 < (l1.length : Int) then ((if x12_20 < (l0.length : Int) then (if 0 ≤ x12_20 ∧ x12_20 < (l0.length : Int) then (if x9_20.size + (rd l0 x12_20).size ≤ 9223372036854775807 then (lt (x9_20 ++ (rd l0 x12_20)) fun n48 => (F22b0.f x5_20 (S41.mk n48)).bind (fun r52 => some (r52.2, n48))) else none) else none) else (some (x5_20, x9_20)) : Option (S131 × ByteArray)).bind (fun t39 => if 0 ≤ x12_20 ∧ x12_20 < (l1.length : Int) then (lt (IntKind.u64.wrap (x7_20 + (IntKind.u64.wrap (rd l1 x12_20)))) fun n60 => (F25b0.f t39.1 n60 20 90).bind (fun r64 => if r64.2.2.1 ≠ 0 then (some (Out.ret (false))) else ((if r64.2.1 = true then (if x11_20.length + ([r64.1] : (List S54)).length ≤ 2513169434916 then lt (x11_20 ++ ([r64.1] : (List S54))) fun n88 => (if r64.1.f1 = (IntKind.u64.wrap ((x10_20.length : Int))) then (if x10_20.length + ([t39.2] : (List ByteArray)).length ≤ 8796093022208 then lt (x10_20 ++ ([t39.2] : (List ByteArray))) fun n96 => (some (n96, n88)) else none) else (some (x10_20, n88))) else none) else (some (x10_20, x11_20)) : Option ((List ByteArray) × (List S54))).bind (fun t74 => (if (t74.2.length : Int) > 0 then (if 0 ≤ x12_20 ∧ x12_20 < (l1.length : Int) then (some (decide (((rd l1 x12_20).tmod 3) > 0))) else none) else (some false) : Option Bool).bind (fun q98 => (if q98 = true then (if 0 ≤ x12_20 ∧ x12_20 < (l1.length : Int) then (if (t74.2.length : Int) ≠ 0 then (if 0 ≤ ((IntKind.i64.wrap ((IntKind.i64.wrap ((IntKind.i64.wrap (rd l1 x12_20)) * 7)) + x12_20)).tmod (t74.2.length : Int)) ∧ ((IntKind.i64.wrap ((IntKind.i64.wrap ((IntKind.i64.wrap (rd l1 x12_20)) * 7)) + x12_20)).tmod (t74.2.length : Int)) < (t74.2.length : Int) then ((F52.f k x6_20 (rd t74.2 ((IntKind.i64.wrap ((IntKind.i64.wrap ((IntKind.i64.wrap (rd l1 x12_20)) * 7)) + x12_20)).tmod (t74.2.length : Int)))).bind (fun r120 => some r120.2.2)) else none) else none) else none) else (some x6_20) : Option (S162)).bind (fun t103 => (F53.f t103).bind (fun r129 => (if r129.1 < x8_20 then (some true) else (if r129.1 ≥ (IntKind.u64.wrap ((t74.1.length : Int))) then (some true) else (if 0 ≤ r129.1 ∧ r129.1 < (t74.1.length : Int) then (some (decide (r129.2.f0 ≠ (rd t74.1 r129.1)))) else none)) : Option (Bool)).bind (fun t132 => if t132 = true then (some (Out.ret (false))) else (if 0 ≤ x12_20 ∧ x12_20 < (l1.length : Int) then (if ((rd l1 x12_20).tmod 5) = 0 then ((F23b0.f k r64.2.2.2 r129.1).bind (fun r1281 => lt (IntKind.i64.wrap (x12_20 + 1)) fun n1285 => F11.l0 l0 l1 k r1281.2 t103 n60 r129.1 t39.2 t74.1 t74.2 n1285)) else (lt (IntKind.i64.wrap (x12_20 + 1)) fun n1287 => F11.l0 l0 l1 k r64.2.2.2 t103 n60 r129.1 t39.2 t74.1 t74.2 n1287)) else none))))))))) else none)) else (some (Out.go ()))
def F11.f (k : Nat) (l0 : (List ByteArray)) (l1 : (List Int)) : Option (Bool) := (F20.f (S41.mk (⟨#[]⟩ : ByteArray))).bind (fun r3 => (F51.f (S41.mk (⟨#[]⟩ : ByteArray))).bind (fun r9 => lt ((⟨#[]⟩ : ByteArray)) fun n16 => (F11.l0 l0 l1 k r3 r9 0 0 n16 ([(⟨#[]⟩ : ByteArray)] : (List ByteArray)) ([]) 0 : Option (Out (Bool) (Unit))).bind (fun t19 => Out.el t19 (fun r_ => some r_) (fun s20 => (F29.f k ).bind (fun r1291 => some (r1291))))))
set_option maxHeartbeats 2000000 in
set_option maxRecDepth 100000 in
theorem F11.ok {k : Nat} {l0 : (List ByteArray)} {l1 : (List Int)} {A0 : Option Addr} {c0 : Nat} {A1 : Option Addr} {c1 : Nat} {r : Bool} (H : F11.f k l0 l1 = some r) : SCA Try.prog 11 #[.slice A0 l0.length c0, .slice A1 l1.length c1] [Ro Kd.str A0 c0 l0, Ro (Kd.int .u8) A1 c1 l1] (fun v B => v = .bool r ∧ B = []) := by
  refine SCA_of_body Try.func11 rfl rfl ?_
  unfold F11.f at H
  refine SA_seq ?_
  refine SA_region ?_
  refine RA_step rfl (OA_v (v := .bool false) rfl (V_assign rfl) ?_)
  refine RA_nil ?_
  refine at_normal ?_
  refine SA_seq ?_
  refine SA_region ?_
  refine RA_step rfl (OA_v (v := .agg #[.string (⟨#[]⟩ : ByteArray)]) rfl (V_build (cells := [.string (⟨#[]⟩ : ByteArray)]) zero41 Try.underlying41 plc41 (by kernel_rfl)) ?_)
  obtain ⟨r3, C1294, H⟩ := g_bind H
  refine RA_step rfl (OA_callA [] [0, 1] rfl (X_fn (vs := [.agg #[.string (⟨#[]⟩ : ByteArray)]]) Try.func20 nm20 rfl rfl) rfl (F20.ok (a0 := (S41.mk (⟨#[]⟩ : ByteArray))) C1294) rfl ?_)
  rintro _ _ ⟨b4, A6, c7, rfl, rfl⟩
  refine RA_step rfl (OA_v (v := .agg #[.string (⟨#[]⟩ : ByteArray)]) rfl (V_build (cells := [.string (⟨#[]⟩ : ByteArray)]) zero41 Try.underlying41 plc41 (by kernel_rfl)) ?_)
  obtain ⟨r9, C1293, H⟩ := g_bind H
  refine RA_step rfl (OA_callA [] [0, 1, 2, 3] rfl (X_fn (vs := [.agg #[.string (⟨#[]⟩ : ByteArray)]]) Try.func51 nm51 rfl rfl) rfl (F51.ok (a0 := (S41.mk (⟨#[]⟩ : ByteArray))) C1293) rfl ?_)
  rintro _ _ ⟨b10, A12, c13, rfl, rfl⟩
  refine RA_step rfl (OA_v (v := .pointer (some ⟨b4, 0, none⟩)) rfl (V_assign rfl) ?_)
  refine RA_step rfl (OA_v (v := .pointer (some ⟨b10, 0, none⟩)) rfl (V_assign rfl) ?_)
  refine RA_nil ?_
  refine at_normal ?_
  refine SA_seq ?_
  refine SA_seq ?_
  refine SA_region ?_
  refine RA_step rfl (OA_v (v := .pointer (some ⟨b4, 0, none⟩)) rfl (V_move rfl) ?_)
  refine RA_step rfl (OA_v (v := .bool false) rfl (V_eqlPN Try.underlying38 rfl rfl) ?_)
  refine RA_step rfl (OA_v (v := .bool false) rfl (V_move rfl) ?_)
  refine RA_yesB rfl rfl rfl rfl (rfl) (OA_v (v := .pointer (some ⟨b10, 0, none⟩)) rfl (V_move rfl) ?_)
  refine RA_yesB rfl rfl rfl rfl (rfl) (OA_v (v := .bool false) rfl (V_eqlPN Try.underlying106 rfl rfl) ?_)
  refine RA_step rfl (OA_v rfl (V_pickF rfl (rfl) rfl) ?_)
  refine RA_nil ?_
  refine at_normal ?_
  refine SA_condFb rfl (by decide) ?_
  refine SA_skip ?_
  refine at_normal ?_
  refine SA_seq ?_
  refine SA_region ?_
  refine RA_step rfl (OA_v (v := .int .u64 0) rfl (V_assign rfl) ?_)
  refine RA_step rfl (OA_v (v := .int .u64 0) rfl (V_assign rfl) ?_)
  refine RA_nil ?_
  refine at_normal ?_
  refine SA_seq ?_
  refine SA_region ?_
  obtain ⟨n16, hn16, H⟩ := g_lt H
  refine RA_step rfl (OA_v (v := .string n16) rfl (V_assign (v := .string n16) (congrArg (Value.string) hn16.symm)) ?_)
  refine RA_nil ?_
  refine at_normal ?_
  refine SA_seq ?_
  refine SA_region ?_
  refine RA_step rfl (OA_bs (kd := Kd.str) (zv := (.string ByteArray.empty)) (sz := 1) (cells := [.string (⟨#[]⟩ : ByteArray)]) (xs := ([(⟨#[]⟩ : ByteArray)] : (List ByteArray))) rfl Try.underlying105 zero9 sz9 rfl rfl rfl (by kernel_rfl) rfl rfl (RL_enc (fun x_ : ByteArray => [Value.string x_]) (fun _ _ => rfl) (by kernel_rfl)) fun b17 => ?_)
  refine RA_step rfl (OA_v (v := .slice (some ⟨b17, 0, none⟩) ([(⟨#[]⟩ : ByteArray)] : (List ByteArray)).length 1) rfl (V_assign rfl) ?_)
  refine RA_nil ?_
  refine at_normal ?_
  refine SA_seq ?_
  refine SA_region ?_
  refine RA_step rfl (OA_v (v := .slice none 0 0) rfl (V_assign rfl) ?_)
  refine RA_nil ?_
  refine at_normal ?_
  refine SA_seq ?_
  refine SA_seq ?_
  refine SA_region ?_
  refine RA_step rfl (OA_v (v := .int .i64 0) rfl (V_assign rfl) ?_)
  refine RA_nil ?_
  refine at_normal ?_
  obtain ⟨t19, H, Bt19⟩ := g_bind H
  refine SA_mid (fun e ds As => ∃ (s20 : Unit), t19 = Out.go s20 ∧ St [] [] e ds As) ?_ ?_
  · refine SA_block ?_
    refine SA_loop (fun k_ e ds As => ∃ (x5_20 : S131) (x6_20 : S162) (x7_20 : Int) (x8_20 : Int) (x9_20 : ByteArray) (x10_20 : (List ByteArray)) (x11_20 : (List S54)) (x12_20 : Int), ∃ (b21 : Nat), ∃ (A22 : Option Addr) (c23 : Nat), ∃ (b25 : Nat), ∃ (A26 : Option Addr) (c27 : Nat), ∃ (A29 : Option Addr) (c30 : Nat), ∃ (A32 : Option Addr) (c33 : Nat), F11.l0 l0 l1 k_ x5_20 x6_20 x7_20 x8_20 x9_20 x10_20 x11_20 x12_20 = some t19 ∧ St [(0, .slice A0 l0.length c0), (1, .slice A1 l1.length c1), (5, .pointer (some ⟨b21, 0, none⟩)), (6, .pointer (some ⟨b25, 0, none⟩)), (7, .int .u64 x7_20), (8, .int .u64 x8_20), (9, .string x9_20), (10, .slice A29 x10_20.length c30), (11, .slice A32 x11_20.length c33), (12, .int .i64 x12_20)] [Ro Kd.str A0 c0 l0, Ro (Kd.int .u8) A1 c1 l1, Blk b21 131 [.slice A22 x5_20.f0.length c23, .string x5_20.f1.f0, .int .u64 x5_20.f2, .bool x5_20.f3, .int .u64 x5_20.f4], Buf k128 128 A22 c23 x5_20.f0, Blk b25 162 [.slice A26 x6_20.f0.length c27], Ro k128 A26 c27 x6_20.f0, Buf Kd.str 9 A29 c30 x10_20, Buf k54 54 A32 c33 x11_20] e ds As) (k := k) ⟨_, _, _, _, _, _, _, _, b4, A6, c7, b10, A12, c13, some ⟨b17, 0, none⟩, 1, none, 0, H, St.mk1 (aeq rfl (aeq rfl (aeq rfl (aeq rfl (aeq rfl (aeq rfl (aeq rfl (aeq rfl (aeq rfl (aeq rfl aeq0)))))))))) ((Gh.freeze (k := 1) rfl).trans ((Gh.nilBuf k54 54).trans (Gh.sel [4, 5, 2, 3, 0, 1, 6, 7] rfl rfl)))⟩ ?_
    clear H
    rintro k36 e ds As ⟨x5_20, x6_20, x7_20, x8_20, x9_20, x10_20, x11_20, x12_20, b21, A22, c23, b25, A26, c27, A29, c30, A32, c33, H, hst37⟩
    obtain _ | k36 := k36
    · cases H
    rw [F11.l0] at H
    refine SA.of_St hst37 fun junk => ?_
    refine SA_seq ?_
    refine SA_seq ?_
    refine SA_region ?_
    refine RA_step rfl (OA_v (v := .int .i64 x12_20) rfl (V_move rfl) ?_)
    refine RA_step rfl (OA_v (v := .slice A1 l1.length c1) rfl (V_move rfl) ?_)
    refine RA_step rfl (OA_v (v := .int .i64 (l1.length : Int)) rfl (V_len Try.underlying23 rfl) ?_)
    refine RA_step rfl (OA_v (v := .bool (decide (x12_20 < (l1.length : Int)))) rfl (V_lss rfl rfl) ?_)
    refine RA_nil ?_
    refine at_normal ?_
    by_cases h38 : x12_20 < (l1.length : Int)
    · replace H := g_ift h38 H
      refine SA_condT rfl h38 ?_
      refine SA_skip ?_
      refine at_normal ?_
      refine SA_seq ?_
      refine SA_block ?_
      refine SA_seq ?_
      refine SA_seq ?_
      refine SA_region ?_
      refine RA_step rfl (OA_v (v := .int .i64 x12_20) rfl (V_move rfl) ?_)
      refine RA_step rfl (OA_v (v := .slice A0 l0.length c0) rfl (V_move rfl) ?_)
      refine RA_step rfl (OA_v (v := .int .i64 (l0.length : Int)) rfl (V_len Try.underlying105 rfl) ?_)
      refine RA_step rfl (OA_v (v := .bool (decide (x12_20 < (l0.length : Int)))) rfl (V_lss rfl rfl) ?_)
      refine RA_nil ?_
      refine at_normal ?_
      obtain ⟨t39, H, Bt39⟩ := g_bind H
      refine SA_mid (fun e ds As => ∃ (b40 : Nat), ∃ (A41 : Option Addr) (c42 : Nat), St [(0, .slice A0 l0.length c0), (1, .slice A1 l1.length c1), (5, .pointer (some ⟨b40, 0, none⟩)), (6, .pointer (some ⟨b25, 0, none⟩)), (7, .int .u64 x7_20), (8, .int .u64 x8_20), (9, .string t39.2), (10, .slice A29 x10_20.length c30), (11, .slice A32 x11_20.length c33), (12, .int .i64 x12_20)] [Blk b40 131 [.slice A41 t39.1.f0.length c42, .string t39.1.f1.f0, .int .u64 t39.1.f2, .bool t39.1.f3, .int .u64 t39.1.f4], Buf k128 128 A41 c42 t39.1.f0, Ro Kd.str A0 c0 l0, Ro (Kd.int .u8) A1 c1 l1, Blk b25 162 [.slice A26 x6_20.f0.length c27], Ro k128 A26 c27 x6_20.f0, Buf Kd.str 9 A29 c30 x10_20, Buf k54 54 A32 c33 x11_20] e ds As) ?_ ?_
      · by_cases h44 : x12_20 < (l0.length : Int)
        · replace H := g_ift h44 H
          refine SA_condT rfl h44 ?_
          refine SA_seq ?_
          refine SA_region ?_
          refine RA_step rfl (OA_v (v := .string x9_20) rfl (V_move rfl) ?_)
          refine RA_step rfl (OA_v (v := .slice A0 l0.length c0) rfl (V_move rfl) ?_)
          refine RA_step rfl (OA_v (v := .int .i64 x12_20) rfl (V_move rfl) ?_)
          obtain ⟨⟨g45, g46⟩, H⟩ := g_pos H
          refine RA_step rfl (OA_r rfl (VR_index (i := x12_20) Try.underlying105 sz9 rfl rfl (Src.ro (k := 0) rfl) g45 g46) ?_)
          refine RA_step rfl (OA_r rfl (VR_load_el (enc := (fun x_ : ByteArray => [Value.string x_])) (i := x12_20) (j := x12_20.toNat * 1) (m := 0) (sz := 1) Try.underlying9 rfl rfl rfl rfl (Src.ro (k := 0) rfl) g45 g46 (fun _ _ h => h) rfl) ?_)
          obtain ⟨g47, H⟩ := g_pos H
          refine RA_step rfl (OA_v (v := .string (x9_20 ++ (rd l0 x12_20))) rfl (V_addS rfl rfl g47) ?_)
          obtain ⟨n48, hn48, H⟩ := g_lt H
          refine RA_step rfl (OA_v (v := .string n48) rfl (V_assign (v := .string n48) (congrArg (Value.string) hn48.symm)) ?_)
          refine RA_nil ?_
          refine at_normal ?_
          refine SA.fact (cap_of (k := 3) rfl) fun hc49 => ?_
          refine SA.fact (cap_of (k := 6) rfl) fun hc50 => ?_
          refine SA.fact (cap_of (k := 7) rfl) fun hc51 => ?_
          refine SA_region ?_
          refine RA_step rfl (OA_v (v := .pointer (some ⟨b21, 0, none⟩)) rfl (V_move rfl) ?_)
          refine RA_step rfl (OA_v (v := .string n48) rfl (V_move rfl) ?_)
          refine RA_step rfl (OA_v (v := .agg #[.string n48]) rfl (V_build (cells := [.string n48]) zero41 Try.underlying41 plc41 (by kernel_rfl)) ?_)
          obtain ⟨r52, C56, H⟩ := g_bind H
          refine RA_step rfl (OA_callA [2, 3] [0, 1, 4, 5, 6, 7] rfl (X_fn (vs := [.pointer (some ⟨b21, 0, none⟩), .agg #[.string n48]]) Try.func22 nm22 rfl rfl) rfl (F22b0.ok (b0_ := b21) (A0_0 := A22) (c0_0 := c23) (p0 := x5_20) (a1 := (S41.mk n48)) C56) rfl ?_)
          rintro _ _ ⟨A53, c54, rfl, rfl⟩
          refine RA_nil ?_
          have hr_ := Option.some.inj H
          subst hr_
          exact at_normal ⟨b21, A53, c54, St.mk1 (aeq rfl (aeq rfl (aeq rfl (aeq rfl (aeq rfl (aeq rfl (aeq rfl (aeq rfl (aeq rfl (aeq rfl aeq0)))))))))) (Gh.sel [0, 1, 2, 3, 4, 5, 6, 7] rfl rfl)⟩
        replace H := g_iff h44 H
        refine SA_condF rfl h44 ?_
        refine SA_skip ?_
        have hr_ := Option.some.inj H
        subst hr_
        exact at_normal ⟨b21, A22, c23, St.mk1 (aeq rfl (aeq rfl (aeq rfl (aeq rfl (aeq rfl (aeq rfl (aeq rfl (aeq rfl (aeq rfl (aeq rfl aeq0)))))))))) (Gh.sel [2, 3, 0, 1, 4, 5, 6, 7] rfl rfl)⟩
      rintro e ds As ⟨b40, A41, c42, hst57⟩
      clear H
      have H := Bt39
      clear Bt39
      refine at_normal ?_
      refine SA.of_St hst57 fun junk => ?_
      refine SA_seq ?_
      refine SA_region ?_
      refine RA_step rfl (OA_v (v := .int .u64 x7_20) rfl (V_move rfl) ?_)
      refine RA_step rfl (OA_v (v := .slice A1 l1.length c1) rfl (V_move rfl) ?_)
      refine RA_step rfl (OA_v (v := .int .i64 x12_20) rfl (V_move rfl) ?_)
      obtain ⟨⟨g58, g59⟩, H⟩ := g_pos H
      refine RA_step rfl (OA_r rfl (VR_index (i := x12_20) Try.underlying23 sz5 rfl rfl (Src.ro (k := 3) rfl) g58 g59) ?_)
      refine RA_step rfl (OA_r rfl (VR_load_el (enc := (fun x_ : Int => [Value.int .u8 x_])) (i := x12_20) (j := x12_20.toNat * 1) (m := 0) (sz := 1) Try.underlying5 rfl rfl rfl rfl (Src.ro (k := 3) rfl) g58 g59 (fun _ _ h => h) rfl) ?_)
      refine RA_step rfl (OA_v (v := .int .u64 (IntKind.u64.wrap (rd l1 x12_20))) rfl (V_conv (T := 5) (by kernel_rfl) Try.underlying44 rfl) ?_)
      refine RA_step rfl (OA_v (v := .int .u64 (IntKind.u64.wrap (x7_20 + (IntKind.u64.wrap (rd l1 x12_20))))) rfl (V_add rfl rfl) ?_)
      obtain ⟨n60, hn60, H⟩ := g_lt H
      refine RA_step rfl (OA_v (v := .int .u64 n60) rfl (V_assign (v := .int .u64 n60) (congrArg (Value.int .u64) hn60.symm)) ?_)
      refine RA_nil ?_
      refine at_normal ?_
      refine SA_seq ?_
      refine SA.fact (cap_of (k := 1) rfl) fun hc61 => ?_
      refine SA.fact (cap_of (k := 6) rfl) fun hc62 => ?_
      refine SA.fact (cap_of (k := 7) rfl) fun hc63 => ?_
      refine SA_region ?_
      refine RA_step rfl (OA_v (v := .pointer (some ⟨b40, 0, none⟩)) rfl (V_move rfl) ?_)
      refine RA_step rfl (OA_v (v := .int .u64 n60) rfl (V_move rfl) ?_)
      obtain ⟨r64, C1289, H⟩ := g_bind H
      refine RA_step rfl (OA_callA [0, 1] [2, 3, 4, 5, 6, 7] rfl (X_fn (vs := [.pointer (some ⟨b40, 0, none⟩), .int .u64 n60, .int .i64 20, .int .i64 90]) Try.func25 nm25 rfl rfl) rfl (F25b0.ok (b0_ := b40) (A0_0 := A41) (c0_0 := c42) (p0 := t39.1) (a1 := n60) (a2 := 20) (a3 := 90) C1289) rfl ?_)
      rintro _ _ ⟨A65, c66, A68, c69, rfl, rfl⟩
      refine RA_step rfl (OA_v (v := .tuple #[.agg #[.int .u64 r64.1.f0, .int .u64 r64.1.f1, .int .u64 r64.1.f2, .int .u64 r64.1.f3, .slice A65 r64.1.f4.length c66], .bool r64.2.1, .int .i64 r64.2.2.1]) rfl (V_move rfl) ?_)
      refine RA_step rfl (OA_v (v := .agg #[.int .u64 r64.1.f0, .int .u64 r64.1.f1, .int .u64 r64.1.f2, .int .u64 r64.1.f3, .slice A65 r64.1.f4.length c66]) rfl (V_extract rfl rfl) ?_)
      refine RA_step rfl (OA_v (v := .bool r64.2.1) rfl (V_extract rfl rfl) ?_)
      refine RA_step rfl (OA_v (v := .int .i64 r64.2.2.1) rfl (V_extract rfl rfl) ?_)
      refine RA_step rfl (OA_alloc rfl zero54 fun b71 => ?_)
      refine RA_step rfl (OA_st (b := b71) (m := 0) (k := 9) (vs := [.int .u64 r64.1.f0, .int .u64 r64.1.f1, .int .u64 r64.1.f2, .int .u64 r64.1.f3, .slice A65 r64.1.f4.length c66]) (cs' := [.int .u64 r64.1.f0, .int .u64 r64.1.f1, .int .u64 r64.1.f2, .int .u64 r64.1.f3, .slice A65 r64.1.f4.length c66]) rfl rfl rfl rfl rfl rfl sz54 rfl rfl ?_)
      refine RA_step rfl (OA_v (v := .bool r64.2.1) rfl (V_assign rfl) ?_)
      refine RA_step rfl (OA_v (v := .int .i64 r64.2.2.1) rfl (V_assign rfl) ?_)
      refine RA_nil ?_
      refine at_normal ?_
      refine SA_seq ?_
      refine SA_seq ?_
      refine SA_region ?_
      refine RA_step rfl (OA_v (v := .int .i64 r64.2.2.1) rfl (V_move rfl) ?_)
      refine RA_step rfl (OA_v (v := .bool (decide (r64.2.2.1 ≠ 0))) rfl (V_neq rfl rfl) ?_)
      refine RA_nil ?_
      refine at_normal ?_
      by_cases h73 : r64.2.2.1 ≠ 0
      · replace H := g_ift h73 H
        refine SA_condT rfl h73 ?_
        refine SA_seq ?_
        refine SA_region ?_
        refine RA_step rfl (OA_v (v := .bool false) rfl (V_assign rfl) ?_)
        refine RA_nil ?_
        refine at_normal ?_
        refine SA_ret ?_
        refine thn_ret ?_
        refine inb_ret ?_
        refine thn_ret ?_
        refine thn_ret ?_
        refine inb_ret ?_
        refine thn_ret ?_
        refine thn_ret ?_
        have hr_ := Option.some.inj H
        subst hr_
        have hb_ := el_ret Bt19
        have hr_ := Option.some.inj hb_
        clear hb_
        subst hr_
        exact BQ_R1 [] rfl rfl (Gh.sel [] rfl rfl) ⟨rfl, rfl⟩
      replace H := g_iff h73 H
      refine SA_condF rfl h73 ?_
      refine SA_skip ?_
      refine at_normal ?_
      refine SA_seq ?_
      refine SA_seq ?_
      refine SA_region ?_
      refine RA_step rfl (OA_v (v := .bool r64.2.1) rfl (V_move rfl) ?_)
      refine RA_nil ?_
      refine at_normal ?_
      obtain ⟨t74, H, Bt74⟩ := g_bind H
      refine SA_mid (fun e ds As => ∃ (A75 : Option Addr) (c76 : Nat), ∃ (A78 : Option Addr) (c79 : Nat), St [(0, .slice A0 l0.length c0), (1, .slice A1 l1.length c1), (5, .pointer (some ⟨b40, 0, none⟩)), (6, .pointer (some ⟨b25, 0, none⟩)), (7, .int .u64 n60), (8, .int .u64 x8_20), (9, .string t39.2), (10, .slice A75 t74.1.length c76), (11, .slice A78 t74.2.length c79), (12, .int .i64 x12_20)] [Buf Kd.str 9 A75 c76 t74.1, Buf k54 54 A78 c79 t74.2, Ro Kd.str A0 c0 l0, Ro (Kd.int .u8) A1 c1 l1, Blk b40 131 [.slice A68 r64.2.2.2.f0.length c69, .string r64.2.2.2.f1.f0, .int .u64 r64.2.2.2.f2, .bool r64.2.2.2.f3, .int .u64 r64.2.2.2.f4], Buf k128 128 A68 c69 r64.2.2.2.f0, Blk b25 162 [.slice A26 x6_20.f0.length c27], Ro k128 A26 c27 x6_20.f0] e ds As) ?_ ?_
      · by_cases h81 : r64.2.1 = true
        · replace H := g_ift h81 H
          refine SA_condTb rfl h81 ?_
          refine SA_seq ?_
          refine SA_region ?_
          refine RA_step rfl (OA_v (v := .slice A32 x11_20.length c33) rfl (V_move rfl) ?_)
          refine RA_step rfl (OA_r rfl (VR_loadA_blk (b := b71) (m := 0) (k := 9) (vs := [.int .u64 r64.1.f0, .int .u64 r64.1.f1, .int .u64 r64.1.f2, .int .u64 r64.1.f3, .slice A65 r64.1.f4.length c66]) Try.underlying54 rfl sz54 rfl rfl rfl) ?_)
          refine RA_step rfl (OA.ghost (Gh.freeze (k := 0) rfl) (OA_bsN (kd := k54) (zv := (.agg #[.int .u64 0, .int .u64 0, .int .u64 0, .int .u64 0, .slice none 0 0])) (sz := 5) (cells := [.int .u64 r64.1.f0, .int .u64 r64.1.f1, .int .u64 r64.1.f2, .int .u64 r64.1.f3, .slice A65 r64.1.f4.length c66]) (xs := ([r64.1] : (List S54))) rfl Try.underlying108 zero54 sz54 rfl rfl rfl (by kernel_rfl) rfl rfl (fun I_ h_ s_ => RL_cons (kd := k54) (c := [.int .u64 r64.1.f0, .int .u64 r64.1.f1, .int .u64 r64.1.f2, .int .u64 r64.1.f3, .slice A65 r64.1.f4.length c66]) (a := r64.1) ⟨[Ro (Kd.int .u8) A65 c66 r64.1.f4], ⟨A65, c66, rfl, rfl⟩, (Has.cons 0 rfl rfl Has.nil) I_ h_ s_⟩ (rfl)) fun b82 => ?_))
          obtain ⟨g85, H⟩ := g_pos H
          obtain ⟨n88, hn88, H⟩ := g_lt H
          refine RA_step rfl (OA_app (k := 8) (A := A32) (c := c33) (xs := x11_20) (ys := ([r64.1] : (List S54))) n88 hn88 rfl Try.underlying108 inf54 rfl rfl rfl rfl rfl (Yld.slice Try.underlying108 (Src.buf (k := 10) rfl)) (by omega) (by omega) fun A86 c87 => ?_)
          refine RA_step rfl (OA_v (v := .slice A86 n88.length c87) rfl (V_assign rfl) ?_)
          refine RA_nil ?_
          refine at_normal ?_
          refine SA.of_St (l := [(0, .slice A0 l0.length c0), (1, .slice A1 l1.length c1), (5, .pointer (some ⟨b40, 0, none⟩)), (6, .pointer (some ⟨b25, 0, none⟩)), (7, .int .u64 n60), (8, .int .u64 x8_20), (9, .string t39.2), (10, .slice A29 x10_20.length c30), (11, .slice A86 n88.length c87), (12, .int .i64 x12_20), (13, .pointer (some ⟨b71, 0, none⟩))]) (B := [Ro Kd.str A0 c0 l0, Ro (Kd.int .u8) A1 c1 l1, Blk b40 131 [.slice A68 r64.2.2.2.f0.length c69, .string r64.2.2.2.f1.f0, .int .u64 r64.2.2.2.f2, .bool r64.2.2.2.f3, .int .u64 r64.2.2.2.f4], Buf k128 128 A68 c69 r64.2.2.2.f0, Blk b25 162 [.slice A26 x6_20.f0.length c27], Ro k128 A26 c27 x6_20.f0, Buf Kd.str 9 A29 c30 x10_20, Buf k54 54 A86 c87 n88, Blk b71 54 [.int .u64 r64.1.f0, .int .u64 r64.1.f1, .int .u64 r64.1.f2, .int .u64 r64.1.f3, .slice A65 r64.1.f4.length c66], Ro (Kd.int .u8) A65 c66 r64.1.f4]) (St.mk1 (aeq rfl (aeq rfl (aeq rfl (aeq rfl (aeq rfl (aeq rfl (aeq rfl (aeq rfl (aeq rfl (aeq rfl (aeq rfl aeq0))))))))))) (Gh.sel [3, 4, 1, 2, 5, 6, 7, 8, 9, 0] (by kernel_rfl) (by kernel_rfl))) fun junk => ?_
          refine SA_seq ?_
          refine SA_region ?_
          refine RA_step rfl (OA_v (v := .pointer (some ((⟨b71, 0, none⟩ : Addr).add 1))) rfl (V_fieldAddrN (B := ⟨b71, 0, none⟩) (m := 0) (o := 1) Try.underlying54 rfl nz44 rfl rfl) ?_)
          refine RA_step rfl (OA_r rfl (VR_load_blk (b := b71) (m := 1) (k := 8) Try.underlying44 rfl rfl rfl rfl) ?_)
          refine RA_step rfl (OA_v (v := .slice A29 x10_20.length c30) rfl (V_move rfl) ?_)
          refine RA_step rfl (OA_v (v := .int .i64 (x10_20.length : Int)) rfl (V_len Try.underlying105 rfl) ?_)
          refine RA_step rfl (OA_v (v := .int .u64 (IntKind.u64.wrap ((x10_20.length : Int)))) rfl (V_conv (T := 3) (by kernel_rfl) Try.underlying44 rfl) ?_)
          refine RA_step rfl (OA_v (v := .bool (decide (r64.1.f1 = (IntKind.u64.wrap ((x10_20.length : Int)))))) rfl (V_eql rfl rfl) ?_)
          refine RA_nil ?_
          refine at_normal ?_
          by_cases h89 : r64.1.f1 = (IntKind.u64.wrap ((x10_20.length : Int)))
          · replace H := g_ift h89 H
            refine SA_condT rfl h89 ?_
            refine SA_region ?_
            refine RA_step rfl (OA_v (v := .slice A29 x10_20.length c30) rfl (V_move rfl) ?_)
            refine RA_step rfl (OA_v (v := .string t39.2) rfl (V_move rfl) ?_)
            refine RA_step rfl (OA_bs (kd := Kd.str) (zv := (.string ByteArray.empty)) (sz := 1) (cells := [.string t39.2]) (xs := ([t39.2] : (List ByteArray))) rfl Try.underlying105 zero9 sz9 rfl rfl rfl (by kernel_rfl) rfl rfl (RL_enc (fun x_ : ByteArray => [Value.string x_]) (fun _ _ => rfl) (by kernel_rfl)) fun b90 => ?_)
            obtain ⟨g93, H⟩ := g_pos H
            obtain ⟨n96, hn96, H⟩ := g_lt H
            refine RA_step rfl (OA_app (k := 6) (A := A29) (c := c30) (xs := x10_20) (ys := ([t39.2] : (List ByteArray))) n96 hn96 rfl Try.underlying105 inf9 rfl rfl rfl rfl rfl (Yld.slice Try.underlying105 (Src.buf (k := 10) rfl)) (by omega) (by omega) fun A94 c95 => ?_)
            refine RA_step rfl (OA_v (v := .slice A94 n96.length c95) rfl (V_assign rfl) ?_)
            refine RA_nil ?_
            have hr_ := Option.some.inj H
            subst hr_
            exact at_normal ⟨A94, c95, A86, c87, St.mk1 (aeq rfl (aeq rfl (aeq rfl (aeq rfl (aeq rfl (aeq rfl (aeq rfl (aeq rfl (aeq rfl (aeq rfl aeq0)))))))))) (Gh.sel [6, 7, 0, 1, 2, 3, 4, 5] rfl rfl)⟩
          replace H := g_iff h89 H
          refine SA_condF rfl h89 ?_
          refine SA_skip ?_
          have hr_ := Option.some.inj H
          subst hr_
          exact at_normal ⟨A29, c30, A86, c87, St.mk1 (aeq rfl (aeq rfl (aeq rfl (aeq rfl (aeq rfl (aeq rfl (aeq rfl (aeq rfl (aeq rfl (aeq rfl aeq0)))))))))) (Gh.sel [6, 7, 0, 1, 2, 3, 4, 5] rfl rfl)⟩
        replace H := g_iff h81 H
        refine SA_condFb rfl h81 ?_
        refine SA_skip ?_
        have hr_ := Option.some.inj H
        subst hr_
        exact at_normal ⟨A29, c30, A32, c33, St.mk1 (aeq rfl (aeq rfl (aeq rfl (aeq rfl (aeq rfl (aeq rfl (aeq rfl (aeq rfl (aeq rfl (aeq rfl aeq0)))))))))) (Gh.sel [7, 8, 3, 4, 1, 2, 5, 6] rfl rfl)⟩
      rintro e ds As ⟨A75, c76, A78, c79, hst97⟩
      clear H
      have H := Bt74
      clear Bt74
      refine at_normal ?_
      refine SA.of_St hst97 fun junk => ?_
      refine SA_seq ?_
      refine SA_seq ?_
      refine SA_region ?_
      refine RA_step rfl (OA_v (v := .slice A78 t74.2.length c79) rfl (V_move rfl) ?_)
      refine RA_step rfl (OA_v (v := .int .i64 (t74.2.length : Int)) rfl (V_len Try.underlying108 rfl) ?_)
      refine RA_step rfl (OA_v (v := .bool (decide ((t74.2.length : Int) > 0))) rfl (V_gtr rfl rfl) ?_)
      refine RA_step rfl (OA_v (v := .bool (decide ((t74.2.length : Int) > 0))) rfl (V_move rfl) ?_)
      obtain ⟨q98, H, Bq98⟩ := g_bind H
      refine RA_cut 7 (fun e ds As => St [(0, .slice A0 l0.length c0), (1, .slice A1 l1.length c1), (5, .pointer (some ⟨b40, 0, none⟩)), (6, .pointer (some ⟨b25, 0, none⟩)), (7, .int .u64 n60), (8, .int .u64 x8_20), (9, .string t39.2), (10, .slice A75 t74.1.length c76), (11, .slice A78 t74.2.length c79), (12, .int .i64 x12_20), (90, .bool q98)] [Ro Kd.str A0 c0 l0, Ro (Kd.int .u8) A1 c1 l1, Blk b40 131 [.slice A68 r64.2.2.2.f0.length c69, .string r64.2.2.2.f1.f0, .int .u64 r64.2.2.2.f2, .bool r64.2.2.2.f3, .int .u64 r64.2.2.2.f4], Buf k128 128 A68 c69 r64.2.2.2.f0, Blk b25 162 [.slice A26 x6_20.f0.length c27], Ro k128 A26 c27 x6_20.f0, Buf Kd.str 9 A75 c76 t74.1, Buf k54 54 A78 c79 t74.2] e ds As) ?_ ?_
      · by_cases h99 : (t74.2.length : Int) > 0
        · replace H := g_ift h99 H
          refine RA_yesB rfl rfl rfl rfl (dec_t h99) (OA_v (v := .slice A1 l1.length c1) rfl (V_move rfl) ?_)
          refine RA_yesB rfl rfl rfl rfl (dec_t h99) (OA_v (v := .int .i64 x12_20) rfl (V_move rfl) ?_)
          obtain ⟨⟨g100, g101⟩, H⟩ := g_pos H
          refine RA_yesB rfl rfl rfl rfl (dec_t h99) (OA_r rfl (VR_index (i := x12_20) Try.underlying23 sz5 rfl rfl (Src.ro (k := 3) rfl) g100 g101) ?_)
          refine RA_yesB rfl rfl rfl rfl (dec_t h99) (OA_r rfl (VR_load_el (enc := (fun x_ : Int => [Value.int .u8 x_])) (i := x12_20) (j := x12_20.toNat * 1) (m := 0) (sz := 1) Try.underlying5 rfl rfl rfl rfl (Src.ro (k := 3) rfl) g100 g101 (fun _ _ h => h) rfl) ?_)
          refine RA_yesB rfl rfl rfl rfl (dec_t h99) (OA_v (v := .int .u8 ((rd l1 x12_20).tmod 3)) rfl (V_rem rfl rfl (by decide)) ?_)
          refine RA_yesB rfl rfl rfl rfl (dec_t h99) (OA_v (v := .bool (decide (((rd l1 x12_20).tmod 3) > 0))) rfl (V_gtr rfl rfl) ?_)
          refine RA_step rfl (OA_v rfl (V_pickT rfl (dec_t h99) rfl) ?_)
          have hr_ := Option.some.inj H
          subst hr_
          refine RA_nil ?_
          exact at_normal (St.mk1 (aeq rfl (aeq rfl (aeq rfl (aeq rfl (aeq rfl (aeq rfl (aeq rfl (aeq rfl (aeq rfl (aeq rfl (aeq rfl aeq0))))))))))) (Gh.sel [2, 3, 4, 5, 6, 7, 0, 1] rfl rfl))
        replace H := g_iff h99 H
        refine RA_noB rfl rfl rfl rfl (dec_f h99) rfl ?_
        refine RA_noB rfl rfl rfl rfl (dec_f h99) rfl ?_
        refine RA_noB rfl rfl rfl rfl (dec_f h99) rfl ?_
        refine RA_noB rfl rfl rfl rfl (dec_f h99) rfl ?_
        refine RA_noB rfl rfl rfl rfl (dec_f h99) rfl ?_
        refine RA_noB rfl rfl rfl rfl (dec_f h99) rfl ?_
        refine RA_step rfl (OA_v rfl (V_pickF rfl (dec_f h99) rfl) ?_)
        have hr_ := Option.some.inj H
        subst hr_
        refine RA_nil ?_
        exact at_normal (St.mk1 (aeq rfl (aeq rfl (aeq rfl (aeq rfl (aeq rfl (aeq rfl (aeq rfl (aeq rfl (aeq rfl (aeq rfl (aeq rfl aeq0))))))))))) (Gh.sel [2, 3, 4, 5, 6, 7, 0, 1] rfl rfl))
      rintro e ds As hst102
      clear H
      have H := Bq98
      clear Bq98
      refine RA_nil ?_
      refine at_normal ?_
      refine SA.of_St hst102 fun junk => ?_
      obtain ⟨t103, H, Bt103⟩ := g_bind H
      refine SA_mid (fun e ds As => ∃ (b104 : Nat), ∃ (A105 : Option Addr) (c106 : Nat), St [(0, .slice A0 l0.length c0), (1, .slice A1 l1.length c1), (5, .pointer (some ⟨b40, 0, none⟩)), (6, .pointer (some ⟨b104, 0, none⟩)), (7, .int .u64 n60), (8, .int .u64 x8_20), (9, .string t39.2), (10, .slice A75 t74.1.length c76), (11, .slice A78 t74.2.length c79), (12, .int .i64 x12_20)] [Blk b104 162 [.slice A105 t103.f0.length c106], Ro k128 A105 c106 t103.f0, Ro Kd.str A0 c0 l0, Ro (Kd.int .u8) A1 c1 l1, Blk b40 131 [.slice A68 r64.2.2.2.f0.length c69, .string r64.2.2.2.f1.f0, .int .u64 r64.2.2.2.f2, .bool r64.2.2.2.f3, .int .u64 r64.2.2.2.f4], Buf k128 128 A68 c69 r64.2.2.2.f0, Buf Kd.str 9 A75 c76 t74.1, Buf k54 54 A78 c79 t74.2] e ds As) ?_ ?_
      · by_cases h108 : q98 = true
        · replace H := g_ift h108 H
          refine SA_condTb rfl h108 ?_
          refine SA.fact (cap_of (k := 3) rfl) fun hc109 => ?_
          refine SA.fact (cap_of (k := 6) rfl) fun hc110 => ?_
          refine SA.fact (cap_of (k := 7) rfl) fun hc111 => ?_
          refine SA_region ?_
          refine RA_step rfl (OA_v (v := .pointer (some ⟨b25, 0, none⟩)) rfl (V_move rfl) ?_)
          refine RA_step rfl (OA_v (v := .slice A78 t74.2.length c79) rfl (V_move rfl) ?_)
          refine RA_step rfl (OA_v (v := .slice A1 l1.length c1) rfl (V_move rfl) ?_)
          refine RA_step rfl (OA_v (v := .int .i64 x12_20) rfl (V_move rfl) ?_)
          obtain ⟨⟨g112, g113⟩, H⟩ := g_pos H
          refine RA_step rfl (OA_r rfl (VR_index (i := x12_20) Try.underlying23 sz5 rfl rfl (Src.ro (k := 1) rfl) g112 g113) ?_)
          refine RA_step rfl (OA_r rfl (VR_load_el (enc := (fun x_ : Int => [Value.int .u8 x_])) (i := x12_20) (j := x12_20.toNat * 1) (m := 0) (sz := 1) Try.underlying5 rfl rfl rfl rfl (Src.ro (k := 1) rfl) g112 g113 (fun _ _ h => h) rfl) ?_)
          refine RA_step rfl (OA_v (v := .int .i64 (IntKind.i64.wrap (rd l1 x12_20))) rfl (V_conv (T := 5) (by kernel_rfl) Try.underlying3 rfl) ?_)
          refine RA_step rfl (OA_v (v := .int .i64 (IntKind.i64.wrap ((IntKind.i64.wrap (rd l1 x12_20)) * 7))) rfl (V_mul rfl rfl) ?_)
          refine RA_step rfl (OA_v (v := .int .i64 x12_20) rfl (V_move rfl) ?_)
          refine RA_step rfl (OA_v (v := .int .i64 (IntKind.i64.wrap ((IntKind.i64.wrap ((IntKind.i64.wrap (rd l1 x12_20)) * 7)) + x12_20))) rfl (V_add rfl rfl) ?_)
          refine RA_step rfl (OA_v (v := .slice A78 t74.2.length c79) rfl (V_move rfl) ?_)
          refine RA_step rfl (OA_v (v := .int .i64 (t74.2.length : Int)) rfl (V_len Try.underlying108 rfl) ?_)
          obtain ⟨g114, H⟩ := g_pos H
          refine RA_step rfl (OA_v (v := .int .i64 ((IntKind.i64.wrap ((IntKind.i64.wrap ((IntKind.i64.wrap (rd l1 x12_20)) * 7)) + x12_20)).tmod (t74.2.length : Int))) rfl (V_rem rfl rfl g114) ?_)
          obtain ⟨⟨g115, g116⟩, H⟩ := g_pos H
          refine RA_step rfl (OA_r rfl (VR_index (i := (IntKind.i64.wrap ((IntKind.i64.wrap ((IntKind.i64.wrap (rd l1 x12_20)) * 7)) + x12_20)).tmod (t74.2.length : Int)) Try.underlying108 sz54 rfl rfl (Src.buf (k := 7) rfl) g115 g116) ?_)
          refine RA_step rfl (OA_loadSlA (i := (IntKind.i64.wrap ((IntKind.i64.wrap ((IntKind.i64.wrap (rd l1 x12_20)) * 7)) + x12_20)).tmod (t74.2.length : Int)) (j := ((IntKind.i64.wrap ((IntKind.i64.wrap ((IntKind.i64.wrap (rd l1 x12_20)) * 7)) + x12_20)).tmod (t74.2.length : Int)).toNat * 5) (m := 0) (sz := 5) (k := 5) (fun vs_ Bs_ => ∃ (A117 : Option Addr) (c118 : Nat), vs_ = [.int .u64 ((rd t74.2 ((IntKind.i64.wrap ((IntKind.i64.wrap ((IntKind.i64.wrap (rd l1 x12_20)) * 7)) + x12_20)).tmod (t74.2.length : Int))).f0), .int .u64 ((rd t74.2 ((IntKind.i64.wrap ((IntKind.i64.wrap ((IntKind.i64.wrap (rd l1 x12_20)) * 7)) + x12_20)).tmod (t74.2.length : Int))).f1), .int .u64 ((rd t74.2 ((IntKind.i64.wrap ((IntKind.i64.wrap ((IntKind.i64.wrap (rd l1 x12_20)) * 7)) + x12_20)).tmod (t74.2.length : Int))).f2), .int .u64 ((rd t74.2 ((IntKind.i64.wrap ((IntKind.i64.wrap ((IntKind.i64.wrap (rd l1 x12_20)) * 7)) + x12_20)).tmod (t74.2.length : Int))).f3), .slice A117 ((rd t74.2 ((IntKind.i64.wrap ((IntKind.i64.wrap ((IntKind.i64.wrap (rd l1 x12_20)) * 7)) + x12_20)).tmod (t74.2.length : Int))).f4).length c118] ∧ Bs_ = [Ro (Kd.int .u8) A117 c118 ((rd t74.2 ((IntKind.i64.wrap ((IntKind.i64.wrap ((IntKind.i64.wrap (rd l1 x12_20)) * 7)) + x12_20)).tmod (t74.2.length : Int))).f4)]) rfl Try.underlying54 rfl sz54 rfl rfl rfl (Src.buf (k := 7) rfl) g115 g116 (fun _ _ ⟨_, ⟨A117, c118, e_, eb_⟩, hp_⟩ => ⟨_, ⟨A117, c118, by subst e_; rfl, rfl⟩, fun B_ hB_ => hp_ B_ (by subst eb_; first | exact hB_ | (simp only [List.mem_cons, List.not_mem_nil, or_false] at hB_ ⊢; first | exact hB_ | simp [hB_]))⟩) (fun _ _ ⟨_, _, e_, _⟩ => by subst e_; rfl) ?_)
          rintro _ _ ⟨A117, c118, rfl, rfl⟩
          obtain ⟨r120, C124, H⟩ := g_bind H
          refine RA_step rfl (OA_callA [4, 5, 8] [0, 1, 2, 3, 5, 6, 7, 8] rfl (X_fn (vs := [.pointer (some ⟨b25, 0, none⟩), .agg #[.int .u64 ((rd t74.2 ((IntKind.i64.wrap ((IntKind.i64.wrap ((IntKind.i64.wrap (rd l1 x12_20)) * 7)) + x12_20)).tmod (t74.2.length : Int))).f0), .int .u64 ((rd t74.2 ((IntKind.i64.wrap ((IntKind.i64.wrap ((IntKind.i64.wrap (rd l1 x12_20)) * 7)) + x12_20)).tmod (t74.2.length : Int))).f1), .int .u64 ((rd t74.2 ((IntKind.i64.wrap ((IntKind.i64.wrap ((IntKind.i64.wrap (rd l1 x12_20)) * 7)) + x12_20)).tmod (t74.2.length : Int))).f2), .int .u64 ((rd t74.2 ((IntKind.i64.wrap ((IntKind.i64.wrap ((IntKind.i64.wrap (rd l1 x12_20)) * 7)) + x12_20)).tmod (t74.2.length : Int))).f3), .slice A117 ((rd t74.2 ((IntKind.i64.wrap ((IntKind.i64.wrap ((IntKind.i64.wrap (rd l1 x12_20)) * 7)) + x12_20)).tmod (t74.2.length : Int))).f4).length c118]]) Try.func52 nm52 rfl rfl) rfl (F52.ok (b0_ := b25) (A0_0 := A26) (c0_0 := c27) (p0 := x6_20) (a1 := (rd t74.2 ((IntKind.i64.wrap ((IntKind.i64.wrap ((IntKind.i64.wrap (rd l1 x12_20)) * 7)) + x12_20)).tmod (t74.2.length : Int)))) (A1_0 := A117) (c1_0 := c118) C124) rfl ?_)
          rintro _ _ ⟨A121, c122, rfl, rfl⟩
          refine RA_nil ?_
          have hr_ := Option.some.inj H
          subst hr_
          exact at_normal ⟨b25, A121, c122, St.mk1 (aeq rfl (aeq rfl (aeq rfl (aeq rfl (aeq rfl (aeq rfl (aeq rfl (aeq rfl (aeq rfl (aeq rfl aeq0)))))))))) (Gh.sel [0, 1, 2, 3, 4, 5, 7, 8] rfl rfl)⟩
        replace H := g_iff h108 H
        refine SA_condFb rfl h108 ?_
        refine SA_skip ?_
        have hr_ := Option.some.inj H
        subst hr_
        exact at_normal ⟨b25, A26, c27, St.mk1 (aeq rfl (aeq rfl (aeq rfl (aeq rfl (aeq rfl (aeq rfl (aeq rfl (aeq rfl (aeq rfl (aeq rfl aeq0)))))))))) (Gh.sel [4, 5, 0, 1, 2, 3, 6, 7] rfl rfl)⟩
      rintro e ds As ⟨b104, A105, c106, hst125⟩
      clear H
      have H := Bt103
      clear Bt103
      refine at_normal ?_
      refine SA.of_St hst125 fun junk => ?_
      refine SA_seq ?_
      refine SA.fact (cap_of (k := 5) rfl) fun hc126 => ?_
      refine SA.fact (cap_of (k := 6) rfl) fun hc127 => ?_
      refine SA.fact (cap_of (k := 7) rfl) fun hc128 => ?_
      refine SA_region ?_
      refine RA_step rfl (OA_v (v := .pointer (some ⟨b104, 0, none⟩)) rfl (V_move rfl) ?_)
      obtain ⟨r129, C1288, H⟩ := g_bind H
      refine RA_step rfl (OA_callA [0, 1] [1, 2, 3, 4, 5, 6, 7] rfl (X_fn (vs := [.pointer (some ⟨b104, 0, none⟩)]) Try.func53 nm53 rfl rfl) rfl (F53.ok (b0_ := b104) (A0_0 := A105) (c0_0 := c106) (p0 := t103) C1288) rfl ?_)
      rintro _ _ ⟨rfl, rfl⟩
      refine RA_step rfl (OA_v (v := .tuple #[.int .u64 r129.1, .agg #[.string r129.2.f0]]) rfl (V_move rfl) ?_)
      refine RA_step rfl (OA_v (v := .int .u64 r129.1) rfl (V_extract rfl rfl) ?_)
      refine RA_step rfl (OA_v (v := .agg #[.string r129.2.f0]) rfl (V_extract rfl rfl) ?_)
      refine RA_step rfl (OA_alloc rfl zero41 fun b130 => ?_)
      refine RA_step rfl (OA_v (v := .int .u64 r129.1) rfl (V_assign rfl) ?_)
      refine RA_step rfl (OA_st (b := b130) (m := 0) (k := 8) (vs := [.string r129.2.f0]) (cs' := [.string r129.2.f0]) rfl rfl rfl rfl rfl rfl sz41 rfl rfl ?_)
      refine RA_nil ?_
      refine at_normal ?_
      refine SA_seq ?_
      refine SA_seq ?_
      obtain ⟨t132, H, Bt132⟩ := g_bind H
      refine SA_mid (fun e ds As => St [(0, .slice A0 l0.length c0), (1, .slice A1 l1.length c1), (5, .pointer (some ⟨b40, 0, none⟩)), (6, .pointer (some ⟨b104, 0, none⟩)), (7, .int .u64 n60), (9, .string t39.2), (10, .slice A75 t74.1.length c76), (11, .slice A78 t74.2.length c79), (12, .int .i64 x12_20), (16, .int .u64 r129.1), (130, .bool t132)] [Ro Kd.str A0 c0 l0, Ro (Kd.int .u8) A1 c1 l1, Blk b40 131 [.slice A68 r64.2.2.2.f0.length c69, .string r64.2.2.2.f1.f0, .int .u64 r64.2.2.2.f2, .bool r64.2.2.2.f3, .int .u64 r64.2.2.2.f4], Buf k128 128 A68 c69 r64.2.2.2.f0, Blk b104 162 [.slice A105 t103.f0.length c106], Ro k128 A105 c106 t103.f0, Buf Kd.str 9 A75 c76 t74.1, Buf k54 54 A78 c79 t74.2] e ds As) ?_ ?_
      · refine SA_drawHq (0 :: 1 :: 2 :: 3 :: 4 :: 5 :: 6 :: 7 :: 8 :: 9 :: 10 :: 11 :: 12 :: 13 :: 14 :: 15 :: 16 :: 17 :: 18 :: []) (List.toArray ([] :: [] :: [0, 1] :: [0, 1, 2] :: [0, 1, 2, 3] :: [0, 1, 2, 3] :: [0, 1, 2, 3, 5] :: [0, 1, 2, 3, 5, 6] :: [0, 1, 2, 3, 4, 5, 6, 7] :: [0, 1, 2, 3, 4, 5, 6, 7, 8] :: [0, 1, 2, 3, 4, 5, 6, 7, 8, 9] :: [0, 1, 2, 3, 4, 5, 6, 7, 8, 9, 10] :: [0, 1, 2, 3, 4, 5, 6, 7, 8, 9, 10, 11] :: [0, 1, 2, 3, 4, 5, 6, 7, 8, 9, 10] :: [0, 1, 2, 3, 4, 5, 6, 7, 8, 9, 10] :: (0 :: 1 :: 2 :: 3 :: 4 :: 5 :: 6 :: 7 :: 8 :: 9 :: 10 :: 13 :: 14 :: []) :: (0 :: 1 :: 2 :: 3 :: 4 :: 5 :: 6 :: 7 :: 8 :: 9 :: 10 :: 13 :: 14 :: 15 :: []) :: (0 :: 1 :: 2 :: 3 :: 4 :: 5 :: 6 :: 7 :: 8 :: 9 :: 10 :: 11 :: 12 :: 13 :: 14 :: 15 :: 16 :: []) :: (0 :: 1 :: 2 :: 3 :: 4 :: 5 :: 6 :: 7 :: 8 :: 9 :: 10 :: 11 :: 12 :: 13 :: 14 :: 15 :: 16 :: 17 :: []) :: [])) [1, 2, 3, 6, 8] [0, 1, 2, 3, 4, 5, 7] mixed rfl rfl rfl (PanOk.thn (PanOk.thn (PanOk.thn (PanOk.inb (PanOk.thn (PanOk.thn (PanOk.inb (PanOk.thn (PanOk.thn PanOk.body))))))))) fun I0 hS h0 hh0 w0 sH dd pk => ?_
        refine DH_take (v := .int .u64 r129.1) 0 (by kernel_rfl) rfl rfl (.no rfl) pk sH rfl (VR.ofV (V_move rfl)) ?_
        refine DH_take (v := .int .u64 x8_20) 1 (by kernel_rfl) rfl rfl (.no rfl) pk sH rfl (VR.ofV (V_move rfl)) ?_
        refine DH_take (v := .bool (decide (r129.1 < x8_20))) 2 (by kernel_rfl) rfl rfl (.no rfl) pk sH rfl (VR.ofV (V_lss rfl rfl)) ?_
        refine DH_take (v := .bool (decide (r129.1 < x8_20))) 3 (by kernel_rfl) rfl rfl (.no rfl) pk sH rfl (VR.ofV (V_move rfl)) ?_
        by_cases h1274 : r129.1 < x8_20
        · replace H := g_ift h1274 H
          refine DH_skip 4 (by kernel_rfl) rfl rfl (.no rfl rfl rfl rfl (dec_t h1274)) pk rfl ?_
          refine DH_skip 5 (by kernel_rfl) rfl rfl (.no rfl rfl rfl rfl (dec_t h1274)) pk rfl ?_
          refine DH_skip 6 (by kernel_rfl) rfl rfl (.no rfl rfl rfl rfl (dec_t h1274)) pk rfl ?_
          refine DH_skip 7 (by kernel_rfl) rfl rfl (.no rfl rfl rfl rfl (dec_t h1274)) pk rfl ?_
          refine DH_skip 8 (by kernel_rfl) rfl rfl (.no rfl rfl rfl rfl (dec_t h1274)) pk rfl ?_
          refine DH_take 9 (by kernel_rfl) rfl rfl (.no rfl) pk sH rfl (VR.ofV (V_pickT rfl (dec_t h1274) rfl)) ?_
          refine DH_take (v := .bool true) 10 (by kernel_rfl) rfl rfl (.no rfl) pk sH rfl (VR.ofV (V_move rfl)) ?_
          refine DH_skip 11 (by kernel_rfl) rfl rfl (.no rfl rfl rfl rfl (rfl)) pk rfl ?_
          refine DH_skip 12 (by kernel_rfl) rfl rfl (.no rfl rfl rfl rfl (rfl)) pk rfl ?_
          refine DH_skip 13 (by kernel_rfl) rfl rfl (.no rfl rfl rfl rfl (rfl)) pk rfl ?_
          refine DH_skip 14 (by kernel_rfl) rfl rfl (.no rfl rfl rfl rfl (rfl)) pk rfl ?_
          refine DH_skip 15 (by kernel_rfl) rfl rfl (.no rfl rfl rfl rfl (rfl)) pk rfl ?_
          refine DH_skip 16 (by kernel_rfl) rfl rfl (.no rfl rfl rfl rfl (rfl)) pk rfl ?_
          refine DH_skip 17 (by kernel_rfl) rfl rfl (.no rfl rfl rfl rfl (rfl)) pk rfl ?_
          refine DH_take 18 (by kernel_rfl) rfl rfl (.no rfl) pk sH rfl (VR.ofV (V_pickT rfl (rfl) rfl)) ?_
          refine DH_open dd sH ?_
          refine DN_done (by kernel_rfl) ?_
          have hr_ := Option.some.inj H
          subst hr_
          exact at_normal (St.mk1 (aeq rfl (aeq rfl (aeq rfl (aeq rfl (aeq rfl (aeq rfl (aeq rfl (aeq rfl (aeq rfl (aeq rfl (aeq rfl aeq0))))))))))) (Gh.sel [1, 2, 9, 10, 5, 0, 3, 11] rfl rfl))
        replace H := g_iff h1274 H
        refine DH_take (v := .int .u64 r129.1) 4 (by kernel_rfl) rfl rfl (.yes rfl rfl rfl rfl (dec_f h1274)) pk sH rfl (VR.ofV (V_move rfl)) ?_
        refine DH_take (v := .slice A75 t74.1.length c76) 5 (by kernel_rfl) rfl rfl (.yes rfl rfl rfl rfl (dec_f h1274)) pk sH rfl (VR.ofV (V_move rfl)) ?_
        refine DH_take (v := .int .i64 (t74.1.length : Int)) 6 (by kernel_rfl) rfl rfl (.yes rfl rfl rfl rfl (dec_f h1274)) pk sH rfl (VR.ofV (V_len Try.underlying105 rfl)) ?_
        refine DH_take (v := .int .u64 (IntKind.u64.wrap ((t74.1.length : Int)))) 7 (by kernel_rfl) rfl rfl (.yes rfl rfl rfl rfl (dec_f h1274)) pk sH rfl (VR.ofV (V_conv (T := 3) (by kernel_rfl) Try.underlying44 rfl)) ?_
        refine DH_take (v := .bool (decide (r129.1 ≥ (IntKind.u64.wrap ((t74.1.length : Int)))))) 8 (by kernel_rfl) rfl rfl (.yes rfl rfl rfl rfl (dec_f h1274)) pk sH rfl (VR.ofV (V_geq rfl rfl)) ?_
        refine DH_take 9 (by kernel_rfl) rfl rfl (.no rfl) pk sH rfl (VR.ofV (V_pickF rfl (dec_f h1274) rfl)) ?_
        refine DH_take (v := .bool (decide (r129.1 ≥ (IntKind.u64.wrap ((t74.1.length : Int)))))) 10 (by kernel_rfl) rfl rfl (.no rfl) pk sH rfl (VR.ofV (V_move rfl)) ?_
        by_cases h1275 : r129.1 ≥ (IntKind.u64.wrap ((t74.1.length : Int)))
        · replace H := g_ift h1275 H
          refine DH_skip 11 (by kernel_rfl) rfl rfl (.no rfl rfl rfl rfl (dec_t h1275)) pk rfl ?_
          refine DH_skip 12 (by kernel_rfl) rfl rfl (.no rfl rfl rfl rfl (dec_t h1275)) pk rfl ?_
          refine DH_skip 13 (by kernel_rfl) rfl rfl (.no rfl rfl rfl rfl (dec_t h1275)) pk rfl ?_
          refine DH_skip 14 (by kernel_rfl) rfl rfl (.no rfl rfl rfl rfl (dec_t h1275)) pk rfl ?_
          refine DH_skip 15 (by kernel_rfl) rfl rfl (.no rfl rfl rfl rfl (dec_t h1275)) pk rfl ?_
          refine DH_skip 16 (by kernel_rfl) rfl rfl (.no rfl rfl rfl rfl (dec_t h1275)) pk rfl ?_
          refine DH_skip 17 (by kernel_rfl) rfl rfl (.no rfl rfl rfl rfl (dec_t h1275)) pk rfl ?_
          refine DH_take 18 (by kernel_rfl) rfl rfl (.no rfl) pk sH rfl (VR.ofV (V_pickT rfl (dec_t h1275) rfl)) ?_
          refine DH_open dd sH ?_
          refine DN_done (by kernel_rfl) ?_
          have hr_ := Option.some.inj H
          subst hr_
          exact at_normal (St.mk1 (aeq rfl (aeq rfl (aeq rfl (aeq rfl (aeq rfl (aeq rfl (aeq rfl (aeq rfl (aeq rfl (aeq rfl (aeq rfl aeq0))))))))))) (Gh.sel [1, 2, 9, 10, 5, 0, 3, 11] rfl rfl))
        replace H := g_iff h1275 H
        refine DH_take (v := .pointer (some ⟨b130, 0, none⟩)) 11 (by kernel_rfl) rfl rfl (.yes rfl rfl rfl rfl (dec_f h1275)) pk sH rfl (VR.ofV (V_fieldAddrN (B := ⟨b130, 0, none⟩) (m := 0) (o := 0) Try.underlying41 rfl nz9 rfl rfl)) ?_
        refine DH_take 12 (by kernel_rfl) rfl rfl (.yes rfl rfl rfl rfl (dec_f h1275)) pk sH rfl (VR_load_blk (b := b130) (m := 0) (k := 4) Try.underlying9 rfl rfl rfl rfl) ?_
        refine DH_take (v := .slice A75 t74.1.length c76) 13 (by kernel_rfl) rfl rfl (.yes rfl rfl rfl rfl (dec_f h1275)) pk sH rfl (VR.ofV (V_move rfl)) ?_
        refine DH_take (v := .int .u64 r129.1) 14 (by kernel_rfl) rfl rfl (.yes rfl rfl rfl rfl (dec_f h1275)) pk sH rfl (VR.ofV (V_move rfl)) ?_
        obtain ⟨⟨g1033, g1034⟩, H⟩ := g_pos H
        refine DH_take 15 (by kernel_rfl) rfl rfl (.yes rfl rfl rfl rfl (dec_f h1275)) pk sH rfl (VR_index (i := r129.1) Try.underlying105 sz9 rfl rfl (Src.buf (k := 3) rfl) g1033 g1034) ?_
        refine DH_take 16 (by kernel_rfl) rfl rfl (.yes rfl rfl rfl rfl (dec_f h1275)) pk sH rfl (VR_load_el (enc := (fun x_ : ByteArray => [Value.string x_])) (i := r129.1) (j := r129.1.toNat * 1) (m := 0) (sz := 1) Try.underlying9 rfl rfl rfl rfl (Src.buf (k := 3) rfl) g1033 g1034 (fun _ _ h => h) rfl) ?_
        refine DH_take (v := .bool (decide (r129.2.f0 ≠ (rd t74.1 r129.1)))) 17 (by kernel_rfl) rfl rfl (.yes rfl rfl rfl rfl (dec_f h1275)) pk sH rfl (VR.ofV (V_neqS rfl rfl)) ?_
        refine DH_take 18 (by kernel_rfl) rfl rfl (.no rfl) pk sH rfl (VR.ofV (V_pickF rfl (dec_f h1275) rfl)) ?_
        refine DH_open dd sH ?_
        refine DN_done (by kernel_rfl) ?_
        have hr_ := Option.some.inj H
        subst hr_
        exact at_normal (St.mk1 (aeq rfl (aeq rfl (aeq rfl (aeq rfl (aeq rfl (aeq rfl (aeq rfl (aeq rfl (aeq rfl (aeq rfl (aeq rfl aeq0))))))))))) (Gh.sel [1, 2, 9, 10, 5, 0, 3, 11] rfl rfl))
      rintro e ds As hst1276
      clear H
      have H := Bt132
      clear Bt132
      refine at_normal ?_
      refine SA.of_St hst1276 fun junk => ?_
      by_cases h1277 : t132 = true
      · replace H := g_ift h1277 H
        refine SA_condTb rfl h1277 ?_
        refine SA_seq ?_
        refine SA_region ?_
        refine RA_step rfl (OA_v (v := .bool false) rfl (V_assign rfl) ?_)
        refine RA_nil ?_
        refine at_normal ?_
        refine SA_ret ?_
        refine thn_ret ?_
        refine inb_ret ?_
        refine thn_ret ?_
        refine thn_ret ?_
        refine inb_ret ?_
        refine thn_ret ?_
        refine thn_ret ?_
        have hr_ := Option.some.inj H
        subst hr_
        have hb_ := el_ret Bt19
        have hr_ := Option.some.inj hb_
        clear hb_
        subst hr_
        exact BQ_R1 [] rfl rfl (Gh.sel [] rfl rfl) ⟨rfl, rfl⟩
      replace H := g_iff h1277 H
      refine SA_condFb rfl h1277 ?_
      refine SA_skip ?_
      refine at_normal ?_
      refine SA_seq ?_
      refine SA_region ?_
      refine RA_step rfl (OA_v (v := .int .u64 r129.1) rfl (V_move rfl) ?_)
      refine RA_step rfl (OA_v (v := .int .u64 r129.1) rfl (V_assign rfl) ?_)
      refine RA_nil ?_
      refine at_normal ?_
      refine SA_seq ?_
      refine SA_region ?_
      refine RA_step rfl (OA_v (v := .slice A1 l1.length c1) rfl (V_move rfl) ?_)
      refine RA_step rfl (OA_v (v := .int .i64 x12_20) rfl (V_move rfl) ?_)
      obtain ⟨⟨g1278, g1279⟩, H⟩ := g_pos H
      refine RA_step rfl (OA_r rfl (VR_index (i := x12_20) Try.underlying23 sz5 rfl rfl (Src.ro (k := 1) rfl) g1278 g1279) ?_)
      refine RA_step rfl (OA_r rfl (VR_load_el (enc := (fun x_ : Int => [Value.int .u8 x_])) (i := x12_20) (j := x12_20.toNat * 1) (m := 0) (sz := 1) Try.underlying5 rfl rfl rfl rfl (Src.ro (k := 1) rfl) g1278 g1279 (fun _ _ h => h) rfl) ?_)
      refine RA_step rfl (OA_v (v := .int .u8 ((rd l1 x12_20).tmod 5)) rfl (V_rem rfl rfl (by decide)) ?_)
      refine RA_step rfl (OA_v (v := .bool (decide (((rd l1 x12_20).tmod 5) = 0))) rfl (V_eql rfl rfl) ?_)
      refine RA_nil ?_
      refine at_normal ?_
      by_cases h1280 : ((rd l1 x12_20).tmod 5) = 0
      · replace H := g_ift h1280 H
        refine SA_condT rfl h1280 ?_
        refine SA_region ?_
        refine RA_step rfl (OA_v (v := .pointer (some ⟨b40, 0, none⟩)) rfl (V_move rfl) ?_)
        refine RA_step rfl (OA_v (v := .int .u64 r129.1) rfl (V_move rfl) ?_)
        obtain ⟨r1281, C1286, H⟩ := g_bind H
        refine RA_step rfl (OA_callA [2, 3] [0, 1, 4, 5, 6, 7] rfl (X_fn (vs := [.pointer (some ⟨b40, 0, none⟩), .int .u64 r129.1]) Try.func23 nm23 rfl rfl) rfl (F23b0.ok (b0_ := b40) (A0_0 := A68) (c0_0 := c69) (p0 := r64.2.2.2) (a1 := r129.1) C1286) rfl ?_)
        rintro _ _ ⟨A1282, c1283, rfl, rfl⟩
        refine RA_nil ?_
        refine inb_normal ?_
        refine at_normal ?_
        refine SA_region ?_
        refine RA_step rfl (OA_v (v := .int .i64 x12_20) rfl (V_move rfl) ?_)
        refine RA_step rfl (OA_v (v := .int .i64 (IntKind.i64.wrap (x12_20 + 1))) rfl (V_add rfl rfl) ?_)
        obtain ⟨n1285, hn1285, H⟩ := g_lt H
        refine RA_step rfl (OA_v (v := .int .i64 n1285) rfl (V_assign (v := .int .i64 n1285) (congrArg (Value.int .i64) hn1285.symm)) ?_)
        refine RA_nil ?_
        exact at_normal ⟨k36, Nat.lt_succ_self _, _, _, _, _, _, _, _, _, b40, A1282, c1283, b104, A105, c106, A75, c76, A78, c79, H, St.mk1 (aeq rfl (aeq rfl (aeq rfl (aeq rfl (aeq rfl (aeq rfl (aeq rfl (aeq rfl (aeq rfl (aeq rfl aeq0)))))))))) (Gh.sel [2, 3, 0, 1, 4, 5, 6, 7] rfl rfl)⟩
      replace H := g_iff h1280 H
      refine SA_condF rfl h1280 ?_
      refine SA_skip ?_
      refine inb_normal ?_
      refine at_normal ?_
      refine SA_region ?_
      refine RA_step rfl (OA_v (v := .int .i64 x12_20) rfl (V_move rfl) ?_)
      refine RA_step rfl (OA_v (v := .int .i64 (IntKind.i64.wrap (x12_20 + 1))) rfl (V_add rfl rfl) ?_)
      obtain ⟨n1287, hn1287, H⟩ := g_lt H
      refine RA_step rfl (OA_v (v := .int .i64 n1287) rfl (V_assign (v := .int .i64 n1287) (congrArg (Value.int .i64) hn1287.symm)) ?_)
      refine RA_nil ?_
      exact at_normal ⟨k36, Nat.lt_succ_self _, _, _, _, _, _, _, _, _, b40, A68, c69, b104, A105, c106, A75, c76, A78, c79, H, St.mk1 (aeq rfl (aeq rfl (aeq rfl (aeq rfl (aeq rfl (aeq rfl (aeq rfl (aeq rfl (aeq rfl (aeq rfl aeq0)))))))))) (Gh.sel [0, 1, 2, 3, 4, 5, 6, 7] rfl rfl)⟩
    replace H := g_iff h38 H
    refine SA_condF rfl h38 ?_
    refine SA_exit ?_
    refine thn_exit ?_
    refine thn_exit ?_
    refine inb_hit ?_
    have hr_ := Option.some.inj H
    subst hr_
    exact at_normal ⟨(), rfl, St.mk1 aeq0 (Gh.sel [] rfl rfl)⟩
  rintro e ds As ⟨s20, ht, hst1290⟩
  clear H
  subst ht
  replace Bt19 := el_go Bt19
  have H := Bt19
  clear Bt19
  refine at_normal ?_
  refine SA.of_St hst1290 fun junk => ?_
  refine SA_seq ?_
  refine SA_region ?_
  obtain ⟨r1291, C1292, H⟩ := g_bind H
  refine RA_step rfl (OA_callA [] [] rfl (X_fn (vs := []) Try.func29 nm29 rfl rfl) rfl (F29.ok C1292) rfl ?_)
  rintro _ _ ⟨rfl, rfl⟩
  refine RA_step rfl (OA_v (v := .bool r1291) rfl (V_assign rfl) ?_)
  refine RA_nil ?_
  refine at_normal ?_
  refine SA_ret ?_
  have hr_ := Option.some.inj H
  subst hr_
  exact BQ_R1 [] rfl rfl (Gh.sel [] rfl rfl) ⟨rfl, rfl⟩
end Go.Proofs.Ytodkeoibebimgaa.Sq

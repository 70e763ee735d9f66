/- What functions compute, and that they do: 104, 109w3, 112, 72, 76, 80, 80b0, 81w0, 85, 86, 87w0. -/
import Derived.Test.YtodkeoibebimgaaGr0
import Derived.Test.YtodkeoibebimgaaGr1
import Derived.Test.YtodkeoibebimgaaGr2
namespace Go.Proofs.Ytodkeoibebimgaa.Gr
open Go Go.RowKit Go.Proofs.Ytodkeoibebimgaa.SL
set_option linter.unusedVariables false
set_option linter.unusedSimpArgs false
attribute [local irreducible] IntKind.wrap minI maxI shrI shlI andI orI xorI andNotI cplI rd sub bytesOf strOf slA
/-! ### function 104: slices.Clone[[]wayfarer/api.Cell,wayfarer/api.Cell] -/
def F104.f (l0 : (List S76)) : Option ((List S76)) := if ([] : (List S76)).length + l0.length ≤ 2932031007402 then lt (([] : (List S76)) ++ l0) fun n9 => (some (n9)) else none
set_option maxHeartbeats 2000000 in
set_option maxRecDepth 100000 in
theorem F104.ok {l0 : (List S76)} {A0 : Option Addr} {c0 : Nat} {r : (List S76)} (H : F104.f l0 = some r) : SCA Try.prog 104 #[.slice A0 l0.length c0] [Ro k76 A0 c0 l0] (fun v B => ∃ (A0_0_ : Option Addr) (c0_0_ : Nat), v = .slice A0_0_ r.length c0_0_ ∧ B = [Buf k76 76 A0_0_ c0_0_ r]) := by
  refine SCA_of_body Try.func104 rfl rfl ?_
  unfold F104.f at H
  refine SA_seq ?_
  refine SA_region ?_
  refine RA_step rfl (OA_v (v := .slice none 0 0) rfl (V_assign rfl) ?_)
  refine RA_nil ?_
  refine at_normal ?_
  refine SA_seq ?_
  refine SA_seq ?_
  refine SA_region ?_
  refine RA_step rfl (OA_v (v := .slice A0 l0.length c0) rfl (V_move rfl) ?_)
  refine RA_step rfl (OA_v (v := .bool A0.isNone) rfl (V_eqlNil Try.underlying65 rfl rfl) ?_)
  refine RA_nil ?_
  refine at_normal ?_
  by_cases h2 : A0 = none
  · subst h2
    refine SA_nilRo (k := 0) rfl fun e_ => ?_
    subst e_
    replace H := g_nil (x := some (([] : (List S76)))) H (by simp [lt])
    refine SA_condTb rfl rfl ?_
    refine SA_seq ?_
    refine SA_region ?_
    refine RA_step rfl (OA_v (v := .slice none 0 0) rfl (V_assign rfl) ?_)
    refine RA_nil ?_
    refine at_normal ?_
    refine SA_ret ?_
    refine thn_ret ?_
    have hr_ := Option.some.inj H
    subst hr_
    exact BQ_R1 [Buf k76 76 none 0 ([] : (List S76))] rfl rfl ((Gh.nilBuf k76 76).trans (Gh.sel [1] rfl rfl)) ⟨none, 0, rfl, rfl⟩
  obtain ⟨a_, rfl⟩ := Option.ne_none_iff_exists'.1 h2
  refine SA_condFb rfl (by first | decide | simp) ?_
  refine SA_skip ?_
  refine at_normal ?_
  refine SA_seq ?_
  refine SA_region ?_
  refine RA_step rfl (OA_bs (kd := k76) (zv := (.agg (List.toArray (.int .i32 0 :: .int .i32 0 :: .int .i32 0 :: .int .i32 0 :: .int .u8 0 :: .int .i64 0 :: .int .i64 0 :: .bool false :: .bool false :: .bool false :: .bool false :: .bool false :: .bool false :: .bool false :: .bool false :: [])))) (sz := 15) (cells := []) (xs := ([] : (List S76))) rfl Try.underlying65 zero76 sz76 rfl rfl rfl (by kernel_rfl) rfl rfl (RL_enc enc76 (fun _ _ => rfl) (by kernel_rfl)) fun b3 => ?_)
  refine RA_step rfl (OA_v (v := .slice (some a_) l0.length c0) rfl (V_move rfl) ?_)
  obtain ⟨g6, H⟩ := g_pos H
  obtain ⟨n9, hn9, H⟩ := g_lt H
  refine RA_step rfl (OA_app (k := 1) (A := some ⟨b3, 0, none⟩) (c := 0) (xs := ([] : (List S76))) (ys := l0) n9 hn9 rfl Try.underlying65 inf76 rfl rfl rfl rfl rfl (Yld.slice Try.underlying65 (Src.ro (k := 0) rfl)) (by omega) (by omega) fun A7 c8 => ?_)
  refine RA_step rfl (OA_v (v := .slice A7 n9.length c8) rfl (V_assign rfl) ?_)
  refine RA_nil ?_
  refine at_normal ?_
  refine SA_ret ?_
  have hr_ := Option.some.inj H
  subst hr_
  exact BQ_R1 [Buf k76 76 A7 c8 n9] rfl rfl (Gh.sel [1] rfl rfl) ⟨A7, c8, rfl, rfl⟩

/-! ### function 72: wayfarer/grid.Copy -/
def F72.f (a0 : S67) : Option (S67) := (F104.f a0.f2).bind (fun r6 => some ((S67.mk a0.f0 a0.f1 r6)))
set_option maxHeartbeats 2000000 in
set_option maxRecDepth 100000 in
theorem F72.ok {a0 : S67} {A0_0 : Option Addr} {c0_0 : Nat} {r : S67} (H : F72.f a0 = some r) : SCA Try.prog 72 #[.agg #[.int .i64 a0.f0, .int .i64 a0.f1, .slice A0_0 a0.f2.length c0_0]] [Ro k76 A0_0 c0_0 a0.f2] (fun v B => ∃ (A0_0_ : Option Addr) (c0_0_ : Nat), v = .agg #[.int .i64 r.f0, .int .i64 r.f1, .slice A0_0_ r.f2.length c0_0_] ∧ B = [Buf k76 76 A0_0_ c0_0_ r.f2]) := by
  refine SCA_of_body Try.func72 rfl rfl ?_
  unfold F72.f at H
  refine SA_seq ?_
  refine SA_region ?_
  refine RA_step rfl (OA_box rfl rfl fun b2 => ?_)
  refine RA_step rfl (OA_alloc rfl zero67 fun b4 => ?_)
  refine RA_nil ?_
  refine at_normal ?_
  refine SA_seq ?_
  refine SA_region ?_
  refine RA_step rfl (OA_v (v := .pointer (some ((⟨b2, 0, none⟩ : Addr).add 2))) rfl (V_fieldAddrN (B := ⟨b2, 0, none⟩) (m := 0) (o := 2) Try.underlying67 rfl nz65 rfl rfl) ?_)
  refine RA_step rfl (OA_r rfl (VR_load_blk (b := b2) (m := 2) (k := 1) Try.underlying65 rfl rfl rfl rfl) ?_)
  obtain ⟨r6, C10, H⟩ := g_bind H
  refine RA_step rfl (OA_callA [0] [0, 1, 2] rfl (X_fn (vs := [.slice A0_0 a0.f2.length c0_0]) Try.func104 nm104 rfl rfl) rfl (F104.ok (l0 := a0.f2) (A0 := A0_0) (c0 := c0_0) C10) rfl ?_)
  rintro _ _ ⟨A7, c8, rfl, rfl⟩
  refine RA_step rfl (OA_v (v := .pointer (some ((⟨b2, 0, none⟩ : Addr).add 2))) rfl (V_fieldAddrN (B := ⟨b2, 0, none⟩) (m := 0) (o := 2) Try.underlying67 rfl nz65 rfl rfl) ?_)
  refine RA_step rfl (OA_st (b := b2) (m := 2) (k := 2) (vs := [.slice A7 r6.length c8]) (cs' := [.int .i64 a0.f0, .int .i64 a0.f1, .slice A7 r6.length c8]) rfl rfl rfl rfl rfl rfl sz65 rfl rfl ?_)
  refine RA_nil ?_
  refine at_normal ?_
  refine SA_seq ?_
  refine SA_region ?_
  refine RA_step rfl (OA_r rfl (VR_loadA_blk (b := b2) (m := 0) (k := 2) (vs := [.int .i64 a0.f0, .int .i64 a0.f1, .slice A7 r6.length c8]) Try.underlying67 rfl sz67 rfl rfl rfl) ?_)
  refine RA_step rfl (OA_st (b := b4) (m := 0) (k := 3) (vs := [.int .i64 a0.f0, .int .i64 a0.f1, .slice A7 r6.length c8]) (cs' := [.int .i64 a0.f0, .int .i64 a0.f1, .slice A7 r6.length c8]) rfl rfl rfl rfl rfl rfl sz67 rfl rfl ?_)
  refine RA_nil ?_
  refine at_normal ?_
  refine SA_ret ?_
  have hr_ := Option.some.inj H
  subst hr_
  exact BQ_RL (rs := [.cell 2 67]) (vs := [.agg #[.int .i64 a0.f0, .int .i64 a0.f1, .slice A7 r6.length c8]]) [Buf k76 76 A7 c8 r6] rfl ⟨RV.cell (k := 3) rfl rfl Try.underlying67 rfl sz67, trivial⟩ rfl (Gh.sel [0] rfl rfl) ⟨A7, c8, rfl, rfl⟩

/-! ### function 80: wayfarer/grid.At -/
def F80.f (p0 : S67) (a1 : Int) : Option ((List S76)) := lt (IntKind.i64.wrap (a1 * p0.f0)) fun n3 => if 0 ≤ n3 ∧ n3 ≤ (IntKind.i64.wrap (n3 + p0.f0)) ∧ (IntKind.i64.wrap (n3 + p0.f0)) ≤ (p0.f2.length : Int) ∧ (IntKind.i64.wrap (n3 + p0.f0)) ≤ (IntKind.i64.wrap (n3 + p0.f0)) ∧ (IntKind.i64.wrap (n3 + p0.f0)) ≤ (p0.f2.length : Int) then lt (sub p0.f2 n3 (IntKind.i64.wrap (n3 + p0.f0))) fun n1030 => (some (n1030)) else none
set_option maxHeartbeats 2000000 in
set_option maxRecDepth 100000 in
theorem F80.ok {p0 : S67} {a1 : Int} {b0_ : Nat} {A0_0 : Option Addr} {c0_0 : Nat} {r : (List S76)} (H : F80.f p0 a1 = some r) : SCA Try.prog 80 #[.pointer (some ⟨b0_, 0, none⟩), .int .i64 a1] [Blk b0_ 67 [.int .i64 p0.f0, .int .i64 p0.f1, .slice A0_0 p0.f2.length c0_0], Ro k76 A0_0 c0_0 p0.f2] (fun v B => ∃ (A0_0_ : Option Addr) (c0_0_ : Nat), v = .slice A0_0_ r.length c0_0_ ∧ B = [Ro k76 A0_0_ c0_0_ r, Blk b0_ 67 [.int .i64 p0.f0, .int .i64 p0.f1, .slice A0_0 p0.f2.length c0_0]]) := by
  refine SCA_of_body Try.func80 rfl rfl ?_
  unfold F80.f at H
  refine SA_seq ?_
  refine SA_region ?_
  refine RA_step rfl (OA_v (v := .slice none 0 0) rfl (V_assign rfl) ?_)
  refine RA_nil ?_
  refine at_normal ?_
  refine SA_seq ?_
  refine SA_region ?_
  refine RA_step rfl (OA_v (v := .int .i64 a1) rfl (V_move rfl) ?_)
  refine RA_step rfl (OA_v (v := .pointer (some ⟨b0_, 0, none⟩)) rfl (V_move rfl) ?_)
  refine RA_step rfl (OA_v (v := .pointer (some ⟨b0_, 0, none⟩)) rfl (V_nilCheck rfl) ?_)
  refine RA_step rfl (OA_v (v := .pointer (some ⟨b0_, 0, none⟩)) rfl (V_fieldAddrN (B := ⟨b0_, 0, none⟩) (m := 0) (o := 0) Try.underlying67 rfl nz3 rfl rfl) ?_)
  refine RA_step rfl (OA_r rfl (VR_load_blk (b := b0_) (m := 0) (k := 0) Try.underlying3 rfl rfl rfl rfl) ?_)
  refine RA_step rfl (OA_v (v := .int .i64 (IntKind.i64.wrap (a1 * p0.f0))) rfl (V_mul rfl rfl) ?_)
  obtain ⟨n3, hn3, H⟩ := g_lt H
  refine RA_step rfl (OA_v (v := .int .i64 n3) rfl (V_assign (v := .int .i64 n3) (congrArg (Value.int .i64) hn3.symm)) ?_)
  refine RA_nil ?_
  refine at_normal ?_
  refine SA_seq ?_
  refine SA_drawHq (0 :: 1 :: 2 :: 3 :: 4 :: 5 :: 6 :: 7 :: 8 :: 9 :: 10 :: 11 :: 12 :: 13 :: 14 :: 15 :: 16 :: 17 :: 18 :: []) (List.toArray ([] :: [0] :: [0, 1] :: [0, 1, 2] :: [] :: [] :: [] :: [6] :: [6, 7] :: [6, 7, 8] :: [5, 6, 7, 8, 9] :: [] :: [] :: [12] :: [12, 13] :: [12, 13, 14] :: [11, 12, 13, 14, 15] :: (0 :: 1 :: 2 :: 3 :: 4 :: 5 :: 6 :: 7 :: 8 :: 9 :: 10 :: 11 :: 12 :: 13 :: 14 :: 15 :: 16 :: []) :: (0 :: 1 :: 2 :: 3 :: 4 :: 5 :: 6 :: 7 :: 8 :: 9 :: 10 :: 11 :: 12 :: 13 :: 14 :: 15 :: 16 :: 17 :: []) :: [])) [0, 1] [1] mixed rfl rfl rfl (PanOk.thn PanOk.body) fun I0 hS h0 hh0 w0 sH dd pk => ?_
  refine DH_take (v := .pointer (some ⟨b0_, 0, none⟩)) 0 (by kernel_rfl) rfl rfl (.no rfl) pk sH rfl (VR.ofV (V_move rfl)) ?_
  refine DH_take (v := .pointer (some ⟨b0_, 0, none⟩)) 1 (by kernel_rfl) rfl rfl (.no rfl) pk sH rfl (VR.ofV (V_nilCheck rfl)) ?_
  refine DH_take (v := .pointer (some ((⟨b0_, 0, none⟩ : Addr).add 2))) 2 (by kernel_rfl) rfl rfl (.no rfl) pk sH rfl (VR.ofV (V_fieldAddrN (B := ⟨b0_, 0, none⟩) (m := 0) (o := 2) Try.underlying67 rfl nz65 rfl rfl)) ?_
  refine DH_take 3 (by kernel_rfl) rfl rfl (.no rfl) pk sH rfl (VR_load_blk (b := b0_) (m := 2) (k := 0) Try.underlying65 rfl rfl rfl rfl) ?_
  refine DH_take (v := .int .i64 n3) 4 (by kernel_rfl) rfl rfl (.no rfl) pk sH rfl (VR.ofV (V_move rfl)) ?_
  refine DH_take (v := .int .i64 n3) 5 (by kernel_rfl) rfl rfl (.no rfl) pk sH rfl (VR.ofV (V_move rfl)) ?_
  refine DH_take (v := .pointer (some ⟨b0_, 0, none⟩)) 6 (by kernel_rfl) rfl rfl (.no rfl) pk sH rfl (VR.ofV (V_move rfl)) ?_
  refine DH_take (v := .pointer (some ⟨b0_, 0, none⟩)) 7 (by kernel_rfl) rfl rfl (.no rfl) pk sH rfl (VR.ofV (V_nilCheck rfl)) ?_
  refine DH_take (v := .pointer (some ⟨b0_, 0, none⟩)) 8 (by kernel_rfl) rfl rfl (.no rfl) pk sH rfl (VR.ofV (V_fieldAddrN (B := ⟨b0_, 0, none⟩) (m := 0) (o := 0) Try.underlying67 rfl nz3 rfl rfl)) ?_
  refine DH_take 9 (by kernel_rfl) rfl rfl (.no rfl) pk sH rfl (VR_load_blk (b := b0_) (m := 0) (k := 0) Try.underlying3 rfl rfl rfl rfl) ?_
  refine DH_take (v := .int .i64 (IntKind.i64.wrap (n3 + p0.f0))) 10 (by kernel_rfl) rfl rfl (.no rfl) pk sH rfl (VR.ofV (V_add rfl rfl)) ?_
  refine DH_take (v := .int .i64 n3) 11 (by kernel_rfl) rfl rfl (.no rfl) pk sH rfl (VR.ofV (V_move rfl)) ?_
  refine DH_take (v := .pointer (some ⟨b0_, 0, none⟩)) 12 (by kernel_rfl) rfl rfl (.no rfl) pk sH rfl (VR.ofV (V_move rfl)) ?_
  refine DH_take (v := .pointer (some ⟨b0_, 0, none⟩)) 13 (by kernel_rfl) rfl rfl (.no rfl) pk sH rfl (VR.ofV (V_nilCheck rfl)) ?_
  refine DH_take (v := .pointer (some ⟨b0_, 0, none⟩)) 14 (by kernel_rfl) rfl rfl (.no rfl) pk sH rfl (VR.ofV (V_fieldAddrN (B := ⟨b0_, 0, none⟩) (m := 0) (o := 0) Try.underlying67 rfl nz3 rfl rfl)) ?_
  refine DH_take 15 (by kernel_rfl) rfl rfl (.no rfl) pk sH rfl (VR_load_blk (b := b0_) (m := 0) (k := 0) Try.underlying3 rfl rfl rfl rfl) ?_
  refine DH_take (v := .int .i64 (IntKind.i64.wrap (n3 + p0.f0))) 16 (by kernel_rfl) rfl rfl (.no rfl) pk sH rfl (VR.ofV (V_add rfl rfl)) ?_
  obtain ⟨⟨g1024, g1025, g1026, g1027, g1028⟩, H⟩ := g_pos H
  obtain ⟨n1030, hn1030, H⟩ := g_lt H
  replace sH := held (GP.subN (k := 1) (l := n3) (h := IntKind.i64.wrap (n3 + p0.f0)) (m := IntKind.i64.wrap (n3 + p0.f0)) (sz := 15) hn1030 rfl rfl g1024 g1025 g1026 (.inr g1027)) sH
  refine DH_dup 2 sH rfl rfl ?_
  refine DH_take 17 (by kernel_rfl) rfl rfl (.no rfl) pk sH rfl (VR_sub (k := 1) (l := n3) (h := IntKind.i64.wrap (n3 + p0.f0)) (m := IntKind.i64.wrap (n3 + p0.f0)) hn1030 rfl Try.underlying65 sz76 rfl rfl rfl rfl (.inr ⟨_, rfl⟩) (.inr ⟨_, rfl⟩) (.inr ⟨⟨_, rfl⟩, ⟨_, rfl⟩, g1027, g1028⟩) g1024 g1025 g1026) ?_
  refine DH_take (v := .slice (slA A0_0 n3 (IntKind.i64.wrap (n3 + p0.f0)) 15) n1030.length ((IntKind.i64.wrap (n3 + p0.f0)).toNat - n3.toNat)) 18 (by kernel_rfl) rfl rfl (.no rfl) pk sH rfl (VR.ofV (V_assign rfl)) ?_
  refine DH_open dd sH ?_
  refine DN_done (by kernel_rfl) ?_
  refine at_normal ?_
  refine SA_ret ?_
  have hr_ := Option.some.inj H
  subst hr_
  exact BQ_R1 [Ro k76 (slA A0_0 n3 (IntKind.i64.wrap (n3 + p0.f0)) 15) ((IntKind.i64.wrap (n3 + p0.f0)).toNat - n3.toNat) n1030, Blk b0_ 67 [.int .i64 p0.f0, .int .i64 p0.f1, .slice A0_0 p0.f2.length c0_0]] rfl rfl (Gh.sel [2, 0] rfl rfl) ⟨slA A0_0 n3 (IntKind.i64.wrap (n3 + p0.f0)) 15, (IntKind.i64.wrap (n3 + p0.f0)).toNat - n3.toNat, rfl, rfl⟩

/-! ### function 80: wayfarer/grid.At -/
def F80b0.f (p0 : S67) (a1 : Int) : Option ((Int × Int)) := lt (IntKind.i64.wrap (a1 * p0.f0)) fun n3 => if 0 ≤ n3 ∧ n3 ≤ (IntKind.i64.wrap (n3 + p0.f0)) ∧ (IntKind.i64.wrap (n3 + p0.f0)) ≤ (p0.f2.length : Int) ∧ (IntKind.i64.wrap (n3 + p0.f0)) ≤ (IntKind.i64.wrap (n3 + p0.f0)) ∧ (IntKind.i64.wrap (n3 + p0.f0)) ≤ (p0.f2.length : Int) then (some (((0 + n3 : Int), ((IntKind.i64.wrap (n3 + p0.f0)) - n3 : Int)))) else none
set_option maxHeartbeats 2000000 in
set_option maxRecDepth 100000 in
theorem F80b0.ok {p0 : S67} {a1 : Int} {b0_ : Nat} {A0_0 : Option Addr} {c0_0 : Nat} {r : (Int × Int)} (H : F80b0.f p0 a1 = some r) : SCA Try.prog 80 #[.pointer (some ⟨b0_, 0, none⟩), .int .i64 a1] [Blk b0_ 67 [.int .i64 p0.f0, .int .i64 p0.f1, .slice A0_0 p0.f2.length c0_0], Buf k76 76 A0_0 c0_0 p0.f2] (fun v B => ∃ (V0_ : Option Addr) (v0_ : Nat) (_ : Win A0_0 V0_ 15 r.1 r.2 v0_), v = .slice V0_ r.2.toNat v0_ ∧ B = [Blk b0_ 67 [.int .i64 p0.f0, .int .i64 p0.f1, .slice A0_0 p0.f2.length c0_0], Buf k76 76 A0_0 c0_0 p0.f2]) := by
  refine SCA_of_body Try.func80 rfl rfl ?_
  unfold F80b0.f at H
  refine SA_seq ?_
  refine SA_region ?_
  refine RA_step rfl (OA_v (v := .slice none 0 0) rfl (V_assign rfl) ?_)
  refine RA_nil ?_
  refine at_normal ?_
  refine SA_seq ?_
  refine SA_region ?_
  refine RA_step rfl (OA_v (v := .int .i64 a1) rfl (V_move rfl) ?_)
  refine RA_step rfl (OA_v (v := .pointer (some ⟨b0_, 0, none⟩)) rfl (V_move rfl) ?_)
  refine RA_step rfl (OA_v (v := .pointer (some ⟨b0_, 0, none⟩)) rfl (V_nilCheck rfl) ?_)
  refine RA_step rfl (OA_v (v := .pointer (some ⟨b0_, 0, none⟩)) rfl (V_fieldAddrN (B := ⟨b0_, 0, none⟩) (m := 0) (o := 0) Try.underlying67 rfl nz3 rfl rfl) ?_)
  refine RA_step rfl (OA_r rfl (VR_load_blk (b := b0_) (m := 0) (k := 0) Try.underlying3 rfl rfl rfl rfl) ?_)
  refine RA_step rfl (OA_v (v := .int .i64 (IntKind.i64.wrap (a1 * p0.f0))) rfl (V_mul rfl rfl) ?_)
  obtain ⟨n3, hn3, H⟩ := g_lt H
  refine RA_step rfl (OA_v (v := .int .i64 n3) rfl (V_assign (v := .int .i64 n3) (congrArg (Value.int .i64) hn3.symm)) ?_)
  refine RA_nil ?_
  refine at_normal ?_
  refine SA_seq ?_
  refine SA.fact (cap_of (k := 1) rfl) fun hc4 => ?_
  refine SA_drawHq (0 :: 1 :: 2 :: 3 :: 4 :: 5 :: 6 :: 7 :: 8 :: 9 :: 10 :: 11 :: 12 :: 13 :: 14 :: 15 :: 16 :: 17 :: 18 :: []) (List.toArray ([] :: [0] :: [0, 1] :: [0, 1, 2] :: [] :: [] :: [] :: [6] :: [6, 7] :: [6, 7, 8] :: [5, 6, 7, 8, 9] :: [] :: [] :: [12] :: [12, 13] :: [12, 13, 14] :: [11, 12, 13, 14, 15] :: (0 :: 1 :: 2 :: 3 :: 4 :: 5 :: 6 :: 7 :: 8 :: 9 :: 10 :: 11 :: 12 :: 13 :: 14 :: 15 :: 16 :: []) :: (0 :: 1 :: 2 :: 3 :: 4 :: 5 :: 6 :: 7 :: 8 :: 9 :: 10 :: 11 :: 12 :: 13 :: 14 :: 15 :: 16 :: 17 :: []) :: [])) [0] [1] mixed rfl rfl rfl (PanOk.thn PanOk.body) fun I0 hS h0 hh0 w0 sH dd pk => ?_
  refine DH_take (v := .pointer (some ⟨b0_, 0, none⟩)) 0 (by kernel_rfl) rfl rfl (.no rfl) pk sH rfl (VR.ofV (V_move rfl)) ?_
  refine DH_take (v := .pointer (some ⟨b0_, 0, none⟩)) 1 (by kernel_rfl) rfl rfl (.no rfl) pk sH rfl (VR.ofV (V_nilCheck rfl)) ?_
  refine DH_take (v := .pointer (some ((⟨b0_, 0, none⟩ : Addr).add 2))) 2 (by kernel_rfl) rfl rfl (.no rfl) pk sH rfl (VR.ofV (V_fieldAddrN (B := ⟨b0_, 0, none⟩) (m := 0) (o := 2) Try.underlying67 rfl nz65 rfl rfl)) ?_
  refine DH_take 3 (by kernel_rfl) rfl rfl (.no rfl) pk sH rfl (VR_load_blk (b := b0_) (m := 2) (k := 0) Try.underlying65 rfl rfl rfl rfl) ?_
  refine DH_take (v := .int .i64 n3) 4 (by kernel_rfl) rfl rfl (.no rfl) pk sH rfl (VR.ofV (V_move rfl)) ?_
  refine DH_take (v := .int .i64 n3) 5 (by kernel_rfl) rfl rfl (.no rfl) pk sH rfl (VR.ofV (V_move rfl)) ?_
  refine DH_take (v := .pointer (some ⟨b0_, 0, none⟩)) 6 (by kernel_rfl) rfl rfl (.no rfl) pk sH rfl (VR.ofV (V_move rfl)) ?_
  refine DH_take (v := .pointer (some ⟨b0_, 0, none⟩)) 7 (by kernel_rfl) rfl rfl (.no rfl) pk sH rfl (VR.ofV (V_nilCheck rfl)) ?_
  refine DH_take (v := .pointer (some ⟨b0_, 0, none⟩)) 8 (by kernel_rfl) rfl rfl (.no rfl) pk sH rfl (VR.ofV (V_fieldAddrN (B := ⟨b0_, 0, none⟩) (m := 0) (o := 0) Try.underlying67 rfl nz3 rfl rfl)) ?_
  refine DH_take 9 (by kernel_rfl) rfl rfl (.no rfl) pk sH rfl (VR_load_blk (b := b0_) (m := 0) (k := 0) Try.underlying3 rfl rfl rfl rfl) ?_
  refine DH_take (v := .int .i64 (IntKind.i64.wrap (n3 + p0.f0))) 10 (by kernel_rfl) rfl rfl (.no rfl) pk sH rfl (VR.ofV (V_add rfl rfl)) ?_
  refine DH_take (v := .int .i64 n3) 11 (by kernel_rfl) rfl rfl (.no rfl) pk sH rfl (VR.ofV (V_move rfl)) ?_
  refine DH_take (v := .pointer (some ⟨b0_, 0, none⟩)) 12 (by kernel_rfl) rfl rfl (.no rfl) pk sH rfl (VR.ofV (V_move rfl)) ?_
  refine DH_take (v := .pointer (some ⟨b0_, 0, none⟩)) 13 (by kernel_rfl) rfl rfl (.no rfl) pk sH rfl (VR.ofV (V_nilCheck rfl)) ?_
  refine DH_take (v := .pointer (some ⟨b0_, 0, none⟩)) 14 (by kernel_rfl) rfl rfl (.no rfl) pk sH rfl (VR.ofV (V_fieldAddrN (B := ⟨b0_, 0, none⟩) (m := 0) (o := 0) Try.underlying67 rfl nz3 rfl rfl)) ?_
  refine DH_take 15 (by kernel_rfl) rfl rfl (.no rfl) pk sH rfl (VR_load_blk (b := b0_) (m := 0) (k := 0) Try.underlying3 rfl rfl rfl rfl) ?_
  refine DH_take (v := .int .i64 (IntKind.i64.wrap (n3 + p0.f0))) 16 (by kernel_rfl) rfl rfl (.no rfl) pk sH rfl (VR.ofV (V_add rfl rfl)) ?_
  obtain ⟨⟨g1025, g1026, g1027, g1028, g1029⟩, H⟩ := g_pos H
  refine DH_take (v := .slice (slA A0_0 n3 (IntKind.i64.wrap (n3 + p0.f0)) 15) ((IntKind.i64.wrap (n3 + p0.f0)) - n3).toNat ((IntKind.i64.wrap (n3 + p0.f0)).toNat - n3.toNat)) 17 (by kernel_rfl) rfl rfl (.no rfl) pk sH rfl (VR.ofV (V_sliceW (l := 0) (m := (p0.f2.length : Int)) (a := n3) (b := IntKind.i64.wrap (n3 + p0.f0)) (q := IntKind.i64.wrap (n3 + p0.f0)) (Win.whole (sz := 15) (xs := p0.f2) (c := c0_0) (by omega)) Try.underlying65 sz76 rfl rfl rfl rfl (.inr ⟨_, rfl⟩) (.inr ⟨_, rfl⟩) (.inr ⟨⟨_, rfl⟩, ⟨_, rfl⟩, g1028, g1029⟩) g1025 g1026 g1027)) ?_
  have hW1030 : Win A0_0 (slA A0_0 n3 (IntKind.i64.wrap (n3 + p0.f0)) 15) 15 (0 + n3) ((IntKind.i64.wrap (n3 + p0.f0)) - n3) ((IntKind.i64.wrap (n3 + p0.f0)).toNat - n3.toNat) := Win.sub (Win.whole (sz := 15) (xs := p0.f2) (c := c0_0) (by omega)) g1025 g1026 g1027 (.inr g1028)
  refine DH_take (v := .slice (slA A0_0 n3 (IntKind.i64.wrap (n3 + p0.f0)) 15) ((IntKind.i64.wrap (n3 + p0.f0)) - n3).toNat ((IntKind.i64.wrap (n3 + p0.f0)).toNat - n3.toNat)) 18 (by kernel_rfl) rfl rfl (.no rfl) pk sH rfl (VR.ofV (V_assign rfl)) ?_
  refine DH_open dd sH ?_
  refine DN_done (by kernel_rfl) ?_
  refine at_normal ?_
  refine SA_ret ?_
  have hr_ := Option.some.inj H
  subst hr_
  exact BQ_R1 [Blk b0_ 67 [.int .i64 p0.f0, .int .i64 p0.f1, .slice A0_0 p0.f2.length c0_0], Buf k76 76 A0_0 c0_0 p0.f2] rfl rfl (Gh.sel [0, 1] rfl rfl) ⟨slA A0_0 n3 (IntKind.i64.wrap (n3 + p0.f0)) 15, (IntKind.i64.wrap (n3 + p0.f0)).toNat - n3.toNat, hW1030, rfl, rfl⟩

/-! ### function 76: wayfarer/grid.rowed -/
def F76.f (k : Nat) (a0 : S67) (a1 : Int) (a2 : S70) : Option (S67 × (Int × Int) × Bool) := (F41.f k a0).bind (fun r8 => lt ((!r8) || (decide (a1 < 0))) fun q9 => lt (q9 || (decide (a1 ≥ a0.f1))) fun q12 => (if q12 = true then (some true) else ((F71.f a2).bind (fun r17 => some (!r17))) : Option Bool).bind (fun q15 => if q15 = true then (some (((S67.mk 0 0 ([] : (List S76))), ((0 : Int), (0 : Int)), false))) else ((F72.f a0).bind (fun r22 => (F80b0.f r22 a1).bind (fun r147 => if (0 ≤ r147.1 ∧ 0 ≤ r147.2 ∧ r147.1 + r147.2 ≤ (r22.f2.length : Int)) then (some ((r22, ((r147.1 : Int), (r147.2 : Int)), true))) else none)))))
set_option maxHeartbeats 2000000 in
set_option maxRecDepth 100000 in
theorem F76.ok {k : Nat} {a0 : S67} {a1 : Int} {a2 : S70} {A0_0 : Option Addr} {c0_0 : Nat} {r : S67 × (Int × Int) × Bool} (H : F76.f k a0 a1 a2 = some r) : SCA Try.prog 76 #[.agg #[.int .i64 a0.f0, .int .i64 a0.f1, .slice A0_0 a0.f2.length c0_0], .int .i64 a1, .agg #[.int .i64 a2.f0, .int .i64 a2.f1, .bool a2.f2, .bool a2.f3, .bool a2.f4, .bool a2.f5, .bool a2.f6, .bool a2.f7, .bool a2.f8, .bool a2.f9]] [Ro k76 A0_0 c0_0 a0.f2] (fun v B => ∃ (A0_0_ : Option Addr) (c0_0_ : Nat), ∃ (V1_ : Option Addr) (v1_ : Nat) (_ : Win A0_0_ V1_ 15 r.2.1.1 r.2.1.2 v1_), v = .tuple #[.agg #[.int .i64 r.1.f0, .int .i64 r.1.f1, .slice A0_0_ r.1.f2.length c0_0_], .slice V1_ r.2.1.2.toNat v1_, .bool r.2.2] ∧ B = [Buf k76 76 A0_0_ c0_0_ r.1.f2]) := by
  refine SCA_of_body Try.func76 rfl rfl ?_
  unfold F76.f at H
  refine SA_seq ?_
  refine SA_region ?_
  refine RA_step rfl (OA_box rfl rfl fun b2 => ?_)
  refine RA_step rfl (OA_box rfl rfl fun b4 => ?_)
  refine RA_step rfl (OA_alloc rfl zero67 fun b6 => ?_)
  refine RA_step rfl (OA_v (v := .slice none 0 0) rfl (V_assign rfl) ?_)
  refine RA_step rfl (OA_v (v := .bool false) rfl (V_assign rfl) ?_)
  refine RA_nil ?_
  refine at_normal ?_
  refine SA_seq ?_
  refine SA_seq ?_
  refine SA_region ?_
  refine RA_step rfl (OA_r rfl (VR_loadA_blk (b := b2) (m := 0) (k := 1) (vs := [.int .i64 a0.f0, .int .i64 a0.f1, .slice A0_0 a0.f2.length c0_0]) Try.underlying67 rfl sz67 rfl rfl rfl) ?_)
  obtain ⟨r8, C389, H⟩ := g_bind H
  refine RA_step rfl (OA_callA [0] [0, 1, 2, 3] rfl (X_fn (vs := [.agg #[.int .i64 a0.f0, .int .i64 a0.f1, .slice A0_0 a0.f2.length c0_0]]) Try.func41 nm41 rfl rfl) rfl (F41.ok (a0 := a0) (A0_0 := A0_0) (c0_0 := c0_0) C389) rfl ?_)
  rintro _ _ ⟨rfl, rfl⟩
  refine RA_step rfl (OA_v (v := .bool (!r8)) rfl (V_not rfl) ?_)
  refine RA_step rfl (OA_v (v := .bool (!r8)) rfl (V_move rfl) ?_)
  obtain ⟨q9, hq9, H⟩ := g_lt H
  refine RA_cut 3 (fun e ds As => St [(1, .int .i64 a1), (3, .pointer (some ⟨b2, 0, none⟩)), (5, .pointer (some ⟨b4, 0, none⟩)), (6, .pointer (some ⟨b6, 0, none⟩)), (15, .bool q9)] [Blk b2 67 [.int .i64 a0.f0, .int .i64 a0.f1, .slice A0_0 a0.f2.length c0_0], Ro k76 A0_0 c0_0 a0.f2, Blk b4 70 [.int .i64 a2.f0, .int .i64 a2.f1, .bool a2.f2, .bool a2.f3, .bool a2.f4, .bool a2.f5, .bool a2.f6, .bool a2.f7, .bool a2.f8, .bool a2.f9], Blk b6 67 [.int .i64 0, .int .i64 0, .slice none 0 0]] e ds As) ?_ ?_
  · by_cases h10 : (!r8) = true
    · refine RA_noB rfl rfl rfl rfl (h10) rfl ?_
      refine RA_noB rfl rfl rfl rfl (h10) rfl ?_
      refine RA_step rfl (OA_v rfl (V_pickT rfl (h10) rfl) ?_)
      refine RA_nil ?_
      exact at_normal (St.mk1 (aeq rfl (aeq rfl (aeq rfl (aeq rfl (aeq (congrArg Value.bool (or_t hq9 (h10))) aeq0))))) (Gh.sel [1, 0, 2, 3] rfl rfl))
    refine RA_yesB rfl rfl rfl rfl (bno h10) (OA_v (v := .int .i64 a1) rfl (V_move rfl) ?_)
    refine RA_yesB rfl rfl rfl rfl (bno h10) (OA_v (v := .bool (decide (a1 < 0))) rfl (V_lss rfl rfl) ?_)
    refine RA_step rfl (OA_v rfl (V_pickF rfl (bno h10) rfl) ?_)
    refine RA_nil ?_
    exact at_normal (St.mk1 (aeq rfl (aeq rfl (aeq rfl (aeq rfl (aeq (congrArg Value.bool (or_f hq9 (bno h10))) aeq0))))) (Gh.sel [1, 0, 2, 3] rfl rfl))
  rintro e ds As hst11
  refine RA.of_St rfl hst11 fun junk => ?_
  refine RA_step rfl (OA_v (v := .bool q9) rfl (V_move rfl) ?_)
  obtain ⟨q12, hq12, H⟩ := g_lt H
  refine RA_cut 5 (fun e ds As => St [(1, .int .i64 a1), (3, .pointer (some ⟨b2, 0, none⟩)), (5, .pointer (some ⟨b4, 0, none⟩)), (6, .pointer (some ⟨b6, 0, none⟩)), (21, .bool q12)] [Blk b2 67 [.int .i64 a0.f0, .int .i64 a0.f1, .slice A0_0 a0.f2.length c0_0], Ro k76 A0_0 c0_0 a0.f2, Blk b4 70 [.int .i64 a2.f0, .int .i64 a2.f1, .bool a2.f2, .bool a2.f3, .bool a2.f4, .bool a2.f5, .bool a2.f6, .bool a2.f7, .bool a2.f8, .bool a2.f9], Blk b6 67 [.int .i64 0, .int .i64 0, .slice none 0 0]] e ds As) ?_ ?_
  · by_cases h13 : q9 = true
    · refine RA_noB rfl rfl rfl rfl (h13) rfl ?_
      refine RA_noB rfl rfl rfl rfl (h13) rfl ?_
      refine RA_noB rfl rfl rfl rfl (h13) rfl ?_
      refine RA_noB rfl rfl rfl rfl (h13) rfl ?_
      refine RA_step rfl (OA_v rfl (V_pickT rfl (h13) rfl) ?_)
      refine RA_nil ?_
      exact at_normal (St.mk1 (aeq rfl (aeq rfl (aeq rfl (aeq rfl (aeq (congrArg Value.bool (or_t hq12 (h13))) aeq0))))) (Gh.sel [0, 1, 2, 3] rfl rfl))
    refine RA_yesB rfl rfl rfl rfl (bno h13) (OA_v (v := .int .i64 a1) rfl (V_move rfl) ?_)
    refine RA_yesB rfl rfl rfl rfl (bno h13) (OA_v (v := .pointer (some ((⟨b2, 0, none⟩ : Addr).add 1))) rfl (V_fieldAddrN (B := ⟨b2, 0, none⟩) (m := 0) (o := 1) Try.underlying67 rfl nz3 rfl rfl) ?_)
    refine RA_yesB rfl rfl rfl rfl (bno h13) (OA_r rfl (VR_load_blk (b := b2) (m := 1) (k := 0) Try.underlying3 rfl rfl rfl rfl) ?_)
    refine RA_yesB rfl rfl rfl rfl (bno h13) (OA_v (v := .bool (decide (a1 ≥ a0.f1))) rfl (V_geq rfl rfl) ?_)
    refine RA_step rfl (OA_v rfl (V_pickF rfl (bno h13) rfl) ?_)
    refine RA_nil ?_
    exact at_normal (St.mk1 (aeq rfl (aeq rfl (aeq rfl (aeq rfl (aeq (congrArg Value.bool (or_f hq12 (bno h13))) aeq0))))) (Gh.sel [0, 1, 2, 3] rfl rfl))
  rintro e ds As hst14
  refine RA.of_St rfl hst14 fun junk => ?_
  refine RA_step rfl (OA_v (v := .bool q12) rfl (V_move rfl) ?_)
  obtain ⟨q15, H, Bq15⟩ := g_bind H
  refine RA_cut 4 (fun e ds As => St [(1, .int .i64 a1), (3, .pointer (some ⟨b2, 0, none⟩)), (6, .pointer (some ⟨b6, 0, none⟩)), (26, .bool q15)] [Blk b2 67 [.int .i64 a0.f0, .int .i64 a0.f1, .slice A0_0 a0.f2.length c0_0], Ro k76 A0_0 c0_0 a0.f2, Blk b6 67 [.int .i64 0, .int .i64 0, .slice none 0 0]] e ds As) ?_ ?_
  · by_cases h16 : q12 = true
    · replace H := g_ift h16 H
      refine RA_noB rfl rfl rfl rfl (h16) rfl ?_
      refine RA_noB rfl rfl rfl rfl (h16) rfl ?_
      refine RA_noB rfl rfl rfl rfl (h16) rfl ?_
      refine RA_step rfl (OA_v rfl (V_pickT rfl (h16) rfl) ?_)
      have hr_ := Option.some.inj H
      subst hr_
      refine RA_nil ?_
      exact at_normal (St.mk1 (aeq rfl (aeq rfl (aeq rfl (aeq rfl aeq0)))) (Gh.sel [0, 1, 3] rfl rfl))
    replace H := g_iff h16 H
    refine RA_yesB rfl rfl rfl rfl (bno h16) (OA_r rfl (VR_loadA_blk (b := b4) (m := 0) (k := 2) (vs := [.int .i64 a2.f0, .int .i64 a2.f1, .bool a2.f2, .bool a2.f3, .bool a2.f4, .bool a2.f5, .bool a2.f6, .bool a2.f7, .bool a2.f8, .bool a2.f9]) Try.underlying70 rfl sz70 rfl rfl rfl) ?_)
    obtain ⟨r17, C18, H⟩ := g_bind H
    refine RA_yesB rfl rfl rfl rfl (bno h16) (OA_callA [] [0, 1, 2, 3] rfl (X_fn (vs := [.agg #[.int .i64 a2.f0, .int .i64 a2.f1, .bool a2.f2, .bool a2.f3, .bool a2.f4, .bool a2.f5, .bool a2.f6, .bool a2.f7, .bool a2.f8, .bool a2.f9]]) Try.func71 nm71 rfl rfl) rfl (F71.ok (a0 := a2) C18) rfl ?_)
    rintro _ _ ⟨rfl, rfl⟩
    refine RA_yesB rfl rfl rfl rfl (bno h16) (OA_v (v := .bool (!r17)) rfl (V_not rfl) ?_)
    refine RA_step rfl (OA_v rfl (V_pickF rfl (bno h16) rfl) ?_)
    have hr_ := Option.some.inj H
    subst hr_
    refine RA_nil ?_
    exact at_normal (St.mk1 (aeq rfl (aeq rfl (aeq rfl (aeq rfl aeq0)))) (Gh.sel [0, 1, 3] rfl rfl))
  rintro e ds As hst19
  clear H
  have H := Bq15
  clear Bq15
  refine RA_nil ?_
  refine at_normal ?_
  refine SA.of_St hst19 fun junk => ?_
  by_cases h20 : q15 = true
  · replace H := g_ift h20 H
    refine SA_condTb rfl h20 ?_
    refine SA_seq ?_
    refine SA_region ?_
    refine RA_step rfl (OA_v (v := .agg #[.int .i64 0, .int .i64 0, .slice none 0 0]) rfl (V_build (cells := [.int .i64 0, .int .i64 0, .slice none 0 0]) zero67 Try.underlying67 plc67 (by kernel_rfl)) ?_)
    refine RA_step rfl (OA_st (b := b6) (m := 0) (k := 2) (vs := [.int .i64 0, .int .i64 0, .slice none 0 0]) (cs' := [.int .i64 0, .int .i64 0, .slice none 0 0]) rfl rfl rfl rfl rfl rfl sz67 rfl rfl ?_)
    refine RA_step rfl (OA_v (v := .slice none 0 0) rfl (V_assign rfl) ?_)
    refine RA_step rfl (OA_v (v := .bool false) rfl (V_assign rfl) ?_)
    refine RA_nil ?_
    refine at_normal ?_
    refine SA_ret ?_
    refine thn_ret ?_
    have hr_ := Option.some.inj H
    subst hr_
    exact BQ_RL (rs := [.cell 6 67, .tmp 7, .tmp 8]) (vs := [.agg #[.int .i64 0, .int .i64 0, .slice none 0 0], .slice none 0 0, .bool false]) [Buf k76 76 none 0 ([] : (List S76))] rfl ⟨RV.cell (k := 2) rfl rfl Try.underlying67 rfl sz67, RV.tmp rfl, RV.tmp rfl, trivial⟩ rfl ((Gh.nilBuf k76 76).trans (Gh.sel [3] rfl rfl)) ⟨none, 0, none, 0, Win.nil, rfl, rfl⟩
  replace H := g_iff h20 H
  refine SA_condFb rfl h20 ?_
  refine SA_skip ?_
  refine at_normal ?_
  refine SA_seq ?_
  refine SA_region ?_
  refine RA_step rfl (OA_r rfl (VR_loadA_blk (b := b2) (m := 0) (k := 0) (vs := [.int .i64 a0.f0, .int .i64 a0.f1, .slice A0_0 a0.f2.length c0_0]) Try.underlying67 rfl sz67 rfl rfl rfl) ?_)
  obtain ⟨r22, C388, H⟩ := g_bind H
  refine RA_step rfl (OA_callA [1] [0, 1, 2] rfl (X_fn (vs := [.agg #[.int .i64 a0.f0, .int .i64 a0.f1, .slice A0_0 a0.f2.length c0_0]]) Try.func72 nm72 rfl rfl) rfl (F72.ok (a0 := a0) (A0_0 := A0_0) (c0_0 := c0_0) C388) rfl ?_)
  rintro _ _ ⟨A23, c24, rfl, rfl⟩
  refine RA_step rfl (OA_st (b := b2) (m := 0) (k := 1) (vs := [.int .i64 r22.f0, .int .i64 r22.f1, .slice A23 r22.f2.length c24]) (cs' := [.int .i64 r22.f0, .int .i64 r22.f1, .slice A23 r22.f2.length c24]) rfl rfl rfl rfl rfl rfl sz67 rfl rfl ?_)
  refine RA_nil ?_
  refine at_normal ?_
  refine SA_seq ?_
  refine SA.fact (cap_of (k := 0) rfl) fun hc26 => ?_
  refine SA_drawNq mixed (PanOk.thn PanOk.body) fun I0 hh0 w0 pk => ?_
  refine DN_take (v := .int .i64 a1) 1 (by kernel_rfl) rfl rfl (.no rfl) pk rfl (V_move rfl) ?_
  obtain ⟨r147, C152, H⟩ := g_bind H
  obtain ⟨⟨hl151a, hl151b, hl151c⟩, H⟩ := g_pos H
  refine DN_many (rs := [0, 2]) (by kernel_rfl) (by decide) (fal_cons ⟨rfl, _, rfl, (.no rfl), ?_⟩ (fal_cons ⟨rfl, _, rfl, (.no rfl), ?_⟩ fal_nil))
  · refine id (OA_r rfl (VR_loadA_blk (b := b2) (m := 0) (k := 1) (vs := [.int .i64 r22.f0, .int .i64 r22.f1, .slice A23 r22.f2.length c24]) Try.underlying67 rfl sz67 rfl rfl rfl) ?_)
    refine DN_one 2 (by kernel_rfl) rfl rfl (.no rfl) (OA_callA [1, 0] [2, 3] rfl (X_fn (vs := [.pointer (some ⟨b2, 0, none⟩), .int .i64 a1]) Try.func80 nm80 rfl rfl) rfl (F80b0.ok (b0_ := b2) (A0_0 := A23) (c0_0 := c24) (p0 := r22) (a1 := a1) C152) rfl ?_)
    rintro _ _ ⟨V148, v149, hW150, rfl, rfl⟩
    refine DN_one 3 (by kernel_rfl) rfl rfl (.no rfl) (OA_st (b := b6) (m := 0) (k := 3) (vs := [.int .i64 r22.f0, .int .i64 r22.f1, .slice A23 r22.f2.length c24]) (cs' := [.int .i64 r22.f0, .int .i64 r22.f1, .slice A23 r22.f2.length c24]) rfl rfl rfl rfl rfl rfl sz67 rfl rfl ?_)
    refine DN_take (v := .slice V148 r147.2.toNat v149) 4 (by kernel_rfl) rfl rfl (.no rfl) pk rfl (V_assign rfl) ?_
    refine DN_take (v := .bool true) 5 (by kernel_rfl) rfl rfl (.no rfl) pk rfl (V_assign rfl) ?_
    refine DN_done (by kernel_rfl) ?_
    refine at_normal ?_
    refine SA_ret ?_
    have hr_ := Option.some.inj H
    subst hr_
    exact BQ_RL (rs := [.cell 6 67, .tmp 7, .tmp 8]) (vs := [.agg #[.int .i64 r22.f0, .int .i64 r22.f1, .slice A23 r22.f2.length c24], .slice V148 r147.2.toNat v149, .bool true]) [Buf k76 76 A23 c24 r22.f2] rfl ⟨RV.cell (k := 3) rfl rfl Try.underlying67 rfl sz67, RV.tmp rfl, RV.tmp rfl, trivial⟩ rfl (Gh.sel [1] rfl rfl) ⟨A23, c24, V148, v149, hW150, rfl, rfl⟩
  refine id (OA_callA [1, 0] [2, 3] rfl (X_fn (vs := [.pointer (some ⟨b2, 0, none⟩), .int .i64 a1]) Try.func80 nm80 rfl rfl) rfl (F80b0.ok (b0_ := b2) (A0_0 := A23) (c0_0 := c24) (p0 := r22) (a1 := a1) C152) rfl ?_)
  rintro _ _ ⟨V148, v149, hW150, rfl, rfl⟩
  refine DN_one 0 (by kernel_rfl) rfl rfl (.no rfl) (OA_r rfl (VR_loadA_blk (b := b2) (m := 0) (k := 0) (vs := [.int .i64 r22.f0, .int .i64 r22.f1, .slice A23 r22.f2.length c24]) Try.underlying67 rfl sz67 rfl rfl rfl) ?_)
  refine DN_one 3 (by kernel_rfl) rfl rfl (.no rfl) (OA_st (b := b6) (m := 0) (k := 3) (vs := [.int .i64 r22.f0, .int .i64 r22.f1, .slice A23 r22.f2.length c24]) (cs' := [.int .i64 r22.f0, .int .i64 r22.f1, .slice A23 r22.f2.length c24]) rfl rfl rfl rfl rfl rfl sz67 rfl rfl ?_)
  refine DN_take (v := .slice V148 r147.2.toNat v149) 4 (by kernel_rfl) rfl rfl (.no rfl) pk rfl (V_assign rfl) ?_
  refine DN_take (v := .bool true) 5 (by kernel_rfl) rfl rfl (.no rfl) pk rfl (V_assign rfl) ?_
  refine DN_done (by kernel_rfl) ?_
  refine at_normal ?_
  refine SA_ret ?_
  have hr_ := Option.some.inj H
  subst hr_
  exact BQ_RL (rs := [.cell 6 67, .tmp 7, .tmp 8]) (vs := [.agg #[.int .i64 r22.f0, .int .i64 r22.f1, .slice A23 r22.f2.length c24], .slice V148 r147.2.toNat v149, .bool true]) [Buf k76 76 A23 c24 r22.f2] rfl ⟨RV.cell (k := 3) rfl rfl Try.underlying67 rfl sz67, RV.tmp rfl, RV.tmp rfl, trivial⟩ rfl (Gh.sel [1] rfl rfl) ⟨A23, c24, V148, v149, hW150, rfl, rfl⟩

/-! ### function 112: slices.IndexFunc[[]wayfarer/api.Cell,wayfarer/api.Cell] -/
def F112.l0 (l0 : (List S76)) (g1 : S76 → Option (Bool)) : Nat → Int → Option (Out (Int) (Unit))
  | 0, _ => none
  | k + 1, x8_4 => if x8_4 < (l0.length : Int) then (if 0 ≤ x8_4 ∧ x8_4 < (l0.length : Int) then ((g1 (rd l0 x8_4)).bind (fun r10 => if r10 = true then (some (Out.ret (x8_4))) else (F112.l0 l0 g1 k (IntKind.i64.wrap (x8_4 + 1))))) else none) else (some (Out.go ()))
def F112.f (k : Nat) (l0 : (List S76)) (g1 : S76 → Option (Bool)) : Option (Int) := (F112.l0 l0 g1 k 0 : Option (Out (Int) (Unit))).bind (fun t3 => Out.el t3 (fun r_ => some r_) (fun s4 => some ((-1))))
set_option maxHeartbeats 2000000 in
set_option maxRecDepth 100000 in
theorem F112.ok {k : Nat} {l0 : (List S76)} {g1 : S76 → Option (Bool)} {A0 : Option Addr} {c0 : Nat} {fv1 : Value} {Fr1 : Asrt} (hg1 : ∀ {x0_ : S76} {r_ : Bool}, g1 x0_ = some r_ → FC Try.prog fv1 [.agg (List.toArray (.int .i32 x0_.f0 :: .int .i32 x0_.f1.f0 :: .int .i32 x0_.f1.f1 :: .int .i32 x0_.f1.f2 :: .int .u8 x0_.f2 :: .int .i64 x0_.f3.f0 :: .int .i64 x0_.f3.f1 :: .bool x0_.f3.f2 :: .bool x0_.f3.f3 :: .bool x0_.f3.f4 :: .bool x0_.f3.f5 :: .bool x0_.f3.f6 :: .bool x0_.f3.f7 :: .bool x0_.f3.f8 :: .bool x0_.f3.f9 :: []))] [Fr1] (fun v B => ∃ B0, (v = .bool r_ ∧ B0 = []) ∧ B = B0 ++ [Fr1])) {r : Int} (H : F112.f k l0 g1 = some r) : SCA Try.prog 112 #[.slice A0 l0.length c0, fv1] [Ro k76 A0 c0 l0, Fr1] (fun v B => v = .int .i64 r ∧ B = [Fr1]) := by
  refine SCA_of_body Try.func112 rfl rfl ?_
  unfold F112.f at H
  refine SA_seq ?_
  refine SA_region ?_
  refine RA_step rfl (OA_v (v := .int .i64 0) rfl (V_assign rfl) ?_)
  refine RA_nil ?_
  refine at_normal ?_
  refine SA_seq ?_
  refine SA_seq ?_
  refine SA_region ?_
  refine RA_step rfl (OA_v (v := .slice A0 l0.length c0) rfl (V_move rfl) ?_)
  refine RA_step rfl (OA_v (v := .int .i64 (l0.length : Int)) rfl (V_len Try.underlying65 rfl) ?_)
  refine RA_step rfl (OA_v (v := .int .i64 0) rfl (V_move rfl) ?_)
  refine RA_nil ?_
  refine at_normal ?_
  obtain ⟨t3, H, Bt3⟩ := g_bind H
  refine SA_mid (fun e ds As => ∃ (s4 : Unit), t3 = Out.go s4 ∧ St [] [Fr1] e ds As) ?_ ?_
  · refine SA_block ?_
    refine SA_loop (fun k_ e ds As => ∃ (x8_4 : Int), F112.l0 l0 g1 k_ x8_4 = some t3 ∧ St [(0, .slice A0 l0.length c0), (1, fv1), (7, .int .i64 (l0.length : Int)), (8, .int .i64 x8_4)] [Fr1, Ro k76 A0 c0 l0] e ds As) (k := k) ⟨_, H, St.mk1 (aeq rfl (aeq rfl (aeq rfl (aeq rfl aeq0)))) (Gh.sel [1, 0] rfl rfl)⟩ ?_
    clear H
    rintro k5 e ds As ⟨x8_4, H, hst6⟩
    obtain _ | k5 := k5
    · cases H
    rw [F112.l0] at H
    refine SA.of_St hst6 fun junk => ?_
    refine SA_seq ?_
    refine SA_region ?_
    refine RA_step rfl (OA_v (v := .bool (decide (x8_4 < (l0.length : Int)))) rfl (V_lss rfl rfl) ?_)
    refine RA_nil ?_
    refine at_normal ?_
    refine SA_seq ?_
    by_cases h7 : x8_4 < (l0.length : Int)
    · replace H := g_ift h7 H
      refine SA_condT rfl h7 ?_
      refine SA_skip ?_
      refine at_normal ?_
      refine SA_seq ?_
      refine SA_block ?_
      refine SA_seq ?_
      refine SA_region ?_
      refine RA_step rfl (OA_v (v := .int .i64 x8_4) rfl (V_move rfl) ?_)
      refine RA_step rfl (OA_v (v := .int .i64 x8_4) rfl (V_assign rfl) ?_)
      refine RA_nil ?_
      refine at_normal ?_
      refine SA_seq ?_
      refine SA_region ?_
      refine RA_step rfl (OA_v (v := fv1) rfl (V_move rfl) ?_)
      refine RA_step rfl (OA_v (v := .slice A0 l0.length c0) rfl (V_move rfl) ?_)
      refine RA_step rfl (OA_v (v := .int .i64 x8_4) rfl (V_move rfl) ?_)
      obtain ⟨⟨g8, g9⟩, H⟩ := g_pos H
      refine RA_step rfl (OA_r rfl (VR_index (i := x8_4) Try.underlying65 sz76 rfl rfl (Src.ro (k := 1) rfl) g8 g9) ?_)
      refine RA_step rfl (OA_r rfl (VR_loadA_el (enc := enc76) (i := x8_4) (j := x8_4.toNat * 15) (m := 0) (sz := 15) (vs := (.int .i32 ((rd l0 x8_4).f0) :: .int .i32 (((rd l0 x8_4).f1).f0) :: .int .i32 (((rd l0 x8_4).f1).f1) :: .int .i32 (((rd l0 x8_4).f1).f2) :: .int .u8 ((rd l0 x8_4).f2) :: .int .i64 (((rd l0 x8_4).f3).f0) :: .int .i64 (((rd l0 x8_4).f3).f1) :: .bool (((rd l0 x8_4).f3).f2) :: .bool (((rd l0 x8_4).f3).f3) :: .bool (((rd l0 x8_4).f3).f4) :: .bool (((rd l0 x8_4).f3).f5) :: .bool (((rd l0 x8_4).f3).f6) :: .bool (((rd l0 x8_4).f3).f7) :: .bool (((rd l0 x8_4).f3).f8) :: .bool (((rd l0 x8_4).f3).f9) :: [])) Try.underlying76 rfl sz76 rfl rfl rfl (Src.ro (k := 1) rfl) g8 g9 (fun _ _ h => h) rfl) ?_)
      obtain ⟨r10, C12, H⟩ := g_bind H
      refine RA_step rfl (OA_callF (vs := [.agg (List.toArray (.int .i32 ((rd l0 x8_4).f0) :: .int .i32 (((rd l0 x8_4).f1).f0) :: .int .i32 (((rd l0 x8_4).f1).f1) :: .int .i32 (((rd l0 x8_4).f1).f2) :: .int .u8 ((rd l0 x8_4).f2) :: .int .i64 (((rd l0 x8_4).f3).f0) :: .int .i64 (((rd l0 x8_4).f3).f1) :: .bool (((rd l0 x8_4).f3).f2) :: .bool (((rd l0 x8_4).f3).f3) :: .bool (((rd l0 x8_4).f3).f4) :: .bool (((rd l0 x8_4).f3).f5) :: .bool (((rd l0 x8_4).f3).f6) :: .bool (((rd l0 x8_4).f3).f7) :: .bool (((rd l0 x8_4).f3).f8) :: .bool (((rd l0 x8_4).f3).f9) :: []))]) [0] [1] rfl rfl rfl rfl (hg1 (x0_ := rd l0 x8_4) C12) rfl ?_)
      rintro _ _ ⟨_, ⟨rfl, rfl⟩, rfl⟩
      refine RA_nil ?_
      refine at_normal ?_
      by_cases h11 : r10 = true
      · replace H := g_ift h11 H
        refine SA_condTb rfl h11 ?_
        refine SA_seq ?_
        refine SA_region ?_
        refine RA_step rfl (OA_v (v := .int .i64 x8_4) rfl (V_move rfl) ?_)
        refine RA_step rfl (OA_v (v := .int .i64 x8_4) rfl (V_assign rfl) ?_)
        refine RA_nil ?_
        refine at_normal ?_
        refine SA_ret ?_
        refine inb_ret ?_
        refine thn_ret ?_
        refine thn_ret ?_
        refine inb_ret ?_
        refine thn_ret ?_
        refine thn_ret ?_
        have hr_ := Option.some.inj H
        subst hr_
        have hb_ := el_ret Bt3
        have hr_ := Option.some.inj hb_
        clear hb_
        subst hr_
        exact BQ_R1 [Fr1] rfl rfl (Gh.sel [0] rfl rfl) ⟨rfl, rfl⟩
      replace H := g_iff h11 H
      refine SA_condFb rfl h11 ?_
      refine SA_skip ?_
      refine inb_normal ?_
      refine at_normal ?_
      refine SA_region ?_
      refine RA_step rfl (OA_v (v := .int .i64 (IntKind.i64.wrap (x8_4 + 1))) rfl (V_add rfl rfl) ?_)
      refine RA_step rfl (OA_v (v := .int .i64 (IntKind.i64.wrap (x8_4 + 1))) rfl (V_move rfl) ?_)
      refine RA_nil ?_
      exact at_normal ⟨k5, Nat.lt_succ_self _, _, H, St.mk1 (aeq rfl (aeq rfl (aeq rfl (aeq rfl aeq0)))) (Gh.sel [0, 1] rfl rfl)⟩
    replace H := g_iff h7 H
    refine SA_condF rfl h7 ?_
    refine SA_exit ?_
    refine thn_exit ?_
    refine thn_exit ?_
    refine inb_hit ?_
    have hr_ := Option.some.inj H
    subst hr_
    exact at_normal ⟨(), rfl, St.mk1 aeq0 (Gh.sel [0] rfl rfl)⟩
  rintro e ds As ⟨s4, ht, hst13⟩
  clear H
  subst ht
  replace Bt3 := el_go Bt3
  have H := Bt3
  clear Bt3
  refine at_normal ?_
  refine SA.of_St hst13 fun junk => ?_
  refine SA_seq ?_
  refine SA_region ?_
  refine RA_step rfl (OA_v (v := .int .i64 (-1)) rfl (V_assign rfl) ?_)
  refine RA_nil ?_
  refine at_normal ?_
  refine SA_ret ?_
  have hr_ := Option.some.inj H
  subst hr_
  exact BQ_R1 [Fr1] rfl rfl (Gh.sel [0] rfl rfl) ⟨rfl, rfl⟩

/-! ### function 85: slices.ContainsFunc[[]wayfarer/api.Cell,wayfarer/api.Cell] -/
def F85.f (k : Nat) (l0 : (List S76)) (g1 : S76 → Option (Bool)) : Option (Bool) := (F112.f k l0 g1).bind (fun r3 => some (decide (r3 ≥ 0)))
set_option maxHeartbeats 2000000 in
set_option maxRecDepth 100000 in
theorem F85.ok {k : Nat} {l0 : (List S76)} {g1 : S76 → Option (Bool)} {A0 : Option Addr} {c0 : Nat} {fv1 : Value} {Fr1 : Asrt} (hg1 : ∀ {x0_ : S76} {r_ : Bool}, g1 x0_ = some r_ → FC Try.prog fv1 [.agg (List.toArray (.int .i32 x0_.f0 :: .int .i32 x0_.f1.f0 :: .int .i32 x0_.f1.f1 :: .int .i32 x0_.f1.f2 :: .int .u8 x0_.f2 :: .int .i64 x0_.f3.f0 :: .int .i64 x0_.f3.f1 :: .bool x0_.f3.f2 :: .bool x0_.f3.f3 :: .bool x0_.f3.f4 :: .bool x0_.f3.f5 :: .bool x0_.f3.f6 :: .bool x0_.f3.f7 :: .bool x0_.f3.f8 :: .bool x0_.f3.f9 :: []))] [Fr1] (fun v B => ∃ B0, (v = .bool r_ ∧ B0 = []) ∧ B = B0 ++ [Fr1])) {r : Bool} (H : F85.f k l0 g1 = some r) : SCA Try.prog 85 #[.slice A0 l0.length c0, fv1] [Ro k76 A0 c0 l0, Fr1] (fun v B => v = .bool r ∧ B = [Fr1]) := by
  refine SCA_of_body Try.func85 rfl rfl ?_
  unfold F85.f at H
  refine SA_seq ?_
  refine SA_region ?_
  refine RA_step rfl (OA_v (v := .bool false) rfl (V_assign rfl) ?_)
  refine RA_nil ?_
  refine at_normal ?_
  refine SA_seq ?_
  refine SA_region ?_
  refine RA_step rfl (OA_v (v := .slice A0 l0.length c0) rfl (V_move rfl) ?_)
  refine RA_step rfl (OA_v (v := fv1) rfl (V_move rfl) ?_)
  obtain ⟨r3, C4, H⟩ := g_bind H
  refine RA_step rfl (OA_callA [0, 1] [0] rfl (X_fn (vs := [.slice A0 l0.length c0, fv1]) Try.func112 nm112 rfl rfl) rfl (F112.ok (l0 := l0) (A0 := A0) (c0 := c0) (g1 := g1) (fv1 := fv1) (Fr1 := Fr1) (hg1 := hg1) C4) rfl ?_)
  rintro _ _ ⟨rfl, rfl⟩
  refine RA_step rfl (OA_v (v := .bool (decide (r3 ≥ 0))) rfl (V_geq rfl rfl) ?_)
  refine RA_step rfl (OA_v (v := .bool (decide (r3 ≥ 0))) rfl (V_assign rfl) ?_)
  refine RA_nil ?_
  refine at_normal ?_
  refine SA_ret ?_
  have hr_ := Option.some.inj H
  subst hr_
  exact BQ_R1 [Fr1] rfl rfl (Gh.sel [0] rfl rfl) ⟨rfl, rfl⟩

/-! ### function 86: wayfarer/grid.Write$1 -/
def F86.f (k : Nat) (a0 : S76) : Option (Bool) := (F84.f k a0).bind (fun r3 => some (!r3))
set_option maxHeartbeats 2000000 in
set_option maxRecDepth 100000 in
theorem F86.ok {k : Nat} {a0 : S76} {r : Bool} (H : F86.f k a0 = some r) : SCA Try.prog 86 #[.agg (List.toArray (.int .i32 a0.f0 :: .int .i32 a0.f1.f0 :: .int .i32 a0.f1.f1 :: .int .i32 a0.f1.f2 :: .int .u8 a0.f2 :: .int .i64 a0.f3.f0 :: .int .i64 a0.f3.f1 :: .bool a0.f3.f2 :: .bool a0.f3.f3 :: .bool a0.f3.f4 :: .bool a0.f3.f5 :: .bool a0.f3.f6 :: .bool a0.f3.f7 :: .bool a0.f3.f8 :: .bool a0.f3.f9 :: []))] [] (fun v B => v = .bool r ∧ B = []) := by
  refine SCA_of_body Try.func86 rfl rfl ?_
  unfold F86.f at H
  refine SA_seq ?_
  refine SA_region ?_
  refine RA_step rfl (OA_box rfl rfl fun b1 => ?_)
  refine RA_step rfl (OA_v (v := .bool false) rfl (V_assign rfl) ?_)
  refine RA_nil ?_
  refine at_normal ?_
  refine SA_seq ?_
  refine SA_region ?_
  refine RA_step rfl (OA_r rfl (VR_loadA_blk (b := b1) (m := 0) (k := 0) (vs := (.int .i32 a0.f0 :: .int .i32 a0.f1.f0 :: .int .i32 a0.f1.f1 :: .int .i32 a0.f1.f2 :: .int .u8 a0.f2 :: .int .i64 a0.f3.f0 :: .int .i64 a0.f3.f1 :: .bool a0.f3.f2 :: .bool a0.f3.f3 :: .bool a0.f3.f4 :: .bool a0.f3.f5 :: .bool a0.f3.f6 :: .bool a0.f3.f7 :: .bool a0.f3.f8 :: .bool a0.f3.f9 :: [])) Try.underlying76 rfl sz76 rfl rfl rfl) ?_)
  obtain ⟨r3, C4, H⟩ := g_bind H
  refine RA_step rfl (OA_callA [] [0] rfl (X_fn (vs := [.agg (List.toArray (.int .i32 a0.f0 :: .int .i32 a0.f1.f0 :: .int .i32 a0.f1.f1 :: .int .i32 a0.f1.f2 :: .int .u8 a0.f2 :: .int .i64 a0.f3.f0 :: .int .i64 a0.f3.f1 :: .bool a0.f3.f2 :: .bool a0.f3.f3 :: .bool a0.f3.f4 :: .bool a0.f3.f5 :: .bool a0.f3.f6 :: .bool a0.f3.f7 :: .bool a0.f3.f8 :: .bool a0.f3.f9 :: []))]) Try.func84 nm84 rfl rfl) rfl (F84.ok (a0 := a0) C4) rfl ?_)
  rintro _ _ ⟨rfl, rfl⟩
  refine RA_step rfl (OA_v (v := .bool (!r3)) rfl (V_not rfl) ?_)
  refine RA_step rfl (OA_v (v := .bool (!r3)) rfl (V_assign rfl) ?_)
  refine RA_nil ?_
  refine at_normal ?_
  refine SA_ret ?_
  have hr_ := Option.some.inj H
  subst hr_
  exact BQ_R1 [] rfl rfl (Gh.sel [] rfl rfl) ⟨rfl, rfl⟩

/-! ### function 109: (wayfarer/grid.Row).Mend$1 -/
def F109w3.f (a0 : Int) (a1 : Int) (a2 : S70) (p3 : (List S76)) (o3 : Int) (n3 : Int) : Option (Bool) := if 0 ≤ o3 ∧ 0 ≤ n3 ∧ o3 + n3 ≤ (p3.length : Int) then (if a0 ≥ 0 then (if a0 < n3 then (if 0 ≤ a0 ∧ a0 < n3 then (if ((rd p3 (o3 + a0)).f2) = a1 then (if 0 ≤ a0 ∧ a0 < n3 then (some (decide (((rd p3 (o3 + a0)).f3) = a2))) else none) else (some (false))) else none) else (some (false))) else (some (false))) else none
set_option maxHeartbeats 2000000 in
set_option maxRecDepth 100000 in
theorem F109w3.ok {a0 : Int} {a1 : Int} {a2 : S70} {p3 : (List S76)} {o3 : Int} {n3 : Int} {A3 V3 : Option Addr} {c3 v3 : Nat} {b3_ : Nat} (hw3 : Win A3 V3 15 o3 n3 v3) {r : Bool} (H : F109w3.f a0 a1 a2 p3 o3 n3 = some r) : SCA Try.prog 109 #[.int .i64 a0, .int .u8 a1, .agg #[.int .i64 a2.f0, .int .i64 a2.f1, .bool a2.f2, .bool a2.f3, .bool a2.f4, .bool a2.f5, .bool a2.f6, .bool a2.f7, .bool a2.f8, .bool a2.f9], .pointer (some ⟨b3_, 0, none⟩)] [Blk b3_ 148 [.slice V3 n3.toNat v3], Buf k76 76 A3 c3 p3] (fun v B => v = .bool r ∧ B = [Blk b3_ 148 [.slice V3 n3.toNat v3], Buf k76 76 A3 c3 p3]) := by
  refine SCA_of_body Try.func109 rfl rfl ?_
  unfold F109w3.f at H
  obtain ⟨⟨g1629, g1630, g1631⟩, H⟩ := g_pos H
  have hcv_hw3 := hw3.cap
  refine SA_seq ?_
  refine SA_region ?_
  refine RA_step rfl (OA_box rfl rfl fun b3 => ?_)
  refine RA_step rfl (OA_v (v := .bool false) rfl (V_assign rfl) ?_)
  refine RA_nil ?_
  refine at_normal ?_
  refine SA_seq ?_
  refine SA_drawHq (0 :: 1 :: 2 :: 3 :: 4 :: 5 :: 6 :: 7 :: 8 :: 9 :: 10 :: 11 :: 12 :: 13 :: 14 :: 15 :: 16 :: 17 :: 18 :: 19 :: 20 :: 21 :: 22 :: 23 :: 24 :: 25 :: 26 :: []) (List.toArray ([] :: [0] :: [0, 1] :: [0, 1, 2] :: [0, 1, 2] :: [0, 1, 2, 4] :: [0, 1, 2, 3, 4, 5] :: [0, 1, 2, 3, 4, 5, 6] :: [0, 1, 2, 3, 4, 5, 6, 7] :: [0, 1, 2, 3, 4, 5, 6, 7, 8] :: [0, 1, 2, 3, 4, 5, 6, 7, 8] :: [0, 1, 2, 3, 4, 5, 6, 7, 8, 9, 10] :: [0, 1, 2, 3, 4, 5, 6, 7, 8, 9, 10, 11] :: (0 :: 1 :: 2 :: 3 :: 4 :: 5 :: 6 :: 7 :: 8 :: 9 :: 10 :: 11 :: 12 :: []) :: [0, 1, 2, 3, 4, 5, 6, 7, 8] :: (0 :: 1 :: 2 :: 3 :: 4 :: 5 :: 6 :: 7 :: 8 :: 9 :: 10 :: 11 :: 12 :: 13 :: 14 :: []) :: (0 :: 1 :: 2 :: 3 :: 4 :: 5 :: 6 :: 7 :: 8 :: 9 :: 10 :: 11 :: 12 :: 13 :: 14 :: 15 :: []) :: (0 :: 1 :: 2 :: 3 :: 4 :: 5 :: 6 :: 7 :: 8 :: 9 :: 10 :: 11 :: 12 :: 13 :: 14 :: 15 :: 16 :: []) :: (0 :: 1 :: 2 :: 3 :: 4 :: 5 :: 6 :: 7 :: 8 :: 9 :: 10 :: 11 :: 12 :: 13 :: 14 :: 15 :: 16 :: 17 :: []) :: (0 :: 1 :: 2 :: 3 :: 4 :: 5 :: 6 :: 7 :: 8 :: 9 :: 10 :: 11 :: 12 :: 13 :: 14 :: 15 :: 16 :: 17 :: []) :: (0 :: 1 :: 2 :: 3 :: 4 :: 5 :: 6 :: 7 :: 8 :: 9 :: 10 :: 11 :: 12 :: 13 :: 14 :: 15 :: 16 :: 17 :: 18 :: 19 :: []) :: (0 :: 1 :: 2 :: 3 :: 4 :: 5 :: 6 :: 7 :: 8 :: 9 :: 10 :: 11 :: 12 :: 13 :: 14 :: 15 :: 16 :: 17 :: 18 :: 19 :: 20 :: []) :: (0 :: 1 :: 2 :: 3 :: 4 :: 5 :: 6 :: 7 :: 8 :: 9 :: 10 :: 11 :: 12 :: 13 :: 14 :: 15 :: 16 :: 17 :: 18 :: 19 :: 20 :: 21 :: []) :: (0 :: 1 :: 2 :: 3 :: 4 :: 5 :: 6 :: 7 :: 8 :: 9 :: 10 :: 11 :: 12 :: 13 :: 14 :: 15 :: 16 :: 17 :: []) :: (0 :: 1 :: 2 :: 3 :: 4 :: 5 :: 6 :: 7 :: 8 :: 9 :: 10 :: 11 :: 12 :: 13 :: 14 :: 15 :: 16 :: 17 :: 18 :: 19 :: 20 :: 21 :: 22 :: 23 :: []) :: (0 :: 1 :: 2 :: 3 :: 4 :: 5 :: 6 :: 7 :: 8 :: 9 :: 10 :: 11 :: 12 :: 13 :: 14 :: 15 :: 16 :: 17 :: 18 :: 19 :: 20 :: 21 :: 22 :: 23 :: 24 :: []) :: (0 :: 1 :: 2 :: 3 :: 4 :: 5 :: 6 :: 7 :: 8 :: 9 :: 10 :: 11 :: 12 :: 13 :: 14 :: 15 :: 16 :: 17 :: 18 :: 19 :: 20 :: 21 :: 22 :: 23 :: 24 :: 25 :: []) :: [])) [0, 1, 2] [] mixed rfl rfl rfl (PanOk.thn PanOk.body) fun I0 hS h0 hh0 w0 sH dd pk => ?_
  refine DH_take (v := .int .i64 a0) 0 (by kernel_rfl) rfl rfl (.no rfl) pk sH rfl (VR.ofV (V_move rfl)) ?_
  refine DH_take (v := .bool (decide (a0 ≥ 0))) 1 (by kernel_rfl) rfl rfl (.no rfl) pk sH rfl (VR.ofV (V_geq rfl rfl)) ?_
  refine DH_take (v := .bool (decide (a0 ≥ 0))) 2 (by kernel_rfl) rfl rfl (.no rfl) pk sH rfl (VR.ofV (V_move rfl)) ?_
  by_cases h1626 : a0 ≥ 0
  · replace H := g_ift h1626 H
    refine DH_take (v := .int .i64 a0) 3 (by kernel_rfl) rfl rfl (.yes rfl rfl rfl rfl (dec_t h1626)) pk sH rfl (VR.ofV (V_move rfl)) ?_
    refine DH_take 4 (by kernel_rfl) rfl rfl (.yes rfl rfl rfl rfl (dec_t h1626)) pk sH rfl (VR_load_blk (b := b3_) (m := 0) (k := 0) Try.underlying148 rfl rfl rfl rfl) ?_
    refine DH_take (v := .int .i64 n3) 5 (by kernel_rfl) rfl rfl (.yes rfl rfl rfl rfl (dec_t h1626)) pk sH rfl (VR.ofV (V_lenW hw3 Try.underlying148 rfl)) ?_
    refine DH_take (v := .bool (decide (a0 < n3))) 6 (by kernel_rfl) rfl rfl (.yes rfl rfl rfl rfl (dec_t h1626)) pk sH rfl (VR.ofV (V_lss rfl rfl)) ?_
    refine DH_take 7 (by kernel_rfl) rfl rfl (.no rfl) pk sH rfl (VR.ofV (V_pickT rfl (dec_t h1626) rfl)) ?_
    refine DH_take (v := .bool (decide (a0 < n3))) 8 (by kernel_rfl) rfl rfl (.no rfl) pk sH rfl (VR.ofV (V_move rfl)) ?_
    by_cases h1627 : a0 < n3
    · replace H := g_ift h1627 H
      refine DH_take 9 (by kernel_rfl) rfl rfl (.yes rfl rfl rfl rfl (dec_t h1627)) pk sH rfl (VR_load_blk (b := b3_) (m := 0) (k := 0) Try.underlying148 rfl rfl rfl rfl) ?_
      refine DH_take (v := .int .i64 a0) 10 (by kernel_rfl) rfl rfl (.yes rfl rfl rfl rfl (dec_t h1627)) pk sH rfl (VR.ofV (V_move rfl)) ?_
      obtain ⟨⟨g665, g666⟩, H⟩ := g_pos H
      have g667 : 0 ≤ o3 + a0 := by omega
      have g668 : o3 + a0 < (p3.length : Int) := by omega
      refine DH_take 11 (by kernel_rfl) rfl rfl (.yes rfl rfl rfl rfl (dec_t h1627)) pk sH rfl (VR_indexW (l := o3) (m := n3) (i := a0) (sz := 15) hw3 Try.underlying148 sz76 rfl rfl (Src.buf (k := 1) rfl) g665 g666 (by omega)) ?_
      refine DH_take (v := .pointer (some ((el A3 ((o3 + a0).toNat * 15)).add 4))) 12 (by kernel_rfl) rfl rfl (.yes rfl rfl rfl rfl (dec_t h1627)) pk sH rfl (VR.ofV (V_fieldAddrN (B := el A3 ((o3 + a0).toNat * 15)) (m := 0) (o := 4) Try.underlying76 rfl nz5 rfl rfl)) ?_
      refine DH_take 13 (by kernel_rfl) rfl rfl (.yes rfl rfl rfl rfl (dec_t h1627)) pk sH rfl (VR_load_el (enc := enc76) (i := o3 + a0) (j := (o3 + a0).toNat * 15) (m := 4) (sz := 15) Try.underlying5 rfl rfl rfl rfl (Src.buf (k := 1) rfl) g667 g668 (fun _ _ h => h) rfl) ?_
      refine DH_take (v := .int .u8 a1) 14 (by kernel_rfl) rfl rfl (.yes rfl rfl rfl rfl (dec_t h1627)) pk sH rfl (VR.ofV (V_move rfl)) ?_
      refine DH_take (v := .bool (decide (((rd p3 (o3 + a0)).f2) = a1))) 15 (by kernel_rfl) rfl rfl (.yes rfl rfl rfl rfl (dec_t h1627)) pk sH rfl (VR.ofV (V_eql rfl rfl)) ?_
      refine DH_take 16 (by kernel_rfl) rfl rfl (.no rfl) pk sH rfl (VR.ofV (V_pickT rfl (dec_t h1627) rfl)) ?_
      refine DH_take (v := .bool (decide (((rd p3 (o3 + a0)).f2) = a1))) 17 (by kernel_rfl) rfl rfl (.no rfl) pk sH rfl (VR.ofV (V_move rfl)) ?_
      by_cases h1628 : ((rd p3 (o3 + a0)).f2) = a1
      · replace H := g_ift h1628 H
        refine DH_take 18 (by kernel_rfl) rfl rfl (.yes rfl rfl rfl rfl (dec_t h1628)) pk sH rfl (VR_load_blk (b := b3_) (m := 0) (k := 0) Try.underlying148 rfl rfl rfl rfl) ?_
        refine DH_take (v := .int .i64 a0) 19 (by kernel_rfl) rfl rfl (.yes rfl rfl rfl rfl (dec_t h1628)) pk sH rfl (VR.ofV (V_move rfl)) ?_
        obtain ⟨⟨g1205, g1206⟩, H⟩ := g_pos H
        have g1207 : 0 ≤ o3 + a0 := by omega
        have g1208 : o3 + a0 < (p3.length : Int) := by omega
        refine DH_take 20 (by kernel_rfl) rfl rfl (.yes rfl rfl rfl rfl (dec_t h1628)) pk sH rfl (VR_indexW (l := o3) (m := n3) (i := a0) (sz := 15) hw3 Try.underlying148 sz76 rfl rfl (Src.buf (k := 1) rfl) g1205 g1206 (by omega)) ?_
        refine DH_take (v := .pointer (some ((el A3 ((o3 + a0).toNat * 15)).add 5))) 21 (by kernel_rfl) rfl rfl (.yes rfl rfl rfl rfl (dec_t h1628)) pk sH rfl (VR.ofV (V_fieldAddrN (B := el A3 ((o3 + a0).toNat * 15)) (m := 0) (o := 5) Try.underlying76 rfl nz70 rfl rfl)) ?_
        refine DH_take 22 (by kernel_rfl) rfl rfl (.yes rfl rfl rfl rfl (dec_t h1628)) pk sH rfl (VR_loadA_el (enc := enc76) (i := o3 + a0) (j := (o3 + a0).toNat * 15) (m := 5) (sz := 15) (vs := [.int .i64 (((rd p3 (o3 + a0)).f3).f0), .int .i64 (((rd p3 (o3 + a0)).f3).f1), .bool (((rd p3 (o3 + a0)).f3).f2), .bool (((rd p3 (o3 + a0)).f3).f3), .bool (((rd p3 (o3 + a0)).f3).f4), .bool (((rd p3 (o3 + a0)).f3).f5), .bool (((rd p3 (o3 + a0)).f3).f6), .bool (((rd p3 (o3 + a0)).f3).f7), .bool (((rd p3 (o3 + a0)).f3).f8), .bool (((rd p3 (o3 + a0)).f3).f9)]) Try.underlying70 rfl sz70 rfl rfl rfl (Src.buf (k := 1) rfl) g1207 g1208 (fun _ _ h => h) rfl) ?_
        refine DH_take 23 (by kernel_rfl) rfl rfl (.yes rfl rfl rfl rfl (dec_t h1628)) pk sH rfl (VR_loadA_blk (b := b3) (m := 0) (k := 2) (vs := [.int .i64 a2.f0, .int .i64 a2.f1, .bool a2.f2, .bool a2.f3, .bool a2.f4, .bool a2.f5, .bool a2.f6, .bool a2.f7, .bool a2.f8, .bool a2.f9]) Try.underlying70 rfl sz70 rfl rfl rfl) ?_
        refine DH_take (v := .bool (decide (((rd p3 (o3 + a0)).f3) = a2))) 24 (by kernel_rfl) rfl rfl (.yes rfl rfl rfl rfl (dec_t h1628)) pk sH rfl (VR.ofV (V_eqlD (xs := [.int .i64 (((rd p3 (o3 + a0)).f3).f0), .int .i64 (((rd p3 (o3 + a0)).f3).f1), .bool (((rd p3 (o3 + a0)).f3).f2), .bool (((rd p3 (o3 + a0)).f3).f3), .bool (((rd p3 (o3 + a0)).f3).f4), .bool (((rd p3 (o3 + a0)).f3).f5), .bool (((rd p3 (o3 + a0)).f3).f6), .bool (((rd p3 (o3 + a0)).f3).f7), .bool (((rd p3 (o3 + a0)).f3).f8), .bool (((rd p3 (o3 + a0)).f3).f9)]) (ys := [.int .i64 a2.f0, .int .i64 a2.f1, .bool a2.f2, .bool a2.f3, .bool a2.f4, .bool a2.f5, .bool a2.f6, .bool a2.f7, .bool a2.f8, .bool a2.f9]) (r := (((((rd p3 (o3 + a0)).f3).f0) == a2.f0) && (((((rd p3 (o3 + a0)).f3).f1) == a2.f1) && (((((rd p3 (o3 + a0)).f3).f2) == a2.f2) && (((((rd p3 (o3 + a0)).f3).f3) == a2.f3) && (((((rd p3 (o3 + a0)).f3).f4) == a2.f4) && (((((rd p3 (o3 + a0)).f3).f5) == a2.f5) && (((((rd p3 (o3 + a0)).f3).f6) == a2.f6) && (((((rd p3 (o3 + a0)).f3).f7) == a2.f7) && (((((rd p3 (o3 + a0)).f3).f8) == a2.f8) && (((((rd p3 (o3 + a0)).f3).f9) == a2.f9) && true))))))))))) (p := ((rd p3 (o3 + a0)).f3) = a2) eqg70 rfl rfl (by kernel_rfl) (eqv70 (x := ((rd p3 (o3 + a0)).f3)) (y := a2)))) ?_
        refine DH_take 25 (by kernel_rfl) rfl rfl (.no rfl) pk sH rfl (VR.ofV (V_pickT rfl (dec_t h1628) rfl)) ?_
        refine DH_take (v := .bool (decide (((rd p3 (o3 + a0)).f3) = a2))) 26 (by kernel_rfl) rfl rfl (.no rfl) pk sH rfl (VR.ofV (V_assign rfl)) ?_
        refine DH_open dd sH ?_
        refine DN_done (by kernel_rfl) ?_
        refine at_normal ?_
        refine SA_ret ?_
        have hr_ := Option.some.inj H
        subst hr_
        exact BQ_R1 [Blk b3_ 148 [.slice V3 n3.toNat v3], Buf k76 76 A3 c3 p3] rfl rfl (Gh.sel [0, 1] rfl rfl) ⟨rfl, rfl⟩
      replace H := g_iff h1628 H
      refine DH_skip 18 (by kernel_rfl) rfl rfl (.no rfl rfl rfl rfl (dec_f h1628)) pk rfl ?_
      refine DH_skip 19 (by kernel_rfl) rfl rfl (.no rfl rfl rfl rfl (dec_f h1628)) pk rfl ?_
      refine DH_skip 20 (by kernel_rfl) rfl rfl (.no rfl rfl rfl rfl (dec_f h1628)) pk rfl ?_
      refine DH_skip 21 (by kernel_rfl) rfl rfl (.no rfl rfl rfl rfl (dec_f h1628)) pk rfl ?_
      refine DH_skip 22 (by kernel_rfl) rfl rfl (.no rfl rfl rfl rfl (dec_f h1628)) pk rfl ?_
      refine DH_skip 23 (by kernel_rfl) rfl rfl (.no rfl rfl rfl rfl (dec_f h1628)) pk rfl ?_
      refine DH_skip 24 (by kernel_rfl) rfl rfl (.no rfl rfl rfl rfl (dec_f h1628)) pk rfl ?_
      refine DH_take 25 (by kernel_rfl) rfl rfl (.no rfl) pk sH rfl (VR.ofV (V_pickF rfl (dec_f h1628) rfl)) ?_
      refine DH_take (v := .bool false) 26 (by kernel_rfl) rfl rfl (.no rfl) pk sH rfl (VR.ofV (V_assign rfl)) ?_
      refine DH_open dd sH ?_
      refine DN_done (by kernel_rfl) ?_
      refine at_normal ?_
      refine SA_ret ?_
      have hr_ := Option.some.inj H
      subst hr_
      exact BQ_R1 [Blk b3_ 148 [.slice V3 n3.toNat v3], Buf k76 76 A3 c3 p3] rfl rfl (Gh.sel [0, 1] rfl rfl) ⟨rfl, rfl⟩
    replace H := g_iff h1627 H
    refine DH_skip 9 (by kernel_rfl) rfl rfl (.no rfl rfl rfl rfl (dec_f h1627)) pk rfl ?_
    refine DH_skip 10 (by kernel_rfl) rfl rfl (.no rfl rfl rfl rfl (dec_f h1627)) pk rfl ?_
    refine DH_skip 11 (by kernel_rfl) rfl rfl (.no rfl rfl rfl rfl (dec_f h1627)) pk rfl ?_
    refine DH_skip 12 (by kernel_rfl) rfl rfl (.no rfl rfl rfl rfl (dec_f h1627)) pk rfl ?_
    refine DH_skip 13 (by kernel_rfl) rfl rfl (.no rfl rfl rfl rfl (dec_f h1627)) pk rfl ?_
    refine DH_skip 14 (by kernel_rfl) rfl rfl (.no rfl rfl rfl rfl (dec_f h1627)) pk rfl ?_
    refine DH_skip 15 (by kernel_rfl) rfl rfl (.no rfl rfl rfl rfl (dec_f h1627)) pk rfl ?_
    refine DH_take 16 (by kernel_rfl) rfl rfl (.no rfl) pk sH rfl (VR.ofV (V_pickF rfl (dec_f h1627) rfl)) ?_
    refine DH_take (v := .bool false) 17 (by kernel_rfl) rfl rfl (.no rfl) pk sH rfl (VR.ofV (V_move rfl)) ?_
    refine DH_skip 18 (by kernel_rfl) rfl rfl (.no rfl rfl rfl rfl (rfl)) pk rfl ?_
    refine DH_skip 19 (by kernel_rfl) rfl rfl (.no rfl rfl rfl rfl (rfl)) pk rfl ?_
    refine DH_skip 20 (by kernel_rfl) rfl rfl (.no rfl rfl rfl rfl (rfl)) pk rfl ?_
    refine DH_skip 21 (by kernel_rfl) rfl rfl (.no rfl rfl rfl rfl (rfl)) pk rfl ?_
    refine DH_skip 22 (by kernel_rfl) rfl rfl (.no rfl rfl rfl rfl (rfl)) pk rfl ?_
    refine DH_skip 23 (by kernel_rfl) rfl rfl (.no rfl rfl rfl rfl (rfl)) pk rfl ?_
    refine DH_skip 24 (by kernel_rfl) rfl rfl (.no rfl rfl rfl rfl (rfl)) pk rfl ?_
    refine DH_take 25 (by kernel_rfl) rfl rfl (.no rfl) pk sH rfl (VR.ofV (V_pickF rfl (rfl) rfl)) ?_
    refine DH_take (v := .bool false) 26 (by kernel_rfl) rfl rfl (.no rfl) pk sH rfl (VR.ofV (V_assign rfl)) ?_
    refine DH_open dd sH ?_
    refine DN_done (by kernel_rfl) ?_
    refine at_normal ?_
    refine SA_ret ?_
    have hr_ := Option.some.inj H
    subst hr_
    exact BQ_R1 [Blk b3_ 148 [.slice V3 n3.toNat v3], Buf k76 76 A3 c3 p3] rfl rfl (Gh.sel [0, 1] rfl rfl) ⟨rfl, rfl⟩
  replace H := g_iff h1626 H
  refine DH_skip 3 (by kernel_rfl) rfl rfl (.no rfl rfl rfl rfl (dec_f h1626)) pk rfl ?_
  refine DH_skip 4 (by kernel_rfl) rfl rfl (.no rfl rfl rfl rfl (dec_f h1626)) pk rfl ?_
  refine DH_skip 5 (by kernel_rfl) rfl rfl (.no rfl rfl rfl rfl (dec_f h1626)) pk rfl ?_
  refine DH_skip 6 (by kernel_rfl) rfl rfl (.no rfl rfl rfl rfl (dec_f h1626)) pk rfl ?_
  refine DH_take 7 (by kernel_rfl) rfl rfl (.no rfl) pk sH rfl (VR.ofV (V_pickF rfl (dec_f h1626) rfl)) ?_
  refine DH_take (v := .bool false) 8 (by kernel_rfl) rfl rfl (.no rfl) pk sH rfl (VR.ofV (V_move rfl)) ?_
  refine DH_skip 9 (by kernel_rfl) rfl rfl (.no rfl rfl rfl rfl (rfl)) pk rfl ?_
  refine DH_skip 10 (by kernel_rfl) rfl rfl (.no rfl rfl rfl rfl (rfl)) pk rfl ?_
  refine DH_skip 11 (by kernel_rfl) rfl rfl (.no rfl rfl rfl rfl (rfl)) pk rfl ?_
  refine DH_skip 12 (by kernel_rfl) rfl rfl (.no rfl rfl rfl rfl (rfl)) pk rfl ?_
  refine DH_skip 13 (by kernel_rfl) rfl rfl (.no rfl rfl rfl rfl (rfl)) pk rfl ?_
  refine DH_skip 14 (by kernel_rfl) rfl rfl (.no rfl rfl rfl rfl (rfl)) pk rfl ?_
  refine DH_skip 15 (by kernel_rfl) rfl rfl (.no rfl rfl rfl rfl (rfl)) pk rfl ?_
  refine DH_take 16 (by kernel_rfl) rfl rfl (.no rfl) pk sH rfl (VR.ofV (V_pickF rfl (rfl) rfl)) ?_
  refine DH_take (v := .bool false) 17 (by kernel_rfl) rfl rfl (.no rfl) pk sH rfl (VR.ofV (V_move rfl)) ?_
  refine DH_skip 18 (by kernel_rfl) rfl rfl (.no rfl rfl rfl rfl (rfl)) pk rfl ?_
  refine DH_skip 19 (by kernel_rfl) rfl rfl (.no rfl rfl rfl rfl (rfl)) pk rfl ?_
  refine DH_skip 20 (by kernel_rfl) rfl rfl (.no rfl rfl rfl rfl (rfl)) pk rfl ?_
  refine DH_skip 21 (by kernel_rfl) rfl rfl (.no rfl rfl rfl rfl (rfl)) pk rfl ?_
  refine DH_skip 22 (by kernel_rfl) rfl rfl (.no rfl rfl rfl rfl (rfl)) pk rfl ?_
  refine DH_skip 23 (by kernel_rfl) rfl rfl (.no rfl rfl rfl rfl (rfl)) pk rfl ?_
  refine DH_skip 24 (by kernel_rfl) rfl rfl (.no rfl rfl rfl rfl (rfl)) pk rfl ?_
  refine DH_take 25 (by kernel_rfl) rfl rfl (.no rfl) pk sH rfl (VR.ofV (V_pickF rfl (rfl) rfl)) ?_
  refine DH_take (v := .bool false) 26 (by kernel_rfl) rfl rfl (.no rfl) pk sH rfl (VR.ofV (V_assign rfl)) ?_
  refine DH_open dd sH ?_
  refine DN_done (by kernel_rfl) ?_
  refine at_normal ?_
  refine SA_ret ?_
  have hr_ := Option.some.inj H
  subst hr_
  exact BQ_R1 [Blk b3_ 148 [.slice V3 n3.toNat v3], Buf k76 76 A3 c3 p3] rfl rfl (Gh.sel [0, 1] rfl rfl) ⟨rfl, rfl⟩

/-! ### function 81: (wayfarer/grid.Row).Mend -/
def F81w0.l0 (l0 : (List S76)) (o0 : Int) (n0 : Int) : Nat → Int → (List S76) → Option ((List S76))
  | 0, _, _ => none
  | k + 1, x8_4, zm1_0_4 => if zm1_0_4.length = l0.length then (if x8_4 < n0 then (if 0 ≤ x8_4 ∧ x8_4 < n0 then ((if ((rd zm1_0_4 (o0 + x8_4)).f2) = 2 then ((F109w3.f (IntKind.i64.wrap (x8_4 + 1)) 0 ((rd zm1_0_4 (o0 + x8_4)).f3) zm1_0_4 o0 n0).bind (fun r16 => some (!r16))) else (some false) : Option Bool).bind (fun q14 => (if q14 = true then (some true) else (if ((rd zm1_0_4 (o0 + x8_4)).f2) = 0 then ((F109w3.f (IntKind.i64.wrap (x8_4 - 1)) 2 ((rd zm1_0_4 (o0 + x8_4)).f3) zm1_0_4 o0 n0).bind (fun r22 => some (!r22))) else (some false)) : Option Bool).bind (fun q19 => if q19 = true then ((F110.f ((rd zm1_0_4 (o0 + x8_4)).f3)).bind (fun r266 => if 0 ≤ x8_4 ∧ x8_4 < n0 then (lt (zm1_0_4.set (o0 + x8_4).toNat r266) fun n386 => (F81w0.l0 l0 o0 n0 k (IntKind.i64.wrap (x8_4 + 1)) n386)) else none)) else (F81w0.l0 l0 o0 n0 k (IntKind.i64.wrap (x8_4 + 1)) zm1_0_4)))) else none) else (some zm1_0_4)) else none
def F81w0.f (k : Nat) (l0 : (List S76)) (o0 : Int) (n0 : Int) : Option ((List S76)) := if 0 ≤ o0 ∧ 0 ≤ n0 ∧ o0 + n0 ≤ (l0.length : Int) then ((F81w0.l0 l0 o0 n0 k 0 l0 : Option ((List S76))).bind (fun t4 => if t4.length = l0.length then (some (t4)) else none)) else none
set_option maxHeartbeats 2000000 in
set_option maxRecDepth 100000 in
theorem F81w0.ok {k : Nat} {l0 : (List S76)} {o0 : Int} {n0 : Int} {A0 V0 : Option Addr} {c0 v0 : Nat} (hw0 : Win A0 V0 15 o0 n0 v0) {r : (List S76)} (H : F81w0.f k l0 o0 n0 = some r) : SCA Try.prog 81 #[.slice V0 n0.toNat v0] [Buf k76 76 A0 c0 l0] (fun v B => v = .tuple #[] ∧ B = [Buf k76 76 A0 c0 r]) := by
  refine SCA_of_body Try.func81 rfl rfl ?_
  unfold F81w0.f at H
  obtain ⟨⟨g450, g451, g452⟩, H⟩ := g_pos H
  have hcv_hw0 := hw0.cap
  refine SA_seq ?_
  refine SA_region ?_
  refine RA_step rfl (OA_box rfl rfl fun b2 => ?_)
  refine RA_nil ?_
  refine at_normal ?_
  refine SA_seq ?_
  refine SA_region ?_
  refine RA_step rfl (OA_v (v := .func (.func 109) #[] #[.pointer (some ⟨b2, 0, none⟩)]) rfl (V_makeFuncL (us := [.pointer (some ⟨b2, 0, none⟩)]) rfl) ?_)
  refine RA_step rfl (OA_v (v := .func (.func 109) #[] #[.pointer (some ⟨b2, 0, none⟩)]) rfl (V_assign rfl) ?_)
  refine RA_nil ?_
  refine at_normal ?_
  refine SA_seq ?_
  refine SA_region ?_
  refine RA_step rfl (OA_r rfl (VR_load_blk (b := b2) (m := 0) (k := 1) Try.underlying148 rfl rfl rfl rfl) ?_)
  refine RA_step rfl (OA_v (v := .int .i64 n0) rfl (V_lenW hw0 Try.underlying148 rfl) ?_)
  refine RA_step rfl (OA_v (v := .int .i64 0) rfl (V_move rfl) ?_)
  refine RA_nil ?_
  refine at_normal ?_
  obtain ⟨t4, H, Bt4⟩ := g_bind H
  refine SA_mid (fun e ds As => St [] [Buf k76 76 A0 c0 t4] e ds As) ?_ ?_
  · refine SA_block ?_
    refine SA_loop (fun k_ e ds As => ∃ (x8_4 : Int) (zm1_0_4 : (List S76)), F81w0.l0 l0 o0 n0 k_ x8_4 zm1_0_4 = some t4 ∧ St [(1, .pointer (some ⟨b2, 0, none⟩)), (2, .func (.func 109) #[] #[.pointer (some ⟨b2, 0, none⟩)]), (6, .slice V0 n0.toNat v0), (7, .int .i64 n0), (8, .int .i64 x8_4)] [Buf k76 76 A0 c0 zm1_0_4, Blk b2 148 [.slice V0 n0.toNat v0]] e ds As) (k := k) ⟨_, _, H, St.mk1 (aeq rfl (aeq rfl (aeq rfl (aeq rfl (aeq rfl aeq0))))) (Gh.sel [0, 1] rfl rfl)⟩ ?_
    clear H
    rintro k5 e ds As ⟨x8_4, zm1_0_4, H, hst6⟩
    obtain _ | k5 := k5
    · cases H
    rw [F81w0.l0] at H
    obtain ⟨hl447, H⟩ := g_pos H
    refine SA.of_St hst6 fun junk => ?_
    refine SA_seq ?_
    refine SA_region ?_
    refine RA_step rfl (OA_v (v := .bool (decide (x8_4 < n0))) rfl (V_lss rfl rfl) ?_)
    refine RA_nil ?_
    refine at_normal ?_
    refine SA_seq ?_
    by_cases h7 : x8_4 < n0
    · replace H := g_ift h7 H
      refine SA_condT rfl h7 ?_
      refine SA_skip ?_
      refine at_normal ?_
      refine SA_seq ?_
      refine SA_block ?_
      refine SA_seq ?_
      refine SA_region ?_
      refine RA_step rfl (OA_v (v := .int .i64 x8_4) rfl (V_move rfl) ?_)
      obtain ⟨⟨g8, g9⟩, H⟩ := g_pos H
      have g10 : 0 ≤ o0 + x8_4 := by omega
      have g11 : o0 + x8_4 < (zm1_0_4.length : Int) := by omega
      refine RA_step rfl (OA_r rfl (VR_indexW (l := o0) (m := n0) (i := x8_4) (sz := 15) hw0 Try.underlying148 sz76 rfl rfl (Src.buf (k := 0) rfl) g8 g9 (by omega)) ?_)
      refine RA_step rfl (OA_r rfl (VR_loadA_el (enc := enc76) (i := o0 + x8_4) (j := (o0 + x8_4).toNat * 15) (m := 0) (sz := 15) (vs := (.int .i32 ((rd zm1_0_4 (o0 + x8_4)).f0) :: .int .i32 (((rd zm1_0_4 (o0 + x8_4)).f1).f0) :: .int .i32 (((rd zm1_0_4 (o0 + x8_4)).f1).f1) :: .int .i32 (((rd zm1_0_4 (o0 + x8_4)).f1).f2) :: .int .u8 ((rd zm1_0_4 (o0 + x8_4)).f2) :: .int .i64 (((rd zm1_0_4 (o0 + x8_4)).f3).f0) :: .int .i64 (((rd zm1_0_4 (o0 + x8_4)).f3).f1) :: .bool (((rd zm1_0_4 (o0 + x8_4)).f3).f2) :: .bool (((rd zm1_0_4 (o0 + x8_4)).f3).f3) :: .bool (((rd zm1_0_4 (o0 + x8_4)).f3).f4) :: .bool (((rd zm1_0_4 (o0 + x8_4)).f3).f5) :: .bool (((rd zm1_0_4 (o0 + x8_4)).f3).f6) :: .bool (((rd zm1_0_4 (o0 + x8_4)).f3).f7) :: .bool (((rd zm1_0_4 (o0 + x8_4)).f3).f8) :: .bool (((rd zm1_0_4 (o0 + x8_4)).f3).f9) :: [])) Try.underlying76 rfl sz76 rfl rfl rfl (Src.buf (k := 0) rfl) g10 g11 (fun _ _ h => h) rfl) ?_)
      refine RA_step rfl (OA_alloc rfl zero76 fun b12 => ?_)
      refine RA_step rfl (OA_v (v := .int .i64 x8_4) rfl (V_assign rfl) ?_)
      refine RA_step rfl (OA_st (b := b12) (m := 0) (k := 2) (vs := (.int .i32 ((rd zm1_0_4 (o0 + x8_4)).f0) :: .int .i32 (((rd zm1_0_4 (o0 + x8_4)).f1).f0) :: .int .i32 (((rd zm1_0_4 (o0 + x8_4)).f1).f1) :: .int .i32 (((rd zm1_0_4 (o0 + x8_4)).f1).f2) :: .int .u8 ((rd zm1_0_4 (o0 + x8_4)).f2) :: .int .i64 (((rd zm1_0_4 (o0 + x8_4)).f3).f0) :: .int .i64 (((rd zm1_0_4 (o0 + x8_4)).f3).f1) :: .bool (((rd zm1_0_4 (o0 + x8_4)).f3).f2) :: .bool (((rd zm1_0_4 (o0 + x8_4)).f3).f3) :: .bool (((rd zm1_0_4 (o0 + x8_4)).f3).f4) :: .bool (((rd zm1_0_4 (o0 + x8_4)).f3).f5) :: .bool (((rd zm1_0_4 (o0 + x8_4)).f3).f6) :: .bool (((rd zm1_0_4 (o0 + x8_4)).f3).f7) :: .bool (((rd zm1_0_4 (o0 + x8_4)).f3).f8) :: .bool (((rd zm1_0_4 (o0 + x8_4)).f3).f9) :: [])) (cs' := (.int .i32 ((rd zm1_0_4 (o0 + x8_4)).f0) :: .int .i32 (((rd zm1_0_4 (o0 + x8_4)).f1).f0) :: .int .i32 (((rd zm1_0_4 (o0 + x8_4)).f1).f1) :: .int .i32 (((rd zm1_0_4 (o0 + x8_4)).f1).f2) :: .int .u8 ((rd zm1_0_4 (o0 + x8_4)).f2) :: .int .i64 (((rd zm1_0_4 (o0 + x8_4)).f3).f0) :: .int .i64 (((rd zm1_0_4 (o0 + x8_4)).f3).f1) :: .bool (((rd zm1_0_4 (o0 + x8_4)).f3).f2) :: .bool (((rd zm1_0_4 (o0 + x8_4)).f3).f3) :: .bool (((rd zm1_0_4 (o0 + x8_4)).f3).f4) :: .bool (((rd zm1_0_4 (o0 + x8_4)).f3).f5) :: .bool (((rd zm1_0_4 (o0 + x8_4)).f3).f6) :: .bool (((rd zm1_0_4 (o0 + x8_4)).f3).f7) :: .bool (((rd zm1_0_4 (o0 + x8_4)).f3).f8) :: .bool (((rd zm1_0_4 (o0 + x8_4)).f3).f9) :: [])) rfl rfl rfl rfl rfl rfl sz76 rfl rfl ?_)
      refine RA_nil ?_
      refine at_normal ?_
      refine SA_seq ?_
      refine SA_region ?_
      refine RA_step rfl (OA_v (v := .pointer (some ((⟨b12, 0, none⟩ : Addr).add 4))) rfl (V_fieldAddrN (B := ⟨b12, 0, none⟩) (m := 0) (o := 4) Try.underlying76 rfl nz5 rfl rfl) ?_)
      refine RA_step rfl (OA_r rfl (VR_load_blk (b := b12) (m := 4) (k := 2) Try.underlying5 rfl rfl rfl rfl) ?_)
      refine RA_step rfl (OA_v (v := .bool (decide (((rd zm1_0_4 (o0 + x8_4)).f2) = 2))) rfl (V_eql rfl rfl) ?_)
      refine RA_step rfl (OA_v (v := .bool (decide (((rd zm1_0_4 (o0 + x8_4)).f2) = 2))) rfl (V_move rfl) ?_)
      obtain ⟨q14, H, Bq14⟩ := g_bind H
      refine RA_cut 8 (fun e ds As => St [(1, .pointer (some ⟨b2, 0, none⟩)), (2, .func (.func 109) #[] #[.pointer (some ⟨b2, 0, none⟩)]), (3, .int .i64 x8_4), (4, .pointer (some ⟨b12, 0, none⟩)), (6, .slice V0 n0.toNat v0), (7, .int .i64 n0), (8, .int .i64 x8_4), (24, .bool q14)] [Buf k76 76 A0 c0 zm1_0_4, Blk b2 148 [.slice V0 n0.toNat v0], Blk b12 76 (.int .i32 ((rd zm1_0_4 (o0 + x8_4)).f0) :: .int .i32 (((rd zm1_0_4 (o0 + x8_4)).f1).f0) :: .int .i32 (((rd zm1_0_4 (o0 + x8_4)).f1).f1) :: .int .i32 (((rd zm1_0_4 (o0 + x8_4)).f1).f2) :: .int .u8 ((rd zm1_0_4 (o0 + x8_4)).f2) :: .int .i64 (((rd zm1_0_4 (o0 + x8_4)).f3).f0) :: .int .i64 (((rd zm1_0_4 (o0 + x8_4)).f3).f1) :: .bool (((rd zm1_0_4 (o0 + x8_4)).f3).f2) :: .bool (((rd zm1_0_4 (o0 + x8_4)).f3).f3) :: .bool (((rd zm1_0_4 (o0 + x8_4)).f3).f4) :: .bool (((rd zm1_0_4 (o0 + x8_4)).f3).f5) :: .bool (((rd zm1_0_4 (o0 + x8_4)).f3).f6) :: .bool (((rd zm1_0_4 (o0 + x8_4)).f3).f7) :: .bool (((rd zm1_0_4 (o0 + x8_4)).f3).f8) :: .bool (((rd zm1_0_4 (o0 + x8_4)).f3).f9) :: [])] e ds As) ?_ ?_
      · by_cases h15 : ((rd zm1_0_4 (o0 + x8_4)).f2) = 2
        · replace H := g_ift h15 H
          refine RA_yesB rfl rfl rfl rfl (dec_t h15) (OA_v (v := .func (.func 109) #[] #[.pointer (some ⟨b2, 0, none⟩)]) rfl (V_move rfl) ?_)
          refine RA_yesB rfl rfl rfl rfl (dec_t h15) (OA_v (v := .int .i64 x8_4) rfl (V_move rfl) ?_)
          refine RA_yesB rfl rfl rfl rfl (dec_t h15) (OA_v (v := .int .i64 (IntKind.i64.wrap (x8_4 + 1))) rfl (V_add rfl rfl) ?_)
          refine RA_yesB rfl rfl rfl rfl (dec_t h15) (OA_v (v := .pointer (some ((⟨b12, 0, none⟩ : Addr).add 5))) rfl (V_fieldAddrN (B := ⟨b12, 0, none⟩) (m := 0) (o := 5) Try.underlying76 rfl nz70 rfl rfl) ?_)
          refine RA_yesB rfl rfl rfl rfl (dec_t h15) (OA_r rfl (VR_loadA_blk (b := b12) (m := 5) (k := 2) (vs := [.int .i64 (((rd zm1_0_4 (o0 + x8_4)).f3).f0), .int .i64 (((rd zm1_0_4 (o0 + x8_4)).f3).f1), .bool (((rd zm1_0_4 (o0 + x8_4)).f3).f2), .bool (((rd zm1_0_4 (o0 + x8_4)).f3).f3), .bool (((rd zm1_0_4 (o0 + x8_4)).f3).f4), .bool (((rd zm1_0_4 (o0 + x8_4)).f3).f5), .bool (((rd zm1_0_4 (o0 + x8_4)).f3).f6), .bool (((rd zm1_0_4 (o0 + x8_4)).f3).f7), .bool (((rd zm1_0_4 (o0 + x8_4)).f3).f8), .bool (((rd zm1_0_4 (o0 + x8_4)).f3).f9)]) Try.underlying70 rfl sz70 rfl rfl rfl) ?_)
          obtain ⟨r16, C17, H⟩ := g_bind H
          refine RA_yesB rfl rfl rfl rfl (dec_t h15) (OA_callA [1, 0] [2] rfl (X_fnV (vs := [.int .i64 (IntKind.i64.wrap (x8_4 + 1)), .int .u8 0, .agg #[.int .i64 (((rd zm1_0_4 (o0 + x8_4)).f3).f0), .int .i64 (((rd zm1_0_4 (o0 + x8_4)).f3).f1), .bool (((rd zm1_0_4 (o0 + x8_4)).f3).f2), .bool (((rd zm1_0_4 (o0 + x8_4)).f3).f3), .bool (((rd zm1_0_4 (o0 + x8_4)).f3).f4), .bool (((rd zm1_0_4 (o0 + x8_4)).f3).f5), .bool (((rd zm1_0_4 (o0 + x8_4)).f3).f6), .bool (((rd zm1_0_4 (o0 + x8_4)).f3).f7), .bool (((rd zm1_0_4 (o0 + x8_4)).f3).f8), .bool (((rd zm1_0_4 (o0 + x8_4)).f3).f9)]]) (cap := [.pointer (some ⟨b2, 0, none⟩)]) rfl Try.func109 nm109 rfl rfl) rfl (F109w3.ok (a0 := IntKind.i64.wrap (x8_4 + 1)) (a1 := 0) (a2 := ((rd zm1_0_4 (o0 + x8_4)).f3)) (b3_ := b2) (p3 := zm1_0_4) (o3 := o0) (n3 := n0) (A3 := A0) (c3 := c0) (V3 := V0) (v3 := v0) (hw3 := hw0) C17) rfl ?_)
          rintro _ _ ⟨rfl, rfl⟩
          refine RA_yesB rfl rfl rfl rfl (dec_t h15) (OA_v (v := .bool (!r16)) rfl (V_not rfl) ?_)
          refine RA_step rfl (OA_v rfl (V_pickT rfl (dec_t h15) rfl) ?_)
          have hr_ := Option.some.inj H
          subst hr_
          refine RA_nil ?_
          exact at_normal (St.mk1 (aeq rfl (aeq rfl (aeq rfl (aeq rfl (aeq rfl (aeq rfl (aeq rfl (aeq rfl aeq0)))))))) (Gh.sel [1, 0, 2] rfl rfl))
        replace H := g_iff h15 H
        refine RA_noB rfl rfl rfl rfl (dec_f h15) rfl ?_
        refine RA_noB rfl rfl rfl rfl (dec_f h15) rfl ?_
        refine RA_noB rfl rfl rfl rfl (dec_f h15) rfl ?_
        refine RA_noB rfl rfl rfl rfl (dec_f h15) rfl ?_
        refine RA_noB rfl rfl rfl rfl (dec_f h15) rfl ?_
        refine RA_noB rfl rfl rfl rfl (dec_f h15) rfl ?_
        refine RA_noB rfl rfl rfl rfl (dec_f h15) rfl ?_
        refine RA_step rfl (OA_v rfl (V_pickF rfl (dec_f h15) rfl) ?_)
        have hr_ := Option.some.inj H
        subst hr_
        refine RA_nil ?_
        exact at_normal (St.mk1 (aeq rfl (aeq rfl (aeq rfl (aeq rfl (aeq rfl (aeq rfl (aeq rfl (aeq rfl aeq0)))))))) (Gh.sel [0, 1, 2] rfl rfl))
      rintro e ds As hst18
      clear H
      have H := Bq14
      clear Bq14
      refine RA.of_St rfl hst18 fun junk => ?_
      refine RA_step rfl (OA_v (v := .bool q14) rfl (V_move rfl) ?_)
      obtain ⟨q19, H, Bq19⟩ := g_bind H
      refine RA_cut 13 (fun e ds As => St [(1, .pointer (some ⟨b2, 0, none⟩)), (2, .func (.func 109) #[] #[.pointer (some ⟨b2, 0, none⟩)]), (3, .int .i64 x8_4), (4, .pointer (some ⟨b12, 0, none⟩)), (6, .slice V0 n0.toNat v0), (7, .int .i64 n0), (8, .int .i64 x8_4), (38, .bool q19)] [Buf k76 76 A0 c0 zm1_0_4, Blk b2 148 [.slice V0 n0.toNat v0], Blk b12 76 (.int .i32 ((rd zm1_0_4 (o0 + x8_4)).f0) :: .int .i32 (((rd zm1_0_4 (o0 + x8_4)).f1).f0) :: .int .i32 (((rd zm1_0_4 (o0 + x8_4)).f1).f1) :: .int .i32 (((rd zm1_0_4 (o0 + x8_4)).f1).f2) :: .int .u8 ((rd zm1_0_4 (o0 + x8_4)).f2) :: .int .i64 (((rd zm1_0_4 (o0 + x8_4)).f3).f0) :: .int .i64 (((rd zm1_0_4 (o0 + x8_4)).f3).f1) :: .bool (((rd zm1_0_4 (o0 + x8_4)).f3).f2) :: .bool (((rd zm1_0_4 (o0 + x8_4)).f3).f3) :: .bool (((rd zm1_0_4 (o0 + x8_4)).f3).f4) :: .bool (((rd zm1_0_4 (o0 + x8_4)).f3).f5) :: .bool (((rd zm1_0_4 (o0 + x8_4)).f3).f6) :: .bool (((rd zm1_0_4 (o0 + x8_4)).f3).f7) :: .bool (((rd zm1_0_4 (o0 + x8_4)).f3).f8) :: .bool (((rd zm1_0_4 (o0 + x8_4)).f3).f9) :: [])] e ds As) ?_ ?_
      · by_cases h20 : q14 = true
        · replace H := g_ift h20 H
          refine RA_noB rfl rfl rfl rfl (h20) rfl ?_
          refine RA_noB rfl rfl rfl rfl (h20) rfl ?_
          refine RA_noB rfl rfl rfl rfl (h20) rfl ?_
          refine RA_noB rfl rfl rfl rfl (h20) rfl ?_
          refine RA_noU rfl rfl rfl rfl rfl ?_
          refine RA_noU rfl rfl rfl rfl rfl ?_
          refine RA_noU rfl rfl rfl rfl rfl ?_
          refine RA_noU rfl rfl rfl rfl rfl ?_
          refine RA_noU rfl rfl rfl rfl rfl ?_
          refine RA_noU rfl rfl rfl rfl rfl ?_
          refine RA_noU rfl rfl rfl rfl rfl ?_
          refine RA_noB rfl rfl rfl rfl (h20) rfl ?_
          refine RA_step rfl (OA_v rfl (V_pickT rfl (h20) rfl) ?_)
          have hr_ := Option.some.inj H
          subst hr_
          refine RA_nil ?_
          exact at_normal (St.mk1 (aeq rfl (aeq rfl (aeq rfl (aeq rfl (aeq rfl (aeq rfl (aeq rfl (aeq rfl aeq0)))))))) (Gh.sel [0, 1, 2] rfl rfl))
        replace H := g_iff h20 H
        refine RA_yesB rfl rfl rfl rfl (bno h20) (OA_v (v := .pointer (some ((⟨b12, 0, none⟩ : Addr).add 4))) rfl (V_fieldAddrN (B := ⟨b12, 0, none⟩) (m := 0) (o := 4) Try.underlying76 rfl nz5 rfl rfl) ?_)
        refine RA_yesB rfl rfl rfl rfl (bno h20) (OA_r rfl (VR_load_blk (b := b12) (m := 4) (k := 2) Try.underlying5 rfl rfl rfl rfl) ?_)
        refine RA_yesB rfl rfl rfl rfl (bno h20) (OA_v (v := .bool (decide (((rd zm1_0_4 (o0 + x8_4)).f2) = 0))) rfl (V_eql rfl rfl) ?_)
        refine RA_yesB rfl rfl rfl rfl (bno h20) (OA_v (v := .bool (decide (((rd zm1_0_4 (o0 + x8_4)).f2) = 0))) rfl (V_move rfl) ?_)
        by_cases h21 : ((rd zm1_0_4 (o0 + x8_4)).f2) = 0
        · replace H := g_ift h21 H
          refine RA_yesB rfl rfl rfl rfl (dec_t h21) (OA_v (v := .func (.func 109) #[] #[.pointer (some ⟨b2, 0, none⟩)]) rfl (V_move rfl) ?_)
          refine RA_yesB rfl rfl rfl rfl (dec_t h21) (OA_v (v := .int .i64 x8_4) rfl (V_move rfl) ?_)
          refine RA_yesB rfl rfl rfl rfl (dec_t h21) (OA_v (v := .int .i64 (IntKind.i64.wrap (x8_4 - 1))) rfl (V_sub rfl rfl) ?_)
          refine RA_yesB rfl rfl rfl rfl (dec_t h21) (OA_v (v := .pointer (some ((⟨b12, 0, none⟩ : Addr).add 5))) rfl (V_fieldAddrN (B := ⟨b12, 0, none⟩) (m := 0) (o := 5) Try.underlying76 rfl nz70 rfl rfl) ?_)
          refine RA_yesB rfl rfl rfl rfl (dec_t h21) (OA_r rfl (VR_loadA_blk (b := b12) (m := 5) (k := 2) (vs := [.int .i64 (((rd zm1_0_4 (o0 + x8_4)).f3).f0), .int .i64 (((rd zm1_0_4 (o0 + x8_4)).f3).f1), .bool (((rd zm1_0_4 (o0 + x8_4)).f3).f2), .bool (((rd zm1_0_4 (o0 + x8_4)).f3).f3), .bool (((rd zm1_0_4 (o0 + x8_4)).f3).f4), .bool (((rd zm1_0_4 (o0 + x8_4)).f3).f5), .bool (((rd zm1_0_4 (o0 + x8_4)).f3).f6), .bool (((rd zm1_0_4 (o0 + x8_4)).f3).f7), .bool (((rd zm1_0_4 (o0 + x8_4)).f3).f8), .bool (((rd zm1_0_4 (o0 + x8_4)).f3).f9)]) Try.underlying70 rfl sz70 rfl rfl rfl) ?_)
          obtain ⟨r22, C23, H⟩ := g_bind H
          refine RA_yesB rfl rfl rfl rfl (dec_t h21) (OA_callA [1, 0] [2] rfl (X_fnV (vs := [.int .i64 (IntKind.i64.wrap (x8_4 - 1)), .int .u8 2, .agg #[.int .i64 (((rd zm1_0_4 (o0 + x8_4)).f3).f0), .int .i64 (((rd zm1_0_4 (o0 + x8_4)).f3).f1), .bool (((rd zm1_0_4 (o0 + x8_4)).f3).f2), .bool (((rd zm1_0_4 (o0 + x8_4)).f3).f3), .bool (((rd zm1_0_4 (o0 + x8_4)).f3).f4), .bool (((rd zm1_0_4 (o0 + x8_4)).f3).f5), .bool (((rd zm1_0_4 (o0 + x8_4)).f3).f6), .bool (((rd zm1_0_4 (o0 + x8_4)).f3).f7), .bool (((rd zm1_0_4 (o0 + x8_4)).f3).f8), .bool (((rd zm1_0_4 (o0 + x8_4)).f3).f9)]]) (cap := [.pointer (some ⟨b2, 0, none⟩)]) rfl Try.func109 nm109 rfl rfl) rfl (F109w3.ok (a0 := IntKind.i64.wrap (x8_4 - 1)) (a1 := 2) (a2 := ((rd zm1_0_4 (o0 + x8_4)).f3)) (b3_ := b2) (p3 := zm1_0_4) (o3 := o0) (n3 := n0) (A3 := A0) (c3 := c0) (V3 := V0) (v3 := v0) (hw3 := hw0) C23) rfl ?_)
          rintro _ _ ⟨rfl, rfl⟩
          refine RA_yesB rfl rfl rfl rfl (dec_t h21) (OA_v (v := .bool (!r22)) rfl (V_not rfl) ?_)
          refine RA_yesB rfl rfl rfl rfl (bno h20) (OA_v rfl (V_pickT rfl (dec_t h21) rfl) ?_)
          refine RA_step rfl (OA_v rfl (V_pickF rfl (bno h20) rfl) ?_)
          have hr_ := Option.some.inj H
          subst hr_
          refine RA_nil ?_
          exact at_normal (St.mk1 (aeq rfl (aeq rfl (aeq rfl (aeq rfl (aeq rfl (aeq rfl (aeq rfl (aeq rfl aeq0)))))))) (Gh.sel [1, 0, 2] rfl rfl))
        replace H := g_iff h21 H
        refine RA_noB rfl rfl rfl rfl (dec_f h21) rfl ?_
        refine RA_noB rfl rfl rfl rfl (dec_f h21) rfl ?_
        refine RA_noB rfl rfl rfl rfl (dec_f h21) rfl ?_
        refine RA_noB rfl rfl rfl rfl (dec_f h21) rfl ?_
        refine RA_noB rfl rfl rfl rfl (dec_f h21) rfl ?_
        refine RA_noB rfl rfl rfl rfl (dec_f h21) rfl ?_
        refine RA_noB rfl rfl rfl rfl (dec_f h21) rfl ?_
        refine RA_yesB rfl rfl rfl rfl (bno h20) (OA_v rfl (V_pickF rfl (dec_f h21) rfl) ?_)
        refine RA_step rfl (OA_v rfl (V_pickF rfl (bno h20) rfl) ?_)
        have hr_ := Option.some.inj H
        subst hr_
        refine RA_nil ?_
        exact at_normal (St.mk1 (aeq rfl (aeq rfl (aeq rfl (aeq rfl (aeq rfl (aeq rfl (aeq rfl (aeq rfl aeq0)))))))) (Gh.sel [0, 1, 2] rfl rfl))
      rintro e ds As hst24
      clear H
      have H := Bq19
      clear Bq19
      refine RA_nil ?_
      refine at_normal ?_
      refine SA.of_St hst24 fun junk => ?_
      by_cases h25 : q19 = true
      · replace H := g_ift h25 H
        refine SA_condTb rfl h25 ?_
        refine SA_drawHq [0, 1, 2, 3, 5] #[[], [], [], [2], [2, 3], [0, 1, 2, 3], [0, 1, 2, 3, 5]] [0, 1, 2] [] mixed rfl rfl rfl (PanOk.inb (PanOk.thn (PanOk.thn (PanOk.inb (PanOk.thn PanOk.body))))) fun I0 hS h0 hh0 w0 sH dd pk => ?_
        refine DH_take 0 (by kernel_rfl) rfl rfl (.no rfl) pk sH rfl (VR_load_blk (b := b2) (m := 0) (k := 1) Try.underlying148 rfl rfl rfl rfl) ?_
        refine DH_take (v := .int .i64 x8_4) 1 (by kernel_rfl) rfl rfl (.no rfl) pk sH rfl (VR.ofV (V_move rfl)) ?_
        refine DH_take (v := .pointer (some ((⟨b12, 0, none⟩ : Addr).add 5))) 2 (by kernel_rfl) rfl rfl (.no rfl) pk sH rfl (VR.ofV (V_fieldAddrN (B := ⟨b12, 0, none⟩) (m := 0) (o := 5) Try.underlying76 rfl nz70 rfl rfl)) ?_
        refine DH_take 3 (by kernel_rfl) rfl rfl (.no rfl) pk sH rfl (VR_loadA_blk (b := b12) (m := 5) (k := 2) (vs := [.int .i64 (((rd zm1_0_4 (o0 + x8_4)).f3).f0), .int .i64 (((rd zm1_0_4 (o0 + x8_4)).f3).f1), .bool (((rd zm1_0_4 (o0 + x8_4)).f3).f2), .bool (((rd zm1_0_4 (o0 + x8_4)).f3).f3), .bool (((rd zm1_0_4 (o0 + x8_4)).f3).f4), .bool (((rd zm1_0_4 (o0 + x8_4)).f3).f5), .bool (((rd zm1_0_4 (o0 + x8_4)).f3).f6), .bool (((rd zm1_0_4 (o0 + x8_4)).f3).f7), .bool (((rd zm1_0_4 (o0 + x8_4)).f3).f8), .bool (((rd zm1_0_4 (o0 + x8_4)).f3).f9)]) Try.underlying70 rfl sz70 rfl rfl rfl) ?_
        obtain ⟨r266, C267, H⟩ := g_bind H
        refine DH_one 4 dd (by kernel_rfl) rfl (.no rfl) (OA_callA [] [] rfl (X_fn (vs := [.agg #[.int .i64 (((rd zm1_0_4 (o0 + x8_4)).f3).f0), .int .i64 (((rd zm1_0_4 (o0 + x8_4)).f3).f1), .bool (((rd zm1_0_4 (o0 + x8_4)).f3).f2), .bool (((rd zm1_0_4 (o0 + x8_4)).f3).f3), .bool (((rd zm1_0_4 (o0 + x8_4)).f3).f4), .bool (((rd zm1_0_4 (o0 + x8_4)).f3).f5), .bool (((rd zm1_0_4 (o0 + x8_4)).f3).f6), .bool (((rd zm1_0_4 (o0 + x8_4)).f3).f7), .bool (((rd zm1_0_4 (o0 + x8_4)).f3).f8), .bool (((rd zm1_0_4 (o0 + x8_4)).f3).f9)]]) Try.func110 nm110 rfl rfl) rfl (F110.ok (a0 := ((rd zm1_0_4 (o0 + x8_4)).f3)) C267) rfl ?_)
        rintro _ _ ⟨rfl, rfl⟩
        obtain ⟨⟨g326, g327⟩, H⟩ := g_pos H
        have g328 : 0 ≤ o0 + x8_4 := by omega
        have g329 : o0 + x8_4 < (zm1_0_4.length : Int) := by omega
        refine DH_take 5 (by kernel_rfl) rfl rfl (.no rfl) pk sH rfl (VR_indexW (l := o0) (m := n0) (i := x8_4) (sz := 15) hw0 Try.underlying148 sz76 rfl rfl (Src.buf (k := 0) rfl) g326 g327 (by omega)) ?_
        refine DH_open dd sH ?_
        obtain ⟨n386, hn386, H⟩ := g_lt H
        have hl_n386 : n386.length = zm1_0_4.length := by rw [hn386]; exact List.length_set
        refine DN_one 6 (by kernel_rfl) rfl rfl (.no rfl) (OA_stEl (k := 0) (i := o0 + x8_4) (j := (o0 + x8_4).toNat * 15) (m := 0) (sz := 15) (xs := zm1_0_4) (vs := (.int .i32 r266.f0 :: .int .i32 r266.f1.f0 :: .int .i32 r266.f1.f1 :: .int .i32 r266.f1.f2 :: .int .u8 r266.f2 :: .int .i64 r266.f3.f0 :: .int .i64 r266.f3.f1 :: .bool r266.f3.f2 :: .bool r266.f3.f3 :: .bool r266.f3.f4 :: .bool r266.f3.f5 :: .bool r266.f3.f6 :: .bool r266.f3.f7 :: .bool r266.f3.f8 :: .bool r266.f3.f9 :: [])) r266 rfl rfl rfl rfl rfl rfl rfl rfl sz76 g328 g329 rfl (fun _ _ h_ => by subst h_; rfl) ?_)
        rewrite [← hn386]
        try rewrite [← hl_n386]
        refine DN_done (by kernel_rfl) ?_
        refine inb_normal ?_
        refine at_normal ?_
        refine SA_region ?_
        refine RA_step rfl (OA_v (v := .int .i64 (IntKind.i64.wrap (x8_4 + 1))) rfl (V_add rfl rfl) ?_)
        refine RA_step rfl (OA_v (v := .int .i64 (IntKind.i64.wrap (x8_4 + 1))) rfl (V_move rfl) ?_)
        refine RA_nil ?_
        exact at_normal ⟨k5, Nat.lt_succ_self _, _, _, H, St.mk1 (aeq rfl (aeq rfl (aeq rfl (aeq rfl (aeq rfl aeq0))))) (Gh.sel [0, 1] rfl rfl)⟩
      replace H := g_iff h25 H
      refine SA_condFb rfl h25 ?_
      refine SA_skip ?_
      refine inb_normal ?_
      refine at_normal ?_
      refine SA_region ?_
      refine RA_step rfl (OA_v (v := .int .i64 (IntKind.i64.wrap (x8_4 + 1))) rfl (V_add rfl rfl) ?_)
      refine RA_step rfl (OA_v (v := .int .i64 (IntKind.i64.wrap (x8_4 + 1))) rfl (V_move rfl) ?_)
      refine RA_nil ?_
      exact at_normal ⟨k5, Nat.lt_succ_self _, _, _, H, St.mk1 (aeq rfl (aeq rfl (aeq rfl (aeq rfl (aeq rfl aeq0))))) (Gh.sel [0, 1] rfl rfl)⟩
    replace H := g_iff h7 H
    refine SA_condF rfl h7 ?_
    refine SA_exit ?_
    refine thn_exit ?_
    refine thn_exit ?_
    refine inb_hit ?_
    have hr_ := Option.some.inj H
    subst hr_
    exact at_normal (St.mk1 aeq0 (Gh.sel [0] rfl rfl))
  rintro e ds As hst448
  clear H
  have H := Bt4
  clear Bt4
  obtain ⟨hl449, H⟩ := g_pos H
  have hr_ := Option.some.inj H
  subst hr_
  exact BQ_n0s hst448 [Buf k76 76 A0 c0 t4] rfl (Gh.sel [0] rfl rfl) ⟨rfl, rfl⟩

/-! ### function 87: (wayfarer/grid.Row).Put -/
def F87w0.f (k : Nat) (l0 : (List S76)) (o0 : Int) (n0 : Int) (a1 : Int) (l2 : (List S76)) : Option ((List S76)) := if 0 ≤ o0 ∧ 0 ≤ n0 ∧ o0 + n0 ≤ (l0.length : Int) then (if 0 ≤ a1 ∧ a1 ≤ n0 ∧ n0 ≤ n0 then (lt (over l0 (o0 + a1).toNat (l2.take (n0 - a1).toNat)) fun n10 => ((F81w0.f k n10 o0 n0).bind (fun r11 => if r11.length = n10.length then (some (r11)) else none))) else none) else none
set_option maxHeartbeats 2000000 in
set_option maxRecDepth 100000 in
theorem F87w0.ok {k : Nat} {l0 : (List S76)} {o0 : Int} {n0 : Int} {a1 : Int} {l2 : (List S76)} {A0 V0 : Option Addr} {c0 v0 : Nat} {A2 : Option Addr} {c2 : Nat} (hw0 : Win A0 V0 15 o0 n0 v0) {r : (List S76)} (H : F87w0.f k l0 o0 n0 a1 l2 = some r) : SCA Try.prog 87 #[.slice V0 n0.toNat v0, .int .i64 a1, .slice A2 l2.length c2] [Buf k76 76 A0 c0 l0, Ro k76 A2 c2 l2] (fun v B => v = .tuple #[] ∧ B = [Buf k76 76 A0 c0 r]) := by
  refine SCA_of_body Try.func87 rfl rfl ?_
  unfold F87w0.f at H
  obtain ⟨⟨g14, g15, g16⟩, H⟩ := g_pos H
  have hcv_hw0 := hw0.cap
  refine SA_seq ?_
  refine SA.fact (cap_of (k := 0) rfl) fun hc3 => ?_
  refine SA_region ?_
  refine RA_step rfl (OA_v (v := .slice V0 n0.toNat v0) rfl (V_move rfl) ?_)
  refine RA_step rfl (OA_v (v := .int .i64 a1) rfl (V_move rfl) ?_)
  obtain ⟨⟨g4, g5, g6⟩, H⟩ := g_pos H
  refine RA_step rfl (OA_v (v := .slice (slA V0 a1 ((v0 : Nat) : Int) 15) (n0 - a1).toNat (((v0 : Nat) : Int).toNat - a1.toNat)) rfl (V_sliceW (l := o0) (m := n0) (a := a1) (b := n0) (q := ((v0 : Nat) : Int)) hw0 Try.underlying148 sz76 rfl rfl rfl rfl (.inr ⟨_, rfl⟩) (.inl ⟨rfl, rfl, rfl⟩) (.inl ⟨rfl, rfl⟩) g4 g5 g6) ?_)
  have hW9 : Win A0 (slA V0 a1 ((v0 : Nat) : Int) 15) 15 (o0 + a1) (n0 - a1) (((v0 : Nat) : Int).toNat - a1.toNat) := Win.sub hw0 g4 g5 g6 (.inl rfl)
  refine RA_step rfl (OA_v (v := .slice A2 l2.length c2) rfl (V_move rfl) ?_)
  obtain ⟨n10, hn10, H⟩ := g_lt H
  have hl_n10 : n10.length = l0.length := by rw [hn10]; exact over_len (by rw [List.length_take]; omega)
  refine RA_step rfl (OA_copyV (k := 0) (l := o0 + a1) (m := n0 - a1) (xs := l0) (ys := l2) n10 hn10 hW9 rfl Try.underlying148 sz76 rfl rfl rfl (by omega) rfl (Cpy.slice (Src.ro (k := 1) rfl)) ?_)
  try rewrite [← hl_n10]
  refine RA_nil ?_
  refine at_normal ?_
  refine SA_region ?_
  refine RA_step rfl (OA_v (v := .slice V0 n0.toNat v0) rfl (V_move rfl) ?_)
  obtain ⟨r11, C13, H⟩ := g_bind H
  obtain ⟨hl12, H⟩ := g_pos H
  refine RA_step rfl (OA_callA [0] [1] rfl (X_fn (vs := [.slice V0 n0.toNat v0]) Try.func81 nm81 rfl rfl) rfl (F81w0.ok (l0 := n10) (o0 := o0) (n0 := n0) (A0 := A0) (c0 := c0) (V0 := V0) (v0 := v0) (hw0 := hw0) C13) rfl ?_)
  rintro _ _ ⟨rfl, rfl⟩
  try rewrite [← hl12]
  refine RA_nil ?_
  have hr_ := Option.some.inj H
  subst hr_
  exact BQ_n0 [Buf k76 76 A0 c0 r11] rfl (Gh.sel [0] rfl rfl) ⟨rfl, rfl⟩
end Go.Proofs.Ytodkeoibebimgaa.Gr

/- What a function computes, and that it does: 12. -/
import Derived.Test.YtodkeoibebimgaaSq0
import Derived.Test.YtodkeoibebimgaaSq4
import Derived.Test.YtodkeoibebimgaaSq5
import Derived.Test.YtodkeoibebimgaaSq6
import Derived.Test.YtodkeoibebimgaaSq7
namespace Go.Proofs.Ytodkeoibebimgaa.Sq
open Go Go.RowKit Go.Proofs.Ytodkeoibebimgaa.SL
set_option linter.unusedVariables false
set_option linter.unusedSimpArgs false
attribute [local irreducible] IntKind.wrap minI maxI shrI shlI andI orI xorI andNotI cplI rd sub bytesOf strOf slA
/-! ### function 12: wayfarer/wayfarerlaw23.SspTakes -/
def F12.l1 (r43 : Bool × Int × S121) (r51 : (List Int)) : Nat → Int → Option (Out (Bool) (Unit))
  | 0, _ => none
  | k + 1, x15_3244 => if x15_3244 < (r51.length : Int) then (if 0 ≤ x15_3244 ∧ x15_3244 < (r51.length : Int) then (if 0 ≤ x15_3244 ∧ x15_3244 < (r43.2.2.f0.length : Int) then (if (rd r51 x15_3244) ≠ ((rd r43.2.2.f0 x15_3244).f0) then (some (Out.ret (false))) else (lt (IntKind.i64.wrap (x15_3244 + 1)) fun n4030 => F12.l1 r43 r51 k n4030)) else none) else none) else (some (Out.go ()))
def F12.l0 (l1 : (List S54)) : Nat → S162 → S121 → Int → Option (Out (Bool) (Unit))
  | 0, _, _, _ => none
  | k + 1, x5_16, x6_16, x7_16 => if x7_16 < (l1.length : Int) then (if 0 ≤ x7_16 ∧ x7_16 < (l1.length : Int) then ((F52.f k x5_16 (rd l1 x7_16)).bind (fun r34 => if 0 ≤ x7_16 ∧ x7_16 < (l1.length : Int) then ((F55b0.f k x6_16 (rd l1 x7_16)).bind (fun r43 => (F53.f r34.2.2).bind (fun r48 => (F56.f k r34.2.2).bind (fun r51 => (if r34.1 ≠ r43.1 then (some true) else (if r34.2.1 ≠ r43.2.1 then (some true) else (if 0 ≤ (IntKind.i64.wrap ((r43.2.2.f0.length : Int) - 1)) ∧ (IntKind.i64.wrap ((r43.2.2.f0.length : Int) - 1)) < (r43.2.2.f0.length : Int) then (if r48.1 ≠ ((rd r43.2.2.f0 (IntKind.i64.wrap ((r43.2.2.f0.length : Int) - 1))).f0) then (some true) else (if 0 ≤ (IntKind.i64.wrap ((r43.2.2.f0.length : Int) - 1)) ∧ (IntKind.i64.wrap ((r43.2.2.f0.length : Int) - 1)) < (r43.2.2.f0.length : Int) then (if r48.2.f0 ≠ ((rd r43.2.2.f0 (IntKind.i64.wrap ((r43.2.2.f0.length : Int) - 1))).f1) then (some true) else (some (decide ((r51.length : Int) ≠ (r43.2.2.f0.length : Int))))) else none)) else none)) : Option (Bool)).bind (fun t55 => if t55 = true then (some (Out.ret (false))) else ((F12.l1 r43 r51 k 0 : Option (Out (Bool) (Unit))).bind (fun t3243 => Out.el t3243 (fun r_ => some (Out.ret r_)) (fun s3244 => lt (IntKind.i64.wrap (x7_16 + 1)) fun n4032 => F12.l0 l1 k r34.2.2 r43.2.2 n4032)))))))) else none)) else none) else (some (Out.go ()))
def F12.f (k : Nat) (a0 : ByteArray) (l1 : (List S54)) : Option (Bool) := (F51.f (S41.mk a0)).bind (fun r2 => (F54.f a0).bind (fun r8 => (F12.l0 l1 k r2 r8 0 : Option (Out (Bool) (Unit))).bind (fun t15 => Out.el t15 (fun r_ => some r_) (fun s16 => (F29.f k ).bind (fun r4038 => some (r4038))))))
set_option maxHeartbeats 2000000 in
set_option maxRecDepth 100000 in
theorem F12.ok {k : Nat} {a0 : ByteArray} {l1 : (List S54)} {A1 : Option Addr} {c1 : Nat} {r : Bool} (H : F12.f k a0 l1 = some r) : SCA Try.prog 12 #[.string a0, .slice A1 l1.length c1] [Ro k54 A1 c1 l1] (fun v B => v = .bool r ∧ B = []) := by
  refine SCA_of_body Try.func12 rfl rfl ?_
  unfold F12.f at H
  refine SA_seq ?_
  refine SA_region ?_
  refine RA_step rfl (OA_v (v := .bool false) rfl (V_assign rfl) ?_)
  refine RA_nil ?_
  refine at_normal ?_
  refine SA_seq ?_
  refine SA_region ?_
  refine RA_step rfl (OA_v (v := .string a0) rfl (V_move rfl) ?_)
  refine RA_step rfl (OA_v (v := .agg #[.string a0]) rfl (V_build (cells := [.string a0]) zero41 Try.underlying41 plc41 (by kernel_rfl)) ?_)
  obtain ⟨r2, C4041, H⟩ := g_bind H
  refine RA_step rfl (OA_callA [] [0] rfl (X_fn (vs := [.agg #[.string a0]]) Try.func51 nm51 rfl rfl) rfl (F51.ok (a0 := (S41.mk a0)) C4041) rfl ?_)
  rintro _ _ ⟨b3, A5, c6, rfl, rfl⟩
  refine RA_step rfl (OA_v (v := .string a0) rfl (V_move rfl) ?_)
  obtain ⟨r8, C4040, H⟩ := g_bind H
  refine RA_step rfl (OA_callA [] [0, 1, 2] rfl (X_fn (vs := [.string a0]) Try.func54 nm54 rfl rfl) rfl (F54.ok (a0 := a0) C4040) rfl ?_)
  rintro _ _ ⟨b9, A11, c12, rfl, rfl⟩
  refine RA_step rfl (OA_v (v := .pointer (some ⟨b3, 0, none⟩)) rfl (V_assign rfl) ?_)
  refine RA_step rfl (OA_v (v := .pointer (some ⟨b9, 0, none⟩)) rfl (V_assign rfl) ?_)
  refine RA_nil ?_
  refine at_normal ?_
  refine SA_seq ?_
  refine SA_seq ?_
  refine SA_region ?_
  refine RA_step rfl (OA_v (v := .pointer (some ⟨b3, 0, none⟩)) rfl (V_move rfl) ?_)
  refine RA_step rfl (OA_v (v := .bool false) rfl (V_eqlPN Try.underlying106 rfl rfl) ?_)
  refine RA_nil ?_
  refine at_normal ?_
  refine SA_condFb rfl (by decide) ?_
  refine SA_skip ?_
  refine at_normal ?_
  refine SA_seq ?_
  refine SA_seq ?_
  refine SA_region ?_
  refine RA_step rfl (OA_v (v := .int .i64 0) rfl (V_assign rfl) ?_)
  refine RA_nil ?_
  refine at_normal ?_
  obtain ⟨t15, H, Bt15⟩ := g_bind H
  refine SA_mid (fun e ds As => ∃ (s16 : Unit), t15 = Out.go s16 ∧ St [] [] e ds As) ?_ ?_
  · refine SA_block ?_
    refine SA_loop (fun k_ e ds As => ∃ (x5_16 : S162) (x6_16 : S121) (x7_16 : Int), ∃ (b17 : Nat), ∃ (A18 : Option Addr) (c19 : Nat), ∃ (b21 : Nat), ∃ (A22 : Option Addr) (c23 : Nat), F12.l0 l1 k_ x5_16 x6_16 x7_16 = some t15 ∧ St [(1, .slice A1 l1.length c1), (5, .pointer (some ⟨b17, 0, none⟩)), (6, .pointer (some ⟨b21, 0, none⟩)), (7, .int .i64 x7_16)] [Ro k54 A1 c1 l1, Blk b17 162 [.slice A18 x5_16.f0.length c19], Ro k128 A18 c19 x5_16.f0, Blk b21 121 [.slice A22 x6_16.f0.length c23], Buf k63 63 A22 c23 x6_16.f0] e ds As) (k := k) ⟨_, _, _, b3, A5, c6, b9, A11, c12, H, St.mk1 (aeq rfl (aeq rfl (aeq rfl (aeq rfl aeq0)))) ((Gh.freeze (k := 3) rfl).trans (Gh.sel [4, 2, 3, 0, 1] rfl rfl))⟩ ?_
    clear H
    rintro k25 e ds As ⟨x5_16, x6_16, x7_16, b17, A18, c19, b21, A22, c23, H, hst26⟩
    obtain _ | k25 := k25
    · cases H
    rw [F12.l0] at H
    refine SA.of_St hst26 fun junk => ?_
    refine SA_seq ?_
    refine SA_seq ?_
    refine SA_region ?_
    refine RA_step rfl (OA_v (v := .int .i64 x7_16) rfl (V_move rfl) ?_)
    refine RA_step rfl (OA_v (v := .slice A1 l1.length c1) rfl (V_move rfl) ?_)
    refine RA_step rfl (OA_v (v := .int .i64 (l1.length : Int)) rfl (V_len Try.underlying108 rfl) ?_)
    refine RA_step rfl (OA_v (v := .bool (decide (x7_16 < (l1.length : Int)))) rfl (V_lss rfl rfl) ?_)
    refine RA_nil ?_
    refine at_normal ?_
    by_cases h27 : x7_16 < (l1.length : Int)
    · replace H := g_ift h27 H
      refine SA_condT rfl h27 ?_
      refine SA_skip ?_
      refine at_normal ?_
      refine SA_seq ?_
      refine SA_block ?_
      refine SA_seq ?_
      refine SA.fact (cap_of (k := 4) rfl) fun hc28 => ?_
      refine SA_region ?_
      refine RA_step rfl (OA_v (v := .pointer (some ⟨b17, 0, none⟩)) rfl (V_move rfl) ?_)
      refine RA_step rfl (OA_v (v := .slice A1 l1.length c1) rfl (V_move rfl) ?_)
      refine RA_step rfl (OA_v (v := .int .i64 x7_16) rfl (V_move rfl) ?_)
      obtain ⟨⟨g29, g30⟩, H⟩ := g_pos H
      refine RA_step rfl (OA_r rfl (VR_index (i := x7_16) Try.underlying108 sz54 rfl rfl (Src.ro (k := 0) rfl) g29 g30) ?_)
      refine RA_step rfl (OA_loadSlA (i := x7_16) (j := x7_16.toNat * 5) (m := 0) (sz := 5) (k := 5) (fun vs_ Bs_ => ∃ (A31 : Option Addr) (c32 : Nat), vs_ = [.int .u64 ((rd l1 x7_16).f0), .int .u64 ((rd l1 x7_16).f1), .int .u64 ((rd l1 x7_16).f2), .int .u64 ((rd l1 x7_16).f3), .slice A31 ((rd l1 x7_16).f4).length c32] ∧ Bs_ = [Ro (Kd.int .u8) A31 c32 ((rd l1 x7_16).f4)]) rfl Try.underlying54 rfl sz54 rfl rfl rfl (Src.ro (k := 0) rfl) g29 g30 (fun _ _ ⟨_, ⟨A31, c32, e_, eb_⟩, hp_⟩ => ⟨_, ⟨A31, c32, by subst e_; rfl, rfl⟩, fun B_ hB_ => hp_ B_ (by subst eb_; first | exact hB_ | (simp only [List.mem_cons, List.not_mem_nil, or_false] at hB_ ⊢; first | exact hB_ | simp [hB_]))⟩) (fun _ _ ⟨_, _, e_, _⟩ => by subst e_; rfl) ?_)
      rintro _ _ ⟨A31, c32, rfl, rfl⟩
      obtain ⟨r34, C4036, H⟩ := g_bind H
      refine RA_step rfl (OA_callA [1, 2, 5] [0, 2, 3, 4, 5] rfl (X_fn (vs := [.pointer (some ⟨b17, 0, none⟩), .agg #[.int .u64 ((rd l1 x7_16).f0), .int .u64 ((rd l1 x7_16).f1), .int .u64 ((rd l1 x7_16).f2), .int .u64 ((rd l1 x7_16).f3), .slice A31 ((rd l1 x7_16).f4).length c32]]) Try.func52 nm52 rfl rfl) rfl (F52.ok (b0_ := b17) (A0_0 := A18) (c0_0 := c19) (p0 := x5_16) (a1 := (rd l1 x7_16)) (A1_0 := A31) (c1_0 := c32) C4036) rfl ?_)
      rintro _ _ ⟨A35, c36, rfl, rfl⟩
      refine RA_step rfl (OA_v (v := .tuple #[.bool r34.1, .int .i64 r34.2.1]) rfl (V_move rfl) ?_)
      refine RA_step rfl (OA_v (v := .bool r34.1) rfl (V_extract rfl rfl) ?_)
      refine RA_step rfl (OA_v (v := .int .i64 r34.2.1) rfl (V_extract rfl rfl) ?_)
      refine RA_step rfl (OA_v (v := .bool r34.1) rfl (V_assign rfl) ?_)
      refine RA_step rfl (OA_v (v := .int .i64 r34.2.1) rfl (V_assign rfl) ?_)
      refine RA_nil ?_
      refine at_normal ?_
      refine SA_seq ?_
      refine SA_region ?_
      refine RA_step rfl (OA_v (v := .pointer (some ⟨b21, 0, none⟩)) rfl (V_move rfl) ?_)
      refine RA_step rfl (OA_v (v := .slice A1 l1.length c1) rfl (V_move rfl) ?_)
      refine RA_step rfl (OA_v (v := .int .i64 x7_16) rfl (V_move rfl) ?_)
      obtain ⟨⟨g38, g39⟩, H⟩ := g_pos H
      refine RA_step rfl (OA_r rfl (VR_index (i := x7_16) Try.underlying108 sz54 rfl rfl (Src.ro (k := 2) rfl) g38 g39) ?_)
      refine RA_step rfl (OA_loadSlA (i := x7_16) (j := x7_16.toNat * 5) (m := 0) (sz := 5) (k := 5) (fun vs_ Bs_ => ∃ (A40 : Option Addr) (c41 : Nat), vs_ = [.int .u64 ((rd l1 x7_16).f0), .int .u64 ((rd l1 x7_16).f1), .int .u64 ((rd l1 x7_16).f2), .int .u64 ((rd l1 x7_16).f3), .slice A40 ((rd l1 x7_16).f4).length c41] ∧ Bs_ = [Ro (Kd.int .u8) A40 c41 ((rd l1 x7_16).f4)]) rfl Try.underlying54 rfl sz54 rfl rfl rfl (Src.ro (k := 2) rfl) g38 g39 (fun _ _ ⟨_, ⟨A40, c41, e_, eb_⟩, hp_⟩ => ⟨_, ⟨A40, c41, by subst e_; rfl, rfl⟩, fun B_ hB_ => hp_ B_ (by subst eb_; first | exact hB_ | (simp only [List.mem_cons, List.not_mem_nil, or_false] at hB_ ⊢; first | exact hB_ | simp [hB_]))⟩) (fun _ _ ⟨_, _, e_, _⟩ => by subst e_; rfl) ?_)
      rintro _ _ ⟨A40, c41, rfl, rfl⟩
      obtain ⟨r43, C4035, H⟩ := g_bind H
      refine RA_step rfl (OA_callA [4, 5, 7] [0, 1, 2, 3, 6, 7] rfl (X_fn (vs := [.pointer (some ⟨b21, 0, none⟩), .agg #[.int .u64 ((rd l1 x7_16).f0), .int .u64 ((rd l1 x7_16).f1), .int .u64 ((rd l1 x7_16).f2), .int .u64 ((rd l1 x7_16).f3), .slice A40 ((rd l1 x7_16).f4).length c41]]) Try.func55 nm55 rfl rfl) rfl (F55b0.ok (b0_ := b21) (A0_0 := A22) (c0_0 := c23) (p0 := x6_16) (a1 := (rd l1 x7_16)) (A1_0 := A40) (c1_0 := c41) C4035) rfl ?_)
      rintro _ _ ⟨A44, c45, rfl, rfl⟩
      refine RA_step rfl (OA_v (v := .tuple #[.bool r43.1, .int .i64 r43.2.1]) rfl (V_move rfl) ?_)
      refine RA_step rfl (OA_v (v := .bool r43.1) rfl (V_extract rfl rfl) ?_)
      refine RA_step rfl (OA_v (v := .int .i64 r43.2.1) rfl (V_extract rfl rfl) ?_)
      refine RA_step rfl (OA_v (v := .bool r43.1) rfl (V_assign rfl) ?_)
      refine RA_step rfl (OA_v (v := .int .i64 r43.2.1) rfl (V_assign rfl) ?_)
      refine RA_nil ?_
      refine at_normal ?_
      refine SA.of_St (l := [(1, .slice A1 l1.length c1), (5, .pointer (some ⟨b17, 0, none⟩)), (6, .pointer (some ⟨b21, 0, none⟩)), (7, .int .i64 x7_16), (8, .bool r34.1), (9, .int .i64 r34.2.1), (10, .bool r43.1), (11, .int .i64 r43.2.1)]) (B := [Ro k54 A1 c1 l1, Blk b17 162 [.slice A35 r34.2.2.f0.length c36], Ro k128 A35 c36 r34.2.2.f0, Blk b21 121 [.slice A44 r43.2.2.f0.length c45], Buf k63 63 A44 c45 r43.2.2.f0]) (St.mk1 (aeq rfl (aeq rfl (aeq rfl (aeq rfl (aeq rfl (aeq rfl (aeq rfl (aeq rfl aeq0)))))))) (Gh.sel [4, 2, 3, 0, 1] (by kernel_rfl) (by kernel_rfl))) fun junk => ?_
      refine SA_seq ?_
      refine SA.fact (cap_of (k := 4) rfl) fun hc47 => ?_
      refine SA_region ?_
      refine RA_step rfl (OA_v (v := .pointer (some ⟨b17, 0, none⟩)) rfl (V_move rfl) ?_)
      obtain ⟨r48, C4034, H⟩ := g_bind H
      refine RA_step rfl (OA_callA [1, 2] [0, 2, 3, 4] rfl (X_fn (vs := [.pointer (some ⟨b17, 0, none⟩)]) Try.func53 nm53 rfl rfl) rfl (F53.ok (b0_ := b17) (A0_0 := A35) (c0_0 := c36) (p0 := r34.2.2) C4034) rfl ?_)
      rintro _ _ ⟨rfl, rfl⟩
      refine RA_step rfl (OA_v (v := .tuple #[.int .u64 r48.1, .agg #[.string r48.2.f0]]) rfl (V_move rfl) ?_)
      refine RA_step rfl (OA_v (v := .int .u64 r48.1) rfl (V_extract rfl rfl) ?_)
      refine RA_step rfl (OA_v (v := .agg #[.string r48.2.f0]) rfl (V_extract rfl rfl) ?_)
      refine RA_step rfl (OA_alloc rfl zero41 fun b49 => ?_)
      refine RA_step rfl (OA_v (v := .int .u64 r48.1) rfl (V_assign rfl) ?_)
      refine RA_step rfl (OA_st (b := b49) (m := 0) (k := 5) (vs := [.string r48.2.f0]) (cs' := [.string r48.2.f0]) rfl rfl rfl rfl rfl rfl sz41 rfl rfl ?_)
      refine RA_nil ?_
      refine at_normal ?_
      refine SA_seq ?_
      refine SA_region ?_
      refine RA_step rfl (OA_v (v := .pointer (some ⟨b17, 0, none⟩)) rfl (V_move rfl) ?_)
      obtain ⟨r51, C4033, H⟩ := g_bind H
      refine RA_step rfl (OA_callA [0, 2] [1, 2, 3, 4, 5] rfl (X_fn (vs := [.pointer (some ⟨b17, 0, none⟩)]) Try.func56 nm56 rfl rfl) rfl (F56.ok (b0_ := b17) (A0_0 := A35) (c0_0 := c36) (p0 := r34.2.2) C4033) rfl ?_)
      rintro _ _ ⟨A52, c53, rfl, rfl⟩
      refine RA_step rfl (OA_v (v := .slice A52 r51.length c53) rfl (V_assign rfl) ?_)
      refine RA_nil ?_
      refine at_normal ?_
      refine SA_seq ?_
      refine SA_seq ?_
      obtain ⟨t55, H, Bt55⟩ := g_bind H
      refine SA_mid (fun e ds As => St [(1, .slice A1 l1.length c1), (5, .pointer (some ⟨b17, 0, none⟩)), (6, .pointer (some ⟨b21, 0, none⟩)), (7, .int .i64 x7_16), (14, .slice A52 r51.length c53), (106, .bool t55)] [Ro k54 A1 c1 l1, Blk b17 162 [.slice A35 r34.2.2.f0.length c36], Ro k128 A35 c36 r34.2.2.f0, Blk b21 121 [.slice A44 r43.2.2.f0.length c45], Buf k63 63 A44 c45 r43.2.2.f0, Buf (Kd.int .u64) 44 A52 c53 r51] e ds As) ?_ ?_
      · refine SA_drawHq (0 :: 1 :: 2 :: 3 :: 4 :: 5 :: 6 :: 7 :: 8 :: 9 :: 10 :: 11 :: 12 :: 13 :: 14 :: 15 :: 16 :: 17 :: 18 :: 19 :: 20 :: 21 :: 22 :: 23 :: 24 :: 25 :: 26 :: 27 :: 28 :: 29 :: 30 :: 31 :: 32 :: 33 :: 34 :: 35 :: 36 :: 37 :: 38 :: 39 :: 40 :: 41 :: 42 :: 43 :: 44 :: 45 :: 46 :: 47 :: 48 :: 49 :: 50 :: 51 :: 52 :: []) (List.toArray ([] :: [] :: [0, 1] :: [0, 1, 2] :: [0, 1, 2, 3] :: [0, 1, 2, 3] :: [0, 1, 2, 3, 4, 5] :: [0, 1, 2, 3, 4, 5, 6] :: [0, 1, 2, 3, 4, 5, 6, 7] :: [0, 1, 2, 3, 4, 5, 6, 7, 8] :: [0, 1, 2, 3, 4, 5, 6, 7, 8] :: [0, 1, 2, 3, 4, 5, 6, 7, 8, 10] :: [0, 1, 2, 3, 4, 5, 6, 7, 8, 10, 11] :: [0, 1, 2, 3, 4, 5, 6, 7, 8, 10, 11, 12] :: [0, 1, 2, 3, 4, 5, 6, 7, 8] :: [0, 1, 2, 3, 4, 5, 6, 7, 8, 14] :: [0, 1, 2, 3, 4, 5, 6, 7, 8, 14, 15] :: [0, 1, 2, 3, 4, 5, 6, 7, 8, 14, 15, 16] :: (0 :: 1 :: 2 :: 3 :: 4 :: 5 :: 6 :: 7 :: 8 :: 14 :: 15 :: 16 :: 17 :: []) :: (0 :: 1 :: 2 :: 3 :: 4 :: 5 :: 6 :: 7 :: 8 :: 14 :: 15 :: 16 :: 17 :: 18 :: []) :: (0 :: 1 :: 2 :: 3 :: 4 :: 5 :: 6 :: 7 :: 8 :: 10 :: 11 :: 12 :: 13 :: 14 :: 15 :: 16 :: 17 :: 18 :: 19 :: []) :: (0 :: 1 :: 2 :: 3 :: 4 :: 5 :: 6 :: 7 :: 8 :: 10 :: 11 :: 12 :: 13 :: 14 :: 15 :: 16 :: 17 :: 18 :: 19 :: 20 :: []) :: (0 :: 1 :: 2 :: 3 :: 4 :: 5 :: 6 :: 7 :: 8 :: 10 :: 11 :: 12 :: 13 :: 14 :: 15 :: 16 :: 17 :: 18 :: 19 :: 20 :: 21 :: []) :: (0 :: 1 :: 2 :: 3 :: 4 :: 5 :: 6 :: 7 :: 8 :: 9 :: 10 :: 11 :: 12 :: 13 :: 14 :: 15 :: 16 :: 17 :: 18 :: 19 :: 20 :: 21 :: 22 :: []) :: (0 :: 1 :: 2 :: 3 :: 4 :: 5 :: 6 :: 7 :: 8 :: 9 :: 10 :: 11 :: 12 :: 13 :: 14 :: 15 :: 16 :: 17 :: 18 :: 19 :: 20 :: 21 :: 22 :: 23 :: []) :: (0 :: 1 :: 2 :: 3 :: 4 :: 5 :: 6 :: 7 :: 8 :: 9 :: 10 :: 11 :: 12 :: 13 :: 14 :: 15 :: 16 :: 17 :: 18 :: 19 :: 20 :: 21 :: 22 :: 23 :: 24 :: []) :: (0 :: 1 :: 2 :: 3 :: 4 :: 5 :: 6 :: 7 :: 8 :: 9 :: 10 :: 11 :: 12 :: 13 :: 14 :: 15 :: 16 :: 17 :: 18 :: 19 :: 20 :: 21 :: 22 :: 23 :: 24 :: 25 :: []) :: (0 :: 1 :: 2 :: 3 :: 4 :: 5 :: 6 :: 7 :: 8 :: 9 :: 10 :: 11 :: 12 :: 13 :: 14 :: 15 :: 16 :: 17 :: 18 :: 19 :: 20 :: 21 :: 22 :: 23 :: 24 :: 25 :: 26 :: []) :: (0 :: 1 :: 2 :: 3 :: 4 :: 5 :: 6 :: 7 :: 8 :: 9 :: 10 :: 11 :: 12 :: 13 :: 14 :: 15 :: 16 :: 17 :: 18 :: 19 :: 20 :: 21 :: 22 :: 23 :: 24 :: 25 :: []) :: (0 :: 1 :: 2 :: 3 :: 4 :: 5 :: 6 :: 7 :: 8 :: 9 :: 10 :: 11 :: 12 :: 13 :: 14 :: 15 :: 16 :: 17 :: 18 :: 19 :: 20 :: 21 :: 22 :: 23 :: 24 :: 25 :: 28 :: []) :: (0 :: 1 :: 2 :: 3 :: 4 :: 5 :: 6 :: 7 :: 8 :: 9 :: 10 :: 11 :: 12 :: 13 :: 14 :: 15 :: 16 :: 17 :: 18 :: 19 :: 20 :: 21 :: 22 :: 23 :: 24 :: 25 :: 28 :: 29 :: []) :: (0 :: 1 :: 2 :: 3 :: 4 :: 5 :: 6 :: 7 :: 8 :: 9 :: 10 :: 11 :: 12 :: 13 :: 14 :: 15 :: 16 :: 17 :: 18 :: 19 :: 20 :: 21 :: 22 :: 23 :: 24 :: 25 :: 28 :: 29 :: 30 :: []) :: (0 :: 1 :: 2 :: 3 :: 4 :: 5 :: 6 :: 7 :: 8 :: 9 :: 10 :: 11 :: 12 :: 13 :: 14 :: 15 :: 16 :: 17 :: 18 :: 19 :: 20 :: 21 :: 22 :: 23 :: 24 :: 25 :: []) :: (0 :: 1 :: 2 :: 3 :: 4 :: 5 :: 6 :: 7 :: 8 :: 9 :: 10 :: 11 :: 12 :: 13 :: 14 :: 15 :: 16 :: 17 :: 18 :: 19 :: 20 :: 21 :: 22 :: 23 :: 24 :: 25 :: 32 :: []) :: (0 :: 1 :: 2 :: 3 :: 4 :: 5 :: 6 :: 7 :: 8 :: 9 :: 10 :: 11 :: 12 :: 13 :: 14 :: 15 :: 16 :: 17 :: 18 :: 19 :: 20 :: 21 :: 22 :: 23 :: 24 :: 25 :: 32 :: 33 :: []) :: (0 :: 1 :: 2 :: 3 :: 4 :: 5 :: 6 :: 7 :: 8 :: 9 :: 10 :: 11 :: 12 :: 13 :: 14 :: 15 :: 16 :: 17 :: 18 :: 19 :: 20 :: 21 :: 22 :: 23 :: 24 :: 25 :: 32 :: 33 :: 34 :: []) :: (0 :: 1 :: 2 :: 3 :: 4 :: 5 :: 6 :: 7 :: 8 :: 9 :: 10 :: 11 :: 12 :: 13 :: 14 :: 15 :: 16 :: 17 :: 18 :: 19 :: 20 :: 21 :: 22 :: 23 :: 24 :: 25 :: 32 :: 33 :: 34 :: 35 :: []) :: (0 :: 1 :: 2 :: 3 :: 4 :: 5 :: 6 :: 7 :: 8 :: 9 :: 10 :: 11 :: 12 :: 13 :: 14 :: 15 :: 16 :: 17 :: 18 :: 19 :: 20 :: 21 :: 22 :: 23 :: 24 :: 25 :: 32 :: 33 :: 34 :: 35 :: 36 :: []) :: (0 :: 1 :: 2 :: 3 :: 4 :: 5 :: 6 :: 7 :: 8 :: 9 :: 10 :: 11 :: 12 :: 13 :: 14 :: 15 :: 16 :: 17 :: 18 :: 19 :: 20 :: 21 :: 22 :: 23 :: 24 :: 25 :: 28 :: 29 :: 30 :: 31 :: 32 :: 33 :: 34 :: 35 :: 36 :: 37 :: []) :: (0 :: 1 :: 2 :: 3 :: 4 :: 5 :: 6 :: 7 :: 8 :: 9 :: 10 :: 11 :: 12 :: 13 :: 14 :: 15 :: 16 :: 17 :: 18 :: 19 :: 20 :: 21 :: 22 :: 23 :: 24 :: 25 :: 28 :: 29 :: 30 :: 31 :: 32 :: 33 :: 34 :: 35 :: 36 :: 37 :: 38 :: []) :: (0 :: 1 :: 2 :: 3 :: 4 :: 5 :: 6 :: 7 :: 8 :: 9 :: 10 :: 11 :: 12 :: 13 :: 14 :: 15 :: 16 :: 17 :: 18 :: 19 :: 20 :: 21 :: 22 :: 23 :: 24 :: 25 :: 28 :: 29 :: 30 :: 31 :: 32 :: 33 :: 34 :: 35 :: 36 :: 37 :: 38 :: 39 :: []) :: (0 :: 1 :: 2 :: 3 :: 4 :: 5 :: 6 :: 7 :: 8 :: 9 :: 10 :: 11 :: 12 :: 13 :: 14 :: 15 :: 16 :: 17 :: 18 :: 19 :: 20 :: 21 :: 22 :: 23 :: 24 :: 25 :: 26 :: 27 :: 28 :: 29 :: 30 :: 31 :: 32 :: 33 :: 34 :: 35 :: 36 :: 37 :: 38 :: 39 :: 40 :: []) :: (0 :: 1 :: 2 :: 3 :: 4 :: 5 :: 6 :: 7 :: 8 :: 9 :: 10 :: 11 :: 12 :: 13 :: 14 :: 15 :: 16 :: 17 :: 18 :: 19 :: 20 :: 21 :: 22 :: 23 :: 24 :: 25 :: 26 :: 27 :: 28 :: 29 :: 30 :: 31 :: 32 :: 33 :: 34 :: 35 :: 36 :: 37 :: 38 :: 39 :: 40 :: 41 :: []) :: (0 :: 1 :: 2 :: 3 :: 4 :: 5 :: 6 :: 7 :: 8 :: 9 :: 10 :: 11 :: 12 :: 13 :: 14 :: 15 :: 16 :: 17 :: 18 :: 19 :: 20 :: 21 :: 22 :: 23 :: 24 :: 25 :: 26 :: 27 :: 28 :: 29 :: 30 :: 31 :: 32 :: 33 :: 34 :: 35 :: 36 :: 37 :: 38 :: 39 :: 40 :: 41 :: 42 :: []) :: (0 :: 1 :: 2 :: 3 :: 4 :: 5 :: 6 :: 7 :: 8 :: 9 :: 10 :: 11 :: 12 :: 13 :: 14 :: 15 :: 16 :: 17 :: 18 :: 19 :: 20 :: 21 :: 22 :: 23 :: 24 :: 25 :: 26 :: 27 :: 28 :: 29 :: 30 :: 31 :: 32 :: 33 :: 34 :: 35 :: 36 :: 37 :: 38 :: 39 :: 40 :: 41 :: 42 :: 43 :: []) :: (0 :: 1 :: 2 :: 3 :: 4 :: 5 :: 6 :: 7 :: 8 :: 9 :: 10 :: 11 :: 12 :: 13 :: 14 :: 15 :: 16 :: 17 :: 18 :: 19 :: 20 :: 21 :: 22 :: 23 :: 24 :: 25 :: 26 :: 27 :: 28 :: 29 :: 30 :: 31 :: 32 :: 33 :: 34 :: 35 :: 36 :: 37 :: 38 :: 39 :: 40 :: 41 :: 42 :: 43 :: 44 :: []) :: (0 :: 1 :: 2 :: 3 :: 4 :: 5 :: 6 :: 7 :: 8 :: 9 :: 10 :: 11 :: 12 :: 13 :: 14 :: 15 :: 16 :: 17 :: 18 :: 19 :: 20 :: 21 :: 22 :: 23 :: 24 :: 25 :: 26 :: 27 :: 28 :: 29 :: 30 :: 31 :: 32 :: 33 :: 34 :: 35 :: 36 :: 37 :: 38 :: 39 :: 40 :: 41 :: 42 :: 43 :: []) :: (0 :: 1 :: 2 :: 3 :: 4 :: 5 :: 6 :: 7 :: 8 :: 9 :: 10 :: 11 :: 12 :: 13 :: 14 :: 15 :: 16 :: 17 :: 18 :: 19 :: 20 :: 21 :: 22 :: 23 :: 24 :: 25 :: 26 :: 27 :: 28 :: 29 :: 30 :: 31 :: 32 :: 33 :: 34 :: 35 :: 36 :: 37 :: 38 :: 39 :: 40 :: 41 :: 42 :: 43 :: 46 :: []) :: (0 :: 1 :: 2 :: 3 :: 4 :: 5 :: 6 :: 7 :: 8 :: 9 :: 10 :: 11 :: 12 :: 13 :: 14 :: 15 :: 16 :: 17 :: 18 :: 19 :: 20 :: 21 :: 22 :: 23 :: 24 :: 25 :: 26 :: 27 :: 28 :: 29 :: 30 :: 31 :: 32 :: 33 :: 34 :: 35 :: 36 :: 37 :: 38 :: 39 :: 40 :: 41 :: 42 :: 43 :: 46 :: 47 :: []) :: (0 :: 1 :: 2 :: 3 :: 4 :: 5 :: 6 :: 7 :: 8 :: 9 :: 10 :: 11 :: 12 :: 13 :: 14 :: 15 :: 16 :: 17 :: 18 :: 19 :: 20 :: 21 :: 22 :: 23 :: 24 :: 25 :: 26 :: 27 :: 28 :: 29 :: 30 :: 31 :: 32 :: 33 :: 34 :: 35 :: 36 :: 37 :: 38 :: 39 :: 40 :: 41 :: 42 :: 43 :: 46 :: 47 :: 48 :: []) :: (0 :: 1 :: 2 :: 3 :: 4 :: 5 :: 6 :: 7 :: 8 :: 9 :: 10 :: 11 :: 12 :: 13 :: 14 :: 15 :: 16 :: 17 :: 18 :: 19 :: 20 :: 21 :: 22 :: 23 :: 24 :: 25 :: 26 :: 27 :: 28 :: 29 :: 30 :: 31 :: 32 :: 33 :: 34 :: 35 :: 36 :: 37 :: 38 :: 39 :: 40 :: 41 :: 42 :: 43 :: 46 :: 47 :: 48 :: 49 :: []) :: (0 :: 1 :: 2 :: 3 :: 4 :: 5 :: 6 :: 7 :: 8 :: 9 :: 10 :: 11 :: 12 :: 13 :: 14 :: 15 :: 16 :: 17 :: 18 :: 19 :: 20 :: 21 :: 22 :: 23 :: 24 :: 25 :: 26 :: 27 :: 28 :: 29 :: 30 :: 31 :: 32 :: 33 :: 34 :: 35 :: 36 :: 37 :: 38 :: 39 :: 40 :: 41 :: 42 :: 43 :: 44 :: 45 :: 46 :: 47 :: 48 :: 49 :: 50 :: []) :: (0 :: 1 :: 2 :: 3 :: 4 :: 5 :: 6 :: 7 :: 8 :: 9 :: 10 :: 11 :: 12 :: 13 :: 14 :: 15 :: 16 :: 17 :: 18 :: 19 :: 20 :: 21 :: 22 :: 23 :: 24 :: 25 :: 26 :: 27 :: 28 :: 29 :: 30 :: 31 :: 32 :: 33 :: 34 :: 35 :: 36 :: 37 :: 38 :: 39 :: 40 :: 41 :: 42 :: 43 :: 44 :: 45 :: 46 :: 47 :: 48 :: 49 :: 50 :: 51 :: []) :: [])) [2, 3, 4, 5, 6] [0, 1, 2, 3] mixed rfl rfl rfl (PanOk.thn (PanOk.thn (PanOk.thn (PanOk.inb (PanOk.thn (PanOk.thn (PanOk.inb (PanOk.thn (PanOk.thn PanOk.body))))))))) fun I0 hS h0 hh0 w0 sH dd pk => ?_
        refine DH_take (v := .bool r34.1) 0 (by kernel_rfl) rfl rfl (.no rfl) pk sH rfl (VR.ofV (V_move rfl)) ?_
        refine DH_take (v := .bool r43.1) 1 (by kernel_rfl) rfl rfl (.no rfl) pk sH rfl (VR.ofV (V_move rfl)) ?_
        refine DH_take (v := .bool (decide (r34.1 ≠ r43.1))) 2 (by kernel_rfl) rfl rfl (.no rfl) pk sH rfl (VR.ofV (V_neqB Try.underlying4 rfl rfl)) ?_
        refine DH_take (v := .bool (decide (r34.1 ≠ r43.1))) 3 (by kernel_rfl) rfl rfl (.no rfl) pk sH rfl (VR.ofV (V_move rfl)) ?_
        by_cases h3237 : r34.1 ≠ r43.1
        · replace H := g_ift h3237 H
          refine DH_skip 4 (by kernel_rfl) rfl rfl (.no rfl rfl rfl rfl (dec_t h3237)) pk rfl ?_
          refine DH_skip 5 (by kernel_rfl) rfl rfl (.no rfl rfl rfl rfl (dec_t h3237)) pk rfl ?_
          refine DH_skip 6 (by kernel_rfl) rfl rfl (.no rfl rfl rfl rfl (dec_t h3237)) pk rfl ?_
          refine DH_take 7 (by kernel_rfl) rfl rfl (.no rfl) pk sH rfl (VR.ofV (V_pickT rfl (dec_t h3237) rfl)) ?_
          refine DH_take (v := .bool true) 8 (by kernel_rfl) rfl rfl (.no rfl) pk sH rfl (VR.ofV (V_move rfl)) ?_
          refine DH_skip 9 (by kernel_rfl) rfl rfl (.no rfl rfl rfl rfl (rfl)) pk rfl ?_
          refine DH_skip 10 (by kernel_rfl) rfl rfl (.no rfl rfl rfl rfl (rfl)) pk rfl ?_
          refine DH_skip 11 (by kernel_rfl) rfl rfl (.no rfl rfl rfl rfl (rfl)) pk rfl ?_
          refine DH_skip 12 (by kernel_rfl) rfl rfl (.no rfl rfl rfl rfl (rfl)) pk rfl ?_
          refine DH_skip 13 (by kernel_rfl) rfl rfl (.no rfl rfl rfl rfl (rfl)) pk rfl ?_
          refine DH_skip 14 (by kernel_rfl) rfl rfl (.no rfl rfl rfl rfl (rfl)) pk rfl ?_
          refine DH_skip 15 (by kernel_rfl) rfl rfl (.no rfl rfl rfl rfl (rfl)) pk rfl ?_
          refine DH_skip 16 (by kernel_rfl) rfl rfl (.no rfl rfl rfl rfl (rfl)) pk rfl ?_
          refine DH_skip 17 (by kernel_rfl) rfl rfl (.no rfl rfl rfl rfl (rfl)) pk rfl ?_
          refine DH_skip 18 (by kernel_rfl) rfl rfl (.no rfl rfl rfl rfl (rfl)) pk rfl ?_
          refine DH_skip 19 (by kernel_rfl) rfl rfl (.no rfl rfl rfl rfl (rfl)) pk rfl ?_
          refine DH_skip 20 (by kernel_rfl) rfl rfl (.no rfl rfl rfl rfl (rfl)) pk rfl ?_
          refine DH_skip 21 (by kernel_rfl) rfl rfl (.no rfl rfl rfl rfl (rfl)) pk rfl ?_
          refine DH_skip 22 (by kernel_rfl) rfl rfl (.no rfl rfl rfl rfl (rfl)) pk rfl ?_
          refine DH_skip 23 (by kernel_rfl) rfl rfl (.no rfl rfl rfl rfl (rfl)) pk rfl ?_
          refine DH_take 24 (by kernel_rfl) rfl rfl (.no rfl) pk sH rfl (VR.ofV (V_pickT rfl (rfl) rfl)) ?_
          refine DH_take (v := .bool true) 25 (by kernel_rfl) rfl rfl (.no rfl) pk sH rfl (VR.ofV (V_move rfl)) ?_
          refine DH_skip 26 (by kernel_rfl) rfl rfl (.no rfl rfl rfl rfl (rfl)) pk rfl ?_
          refine DH_skip 27 (by kernel_rfl) rfl rfl (.no rfl rfl rfl rfl (rfl)) pk rfl ?_
          refine DH_skip 28 (by kernel_rfl) rfl rfl (.no rfl rfl rfl rfl (rfl)) pk rfl ?_
          refine DH_skip 29 (by kernel_rfl) rfl rfl (.no rfl rfl rfl rfl (rfl)) pk rfl ?_
          refine DH_skip 30 (by kernel_rfl) rfl rfl (.no rfl rfl rfl rfl (rfl)) pk rfl ?_
          refine DH_skip 31 (by kernel_rfl) rfl rfl (.no rfl rfl rfl rfl (rfl)) pk rfl ?_
          refine DH_skip 32 (by kernel_rfl) rfl rfl (.no rfl rfl rfl rfl (rfl)) pk rfl ?_
          refine DH_skip 33 (by kernel_rfl) rfl rfl (.no rfl rfl rfl rfl (rfl)) pk rfl ?_
          refine DH_skip 34 (by kernel_rfl) rfl rfl (.no rfl rfl rfl rfl (rfl)) pk rfl ?_
          refine DH_skip 35 (by kernel_rfl) rfl rfl (.no rfl rfl rfl rfl (rfl)) pk rfl ?_
          refine DH_skip 36 (by kernel_rfl) rfl rfl (.no rfl rfl rfl rfl (rfl)) pk rfl ?_
          refine DH_skip 37 (by kernel_rfl) rfl rfl (.no rfl rfl rfl rfl (rfl)) pk rfl ?_
          refine DH_skip 38 (by kernel_rfl) rfl rfl (.no rfl rfl rfl rfl (rfl)) pk rfl ?_
          refine DH_skip 39 (by kernel_rfl) rfl rfl (.no rfl rfl rfl rfl (rfl)) pk rfl ?_
          refine DH_skip 40 (by kernel_rfl) rfl rfl (.no rfl rfl rfl rfl (rfl)) pk rfl ?_
          refine DH_skip 41 (by kernel_rfl) rfl rfl (.no rfl rfl rfl rfl (rfl)) pk rfl ?_
          refine DH_take 42 (by kernel_rfl) rfl rfl (.no rfl) pk sH rfl (VR.ofV (V_pickT rfl (rfl) rfl)) ?_
          refine DH_take (v := .bool true) 43 (by kernel_rfl) rfl rfl (.no rfl) pk sH rfl (VR.ofV (V_move rfl)) ?_
          refine DH_skip 44 (by kernel_rfl) rfl rfl (.no rfl rfl rfl rfl (rfl)) pk rfl ?_
          refine DH_skip 45 (by kernel_rfl) rfl rfl (.no rfl rfl rfl rfl (rfl)) pk rfl ?_
          refine DH_skip 46 (by kernel_rfl) rfl rfl (.no rfl rfl rfl rfl (rfl)) pk rfl ?_
          refine DH_skip 47 (by kernel_rfl) rfl rfl (.no rfl rfl rfl rfl (rfl)) pk rfl ?_
          refine DH_skip 48 (by kernel_rfl) rfl rfl (.no rfl rfl rfl rfl (rfl)) pk rfl ?_
          refine DH_skip 49 (by kernel_rfl) rfl rfl (.no rfl rfl rfl rfl (rfl)) pk rfl ?_
          refine DH_skip 50 (by kernel_rfl) rfl rfl (.no rfl rfl rfl rfl (rfl)) pk rfl ?_
          refine DH_skip 51 (by kernel_rfl) rfl rfl (.no rfl rfl rfl rfl (rfl)) pk rfl ?_
          refine DH_take 52 (by kernel_rfl) rfl rfl (.no rfl) pk sH rfl (VR.ofV (V_pickT rfl (rfl) rfl)) ?_
          refine DH_open dd sH ?_
          refine DN_done (by kernel_rfl) ?_
          have hr_ := Option.some.inj H
          subst hr_
          exact at_normal (St.mk1 (aeq rfl (aeq rfl (aeq rfl (aeq rfl (aeq rfl (aeq rfl aeq0)))))) (Gh.sel [0, 6, 1, 2, 3, 5] rfl rfl))
        replace H := g_iff h3237 H
        refine DH_take (v := .int .i64 r34.2.1) 4 (by kernel_rfl) rfl rfl (.yes rfl rfl rfl rfl (dec_f h3237)) pk sH rfl (VR.ofV (V_move rfl)) ?_
        refine DH_take (v := .int .i64 r43.2.1) 5 (by kernel_rfl) rfl rfl (.yes rfl rfl rfl rfl (dec_f h3237)) pk sH rfl (VR.ofV (V_move rfl)) ?_
        refine DH_take (v := .bool (decide (r34.2.1 ≠ r43.2.1))) 6 (by kernel_rfl) rfl rfl (.yes rfl rfl rfl rfl (dec_f h3237)) pk sH rfl (VR.ofV (V_neq rfl rfl)) ?_
        refine DH_take 7 (by kernel_rfl) rfl rfl (.no rfl) pk sH rfl (VR.ofV (V_pickF rfl (dec_f h3237) rfl)) ?_
        refine DH_take (v := .bool (decide (r34.2.1 ≠ r43.2.1))) 8 (by kernel_rfl) rfl rfl (.no rfl) pk sH rfl (VR.ofV (V_move rfl)) ?_
        by_cases h3238 : r34.2.1 ≠ r43.2.1
        · replace H := g_ift h3238 H
          refine DH_skip 9 (by kernel_rfl) rfl rfl (.no rfl rfl rfl rfl (dec_t h3238)) pk rfl ?_
          refine DH_skip 10 (by kernel_rfl) rfl rfl (.no rfl rfl rfl rfl (dec_t h3238)) pk rfl ?_
          refine DH_skip 11 (by kernel_rfl) rfl rfl (.no rfl rfl rfl rfl (dec_t h3238)) pk rfl ?_
          refine DH_skip 12 (by kernel_rfl) rfl rfl (.no rfl rfl rfl rfl (dec_t h3238)) pk rfl ?_
          refine DH_skip 13 (by kernel_rfl) rfl rfl (.no rfl rfl rfl rfl (dec_t h3238)) pk rfl ?_
          refine DH_skip 14 (by kernel_rfl) rfl rfl (.no rfl rfl rfl rfl (dec_t h3238)) pk rfl ?_
          refine DH_skip 15 (by kernel_rfl) rfl rfl (.no rfl rfl rfl rfl (dec_t h3238)) pk rfl ?_
          refine DH_skip 16 (by kernel_rfl) rfl rfl (.no rfl rfl rfl rfl (dec_t h3238)) pk rfl ?_
          refine DH_skip 17 (by kernel_rfl) rfl rfl (.no rfl rfl rfl rfl (dec_t h3238)) pk rfl ?_
          refine DH_skip 18 (by kernel_rfl) rfl rfl (.no rfl rfl rfl rfl (dec_t h3238)) pk rfl ?_
          refine DH_skip 19 (by kernel_rfl) rfl rfl (.no rfl rfl rfl rfl (dec_t h3238)) pk rfl ?_
          refine DH_skip 20 (by kernel_rfl) rfl rfl (.no rfl rfl rfl rfl (dec_t h3238)) pk rfl ?_
          refine DH_skip 21 (by kernel_rfl) rfl rfl (.no rfl rfl rfl rfl (dec_t h3238)) pk rfl ?_
          refine DH_skip 22 (by kernel_rfl) rfl rfl (.no rfl rfl rfl rfl (dec_t h3238)) pk rfl ?_
          refine DH_skip 23 (by kernel_rfl) rfl rfl (.no rfl rfl rfl rfl (dec_t h3238)) pk rfl ?_
          refine DH_take 24 (by kernel_rfl) rfl rfl (.no rfl) pk sH rfl (VR.ofV (V_pickT rfl (dec_t h3238) rfl)) ?_
          refine DH_take (v := .bool true) 25 (by kernel_rfl) rfl rfl (.no rfl) pk sH rfl (VR.ofV (V_move rfl)) ?_
          refine DH_skip 26 (by kernel_rfl) rfl rfl (.no rfl rfl rfl rfl (rfl)) pk rfl ?_
          refine DH_skip 27 (by kernel_rfl) rfl rfl (.no rfl rfl rfl rfl (rfl)) pk rfl ?_
          refine DH_skip 28 (by kernel_rfl) rfl rfl (.no rfl rfl rfl rfl (rfl)) pk rfl ?_
          refine DH_skip 29 (by kernel_rfl) rfl rfl (.no rfl rfl rfl rfl (rfl)) pk rfl ?_
          refine DH_skip 30 (by kernel_rfl) rfl rfl (.no rfl rfl rfl rfl (rfl)) pk rfl ?_
          refine DH_skip 31 (by kernel_rfl) rfl rfl (.no rfl rfl rfl rfl (rfl)) pk rfl ?_
          refine DH_skip 32 (by kernel_rfl) rfl rfl (.no rfl rfl rfl rfl (rfl)) pk rfl ?_
          refine DH_skip 33 (by kernel_rfl) rfl rfl (.no rfl rfl rfl rfl (rfl)) pk rfl ?_
          refine DH_skip 34 (by kernel_rfl) rfl rfl (.no rfl rfl rfl rfl (rfl)) pk rfl ?_
          refine DH_skip 35 (by kernel_rfl) rfl rfl (.no rfl rfl rfl rfl (rfl)) pk rfl ?_
          refine DH_skip 36 (by kernel_rfl) rfl rfl (.no rfl rfl rfl rfl (rfl)) pk rfl ?_
          refine DH_skip 37 (by kernel_rfl) rfl rfl (.no rfl rfl rfl rfl (rfl)) pk rfl ?_
          refine DH_skip 38 (by kernel_rfl) rfl rfl (.no rfl rfl rfl rfl (rfl)) pk rfl ?_
          refine DH_skip 39 (by kernel_rfl) rfl rfl (.no rfl rfl rfl rfl (rfl)) pk rfl ?_
          refine DH_skip 40 (by kernel_rfl) rfl rfl (.no rfl rfl rfl rfl (rfl)) pk rfl ?_
          refine DH_skip 41 (by kernel_rfl) rfl rfl (.no rfl rfl rfl rfl (rfl)) pk rfl ?_
          refine DH_take 42 (by kernel_rfl) rfl rfl (.no rfl) pk sH rfl (VR.ofV (V_pickT rfl (rfl) rfl)) ?_
          refine DH_take (v := .bool true) 43 (by kernel_rfl) rfl rfl (.no rfl) pk sH rfl (VR.ofV (V_move rfl)) ?_
          refine DH_skip 44 (by kernel_rfl) rfl rfl (.no rfl rfl rfl rfl (rfl)) pk rfl ?_
          refine DH_skip 45 (by kernel_rfl) rfl rfl (.no rfl rfl rfl rfl (rfl)) pk rfl ?_
          refine DH_skip 46 (by kernel_rfl) rfl rfl (.no rfl rfl rfl rfl (rfl)) pk rfl ?_
          refine DH_skip 47 (by kernel_rfl) rfl rfl (.no rfl rfl rfl rfl (rfl)) pk rfl ?_
          refine DH_skip 48 (by kernel_rfl) rfl rfl (.no rfl rfl rfl rfl (rfl)) pk rfl ?_
          refine DH_skip 49 (by kernel_rfl) rfl rfl (.no rfl rfl rfl rfl (rfl)) pk rfl ?_
          refine DH_skip 50 (by kernel_rfl) rfl rfl (.no rfl rfl rfl rfl (rfl)) pk rfl ?_
          refine DH_skip 51 (by kernel_rfl) rfl rfl (.no rfl rfl rfl rfl (rfl)) pk rfl ?_
          refine DH_take 52 (by kernel_rfl) rfl rfl (.no rfl) pk sH rfl (VR.ofV (V_pickT rfl (rfl) rfl)) ?_
          refine DH_open dd sH ?_
          refine DN_done (by kernel_rfl) ?_
          have hr_ := Option.some.inj H
          subst hr_
          exact at_normal (St.mk1 (aeq rfl (aeq rfl (aeq rfl (aeq rfl (aeq rfl (aeq rfl aeq0)))))) (Gh.sel [0, 6, 1, 2, 3, 5] rfl rfl))
        replace H := g_iff h3238 H
        refine DH_take (v := .int .u64 r48.1) 9 (by kernel_rfl) rfl rfl (.yes rfl rfl rfl rfl (dec_f h3238)) pk sH rfl (VR.ofV (V_move rfl)) ?_
        refine DH_take (v := .pointer (some ⟨b21, 0, none⟩)) 10 (by kernel_rfl) rfl rfl (.yes rfl rfl rfl rfl (dec_f h3238)) pk sH rfl (VR.ofV (V_move rfl)) ?_
        refine DH_take (v := .pointer (some ⟨b21, 0, none⟩)) 11 (by kernel_rfl) rfl rfl (.yes rfl rfl rfl rfl (dec_f h3238)) pk sH rfl (VR.ofV (V_nilCheck rfl)) ?_
        refine DH_take (v := .pointer (some ⟨b21, 0, none⟩)) 12 (by kernel_rfl) rfl rfl (.yes rfl rfl rfl rfl (dec_f h3238)) pk sH rfl (VR.ofV (V_fieldAddrN (B := ⟨b21, 0, none⟩) (m := 0) (o := 0) Try.underlying121 rfl nz47 rfl rfl)) ?_
        refine DH_take 13 (by kernel_rfl) rfl rfl (.yes rfl rfl rfl rfl (dec_f h3238)) pk sH rfl (VR_load_blk (b := b21) (m := 0) (k := 2) Try.underlying47 rfl rfl rfl rfl) ?_
        refine DH_take (v := .pointer (some ⟨b21, 0, none⟩)) 14 (by kernel_rfl) rfl rfl (.yes rfl rfl rfl rfl (dec_f h3238)) pk sH rfl (VR.ofV (V_move rfl)) ?_
        refine DH_take (v := .pointer (some ⟨b21, 0, none⟩)) 15 (by kernel_rfl) rfl rfl (.yes rfl rfl rfl rfl (dec_f h3238)) pk sH rfl (VR.ofV (V_nilCheck rfl)) ?_
        refine DH_take (v := .pointer (some ⟨b21, 0, none⟩)) 16 (by kernel_rfl) rfl rfl (.yes rfl rfl rfl rfl (dec_f h3238)) pk sH rfl (VR.ofV (V_fieldAddrN (B := ⟨b21, 0, none⟩) (m := 0) (o := 0) Try.underlying121 rfl nz47 rfl rfl)) ?_
        refine DH_take 17 (by kernel_rfl) rfl rfl (.yes rfl rfl rfl rfl (dec_f h3238)) pk sH rfl (VR_load_blk (b := b21) (m := 0) (k := 2) Try.underlying47 rfl rfl rfl rfl) ?_
        refine DH_take (v := .int .i64 (r43.2.2.f0.length : Int)) 18 (by kernel_rfl) rfl rfl (.yes rfl rfl rfl rfl (dec_f h3238)) pk sH rfl (VR.ofV (V_len Try.underlying47 rfl)) ?_
        refine DH_take (v := .int .i64 (IntKind.i64.wrap ((r43.2.2.f0.length : Int) - 1))) 19 (by kernel_rfl) rfl rfl (.yes rfl rfl rfl rfl (dec_f h3238)) pk sH rfl (VR.ofV (V_sub rfl rfl)) ?_
        obtain ⟨⟨g1256, g1257⟩, H⟩ := g_pos H
        refine DH_take 20 (by kernel_rfl) rfl rfl (.yes rfl rfl rfl rfl (dec_f h3238)) pk sH rfl (VR_index (i := IntKind.i64.wrap ((r43.2.2.f0.length : Int) - 1)) Try.underlying47 sz63 rfl rfl (Src.buf (k := 3) rfl) g1256 g1257) ?_
        refine DH_take (v := .pointer (some ((el A44 ((IntKind.i64.wrap ((r43.2.2.f0.length : Int) - 1)).toNat * 3)).add 0))) 21 (by kernel_rfl) rfl rfl (.yes rfl rfl rfl rfl (dec_f h3238)) pk sH rfl (VR.ofV (V_fieldAddrN (B := el A44 ((IntKind.i64.wrap ((r43.2.2.f0.length : Int) - 1)).toNat * 3)) (m := 0) (o := 0) Try.underlying63 rfl nz44 rfl rfl)) ?_
        refine DH_take 22 (by kernel_rfl) rfl rfl (.yes rfl rfl rfl rfl (dec_f h3238)) pk sH rfl (VR_load_el (enc := enc63) (i := IntKind.i64.wrap ((r43.2.2.f0.length : Int) - 1)) (j := (IntKind.i64.wrap ((r43.2.2.f0.length : Int) - 1)).toNat * 3) (m := 0) (sz := 3) Try.underlying44 rfl rfl rfl rfl (Src.buf (k := 3) rfl) g1256 g1257 (fun _ _ h => h) rfl) ?_
        refine DH_take (v := .bool (decide (r48.1 ≠ ((rd r43.2.2.f0 (IntKind.i64.wrap ((r43.2.2.f0.length : Int) - 1))).f0)))) 23 (by kernel_rfl) rfl rfl (.yes rfl rfl rfl rfl (dec_f h3238)) pk sH rfl (VR.ofV (V_neq rfl rfl)) ?_
        refine DH_take 24 (by kernel_rfl) rfl rfl (.no rfl) pk sH rfl (VR.ofV (V_pickF rfl (dec_f h3238) rfl)) ?_
        refine DH_take (v := .bool (decide (r48.1 ≠ ((rd r43.2.2.f0 (IntKind.i64.wrap ((r43.2.2.f0.length : Int) - 1))).f0)))) 25 (by kernel_rfl) rfl rfl (.no rfl) pk sH rfl (VR.ofV (V_move rfl)) ?_
        by_cases h3239 : r48.1 ≠ ((rd r43.2.2.f0 (IntKind.i64.wrap ((r43.2.2.f0.length : Int) - 1))).f0)
        · replace H := g_ift h3239 H
          refine DH_skip 26 (by kernel_rfl) rfl rfl (.no rfl rfl rfl rfl (dec_t h3239)) pk rfl ?_
          refine DH_skip 27 (by kernel_rfl) rfl rfl (.no rfl rfl rfl rfl (dec_t h3239)) pk rfl ?_
          refine DH_skip 28 (by kernel_rfl) rfl rfl (.no rfl rfl rfl rfl (dec_t h3239)) pk rfl ?_
          refine DH_skip 29 (by kernel_rfl) rfl rfl (.no rfl rfl rfl rfl (dec_t h3239)) pk rfl ?_
          refine DH_skip 30 (by kernel_rfl) rfl rfl (.no rfl rfl rfl rfl (dec_t h3239)) pk rfl ?_
          refine DH_skip 31 (by kernel_rfl) rfl rfl (.no rfl rfl rfl rfl (dec_t h3239)) pk rfl ?_
          refine DH_skip 32 (by kernel_rfl) rfl rfl (.no rfl rfl rfl rfl (dec_t h3239)) pk rfl ?_
          refine DH_skip 33 (by kernel_rfl) rfl rfl (.no rfl rfl rfl rfl (dec_t h3239)) pk rfl ?_
          refine DH_skip 34 (by kernel_rfl) rfl rfl (.no rfl rfl rfl rfl (dec_t h3239)) pk rfl ?_
          refine DH_skip 35 (by kernel_rfl) rfl rfl (.no rfl rfl rfl rfl (dec_t h3239)) pk rfl ?_
          refine DH_skip 36 (by kernel_rfl) rfl rfl (.no rfl rfl rfl rfl (dec_t h3239)) pk rfl ?_
          refine DH_skip 37 (by kernel_rfl) rfl rfl (.no rfl rfl rfl rfl (dec_t h3239)) pk rfl ?_
          refine DH_skip 38 (by kernel_rfl) rfl rfl (.no rfl rfl rfl rfl (dec_t h3239)) pk rfl ?_
          refine DH_skip 39 (by kernel_rfl) rfl rfl (.no rfl rfl rfl rfl (dec_t h3239)) pk rfl ?_
          refine DH_skip 40 (by kernel_rfl) rfl rfl (.no rfl rfl rfl rfl (dec_t h3239)) pk rfl ?_
          refine DH_skip 41 (by kernel_rfl) rfl rfl (.no rfl rfl rfl rfl (dec_t h3239)) pk rfl ?_
          refine DH_take 42 (by kernel_rfl) rfl rfl (.no rfl) pk sH rfl (VR.ofV (V_pickT rfl (dec_t h3239) rfl)) ?_
          refine DH_take (v := .bool true) 43 (by kernel_rfl) rfl rfl (.no rfl) pk sH rfl (VR.ofV (V_move rfl)) ?_
          refine DH_skip 44 (by kernel_rfl) rfl rfl (.no rfl rfl rfl rfl (rfl)) pk rfl ?_
          refine DH_skip 45 (by kernel_rfl) rfl rfl (.no rfl rfl rfl rfl (rfl)) pk rfl ?_
          refine DH_skip 46 (by kernel_rfl) rfl rfl (.no rfl rfl rfl rfl (rfl)) pk rfl ?_
          refine DH_skip 47 (by kernel_rfl) rfl rfl (.no rfl rfl rfl rfl (rfl)) pk rfl ?_
          refine DH_skip 48 (by kernel_rfl) rfl rfl (.no rfl rfl rfl rfl (rfl)) pk rfl ?_
          refine DH_skip 49 (by kernel_rfl) rfl rfl (.no rfl rfl rfl rfl (rfl)) pk rfl ?_
          refine DH_skip 50 (by kernel_rfl) rfl rfl (.no rfl rfl rfl rfl (rfl)) pk rfl ?_
          refine DH_skip 51 (by kernel_rfl) rfl rfl (.no rfl rfl rfl rfl (rfl)) pk rfl ?_
          refine DH_take 52 (by kernel_rfl) rfl rfl (.no rfl) pk sH rfl (VR.ofV (V_pickT rfl (rfl) rfl)) ?_
          refine DH_open dd sH ?_
          refine DN_done (by kernel_rfl) ?_
          have hr_ := Option.some.inj H
          subst hr_
          exact at_normal (St.mk1 (aeq rfl (aeq rfl (aeq rfl (aeq rfl (aeq rfl (aeq rfl aeq0)))))) (Gh.sel [0, 6, 1, 2, 3, 5] rfl rfl))
        replace H := g_iff h3239 H
        refine DH_take (v := .pointer (some ⟨b49, 0, none⟩)) 26 (by kernel_rfl) rfl rfl (.yes rfl rfl rfl rfl (dec_f h3239)) pk sH rfl (VR.ofV (V_fieldAddrN (B := ⟨b49, 0, none⟩) (m := 0) (o := 0) Try.underlying41 rfl nz9 rfl rfl)) ?_
        refine DH_take 27 (by kernel_rfl) rfl rfl (.yes rfl rfl rfl rfl (dec_f h3239)) pk sH rfl (VR_load_blk (b := b49) (m := 0) (k := 4) Try.underlying9 rfl rfl rfl rfl) ?_
        refine DH_take (v := .pointer (some ⟨b21, 0, none⟩)) 28 (by kernel_rfl) rfl rfl (.yes rfl rfl rfl rfl (dec_f h3239)) pk sH rfl (VR.ofV (V_move rfl)) ?_
        refine DH_take (v := .pointer (some ⟨b21, 0, none⟩)) 29 (by kernel_rfl) rfl rfl (.yes rfl rfl rfl rfl (dec_f h3239)) pk sH rfl (VR.ofV (V_nilCheck rfl)) ?_
        refine DH_take (v := .pointer (some ⟨b21, 0, none⟩)) 30 (by kernel_rfl) rfl rfl (.yes rfl rfl rfl rfl (dec_f h3239)) pk sH rfl (VR.ofV (V_fieldAddrN (B := ⟨b21, 0, none⟩) (m := 0) (o := 0) Try.underlying121 rfl nz47 rfl rfl)) ?_
        refine DH_take 31 (by kernel_rfl) rfl rfl (.yes rfl rfl rfl rfl (dec_f h3239)) pk sH rfl (VR_load_blk (b := b21) (m := 0) (k := 2) Try.underlying47 rfl rfl rfl rfl) ?_
        refine DH_take (v := .pointer (some ⟨b21, 0, none⟩)) 32 (by kernel_rfl) rfl rfl (.yes rfl rfl rfl rfl (dec_f h3239)) pk sH rfl (VR.ofV (V_move rfl)) ?_
        refine DH_take (v := .pointer (some ⟨b21, 0, none⟩)) 33 (by kernel_rfl) rfl rfl (.yes rfl rfl rfl rfl (dec_f h3239)) pk sH rfl (VR.ofV (V_nilCheck rfl)) ?_
        refine DH_take (v := .pointer (some ⟨b21, 0, none⟩)) 34 (by kernel_rfl) rfl rfl (.yes rfl rfl rfl rfl (dec_f h3239)) pk sH rfl (VR.ofV (V_fieldAddrN (B := ⟨b21, 0, none⟩) (m := 0) (o := 0) Try.underlying121 rfl nz47 rfl rfl)) ?_
        refine DH_take 35 (by kernel_rfl) rfl rfl (.yes rfl rfl rfl rfl (dec_f h3239)) pk sH rfl (VR_load_blk (b := b21) (m := 0) (k := 2) Try.underlying47 rfl rfl rfl rfl) ?_
        refine DH_take (v := .int .i64 (r43.2.2.f0.length : Int)) 36 (by kernel_rfl) rfl rfl (.yes rfl rfl rfl rfl (dec_f h3239)) pk sH rfl (VR.ofV (V_len Try.underlying47 rfl)) ?_
        refine DH_take (v := .int .i64 (IntKind.i64.wrap ((r43.2.2.f0.length : Int) - 1))) 37 (by kernel_rfl) rfl rfl (.yes rfl rfl rfl rfl (dec_f h3239)) pk sH rfl (VR.ofV (V_sub rfl rfl)) ?_
        obtain ⟨⟨g2336, g2337⟩, H⟩ := g_pos H
        refine DH_take 38 (by kernel_rfl) rfl rfl (.yes rfl rfl rfl rfl (dec_f h3239)) pk sH rfl (VR_index (i := IntKind.i64.wrap ((r43.2.2.f0.length : Int) - 1)) Try.underlying47 sz63 rfl rfl (Src.buf (k := 3) rfl) g2336 g2337) ?_
        refine DH_take (v := .pointer (some ((el A44 ((IntKind.i64.wrap ((r43.2.2.f0.length : Int) - 1)).toNat * 3)).add 1))) 39 (by kernel_rfl) rfl rfl (.yes rfl rfl rfl rfl (dec_f h3239)) pk sH rfl (VR.ofV (V_fieldAddrN (B := el A44 ((IntKind.i64.wrap ((r43.2.2.f0.length : Int) - 1)).toNat * 3)) (m := 0) (o := 1) Try.underlying63 rfl nz9 rfl rfl)) ?_
        refine DH_take 40 (by kernel_rfl) rfl rfl (.yes rfl rfl rfl rfl (dec_f h3239)) pk sH rfl (VR_load_el (enc := enc63) (i := IntKind.i64.wrap ((r43.2.2.f0.length : Int) - 1)) (j := (IntKind.i64.wrap ((r43.2.2.f0.length : Int) - 1)).toNat * 3) (m := 1) (sz := 3) Try.underlying9 rfl rfl rfl rfl (Src.buf (k := 3) rfl) g2336 g2337 (fun _ _ h => h) rfl) ?_
        refine DH_take (v := .bool (decide (r48.2.f0 ≠ ((rd r43.2.2.f0 (IntKind.i64.wrap ((r43.2.2.f0.length : Int) - 1))).f1)))) 41 (by kernel_rfl) rfl rfl (.yes rfl rfl rfl rfl (dec_f h3239)) pk sH rfl (VR.ofV (V_neqS rfl rfl)) ?_
        refine DH_take 42 (by kernel_rfl) rfl rfl (.no rfl) pk sH rfl (VR.ofV (V_pickF rfl (dec_f h3239) rfl)) ?_
        refine DH_take (v := .bool (decide (r48.2.f0 ≠ ((rd r43.2.2.f0 (IntKind.i64.wrap ((r43.2.2.f0.length : Int) - 1))).f1)))) 43 (by kernel_rfl) rfl rfl (.no rfl) pk sH rfl (VR.ofV (V_move rfl)) ?_
        by_cases h3240 : r48.2.f0 ≠ ((rd r43.2.2.f0 (IntKind.i64.wrap ((r43.2.2.f0.length : Int) - 1))).f1)
        · replace H := g_ift h3240 H
          refine DH_skip 44 (by kernel_rfl) rfl rfl (.no rfl rfl rfl rfl (dec_t h3240)) pk rfl ?_
          refine DH_skip 45 (by kernel_rfl) rfl rfl (.no rfl rfl rfl rfl (dec_t h3240)) pk rfl ?_
          refine DH_skip 46 (by kernel_rfl) rfl rfl (.no rfl rfl rfl rfl (dec_t h3240)) pk rfl ?_
          refine DH_skip 47 (by kernel_rfl) rfl rfl (.no rfl rfl rfl rfl (dec_t h3240)) pk rfl ?_
          refine DH_skip 48 (by kernel_rfl) rfl rfl (.no rfl rfl rfl rfl (dec_t h3240)) pk rfl ?_
          refine DH_skip 49 (by kernel_rfl) rfl rfl (.no rfl rfl rfl rfl (dec_t h3240)) pk rfl ?_
          refine DH_skip 50 (by kernel_rfl) rfl rfl (.no rfl rfl rfl rfl (dec_t h3240)) pk rfl ?_
          refine DH_skip 51 (by kernel_rfl) rfl rfl (.no rfl rfl rfl rfl (dec_t h3240)) pk rfl ?_
          refine DH_take 52 (by kernel_rfl) rfl rfl (.no rfl) pk sH rfl (VR.ofV (V_pickT rfl (dec_t h3240) rfl)) ?_
          refine DH_open dd sH ?_
          refine DN_done (by kernel_rfl) ?_
          have hr_ := Option.some.inj H
          subst hr_
          exact at_normal (St.mk1 (aeq rfl (aeq rfl (aeq rfl (aeq rfl (aeq rfl (aeq rfl aeq0)))))) (Gh.sel [0, 6, 1, 2, 3, 5] rfl rfl))
        replace H := g_iff h3240 H
        refine DH_take (v := .slice A52 r51.length c53) 44 (by kernel_rfl) rfl rfl (.yes rfl rfl rfl rfl (dec_f h3240)) pk sH rfl (VR.ofV (V_move rfl)) ?_
        refine DH_take (v := .int .i64 (r51.length : Int)) 45 (by kernel_rfl) rfl rfl (.yes rfl rfl rfl rfl (dec_f h3240)) pk sH rfl (VR.ofV (V_len Try.underlying118 rfl)) ?_
        refine DH_take (v := .pointer (some ⟨b21, 0, none⟩)) 46 (by kernel_rfl) rfl rfl (.yes rfl rfl rfl rfl (dec_f h3240)) pk sH rfl (VR.ofV (V_move rfl)) ?_
        refine DH_take (v := .pointer (some ⟨b21, 0, none⟩)) 47 (by kernel_rfl) rfl rfl (.yes rfl rfl rfl rfl (dec_f h3240)) pk sH rfl (VR.ofV (V_nilCheck rfl)) ?_
        refine DH_take (v := .pointer (some ⟨b21, 0, none⟩)) 48 (by kernel_rfl) rfl rfl (.yes rfl rfl rfl rfl (dec_f h3240)) pk sH rfl (VR.ofV (V_fieldAddrN (B := ⟨b21, 0, none⟩) (m := 0) (o := 0) Try.underlying121 rfl nz47 rfl rfl)) ?_
        refine DH_take 49 (by kernel_rfl) rfl rfl (.yes rfl rfl rfl rfl (dec_f h3240)) pk sH rfl (VR_load_blk (b := b21) (m := 0) (k := 2) Try.underlying47 rfl rfl rfl rfl) ?_
        refine DH_take (v := .int .i64 (r43.2.2.f0.length : Int)) 50 (by kernel_rfl) rfl rfl (.yes rfl rfl rfl rfl (dec_f h3240)) pk sH rfl (VR.ofV (V_len Try.underlying47 rfl)) ?_
        refine DH_take (v := .bool (decide ((r51.length : Int) ≠ (r43.2.2.f0.length : Int)))) 51 (by kernel_rfl) rfl rfl (.yes rfl rfl rfl rfl (dec_f h3240)) pk sH rfl (VR.ofV (V_neq rfl rfl)) ?_
        refine DH_take 52 (by kernel_rfl) rfl rfl (.no rfl) pk sH rfl (VR.ofV (V_pickF rfl (dec_f h3240) rfl)) ?_
        refine DH_open dd sH ?_
        refine DN_done (by kernel_rfl) ?_
        have hr_ := Option.some.inj H
        subst hr_
        exact at_normal (St.mk1 (aeq rfl (aeq rfl (aeq rfl (aeq rfl (aeq rfl (aeq rfl aeq0)))))) (Gh.sel [0, 6, 1, 2, 3, 5] rfl rfl))
      rintro e ds As hst3241
      clear H
      have H := Bt55
      clear Bt55
      refine at_normal ?_
      refine SA.of_St hst3241 fun junk => ?_
      by_cases h3242 : t55 = true
      · replace H := g_ift h3242 H
        refine SA_condTb rfl h3242 ?_
        refine SA_seq ?_
        refine SA_region ?_
        refine RA_step rfl (OA_v (v := .bool false) rfl (V_assign rfl) ?_)
        refine RA_nil ?_
        refine at_normal ?_
        refine SA_ret ?_
        refine thn_ret ?_
        refine inb_ret ?_
        refine thn_ret ?_
        refine thn_ret ?_
        refine inb_ret ?_
        refine thn_ret ?_
        refine thn_ret ?_
        have hr_ := Option.some.inj H
        subst hr_
        have hb_ := el_ret Bt15
        have hr_ := Option.some.inj hb_
        clear hb_
        subst hr_
        exact BQ_R1 [] rfl rfl (Gh.sel [] rfl rfl) ⟨rfl, rfl⟩
      replace H := g_iff h3242 H
      refine SA_condFb rfl h3242 ?_
      refine SA_skip ?_
      refine at_normal ?_
      refine SA_seq ?_
      refine SA_region ?_
      refine RA_step rfl (OA_v (v := .int .i64 0) rfl (V_assign rfl) ?_)
      refine RA_nil ?_
      refine at_normal ?_
      obtain ⟨t3243, H, Bt3243⟩ := g_bind H
      refine SA_mid (fun e ds As => ∃ (s3244 : Unit), t3243 = Out.go s3244 ∧ St [(1, .slice A1 l1.length c1), (5, .pointer (some ⟨b17, 0, none⟩)), (6, .pointer (some ⟨b21, 0, none⟩)), (7, .int .i64 x7_16)] [Ro k54 A1 c1 l1, Blk b17 162 [.slice A35 r34.2.2.f0.length c36], Ro k128 A35 c36 r34.2.2.f0, Blk b21 121 [.slice A44 r43.2.2.f0.length c45], Buf k63 63 A44 c45 r43.2.2.f0] e ds As) ?_ ?_
      · refine SA_block ?_
        refine SA_loop (fun k_ e ds As => ∃ (x15_3244 : Int), F12.l1 r43 r51 k_ x15_3244 = some t3243 ∧ St [(1, .slice A1 l1.length c1), (5, .pointer (some ⟨b17, 0, none⟩)), (6, .pointer (some ⟨b21, 0, none⟩)), (7, .int .i64 x7_16), (14, .slice A52 r51.length c53), (15, .int .i64 x15_3244)] [Ro k54 A1 c1 l1, Blk b17 162 [.slice A35 r34.2.2.f0.length c36], Ro k128 A35 c36 r34.2.2.f0, Blk b21 121 [.slice A44 r43.2.2.f0.length c45], Buf k63 63 A44 c45 r43.2.2.f0, Buf (Kd.int .u64) 44 A52 c53 r51] e ds As) (k := k25) ⟨_, H, St.mk1 (aeq rfl (aeq rfl (aeq rfl (aeq rfl (aeq rfl (aeq rfl aeq0)))))) (Gh.sel [0, 1, 2, 3, 4, 5] rfl rfl)⟩ ?_
        clear H
        rintro k3245 e ds As ⟨x15_3244, H, hst3246⟩
        obtain _ | k3245 := k3245
        · cases H
        rw [F12.l1] at H
        refine SA.of_St hst3246 fun junk => ?_
        refine SA_seq ?_
        refine SA_seq ?_
        refine SA_region ?_
        refine RA_step rfl (OA_v (v := .int .i64 x15_3244) rfl (V_move rfl) ?_)
        refine RA_step rfl (OA_v (v := .slice A52 r51.length c53) rfl (V_move rfl) ?_)
        refine RA_step rfl (OA_v (v := .int .i64 (r51.length : Int)) rfl (V_len Try.underlying118 rfl) ?_)
        refine RA_step rfl (OA_v (v := .bool (decide (x15_3244 < (r51.length : Int)))) rfl (V_lss rfl rfl) ?_)
        refine RA_nil ?_
        refine at_normal ?_
        by_cases h3247 : x15_3244 < (r51.length : Int)
        · replace H := g_ift h3247 H
          refine SA_condT rfl h3247 ?_
          refine SA_skip ?_
          refine at_normal ?_
          refine SA_seq ?_
          refine SA_block ?_
          refine SA_seq ?_
          refine SA_drawHq (0 :: 1 :: 2 :: 3 :: 4 :: 5 :: 6 :: 7 :: 8 :: 9 :: 10 :: 11 :: 12 :: []) (List.toArray ([] :: [] :: [0, 1] :: [0, 1, 2] :: [] :: [4] :: [4, 5] :: [4, 5, 6] :: [] :: [4, 5, 6, 7, 8] :: [4, 5, 6, 7, 8, 9] :: [4, 5, 6, 7, 8, 9, 10] :: [0, 1, 2, 3, 4, 5, 6, 7, 8, 9, 10, 11] :: [])) [0, 2, 3, 4, 5] [0, 1, 2] mixed rfl rfl rfl (PanOk.thn (PanOk.inb (PanOk.thn (PanOk.thn (PanOk.inb (PanOk.thn (PanOk.inb (PanOk.thn (PanOk.thn (PanOk.inb (PanOk.thn (PanOk.thn PanOk.body)))))))))))) fun I0 hS h0 hh0 w0 sH dd pk => ?_
          refine DH_take (v := .slice A52 r51.length c53) 0 (by kernel_rfl) rfl rfl (.no rfl) pk sH rfl (VR.ofV (V_move rfl)) ?_
          refine DH_take (v := .int .i64 x15_3244) 1 (by kernel_rfl) rfl rfl (.no rfl) pk sH rfl (VR.ofV (V_move rfl)) ?_
          obtain ⟨⟨g3368, g3369⟩, H⟩ := g_pos H
          refine DH_take 2 (by kernel_rfl) rfl rfl (.no rfl) pk sH rfl (VR_index (i := x15_3244) Try.underlying118 sz44 rfl rfl (Src.buf (k := 4) rfl) g3368 g3369) ?_
          refine DH_take 3 (by kernel_rfl) rfl rfl (.no rfl) pk sH rfl (VR_load_el (enc := (fun x_ : Int => [Value.int .u64 x_])) (i := x15_3244) (j := x15_3244.toNat * 1) (m := 0) (sz := 1) Try.underlying44 rfl rfl rfl rfl (Src.buf (k := 4) rfl) g3368 g3369 (fun _ _ h => h) rfl) ?_
          refine DH_take (v := .pointer (some ⟨b21, 0, none⟩)) 4 (by kernel_rfl) rfl rfl (.no rfl) pk sH rfl (VR.ofV (V_move rfl)) ?_
          refine DH_take (v := .pointer (some ⟨b21, 0, none⟩)) 5 (by kernel_rfl) rfl rfl (.no rfl) pk sH rfl (VR.ofV (V_nilCheck rfl)) ?_
          refine DH_take (v := .pointer (some ⟨b21, 0, none⟩)) 6 (by kernel_rfl) rfl rfl (.no rfl) pk sH rfl (VR.ofV (V_fieldAddrN (B := ⟨b21, 0, none⟩) (m := 0) (o := 0) Try.underlying121 rfl nz47 rfl rfl)) ?_
          refine DH_take 7 (by kernel_rfl) rfl rfl (.no rfl) pk sH rfl (VR_load_blk (b := b21) (m := 0) (k := 2) Try.underlying47 rfl rfl rfl rfl) ?_
          refine DH_take (v := .int .i64 x15_3244) 8 (by kernel_rfl) rfl rfl (.no rfl) pk sH rfl (VR.ofV (V_move rfl)) ?_
          obtain ⟨⟨g3788, g3789⟩, H⟩ := g_pos H
          refine DH_take 9 (by kernel_rfl) rfl rfl (.no rfl) pk sH rfl (VR_index (i := x15_3244) Try.underlying47 sz63 rfl rfl (Src.buf (k := 3) rfl) g3788 g3789) ?_
          refine DH_take (v := .pointer (some ((el A44 (x15_3244.toNat * 3)).add 0))) 10 (by kernel_rfl) rfl rfl (.no rfl) pk sH rfl (VR.ofV (V_fieldAddrN (B := el A44 (x15_3244.toNat * 3)) (m := 0) (o := 0) Try.underlying63 rfl nz44 rfl rfl)) ?_
          refine DH_take 11 (by kernel_rfl) rfl rfl (.no rfl) pk sH rfl (VR_load_el (enc := enc63) (i := x15_3244) (j := x15_3244.toNat * 3) (m := 0) (sz := 3) Try.underlying44 rfl rfl rfl rfl (Src.buf (k := 3) rfl) g3788 g3789 (fun _ _ h => h) rfl) ?_
          refine DH_take (v := .bool (decide ((rd r51 x15_3244) ≠ ((rd r43.2.2.f0 x15_3244).f0)))) 12 (by kernel_rfl) rfl rfl (.no rfl) pk sH rfl (VR.ofV (V_neq rfl rfl)) ?_
          refine DH_open dd sH ?_
          refine DN_done (by kernel_rfl) ?_
          refine at_normal ?_
          by_cases h4029 : (rd r51 x15_3244) ≠ ((rd r43.2.2.f0 x15_3244).f0)
          · replace H := g_ift h4029 H
            refine SA_condT rfl h4029 ?_
            refine SA_seq ?_
            refine SA_region ?_
            refine RA_step rfl (OA_v (v := .bool false) rfl (V_assign rfl) ?_)
            refine RA_nil ?_
            refine at_normal ?_
            refine SA_ret ?_
            refine inb_ret ?_
            refine thn_ret ?_
            refine thn_ret ?_
            refine inb_ret ?_
            refine thn_ret ?_
            refine inb_ret ?_
            refine thn_ret ?_
            refine thn_ret ?_
            refine inb_ret ?_
            refine thn_ret ?_
            refine thn_ret ?_
            have hr_ := Option.some.inj H
            subst hr_
            have hb_ := el_ret Bt3243
            have hr_ := Option.some.inj hb_
            clear hb_
            subst hr_
            have hb_ := el_ret Bt15
            have hr_ := Option.some.inj hb_
            clear hb_
            subst hr_
            exact BQ_R1 [] rfl rfl (Gh.sel [] rfl rfl) ⟨rfl, rfl⟩
          replace H := g_iff h4029 H
          refine SA_condF rfl h4029 ?_
          refine SA_skip ?_
          refine inb_normal ?_
          refine at_normal ?_
          refine SA_region ?_
          refine RA_step rfl (OA_v (v := .int .i64 x15_3244) rfl (V_move rfl) ?_)
          refine RA_step rfl (OA_v (v := .int .i64 (IntKind.i64.wrap (x15_3244 + 1))) rfl (V_add rfl rfl) ?_)
          obtain ⟨n4030, hn4030, H⟩ := g_lt H
          refine RA_step rfl (OA_v (v := .int .i64 n4030) rfl (V_assign (v := .int .i64 n4030) (congrArg (Value.int .i64) hn4030.symm)) ?_)
          refine RA_nil ?_
          exact at_normal ⟨k3245, Nat.lt_succ_self _, _, H, St.mk1 (aeq rfl (aeq rfl (aeq rfl (aeq rfl (aeq rfl (aeq rfl aeq0)))))) (Gh.sel [0, 6, 1, 2, 3, 4] rfl rfl)⟩
        replace H := g_iff h3247 H
        refine SA_condF rfl h3247 ?_
        refine SA_exit ?_
        refine thn_exit ?_
        refine thn_exit ?_
        refine inb_hit ?_
        have hr_ := Option.some.inj H
        subst hr_
        exact at_normal ⟨(), rfl, St.mk1 (aeq rfl (aeq rfl (aeq rfl (aeq rfl aeq0)))) (Gh.sel [0, 1, 2, 3, 4] rfl rfl)⟩
      rintro e ds As ⟨s3244, ht, hst4031⟩
      clear H
      subst ht
      replace Bt3243 := el_go Bt3243
      have H := Bt3243
      clear Bt3243
      refine inb_normal ?_
      refine at_normal ?_
      refine SA.of_St hst4031 fun junk => ?_
      refine SA_region ?_
      refine RA_step rfl (OA_v (v := .int .i64 x7_16) rfl (V_move rfl) ?_)
      refine RA_step rfl (OA_v (v := .int .i64 (IntKind.i64.wrap (x7_16 + 1))) rfl (V_add rfl rfl) ?_)
      obtain ⟨n4032, hn4032, H⟩ := g_lt H
      refine RA_step rfl (OA_v (v := .int .i64 n4032) rfl (V_assign (v := .int .i64 n4032) (congrArg (Value.int .i64) hn4032.symm)) ?_)
      refine RA_nil ?_
      exact at_normal ⟨k25, Nat.lt_succ_self _, _, _, _, b17, A35, c36, b21, A44, c45, H, St.mk1 (aeq rfl (aeq rfl (aeq rfl (aeq rfl aeq0)))) (Gh.sel [0, 1, 2, 3, 4] rfl rfl)⟩
    replace H := g_iff h27 H
    refine SA_condF rfl h27 ?_
    refine SA_exit ?_
    refine thn_exit ?_
    refine thn_exit ?_
    refine inb_hit ?_
    have hr_ := Option.some.inj H
    subst hr_
    exact at_normal ⟨(), rfl, St.mk1 aeq0 (Gh.sel [] rfl rfl)⟩
  rintro e ds As ⟨s16, ht, hst4037⟩
  clear H
  subst ht
  replace Bt15 := el_go Bt15
  have H := Bt15
  clear Bt15
  refine at_normal ?_
  refine SA.of_St hst4037 fun junk => ?_
  refine SA_seq ?_
  refine SA_region ?_
  obtain ⟨r4038, C4039, H⟩ := g_bind H
  refine RA_step rfl (OA_callA [] [] rfl (X_fn (vs := []) Try.func29 nm29 rfl rfl) rfl (F29.ok C4039) rfl ?_)
  rintro _ _ ⟨rfl, rfl⟩
  refine RA_step rfl (OA_v (v := .bool r4038) rfl (V_assign rfl) ?_)
  refine RA_nil ?_
  refine at_normal ?_
  refine SA_ret ?_
  have hr_ := Option.some.inj H
  subst hr_
  exact BQ_R1 [] rfl rfl (Gh.sel [] rfl rfl) ⟨rfl, rfl⟩
end Go.Proofs.Ytodkeoibebimgaa.Sq

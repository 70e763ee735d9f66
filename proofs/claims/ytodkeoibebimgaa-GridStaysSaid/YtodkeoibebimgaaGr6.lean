/- What functions compute, and that they do: 90w0. -/
import Derived.Test.YtodkeoibebimgaaGr0
import Derived.Test.YtodkeoibebimgaaGr1
namespace Go.Proofs.Ytodkeoibebimgaa.Gr
open Go Go.RowKit Go.Proofs.Ytodkeoibebimgaa.SL
set_option linter.unusedVariables false
set_option linter.unusedSimpArgs false
attribute [local irreducible] IntKind.wrap minI maxI shrI shlI andI orI xorI andNotI cplI rd sub bytesOf strOf slA
/-! ### function 90: wayfarer/wayfarerref15.mend -/
def F90w0.l0 (l0 : (List S76)) (o0 : Int) (n0 : Int) (n8 : (List S76)) : Nat → Int → (List S76) → Option ((List S76))
  | 0, _, _ => none
  | k + 1, x3_9, zm1_0_9 => if zm1_0_9.length = l0.length then (if x3_9 < n0 then ((if 0 ≤ x3_9 ∧ x3_9 < (n8.length : Int) then (if ((rd n8 x3_9).f2) = 2 then (if (IntKind.i64.wrap (x3_9 + 1)) ≥ n0 then (some true) else (if 0 ≤ (IntKind.i64.wrap (x3_9 + 1)) ∧ (IntKind.i64.wrap (x3_9 + 1)) < (n8.length : Int) then (if ((rd n8 (IntKind.i64.wrap (x3_9 + 1))).f2) ≠ 0 then (some true) else (if 0 ≤ (IntKind.i64.wrap (x3_9 + 1)) ∧ (IntKind.i64.wrap (x3_9 + 1)) < (n8.length : Int) then (if 0 ≤ x3_9 ∧ x3_9 < (n8.length : Int) then (if ((rd n8 (IntKind.i64.wrap (x3_9 + 1))).f3) ≠ ((rd n8 x3_9).f3) then (some true) else (if 0 ≤ x3_9 ∧ x3_9 < (n8.length : Int) then (if ((rd n8 x3_9).f2) = 0 then (if x3_9 = 0 then (some true) else (if 0 ≤ (IntKind.i64.wrap (x3_9 - 1)) ∧ (IntKind.i64.wrap (x3_9 - 1)) < (n8.length : Int) then (if ((rd n8 (IntKind.i64.wrap (x3_9 - 1))).f2) ≠ 2 then (some true) else (if 0 ≤ (IntKind.i64.wrap (x3_9 - 1)) ∧ (IntKind.i64.wrap (x3_9 - 1)) < (n8.length : Int) then (if 0 ≤ x3_9 ∧ x3_9 < (n8.length : Int) then (some (decide (((rd n8 (IntKind.i64.wrap (x3_9 - 1))).f3) ≠ ((rd n8 x3_9).f3)))) else none) else none)) else none)) else (some false)) else none)) else none) else none)) else none)) else (if 0 ≤ x3_9 ∧ x3_9 < (n8.length : Int) then (if ((rd n8 x3_9).f2) = 0 then (if x3_9 = 0 then (some true) else (if 0 ≤ (IntKind.i64.wrap (x3_9 - 1)) ∧ (IntKind.i64.wrap (x3_9 - 1)) < (n8.length : Int) then (if ((rd n8 (IntKind.i64.wrap (x3_9 - 1))).f2) ≠ 2 then (some true) else (if 0 ≤ (IntKind.i64.wrap (x3_9 - 1)) ∧ (IntKind.i64.wrap (x3_9 - 1)) < (n8.length : Int) then (if 0 ≤ x3_9 ∧ x3_9 < (n8.length : Int) then (some (decide (((rd n8 (IntKind.i64.wrap (x3_9 - 1))).f3) ≠ ((rd n8 x3_9).f3)))) else none) else none)) else none)) else (some false)) else none)) else none : Option (Bool)).bind (fun t13 => if t13 = true then (if 0 ≤ x3_9 ∧ x3_9 < (n8.length : Int) then ((F70.f ((rd n8 x3_9).f3)).bind (fun r4289 => if 0 ≤ x3_9 ∧ x3_9 < n0 then (lt (zm1_0_9.set (o0 + x3_9).toNat r4289) fun n4294 => (lt (IntKind.i64.wrap (x3_9 + 1)) fun n4295 => F90w0.l0 l0 o0 n0 n8 k n4295 n4294)) else none)) else none) else (lt (IntKind.i64.wrap (x3_9 + 1)) fun n4297 => F90w0.l0 l0 o0 n0 n8 k n4297 zm1_0_9))) else (some zm1_0_9)) else none
def F90w0.f (k : Nat) (l0 : (List S76)) (o0 : Int) (n0 : Int) : Option ((List S76)) := if 0 ≤ o0 ∧ 0 ≤ n0 ∧ o0 + n0 ≤ (l0.length : Int) then (if ([] : (List S76)).length + (sub l0 o0 (o0 + n0)).length ≤ 2932031007402 then lt (([] : (List S76)) ++ (sub l0 o0 (o0 + n0))) fun n8 => ((F90w0.l0 l0 o0 n0 n8 k 0 l0 : Option ((List S76))).bind (fun t9 => if t9.length = l0.length then (some (t9)) else none)) else none) else none
set_option maxHeartbeats 2000000 in
set_option maxRecDepth 100000 in
theorem F90w0.ok {k : Nat} {l0 : (List S76)} {o0 : Int} {n0 : Int} {A0 V0 : Option Addr} {c0 v0 : Nat} (hw0 : Win A0 V0 15 o0 n0 v0) {r : (List S76)} (H : F90w0.f k l0 o0 n0 = some r) : SCA Try.prog 90 #[.slice V0 n0.toNat v0] [Buf k76 76 A0 c0 l0] (fun v B => v = .tuple #[] ∧ B = [Buf k76 76 A0 c0 r]) := by
  refine SCA_of_body Try.func90 rfl rfl ?_
  unfold F90w0.f at H
  obtain ⟨⟨g4301, g4302, g4303⟩, H⟩ := g_pos H
  have hcv_hw0 := hw0.cap
  refine SA_seq ?_
  refine SA_region ?_
  refine RA_step rfl (OA_bs (kd := k76) (zv := (.agg (List.toArray (.int .i32 0 :: .int .i32 0 :: .int .i32 0 :: .int .i32 0 :: .int .u8 0 :: .int .i64 0 :: .int .i64 0 :: .bool false :: .bool false :: .bool false :: .bool false :: .bool false :: .bool false :: .bool false :: .bool false :: [])))) (sz := 15) (cells := []) (xs := ([] : (List S76))) rfl Try.underlying65 zero76 sz76 rfl rfl rfl (by kernel_rfl) rfl rfl (RL_enc enc76 (fun _ _ => rfl) (by kernel_rfl)) fun b2 => ?_)
  refine RA_step rfl (OA_v (v := .slice V0 n0.toNat v0) rfl (V_move rfl) ?_)
  obtain ⟨g5, H⟩ := g_pos H
  obtain ⟨n8, hn8, H⟩ := g_lt H
  refine RA_step rfl (OA_app (k := 1) (A := some ⟨b2, 0, none⟩) (c := 0) (xs := ([] : (List S76))) (ys := sub l0 o0 (o0 + n0)) n8 hn8 rfl Try.underlying65 inf76 rfl rfl rfl rfl rfl (Yld.win Try.underlying65 (Src.buf (k := 0) rfl) hw0 rfl (by omega)) (by omega) (by omega) fun A6 c7 => ?_)
  refine RA_step rfl (OA_v (v := .slice A6 n8.length c7) rfl (V_assign rfl) ?_)
  refine RA_nil ?_
  refine at_normal ?_
  refine SA_seq ?_
  refine SA_region ?_
  refine RA_step rfl (OA_v (v := .int .i64 0) rfl (V_assign rfl) ?_)
  refine RA_nil ?_
  refine at_normal ?_
  obtain ⟨t9, H, Bt9⟩ := g_bind H
  refine SA_mid (fun e ds As => St [] [Buf k76 76 A0 c0 t9] e ds As) ?_ ?_
  · refine SA_block ?_
    refine SA_loop (fun k_ e ds As => ∃ (x3_9 : Int) (zm1_0_9 : (List S76)), F90w0.l0 l0 o0 n0 n8 k_ x3_9 zm1_0_9 = some t9 ∧ St [(0, .slice V0 n0.toNat v0), (2, .slice A6 n8.length c7), (3, .int .i64 x3_9)] [Buf k76 76 A0 c0 zm1_0_9, Buf k76 76 A6 c7 n8] e ds As) (k := k) ⟨_, _, H, St.mk1 (aeq rfl (aeq rfl (aeq rfl aeq0))) (Gh.sel [0, 1] rfl rfl)⟩ ?_
    clear H
    rintro k10 e ds As ⟨x3_9, zm1_0_9, H, hst11⟩
    obtain _ | k10 := k10
    · cases H
    rw [F90w0.l0] at H
    obtain ⟨hl4298, H⟩ := g_pos H
    refine SA.of_St hst11 fun junk => ?_
    refine SA_seq ?_
    refine SA_seq ?_
    refine SA_region ?_
    refine RA_step rfl (OA_v (v := .int .i64 x3_9) rfl (V_move rfl) ?_)
    refine RA_step rfl (OA_v (v := .slice V0 n0.toNat v0) rfl (V_move rfl) ?_)
    refine RA_step rfl (OA_v (v := .int .i64 n0) rfl (V_lenW hw0 Try.underlying65 rfl) ?_)
    refine RA_step rfl (OA_v (v := .bool (decide (x3_9 < n0))) rfl (V_lss rfl rfl) ?_)
    refine RA_nil ?_
    refine at_normal ?_
    by_cases h12 : x3_9 < n0
    · replace H := g_ift h12 H
      refine SA_condT rfl h12 ?_
      refine SA_skip ?_
      refine at_normal ?_
      refine SA_seq ?_
      refine SA_block ?_
      refine SA_seq ?_
      obtain ⟨t13, H, Bt13⟩ := g_bind H
      refine SA_mid (fun e ds As => St [(0, .slice V0 n0.toNat v0), (2, .slice A6 n8.length c7), (3, .int .i64 x3_9), (83, .bool t13)] [Buf k76 76 A0 c0 zm1_0_9, Buf k76 76 A6 c7 n8] e ds As) ?_ ?_
      · refine SA_drawHq (0 :: 1 :: 2 :: 3 :: 4 :: 5 :: 6 :: 7 :: 8 :: 9 :: 10 :: 11 :: 12 :: 13 :: 14 :: 15 :: 16 :: 17 :: 18 :: 19 :: 20 :: 21 :: 22 :: 23 :: 24 :: 25 :: 26 :: 27 :: 28 :: 29 :: 30 :: 31 :: 32 :: 33 :: 34 :: 35 :: 36 :: 37 :: 38 :: 39 :: 40 :: 41 :: 42 :: 43 :: 44 :: 45 :: 46 :: 47 :: 48 :: 49 :: 50 :: 51 :: 52 :: 53 :: 54 :: 55 :: 56 :: 57 :: 58 :: 59 :: 60 :: 61 :: 62 :: 63 :: 64 :: 65 :: 66 :: 67 :: 68 :: 69 :: 70 :: []) (List.toArray ([] :: [] :: [0, 1] :: [0, 1, 2] :: [0, 1, 2, 3] :: [0, 1, 2, 3, 4] :: [0, 1, 2, 3, 4, 5] :: [0, 1, 2, 3, 4, 5, 6] :: [0, 1, 2, 3, 4, 5, 6, 7] :: [0, 1, 2, 3, 4, 5, 6] :: [0, 1, 2, 3, 4, 5, 6, 9] :: [0, 1, 2, 3, 4, 5, 6, 7, 8, 9, 10] :: [0, 1, 2, 3, 4, 5, 6, 7, 8, 9, 10, 11] :: (0 :: 1 :: 2 :: 3 :: 4 :: 5 :: 6 :: 7 :: 8 :: 9 :: 10 :: 11 :: 12 :: []) :: (0 :: 1 :: 2 :: 3 :: 4 :: 5 :: 6 :: 7 :: 8 :: 9 :: 10 :: 11 :: 12 :: []) :: (0 :: 1 :: 2 :: 3 :: 4 :: 5 :: 6 :: 7 :: 8 :: 9 :: 10 :: 11 :: 12 :: 14 :: []) :: (0 :: 1 :: 2 :: 3 :: 4 :: 5 :: 6 :: 7 :: 8 :: 9 :: 10 :: 11 :: 12 :: 13 :: 14 :: 15 :: []) :: (0 :: 1 :: 2 :: 3 :: 4 :: 5 :: 6 :: 7 :: 8 :: 9 :: 10 :: 11 :: 12 :: 13 :: 14 :: 15 :: 16 :: []) :: (0 :: 1 :: 2 :: 3 :: 4 :: 5 :: 6 :: 7 :: 8 :: 9 :: 10 :: 11 :: 12 :: 13 :: 14 :: 15 :: 16 :: 17 :: []) :: (0 :: 1 :: 2 :: 3 :: 4 :: 5 :: 6 :: 7 :: 8 :: 9 :: 10 :: 11 :: 12 :: 13 :: 14 :: 15 :: 16 :: 17 :: 18 :: []) :: (0 :: 1 :: 2 :: 3 :: 4 :: 5 :: 6 :: 7 :: 8 :: 9 :: 10 :: 11 :: 12 :: 13 :: 14 :: 15 :: 16 :: 17 :: 18 :: 19 :: []) :: (0 :: 1 :: 2 :: 3 :: 4 :: 5 :: 6 :: 7 :: 8 :: 9 :: 10 :: 11 :: 12 :: 13 :: 14 :: 15 :: 16 :: 17 :: 18 :: 19 :: 20 :: []) :: (0 :: 1 :: 2 :: 3 :: 4 :: 5 :: 6 :: 7 :: 8 :: 9 :: 10 :: 11 :: 12 :: 13 :: 14 :: 15 :: 16 :: 17 :: 18 :: 19 :: 20 :: 21 :: []) :: (0 :: 1 :: 2 :: 3 :: 4 :: 5 :: 6 :: 7 :: 8 :: 9 :: 10 :: 11 :: 12 :: 13 :: 14 :: 15 :: 16 :: 17 :: 18 :: 19 :: 20 :: 21 :: []) :: (0 :: 1 :: 2 :: 3 :: 4 :: 5 :: 6 :: 7 :: 8 :: 9 :: 10 :: 11 :: 12 :: 13 :: 14 :: 15 :: 16 :: 17 :: 18 :: 19 :: 20 :: 21 :: 23 :: []) :: (0 :: 1 :: 2 :: 3 :: 4 :: 5 :: 6 :: 7 :: 8 :: 9 :: 10 :: 11 :: 12 :: 13 :: 14 :: 15 :: 16 :: 17 :: 18 :: 19 :: 20 :: 21 :: 22 :: 23 :: 24 :: []) :: (0 :: 1 :: 2 :: 3 :: 4 :: 5 :: 6 :: 7 :: 8 :: 9 :: 10 :: 11 :: 12 :: 13 :: 14 :: 15 :: 16 :: 17 :: 18 :: 19 :: 20 :: 21 :: 22 :: 23 :: 24 :: 25 :: []) :: (0 :: 1 :: 2 :: 3 :: 4 :: 5 :: 6 :: 7 :: 8 :: 9 :: 10 :: 11 :: 12 :: 13 :: 14 :: 15 :: 16 :: 17 :: 18 :: 19 :: 20 :: 21 :: 22 :: 23 :: 24 :: 25 :: 26 :: []) :: (0 :: 1 :: 2 :: 3 :: 4 :: 5 :: 6 :: 7 :: 8 :: 9 :: 10 :: 11 :: 12 :: 13 :: 14 :: 15 :: 16 :: 17 :: 18 :: 19 :: 20 :: 21 :: []) :: (0 :: 1 :: 2 :: 3 :: 4 :: 5 :: 6 :: 7 :: 8 :: 9 :: 10 :: 11 :: 12 :: 13 :: 14 :: 15 :: 16 :: 17 :: 18 :: 19 :: 20 :: 21 :: []) :: (0 :: 1 :: 2 :: 3 :: 4 :: 5 :: 6 :: 7 :: 8 :: 9 :: 10 :: 11 :: 12 :: 13 :: 14 :: 15 :: 16 :: 17 :: 18 :: 19 :: 20 :: 21 :: 28 :: 29 :: []) :: (0 :: 1 :: 2 :: 3 :: 4 :: 5 :: 6 :: 7 :: 8 :: 9 :: 10 :: 11 :: 12 :: 13 :: 14 :: 15 :: 16 :: 17 :: 18 :: 19 :: 20 :: 21 :: 28 :: 29 :: 30 :: []) :: (0 :: 1 :: 2 :: 3 :: 4 :: 5 :: 6 :: 7 :: 8 :: 9 :: 10 :: 11 :: 12 :: 13 :: 14 :: 15 :: 16 :: 17 :: 18 :: 19 :: 20 :: 21 :: 28 :: 29 :: 30 :: 31 :: []) :: (0 :: 1 :: 2 :: 3 :: 4 :: 5 :: 6 :: 7 :: 8 :: 9 :: 10 :: 11 :: 12 :: 13 :: 14 :: 15 :: 16 :: 17 :: 18 :: 19 :: 20 :: 21 :: 22 :: 23 :: 24 :: 25 :: 26 :: 27 :: 28 :: 29 :: 30 :: 31 :: 32 :: []) :: (0 :: 1 :: 2 :: 3 :: 4 :: 5 :: 6 :: 7 :: 8 :: 9 :: 10 :: 11 :: 12 :: 13 :: 14 :: 15 :: 16 :: 17 :: 18 :: 19 :: 20 :: 21 :: 22 :: 23 :: 24 :: 25 :: 26 :: 27 :: 28 :: 29 :: 30 :: 31 :: 32 :: 33 :: []) :: (0 :: 1 :: 2 :: 3 :: 4 :: 5 :: 6 :: 7 :: 8 :: 9 :: 10 :: 11 :: 12 :: 13 :: 14 :: 15 :: 16 :: 17 :: 18 :: 19 :: 20 :: 21 :: 22 :: 23 :: 24 :: 25 :: 26 :: 27 :: 28 :: 29 :: 30 :: 31 :: 32 :: 33 :: 34 :: []) :: (0 :: 1 :: 2 :: 3 :: 4 :: 5 :: 6 :: 7 :: 8 :: 9 :: 10 :: 11 :: 12 :: 13 :: 14 :: 15 :: 16 :: 17 :: 18 :: 19 :: 20 :: 21 :: 22 :: 23 :: 24 :: 25 :: 26 :: 27 :: 28 :: 29 :: 30 :: 31 :: 32 :: 33 :: 34 :: 35 :: []) :: (0 :: 1 :: 2 :: 3 :: 4 :: 5 :: 6 :: 7 :: 8 :: 9 :: 10 :: 11 :: 12 :: 13 :: 14 :: 15 :: 16 :: 17 :: 18 :: 19 :: 20 :: 21 :: 22 :: 23 :: 24 :: 25 :: 26 :: 27 :: 28 :: 29 :: 30 :: 31 :: 32 :: 33 :: 34 :: 35 :: 36 :: []) :: (0 :: 1 :: 2 :: 3 :: 4 :: 5 :: 6 :: 7 :: 8 :: 9 :: 10 :: 11 :: 12 :: 13 :: 14 :: 15 :: 16 :: 17 :: 18 :: 19 :: 20 :: 21 :: 22 :: 23 :: 24 :: 25 :: 26 :: 27 :: 28 :: 29 :: 30 :: 31 :: 32 :: 33 :: 34 :: 35 :: 36 :: []) :: (0 :: 1 :: 2 :: 3 :: 4 :: 5 :: 6 :: 7 :: 8 :: 9 :: 10 :: 11 :: 12 :: 13 :: 14 :: 15 :: 16 :: 17 :: 18 :: 19 :: 20 :: 21 :: 22 :: 23 :: 24 :: 25 :: 26 :: 27 :: 28 :: 29 :: 30 :: 31 :: 32 :: 33 :: 34 :: 35 :: 36 :: 37 :: 38 :: []) :: (0 :: 1 :: 2 :: 3 :: 4 :: 5 :: 6 :: 7 :: 8 :: 9 :: 10 :: 11 :: 12 :: 13 :: 14 :: 15 :: 16 :: 17 :: 18 :: 19 :: 20 :: 21 :: 22 :: 23 :: 24 :: 25 :: 26 :: 27 :: 28 :: 29 :: 30 :: 31 :: 32 :: 33 :: 34 :: 35 :: 36 :: 37 :: 38 :: 39 :: []) :: (0 :: 1 :: 2 :: 3 :: 4 :: 5 :: 6 :: 7 :: 8 :: 9 :: 10 :: 11 :: 12 :: 13 :: 14 :: 15 :: 16 :: 17 :: 18 :: 19 :: 20 :: 21 :: 22 :: 23 :: 24 :: 25 :: 26 :: 27 :: 28 :: 29 :: 30 :: 31 :: 32 :: 33 :: 34 :: 35 :: 36 :: 37 :: 38 :: 39 :: 40 :: []) :: (0 :: 1 :: 2 :: 3 :: 4 :: 5 :: 6 :: 7 :: 8 :: 9 :: 10 :: 11 :: 12 :: 13 :: 14 :: 15 :: 16 :: 17 :: 18 :: 19 :: 20 :: 21 :: 22 :: 23 :: 24 :: 25 :: 26 :: 27 :: 28 :: 29 :: 30 :: 31 :: 32 :: 33 :: 34 :: 35 :: 36 :: 37 :: 38 :: 39 :: 40 :: 41 :: []) :: (0 :: 1 :: 2 :: 3 :: 4 :: 5 :: 6 :: 7 :: 8 :: 9 :: 10 :: 11 :: 12 :: 13 :: 14 :: 15 :: 16 :: 17 :: 18 :: 19 :: 20 :: 21 :: 22 :: 23 :: 24 :: 25 :: 26 :: 27 :: 28 :: 29 :: 30 :: 31 :: 32 :: 33 :: 34 :: 35 :: 36 :: 37 :: 38 :: 39 :: 40 :: 41 :: 42 :: []) :: (0 :: 1 :: 2 :: 3 :: 4 :: 5 :: 6 :: 7 :: 8 :: 9 :: 10 :: 11 :: 12 :: 13 :: 14 :: 15 :: 16 :: 17 :: 18 :: 19 :: 20 :: 21 :: 22 :: 23 :: 24 :: 25 :: 26 :: 27 :: 28 :: 29 :: 30 :: 31 :: 32 :: 33 :: 34 :: 35 :: 36 :: 37 :: 38 :: 39 :: 40 :: 41 :: 42 :: 43 :: []) :: (0 :: 1 :: 2 :: 3 :: 4 :: 5 :: 6 :: 7 :: 8 :: 9 :: 10 :: 11 :: 12 :: 13 :: 14 :: 15 :: 16 :: 17 :: 18 :: 19 :: 20 :: 21 :: 22 :: 23 :: 24 :: 25 :: 26 :: 27 :: 28 :: 29 :: 30 :: 31 :: 32 :: 33 :: 34 :: 35 :: 36 :: 37 :: 38 :: 39 :: 40 :: 41 :: 42 :: 43 :: 44 :: []) :: (0 :: 1 :: 2 :: 3 :: 4 :: 5 :: 6 :: 7 :: 8 :: 9 :: 10 :: 11 :: 12 :: 13 :: 14 :: 15 :: 16 :: 17 :: 18 :: 19 :: 20 :: 21 :: 22 :: 23 :: 24 :: 25 :: 26 :: 27 :: 28 :: 29 :: 30 :: 31 :: 32 :: 33 :: 34 :: 35 :: 36 :: 37 :: 38 :: 39 :: 40 :: 41 :: 42 :: 43 :: 44 :: 45 :: []) :: (0 :: 1 :: 2 :: 3 :: 4 :: 5 :: 6 :: 7 :: 8 :: 9 :: 10 :: 11 :: 12 :: 13 :: 14 :: 15 :: 16 :: 17 :: 18 :: 19 :: 20 :: 21 :: 22 :: 23 :: 24 :: 25 :: 26 :: 27 :: 28 :: 29 :: 30 :: 31 :: 32 :: 33 :: 34 :: 35 :: 36 :: 37 :: 38 :: 39 :: 40 :: 41 :: 42 :: 43 :: 44 :: 45 :: 46 :: []) :: (0 :: 1 :: 2 :: 3 :: 4 :: 5 :: 6 :: 7 :: 8 :: 9 :: 10 :: 11 :: 12 :: 13 :: 14 :: 15 :: 16 :: 17 :: 18 :: 19 :: 20 :: 21 :: 22 :: 23 :: 24 :: 25 :: 26 :: 27 :: 28 :: 29 :: 30 :: 31 :: 32 :: 33 :: 34 :: 35 :: 36 :: 37 :: 38 :: 39 :: 40 :: 41 :: 42 :: 43 :: 44 :: 45 :: 46 :: []) :: (0 :: 1 :: 2 :: 3 :: 4 :: 5 :: 6 :: 7 :: 8 :: 9 :: 10 :: 11 :: 12 :: 13 :: 14 :: 15 :: 16 :: 17 :: 18 :: 19 :: 20 :: 21 :: 22 :: 23 :: 24 :: 25 :: 26 :: 27 :: 28 :: 29 :: 30 :: 31 :: 32 :: 33 :: 34 :: 35 :: 36 :: 37 :: 38 :: 39 :: 40 :: 41 :: 42 :: 43 :: 44 :: 45 :: 46 :: 48 :: []) :: (0 :: 1 :: 2 :: 3 :: 4 :: 5 :: 6 :: 7 :: 8 :: 9 :: 10 :: 11 :: 12 :: 13 :: 14 :: 15 :: 16 :: 17 :: 18 :: 19 :: 20 :: 21 :: 22 :: 23 :: 24 :: 25 :: 26 :: 27 :: 28 :: 29 :: 30 :: 31 :: 32 :: 33 :: 34 :: 35 :: 36 :: 37 :: 38 :: 39 :: 40 :: 41 :: 42 :: 43 :: 44 :: 45 :: 46 :: 47 :: 48 :: 49 :: []) :: (0 :: 1 :: 2 :: 3 :: 4 :: 5 :: 6 :: 7 :: 8 :: 9 :: 10 :: 11 :: 12 :: 13 :: 14 :: 15 :: 16 :: 17 :: 18 :: 19 :: 20 :: 21 :: 22 :: 23 :: 24 :: 25 :: 26 :: 27 :: 28 :: 29 :: 30 :: 31 :: 32 :: 33 :: 34 :: 35 :: 36 :: 37 :: 38 :: 39 :: 40 :: 41 :: 42 :: 43 :: 44 :: 45 :: 46 :: 47 :: 48 :: 49 :: 50 :: []) :: (0 :: 1 :: 2 :: 3 :: 4 :: 5 :: 6 :: 7 :: 8 :: 9 :: 10 :: 11 :: 12 :: 13 :: 14 :: 15 :: 16 :: 17 :: 18 :: 19 :: 20 :: 21 :: 22 :: 23 :: 24 :: 25 :: 26 :: 27 :: 28 :: 29 :: 30 :: 31 :: 32 :: 33 :: 34 :: 35 :: 36 :: 37 :: 38 :: 39 :: 40 :: 41 :: 42 :: 43 :: 44 :: 45 :: 46 :: 47 :: 48 :: 49 :: 50 :: 51 :: []) :: (0 :: 1 :: 2 :: 3 :: 4 :: 5 :: 6 :: 7 :: 8 :: 9 :: 10 :: 11 :: 12 :: 13 :: 14 :: 15 :: 16 :: 17 :: 18 :: 19 :: 20 :: 21 :: 22 :: 23 :: 24 :: 25 :: 26 :: 27 :: 28 :: 29 :: 30 :: 31 :: 32 :: 33 :: 34 :: 35 :: 36 :: 37 :: 38 :: 39 :: 40 :: 41 :: 42 :: 43 :: 44 :: 45 :: 46 :: 47 :: 48 :: 49 :: 50 :: 51 :: 52 :: []) :: (0 :: 1 :: 2 :: 3 :: 4 :: 5 :: 6 :: 7 :: 8 :: 9 :: 10 :: 11 :: 12 :: 13 :: 14 :: 15 :: 16 :: 17 :: 18 :: 19 :: 20 :: 21 :: 22 :: 23 :: 24 :: 25 :: 26 :: 27 :: 28 :: 29 :: 30 :: 31 :: 32 :: 33 :: 34 :: 35 :: 36 :: 37 :: 38 :: 39 :: 40 :: 41 :: 42 :: 43 :: 44 :: 45 :: 46 :: 47 :: 48 :: 49 :: 50 :: 51 :: 52 :: 53 :: []) :: (0 :: 1 :: 2 :: 3 :: 4 :: 5 :: 6 :: 7 :: 8 :: 9 :: 10 :: 11 :: 12 :: 13 :: 14 :: 15 :: 16 :: 17 :: 18 :: 19 :: 20 :: 21 :: 22 :: 23 :: 24 :: 25 :: 26 :: 27 :: 28 :: 29 :: 30 :: 31 :: 32 :: 33 :: 34 :: 35 :: 36 :: 37 :: 38 :: 39 :: 40 :: 41 :: 42 :: 43 :: 44 :: 45 :: 46 :: 47 :: 48 :: 49 :: 50 :: 51 :: 52 :: 53 :: 54 :: []) :: (0 :: 1 :: 2 :: 3 :: 4 :: 5 :: 6 :: 7 :: 8 :: 9 :: 10 :: 11 :: 12 :: 13 :: 14 :: 15 :: 16 :: 17 :: 18 :: 19 :: 20 :: 21 :: 22 :: 23 :: 24 :: 25 :: 26 :: 27 :: 28 :: 29 :: 30 :: 31 :: 32 :: 33 :: 34 :: 35 :: 36 :: 37 :: 38 :: 39 :: 40 :: 41 :: 42 :: 43 :: 44 :: 45 :: 46 :: 47 :: 48 :: 49 :: 50 :: 51 :: 52 :: 53 :: 54 :: 55 :: []) :: (0 :: 1 :: 2 :: 3 :: 4 :: 5 :: 6 :: 7 :: 8 :: 9 :: 10 :: 11 :: 12 :: 13 :: 14 :: 15 :: 16 :: 17 :: 18 :: 19 :: 20 :: 21 :: 22 :: 23 :: 24 :: 25 :: 26 :: 27 :: 28 :: 29 :: 30 :: 31 :: 32 :: 33 :: 34 :: 35 :: 36 :: 37 :: 38 :: 39 :: 40 :: 41 :: 42 :: 43 :: 44 :: 45 :: 46 :: 47 :: 48 :: 49 :: 50 :: 51 :: 52 :: 53 :: 54 :: 55 :: []) :: (0 :: 1 :: 2 :: 3 :: 4 :: 5 :: 6 :: 7 :: 8 :: 9 :: 10 :: 11 :: 12 :: 13 :: 14 :: 15 :: 16 :: 17 :: 18 :: 19 :: 20 :: 21 :: 22 :: 23 :: 24 :: 25 :: 26 :: 27 :: 28 :: 29 :: 30 :: 31 :: 32 :: 33 :: 34 :: 35 :: 36 :: 37 :: 38 :: 39 :: 40 :: 41 :: 42 :: 43 :: 44 :: 45 :: 46 :: 47 :: 48 :: 49 :: 50 :: 51 :: 52 :: 53 :: 54 :: 55 :: 57 :: []) :: (0 :: 1 :: 2 :: 3 :: 4 :: 5 :: 6 :: 7 :: 8 :: 9 :: 10 :: 11 :: 12 :: 13 :: 14 :: 15 :: 16 :: 17 :: 18 :: 19 :: 20 :: 21 :: 22 :: 23 :: 24 :: 25 :: 26 :: 27 :: 28 :: 29 :: 30 :: 31 :: 32 :: 33 :: 34 :: 35 :: 36 :: 37 :: 38 :: 39 :: 40 :: 41 :: 42 :: 43 :: 44 :: 45 :: 46 :: 47 :: 48 :: 49 :: 50 :: 51 :: 52 :: 53 :: 54 :: 55 :: 56 :: 57 :: 58 :: []) :: (0 :: 1 :: 2 :: 3 :: 4 :: 5 :: 6 :: 7 :: 8 :: 9 :: 10 :: 11 :: 12 :: 13 :: 14 :: 15 :: 16 :: 17 :: 18 :: 19 :: 20 :: 21 :: 22 :: 23 :: 24 :: 25 :: 26 :: 27 :: 28 :: 29 :: 30 :: 31 :: 32 :: 33 :: 34 :: 35 :: 36 :: 37 :: 38 :: 39 :: 40 :: 41 :: 42 :: 43 :: 44 :: 45 :: 46 :: 47 :: 48 :: 49 :: 50 :: 51 :: 52 :: 53 :: 54 :: 55 :: 56 :: 57 :: 58 :: 59 :: []) :: (0 :: 1 :: 2 :: 3 :: 4 :: 5 :: 6 :: 7 :: 8 :: 9 :: 10 :: 11 :: 12 :: 13 :: 14 :: 15 :: 16 :: 17 :: 18 :: 19 :: 20 :: 21 :: 22 :: 23 :: 24 :: 25 :: 26 :: 27 :: 28 :: 29 :: 30 :: 31 :: 32 :: 33 :: 34 :: 35 :: 36 :: 37 :: 38 :: 39 :: 40 :: 41 :: 42 :: 43 :: 44 :: 45 :: 46 :: 47 :: 48 :: 49 :: 50 :: 51 :: 52 :: 53 :: 54 :: 55 :: 56 :: 57 :: 58 :: 59 :: 60 :: []) :: (0 :: 1 :: 2 :: 3 :: 4 :: 5 :: 6 :: 7 :: 8 :: 9 :: 10 :: 11 :: 12 :: 13 :: 14 :: 15 :: 16 :: 17 :: 18 :: 19 :: 20 :: 21 :: 22 :: 23 :: 24 :: 25 :: 26 :: 27 :: 28 :: 29 :: 30 :: 31 :: 32 :: 33 :: 34 :: 35 :: 36 :: 37 :: 38 :: 39 :: 40 :: 41 :: 42 :: 43 :: 44 :: 45 :: 46 :: 47 :: 48 :: 49 :: 50 :: 51 :: 52 :: 53 :: 54 :: 55 :: []) :: (0 :: 1 :: 2 :: 3 :: 4 :: 5 :: 6 :: 7 :: 8 :: 9 :: 10 :: 11 :: 12 :: 13 :: 14 :: 15 :: 16 :: 17 :: 18 :: 19 :: 20 :: 21 :: 22 :: 23 :: 24 :: 25 :: 26 :: 27 :: 28 :: 29 :: 30 :: 31 :: 32 :: 33 :: 34 :: 35 :: 36 :: 37 :: 38 :: 39 :: 40 :: 41 :: 42 :: 43 :: 44 :: 45 :: 46 :: 47 :: 48 :: 49 :: 50 :: 51 :: 52 :: 53 :: 54 :: 55 :: []) :: (0 :: 1 :: 2 :: 3 :: 4 :: 5 :: 6 :: 7 :: 8 :: 9 :: 10 :: 11 :: 12 :: 13 :: 14 :: 15 :: 16 :: 17 :: 18 :: 19 :: 20 :: 21 :: 22 :: 23 :: 24 :: 25 :: 26 :: 27 :: 28 :: 29 :: 30 :: 31 :: 32 :: 33 :: 34 :: 35 :: 36 :: 37 :: 38 :: 39 :: 40 :: 41 :: 42 :: 43 :: 44 :: 45 :: 46 :: 47 :: 48 :: 49 :: 50 :: 51 :: 52 :: 53 :: 54 :: 55 :: 62 :: 63 :: []) :: (0 :: 1 :: 2 :: 3 :: 4 :: 5 :: 6 :: 7 :: 8 :: 9 :: 10 :: 11 :: 12 :: 13 :: 14 :: 15 :: 16 :: 17 :: 18 :: 19 :: 20 :: 21 :: 22 :: 23 :: 24 :: 25 :: 26 :: 27 :: 28 :: 29 :: 30 :: 31 :: 32 :: 33 :: 34 :: 35 :: 36 :: 37 :: 38 :: 39 :: 40 :: 41 :: 42 :: 43 :: 44 :: 45 :: 46 :: 47 :: 48 :: 49 :: 50 :: 51 :: 52 :: 53 :: 54 :: 55 :: 62 :: 63 :: 64 :: []) :: (0 :: 1 :: 2 :: 3 :: 4 :: 5 :: 6 :: 7 :: 8 :: 9 :: 10 :: 11 :: 12 :: 13 :: 14 :: 15 :: 16 :: 17 :: 18 :: 19 :: 20 :: 21 :: 22 :: 23 :: 24 :: 25 :: 26 :: 27 :: 28 :: 29 :: 30 :: 31 :: 32 :: 33 :: 34 :: 35 :: 36 :: 37 :: 38 :: 39 :: 40 :: 41 :: 42 :: 43 :: 44 :: 45 :: 46 :: 47 :: 48 :: 49 :: 50 :: 51 :: 52 :: 53 :: 54 :: 55 :: 62 :: 63 :: 64 :: 65 :: []) :: (0 :: 1 :: 2 :: 3 :: 4 :: 5 :: 6 :: 7 :: 8 :: 9 :: 10 :: 11 :: 12 :: 13 :: 14 :: 15 :: 16 :: 17 :: 18 :: 19 :: 20 :: 21 :: 22 :: 23 :: 24 :: 25 :: 26 :: 27 :: 28 :: 29 :: 30 :: 31 :: 32 :: 33 :: 34 :: 35 :: 36 :: 37 :: 38 :: 39 :: 40 :: 41 :: 42 :: 43 :: 44 :: 45 :: 46 :: 47 :: 48 :: 49 :: 50 :: 51 :: 52 :: 53 :: 54 :: 55 :: 56 :: 57 :: 58 :: 59 :: 60 :: 61 :: 62 :: 63 :: 64 :: 65 :: 66 :: []) :: (0 :: 1 :: 2 :: 3 :: 4 :: 5 :: 6 :: 7 :: 8 :: 9 :: 10 :: 11 :: 12 :: 13 :: 14 :: 15 :: 16 :: 17 :: 18 :: 19 :: 20 :: 21 :: 22 :: 23 :: 24 :: 25 :: 26 :: 27 :: 28 :: 29 :: 30 :: 31 :: 32 :: 33 :: 34 :: 35 :: 36 :: 37 :: 38 :: 39 :: 40 :: 41 :: 42 :: 43 :: 44 :: 45 :: 46 :: 47 :: 48 :: 49 :: 50 :: 51 :: 52 :: 53 :: 54 :: 55 :: 56 :: 57 :: 58 :: 59 :: 60 :: 61 :: 62 :: 63 :: 64 :: 65 :: 66 :: 67 :: []) :: (0 :: 1 :: 2 :: 3 :: 4 :: 5 :: 6 :: 7 :: 8 :: 9 :: 10 :: 11 :: 12 :: 13 :: 14 :: 15 :: 16 :: 17 :: 18 :: 19 :: 20 :: 21 :: 22 :: 23 :: 24 :: 25 :: 26 :: 27 :: 28 :: 29 :: 30 :: 31 :: 32 :: 33 :: 34 :: 35 :: 36 :: 37 :: 38 :: 39 :: 40 :: 41 :: 42 :: 43 :: 44 :: 45 :: 46 :: 47 :: 48 :: 49 :: 50 :: 51 :: 52 :: 53 :: 54 :: 55 :: 56 :: 57 :: 58 :: 59 :: 60 :: 61 :: 62 :: 63 :: 64 :: 65 :: 66 :: 67 :: 68 :: []) :: (0 :: 1 :: 2 :: 3 :: 4 :: 5 :: 6 :: 7 :: 8 :: 9 :: 10 :: 11 :: 12 :: 13 :: 14 :: 15 :: 16 :: 17 :: 18 :: 19 :: 20 :: 21 :: 22 :: 23 :: 24 :: 25 :: 26 :: 27 :: 28 :: 29 :: 30 :: 31 :: 32 :: 33 :: 34 :: 35 :: 36 :: 37 :: 38 :: 39 :: 40 :: 41 :: 42 :: 43 :: 44 :: 45 :: 46 :: 47 :: 48 :: 49 :: 50 :: 51 :: 52 :: 53 :: 54 :: 55 :: 56 :: 57 :: 58 :: 59 :: 60 :: 61 :: 62 :: 63 :: 64 :: 65 :: 66 :: 67 :: 68 :: 69 :: []) :: [])) [1] [0] mixed rfl rfl rfl (PanOk.thn (PanOk.thn (PanOk.inb (PanOk.thn (PanOk.thn (PanOk.inb (PanOk.thn PanOk.body))))))) fun I0 hS h0 hh0 w0 sH dd pk => ?_
        refine DH_take (v := .slice A6 n8.length c7) 0 (by kernel_rfl) rfl rfl (.no rfl) pk sH rfl (VR.ofV (V_move rfl)) ?_
        refine DH_take (v := .int .i64 x3_9) 1 (by kernel_rfl) rfl rfl (.no rfl) pk sH rfl (VR.ofV (V_move rfl)) ?_
        obtain ⟨⟨g134, g135⟩, H⟩ := g_pos H
        refine DH_take 2 (by kernel_rfl) rfl rfl (.no rfl) pk sH rfl (VR_index (i := x3_9) Try.underlying65 sz76 rfl rfl (Src.buf (k := 0) rfl) g134 g135) ?_
        refine DH_take (v := .pointer (some ((el A6 (x3_9.toNat * 15)).add 4))) 3 (by kernel_rfl) rfl rfl (.no rfl) pk sH rfl (VR.ofV (V_fieldAddrN (B := el A6 (x3_9.toNat * 15)) (m := 0) (o := 4) Try.underlying76 rfl nz5 rfl rfl)) ?_
        refine DH_take 4 (by kernel_rfl) rfl rfl (.no rfl) pk sH rfl (VR_load_el (enc := enc76) (i := x3_9) (j := x3_9.toNat * 15) (m := 4) (sz := 15) Try.underlying5 rfl rfl rfl rfl (Src.buf (k := 0) rfl) g134 g135 (fun _ _ h => h) rfl) ?_
        refine DH_take (v := .bool (decide (((rd n8 x3_9).f2) = 2))) 5 (by kernel_rfl) rfl rfl (.no rfl) pk sH rfl (VR.ofV (V_eql rfl rfl)) ?_
        refine DH_take (v := .bool (decide (((rd n8 x3_9).f2) = 2))) 6 (by kernel_rfl) rfl rfl (.no rfl) pk sH rfl (VR.ofV (V_move rfl)) ?_
        by_cases h4275 : ((rd n8 x3_9).f2) = 2
        · replace H := g_ift h4275 H
          refine DH_take (v := .int .i64 x3_9) 7 (by kernel_rfl) rfl rfl (.yes rfl rfl rfl rfl (dec_t h4275)) pk sH rfl (VR.ofV (V_move rfl)) ?_
          refine DH_take (v := .int .i64 (IntKind.i64.wrap (x3_9 + 1))) 8 (by kernel_rfl) rfl rfl (.yes rfl rfl rfl rfl (dec_t h4275)) pk sH rfl (VR.ofV (V_add rfl rfl)) ?_
          refine DH_take (v := .slice V0 n0.toNat v0) 9 (by kernel_rfl) rfl rfl (.yes rfl rfl rfl rfl (dec_t h4275)) pk sH rfl (VR.ofV (V_move rfl)) ?_
          refine DH_take (v := .int .i64 n0) 10 (by kernel_rfl) rfl rfl (.yes rfl rfl rfl rfl (dec_t h4275)) pk sH rfl (VR.ofV (V_lenW hw0 Try.underlying65 rfl)) ?_
          refine DH_take (v := .bool (decide ((IntKind.i64.wrap (x3_9 + 1)) ≥ n0))) 11 (by kernel_rfl) rfl rfl (.yes rfl rfl rfl rfl (dec_t h4275)) pk sH rfl (VR.ofV (V_geq rfl rfl)) ?_
          refine DH_take (v := .bool (decide ((IntKind.i64.wrap (x3_9 + 1)) ≥ n0))) 12 (by kernel_rfl) rfl rfl (.yes rfl rfl rfl rfl (dec_t h4275)) pk sH rfl (VR.ofV (V_move rfl)) ?_
          by_cases h4276 : (IntKind.i64.wrap (x3_9 + 1)) ≥ n0
          · replace H := g_ift h4276 H
            refine DH_skip 13 (by kernel_rfl) rfl rfl (.no rfl rfl rfl rfl (dec_t h4276)) pk rfl ?_
            refine DH_skip 14 (by kernel_rfl) rfl rfl (.no rfl rfl rfl rfl (dec_t h4276)) pk rfl ?_
            refine DH_skip 15 (by kernel_rfl) rfl rfl (.no rfl rfl rfl rfl (dec_t h4276)) pk rfl ?_
            refine DH_skip 16 (by kernel_rfl) rfl rfl (.no rfl rfl rfl rfl (dec_t h4276)) pk rfl ?_
            refine DH_skip 17 (by kernel_rfl) rfl rfl (.no rfl rfl rfl rfl (dec_t h4276)) pk rfl ?_
            refine DH_skip 18 (by kernel_rfl) rfl rfl (.no rfl rfl rfl rfl (dec_t h4276)) pk rfl ?_
            refine DH_skip 19 (by kernel_rfl) rfl rfl (.no rfl rfl rfl rfl (dec_t h4276)) pk rfl ?_
            refine DH_take 20 (by kernel_rfl) rfl rfl (.yes rfl rfl rfl rfl (dec_t h4275)) pk sH rfl (VR.ofV (V_pickT rfl (dec_t h4276) rfl)) ?_
            refine DH_take (v := .bool true) 21 (by kernel_rfl) rfl rfl (.yes rfl rfl rfl rfl (dec_t h4275)) pk sH rfl (VR.ofV (V_move rfl)) ?_
            refine DH_skip 22 (by kernel_rfl) rfl rfl (.no rfl rfl rfl rfl (rfl)) pk rfl ?_
            refine DH_skip 23 (by kernel_rfl) rfl rfl (.no rfl rfl rfl rfl (rfl)) pk rfl ?_
            refine DH_skip 24 (by kernel_rfl) rfl rfl (.no rfl rfl rfl rfl (rfl)) pk rfl ?_
            refine DH_skip 25 (by kernel_rfl) rfl rfl (.no rfl rfl rfl rfl (rfl)) pk rfl ?_
            refine DH_skip 26 (by kernel_rfl) rfl rfl (.no rfl rfl rfl rfl (rfl)) pk rfl ?_
            refine DH_skip 27 (by kernel_rfl) rfl rfl (.no rfl rfl rfl rfl (rfl)) pk rfl ?_
            refine DH_skip 28 (by kernel_rfl) rfl rfl (.no rfl rfl rfl rfl (rfl)) pk rfl ?_
            refine DH_skip 29 (by kernel_rfl) rfl rfl (.no rfl rfl rfl rfl (rfl)) pk rfl ?_
            refine DH_skip 30 (by kernel_rfl) rfl rfl (.no rfl rfl rfl rfl (rfl)) pk rfl ?_
            refine DH_skip 31 (by kernel_rfl) rfl rfl (.no rfl rfl rfl rfl (rfl)) pk rfl ?_
            refine DH_skip 32 (by kernel_rfl) rfl rfl (.no rfl rfl rfl rfl (rfl)) pk rfl ?_
            refine DH_skip 33 (by kernel_rfl) rfl rfl (.no rfl rfl rfl rfl (rfl)) pk rfl ?_
            refine DH_take 34 (by kernel_rfl) rfl rfl (.yes rfl rfl rfl rfl (dec_t h4275)) pk sH rfl (VR.ofV (V_pickT rfl (rfl) rfl)) ?_
            refine DH_take 35 (by kernel_rfl) rfl rfl (.no rfl) pk sH rfl (VR.ofV (V_pickT rfl (dec_t h4275) rfl)) ?_
            refine DH_take (v := .bool true) 36 (by kernel_rfl) rfl rfl (.no rfl) pk sH rfl (VR.ofV (V_move rfl)) ?_
            refine DH_skip 37 (by kernel_rfl) rfl rfl (.no rfl rfl rfl rfl (rfl)) pk rfl ?_
            refine DH_skip 38 (by kernel_rfl) rfl rfl (.no rfl rfl rfl rfl (rfl)) pk rfl ?_
            refine DH_skip 39 (by kernel_rfl) rfl rfl (.no rfl rfl rfl rfl (rfl)) pk rfl ?_
            refine DH_skip 40 (by kernel_rfl) rfl rfl (.no rfl rfl rfl rfl (rfl)) pk rfl ?_
            refine DH_skip 41 (by kernel_rfl) rfl rfl (.no rfl rfl rfl rfl (rfl)) pk rfl ?_
            refine DH_skip 42 (by kernel_rfl) rfl rfl (.no rfl rfl rfl rfl (rfl)) pk rfl ?_
            refine DH_skip 43 (by kernel_rfl) rfl rfl (.no rfl rfl rfl rfl (rfl)) pk rfl ?_
            refine DH_skip 44 (by kernel_rfl) rfl rfl (.un rfl rfl rfl rfl) pk rfl ?_
            refine DH_skip 45 (by kernel_rfl) rfl rfl (.un rfl rfl rfl rfl) pk rfl ?_
            refine DH_skip 46 (by kernel_rfl) rfl rfl (.un rfl rfl rfl rfl) pk rfl ?_
            refine DH_skip 47 (by kernel_rfl) rfl rfl (.un rfl rfl rfl rfl) pk rfl ?_
            refine DH_skip 48 (by kernel_rfl) rfl rfl (.un rfl rfl rfl rfl) pk rfl ?_
            refine DH_skip 49 (by kernel_rfl) rfl rfl (.un rfl rfl rfl rfl) pk rfl ?_
            refine DH_skip 50 (by kernel_rfl) rfl rfl (.un rfl rfl rfl rfl) pk rfl ?_
            refine DH_skip 51 (by kernel_rfl) rfl rfl (.un rfl rfl rfl rfl) pk rfl ?_
            refine DH_skip 52 (by kernel_rfl) rfl rfl (.un rfl rfl rfl rfl) pk rfl ?_
            refine DH_skip 53 (by kernel_rfl) rfl rfl (.un rfl rfl rfl rfl) pk rfl ?_
            refine DH_skip 54 (by kernel_rfl) rfl rfl (.un rfl rfl rfl rfl) pk rfl ?_
            refine DH_skip 55 (by kernel_rfl) rfl rfl (.un rfl rfl rfl rfl) pk rfl ?_
            refine DH_skip 56 (by kernel_rfl) rfl rfl (.un rfl rfl rfl rfl) pk rfl ?_
            refine DH_skip 57 (by kernel_rfl) rfl rfl (.un rfl rfl rfl rfl) pk rfl ?_
            refine DH_skip 58 (by kernel_rfl) rfl rfl (.un rfl rfl rfl rfl) pk rfl ?_
            refine DH_skip 59 (by kernel_rfl) rfl rfl (.un rfl rfl rfl rfl) pk rfl ?_
            refine DH_skip 60 (by kernel_rfl) rfl rfl (.un rfl rfl rfl rfl) pk rfl ?_
            refine DH_skip 61 (by kernel_rfl) rfl rfl (.un rfl rfl rfl rfl) pk rfl ?_
            refine DH_skip 62 (by kernel_rfl) rfl rfl (.un rfl rfl rfl rfl) pk rfl ?_
            refine DH_skip 63 (by kernel_rfl) rfl rfl (.un rfl rfl rfl rfl) pk rfl ?_
            refine DH_skip 64 (by kernel_rfl) rfl rfl (.un rfl rfl rfl rfl) pk rfl ?_
            refine DH_skip 65 (by kernel_rfl) rfl rfl (.un rfl rfl rfl rfl) pk rfl ?_
            refine DH_skip 66 (by kernel_rfl) rfl rfl (.un rfl rfl rfl rfl) pk rfl ?_
            refine DH_skip 67 (by kernel_rfl) rfl rfl (.un rfl rfl rfl rfl) pk rfl ?_
            refine DH_skip 68 (by kernel_rfl) rfl rfl (.un rfl rfl rfl rfl) pk rfl ?_
            refine DH_skip 69 (by kernel_rfl) rfl rfl (.no rfl rfl rfl rfl (rfl)) pk rfl ?_
            refine DH_take 70 (by kernel_rfl) rfl rfl (.no rfl) pk sH rfl (VR.ofV (V_pickT rfl (rfl) rfl)) ?_
            refine DH_open dd sH ?_
            refine DN_done (by kernel_rfl) ?_
            have hr_ := Option.some.inj H
            subst hr_
            exact at_normal (St.mk1 (aeq rfl (aeq rfl (aeq rfl (aeq rfl aeq0)))) (Gh.sel [1, 0] rfl rfl))
          replace H := g_iff h4276 H
          refine DH_take (v := .slice A6 n8.length c7) 13 (by kernel_rfl) rfl rfl (.yes rfl rfl rfl rfl (dec_f h4276)) pk sH rfl (VR.ofV (V_move rfl)) ?_
          refine DH_take (v := .int .i64 x3_9) 14 (by kernel_rfl) rfl rfl (.yes rfl rfl rfl rfl (dec_f h4276)) pk sH rfl (VR.ofV (V_move rfl)) ?_
          refine DH_take (v := .int .i64 (IntKind.i64.wrap (x3_9 + 1))) 15 (by kernel_rfl) rfl rfl (.yes rfl rfl rfl rfl (dec_f h4276)) pk sH rfl (VR.ofV (V_add rfl rfl)) ?_
          obtain ⟨⟨g974, g975⟩, H⟩ := g_pos H
          refine DH_take 16 (by kernel_rfl) rfl rfl (.yes rfl rfl rfl rfl (dec_f h4276)) pk sH rfl (VR_index (i := IntKind.i64.wrap (x3_9 + 1)) Try.underlying65 sz76 rfl rfl (Src.buf (k := 0) rfl) g974 g975) ?_
          refine DH_take (v := .pointer (some ((el A6 ((IntKind.i64.wrap (x3_9 + 1)).toNat * 15)).add 4))) 17 (by kernel_rfl) rfl rfl (.yes rfl rfl rfl rfl (dec_f h4276)) pk sH rfl (VR.ofV (V_fieldAddrN (B := el A6 ((IntKind.i64.wrap (x3_9 + 1)).toNat * 15)) (m := 0) (o := 4) Try.underlying76 rfl nz5 rfl rfl)) ?_
          refine DH_take 18 (by kernel_rfl) rfl rfl (.yes rfl rfl rfl rfl (dec_f h4276)) pk sH rfl (VR_load_el (enc := enc76) (i := IntKind.i64.wrap (x3_9 + 1)) (j := (IntKind.i64.wrap (x3_9 + 1)).toNat * 15) (m := 4) (sz := 15) Try.underlying5 rfl rfl rfl rfl (Src.buf (k := 0) rfl) g974 g975 (fun _ _ h => h) rfl) ?_
          refine DH_take (v := .bool (decide (((rd n8 (IntKind.i64.wrap (x3_9 + 1))).f2) ≠ 0))) 19 (by kernel_rfl) rfl rfl (.yes rfl rfl rfl rfl (dec_f h4276)) pk sH rfl (VR.ofV (V_neq rfl rfl)) ?_
          refine DH_take 20 (by kernel_rfl) rfl rfl (.yes rfl rfl rfl rfl (dec_t h4275)) pk sH rfl (VR.ofV (V_pickF rfl (dec_f h4276) rfl)) ?_
          refine DH_take (v := .bool (decide (((rd n8 (IntKind.i64.wrap (x3_9 + 1))).f2) ≠ 0))) 21 (by kernel_rfl) rfl rfl (.yes rfl rfl rfl rfl (dec_t h4275)) pk sH rfl (VR.ofV (V_move rfl)) ?_
          by_cases h4277 : ((rd n8 (IntKind.i64.wrap (x3_9 + 1))).f2) ≠ 0
          · replace H := g_ift h4277 H
            refine DH_skip 22 (by kernel_rfl) rfl rfl (.no rfl rfl rfl rfl (dec_t h4277)) pk rfl ?_
            refine DH_skip 23 (by kernel_rfl) rfl rfl (.no rfl rfl rfl rfl (dec_t h4277)) pk rfl ?_
            refine DH_skip 24 (by kernel_rfl) rfl rfl (.no rfl rfl rfl rfl (dec_t h4277)) pk rfl ?_
            refine DH_skip 25 (by kernel_rfl) rfl rfl (.no rfl rfl rfl rfl (dec_t h4277)) pk rfl ?_
            refine DH_skip 26 (by kernel_rfl) rfl rfl (.no rfl rfl rfl rfl (dec_t h4277)) pk rfl ?_
            refine DH_skip 27 (by kernel_rfl) rfl rfl (.no rfl rfl rfl rfl (dec_t h4277)) pk rfl ?_
            refine DH_skip 28 (by kernel_rfl) rfl rfl (.no rfl rfl rfl rfl (dec_t h4277)) pk rfl ?_
            refine DH_skip 29 (by kernel_rfl) rfl rfl (.no rfl rfl rfl rfl (dec_t h4277)) pk rfl ?_
            refine DH_skip 30 (by kernel_rfl) rfl rfl (.no rfl rfl rfl rfl (dec_t h4277)) pk rfl ?_
            refine DH_skip 31 (by kernel_rfl) rfl rfl (.no rfl rfl rfl rfl (dec_t h4277)) pk rfl ?_
            refine DH_skip 32 (by kernel_rfl) rfl rfl (.no rfl rfl rfl rfl (dec_t h4277)) pk rfl ?_
            refine DH_skip 33 (by kernel_rfl) rfl rfl (.no rfl rfl rfl rfl (dec_t h4277)) pk rfl ?_
            refine DH_take 34 (by kernel_rfl) rfl rfl (.yes rfl rfl rfl rfl (dec_t h4275)) pk sH rfl (VR.ofV (V_pickT rfl (dec_t h4277) rfl)) ?_
            refine DH_take 35 (by kernel_rfl) rfl rfl (.no rfl) pk sH rfl (VR.ofV (V_pickT rfl (dec_t h4275) rfl)) ?_
            refine DH_take (v := .bool true) 36 (by kernel_rfl) rfl rfl (.no rfl) pk sH rfl (VR.ofV (V_move rfl)) ?_
            refine DH_skip 37 (by kernel_rfl) rfl rfl (.no rfl rfl rfl rfl (rfl)) pk rfl ?_
            refine DH_skip 38 (by kernel_rfl) rfl rfl (.no rfl rfl rfl rfl (rfl)) pk rfl ?_
            refine DH_skip 39 (by kernel_rfl) rfl rfl (.no rfl rfl rfl rfl (rfl)) pk rfl ?_
            refine DH_skip 40 (by kernel_rfl) rfl rfl (.no rfl rfl rfl rfl (rfl)) pk rfl ?_
            refine DH_skip 41 (by kernel_rfl) rfl rfl (.no rfl rfl rfl rfl (rfl)) pk rfl ?_
            refine DH_skip 42 (by kernel_rfl) rfl rfl (.no rfl rfl rfl rfl (rfl)) pk rfl ?_
            refine DH_skip 43 (by kernel_rfl) rfl rfl (.no rfl rfl rfl rfl (rfl)) pk rfl ?_
            refine DH_skip 44 (by kernel_rfl) rfl rfl (.un rfl rfl rfl rfl) pk rfl ?_
            refine DH_skip 45 (by kernel_rfl) rfl rfl (.un rfl rfl rfl rfl) pk rfl ?_
            refine DH_skip 46 (by kernel_rfl) rfl rfl (.un rfl rfl rfl rfl) pk rfl ?_
            refine DH_skip 47 (by kernel_rfl) rfl rfl (.un rfl rfl rfl rfl) pk rfl ?_
            refine DH_skip 48 (by kernel_rfl) rfl rfl (.un rfl rfl rfl rfl) pk rfl ?_
            refine DH_skip 49 (by kernel_rfl) rfl rfl (.un rfl rfl rfl rfl) pk rfl ?_
            refine DH_skip 50 (by kernel_rfl) rfl rfl (.un rfl rfl rfl rfl) pk rfl ?_
            refine DH_skip 51 (by kernel_rfl) rfl rfl (.un rfl rfl rfl rfl) pk rfl ?_
            refine DH_skip 52 (by kernel_rfl) rfl rfl (.un rfl rfl rfl rfl) pk rfl ?_
            refine DH_skip 53 (by kernel_rfl) rfl rfl (.un rfl rfl rfl rfl) pk rfl ?_
            refine DH_skip 54 (by kernel_rfl) rfl rfl (.un rfl rfl rfl rfl) pk rfl ?_
            refine DH_skip 55 (by kernel_rfl) rfl rfl (.un rfl rfl rfl rfl) pk rfl ?_
            refine DH_skip 56 (by kernel_rfl) rfl rfl (.un rfl rfl rfl rfl) pk rfl ?_
            refine DH_skip 57 (by kernel_rfl) rfl rfl (.un rfl rfl rfl rfl) pk rfl ?_
            refine DH_skip 58 (by kernel_rfl) rfl rfl (.un rfl rfl rfl rfl) pk rfl ?_
            refine DH_skip 59 (by kernel_rfl) rfl rfl (.un rfl rfl rfl rfl) pk rfl ?_
            refine DH_skip 60 (by kernel_rfl) rfl rfl (.un rfl rfl rfl rfl) pk rfl ?_
            refine DH_skip 61 (by kernel_rfl) rfl rfl (.un rfl rfl rfl rfl) pk rfl ?_
            refine DH_skip 62 (by kernel_rfl) rfl rfl (.un rfl rfl rfl rfl) pk rfl ?_
            refine DH_skip 63 (by kernel_rfl) rfl rfl (.un rfl rfl rfl rfl) pk rfl ?_
            refine DH_skip 64 (by kernel_rfl) rfl rfl (.un rfl rfl rfl rfl) pk rfl ?_
            refine DH_skip 65 (by kernel_rfl) rfl rfl (.un rfl rfl rfl rfl) pk rfl ?_
            refine DH_skip 66 (by kernel_rfl) rfl rfl (.un rfl rfl rfl rfl) pk rfl ?_
            refine DH_skip 67 (by kernel_rfl) rfl rfl (.un rfl rfl rfl rfl) pk rfl ?_
            refine DH_skip 68 (by kernel_rfl) rfl rfl (.un rfl rfl rfl rfl) pk rfl ?_
            refine DH_skip 69 (by kernel_rfl) rfl rfl (.no rfl rfl rfl rfl (rfl)) pk rfl ?_
            refine DH_take 70 (by kernel_rfl) rfl rfl (.no rfl) pk sH rfl (VR.ofV (V_pickT rfl (rfl) rfl)) ?_
            refine DH_open dd sH ?_
            refine DN_done (by kernel_rfl) ?_
            have hr_ := Option.some.inj H
            subst hr_
            exact at_normal (St.mk1 (aeq rfl (aeq rfl (aeq rfl (aeq rfl aeq0)))) (Gh.sel [1, 0] rfl rfl))
          replace H := g_iff h4277 H
          refine DH_take (v := .slice A6 n8.length c7) 22 (by kernel_rfl) rfl rfl (.yes rfl rfl rfl rfl (dec_f h4277)) pk sH rfl (VR.ofV (V_move rfl)) ?_
          refine DH_take (v := .int .i64 x3_9) 23 (by kernel_rfl) rfl rfl (.yes rfl rfl rfl rfl (dec_f h4277)) pk sH rfl (VR.ofV (V_move rfl)) ?_
          refine DH_take (v := .int .i64 (IntKind.i64.wrap (x3_9 + 1))) 24 (by kernel_rfl) rfl rfl (.yes rfl rfl rfl rfl (dec_f h4277)) pk sH rfl (VR.ofV (V_add rfl rfl)) ?_
          obtain ⟨⟨g1514, g1515⟩, H⟩ := g_pos H
          refine DH_take 25 (by kernel_rfl) rfl rfl (.yes rfl rfl rfl rfl (dec_f h4277)) pk sH rfl (VR_index (i := IntKind.i64.wrap (x3_9 + 1)) Try.underlying65 sz76 rfl rfl (Src.buf (k := 0) rfl) g1514 g1515) ?_
          refine DH_take (v := .pointer (some ((el A6 ((IntKind.i64.wrap (x3_9 + 1)).toNat * 15)).add 5))) 26 (by kernel_rfl) rfl rfl (.yes rfl rfl rfl rfl (dec_f h4277)) pk sH rfl (VR.ofV (V_fieldAddrN (B := el A6 ((IntKind.i64.wrap (x3_9 + 1)).toNat * 15)) (m := 0) (o := 5) Try.underlying76 rfl nz70 rfl rfl)) ?_
          refine DH_take 27 (by kernel_rfl) rfl rfl (.yes rfl rfl rfl rfl (dec_f h4277)) pk sH rfl (VR_loadA_el (enc := enc76) (i := IntKind.i64.wrap (x3_9 + 1)) (j := (IntKind.i64.wrap (x3_9 + 1)).toNat * 15) (m := 5) (sz := 15) (vs := [.int .i64 (((rd n8 (IntKind.i64.wrap (x3_9 + 1))).f3).f0), .int .i64 (((rd n8 (IntKind.i64.wrap (x3_9 + 1))).f3).f1), .bool (((rd n8 (IntKind.i64.wrap (x3_9 + 1))).f3).f2), .bool (((rd n8 (IntKind.i64.wrap (x3_9 + 1))).f3).f3), .bool (((rd n8 (IntKind.i64.wrap (x3_9 + 1))).f3).f4), .bool (((rd n8 (IntKind.i64.wrap (x3_9 + 1))).f3).f5), .bool (((rd n8 (IntKind.i64.wrap (x3_9 + 1))).f3).f6), .bool (((rd n8 (IntKind.i64.wrap (x3_9 + 1))).f3).f7), .bool (((rd n8 (IntKind.i64.wrap (x3_9 + 1))).f3).f8), .bool (((rd n8 (IntKind.i64.wrap (x3_9 + 1))).f3).f9)]) Try.underlying70 rfl sz70 rfl rfl rfl (Src.buf (k := 0) rfl) g1514 g1515 (fun _ _ h => h) rfl) ?_
          refine DH_take (v := .slice A6 n8.length c7) 28 (by kernel_rfl) rfl rfl (.yes rfl rfl rfl rfl (dec_f h4277)) pk sH rfl (VR.ofV (V_move rfl)) ?_
          refine DH_take (v := .int .i64 x3_9) 29 (by kernel_rfl) rfl rfl (.yes rfl rfl rfl rfl (dec_f h4277)) pk sH rfl (VR.ofV (V_move rfl)) ?_
          obtain ⟨⟨g1814, g1815⟩, H⟩ := g_pos H
          refine DH_take 30 (by kernel_rfl) rfl rfl (.yes rfl rfl rfl rfl (dec_f h4277)) pk sH rfl (VR_index (i := x3_9) Try.underlying65 sz76 rfl rfl (Src.buf (k := 0) rfl) g1814 g1815) ?_
          refine DH_take (v := .pointer (some ((el A6 (x3_9.toNat * 15)).add 5))) 31 (by kernel_rfl) rfl rfl (.yes rfl rfl rfl rfl (dec_f h4277)) pk sH rfl (VR.ofV (V_fieldAddrN (B := el A6 (x3_9.toNat * 15)) (m := 0) (o := 5) Try.underlying76 rfl nz70 rfl rfl)) ?_
          refine DH_take 32 (by kernel_rfl) rfl rfl (.yes rfl rfl rfl rfl (dec_f h4277)) pk sH rfl (VR_loadA_el (enc := enc76) (i := x3_9) (j := x3_9.toNat * 15) (m := 5) (sz := 15) (vs := [.int .i64 (((rd n8 x3_9).f3).f0), .int .i64 (((rd n8 x3_9).f3).f1), .bool (((rd n8 x3_9).f3).f2), .bool (((rd n8 x3_9).f3).f3), .bool (((rd n8 x3_9).f3).f4), .bool (((rd n8 x3_9).f3).f5), .bool (((rd n8 x3_9).f3).f6), .bool (((rd n8 x3_9).f3).f7), .bool (((rd n8 x3_9).f3).f8), .bool (((rd n8 x3_9).f3).f9)]) Try.underlying70 rfl sz70 rfl rfl rfl (Src.buf (k := 0) rfl) g1814 g1815 (fun _ _ h => h) rfl) ?_
          refine DH_take (v := .bool (decide (((rd n8 (IntKind.i64.wrap (x3_9 + 1))).f3) ≠ ((rd n8 x3_9).f3)))) 33 (by kernel_rfl) rfl rfl (.yes rfl rfl rfl rfl (dec_f h4277)) pk sH rfl (VR.ofV (V_neqD (xs := [.int .i64 (((rd n8 (IntKind.i64.wrap (x3_9 + 1))).f3).f0), .int .i64 (((rd n8 (IntKind.i64.wrap (x3_9 + 1))).f3).f1), .bool (((rd n8 (IntKind.i64.wrap (x3_9 + 1))).f3).f2), .bool (((rd n8 (IntKind.i64.wrap (x3_9 + 1))).f3).f3), .bool (((rd n8 (IntKind.i64.wrap (x3_9 + 1))).f3).f4), .bool (((rd n8 (IntKind.i64.wrap (x3_9 + 1))).f3).f5), .bool (((rd n8 (IntKind.i64.wrap (x3_9 + 1))).f3).f6), .bool (((rd n8 (IntKind.i64.wrap (x3_9 + 1))).f3).f7), .bool (((rd n8 (IntKind.i64.wrap (x3_9 + 1))).f3).f8), .bool (((rd n8 (IntKind.i64.wrap (x3_9 + 1))).f3).f9)]) (ys := [.int .i64 (((rd n8 x3_9).f3).f0), .int .i64 (((rd n8 x3_9).f3).f1), .bool (((rd n8 x3_9).f3).f2), .bool (((rd n8 x3_9).f3).f3), .bool (((rd n8 x3_9).f3).f4), .bool (((rd n8 x3_9).f3).f5), .bool (((rd n8 x3_9).f3).f6), .bool (((rd n8 x3_9).f3).f7), .bool (((rd n8 x3_9).f3).f8), .bool (((rd n8 x3_9).f3).f9)]) (r := (((((rd n8 (IntKind.i64.wrap (x3_9 + 1))).f3).f0) == (((rd n8 x3_9).f3).f0)) && (((((rd n8 (IntKind.i64.wrap (x3_9 + 1))).f3).f1) == (((rd n8 x3_9).f3).f1)) && (((((rd n8 (IntKind.i64.wrap (x3_9 + 1))).f3).f2) == (((rd n8 x3_9).f3).f2)) && (((((rd n8 (IntKind.i64.wrap (x3_9 + 1))).f3).f3) == (((rd n8 x3_9).f3).f3)) && (((((rd n8 (IntKind.i64.wrap (x3_9 + 1))).f3).f4) == (((rd n8 x3_9).f3).f4)) && (((((rd n8 (IntKind.i64.wrap (x3_9 + 1))).f3).f5) == (((rd n8 x3_9).f3).f5)) && (((((rd n8 (IntKind.i64.wrap (x3_9 + 1))).f3).f6) == (((rd n8 x3_9).f3).f6)) && (((((rd n8 (IntKind.i64.wrap (x3_9 + 1))).f3).f7) == (((rd n8 x3_9).f3).f7)) && (((((rd n8 (IntKind.i64.wrap (x3_9 + 1))).f3).f8) == (((rd n8 x3_9).f3).f8)) && (((((rd n8 (IntKind.i64.wrap (x3_9 + 1))).f3).f9) == (((rd n8 x3_9).f3).f9)) && true))))))))))) (p := ((rd n8 (IntKind.i64.wrap (x3_9 + 1))).f3) = ((rd n8 x3_9).f3)) eqg70 rfl rfl (by kernel_rfl) (eqv70 (x := ((rd n8 (IntKind.i64.wrap (x3_9 + 1))).f3)) (y := ((rd n8 x3_9).f3))))) ?_
          refine DH_take 34 (by kernel_rfl) rfl rfl (.yes rfl rfl rfl rfl (dec_t h4275)) pk sH rfl (VR.ofV (V_pickF rfl (dec_f h4277) rfl)) ?_
          refine DH_take 35 (by kernel_rfl) rfl rfl (.no rfl) pk sH rfl (VR.ofV (V_pickT rfl (dec_t h4275) rfl)) ?_
          refine DH_take (v := .bool (decide (((rd n8 (IntKind.i64.wrap (x3_9 + 1))).f3) ≠ ((rd n8 x3_9).f3)))) 36 (by kernel_rfl) rfl rfl (.no rfl) pk sH rfl (VR.ofV (V_move rfl)) ?_
          by_cases h4278 : ((rd n8 (IntKind.i64.wrap (x3_9 + 1))).f3) ≠ ((rd n8 x3_9).f3)
          · replace H := g_ift h4278 H
            refine DH_skip 37 (by kernel_rfl) rfl rfl (.no rfl rfl rfl rfl (dec_t h4278)) pk rfl ?_
            refine DH_skip 38 (by kernel_rfl) rfl rfl (.no rfl rfl rfl rfl (dec_t h4278)) pk rfl ?_
            refine DH_skip 39 (by kernel_rfl) rfl rfl (.no rfl rfl rfl rfl (dec_t h4278)) pk rfl ?_
            refine DH_skip 40 (by kernel_rfl) rfl rfl (.no rfl rfl rfl rfl (dec_t h4278)) pk rfl ?_
            refine DH_skip 41 (by kernel_rfl) rfl rfl (.no rfl rfl rfl rfl (dec_t h4278)) pk rfl ?_
            refine DH_skip 42 (by kernel_rfl) rfl rfl (.no rfl rfl rfl rfl (dec_t h4278)) pk rfl ?_
            refine DH_skip 43 (by kernel_rfl) rfl rfl (.no rfl rfl rfl rfl (dec_t h4278)) pk rfl ?_
            refine DH_skip 44 (by kernel_rfl) rfl rfl (.un rfl rfl rfl rfl) pk rfl ?_
            refine DH_skip 45 (by kernel_rfl) rfl rfl (.un rfl rfl rfl rfl) pk rfl ?_
            refine DH_skip 46 (by kernel_rfl) rfl rfl (.un rfl rfl rfl rfl) pk rfl ?_
            refine DH_skip 47 (by kernel_rfl) rfl rfl (.un rfl rfl rfl rfl) pk rfl ?_
            refine DH_skip 48 (by kernel_rfl) rfl rfl (.un rfl rfl rfl rfl) pk rfl ?_
            refine DH_skip 49 (by kernel_rfl) rfl rfl (.un rfl rfl rfl rfl) pk rfl ?_
            refine DH_skip 50 (by kernel_rfl) rfl rfl (.un rfl rfl rfl rfl) pk rfl ?_
            refine DH_skip 51 (by kernel_rfl) rfl rfl (.un rfl rfl rfl rfl) pk rfl ?_
            refine DH_skip 52 (by kernel_rfl) rfl rfl (.un rfl rfl rfl rfl) pk rfl ?_
            refine DH_skip 53 (by kernel_rfl) rfl rfl (.un rfl rfl rfl rfl) pk rfl ?_
            refine DH_skip 54 (by kernel_rfl) rfl rfl (.un rfl rfl rfl rfl) pk rfl ?_
            refine DH_skip 55 (by kernel_rfl) rfl rfl (.un rfl rfl rfl rfl) pk rfl ?_
            refine DH_skip 56 (by kernel_rfl) rfl rfl (.un rfl rfl rfl rfl) pk rfl ?_
            refine DH_skip 57 (by kernel_rfl) rfl rfl (.un rfl rfl rfl rfl) pk rfl ?_
            refine DH_skip 58 (by kernel_rfl) rfl rfl (.un rfl rfl rfl rfl) pk rfl ?_
            refine DH_skip 59 (by kernel_rfl) rfl rfl (.un rfl rfl rfl rfl) pk rfl ?_
            refine DH_skip 60 (by kernel_rfl) rfl rfl (.un rfl rfl rfl rfl) pk rfl ?_
            refine DH_skip 61 (by kernel_rfl) rfl rfl (.un rfl rfl rfl rfl) pk rfl ?_
            refine DH_skip 62 (by kernel_rfl) rfl rfl (.un rfl rfl rfl rfl) pk rfl ?_
            refine DH_skip 63 (by kernel_rfl) rfl rfl (.un rfl rfl rfl rfl) pk rfl ?_
            refine DH_skip 64 (by kernel_rfl) rfl rfl (.un rfl rfl rfl rfl) pk rfl ?_
            refine DH_skip 65 (by kernel_rfl) rfl rfl (.un rfl rfl rfl rfl) pk rfl ?_
            refine DH_skip 66 (by kernel_rfl) rfl rfl (.un rfl rfl rfl rfl) pk rfl ?_
            refine DH_skip 67 (by kernel_rfl) rfl rfl (.un rfl rfl rfl rfl) pk rfl ?_
            refine DH_skip 68 (by kernel_rfl) rfl rfl (.un rfl rfl rfl rfl) pk rfl ?_
            refine DH_skip 69 (by kernel_rfl) rfl rfl (.no rfl rfl rfl rfl (dec_t h4278)) pk rfl ?_
            refine DH_take 70 (by kernel_rfl) rfl rfl (.no rfl) pk sH rfl (VR.ofV (V_pickT rfl (dec_t h4278) rfl)) ?_
            refine DH_open dd sH ?_
            refine DN_done (by kernel_rfl) ?_
            have hr_ := Option.some.inj H
            subst hr_
            exact at_normal (St.mk1 (aeq rfl (aeq rfl (aeq rfl (aeq rfl aeq0)))) (Gh.sel [1, 0] rfl rfl))
          replace H := g_iff h4278 H
          refine DH_take (v := .slice A6 n8.length c7) 37 (by kernel_rfl) rfl rfl (.yes rfl rfl rfl rfl (dec_f h4278)) pk sH rfl (VR.ofV (V_move rfl)) ?_
          refine DH_take (v := .int .i64 x3_9) 38 (by kernel_rfl) rfl rfl (.yes rfl rfl rfl rfl (dec_f h4278)) pk sH rfl (VR.ofV (V_move rfl)) ?_
          obtain ⟨⟨g2354, g2355⟩, H⟩ := g_pos H
          refine DH_take 39 (by kernel_rfl) rfl rfl (.yes rfl rfl rfl rfl (dec_f h4278)) pk sH rfl (VR_index (i := x3_9) Try.underlying65 sz76 rfl rfl (Src.buf (k := 0) rfl) g2354 g2355) ?_
          refine DH_take (v := .pointer (some ((el A6 (x3_9.toNat * 15)).add 4))) 40 (by kernel_rfl) rfl rfl (.yes rfl rfl rfl rfl (dec_f h4278)) pk sH rfl (VR.ofV (V_fieldAddrN (B := el A6 (x3_9.toNat * 15)) (m := 0) (o := 4) Try.underlying76 rfl nz5 rfl rfl)) ?_
          refine DH_take 41 (by kernel_rfl) rfl rfl (.yes rfl rfl rfl rfl (dec_f h4278)) pk sH rfl (VR_load_el (enc := enc76) (i := x3_9) (j := x3_9.toNat * 15) (m := 4) (sz := 15) Try.underlying5 rfl rfl rfl rfl (Src.buf (k := 0) rfl) g2354 g2355 (fun _ _ h => h) rfl) ?_
          refine DH_take (v := .bool (decide (((rd n8 x3_9).f2) = 0))) 42 (by kernel_rfl) rfl rfl (.yes rfl rfl rfl rfl (dec_f h4278)) pk sH rfl (VR.ofV (V_eql rfl rfl)) ?_
          refine DH_take (v := .bool (decide (((rd n8 x3_9).f2) = 0))) 43 (by kernel_rfl) rfl rfl (.yes rfl rfl rfl rfl (dec_f h4278)) pk sH rfl (VR.ofV (V_move rfl)) ?_
          by_cases h4279 : ((rd n8 x3_9).f2) = 0
          · replace H := g_ift h4279 H
            refine DH_take (v := .int .i64 x3_9) 44 (by kernel_rfl) rfl rfl (.yes rfl rfl rfl rfl (dec_t h4279)) pk sH rfl (VR.ofV (V_move rfl)) ?_
            refine DH_take (v := .bool (decide (x3_9 = 0))) 45 (by kernel_rfl) rfl rfl (.yes rfl rfl rfl rfl (dec_t h4279)) pk sH rfl (VR.ofV (V_eql rfl rfl)) ?_
            refine DH_take (v := .bool (decide (x3_9 = 0))) 46 (by kernel_rfl) rfl rfl (.yes rfl rfl rfl rfl (dec_t h4279)) pk sH rfl (VR.ofV (V_move rfl)) ?_
            by_cases h4280 : x3_9 = 0
            · replace H := g_ift h4280 H
              refine DH_skip 47 (by kernel_rfl) rfl rfl (.no rfl rfl rfl rfl (dec_t h4280)) pk rfl ?_
              refine DH_skip 48 (by kernel_rfl) rfl rfl (.no rfl rfl rfl rfl (dec_t h4280)) pk rfl ?_
              refine DH_skip 49 (by kernel_rfl) rfl rfl (.no rfl rfl rfl rfl (dec_t h4280)) pk rfl ?_
              refine DH_skip 50 (by kernel_rfl) rfl rfl (.no rfl rfl rfl rfl (dec_t h4280)) pk rfl ?_
              refine DH_skip 51 (by kernel_rfl) rfl rfl (.no rfl rfl rfl rfl (dec_t h4280)) pk rfl ?_
              refine DH_skip 52 (by kernel_rfl) rfl rfl (.no rfl rfl rfl rfl (dec_t h4280)) pk rfl ?_
              refine DH_skip 53 (by kernel_rfl) rfl rfl (.no rfl rfl rfl rfl (dec_t h4280)) pk rfl ?_
              refine DH_take 54 (by kernel_rfl) rfl rfl (.yes rfl rfl rfl rfl (dec_t h4279)) pk sH rfl (VR.ofV (V_pickT rfl (dec_t h4280) rfl)) ?_
              refine DH_take (v := .bool true) 55 (by kernel_rfl) rfl rfl (.yes rfl rfl rfl rfl (dec_t h4279)) pk sH rfl (VR.ofV (V_move rfl)) ?_
              refine DH_skip 56 (by kernel_rfl) rfl rfl (.no rfl rfl rfl rfl (rfl)) pk rfl ?_
              refine DH_skip 57 (by kernel_rfl) rfl rfl (.no rfl rfl rfl rfl (rfl)) pk rfl ?_
              refine DH_skip 58 (by kernel_rfl) rfl rfl (.no rfl rfl rfl rfl (rfl)) pk rfl ?_
              refine DH_skip 59 (by kernel_rfl) rfl rfl (.no rfl rfl rfl rfl (rfl)) pk rfl ?_
              refine DH_skip 60 (by kernel_rfl) rfl rfl (.no rfl rfl rfl rfl (rfl)) pk rfl ?_
              refine DH_skip 61 (by kernel_rfl) rfl rfl (.no rfl rfl rfl rfl (rfl)) pk rfl ?_
              refine DH_skip 62 (by kernel_rfl) rfl rfl (.no rfl rfl rfl rfl (rfl)) pk rfl ?_
              refine DH_skip 63 (by kernel_rfl) rfl rfl (.no rfl rfl rfl rfl (rfl)) pk rfl ?_
              refine DH_skip 64 (by kernel_rfl) rfl rfl (.no rfl rfl rfl rfl (rfl)) pk rfl ?_
              refine DH_skip 65 (by kernel_rfl) rfl rfl (.no rfl rfl rfl rfl (rfl)) pk rfl ?_
              refine DH_skip 66 (by kernel_rfl) rfl rfl (.no rfl rfl rfl rfl (rfl)) pk rfl ?_
              refine DH_skip 67 (by kernel_rfl) rfl rfl (.no rfl rfl rfl rfl (rfl)) pk rfl ?_
              refine DH_take 68 (by kernel_rfl) rfl rfl (.yes rfl rfl rfl rfl (dec_t h4279)) pk sH rfl (VR.ofV (V_pickT rfl (rfl) rfl)) ?_
              refine DH_take 69 (by kernel_rfl) rfl rfl (.yes rfl rfl rfl rfl (dec_f h4278)) pk sH rfl (VR.ofV (V_pickT rfl (dec_t h4279) rfl)) ?_
              refine DH_take 70 (by kernel_rfl) rfl rfl (.no rfl) pk sH rfl (VR.ofV (V_pickF rfl (dec_f h4278) rfl)) ?_
              refine DH_open dd sH ?_
              refine DN_done (by kernel_rfl) ?_
              have hr_ := Option.some.inj H
              subst hr_
              exact at_normal (St.mk1 (aeq rfl (aeq rfl (aeq rfl (aeq rfl aeq0)))) (Gh.sel [1, 0] rfl rfl))
            replace H := g_iff h4280 H
            refine DH_take (v := .slice A6 n8.length c7) 47 (by kernel_rfl) rfl rfl (.yes rfl rfl rfl rfl (dec_f h4280)) pk sH rfl (VR.ofV (V_move rfl)) ?_
            refine DH_take (v := .int .i64 x3_9) 48 (by kernel_rfl) rfl rfl (.yes rfl rfl rfl rfl (dec_f h4280)) pk sH rfl (VR.ofV (V_move rfl)) ?_
            refine DH_take (v := .int .i64 (IntKind.i64.wrap (x3_9 - 1))) 49 (by kernel_rfl) rfl rfl (.yes rfl rfl rfl rfl (dec_f h4280)) pk sH rfl (VR.ofV (V_sub rfl rfl)) ?_
            obtain ⟨⟨g3014, g3015⟩, H⟩ := g_pos H
            refine DH_take 50 (by kernel_rfl) rfl rfl (.yes rfl rfl rfl rfl (dec_f h4280)) pk sH rfl (VR_index (i := IntKind.i64.wrap (x3_9 - 1)) Try.underlying65 sz76 rfl rfl (Src.buf (k := 0) rfl) g3014 g3015) ?_
            refine DH_take (v := .pointer (some ((el A6 ((IntKind.i64.wrap (x3_9 - 1)).toNat * 15)).add 4))) 51 (by kernel_rfl) rfl rfl (.yes rfl rfl rfl rfl (dec_f h4280)) pk sH rfl (VR.ofV (V_fieldAddrN (B := el A6 ((IntKind.i64.wrap (x3_9 - 1)).toNat * 15)) (m := 0) (o := 4) Try.underlying76 rfl nz5 rfl rfl)) ?_
            refine DH_take 52 (by kernel_rfl) rfl rfl (.yes rfl rfl rfl rfl (dec_f h4280)) pk sH rfl (VR_load_el (enc := enc76) (i := IntKind.i64.wrap (x3_9 - 1)) (j := (IntKind.i64.wrap (x3_9 - 1)).toNat * 15) (m := 4) (sz := 15) Try.underlying5 rfl rfl rfl rfl (Src.buf (k := 0) rfl) g3014 g3015 (fun _ _ h => h) rfl) ?_
            refine DH_take (v := .bool (decide (((rd n8 (IntKind.i64.wrap (x3_9 - 1))).f2) ≠ 2))) 53 (by kernel_rfl) rfl rfl (.yes rfl rfl rfl rfl (dec_f h4280)) pk sH rfl (VR.ofV (V_neq rfl rfl)) ?_
            refine DH_take 54 (by kernel_rfl) rfl rfl (.yes rfl rfl rfl rfl (dec_t h4279)) pk sH rfl (VR.ofV (V_pickF rfl (dec_f h4280) rfl)) ?_
            refine DH_take (v := .bool (decide (((rd n8 (IntKind.i64.wrap (x3_9 - 1))).f2) ≠ 2))) 55 (by kernel_rfl) rfl rfl (.yes rfl rfl rfl rfl (dec_t h4279)) pk sH rfl (VR.ofV (V_move rfl)) ?_
            by_cases h4281 : ((rd n8 (IntKind.i64.wrap (x3_9 - 1))).f2) ≠ 2
            · replace H := g_ift h4281 H
              refine DH_skip 56 (by kernel_rfl) rfl rfl (.no rfl rfl rfl rfl (dec_t h4281)) pk rfl ?_
              refine DH_skip 57 (by kernel_rfl) rfl rfl (.no rfl rfl rfl rfl (dec_t h4281)) pk rfl ?_
              refine DH_skip 58 (by kernel_rfl) rfl rfl (.no rfl rfl rfl rfl (dec_t h4281)) pk rfl ?_
              refine DH_skip 59 (by kernel_rfl) rfl rfl (.no rfl rfl rfl rfl (dec_t h4281)) pk rfl ?_
              refine DH_skip 60 (by kernel_rfl) rfl rfl (.no rfl rfl rfl rfl (dec_t h4281)) pk rfl ?_
              refine DH_skip 61 (by kernel_rfl) rfl rfl (.no rfl rfl rfl rfl (dec_t h4281)) pk rfl ?_
              refine DH_skip 62 (by kernel_rfl) rfl rfl (.no rfl rfl rfl rfl (dec_t h4281)) pk rfl ?_
              refine DH_skip 63 (by kernel_rfl) rfl rfl (.no rfl rfl rfl rfl (dec_t h4281)) pk rfl ?_
              refine DH_skip 64 (by kernel_rfl) rfl rfl (.no rfl rfl rfl rfl (dec_t h4281)) pk rfl ?_
              refine DH_skip 65 (by kernel_rfl) rfl rfl (.no rfl rfl rfl rfl (dec_t h4281)) pk rfl ?_
              refine DH_skip 66 (by kernel_rfl) rfl rfl (.no rfl rfl rfl rfl (dec_t h4281)) pk rfl ?_
              refine DH_skip 67 (by kernel_rfl) rfl rfl (.no rfl rfl rfl rfl (dec_t h4281)) pk rfl ?_
              refine DH_take 68 (by kernel_rfl) rfl rfl (.yes rfl rfl rfl rfl (dec_t h4279)) pk sH rfl (VR.ofV (V_pickT rfl (dec_t h4281) rfl)) ?_
              refine DH_take 69 (by kernel_rfl) rfl rfl (.yes rfl rfl rfl rfl (dec_f h4278)) pk sH rfl (VR.ofV (V_pickT rfl (dec_t h4279) rfl)) ?_
              refine DH_take 70 (by kernel_rfl) rfl rfl (.no rfl) pk sH rfl (VR.ofV (V_pickF rfl (dec_f h4278) rfl)) ?_
              refine DH_open dd sH ?_
              refine DN_done (by kernel_rfl) ?_
              have hr_ := Option.some.inj H
              subst hr_
              exact at_normal (St.mk1 (aeq rfl (aeq rfl (aeq rfl (aeq rfl aeq0)))) (Gh.sel [1, 0] rfl rfl))
            replace H := g_iff h4281 H
            refine DH_take (v := .slice A6 n8.length c7) 56 (by kernel_rfl) rfl rfl (.yes rfl rfl rfl rfl (dec_f h4281)) pk sH rfl (VR.ofV (V_move rfl)) ?_
            refine DH_take (v := .int .i64 x3_9) 57 (by kernel_rfl) rfl rfl (.yes rfl rfl rfl rfl (dec_f h4281)) pk sH rfl (VR.ofV (V_move rfl)) ?_
            refine DH_take (v := .int .i64 (IntKind.i64.wrap (x3_9 - 1))) 58 (by kernel_rfl) rfl rfl (.yes rfl rfl rfl rfl (dec_f h4281)) pk sH rfl (VR.ofV (V_sub rfl rfl)) ?_
            obtain ⟨⟨g3554, g3555⟩, H⟩ := g_pos H
            refine DH_take 59 (by kernel_rfl) rfl rfl (.yes rfl rfl rfl rfl (dec_f h4281)) pk sH rfl (VR_index (i := IntKind.i64.wrap (x3_9 - 1)) Try.underlying65 sz76 rfl rfl (Src.buf (k := 0) rfl) g3554 g3555) ?_
            refine DH_take (v := .pointer (some ((el A6 ((IntKind.i64.wrap (x3_9 - 1)).toNat * 15)).add 5))) 60 (by kernel_rfl) rfl rfl (.yes rfl rfl rfl rfl (dec_f h4281)) pk sH rfl (VR.ofV (V_fieldAddrN (B := el A6 ((IntKind.i64.wrap (x3_9 - 1)).toNat * 15)) (m := 0) (o := 5) Try.underlying76 rfl nz70 rfl rfl)) ?_
            refine DH_take 61 (by kernel_rfl) rfl rfl (.yes rfl rfl rfl rfl (dec_f h4281)) pk sH rfl (VR_loadA_el (enc := enc76) (i := IntKind.i64.wrap (x3_9 - 1)) (j := (IntKind.i64.wrap (x3_9 - 1)).toNat * 15) (m := 5) (sz := 15) (vs := [.int .i64 (((rd n8 (IntKind.i64.wrap (x3_9 - 1))).f3).f0), .int .i64 (((rd n8 (IntKind.i64.wrap (x3_9 - 1))).f3).f1), .bool (((rd n8 (IntKind.i64.wrap (x3_9 - 1))).f3).f2), .bool (((rd n8 (IntKind.i64.wrap (x3_9 - 1))).f3).f3), .bool (((rd n8 (IntKind.i64.wrap (x3_9 - 1))).f3).f4), .bool (((rd n8 (IntKind.i64.wrap (x3_9 - 1))).f3).f5), .bool (((rd n8 (IntKind.i64.wrap (x3_9 - 1))).f3).f6), .bool (((rd n8 (IntKind.i64.wrap (x3_9 - 1))).f3).f7), .bool (((rd n8 (IntKind.i64.wrap (x3_9 - 1))).f3).f8), .bool (((rd n8 (IntKind.i64.wrap (x3_9 - 1))).f3).f9)]) Try.underlying70 rfl sz70 rfl rfl rfl (Src.buf (k := 0) rfl) g3554 g3555 (fun _ _ h => h) rfl) ?_
            refine DH_take (v := .slice A6 n8.length c7) 62 (by kernel_rfl) rfl rfl (.yes rfl rfl rfl rfl (dec_f h4281)) pk sH rfl (VR.ofV (V_move rfl)) ?_
            refine DH_take (v := .int .i64 x3_9) 63 (by kernel_rfl) rfl rfl (.yes rfl rfl rfl rfl (dec_f h4281)) pk sH rfl (VR.ofV (V_move rfl)) ?_
            obtain ⟨⟨g3854, g3855⟩, H⟩ := g_pos H
            refine DH_take 64 (by kernel_rfl) rfl rfl (.yes rfl rfl rfl rfl (dec_f h4281)) pk sH rfl (VR_index (i := x3_9) Try.underlying65 sz76 rfl rfl (Src.buf (k := 0) rfl) g3854 g3855) ?_
            refine DH_take (v := .pointer (some ((el A6 (x3_9.toNat * 15)).add 5))) 65 (by kernel_rfl) rfl rfl (.yes rfl rfl rfl rfl (dec_f h4281)) pk sH rfl (VR.ofV (V_fieldAddrN (B := el A6 (x3_9.toNat * 15)) (m := 0) (o := 5) Try.underlying76 rfl nz70 rfl rfl)) ?_
            refine DH_take 66 (by kernel_rfl) rfl rfl (.yes rfl rfl rfl rfl (dec_f h4281)) pk sH rfl (VR_loadA_el (enc := enc76) (i := x3_9) (j := x3_9.toNat * 15) (m := 5) (sz := 15) (vs := [.int .i64 (((rd n8 x3_9).f3).f0), .int .i64 (((rd n8 x3_9).f3).f1), .bool (((rd n8 x3_9).f3).f2), .bool (((rd n8 x3_9).f3).f3), .bool (((rd n8 x3_9).f3).f4), .bool (((rd n8 x3_9).f3).f5), .bool (((rd n8 x3_9).f3).f6), .bool (((rd n8 x3_9).f3).f7), .bool (((rd n8 x3_9).f3).f8), .bool (((rd n8 x3_9).f3).f9)]) Try.underlying70 rfl sz70 rfl rfl rfl (Src.buf (k := 0) rfl) g3854 g3855 (fun _ _ h => h) rfl) ?_
            refine DH_take (v := .bool (decide (((rd n8 (IntKind.i64.wrap (x3_9 - 1))).f3) ≠ ((rd n8 x3_9).f3)))) 67 (by kernel_rfl) rfl rfl (.yes rfl rfl rfl rfl (dec_f h4281)) pk sH rfl (VR.ofV (V_neqD (xs := [.int .i64 (((rd n8 (IntKind.i64.wrap (x3_9 - 1))).f3).f0), .int .i64 (((rd n8 (IntKind.i64.wrap (x3_9 - 1))).f3).f1), .bool (((rd n8 (IntKind.i64.wrap (x3_9 - 1))).f3).f2), .bool (((rd n8 (IntKind.i64.wrap (x3_9 - 1))).f3).f3), .bool (((rd n8 (IntKind.i64.wrap (x3_9 - 1))).f3).f4), .bool (((rd n8 (IntKind.i64.wrap (x3_9 - 1))).f3).f5), .bool (((rd n8 (IntKind.i64.wrap (x3_9 - 1))).f3).f6), .bool (((rd n8 (IntKind.i64.wrap (x3_9 - 1))).f3).f7), .bool (((rd n8 (IntKind.i64.wrap (x3_9 - 1))).f3).f8), .bool (((rd n8 (IntKind.i64.wrap (x3_9 - 1))).f3).f9)]) (ys := [.int .i64 (((rd n8 x3_9).f3).f0), .int .i64 (((rd n8 x3_9).f3).f1), .bool (((rd n8 x3_9).f3).f2), .bool (((rd n8 x3_9).f3).f3), .bool (((rd n8 x3_9).f3).f4), .bool (((rd n8 x3_9).f3).f5), .bool (((rd n8 x3_9).f3).f6), .bool (((rd n8 x3_9).f3).f7), .bool (((rd n8 x3_9).f3).f8), .bool (((rd n8 x3_9).f3).f9)]) (r := (((((rd n8 (IntKind.i64.wrap (x3_9 - 1))).f3).f0) == (((rd n8 x3_9).f3).f0)) && (((((rd n8 (IntKind.i64.wrap (x3_9 - 1))).f3).f1) == (((rd n8 x3_9).f3).f1)) && (((((rd n8 (IntKind.i64.wrap (x3_9 - 1))).f3).f2) == (((rd n8 x3_9).f3).f2)) && (((((rd n8 (IntKind.i64.wrap (x3_9 - 1))).f3).f3) == (((rd n8 x3_9).f3).f3)) && (((((rd n8 (IntKind.i64.wrap (x3_9 - 1))).f3).f4) == (((rd n8 x3_9).f3).f4)) && (((((rd n8 (IntKind.i64.wrap (x3_9 - 1))).f3).f5) == (((rd n8 x3_9).f3).f5)) && (((((rd n8 (IntKind.i64.wrap (x3_9 - 1))).f3).f6) == (((rd n8 x3_9).f3).f6)) && (((((rd n8 (IntKind.i64.wrap (x3_9 - 1))).f3).f7) == (((rd n8 x3_9).f3).f7)) && (((((rd n8 (IntKind.i64.wrap (x3_9 - 1))).f3).f8) == (((rd n8 x3_9).f3).f8)) && (((((rd n8 (IntKind.i64.wrap (x3_9 - 1))).f3).f9) == (((rd n8 x3_9).f3).f9)) && true))))))))))) (p := ((rd n8 (IntKind.i64.wrap (x3_9 - 1))).f3) = ((rd n8 x3_9).f3)) eqg70 rfl rfl (by kernel_rfl) (eqv70 (x := ((rd n8 (IntKind.i64.wrap (x3_9 - 1))).f3)) (y := ((rd n8 x3_9).f3))))) ?_
            refine DH_take 68 (by kernel_rfl) rfl rfl (.yes rfl rfl rfl rfl (dec_t h4279)) pk sH rfl (VR.ofV (V_pickF rfl (dec_f h4281) rfl)) ?_
            refine DH_take 69 (by kernel_rfl) rfl rfl (.yes rfl rfl rfl rfl (dec_f h4278)) pk sH rfl (VR.ofV (V_pickT rfl (dec_t h4279) rfl)) ?_
            refine DH_take 70 (by kernel_rfl) rfl rfl (.no rfl) pk sH rfl (VR.ofV (V_pickF rfl (dec_f h4278) rfl)) ?_
            refine DH_open dd sH ?_
            refine DN_done (by kernel_rfl) ?_
            have hr_ := Option.some.inj H
            subst hr_
            exact at_normal (St.mk1 (aeq rfl (aeq rfl (aeq rfl (aeq rfl aeq0)))) (Gh.sel [1, 0] rfl rfl))
          replace H := g_iff h4279 H
          refine DH_skip 44 (by kernel_rfl) rfl rfl (.no rfl rfl rfl rfl (dec_f h4279)) pk rfl ?_
          refine DH_skip 45 (by kernel_rfl) rfl rfl (.no rfl rfl rfl rfl (dec_f h4279)) pk rfl ?_
          refine DH_skip 46 (by kernel_rfl) rfl rfl (.no rfl rfl rfl rfl (dec_f h4279)) pk rfl ?_
          refine DH_skip 47 (by kernel_rfl) rfl rfl (.un rfl rfl rfl rfl) pk rfl ?_
          refine DH_skip 48 (by kernel_rfl) rfl rfl (.un rfl rfl rfl rfl) pk rfl ?_
          refine DH_skip 49 (by kernel_rfl) rfl rfl (.un rfl rfl rfl rfl) pk rfl ?_
          refine DH_skip 50 (by kernel_rfl) rfl rfl (.un rfl rfl rfl rfl) pk rfl ?_
          refine DH_skip 51 (by kernel_rfl) rfl rfl (.un rfl rfl rfl rfl) pk rfl ?_
          refine DH_skip 52 (by kernel_rfl) rfl rfl (.un rfl rfl rfl rfl) pk rfl ?_
          refine DH_skip 53 (by kernel_rfl) rfl rfl (.un rfl rfl rfl rfl) pk rfl ?_
          refine DH_skip 54 (by kernel_rfl) rfl rfl (.no rfl rfl rfl rfl (dec_f h4279)) pk rfl ?_
          refine DH_skip 55 (by kernel_rfl) rfl rfl (.no rfl rfl rfl rfl (dec_f h4279)) pk rfl ?_
          refine DH_skip 56 (by kernel_rfl) rfl rfl (.un rfl rfl rfl rfl) pk rfl ?_
          refine DH_skip 57 (by kernel_rfl) rfl rfl (.un rfl rfl rfl rfl) pk rfl ?_
          refine DH_skip 58 (by kernel_rfl) rfl rfl (.un rfl rfl rfl rfl) pk rfl ?_
          refine DH_skip 59 (by kernel_rfl) rfl rfl (.un rfl rfl rfl rfl) pk rfl ?_
          refine DH_skip 60 (by kernel_rfl) rfl rfl (.un rfl rfl rfl rfl) pk rfl ?_
          refine DH_skip 61 (by kernel_rfl) rfl rfl (.un rfl rfl rfl rfl) pk rfl ?_
          refine DH_skip 62 (by kernel_rfl) rfl rfl (.un rfl rfl rfl rfl) pk rfl ?_
          refine DH_skip 63 (by kernel_rfl) rfl rfl (.un rfl rfl rfl rfl) pk rfl ?_
          refine DH_skip 64 (by kernel_rfl) rfl rfl (.un rfl rfl rfl rfl) pk rfl ?_
          refine DH_skip 65 (by kernel_rfl) rfl rfl (.un rfl rfl rfl rfl) pk rfl ?_
          refine DH_skip 66 (by kernel_rfl) rfl rfl (.un rfl rfl rfl rfl) pk rfl ?_
          refine DH_skip 67 (by kernel_rfl) rfl rfl (.un rfl rfl rfl rfl) pk rfl ?_
          refine DH_skip 68 (by kernel_rfl) rfl rfl (.no rfl rfl rfl rfl (dec_f h4279)) pk rfl ?_
          refine DH_take 69 (by kernel_rfl) rfl rfl (.yes rfl rfl rfl rfl (dec_f h4278)) pk sH rfl (VR.ofV (V_pickF rfl (dec_f h4279) rfl)) ?_
          refine DH_take 70 (by kernel_rfl) rfl rfl (.no rfl) pk sH rfl (VR.ofV (V_pickF rfl (dec_f h4278) rfl)) ?_
          refine DH_open dd sH ?_
          refine DN_done (by kernel_rfl) ?_
          have hr_ := Option.some.inj H
          subst hr_
          exact at_normal (St.mk1 (aeq rfl (aeq rfl (aeq rfl (aeq rfl aeq0)))) (Gh.sel [1, 0] rfl rfl))
        replace H := g_iff h4275 H
        refine DH_skip 7 (by kernel_rfl) rfl rfl (.no rfl rfl rfl rfl (dec_f h4275)) pk rfl ?_
        refine DH_skip 8 (by kernel_rfl) rfl rfl (.no rfl rfl rfl rfl (dec_f h4275)) pk rfl ?_
        refine DH_skip 9 (by kernel_rfl) rfl rfl (.no rfl rfl rfl rfl (dec_f h4275)) pk rfl ?_
        refine DH_skip 10 (by kernel_rfl) rfl rfl (.no rfl rfl rfl rfl (dec_f h4275)) pk rfl ?_
        refine DH_skip 11 (by kernel_rfl) rfl rfl (.no rfl rfl rfl rfl (dec_f h4275)) pk rfl ?_
        refine DH_skip 12 (by kernel_rfl) rfl rfl (.no rfl rfl rfl rfl (dec_f h4275)) pk rfl ?_
        refine DH_skip 13 (by kernel_rfl) rfl rfl (.un rfl rfl rfl rfl) pk rfl ?_
        refine DH_skip 14 (by kernel_rfl) rfl rfl (.un rfl rfl rfl rfl) pk rfl ?_
        refine DH_skip 15 (by kernel_rfl) rfl rfl (.un rfl rfl rfl rfl) pk rfl ?_
        refine DH_skip 16 (by kernel_rfl) rfl rfl (.un rfl rfl rfl rfl) pk rfl ?_
        refine DH_skip 17 (by kernel_rfl) rfl rfl (.un rfl rfl rfl rfl) pk rfl ?_
        refine DH_skip 18 (by kernel_rfl) rfl rfl (.un rfl rfl rfl rfl) pk rfl ?_
        refine DH_skip 19 (by kernel_rfl) rfl rfl (.un rfl rfl rfl rfl) pk rfl ?_
        refine DH_skip 20 (by kernel_rfl) rfl rfl (.no rfl rfl rfl rfl (dec_f h4275)) pk rfl ?_
        refine DH_skip 21 (by kernel_rfl) rfl rfl (.no rfl rfl rfl rfl (dec_f h4275)) pk rfl ?_
        refine DH_skip 22 (by kernel_rfl) rfl rfl (.un rfl rfl rfl rfl) pk rfl ?_
        refine DH_skip 23 (by kernel_rfl) rfl rfl (.un rfl rfl rfl rfl) pk rfl ?_
        refine DH_skip 24 (by kernel_rfl) rfl rfl (.un rfl rfl rfl rfl) pk rfl ?_
        refine DH_skip 25 (by kernel_rfl) rfl rfl (.un rfl rfl rfl rfl) pk rfl ?_
        refine DH_skip 26 (by kernel_rfl) rfl rfl (.un rfl rfl rfl rfl) pk rfl ?_
        refine DH_skip 27 (by kernel_rfl) rfl rfl (.un rfl rfl rfl rfl) pk rfl ?_
        refine DH_skip 28 (by kernel_rfl) rfl rfl (.un rfl rfl rfl rfl) pk rfl ?_
        refine DH_skip 29 (by kernel_rfl) rfl rfl (.un rfl rfl rfl rfl) pk rfl ?_
        refine DH_skip 30 (by kernel_rfl) rfl rfl (.un rfl rfl rfl rfl) pk rfl ?_
        refine DH_skip 31 (by kernel_rfl) rfl rfl (.un rfl rfl rfl rfl) pk rfl ?_
        refine DH_skip 32 (by kernel_rfl) rfl rfl (.un rfl rfl rfl rfl) pk rfl ?_
        refine DH_skip 33 (by kernel_rfl) rfl rfl (.un rfl rfl rfl rfl) pk rfl ?_
        refine DH_skip 34 (by kernel_rfl) rfl rfl (.no rfl rfl rfl rfl (dec_f h4275)) pk rfl ?_
        refine DH_take 35 (by kernel_rfl) rfl rfl (.no rfl) pk sH rfl (VR.ofV (V_pickF rfl (dec_f h4275) rfl)) ?_
        refine DH_take (v := .bool false) 36 (by kernel_rfl) rfl rfl (.no rfl) pk sH rfl (VR.ofV (V_move rfl)) ?_
        refine DH_take (v := .slice A6 n8.length c7) 37 (by kernel_rfl) rfl rfl (.yes rfl rfl rfl rfl (rfl)) pk sH rfl (VR.ofV (V_move rfl)) ?_
        refine DH_take (v := .int .i64 x3_9) 38 (by kernel_rfl) rfl rfl (.yes rfl rfl rfl rfl (rfl)) pk sH rfl (VR.ofV (V_move rfl)) ?_
        obtain ⟨⟨g2354, g2355⟩, H⟩ := g_pos H
        refine DH_take 39 (by kernel_rfl) rfl rfl (.yes rfl rfl rfl rfl (rfl)) pk sH rfl (VR_index (i := x3_9) Try.underlying65 sz76 rfl rfl (Src.buf (k := 0) rfl) g2354 g2355) ?_
        refine DH_take (v := .pointer (some ((el A6 (x3_9.toNat * 15)).add 4))) 40 (by kernel_rfl) rfl rfl (.yes rfl rfl rfl rfl (rfl)) pk sH rfl (VR.ofV (V_fieldAddrN (B := el A6 (x3_9.toNat * 15)) (m := 0) (o := 4) Try.underlying76 rfl nz5 rfl rfl)) ?_
        refine DH_take 41 (by kernel_rfl) rfl rfl (.yes rfl rfl rfl rfl (rfl)) pk sH rfl (VR_load_el (enc := enc76) (i := x3_9) (j := x3_9.toNat * 15) (m := 4) (sz := 15) Try.underlying5 rfl rfl rfl rfl (Src.buf (k := 0) rfl) g2354 g2355 (fun _ _ h => h) rfl) ?_
        refine DH_take (v := .bool (decide (((rd n8 x3_9).f2) = 0))) 42 (by kernel_rfl) rfl rfl (.yes rfl rfl rfl rfl (rfl)) pk sH rfl (VR.ofV (V_eql rfl rfl)) ?_
        refine DH_take (v := .bool (decide (((rd n8 x3_9).f2) = 0))) 43 (by kernel_rfl) rfl rfl (.yes rfl rfl rfl rfl (rfl)) pk sH rfl (VR.ofV (V_move rfl)) ?_
        by_cases h4282 : ((rd n8 x3_9).f2) = 0
        · replace H := g_ift h4282 H
          refine DH_take (v := .int .i64 x3_9) 44 (by kernel_rfl) rfl rfl (.yes rfl rfl rfl rfl (dec_t h4282)) pk sH rfl (VR.ofV (V_move rfl)) ?_
          refine DH_take (v := .bool (decide (x3_9 = 0))) 45 (by kernel_rfl) rfl rfl (.yes rfl rfl rfl rfl (dec_t h4282)) pk sH rfl (VR.ofV (V_eql rfl rfl)) ?_
          refine DH_take (v := .bool (decide (x3_9 = 0))) 46 (by kernel_rfl) rfl rfl (.yes rfl rfl rfl rfl (dec_t h4282)) pk sH rfl (VR.ofV (V_move rfl)) ?_
          by_cases h4283 : x3_9 = 0
          · replace H := g_ift h4283 H
            refine DH_skip 47 (by kernel_rfl) rfl rfl (.no rfl rfl rfl rfl (dec_t h4283)) pk rfl ?_
            refine DH_skip 48 (by kernel_rfl) rfl rfl (.no rfl rfl rfl rfl (dec_t h4283)) pk rfl ?_
            refine DH_skip 49 (by kernel_rfl) rfl rfl (.no rfl rfl rfl rfl (dec_t h4283)) pk rfl ?_
            refine DH_skip 50 (by kernel_rfl) rfl rfl (.no rfl rfl rfl rfl (dec_t h4283)) pk rfl ?_
            refine DH_skip 51 (by kernel_rfl) rfl rfl (.no rfl rfl rfl rfl (dec_t h4283)) pk rfl ?_
            refine DH_skip 52 (by kernel_rfl) rfl rfl (.no rfl rfl rfl rfl (dec_t h4283)) pk rfl ?_
            refine DH_skip 53 (by kernel_rfl) rfl rfl (.no rfl rfl rfl rfl (dec_t h4283)) pk rfl ?_
            refine DH_take 54 (by kernel_rfl) rfl rfl (.yes rfl rfl rfl rfl (dec_t h4282)) pk sH rfl (VR.ofV (V_pickT rfl (dec_t h4283) rfl)) ?_
            refine DH_take (v := .bool true) 55 (by kernel_rfl) rfl rfl (.yes rfl rfl rfl rfl (dec_t h4282)) pk sH rfl (VR.ofV (V_move rfl)) ?_
            refine DH_skip 56 (by kernel_rfl) rfl rfl (.no rfl rfl rfl rfl (rfl)) pk rfl ?_
            refine DH_skip 57 (by kernel_rfl) rfl rfl (.no rfl rfl rfl rfl (rfl)) pk rfl ?_
            refine DH_skip 58 (by kernel_rfl) rfl rfl (.no rfl rfl rfl rfl (rfl)) pk rfl ?_
            refine DH_skip 59 (by kernel_rfl) rfl rfl (.no rfl rfl rfl rfl (rfl)) pk rfl ?_
            refine DH_skip 60 (by kernel_rfl) rfl rfl (.no rfl rfl rfl rfl (rfl)) pk rfl ?_
            refine DH_skip 61 (by kernel_rfl) rfl rfl (.no rfl rfl rfl rfl (rfl)) pk rfl ?_
            refine DH_skip 62 (by kernel_rfl) rfl rfl (.no rfl rfl rfl rfl (rfl)) pk rfl ?_
            refine DH_skip 63 (by kernel_rfl) rfl rfl (.no rfl rfl rfl rfl (rfl)) pk rfl ?_
            refine DH_skip 64 (by kernel_rfl) rfl rfl (.no rfl rfl rfl rfl (rfl)) pk rfl ?_
            refine DH_skip 65 (by kernel_rfl) rfl rfl (.no rfl rfl rfl rfl (rfl)) pk rfl ?_
            refine DH_skip 66 (by kernel_rfl) rfl rfl (.no rfl rfl rfl rfl (rfl)) pk rfl ?_
            refine DH_skip 67 (by kernel_rfl) rfl rfl (.no rfl rfl rfl rfl (rfl)) pk rfl ?_
            refine DH_take 68 (by kernel_rfl) rfl rfl (.yes rfl rfl rfl rfl (dec_t h4282)) pk sH rfl (VR.ofV (V_pickT rfl (rfl) rfl)) ?_
            refine DH_take 69 (by kernel_rfl) rfl rfl (.yes rfl rfl rfl rfl (rfl)) pk sH rfl (VR.ofV (V_pickT rfl (dec_t h4282) rfl)) ?_
            refine DH_take 70 (by kernel_rfl) rfl rfl (.no rfl) pk sH rfl (VR.ofV (V_pickF rfl (rfl) rfl)) ?_
            refine DH_open dd sH ?_
            refine DN_done (by kernel_rfl) ?_
            have hr_ := Option.some.inj H
            subst hr_
            exact at_normal (St.mk1 (aeq rfl (aeq rfl (aeq rfl (aeq rfl aeq0)))) (Gh.sel [1, 0] rfl rfl))
          replace H := g_iff h4283 H
          refine DH_take (v := .slice A6 n8.length c7) 47 (by kernel_rfl) rfl rfl (.yes rfl rfl rfl rfl (dec_f h4283)) pk sH rfl (VR.ofV (V_move rfl)) ?_
          refine DH_take (v := .int .i64 x3_9) 48 (by kernel_rfl) rfl rfl (.yes rfl rfl rfl rfl (dec_f h4283)) pk sH rfl (VR.ofV (V_move rfl)) ?_
          refine DH_take (v := .int .i64 (IntKind.i64.wrap (x3_9 - 1))) 49 (by kernel_rfl) rfl rfl (.yes rfl rfl rfl rfl (dec_f h4283)) pk sH rfl (VR.ofV (V_sub rfl rfl)) ?_
          obtain ⟨⟨g3014, g3015⟩, H⟩ := g_pos H
          refine DH_take 50 (by kernel_rfl) rfl rfl (.yes rfl rfl rfl rfl (dec_f h4283)) pk sH rfl (VR_index (i := IntKind.i64.wrap (x3_9 - 1)) Try.underlying65 sz76 rfl rfl (Src.buf (k := 0) rfl) g3014 g3015) ?_
          refine DH_take (v := .pointer (some ((el A6 ((IntKind.i64.wrap (x3_9 - 1)).toNat * 15)).add 4))) 51 (by kernel_rfl) rfl rfl (.yes rfl rfl rfl rfl (dec_f h4283)) pk sH rfl (VR.ofV (V_fieldAddrN (B := el A6 ((IntKind.i64.wrap (x3_9 - 1)).toNat * 15)) (m := 0) (o := 4) Try.underlying76 rfl nz5 rfl rfl)) ?_
          refine DH_take 52 (by kernel_rfl) rfl rfl (.yes rfl rfl rfl rfl (dec_f h4283)) pk sH rfl (VR_load_el (enc := enc76) (i := IntKind.i64.wrap (x3_9 - 1)) (j := (IntKind.i64.wrap (x3_9 - 1)).toNat * 15) (m := 4) (sz := 15) Try.underlying5 rfl rfl rfl rfl (Src.buf (k := 0) rfl) g3014 g3015 (fun _ _ h => h) rfl) ?_
          refine DH_take (v := .bool (decide (((rd n8 (IntKind.i64.wrap (x3_9 - 1))).f2) ≠ 2))) 53 (by kernel_rfl) rfl rfl (.yes rfl rfl rfl rfl (dec_f h4283)) pk sH rfl (VR.ofV (V_neq rfl rfl)) ?_
          refine DH_take 54 (by kernel_rfl) rfl rfl (.yes rfl rfl rfl rfl (dec_t h4282)) pk sH rfl (VR.ofV (V_pickF rfl (dec_f h4283) rfl)) ?_
          refine DH_take (v := .bool (decide (((rd n8 (IntKind.i64.wrap (x3_9 - 1))).f2) ≠ 2))) 55 (by kernel_rfl) rfl rfl (.yes rfl rfl rfl rfl (dec_t h4282)) pk sH rfl (VR.ofV (V_move rfl)) ?_
          by_cases h4284 : ((rd n8 (IntKind.i64.wrap (x3_9 - 1))).f2) ≠ 2
          · replace H := g_ift h4284 H
            refine DH_skip 56 (by kernel_rfl) rfl rfl (.no rfl rfl rfl rfl (dec_t h4284)) pk rfl ?_
            refine DH_skip 57 (by kernel_rfl) rfl rfl (.no rfl rfl rfl rfl (dec_t h4284)) pk rfl ?_
            refine DH_skip 58 (by kernel_rfl) rfl rfl (.no rfl rfl rfl rfl (dec_t h4284)) pk rfl ?_
            refine DH_skip 59 (by kernel_rfl) rfl rfl (.no rfl rfl rfl rfl (dec_t h4284)) pk rfl ?_
            refine DH_skip 60 (by kernel_rfl) rfl rfl (.no rfl rfl rfl rfl (dec_t h4284)) pk rfl ?_
            refine DH_skip 61 (by kernel_rfl) rfl rfl (.no rfl rfl rfl rfl (dec_t h4284)) pk rfl ?_
            refine DH_skip 62 (by kernel_rfl) rfl rfl (.no rfl rfl rfl rfl (dec_t h4284)) pk rfl ?_
            refine DH_skip 63 (by kernel_rfl) rfl rfl (.no rfl rfl rfl rfl (dec_t h4284)) pk rfl ?_
            refine DH_skip 64 (by kernel_rfl) rfl rfl (.no rfl rfl rfl rfl (dec_t h4284)) pk rfl ?_
            refine DH_skip 65 (by kernel_rfl) rfl rfl (.no rfl rfl rfl rfl (dec_t h4284)) pk rfl ?_
            refine DH_skip 66 (by kernel_rfl) rfl rfl (.no rfl rfl rfl rfl (dec_t h4284)) pk rfl ?_
            refine DH_skip 67 (by kernel_rfl) rfl rfl (.no rfl rfl rfl rfl (dec_t h4284)) pk rfl ?_
            refine DH_take 68 (by kernel_rfl) rfl rfl (.yes rfl rfl rfl rfl (dec_t h4282)) pk sH rfl (VR.ofV (V_pickT rfl (dec_t h4284) rfl)) ?_
            refine DH_take 69 (by kernel_rfl) rfl rfl (.yes rfl rfl rfl rfl (rfl)) pk sH rfl (VR.ofV (V_pickT rfl (dec_t h4282) rfl)) ?_
            refine DH_take 70 (by kernel_rfl) rfl rfl (.no rfl) pk sH rfl (VR.ofV (V_pickF rfl (rfl) rfl)) ?_
            refine DH_open dd sH ?_
            refine DN_done (by kernel_rfl) ?_
            have hr_ := Option.some.inj H
            subst hr_
            exact at_normal (St.mk1 (aeq rfl (aeq rfl (aeq rfl (aeq rfl aeq0)))) (Gh.sel [1, 0] rfl rfl))
          replace H := g_iff h4284 H
          refine DH_take (v := .slice A6 n8.length c7) 56 (by kernel_rfl) rfl rfl (.yes rfl rfl rfl rfl (dec_f h4284)) pk sH rfl (VR.ofV (V_move rfl)) ?_
          refine DH_take (v := .int .i64 x3_9) 57 (by kernel_rfl) rfl rfl (.yes rfl rfl rfl rfl (dec_f h4284)) pk sH rfl (VR.ofV (V_move rfl)) ?_
          refine DH_take (v := .int .i64 (IntKind.i64.wrap (x3_9 - 1))) 58 (by kernel_rfl) rfl rfl (.yes rfl rfl rfl rfl (dec_f h4284)) pk sH rfl (VR.ofV (V_sub rfl rfl)) ?_
          obtain ⟨⟨g3554, g3555⟩, H⟩ := g_pos H
          refine DH_take 59 (by kernel_rfl) rfl rfl (.yes rfl rfl rfl rfl (dec_f h4284)) pk sH rfl (VR_index (i := IntKind.i64.wrap (x3_9 - 1)) Try.underlying65 sz76 rfl rfl (Src.buf (k := 0) rfl) g3554 g3555) ?_
          refine DH_take (v := .pointer (some ((el A6 ((IntKind.i64.wrap (x3_9 - 1)).toNat * 15)).add 5))) 60 (by kernel_rfl) rfl rfl (.yes rfl rfl rfl rfl (dec_f h4284)) pk sH rfl (VR.ofV (V_fieldAddrN (B := el A6 ((IntKind.i64.wrap (x3_9 - 1)).toNat * 15)) (m := 0) (o := 5) Try.underlying76 rfl nz70 rfl rfl)) ?_
          refine DH_take 61 (by kernel_rfl) rfl rfl (.yes rfl rfl rfl rfl (dec_f h4284)) pk sH rfl (VR_loadA_el (enc := enc76) (i := IntKind.i64.wrap (x3_9 - 1)) (j := (IntKind.i64.wrap (x3_9 - 1)).toNat * 15) (m := 5) (sz := 15) (vs := [.int .i64 (((rd n8 (IntKind.i64.wrap (x3_9 - 1))).f3).f0), .int .i64 (((rd n8 (IntKind.i64.wrap (x3_9 - 1))).f3).f1), .bool (((rd n8 (IntKind.i64.wrap (x3_9 - 1))).f3).f2), .bool (((rd n8 (IntKind.i64.wrap (x3_9 - 1))).f3).f3), .bool (((rd n8 (IntKind.i64.wrap (x3_9 - 1))).f3).f4), .bool (((rd n8 (IntKind.i64.wrap (x3_9 - 1))).f3).f5), .bool (((rd n8 (IntKind.i64.wrap (x3_9 - 1))).f3).f6), .bool (((rd n8 (IntKind.i64.wrap (x3_9 - 1))).f3).f7), .bool (((rd n8 (IntKind.i64.wrap (x3_9 - 1))).f3).f8), .bool (((rd n8 (IntKind.i64.wrap (x3_9 - 1))).f3).f9)]) Try.underlying70 rfl sz70 rfl rfl rfl (Src.buf (k := 0) rfl) g3554 g3555 (fun _ _ h => h) rfl) ?_
          refine DH_take (v := .slice A6 n8.length c7) 62 (by kernel_rfl) rfl rfl (.yes rfl rfl rfl rfl (dec_f h4284)) pk sH rfl (VR.ofV (V_move rfl)) ?_
          refine DH_take (v := .int .i64 x3_9) 63 (by kernel_rfl) rfl rfl (.yes rfl rfl rfl rfl (dec_f h4284)) pk sH rfl (VR.ofV (V_move rfl)) ?_
          obtain ⟨⟨g3854, g3855⟩, H⟩ := g_pos H
          refine DH_take 64 (by kernel_rfl) rfl rfl (.yes rfl rfl rfl rfl (dec_f h4284)) pk sH rfl (VR_index (i := x3_9) Try.underlying65 sz76 rfl rfl (Src.buf (k := 0) rfl) g3854 g3855) ?_
          refine DH_take (v := .pointer (some ((el A6 (x3_9.toNat * 15)).add 5))) 65 (by kernel_rfl) rfl rfl (.yes rfl rfl rfl rfl (dec_f h4284)) pk sH rfl (VR.ofV (V_fieldAddrN (B := el A6 (x3_9.toNat * 15)) (m := 0) (o := 5) Try.underlying76 rfl nz70 rfl rfl)) ?_
          refine DH_take 66 (by kernel_rfl) rfl rfl (.yes rfl rfl rfl rfl (dec_f h4284)) pk sH rfl (VR_loadA_el (enc := enc76) (i := x3_9) (j := x3_9.toNat * 15) (m := 5) (sz := 15) (vs := [.int .i64 (((rd n8 x3_9).f3).f0), .int .i64 (((rd n8 x3_9).f3).f1), .bool (((rd n8 x3_9).f3).f2), .bool (((rd n8 x3_9).f3).f3), .bool (((rd n8 x3_9).f3).f4), .bool (((rd n8 x3_9).f3).f5), .bool (((rd n8 x3_9).f3).f6), .bool (((rd n8 x3_9).f3).f7), .bool (((rd n8 x3_9).f3).f8), .bool (((rd n8 x3_9).f3).f9)]) Try.underlying70 rfl sz70 rfl rfl rfl (Src.buf (k := 0) rfl) g3854 g3855 (fun _ _ h => h) rfl) ?_
          refine DH_take (v := .bool (decide (((rd n8 (IntKind.i64.wrap (x3_9 - 1))).f3) ≠ ((rd n8 x3_9).f3)))) 67 (by kernel_rfl) rfl rfl (.yes rfl rfl rfl rfl (dec_f h4284)) pk sH rfl (VR.ofV (V_neqD (xs := [.int .i64 (((rd n8 (IntKind.i64.wrap (x3_9 - 1))).f3).f0), .int .i64 (((rd n8 (IntKind.i64.wrap (x3_9 - 1))).f3).f1), .bool (((rd n8 (IntKind.i64.wrap (x3_9 - 1))).f3).f2), .bool (((rd n8 (IntKind.i64.wrap (x3_9 - 1))).f3).f3), .bool (((rd n8 (IntKind.i64.wrap (x3_9 - 1))).f3).f4), .bool (((rd n8 (IntKind.i64.wrap (x3_9 - 1))).f3).f5), .bool (((rd n8 (IntKind.i64.wrap (x3_9 - 1))).f3).f6), .bool (((rd n8 (IntKind.i64.wrap (x3_9 - 1))).f3).f7), .bool (((rd n8 (IntKind.i64.wrap (x3_9 - 1))).f3).f8), .bool (((rd n8 (IntKind.i64.wrap (x3_9 - 1))).f3).f9)]) (ys := [.int .i64 (((rd n8 x3_9).f3).f0), .int .i64 (((rd n8 x3_9).f3).f1), .bool (((rd n8 x3_9).f3).f2), .bool (((rd n8 x3_9).f3).f3), .bool (((rd n8 x3_9).f3).f4), .bool (((rd n8 x3_9).f3).f5), .bool (((rd n8 x3_9).f3).f6), .bool (((rd n8 x3_9).f3).f7), .bool (((rd n8 x3_9).f3).f8), .bool (((rd n8 x3_9).f3).f9)]) (r := (((((rd n8 (IntKind.i64.wrap (x3_9 - 1))).f3).f0) == (((rd n8 x3_9).f3).f0)) && (((((rd n8 (IntKind.i64.wrap (x3_9 - 1))).f3).f1) == (((rd n8 x3_9).f3).f1)) && (((((rd n8 (IntKind.i64.wrap (x3_9 - 1))).f3).f2) == (((rd n8 x3_9).f3).f2)) && (((((rd n8 (IntKind.i64.wrap (x3_9 - 1))).f3).f3) == (((rd n8 x3_9).f3).f3)) && (((((rd n8 (IntKind.i64.wrap (x3_9 - 1))).f3).f4) == (((rd n8 x3_9).f3).f4)) && (((((rd n8 (IntKind.i64.wrap (x3_9 - 1))).f3).f5) == (((rd n8 x3_9).f3).f5)) && (((((rd n8 (IntKind.i64.wrap (x3_9 - 1))).f3).f6) == (((rd n8 x3_9).f3).f6)) && (((((rd n8 (IntKind.i64.wrap (x3_9 - 1))).f3).f7) == (((rd n8 x3_9).f3).f7)) && (((((rd n8 (IntKind.i64.wrap (x3_9 - 1))).f3).f8) == (((rd n8 x3_9).f3).f8)) && (((((rd n8 (IntKind.i64.wrap (x3_9 - 1))).f3).f9) == (((rd n8 x3_9).f3).f9)) && true))))))))))) (p := ((rd n8 (IntKind.i64.wrap (x3_9 - 1))).f3) = ((rd n8 x3_9).f3)) eqg70 rfl rfl (by kernel_rfl) (eqv70 (x := ((rd n8 (IntKind.i64.wrap (x3_9 - 1))).f3)) (y := ((rd n8 x3_9).f3))))) ?_
          refine DH_take 68 (by kernel_rfl) rfl rfl (.yes rfl rfl rfl rfl (dec_t h4282)) pk sH rfl (VR.ofV (V_pickF rfl (dec_f h4284) rfl)) ?_
          refine DH_take 69 (by kernel_rfl) rfl rfl (.yes rfl rfl rfl rfl (rfl)) pk sH rfl (VR.ofV (V_pickT rfl (dec_t h4282) rfl)) ?_
          refine DH_take 70 (by kernel_rfl) rfl rfl (.no rfl) pk sH rfl (VR.ofV (V_pickF rfl (rfl) rfl)) ?_
          refine DH_open dd sH ?_
          refine DN_done (by kernel_rfl) ?_
          have hr_ := Option.some.inj H
          subst hr_
          exact at_normal (St.mk1 (aeq rfl (aeq rfl (aeq rfl (aeq rfl aeq0)))) (Gh.sel [1, 0] rfl rfl))
        replace H := g_iff h4282 H
        refine DH_skip 44 (by kernel_rfl) rfl rfl (.no rfl rfl rfl rfl (dec_f h4282)) pk rfl ?_
        refine DH_skip 45 (by kernel_rfl) rfl rfl (.no rfl rfl rfl rfl (dec_f h4282)) pk rfl ?_
        refine DH_skip 46 (by kernel_rfl) rfl rfl (.no rfl rfl rfl rfl (dec_f h4282)) pk rfl ?_
        refine DH_skip 47 (by kernel_rfl) rfl rfl (.un rfl rfl rfl rfl) pk rfl ?_
        refine DH_skip 48 (by kernel_rfl) rfl rfl (.un rfl rfl rfl rfl) pk rfl ?_
        refine DH_skip 49 (by kernel_rfl) rfl rfl (.un rfl rfl rfl rfl) pk rfl ?_
        refine DH_skip 50 (by kernel_rfl) rfl rfl (.un rfl rfl rfl rfl) pk rfl ?_
        refine DH_skip 51 (by kernel_rfl) rfl rfl (.un rfl rfl rfl rfl) pk rfl ?_
        refine DH_skip 52 (by kernel_rfl) rfl rfl (.un rfl rfl rfl rfl) pk rfl ?_
        refine DH_skip 53 (by kernel_rfl) rfl rfl (.un rfl rfl rfl rfl) pk rfl ?_
        refine DH_skip 54 (by kernel_rfl) rfl rfl (.no rfl rfl rfl rfl (dec_f h4282)) pk rfl ?_
        refine DH_skip 55 (by kernel_rfl) rfl rfl (.no rfl rfl rfl rfl (dec_f h4282)) pk rfl ?_
        refine DH_skip 56 (by kernel_rfl) rfl rfl (.un rfl rfl rfl rfl) pk rfl ?_
        refine DH_skip 57 (by kernel_rfl) rfl rfl (.un rfl rfl rfl rfl) pk rfl ?_
        refine DH_skip 58 (by kernel_rfl) rfl rfl (.un rfl rfl rfl rfl) pk rfl ?_
        refine DH_skip 59 (by kernel_rfl) rfl rfl (.un rfl rfl rfl rfl) pk rfl ?_
        refine DH_skip 60 (by kernel_rfl) rfl rfl (.un rfl rfl rfl rfl) pk rfl ?_
        refine DH_skip 61 (by kernel_rfl) rfl rfl (.un rfl rfl rfl rfl) pk rfl ?_
        refine DH_skip 62 (by kernel_rfl) rfl rfl (.un rfl rfl rfl rfl) pk rfl ?_
        refine DH_skip 63 (by kernel_rfl) rfl rfl (.un rfl rfl rfl rfl) pk rfl ?_
        refine DH_skip 64 (by kernel_rfl) rfl rfl (.un rfl rfl rfl rfl) pk rfl ?_
        refine DH_skip 65 (by kernel_rfl) rfl rfl (.un rfl rfl rfl rfl) pk rfl ?_
        refine DH_skip 66 (by kernel_rfl) rfl rfl (.un rfl rfl rfl rfl) pk rfl ?_
        refine DH_skip 67 (by kernel_rfl) rfl rfl (.un rfl rfl rfl rfl) pk rfl ?_
        refine DH_skip 68 (by kernel_rfl) rfl rfl (.no rfl rfl rfl rfl (dec_f h4282)) pk rfl ?_
        refine DH_take 69 (by kernel_rfl) rfl rfl (.yes rfl rfl rfl rfl (rfl)) pk sH rfl (VR.ofV (V_pickF rfl (dec_f h4282) rfl)) ?_
        refine DH_take 70 (by kernel_rfl) rfl rfl (.no rfl) pk sH rfl (VR.ofV (V_pickF rfl (rfl) rfl)) ?_
        refine DH_open dd sH ?_
        refine DN_done (by kernel_rfl) ?_
        have hr_ := Option.some.inj H
        subst hr_
        exact at_normal (St.mk1 (aeq rfl (aeq rfl (aeq rfl (aeq rfl aeq0)))) (Gh.sel [1, 0] rfl rfl))
      rintro e ds As hst4285
      clear H
      have H := Bt13
      clear Bt13
      refine at_normal ?_
      refine SA.of_St hst4285 fun junk => ?_
      by_cases h4286 : t13 = true
      · replace H := g_ift h4286 H
        refine SA_condTb rfl h4286 ?_
        refine SA_region ?_
        refine RA_step rfl (OA_v (v := .slice V0 n0.toNat v0) rfl (V_move rfl) ?_)
        refine RA_step rfl (OA_v (v := .int .i64 x3_9) rfl (V_move rfl) ?_)
        refine RA_step rfl (OA_v (v := .slice A6 n8.length c7) rfl (V_move rfl) ?_)
        refine RA_step rfl (OA_v (v := .int .i64 x3_9) rfl (V_move rfl) ?_)
        obtain ⟨⟨g4287, g4288⟩, H⟩ := g_pos H
        refine RA_step rfl (OA_r rfl (VR_index (i := x3_9) Try.underlying65 sz76 rfl rfl (Src.buf (k := 1) rfl) g4287 g4288) ?_)
        refine RA_step rfl (OA_v (v := .pointer (some ((el A6 (x3_9.toNat * 15)).add 5))) rfl (V_fieldAddrN (B := el A6 (x3_9.toNat * 15)) (m := 0) (o := 5) Try.underlying76 rfl nz70 rfl rfl) ?_)
        refine RA_step rfl (OA_r rfl (VR_loadA_el (enc := enc76) (i := x3_9) (j := x3_9.toNat * 15) (m := 5) (sz := 15) (vs := [.int .i64 (((rd n8 x3_9).f3).f0), .int .i64 (((rd n8 x3_9).f3).f1), .bool (((rd n8 x3_9).f3).f2), .bool (((rd n8 x3_9).f3).f3), .bool (((rd n8 x3_9).f3).f4), .bool (((rd n8 x3_9).f3).f5), .bool (((rd n8 x3_9).f3).f6), .bool (((rd n8 x3_9).f3).f7), .bool (((rd n8 x3_9).f3).f8), .bool (((rd n8 x3_9).f3).f9)]) Try.underlying70 rfl sz70 rfl rfl rfl (Src.buf (k := 1) rfl) g4287 g4288 (fun _ _ h => h) rfl) ?_)
        obtain ⟨r4289, C4296, H⟩ := g_bind H
        refine RA_step rfl (OA_callA [] [0, 1] rfl (X_fn (vs := [.agg #[.int .i64 (((rd n8 x3_9).f3).f0), .int .i64 (((rd n8 x3_9).f3).f1), .bool (((rd n8 x3_9).f3).f2), .bool (((rd n8 x3_9).f3).f3), .bool (((rd n8 x3_9).f3).f4), .bool (((rd n8 x3_9).f3).f5), .bool (((rd n8 x3_9).f3).f6), .bool (((rd n8 x3_9).f3).f7), .bool (((rd n8 x3_9).f3).f8), .bool (((rd n8 x3_9).f3).f9)]]) Try.func70 nm70 rfl rfl) rfl (F70.ok (a0 := ((rd n8 x3_9).f3)) C4296) rfl ?_)
        rintro _ _ ⟨rfl, rfl⟩
        obtain ⟨⟨g4290, g4291⟩, H⟩ := g_pos H
        have g4292 : 0 ≤ o0 + x3_9 := by omega
        have g4293 : o0 + x3_9 < (zm1_0_9.length : Int) := by omega
        refine RA_step rfl (OA_r rfl (VR_indexW (l := o0) (m := n0) (i := x3_9) (sz := 15) hw0 Try.underlying65 sz76 rfl rfl (Src.buf (k := 0) rfl) g4290 g4291 (by omega)) ?_)
        obtain ⟨n4294, hn4294, H⟩ := g_lt H
        have hl_n4294 : n4294.length = zm1_0_9.length := by rw [hn4294]; exact List.length_set
        refine RA_step rfl (OA_stEl (k := 0) (i := o0 + x3_9) (j := (o0 + x3_9).toNat * 15) (m := 0) (sz := 15) (xs := zm1_0_9) (vs := (.int .i32 r4289.f0 :: .int .i32 r4289.f1.f0 :: .int .i32 r4289.f1.f1 :: .int .i32 r4289.f1.f2 :: .int .u8 r4289.f2 :: .int .i64 r4289.f3.f0 :: .int .i64 r4289.f3.f1 :: .bool r4289.f3.f2 :: .bool r4289.f3.f3 :: .bool r4289.f3.f4 :: .bool r4289.f3.f5 :: .bool r4289.f3.f6 :: .bool r4289.f3.f7 :: .bool r4289.f3.f8 :: .bool r4289.f3.f9 :: [])) r4289 rfl rfl rfl rfl rfl rfl rfl rfl sz76 g4292 g4293 rfl (fun _ _ h_ => by subst h_; rfl) ?_)
        rewrite [← hn4294]
        try rewrite [← hl_n4294]
        refine RA_nil ?_
        refine inb_normal ?_
        refine at_normal ?_
        refine SA_region ?_
        refine RA_step rfl (OA_v (v := .int .i64 x3_9) rfl (V_move rfl) ?_)
        refine RA_step rfl (OA_v (v := .int .i64 (IntKind.i64.wrap (x3_9 + 1))) rfl (V_add rfl rfl) ?_)
        obtain ⟨n4295, hn4295, H⟩ := g_lt H
        refine RA_step rfl (OA_v (v := .int .i64 n4295) rfl (V_assign (v := .int .i64 n4295) (congrArg (Value.int .i64) hn4295.symm)) ?_)
        refine RA_nil ?_
        exact at_normal ⟨k10, Nat.lt_succ_self _, _, _, H, St.mk1 (aeq rfl (aeq rfl (aeq rfl aeq0))) (Gh.sel [0, 1] rfl rfl)⟩
      replace H := g_iff h4286 H
      refine SA_condFb rfl h4286 ?_
      refine SA_skip ?_
      refine inb_normal ?_
      refine at_normal ?_
      refine SA_region ?_
      refine RA_step rfl (OA_v (v := .int .i64 x3_9) rfl (V_move rfl) ?_)
      refine RA_step rfl (OA_v (v := .int .i64 (IntKind.i64.wrap (x3_9 + 1))) rfl (V_add rfl rfl) ?_)
      obtain ⟨n4297, hn4297, H⟩ := g_lt H
      refine RA_step rfl (OA_v (v := .int .i64 n4297) rfl (V_assign (v := .int .i64 n4297) (congrArg (Value.int .i64) hn4297.symm)) ?_)
      refine RA_nil ?_
      exact at_normal ⟨k10, Nat.lt_succ_self _, _, _, H, St.mk1 (aeq rfl (aeq rfl (aeq rfl aeq0))) (Gh.sel [0, 1] rfl rfl)⟩
    replace H := g_iff h12 H
    refine SA_condF rfl h12 ?_
    refine SA_exit ?_
    refine thn_exit ?_
    refine thn_exit ?_
    refine inb_hit ?_
    have hr_ := Option.some.inj H
    subst hr_
    exact at_normal (St.mk1 aeq0 (Gh.sel [0] rfl rfl))
  rintro e ds As hst4299
  clear H
  have H := Bt9
  clear Bt9
  obtain ⟨hl4300, H⟩ := g_pos H
  have hr_ := Option.some.inj H
  subst hr_
  exact BQ_n0s hst4299 [Buf k76 76 A0 c0 t9] rfl (Gh.sel [0] rfl rfl) ⟨rfl, rfl⟩
end Go.Proofs.Ytodkeoibebimgaa.Gr

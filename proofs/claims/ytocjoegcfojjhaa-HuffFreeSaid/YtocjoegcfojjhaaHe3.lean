/- What functions compute, and that they do: 5. -/
import Derived.Test.YtocjoegcfojjhaaHe0
import Derived.Test.YtocjoegcfojjhaaHe1
import Derived.Test.YtocjoegcfojjhaaHe2
namespace Go.Proofs.Ytocjoegcfojjhaa.He
open Go Go.RowKit Go.Proofs.Ytocjoegcfojjhaa.SL
set_option linter.unusedVariables false
set_option linter.unusedSimpArgs false
attribute [local irreducible] IntKind.wrap minI maxI shrI shlI andI orI xorI andNotI cplI rd sub bytesOf strOf slA
/-! ### function 5: wayfarer/wayfarerlaw04.HuffFree -/
def F5.l1 (r3 : (List S52) × Int) (x9_15 : Int) : Nat → Int → Option (Out (Bool) (Unit))
  | 0, _ => none
  | k + 1, x10_20 => if x10_20 < (r3.1.length : Int) then ((if x9_15 ≠ x10_20 then (if 0 ≤ x9_15 ∧ x9_15 < (r3.1.length : Int) then (if ((rd r3.1 x9_15).f1) > 0 then (if 0 ≤ x9_15 ∧ x9_15 < (r3.1.length : Int) then (if 0 ≤ x10_20 ∧ x10_20 < (r3.1.length : Int) then (if ((rd r3.1 x9_15).f1) ≤ ((rd r3.1 x10_20).f1) then (if 0 ≤ x10_20 ∧ x10_20 < (r3.1.length : Int) then (if 0 ≤ x9_15 ∧ x9_15 < (r3.1.length : Int) then (if 0 ≤ (IntKind.u64.wrap ((rd r3.1 x9_15).f1)) then (if 0 ≤ x9_15 ∧ x9_15 < (r3.1.length : Int) then (some (decide ((andI .u64 ((rd r3.1 x10_20).f0) (IntKind.u64.wrap ((shlI .u64 1 (IntKind.u64.wrap ((rd r3.1 x9_15).f1))) - 1))) = ((rd r3.1 x9_15).f0)))) else none) else none) else none) else none) else (some false)) else none) else none) else (if false = true then (if 0 ≤ x10_20 ∧ x10_20 < (r3.1.length : Int) then (if 0 ≤ x9_15 ∧ x9_15 < (r3.1.length : Int) then (if 0 ≤ (IntKind.u64.wrap ((rd r3.1 x9_15).f1)) then (if 0 ≤ x9_15 ∧ x9_15 < (r3.1.length : Int) then (some (decide ((andI .u64 ((rd r3.1 x10_20).f0) (IntKind.u64.wrap ((shlI .u64 1 (IntKind.u64.wrap ((rd r3.1 x9_15).f1))) - 1))) = ((rd r3.1 x9_15).f0)))) else none) else none) else none) else none) else (some false))) else none) else (if false = true then (if 0 ≤ x9_15 ∧ x9_15 < (r3.1.length : Int) then (if 0 ≤ x10_20 ∧ x10_20 < (r3.1.length : Int) then (if ((rd r3.1 x9_15).f1) ≤ ((rd r3.1 x10_20).f1) then (if 0 ≤ x10_20 ∧ x10_20 < (r3.1.length : Int) then (if 0 ≤ x9_15 ∧ x9_15 < (r3.1.length : Int) then (if 0 ≤ (IntKind.u64.wrap ((rd r3.1 x9_15).f1)) then (if 0 ≤ x9_15 ∧ x9_15 < (r3.1.length : Int) then (some (decide ((andI .u64 ((rd r3.1 x10_20).f0) (IntKind.u64.wrap ((shlI .u64 1 (IntKind.u64.wrap ((rd r3.1 x9_15).f1))) - 1))) = ((rd r3.1 x9_15).f0)))) else none) else none) else none) else none) else (some false)) else none) else none) else (if false = true then (if 0 ≤ x10_20 ∧ x10_20 < (r3.1.length : Int) then (if 0 ≤ x9_15 ∧ x9_15 < (r3.1.length : Int) then (if 0 ≤ (IntKind.u64.wrap ((rd r3.1 x9_15).f1)) then (if 0 ≤ x9_15 ∧ x9_15 < (r3.1.length : Int) then (some (decide ((andI .u64 ((rd r3.1 x10_20).f0) (IntKind.u64.wrap ((shlI .u64 1 (IntKind.u64.wrap ((rd r3.1 x9_15).f1))) - 1))) = ((rd r3.1 x9_15).f0)))) else none) else none) else none) else none) else (some false))) : Option (Bool)).bind (fun t24 => if t24 = true then (some (Out.ret (false))) else (lt (IntKind.i64.wrap (x10_20 + 1)) fun n2795 => F5.l1 r3 x9_15 k n2795))) else (some (Out.go ()))
def F5.l0 (r3 : (List S52) × Int) : Nat → Int → Option (Out (Bool) (Unit))
  | 0, _ => none
  | k + 1, x9_15 => if x9_15 < (r3.1.length : Int) then ((F5.l1 r3 x9_15 k 0 : Option (Out (Bool) (Unit))).bind (fun t19 => Out.el t19 (fun r_ => some (Out.ret r_)) (fun s20 => lt (IntKind.i64.wrap (x9_15 + 1)) fun n2797 => F5.l0 r3 k n2797))) else (some (Out.go ()))
def F5.f (k : Nat) (l0 : (List Int)) (l1 : (List Int)) : Option (Bool) := (F20.f k l0).bind (fun r3 => (F22.f k l0).bind (fun r7 => if r3.2 ≠ 0 then ((F27.f k ).bind (fun r9 => lt (r9 && (decide ((r3.1.length : Int) = 0))) fun q10 => some (q10))) else ((F5.l0 r3 k 0 : Option (Out (Bool) (Unit))).bind (fun t14 => Out.el t14 (fun r_ => some r_) (fun s15 => (F24.f k l0 l1 0).bind (fun r2799 => lt ((decide (r7.2 = 0)) && (decide (r7.1 = 32768))) fun q2800 => lt (q2800 && (decide ((l1.length : Int) ≥ 2))) fun q2803 => (if q2803 = true then (if r2799.2.2 ≠ 0 then (if true = true then (if true = true then (some true) else (if 0 ≤ r2799.1 ∧ r2799.1 < (l0.length : Int) then (some (decide (r2799.2.1 ≠ (rd l0 r2799.1)))) else none)) else (if r2799.1 ≥ (l0.length : Int) then (some true) else (if 0 ≤ r2799.1 ∧ r2799.1 < (l0.length : Int) then (some (decide (r2799.2.1 ≠ (rd l0 r2799.1)))) else none))) else (if r2799.1 < 0 then (if true = true then (some true) else (if 0 ≤ r2799.1 ∧ r2799.1 < (l0.length : Int) then (some (decide (r2799.2.1 ≠ (rd l0 r2799.1)))) else none)) else (if r2799.1 ≥ (l0.length : Int) then (some true) else (if 0 ≤ r2799.1 ∧ r2799.1 < (l0.length : Int) then (some (decide (r2799.2.1 ≠ (rd l0 r2799.1)))) else none)))) else (some false) : Option Bool).bind (fun q2806 => if q2806 = true then (some (false)) else ((F27.f k ).bind (fun r2825 => lt (r2825 && (decide (r7.2 = 0))) fun q2826 => some (q2826))))))))))
set_option maxHeartbeats 2000000 in
set_option maxRecDepth 100000 in
theorem F5.ok {k : Nat} {l0 : (List Int)} {l1 : (List Int)} {A0 : Option Addr} {c0 : Nat} {A1 : Option Addr} {c1 : Nat} {r : Bool} (H : F5.f k l0 l1 = some r) : SCA Try.prog 5 #[.slice A0 l0.length c0, .slice A1 l1.length c1] [Ro (Kd.int .i64) A0 c0 l0, Ro (Kd.int .u8) A1 c1 l1] (fun v B => v = .bool r ∧ B = []) := by
  refine SCA_of_body Try.func5 rfl rfl ?_
  unfold F5.f at H
  refine SA_seq ?_
  refine SA_region ?_
  refine RA_step rfl (OA_v (v := .bool false) rfl (V_assign rfl) ?_)
  refine RA_nil ?_
  refine at_normal ?_
  refine SA_seq ?_
  refine SA_region ?_
  refine RA_step rfl (OA_v (v := .slice A0 l0.length c0) rfl (V_move rfl) ?_)
  obtain ⟨r3, C2832, H⟩ := g_bind H
  refine RA_step rfl (OA_callA [0] [0, 1] rfl (X_fn (vs := [.slice A0 l0.length c0]) Try.func20 nm20 rfl rfl) rfl (F20.ok (l0 := l0) (A0 := A0) (c0 := c0) C2832) rfl ?_)
  rintro _ _ ⟨A4, c5, rfl, rfl⟩
  refine RA_step rfl (OA_v (v := .tuple #[.slice A4 r3.1.length c5, .int .i64 r3.2]) rfl (V_move rfl) ?_)
  refine RA_step rfl (OA_v (v := .slice A4 r3.1.length c5) rfl (V_extract rfl rfl) ?_)
  refine RA_step rfl (OA_v (v := .int .i64 r3.2) rfl (V_extract rfl rfl) ?_)
  refine RA_step rfl (OA_v (v := .slice A4 r3.1.length c5) rfl (V_assign rfl) ?_)
  refine RA_step rfl (OA_v (v := .int .i64 r3.2) rfl (V_assign rfl) ?_)
  refine RA_nil ?_
  refine at_normal ?_
  refine SA_seq ?_
  refine SA_region ?_
  refine RA_step rfl (OA_v (v := .slice A0 l0.length c0) rfl (V_move rfl) ?_)
  obtain ⟨r7, C2831, H⟩ := g_bind H
  refine RA_step rfl (OA_callA [1] [0, 1, 2] rfl (X_fn (vs := [.slice A0 l0.length c0]) Try.func22 nm22 rfl rfl) rfl (F22.ok (l0 := l0) (A0 := A0) (c0 := c0) C2831) rfl ?_)
  rintro _ _ ⟨rfl, rfl⟩
  refine RA_step rfl (OA_v (v := .tuple #[.int .i64 r7.1, .int .i64 r7.2]) rfl (V_move rfl) ?_)
  refine RA_step rfl (OA_v (v := .int .i64 r7.1) rfl (V_extract rfl rfl) ?_)
  refine RA_step rfl (OA_v (v := .int .i64 r7.2) rfl (V_extract rfl rfl) ?_)
  refine RA_step rfl (OA_v (v := .int .i64 r7.1) rfl (V_assign rfl) ?_)
  refine RA_step rfl (OA_v (v := .int .i64 r7.2) rfl (V_assign rfl) ?_)
  refine RA_nil ?_
  refine at_normal ?_
  refine SA_seq ?_
  refine SA_seq ?_
  refine SA_region ?_
  refine RA_step rfl (OA_v (v := .int .i64 r3.2) rfl (V_move rfl) ?_)
  refine RA_step rfl (OA_v (v := .bool (decide (r3.2 ≠ 0))) rfl (V_neq rfl rfl) ?_)
  refine RA_nil ?_
  refine at_normal ?_
  by_cases h8 : r3.2 ≠ 0
  · replace H := g_ift h8 H
    refine SA_condT rfl h8 ?_
    refine SA_seq ?_
    refine SA_region ?_
    obtain ⟨r9, C13, H⟩ := g_bind H
    refine RA_step rfl (OA_callA [] [0, 1, 2] rfl (X_fn (vs := []) Try.func27 nm27 rfl rfl) rfl (F27.ok C13) rfl ?_)
    rintro _ _ ⟨rfl, rfl⟩
    refine RA_step rfl (OA_v (v := .bool r9) rfl (V_move rfl) ?_)
    obtain ⟨q10, hq10, H⟩ := g_lt H
    refine RA_cut 4 (fun e ds As => St [(31, .bool q10)] [] e ds As) ?_ ?_
    · by_cases h11 : r9 = true
      · refine RA_yesB rfl rfl rfl rfl (h11) (OA_v (v := .slice A4 r3.1.length c5) rfl (V_move rfl) ?_)
        refine RA_yesB rfl rfl rfl rfl (h11) (OA_v (v := .int .i64 (r3.1.length : Int)) rfl (V_len Try.underlying35 rfl) ?_)
        refine RA_yesB rfl rfl rfl rfl (h11) (OA_v (v := .bool (decide ((r3.1.length : Int) = 0))) rfl (V_eql rfl rfl) ?_)
        refine RA_step rfl (OA_v rfl (V_pickT rfl (h11) rfl) ?_)
        refine RA_nil ?_
        exact at_normal (St.mk1 (aeq (congrArg Value.bool (and_t hq10 (h11))) aeq0) (Gh.sel [] rfl rfl))
      · refine RA_noB rfl rfl rfl rfl (bno h11) rfl ?_
        refine RA_noB rfl rfl rfl rfl (bno h11) rfl ?_
        refine RA_noB rfl rfl rfl rfl (bno h11) rfl ?_
        refine RA_step rfl (OA_v rfl (V_pickF rfl (bno h11) rfl) ?_)
        refine RA_nil ?_
        exact at_normal (St.mk1 (aeq (congrArg Value.bool (and_f hq10 (bno h11))) aeq0) (Gh.sel [] rfl rfl))
    · rintro e ds As hst12
      refine RA.of_St rfl hst12 fun junk => ?_
      refine RA_step rfl (OA_v (v := .bool q10) rfl (V_assign rfl) ?_)
      refine RA_nil ?_
      refine at_normal ?_
      refine SA_ret ?_
      refine thn_ret ?_
      have hr_ := Option.some.inj H
      subst hr_
      exact BQ_R1 [] rfl rfl (Gh.sel [] rfl rfl) ⟨rfl, rfl⟩
  · replace H := g_iff h8 H
    refine SA_condF rfl h8 ?_
    refine SA_skip ?_
    refine at_normal ?_
    refine SA_seq ?_
    refine SA_seq ?_
    refine SA_region ?_
    refine RA_step rfl (OA_v (v := .int .i64 0) rfl (V_assign rfl) ?_)
    refine RA_nil ?_
    refine at_normal ?_
    obtain ⟨t14, H, Bt14⟩ := g_bind H
    refine SA_mid (fun e ds As => ∃ (s15 : Unit), t14 = Out.go s15 ∧ St [(0, .slice A0 l0.length c0), (1, .slice A1 l1.length c1), (7, .int .i64 r7.1), (8, .int .i64 r7.2)] [Ro (Kd.int .i64) A0 c0 l0, Ro (Kd.int .u8) A1 c1 l1] e ds As) ?_ ?_
    · refine SA_block ?_
      refine SA_loop (fun k_ e ds As => ∃ (x9_15 : Int), F5.l0 r3 k_ x9_15 = some t14 ∧ St [(0, .slice A0 l0.length c0), (1, .slice A1 l1.length c1), (5, .slice A4 r3.1.length c5), (7, .int .i64 r7.1), (8, .int .i64 r7.2), (9, .int .i64 x9_15)] [Ro (Kd.int .i64) A0 c0 l0, Ro (Kd.int .u8) A1 c1 l1, Buf k52 52 A4 c5 r3.1] e ds As) (k := k) ⟨_, H, St.mk1 (aeq rfl (aeq rfl (aeq rfl (aeq rfl (aeq rfl (aeq rfl aeq0)))))) (Gh.sel [1, 2, 0] rfl rfl)⟩ ?_
      clear H
      rintro k16 e ds As ⟨x9_15, H, hst17⟩
      obtain _ | k16 := k16
      · cases H
      rw [F5.l0] at H
      refine SA.of_St hst17 fun junk => ?_
      refine SA_seq ?_
      refine SA_seq ?_
      refine SA_region ?_
      refine RA_step rfl (OA_v (v := .int .i64 x9_15) rfl (V_move rfl) ?_)
      refine RA_step rfl (OA_v (v := .slice A4 r3.1.length c5) rfl (V_move rfl) ?_)
      refine RA_step rfl (OA_v (v := .int .i64 (r3.1.length : Int)) rfl (V_len Try.underlying35 rfl) ?_)
      refine RA_step rfl (OA_v (v := .bool (decide (x9_15 < (r3.1.length : Int)))) rfl (V_lss rfl rfl) ?_)
      refine RA_nil ?_
      refine at_normal ?_
      by_cases h18 : x9_15 < (r3.1.length : Int)
      · replace H := g_ift h18 H
        refine SA_condT rfl h18 ?_
        refine SA_skip ?_
        refine at_normal ?_
        refine SA_seq ?_
        refine SA_block ?_
        refine SA_seq ?_
        refine SA_region ?_
        refine RA_step rfl (OA_v (v := .int .i64 0) rfl (V_assign rfl) ?_)
        refine RA_nil ?_
        refine at_normal ?_
        obtain ⟨t19, H, Bt19⟩ := g_bind H
        refine SA_mid (fun e ds As => ∃ (s20 : Unit), t19 = Out.go s20 ∧ St [(0, .slice A0 l0.length c0), (1, .slice A1 l1.length c1), (5, .slice A4 r3.1.length c5), (7, .int .i64 r7.1), (8, .int .i64 r7.2), (9, .int .i64 x9_15)] [Ro (Kd.int .i64) A0 c0 l0, Ro (Kd.int .u8) A1 c1 l1, Buf k52 52 A4 c5 r3.1] e ds As) ?_ ?_
        · refine SA_block ?_
          refine SA_loop (fun k_ e ds As => ∃ (x10_20 : Int), F5.l1 r3 x9_15 k_ x10_20 = some t19 ∧ St [(0, .slice A0 l0.length c0), (1, .slice A1 l1.length c1), (5, .slice A4 r3.1.length c5), (7, .int .i64 r7.1), (8, .int .i64 r7.2), (9, .int .i64 x9_15), (10, .int .i64 x10_20)] [Ro (Kd.int .i64) A0 c0 l0, Ro (Kd.int .u8) A1 c1 l1, Buf k52 52 A4 c5 r3.1] e ds As) (k := k16) ⟨_, H, St.mk1 (aeq rfl (aeq rfl (aeq rfl (aeq rfl (aeq rfl (aeq rfl (aeq rfl aeq0))))))) (Gh.sel [0, 1, 2] rfl rfl)⟩ ?_
          clear H
          rintro k21 e ds As ⟨x10_20, H, hst22⟩
          obtain _ | k21 := k21
          · cases H
          rw [F5.l1] at H
          refine SA.of_St hst22 fun junk => ?_
          refine SA_seq ?_
          refine SA_seq ?_
          refine SA_region ?_
          refine RA_step rfl (OA_v (v := .int .i64 x10_20) rfl (V_move rfl) ?_)
          refine RA_step rfl (OA_v (v := .slice A4 r3.1.length c5) rfl (V_move rfl) ?_)
          refine RA_step rfl (OA_v (v := .int .i64 (r3.1.length : Int)) rfl (V_len Try.underlying35 rfl) ?_)
          refine RA_step rfl (OA_v (v := .bool (decide (x10_20 < (r3.1.length : Int)))) rfl (V_lss rfl rfl) ?_)
          refine RA_nil ?_
          refine at_normal ?_
          by_cases h23 : x10_20 < (r3.1.length : Int)
          · replace H := g_ift h23 H
            refine SA_condT rfl h23 ?_
            refine SA_skip ?_
            refine at_normal ?_
            refine SA_seq ?_
            refine SA_block ?_
            refine SA_seq ?_
            obtain ⟨t24, H, Bt24⟩ := g_bind H
            refine SA_mid (fun e ds As => St [(0, .slice A0 l0.length c0), (1, .slice A1 l1.length c1), (5, .slice A4 r3.1.length c5), (7, .int .i64 r7.1), (8, .int .i64 r7.2), (9, .int .i64 x9_15), (10, .int .i64 x10_20), (89, .bool t24)] [Ro (Kd.int .i64) A0 c0 l0, Ro (Kd.int .u8) A1 c1 l1, Buf k52 52 A4 c5 r3.1] e ds As) ?_ ?_
            · refine SA_drawH (0 :: 1 :: 2 :: 3 :: 4 :: 5 :: 6 :: 7 :: 8 :: 9 :: 10 :: 11 :: 12 :: 13 :: 14 :: 15 :: 16 :: 17 :: 18 :: 19 :: 20 :: 21 :: 22 :: 23 :: 24 :: 25 :: 26 :: 27 :: 28 :: 29 :: 30 :: 31 :: 32 :: 33 :: 34 :: 35 :: 36 :: 37 :: 38 :: 39 :: 40 :: 41 :: 42 :: 43 :: 44 :: 45 :: []) (List.toArray ([] :: [] :: [0, 1] :: [0, 1, 2] :: [0, 1, 2, 3] :: [0, 1, 2, 3] :: [0, 1, 2, 3, 4, 5] :: [0, 1, 2, 3, 4, 5, 6] :: [0, 1, 2, 3, 4, 5, 6, 7] :: [0, 1, 2, 3, 4, 5, 6, 7, 8] :: [0, 1, 2, 3, 4, 5, 6, 7, 8, 9] :: [0, 1, 2, 3, 4, 5, 6, 7, 8, 9, 10] :: [0, 1, 2, 3, 4, 5, 6, 7, 8, 9, 10, 11] :: [0, 1, 2, 3, 4, 5, 6, 7, 8, 9, 10, 11] :: (0 :: 1 :: 2 :: 3 :: 4 :: 5 :: 6 :: 7 :: 8 :: 9 :: 10 :: 11 :: 12 :: 13 :: []) :: (0 :: 1 :: 2 :: 3 :: 4 :: 5 :: 6 :: 7 :: 8 :: 9 :: 10 :: 11 :: 12 :: 13 :: 14 :: []) :: (0 :: 1 :: 2 :: 3 :: 4 :: 5 :: 6 :: 7 :: 8 :: 9 :: 10 :: 11 :: 12 :: 13 :: 14 :: 15 :: []) :: [0, 1, 2, 3, 4, 5, 6, 7, 8, 9, 10, 11] :: [0, 1, 2, 3, 4, 5, 6, 7, 8, 9, 10, 11] :: (0 :: 1 :: 2 :: 3 :: 4 :: 5 :: 6 :: 7 :: 8 :: 9 :: 10 :: 11 :: 17 :: 18 :: []) :: (0 :: 1 :: 2 :: 3 :: 4 :: 5 :: 6 :: 7 :: 8 :: 9 :: 10 :: 11 :: 17 :: 18 :: 19 :: []) :: (0 :: 1 :: 2 :: 3 :: 4 :: 5 :: 6 :: 7 :: 8 :: 9 :: 10 :: 11 :: 17 :: 18 :: 19 :: 20 :: []) :: (0 :: 1 :: 2 :: 3 :: 4 :: 5 :: 6 :: 7 :: 8 :: 9 :: 10 :: 11 :: 12 :: 13 :: 14 :: 15 :: 16 :: 17 :: 18 :: 19 :: 20 :: 21 :: []) :: (0 :: 1 :: 2 :: 3 :: 4 :: 5 :: 6 :: 7 :: 8 :: 9 :: 10 :: 11 :: 12 :: 13 :: 14 :: 15 :: 16 :: 17 :: 18 :: 19 :: 20 :: 21 :: 22 :: []) :: (0 :: 1 :: 2 :: 3 :: 4 :: 5 :: 6 :: 7 :: 8 :: 9 :: 10 :: 11 :: 12 :: 13 :: 14 :: 15 :: 16 :: 17 :: 18 :: 19 :: 20 :: 21 :: 22 :: 23 :: []) :: (0 :: 1 :: 2 :: 3 :: 4 :: 5 :: 6 :: 7 :: 8 :: 9 :: 10 :: 11 :: 12 :: 13 :: 14 :: 15 :: 16 :: 17 :: 18 :: 19 :: 20 :: 21 :: 22 :: 23 :: 24 :: []) :: (0 :: 1 :: 2 :: 3 :: 4 :: 5 :: 6 :: 7 :: 8 :: 9 :: 10 :: 11 :: 12 :: 13 :: 14 :: 15 :: 16 :: 17 :: 18 :: 19 :: 20 :: 21 :: 22 :: 23 :: 24 :: []) :: (0 :: 1 :: 2 :: 3 :: 4 :: 5 :: 6 :: 7 :: 8 :: 9 :: 10 :: 11 :: 12 :: 13 :: 14 :: 15 :: 16 :: 17 :: 18 :: 19 :: 20 :: 21 :: 22 :: 23 :: 24 :: 25 :: 26 :: []) :: (0 :: 1 :: 2 :: 3 :: 4 :: 5 :: 6 :: 7 :: 8 :: 9 :: 10 :: 11 :: 12 :: 13 :: 14 :: 15 :: 16 :: 17 :: 18 :: 19 :: 20 :: 21 :: 22 :: 23 :: 24 :: 25 :: 26 :: 27 :: []) :: (0 :: 1 :: 2 :: 3 :: 4 :: 5 :: 6 :: 7 :: 8 :: 9 :: 10 :: 11 :: 12 :: 13 :: 14 :: 15 :: 16 :: 17 :: 18 :: 19 :: 20 :: 21 :: 22 :: 23 :: 24 :: 25 :: 26 :: 27 :: 28 :: []) :: (0 :: 1 :: 2 :: 3 :: 4 :: 5 :: 6 :: 7 :: 8 :: 9 :: 10 :: 11 :: 12 :: 13 :: 14 :: 15 :: 16 :: 17 :: 18 :: 19 :: 20 :: 21 :: 22 :: 23 :: 24 :: []) :: (0 :: 1 :: 2 :: 3 :: 4 :: 5 :: 6 :: 7 :: 8 :: 9 :: 10 :: 11 :: 12 :: 13 :: 14 :: 15 :: 16 :: 17 :: 18 :: 19 :: 20 :: 21 :: 22 :: 23 :: 24 :: []) :: (0 :: 1 :: 2 :: 3 :: 4 :: 5 :: 6 :: 7 :: 8 :: 9 :: 10 :: 11 :: 12 :: 13 :: 14 :: 15 :: 16 :: 17 :: 18 :: 19 :: 20 :: 21 :: 22 :: 23 :: 24 :: 30 :: 31 :: []) :: (0 :: 1 :: 2 :: 3 :: 4 :: 5 :: 6 :: 7 :: 8 :: 9 :: 10 :: 11 :: 12 :: 13 :: 14 :: 15 :: 16 :: 17 :: 18 :: 19 :: 20 :: 21 :: 22 :: 23 :: 24 :: 30 :: 31 :: 32 :: []) :: (0 :: 1 :: 2 :: 3 :: 4 :: 5 :: 6 :: 7 :: 8 :: 9 :: 10 :: 11 :: 12 :: 13 :: 14 :: 15 :: 16 :: 17 :: 18 :: 19 :: 20 :: 21 :: 22 :: 23 :: 24 :: 30 :: 31 :: 32 :: 33 :: []) :: (0 :: 1 :: 2 :: 3 :: 4 :: 5 :: 6 :: 7 :: 8 :: 9 :: 10 :: 11 :: 12 :: 13 :: 14 :: 15 :: 16 :: 17 :: 18 :: 19 :: 20 :: 21 :: 22 :: 23 :: 24 :: 30 :: 31 :: 32 :: 33 :: 34 :: []) :: (0 :: 1 :: 2 :: 3 :: 4 :: 5 :: 6 :: 7 :: 8 :: 9 :: 10 :: 11 :: 12 :: 13 :: 14 :: 15 :: 16 :: 17 :: 18 :: 19 :: 20 :: 21 :: 22 :: 23 :: 24 :: 30 :: 31 :: 32 :: 33 :: 34 :: 35 :: []) :: (0 :: 1 :: 2 :: 3 :: 4 :: 5 :: 6 :: 7 :: 8 :: 9 :: 10 :: 11 :: 12 :: 13 :: 14 :: 15 :: 16 :: 17 :: 18 :: 19 :: 20 :: 21 :: 22 :: 23 :: 24 :: 30 :: 31 :: 32 :: 33 :: 34 :: 35 :: 36 :: []) :: (0 :: 1 :: 2 :: 3 :: 4 :: 5 :: 6 :: 7 :: 8 :: 9 :: 10 :: 11 :: 12 :: 13 :: 14 :: 15 :: 16 :: 17 :: 18 :: 19 :: 20 :: 21 :: 22 :: 23 :: 24 :: 25 :: 26 :: 27 :: 28 :: 29 :: 30 :: 31 :: 32 :: 33 :: 34 :: 35 :: 36 :: 37 :: []) :: (0 :: 1 :: 2 :: 3 :: 4 :: 5 :: 6 :: 7 :: 8 :: 9 :: 10 :: 11 :: 12 :: 13 :: 14 :: 15 :: 16 :: 17 :: 18 :: 19 :: 20 :: 21 :: 22 :: 23 :: 24 :: []) :: (0 :: 1 :: 2 :: 3 :: 4 :: 5 :: 6 :: 7 :: 8 :: 9 :: 10 :: 11 :: 12 :: 13 :: 14 :: 15 :: 16 :: 17 :: 18 :: 19 :: 20 :: 21 :: 22 :: 23 :: 24 :: []) :: (0 :: 1 :: 2 :: 3 :: 4 :: 5 :: 6 :: 7 :: 8 :: 9 :: 10 :: 11 :: 12 :: 13 :: 14 :: 15 :: 16 :: 17 :: 18 :: 19 :: 20 :: 21 :: 22 :: 23 :: 24 :: 39 :: 40 :: []) :: (0 :: 1 :: 2 :: 3 :: 4 :: 5 :: 6 :: 7 :: 8 :: 9 :: 10 :: 11 :: 12 :: 13 :: 14 :: 15 :: 16 :: 17 :: 18 :: 19 :: 20 :: 21 :: 22 :: 23 :: 24 :: 39 :: 40 :: 41 :: []) :: (0 :: 1 :: 2 :: 3 :: 4 :: 5 :: 6 :: 7 :: 8 :: 9 :: 10 :: 11 :: 12 :: 13 :: 14 :: 15 :: 16 :: 17 :: 18 :: 19 :: 20 :: 21 :: 22 :: 23 :: 24 :: 39 :: 40 :: 41 :: 42 :: []) :: (0 :: 1 :: 2 :: 3 :: 4 :: 5 :: 6 :: 7 :: 8 :: 9 :: 10 :: 11 :: 12 :: 13 :: 14 :: 15 :: 16 :: 17 :: 18 :: 19 :: 20 :: 21 :: 22 :: 23 :: 24 :: 25 :: 26 :: 27 :: 28 :: 29 :: 30 :: 31 :: 32 :: 33 :: 34 :: 35 :: 36 :: 37 :: 38 :: 39 :: 40 :: 41 :: 42 :: 43 :: []) :: (0 :: 1 :: 2 :: 3 :: 4 :: 5 :: 6 :: 7 :: 8 :: 9 :: 10 :: 11 :: 12 :: 13 :: 14 :: 15 :: 16 :: 17 :: 18 :: 19 :: 20 :: 21 :: 22 :: 23 :: 24 :: 25 :: 26 :: 27 :: 28 :: 29 :: 30 :: 31 :: 32 :: 33 :: 34 :: 35 :: 36 :: 37 :: 38 :: 39 :: 40 :: 41 :: 42 :: 43 :: 44 :: []) :: [])) [0, 1, 2] [0, 1] mixed rfl rfl rfl fun I0 hS h0 hh0 w0 sH dd => ?_
              refine DH_take (v := .int .i64 x9_15) 0 (by kernel_rfl) rfl rfl (.no rfl) (PanOk.thn (PanOk.thn (PanOk.inb (PanOk.thn (PanOk.thn (PanOk.inb (PanOk.thn (PanOk.inb (PanOk.thn (PanOk.thn (PanOk.inb (PanOk.thn (PanOk.thn PanOk.body))))))))))))) sH rfl (VR.ofV (V_move rfl)) ?_
              refine DH_take (v := .int .i64 x10_20) 1 (by kernel_rfl) rfl rfl (.no rfl) (PanOk.thn (PanOk.thn (PanOk.inb (PanOk.thn (PanOk.thn (PanOk.inb (PanOk.thn (PanOk.inb (PanOk.thn (PanOk.thn (PanOk.inb (PanOk.thn (PanOk.thn PanOk.body))))))))))))) sH rfl (VR.ofV (V_move rfl)) ?_
              refine DH_take (v := .bool (decide (x9_15 ≠ x10_20))) 2 (by kernel_rfl) rfl rfl (.no rfl) (PanOk.thn (PanOk.thn (PanOk.inb (PanOk.thn (PanOk.thn (PanOk.inb (PanOk.thn (PanOk.inb (PanOk.thn (PanOk.thn (PanOk.inb (PanOk.thn (PanOk.thn PanOk.body))))))))))))) sH rfl (VR.ofV (V_neq rfl rfl)) ?_
              refine DH_take (v := .bool (decide (x9_15 ≠ x10_20))) 3 (by kernel_rfl) rfl rfl (.no rfl) (PanOk.thn (PanOk.thn (PanOk.inb (PanOk.thn (PanOk.thn (PanOk.inb (PanOk.thn (PanOk.inb (PanOk.thn (PanOk.thn (PanOk.inb (PanOk.thn (PanOk.thn PanOk.body))))))))))))) sH rfl (VR.ofV (V_move rfl)) ?_
              by_cases h2786 : x9_15 ≠ x10_20
              · replace H := g_ift h2786 H
                refine DH_take (v := .slice A4 r3.1.length c5) 4 (by kernel_rfl) rfl rfl (.yes rfl rfl rfl rfl (dec_t h2786)) (PanOk.thn (PanOk.thn (PanOk.inb (PanOk.thn (PanOk.thn (PanOk.inb (PanOk.thn (PanOk.inb (PanOk.thn (PanOk.thn (PanOk.inb (PanOk.thn (PanOk.thn PanOk.body))))))))))))) sH rfl (VR.ofV (V_move rfl)) ?_
                refine DH_take (v := .int .i64 x9_15) 5 (by kernel_rfl) rfl rfl (.yes rfl rfl rfl rfl (dec_t h2786)) (PanOk.thn (PanOk.thn (PanOk.inb (PanOk.thn (PanOk.thn (PanOk.inb (PanOk.thn (PanOk.inb (PanOk.thn (PanOk.thn (PanOk.inb (PanOk.thn (PanOk.thn PanOk.body))))))))))))) sH rfl (VR.ofV (V_move rfl)) ?_
                obtain ⟨⟨g385, g386⟩, H⟩ := g_pos H
                refine DH_take 6 (by kernel_rfl) rfl rfl (.yes rfl rfl rfl rfl (dec_t h2786)) (PanOk.thn (PanOk.thn (PanOk.inb (PanOk.thn (PanOk.thn (PanOk.inb (PanOk.thn (PanOk.inb (PanOk.thn (PanOk.thn (PanOk.inb (PanOk.thn (PanOk.thn PanOk.body))))))))))))) sH rfl (VR_index (i := x9_15) Try.underlying35 sz52 rfl rfl (Src.buf (k := 2) rfl) g385 g386) ?_
                refine DH_take (v := .pointer (some ((el A4 (x9_15.toNat * 2)).add 1))) 7 (by kernel_rfl) rfl rfl (.yes rfl rfl rfl rfl (dec_t h2786)) (PanOk.thn (PanOk.thn (PanOk.inb (PanOk.thn (PanOk.thn (PanOk.inb (PanOk.thn (PanOk.inb (PanOk.thn (PanOk.thn (PanOk.inb (PanOk.thn (PanOk.thn PanOk.body))))))))))))) sH rfl (VR.ofV (V_fieldAddrN (B := el A4 (x9_15.toNat * 2)) (m := 0) (o := 1) Try.underlying52 rfl nz3 rfl rfl)) ?_
                refine DH_take 8 (by kernel_rfl) rfl rfl (.yes rfl rfl rfl rfl (dec_t h2786)) (PanOk.thn (PanOk.thn (PanOk.inb (PanOk.thn (PanOk.thn (PanOk.inb (PanOk.thn (PanOk.inb (PanOk.thn (PanOk.thn (PanOk.inb (PanOk.thn (PanOk.thn PanOk.body))))))))))))) sH rfl (VR_load_el (enc := enc52) (i := x9_15) (j := x9_15.toNat * 2) (m := 1) (sz := 2) Try.underlying3 rfl rfl rfl rfl (Src.buf (k := 2) rfl) g385 g386 (fun _ _ h => h) rfl) ?_
                refine DH_take (v := .bool (decide (((rd r3.1 x9_15).f1) > 0))) 9 (by kernel_rfl) rfl rfl (.yes rfl rfl rfl rfl (dec_t h2786)) (PanOk.thn (PanOk.thn (PanOk.inb (PanOk.thn (PanOk.thn (PanOk.inb (PanOk.thn (PanOk.inb (PanOk.thn (PanOk.thn (PanOk.inb (PanOk.thn (PanOk.thn PanOk.body))))))))))))) sH rfl (VR.ofV (V_gtr rfl rfl)) ?_
                refine DH_take 10 (by kernel_rfl) rfl rfl (.no rfl) (PanOk.thn (PanOk.thn (PanOk.inb (PanOk.thn (PanOk.thn (PanOk.inb (PanOk.thn (PanOk.inb (PanOk.thn (PanOk.thn (PanOk.inb (PanOk.thn (PanOk.thn PanOk.body))))))))))))) sH rfl (VR.ofV (V_pickT rfl (dec_t h2786) rfl)) ?_
                refine DH_take (v := .bool (decide (((rd r3.1 x9_15).f1) > 0))) 11 (by kernel_rfl) rfl rfl (.no rfl) (PanOk.thn (PanOk.thn (PanOk.inb (PanOk.thn (PanOk.thn (PanOk.inb (PanOk.thn (PanOk.inb (PanOk.thn (PanOk.thn (PanOk.inb (PanOk.thn (PanOk.thn PanOk.body))))))))))))) sH rfl (VR.ofV (V_move rfl)) ?_
                by_cases h2787 : ((rd r3.1 x9_15).f1) > 0
                · replace H := g_ift h2787 H
                  refine DH_take (v := .slice A4 r3.1.length c5) 12 (by kernel_rfl) rfl rfl (.yes rfl rfl rfl rfl (dec_t h2787)) (PanOk.thn (PanOk.thn (PanOk.inb (PanOk.thn (PanOk.thn (PanOk.inb (PanOk.thn (PanOk.inb (PanOk.thn (PanOk.thn (PanOk.inb (PanOk.thn (PanOk.thn PanOk.body))))))))))))) sH rfl (VR.ofV (V_move rfl)) ?_
                  refine DH_take (v := .int .i64 x9_15) 13 (by kernel_rfl) rfl rfl (.yes rfl rfl rfl rfl (dec_t h2787)) (PanOk.thn (PanOk.thn (PanOk.inb (PanOk.thn (PanOk.thn (PanOk.inb (PanOk.thn (PanOk.inb (PanOk.thn (PanOk.thn (PanOk.inb (PanOk.thn (PanOk.thn PanOk.body))))))))))))) sH rfl (VR.ofV (V_move rfl)) ?_
                  obtain ⟨⟨g865, g866⟩, H⟩ := g_pos H
                  refine DH_take 14 (by kernel_rfl) rfl rfl (.yes rfl rfl rfl rfl (dec_t h2787)) (PanOk.thn (PanOk.thn (PanOk.inb (PanOk.thn (PanOk.thn (PanOk.inb (PanOk.thn (PanOk.inb (PanOk.thn (PanOk.thn (PanOk.inb (PanOk.thn (PanOk.thn PanOk.body))))))))))))) sH rfl (VR_index (i := x9_15) Try.underlying35 sz52 rfl rfl (Src.buf (k := 2) rfl) g865 g866) ?_
                  refine DH_take (v := .pointer (some ((el A4 (x9_15.toNat * 2)).add 1))) 15 (by kernel_rfl) rfl rfl (.yes rfl rfl rfl rfl (dec_t h2787)) (PanOk.thn (PanOk.thn (PanOk.inb (PanOk.thn (PanOk.thn (PanOk.inb (PanOk.thn (PanOk.inb (PanOk.thn (PanOk.thn (PanOk.inb (PanOk.thn (PanOk.thn PanOk.body))))))))))))) sH rfl (VR.ofV (V_fieldAddrN (B := el A4 (x9_15.toNat * 2)) (m := 0) (o := 1) Try.underlying52 rfl nz3 rfl rfl)) ?_
                  refine DH_take 16 (by kernel_rfl) rfl rfl (.yes rfl rfl rfl rfl (dec_t h2787)) (PanOk.thn (PanOk.thn (PanOk.inb (PanOk.thn (PanOk.thn (PanOk.inb (PanOk.thn (PanOk.inb (PanOk.thn (PanOk.thn (PanOk.inb (PanOk.thn (PanOk.thn PanOk.body))))))))))))) sH rfl (VR_load_el (enc := enc52) (i := x9_15) (j := x9_15.toNat * 2) (m := 1) (sz := 2) Try.underlying3 rfl rfl rfl rfl (Src.buf (k := 2) rfl) g865 g866 (fun _ _ h => h) rfl) ?_
                  refine DH_take (v := .slice A4 r3.1.length c5) 17 (by kernel_rfl) rfl rfl (.yes rfl rfl rfl rfl (dec_t h2787)) (PanOk.thn (PanOk.thn (PanOk.inb (PanOk.thn (PanOk.thn (PanOk.inb (PanOk.thn (PanOk.inb (PanOk.thn (PanOk.thn (PanOk.inb (PanOk.thn (PanOk.thn PanOk.body))))))))))))) sH rfl (VR.ofV (V_move rfl)) ?_
                  refine DH_take (v := .int .i64 x10_20) 18 (by kernel_rfl) rfl rfl (.yes rfl rfl rfl rfl (dec_t h2787)) (PanOk.thn (PanOk.thn (PanOk.inb (PanOk.thn (PanOk.thn (PanOk.inb (PanOk.thn (PanOk.inb (PanOk.thn (PanOk.thn (PanOk.inb (PanOk.thn (PanOk.thn PanOk.body))))))))))))) sH rfl (VR.ofV (V_move rfl)) ?_
                  obtain ⟨⟨g1165, g1166⟩, H⟩ := g_pos H
                  refine DH_take 19 (by kernel_rfl) rfl rfl (.yes rfl rfl rfl rfl (dec_t h2787)) (PanOk.thn (PanOk.thn (PanOk.inb (PanOk.thn (PanOk.thn (PanOk.inb (PanOk.thn (PanOk.inb (PanOk.thn (PanOk.thn (PanOk.inb (PanOk.thn (PanOk.thn PanOk.body))))))))))))) sH rfl (VR_index (i := x10_20) Try.underlying35 sz52 rfl rfl (Src.buf (k := 2) rfl) g1165 g1166) ?_
                  refine DH_take (v := .pointer (some ((el A4 (x10_20.toNat * 2)).add 1))) 20 (by kernel_rfl) rfl rfl (.yes rfl rfl rfl rfl (dec_t h2787)) (PanOk.thn (PanOk.thn (PanOk.inb (PanOk.thn (PanOk.thn (PanOk.inb (PanOk.thn (PanOk.inb (PanOk.thn (PanOk.thn (PanOk.inb (PanOk.thn (PanOk.thn PanOk.body))))))))))))) sH rfl (VR.ofV (V_fieldAddrN (B := el A4 (x10_20.toNat * 2)) (m := 0) (o := 1) Try.underlying52 rfl nz3 rfl rfl)) ?_
                  refine DH_take 21 (by kernel_rfl) rfl rfl (.yes rfl rfl rfl rfl (dec_t h2787)) (PanOk.thn (PanOk.thn (PanOk.inb (PanOk.thn (PanOk.thn (PanOk.inb (PanOk.thn (PanOk.inb (PanOk.thn (PanOk.thn (PanOk.inb (PanOk.thn (PanOk.thn PanOk.body))))))))))))) sH rfl (VR_load_el (enc := enc52) (i := x10_20) (j := x10_20.toNat * 2) (m := 1) (sz := 2) Try.underlying3 rfl rfl rfl rfl (Src.buf (k := 2) rfl) g1165 g1166 (fun _ _ h => h) rfl) ?_
                  refine DH_take (v := .bool (decide (((rd r3.1 x9_15).f1) ≤ ((rd r3.1 x10_20).f1)))) 22 (by kernel_rfl) rfl rfl (.yes rfl rfl rfl rfl (dec_t h2787)) (PanOk.thn (PanOk.thn (PanOk.inb (PanOk.thn (PanOk.thn (PanOk.inb (PanOk.thn (PanOk.inb (PanOk.thn (PanOk.thn (PanOk.inb (PanOk.thn (PanOk.thn PanOk.body))))))))))))) sH rfl (VR.ofV (V_leq rfl rfl)) ?_
                  refine DH_take 23 (by kernel_rfl) rfl rfl (.no rfl) (PanOk.thn (PanOk.thn (PanOk.inb (PanOk.thn (PanOk.thn (PanOk.inb (PanOk.thn (PanOk.inb (PanOk.thn (PanOk.thn (PanOk.inb (PanOk.thn (PanOk.thn PanOk.body))))))))))))) sH rfl (VR.ofV (V_pickT rfl (dec_t h2787) rfl)) ?_
                  refine DH_take (v := .bool (decide (((rd r3.1 x9_15).f1) ≤ ((rd r3.1 x10_20).f1)))) 24 (by kernel_rfl) rfl rfl (.no rfl) (PanOk.thn (PanOk.thn (PanOk.inb (PanOk.thn (PanOk.thn (PanOk.inb (PanOk.thn (PanOk.inb (PanOk.thn (PanOk.thn (PanOk.inb (PanOk.thn (PanOk.thn PanOk.body))))))))))))) sH rfl (VR.ofV (V_move rfl)) ?_
                  by_cases h2788 : ((rd r3.1 x9_15).f1) ≤ ((rd r3.1 x10_20).f1)
                  · replace H := g_ift h2788 H
                    refine DH_take (v := .slice A4 r3.1.length c5) 25 (by kernel_rfl) rfl rfl (.yes rfl rfl rfl rfl (dec_t h2788)) (PanOk.thn (PanOk.thn (PanOk.inb (PanOk.thn (PanOk.thn (PanOk.inb (PanOk.thn (PanOk.inb (PanOk.thn (PanOk.thn (PanOk.inb (PanOk.thn (PanOk.thn PanOk.body))))))))))))) sH rfl (VR.ofV (V_move rfl)) ?_
                    refine DH_take (v := .int .i64 x10_20) 26 (by kernel_rfl) rfl rfl (.yes rfl rfl rfl rfl (dec_t h2788)) (PanOk.thn (PanOk.thn (PanOk.inb (PanOk.thn (PanOk.thn (PanOk.inb (PanOk.thn (PanOk.inb (PanOk.thn (PanOk.thn (PanOk.inb (PanOk.thn (PanOk.thn PanOk.body))))))))))))) sH rfl (VR.ofV (V_move rfl)) ?_
                    obtain ⟨⟨g1645, g1646⟩, H⟩ := g_pos H
                    refine DH_take 27 (by kernel_rfl) rfl rfl (.yes rfl rfl rfl rfl (dec_t h2788)) (PanOk.thn (PanOk.thn (PanOk.inb (PanOk.thn (PanOk.thn (PanOk.inb (PanOk.thn (PanOk.inb (PanOk.thn (PanOk.thn (PanOk.inb (PanOk.thn (PanOk.thn PanOk.body))))))))))))) sH rfl (VR_index (i := x10_20) Try.underlying35 sz52 rfl rfl (Src.buf (k := 2) rfl) g1645 g1646) ?_
                    refine DH_take (v := .pointer (some ((el A4 (x10_20.toNat * 2)).add 0))) 28 (by kernel_rfl) rfl rfl (.yes rfl rfl rfl rfl (dec_t h2788)) (PanOk.thn (PanOk.thn (PanOk.inb (PanOk.thn (PanOk.thn (PanOk.inb (PanOk.thn (PanOk.inb (PanOk.thn (PanOk.thn (PanOk.inb (PanOk.thn (PanOk.thn PanOk.body))))))))))))) sH rfl (VR.ofV (V_fieldAddrN (B := el A4 (x10_20.toNat * 2)) (m := 0) (o := 0) Try.underlying52 rfl nz50 rfl rfl)) ?_
                    refine DH_take 29 (by kernel_rfl) rfl rfl (.yes rfl rfl rfl rfl (dec_t h2788)) (PanOk.thn (PanOk.thn (PanOk.inb (PanOk.thn (PanOk.thn (PanOk.inb (PanOk.thn (PanOk.inb (PanOk.thn (PanOk.thn (PanOk.inb (PanOk.thn (PanOk.thn PanOk.body))))))))))))) sH rfl (VR_load_el (enc := enc52) (i := x10_20) (j := x10_20.toNat * 2) (m := 0) (sz := 2) Try.underlying50 rfl rfl rfl rfl (Src.buf (k := 2) rfl) g1645 g1646 (fun _ _ h => h) rfl) ?_
                    refine DH_take (v := .slice A4 r3.1.length c5) 30 (by kernel_rfl) rfl rfl (.yes rfl rfl rfl rfl (dec_t h2788)) (PanOk.thn (PanOk.thn (PanOk.inb (PanOk.thn (PanOk.thn (PanOk.inb (PanOk.thn (PanOk.inb (PanOk.thn (PanOk.thn (PanOk.inb (PanOk.thn (PanOk.thn PanOk.body))))))))))))) sH rfl (VR.ofV (V_move rfl)) ?_
                    refine DH_take (v := .int .i64 x9_15) 31 (by kernel_rfl) rfl rfl (.yes rfl rfl rfl rfl (dec_t h2788)) (PanOk.thn (PanOk.thn (PanOk.inb (PanOk.thn (PanOk.thn (PanOk.inb (PanOk.thn (PanOk.inb (PanOk.thn (PanOk.thn (PanOk.inb (PanOk.thn (PanOk.thn PanOk.body))))))))))))) sH rfl (VR.ofV (V_move rfl)) ?_
                    obtain ⟨⟨g1945, g1946⟩, H⟩ := g_pos H
                    refine DH_take 32 (by kernel_rfl) rfl rfl (.yes rfl rfl rfl rfl (dec_t h2788)) (PanOk.thn (PanOk.thn (PanOk.inb (PanOk.thn (PanOk.thn (PanOk.inb (PanOk.thn (PanOk.inb (PanOk.thn (PanOk.thn (PanOk.inb (PanOk.thn (PanOk.thn PanOk.body))))))))))))) sH rfl (VR_index (i := x9_15) Try.underlying35 sz52 rfl rfl (Src.buf (k := 2) rfl) g1945 g1946) ?_
                    refine DH_take (v := .pointer (some ((el A4 (x9_15.toNat * 2)).add 1))) 33 (by kernel_rfl) rfl rfl (.yes rfl rfl rfl rfl (dec_t h2788)) (PanOk.thn (PanOk.thn (PanOk.inb (PanOk.thn (PanOk.thn (PanOk.inb (PanOk.thn (PanOk.inb (PanOk.thn (PanOk.thn (PanOk.inb (PanOk.thn (PanOk.thn PanOk.body))))))))))))) sH rfl (VR.ofV (V_fieldAddrN (B := el A4 (x9_15.toNat * 2)) (m := 0) (o := 1) Try.underlying52 rfl nz3 rfl rfl)) ?_
                    refine DH_take 34 (by kernel_rfl) rfl rfl (.yes rfl rfl rfl rfl (dec_t h2788)) (PanOk.thn (PanOk.thn (PanOk.inb (PanOk.thn (PanOk.thn (PanOk.inb (PanOk.thn (PanOk.inb (PanOk.thn (PanOk.thn (PanOk.inb (PanOk.thn (PanOk.thn PanOk.body))))))))))))) sH rfl (VR_load_el (enc := enc52) (i := x9_15) (j := x9_15.toNat * 2) (m := 1) (sz := 2) Try.underlying3 rfl rfl rfl rfl (Src.buf (k := 2) rfl) g1945 g1946 (fun _ _ h => h) rfl) ?_
                    refine DH_take (v := .int .u64 (IntKind.u64.wrap ((rd r3.1 x9_15).f1))) 35 (by kernel_rfl) rfl rfl (.yes rfl rfl rfl rfl (dec_t h2788)) (PanOk.thn (PanOk.thn (PanOk.inb (PanOk.thn (PanOk.thn (PanOk.inb (PanOk.thn (PanOk.inb (PanOk.thn (PanOk.thn (PanOk.inb (PanOk.thn (PanOk.thn PanOk.body))))))))))))) sH rfl (VR.ofV (V_conv (T := 3) (by kernel_rfl) Try.underlying53 rfl)) ?_
                    obtain ⟨g2185, H⟩ := g_pos H
                    refine DH_take (v := .int .u64 (shlI .u64 1 (IntKind.u64.wrap ((rd r3.1 x9_15).f1)))) 36 (by kernel_rfl) rfl rfl (.yes rfl rfl rfl rfl (dec_t h2788)) (PanOk.thn (PanOk.thn (PanOk.inb (PanOk.thn (PanOk.thn (PanOk.inb (PanOk.thn (PanOk.inb (PanOk.thn (PanOk.thn (PanOk.inb (PanOk.thn (PanOk.thn PanOk.body))))))))))))) sH rfl (VR.ofV (V_shl rfl rfl g2185)) ?_
                    refine DH_take (v := .int .u64 (IntKind.u64.wrap ((shlI .u64 1 (IntKind.u64.wrap ((rd r3.1 x9_15).f1))) - 1))) 37 (by kernel_rfl) rfl rfl (.yes rfl rfl rfl rfl (dec_t h2788)) (PanOk.thn (PanOk.thn (PanOk.inb (PanOk.thn (PanOk.thn (PanOk.inb (PanOk.thn (PanOk.inb (PanOk.thn (PanOk.thn (PanOk.inb (PanOk.thn (PanOk.thn PanOk.body))))))))))))) sH rfl (VR.ofV (V_sub rfl rfl)) ?_
                    refine DH_take (v := .int .u64 (andI .u64 ((rd r3.1 x10_20).f0) (IntKind.u64.wrap ((shlI .u64 1 (IntKind.u64.wrap ((rd r3.1 x9_15).f1))) - 1)))) 38 (by kernel_rfl) rfl rfl (.yes rfl rfl rfl rfl (dec_t h2788)) (PanOk.thn (PanOk.thn (PanOk.inb (PanOk.thn (PanOk.thn (PanOk.inb (PanOk.thn (PanOk.inb (PanOk.thn (PanOk.thn (PanOk.inb (PanOk.thn (PanOk.thn PanOk.body))))))))))))) sH rfl (VR.ofV (V_and rfl rfl)) ?_
                    refine DH_take (v := .slice A4 r3.1.length c5) 39 (by kernel_rfl) rfl rfl (.yes rfl rfl rfl rfl (dec_t h2788)) (PanOk.thn (PanOk.thn (PanOk.inb (PanOk.thn (PanOk.thn (PanOk.inb (PanOk.thn (PanOk.inb (PanOk.thn (PanOk.thn (PanOk.inb (PanOk.thn (PanOk.thn PanOk.body))))))))))))) sH rfl (VR.ofV (V_move rfl)) ?_
                    refine DH_take (v := .int .i64 x9_15) 40 (by kernel_rfl) rfl rfl (.yes rfl rfl rfl rfl (dec_t h2788)) (PanOk.thn (PanOk.thn (PanOk.inb (PanOk.thn (PanOk.thn (PanOk.inb (PanOk.thn (PanOk.inb (PanOk.thn (PanOk.thn (PanOk.inb (PanOk.thn (PanOk.thn PanOk.body))))))))))))) sH rfl (VR.ofV (V_move rfl)) ?_
                    obtain ⟨⟨g2485, g2486⟩, H⟩ := g_pos H
                    refine DH_take 41 (by kernel_rfl) rfl rfl (.yes rfl rfl rfl rfl (dec_t h2788)) (PanOk.thn (PanOk.thn (PanOk.inb (PanOk.thn (PanOk.thn (PanOk.inb (PanOk.thn (PanOk.inb (PanOk.thn (PanOk.thn (PanOk.inb (PanOk.thn (PanOk.thn PanOk.body))))))))))))) sH rfl (VR_index (i := x9_15) Try.underlying35 sz52 rfl rfl (Src.buf (k := 2) rfl) g2485 g2486) ?_
                    refine DH_take (v := .pointer (some ((el A4 (x9_15.toNat * 2)).add 0))) 42 (by kernel_rfl) rfl rfl (.yes rfl rfl rfl rfl (dec_t h2788)) (PanOk.thn (PanOk.thn (PanOk.inb (PanOk.thn (PanOk.thn (PanOk.inb (PanOk.thn (PanOk.inb (PanOk.thn (PanOk.thn (PanOk.inb (PanOk.thn (PanOk.thn PanOk.body))))))))))))) sH rfl (VR.ofV (V_fieldAddrN (B := el A4 (x9_15.toNat * 2)) (m := 0) (o := 0) Try.underlying52 rfl nz50 rfl rfl)) ?_
                    refine DH_take 43 (by kernel_rfl) rfl rfl (.yes rfl rfl rfl rfl (dec_t h2788)) (PanOk.thn (PanOk.thn (PanOk.inb (PanOk.thn (PanOk.thn (PanOk.inb (PanOk.thn (PanOk.inb (PanOk.thn (PanOk.thn (PanOk.inb (PanOk.thn (PanOk.thn PanOk.body))))))))))))) sH rfl (VR_load_el (enc := enc52) (i := x9_15) (j := x9_15.toNat * 2) (m := 0) (sz := 2) Try.underlying50 rfl rfl rfl rfl (Src.buf (k := 2) rfl) g2485 g2486 (fun _ _ h => h) rfl) ?_
                    refine DH_take (v := .bool (decide ((andI .u64 ((rd r3.1 x10_20).f0) (IntKind.u64.wrap ((shlI .u64 1 (IntKind.u64.wrap ((rd r3.1 x9_15).f1))) - 1))) = ((rd r3.1 x9_15).f0)))) 44 (by kernel_rfl) rfl rfl (.yes rfl rfl rfl rfl (dec_t h2788)) (PanOk.thn (PanOk.thn (PanOk.inb (PanOk.thn (PanOk.thn (PanOk.inb (PanOk.thn (PanOk.inb (PanOk.thn (PanOk.thn (PanOk.inb (PanOk.thn (PanOk.thn PanOk.body))))))))))))) sH rfl (VR.ofV (V_eql rfl rfl)) ?_
                    refine DH_take 45 (by kernel_rfl) rfl rfl (.no rfl) (PanOk.thn (PanOk.thn (PanOk.inb (PanOk.thn (PanOk.thn (PanOk.inb (PanOk.thn (PanOk.inb (PanOk.thn (PanOk.thn (PanOk.inb (PanOk.thn (PanOk.thn PanOk.body))))))))))))) sH rfl (VR.ofV (V_pickT rfl (dec_t h2788) rfl)) ?_
                    refine DH_open dd sH ?_
                    refine DN_done (by kernel_rfl) ?_
                    have hr_ := Option.some.inj H
                    subst hr_
                    exact at_normal (St.mk1 (aeq rfl (aeq rfl (aeq rfl (aeq rfl (aeq rfl (aeq rfl (aeq rfl (aeq rfl aeq0)))))))) (Gh.sel [0, 1, 2] rfl rfl))
                  · replace H := g_iff h2788 H
                    refine DH_skip 25 (by kernel_rfl) rfl rfl (.no rfl rfl rfl rfl (dec_f h2788)) (PanOk.thn (PanOk.thn (PanOk.inb (PanOk.thn (PanOk.thn (PanOk.inb (PanOk.thn (PanOk.inb (PanOk.thn (PanOk.thn (PanOk.inb (PanOk.thn (PanOk.thn PanOk.body))))))))))))) rfl ?_
                    refine DH_skip 26 (by kernel_rfl) rfl rfl (.no rfl rfl rfl rfl (dec_f h2788)) (PanOk.thn (PanOk.thn (PanOk.inb (PanOk.thn (PanOk.thn (PanOk.inb (PanOk.thn (PanOk.inb (PanOk.thn (PanOk.thn (PanOk.inb (PanOk.thn (PanOk.thn PanOk.body))))))))))))) rfl ?_
                    refine DH_skip 27 (by kernel_rfl) rfl rfl (.no rfl rfl rfl rfl (dec_f h2788)) (PanOk.thn (PanOk.thn (PanOk.inb (PanOk.thn (PanOk.thn (PanOk.inb (PanOk.thn (PanOk.inb (PanOk.thn (PanOk.thn (PanOk.inb (PanOk.thn (PanOk.thn PanOk.body))))))))))))) rfl ?_
                    refine DH_skip 28 (by kernel_rfl) rfl rfl (.no rfl rfl rfl rfl (dec_f h2788)) (PanOk.thn (PanOk.thn (PanOk.inb (PanOk.thn (PanOk.thn (PanOk.inb (PanOk.thn (PanOk.inb (PanOk.thn (PanOk.thn (PanOk.inb (PanOk.thn (PanOk.thn PanOk.body))))))))))))) rfl ?_
                    refine DH_skip 29 (by kernel_rfl) rfl rfl (.no rfl rfl rfl rfl (dec_f h2788)) (PanOk.thn (PanOk.thn (PanOk.inb (PanOk.thn (PanOk.thn (PanOk.inb (PanOk.thn (PanOk.inb (PanOk.thn (PanOk.thn (PanOk.inb (PanOk.thn (PanOk.thn PanOk.body))))))))))))) rfl ?_
                    refine DH_skip 30 (by kernel_rfl) rfl rfl (.no rfl rfl rfl rfl (dec_f h2788)) (PanOk.thn (PanOk.thn (PanOk.inb (PanOk.thn (PanOk.thn (PanOk.inb (PanOk.thn (PanOk.inb (PanOk.thn (PanOk.thn (PanOk.inb (PanOk.thn (PanOk.thn PanOk.body))))))))))))) rfl ?_
                    refine DH_skip 31 (by kernel_rfl) rfl rfl (.no rfl rfl rfl rfl (dec_f h2788)) (PanOk.thn (PanOk.thn (PanOk.inb (PanOk.thn (PanOk.thn (PanOk.inb (PanOk.thn (PanOk.inb (PanOk.thn (PanOk.thn (PanOk.inb (PanOk.thn (PanOk.thn PanOk.body))))))))))))) rfl ?_
                    refine DH_skip 32 (by kernel_rfl) rfl rfl (.no rfl rfl rfl rfl (dec_f h2788)) (PanOk.thn (PanOk.thn (PanOk.inb (PanOk.thn (PanOk.thn (PanOk.inb (PanOk.thn (PanOk.inb (PanOk.thn (PanOk.thn (PanOk.inb (PanOk.thn (PanOk.thn PanOk.body))))))))))))) rfl ?_
                    refine DH_skip 33 (by kernel_rfl) rfl rfl (.no rfl rfl rfl rfl (dec_f h2788)) (PanOk.thn (PanOk.thn (PanOk.inb (PanOk.thn (PanOk.thn (PanOk.inb (PanOk.thn (PanOk.inb (PanOk.thn (PanOk.thn (PanOk.inb (PanOk.thn (PanOk.thn PanOk.body))))))))))))) rfl ?_
                    refine DH_skip 34 (by kernel_rfl) rfl rfl (.no rfl rfl rfl rfl (dec_f h2788)) (PanOk.thn (PanOk.thn (PanOk.inb (PanOk.thn (PanOk.thn (PanOk.inb (PanOk.thn (PanOk.inb (PanOk.thn (PanOk.thn (PanOk.inb (PanOk.thn (PanOk.thn PanOk.body))))))))))))) rfl ?_
                    refine DH_skip 35 (by kernel_rfl) rfl rfl (.no rfl rfl rfl rfl (dec_f h2788)) (PanOk.thn (PanOk.thn (PanOk.inb (PanOk.thn (PanOk.thn (PanOk.inb (PanOk.thn (PanOk.inb (PanOk.thn (PanOk.thn (PanOk.inb (PanOk.thn (PanOk.thn PanOk.body))))))))))))) rfl ?_
                    refine DH_skip 36 (by kernel_rfl) rfl rfl (.no rfl rfl rfl rfl (dec_f h2788)) (PanOk.thn (PanOk.thn (PanOk.inb (PanOk.thn (PanOk.thn (PanOk.inb (PanOk.thn (PanOk.inb (PanOk.thn (PanOk.thn (PanOk.inb (PanOk.thn (PanOk.thn PanOk.body))))))))))))) rfl ?_
                    refine DH_skip 37 (by kernel_rfl) rfl rfl (.no rfl rfl rfl rfl (dec_f h2788)) (PanOk.thn (PanOk.thn (PanOk.inb (PanOk.thn (PanOk.thn (PanOk.inb (PanOk.thn (PanOk.inb (PanOk.thn (PanOk.thn (PanOk.inb (PanOk.thn (PanOk.thn PanOk.body))))))))))))) rfl ?_
                    refine DH_skip 38 (by kernel_rfl) rfl rfl (.no rfl rfl rfl rfl (dec_f h2788)) (PanOk.thn (PanOk.thn (PanOk.inb (PanOk.thn (PanOk.thn (PanOk.inb (PanOk.thn (PanOk.inb (PanOk.thn (PanOk.thn (PanOk.inb (PanOk.thn (PanOk.thn PanOk.body))))))))))))) rfl ?_
                    refine DH_skip 39 (by kernel_rfl) rfl rfl (.no rfl rfl rfl rfl (dec_f h2788)) (PanOk.thn (PanOk.thn (PanOk.inb (PanOk.thn (PanOk.thn (PanOk.inb (PanOk.thn (PanOk.inb (PanOk.thn (PanOk.thn (PanOk.inb (PanOk.thn (PanOk.thn PanOk.body))))))))))))) rfl ?_
                    refine DH_skip 40 (by kernel_rfl) rfl rfl (.no rfl rfl rfl rfl (dec_f h2788)) (PanOk.thn (PanOk.thn (PanOk.inb (PanOk.thn (PanOk.thn (PanOk.inb (PanOk.thn (PanOk.inb (PanOk.thn (PanOk.thn (PanOk.inb (PanOk.thn (PanOk.thn PanOk.body))))))))))))) rfl ?_
                    refine DH_skip 41 (by kernel_rfl) rfl rfl (.no rfl rfl rfl rfl (dec_f h2788)) (PanOk.thn (PanOk.thn (PanOk.inb (PanOk.thn (PanOk.thn (PanOk.inb (PanOk.thn (PanOk.inb (PanOk.thn (PanOk.thn (PanOk.inb (PanOk.thn (PanOk.thn PanOk.body))))))))))))) rfl ?_
                    refine DH_skip 42 (by kernel_rfl) rfl rfl (.no rfl rfl rfl rfl (dec_f h2788)) (PanOk.thn (PanOk.thn (PanOk.inb (PanOk.thn (PanOk.thn (PanOk.inb (PanOk.thn (PanOk.inb (PanOk.thn (PanOk.thn (PanOk.inb (PanOk.thn (PanOk.thn PanOk.body))))))))))))) rfl ?_
                    refine DH_skip 43 (by kernel_rfl) rfl rfl (.no rfl rfl rfl rfl (dec_f h2788)) (PanOk.thn (PanOk.thn (PanOk.inb (PanOk.thn (PanOk.thn (PanOk.inb (PanOk.thn (PanOk.inb (PanOk.thn (PanOk.thn (PanOk.inb (PanOk.thn (PanOk.thn PanOk.body))))))))))))) rfl ?_
                    refine DH_skip 44 (by kernel_rfl) rfl rfl (.no rfl rfl rfl rfl (dec_f h2788)) (PanOk.thn (PanOk.thn (PanOk.inb (PanOk.thn (PanOk.thn (PanOk.inb (PanOk.thn (PanOk.inb (PanOk.thn (PanOk.thn (PanOk.inb (PanOk.thn (PanOk.thn PanOk.body))))))))))))) rfl ?_
                    refine DH_take 45 (by kernel_rfl) rfl rfl (.no rfl) (PanOk.thn (PanOk.thn (PanOk.inb (PanOk.thn (PanOk.thn (PanOk.inb (PanOk.thn (PanOk.inb (PanOk.thn (PanOk.thn (PanOk.inb (PanOk.thn (PanOk.thn PanOk.body))))))))))))) sH rfl (VR.ofV (V_pickF rfl (dec_f h2788) rfl)) ?_
                    refine DH_open dd sH ?_
                    refine DN_done (by kernel_rfl) ?_
                    have hr_ := Option.some.inj H
                    subst hr_
                    exact at_normal (St.mk1 (aeq rfl (aeq rfl (aeq rfl (aeq rfl (aeq rfl (aeq rfl (aeq rfl (aeq rfl aeq0)))))))) (Gh.sel [0, 1, 2] rfl rfl))
                · replace H := g_iff h2787 H
                  refine DH_skip 12 (by kernel_rfl) rfl rfl (.no rfl rfl rfl rfl (dec_f h2787)) (PanOk.thn (PanOk.thn (PanOk.inb (PanOk.thn (PanOk.thn (PanOk.inb (PanOk.thn (PanOk.inb (PanOk.thn (PanOk.thn (PanOk.inb (PanOk.thn (PanOk.thn PanOk.body))))))))))))) rfl ?_
                  refine DH_skip 13 (by kernel_rfl) rfl rfl (.no rfl rfl rfl rfl (dec_f h2787)) (PanOk.thn (PanOk.thn (PanOk.inb (PanOk.thn (PanOk.thn (PanOk.inb (PanOk.thn (PanOk.inb (PanOk.thn (PanOk.thn (PanOk.inb (PanOk.thn (PanOk.thn PanOk.body))))))))))))) rfl ?_
                  refine DH_skip 14 (by kernel_rfl) rfl rfl (.no rfl rfl rfl rfl (dec_f h2787)) (PanOk.thn (PanOk.thn (PanOk.inb (PanOk.thn (PanOk.thn (PanOk.inb (PanOk.thn (PanOk.inb (PanOk.thn (PanOk.thn (PanOk.inb (PanOk.thn (PanOk.thn PanOk.body))))))))))))) rfl ?_
                  refine DH_skip 15 (by kernel_rfl) rfl rfl (.no rfl rfl rfl rfl (dec_f h2787)) (PanOk.thn (PanOk.thn (PanOk.inb (PanOk.thn (PanOk.thn (PanOk.inb (PanOk.thn (PanOk.inb (PanOk.thn (PanOk.thn (PanOk.inb (PanOk.thn (PanOk.thn PanOk.body))))))))))))) rfl ?_
                  refine DH_skip 16 (by kernel_rfl) rfl rfl (.no rfl rfl rfl rfl (dec_f h2787)) (PanOk.thn (PanOk.thn (PanOk.inb (PanOk.thn (PanOk.thn (PanOk.inb (PanOk.thn (PanOk.inb (PanOk.thn (PanOk.thn (PanOk.inb (PanOk.thn (PanOk.thn PanOk.body))))))))))))) rfl ?_
                  refine DH_skip 17 (by kernel_rfl) rfl rfl (.no rfl rfl rfl rfl (dec_f h2787)) (PanOk.thn (PanOk.thn (PanOk.inb (PanOk.thn (PanOk.thn (PanOk.inb (PanOk.thn (PanOk.inb (PanOk.thn (PanOk.thn (PanOk.inb (PanOk.thn (PanOk.thn PanOk.body))))))))))))) rfl ?_
                  refine DH_skip 18 (by kernel_rfl) rfl rfl (.no rfl rfl rfl rfl (dec_f h2787)) (PanOk.thn (PanOk.thn (PanOk.inb (PanOk.thn (PanOk.thn (PanOk.inb (PanOk.thn (PanOk.inb (PanOk.thn (PanOk.thn (PanOk.inb (PanOk.thn (PanOk.thn PanOk.body))))))))))))) rfl ?_
                  refine DH_skip 19 (by kernel_rfl) rfl rfl (.no rfl rfl rfl rfl (dec_f h2787)) (PanOk.thn (PanOk.thn (PanOk.inb (PanOk.thn (PanOk.thn (PanOk.inb (PanOk.thn (PanOk.inb (PanOk.thn (PanOk.thn (PanOk.inb (PanOk.thn (PanOk.thn PanOk.body))))))))))))) rfl ?_
                  refine DH_skip 20 (by kernel_rfl) rfl rfl (.no rfl rfl rfl rfl (dec_f h2787)) (PanOk.thn (PanOk.thn (PanOk.inb (PanOk.thn (PanOk.thn (PanOk.inb (PanOk.thn (PanOk.inb (PanOk.thn (PanOk.thn (PanOk.inb (PanOk.thn (PanOk.thn PanOk.body))))))))))))) rfl ?_
                  refine DH_skip 21 (by kernel_rfl) rfl rfl (.no rfl rfl rfl rfl (dec_f h2787)) (PanOk.thn (PanOk.thn (PanOk.inb (PanOk.thn (PanOk.thn (PanOk.inb (PanOk.thn (PanOk.inb (PanOk.thn (PanOk.thn (PanOk.inb (PanOk.thn (PanOk.thn PanOk.body))))))))))))) rfl ?_
                  refine DH_skip 22 (by kernel_rfl) rfl rfl (.no rfl rfl rfl rfl (dec_f h2787)) (PanOk.thn (PanOk.thn (PanOk.inb (PanOk.thn (PanOk.thn (PanOk.inb (PanOk.thn (PanOk.inb (PanOk.thn (PanOk.thn (PanOk.inb (PanOk.thn (PanOk.thn PanOk.body))))))))))))) rfl ?_
                  refine DH_take 23 (by kernel_rfl) rfl rfl (.no rfl) (PanOk.thn (PanOk.thn (PanOk.inb (PanOk.thn (PanOk.thn (PanOk.inb (PanOk.thn (PanOk.inb (PanOk.thn (PanOk.thn (PanOk.inb (PanOk.thn (PanOk.thn PanOk.body))))))))))))) sH rfl (VR.ofV (V_pickF rfl (dec_f h2787) rfl)) ?_
                  refine DH_take (v := .bool false) 24 (by kernel_rfl) rfl rfl (.no rfl) (PanOk.thn (PanOk.thn (PanOk.inb (PanOk.thn (PanOk.thn (PanOk.inb (PanOk.thn (PanOk.inb (PanOk.thn (PanOk.thn (PanOk.inb (PanOk.thn (PanOk.thn PanOk.body))))))))))))) sH rfl (VR.ofV (V_move rfl)) ?_
                  by_cases h2789 : false = true
                  · replace H := g_ift h2789 H
                    refine DH_take (v := .slice A4 r3.1.length c5) 25 (by kernel_rfl) rfl rfl (.yes rfl rfl rfl rfl (h2789)) (PanOk.thn (PanOk.thn (PanOk.inb (PanOk.thn (PanOk.thn (PanOk.inb (PanOk.thn (PanOk.inb (PanOk.thn (PanOk.thn (PanOk.inb (PanOk.thn (PanOk.thn PanOk.body))))))))))))) sH rfl (VR.ofV (V_move rfl)) ?_
                    refine DH_take (v := .int .i64 x10_20) 26 (by kernel_rfl) rfl rfl (.yes rfl rfl rfl rfl (h2789)) (PanOk.thn (PanOk.thn (PanOk.inb (PanOk.thn (PanOk.thn (PanOk.inb (PanOk.thn (PanOk.inb (PanOk.thn (PanOk.thn (PanOk.inb (PanOk.thn (PanOk.thn PanOk.body))))))))))))) sH rfl (VR.ofV (V_move rfl)) ?_
                    obtain ⟨⟨g1645, g1646⟩, H⟩ := g_pos H
                    refine DH_take 27 (by kernel_rfl) rfl rfl (.yes rfl rfl rfl rfl (h2789)) (PanOk.thn (PanOk.thn (PanOk.inb (PanOk.thn (PanOk.thn (PanOk.inb (PanOk.thn (PanOk.inb (PanOk.thn (PanOk.thn (PanOk.inb (PanOk.thn (PanOk.thn PanOk.body))))))))))))) sH rfl (VR_index (i := x10_20) Try.underlying35 sz52 rfl rfl (Src.buf (k := 2) rfl) g1645 g1646) ?_
                    refine DH_take (v := .pointer (some ((el A4 (x10_20.toNat * 2)).add 0))) 28 (by kernel_rfl) rfl rfl (.yes rfl rfl rfl rfl (h2789)) (PanOk.thn (PanOk.thn (PanOk.inb (PanOk.thn (PanOk.thn (PanOk.inb (PanOk.thn (PanOk.inb (PanOk.thn (PanOk.thn (PanOk.inb (PanOk.thn (PanOk.thn PanOk.body))))))))))))) sH rfl (VR.ofV (V_fieldAddrN (B := el A4 (x10_20.toNat * 2)) (m := 0) (o := 0) Try.underlying52 rfl nz50 rfl rfl)) ?_
                    refine DH_take 29 (by kernel_rfl) rfl rfl (.yes rfl rfl rfl rfl (h2789)) (PanOk.thn (PanOk.thn (PanOk.inb (PanOk.thn (PanOk.thn (PanOk.inb (PanOk.thn (PanOk.inb (PanOk.thn (PanOk.thn (PanOk.inb (PanOk.thn (PanOk.thn PanOk.body))))))))))))) sH rfl (VR_load_el (enc := enc52) (i := x10_20) (j := x10_20.toNat * 2) (m := 0) (sz := 2) Try.underlying50 rfl rfl rfl rfl (Src.buf (k := 2) rfl) g1645 g1646 (fun _ _ h => h) rfl) ?_
                    refine DH_take (v := .slice A4 r3.1.length c5) 30 (by kernel_rfl) rfl rfl (.yes rfl rfl rfl rfl (h2789)) (PanOk.thn (PanOk.thn (PanOk.inb (PanOk.thn (PanOk.thn (PanOk.inb (PanOk.thn (PanOk.inb (PanOk.thn (PanOk.thn (PanOk.inb (PanOk.thn (PanOk.thn PanOk.body))))))))))))) sH rfl (VR.ofV (V_move rfl)) ?_
                    refine DH_take (v := .int .i64 x9_15) 31 (by kernel_rfl) rfl rfl (.yes rfl rfl rfl rfl (h2789)) (PanOk.thn (PanOk.thn (PanOk.inb (PanOk.thn (PanOk.thn (PanOk.inb (PanOk.thn (PanOk.inb (PanOk.thn (PanOk.thn (PanOk.inb (PanOk.thn (PanOk.thn PanOk.body))))))))))))) sH rfl (VR.ofV (V_move rfl)) ?_
                    obtain ⟨⟨g1945, g1946⟩, H⟩ := g_pos H
                    refine DH_take 32 (by kernel_rfl) rfl rfl (.yes rfl rfl rfl rfl (h2789)) (PanOk.thn (PanOk.thn (PanOk.inb (PanOk.thn (PanOk.thn (PanOk.inb (PanOk.thn (PanOk.inb (PanOk.thn (PanOk.thn (PanOk.inb (PanOk.thn (PanOk.thn PanOk.body))))))))))))) sH rfl (VR_index (i := x9_15) Try.underlying35 sz52 rfl rfl (Src.buf (k := 2) rfl) g1945 g1946) ?_
                    refine DH_take (v := .pointer (some ((el A4 (x9_15.toNat * 2)).add 1))) 33 (by kernel_rfl) rfl rfl (.yes rfl rfl rfl rfl (h2789)) (PanOk.thn (PanOk.thn (PanOk.inb (PanOk.thn (PanOk.thn (PanOk.inb (PanOk.thn (PanOk.inb (PanOk.thn (PanOk.thn (PanOk.inb (PanOk.thn (PanOk.thn PanOk.body))))))))))))) sH rfl (VR.ofV (V_fieldAddrN (B := el A4 (x9_15.toNat * 2)) (m := 0) (o := 1) Try.underlying52 rfl nz3 rfl rfl)) ?_
                    refine DH_take 34 (by kernel_rfl) rfl rfl (.yes rfl rfl rfl rfl (h2789)) (PanOk.thn (PanOk.thn (PanOk.inb (PanOk.thn (PanOk.thn (PanOk.inb (PanOk.thn (PanOk.inb (PanOk.thn (PanOk.thn (PanOk.inb (PanOk.thn (PanOk.thn PanOk.body))))))))))))) sH rfl (VR_load_el (enc := enc52) (i := x9_15) (j := x9_15.toNat * 2) (m := 1) (sz := 2) Try.underlying3 rfl rfl rfl rfl (Src.buf (k := 2) rfl) g1945 g1946 (fun _ _ h => h) rfl) ?_
                    refine DH_take (v := .int .u64 (IntKind.u64.wrap ((rd r3.1 x9_15).f1))) 35 (by kernel_rfl) rfl rfl (.yes rfl rfl rfl rfl (h2789)) (PanOk.thn (PanOk.thn (PanOk.inb (PanOk.thn (PanOk.thn (PanOk.inb (PanOk.thn (PanOk.inb (PanOk.thn (PanOk.thn (PanOk.inb (PanOk.thn (PanOk.thn PanOk.body))))))))))))) sH rfl (VR.ofV (V_conv (T := 3) (by kernel_rfl) Try.underlying53 rfl)) ?_
                    obtain ⟨g2185, H⟩ := g_pos H
                    refine DH_take (v := .int .u64 (shlI .u64 1 (IntKind.u64.wrap ((rd r3.1 x9_15).f1)))) 36 (by kernel_rfl) rfl rfl (.yes rfl rfl rfl rfl (h2789)) (PanOk.thn (PanOk.thn (PanOk.inb (PanOk.thn (PanOk.thn (PanOk.inb (PanOk.thn (PanOk.inb (PanOk.thn (PanOk.thn (PanOk.inb (PanOk.thn (PanOk.thn PanOk.body))))))))))))) sH rfl (VR.ofV (V_shl rfl rfl g2185)) ?_
                    refine DH_take (v := .int .u64 (IntKind.u64.wrap ((shlI .u64 1 (IntKind.u64.wrap ((rd r3.1 x9_15).f1))) - 1))) 37 (by kernel_rfl) rfl rfl (.yes rfl rfl rfl rfl (h2789)) (PanOk.thn (PanOk.thn (PanOk.inb (PanOk.thn (PanOk.thn (PanOk.inb (PanOk.thn (PanOk.inb (PanOk.thn (PanOk.thn (PanOk.inb (PanOk.thn (PanOk.thn PanOk.body))))))))))))) sH rfl (VR.ofV (V_sub rfl rfl)) ?_
                    refine DH_take (v := .int .u64 (andI .u64 ((rd r3.1 x10_20).f0) (IntKind.u64.wrap ((shlI .u64 1 (IntKind.u64.wrap ((rd r3.1 x9_15).f1))) - 1)))) 38 (by kernel_rfl) rfl rfl (.yes rfl rfl rfl rfl (h2789)) (PanOk.thn (PanOk.thn (PanOk.inb (PanOk.thn (PanOk.thn (PanOk.inb (PanOk.thn (PanOk.inb (PanOk.thn (PanOk.thn (PanOk.inb (PanOk.thn (PanOk.thn PanOk.body))))))))))))) sH rfl (VR.ofV (V_and rfl rfl)) ?_
                    refine DH_take (v := .slice A4 r3.1.length c5) 39 (by kernel_rfl) rfl rfl (.yes rfl rfl rfl rfl (h2789)) (PanOk.thn (PanOk.thn (PanOk.inb (PanOk.thn (PanOk.thn (PanOk.inb (PanOk.thn (PanOk.inb (PanOk.thn (PanOk.thn (PanOk.inb (PanOk.thn (PanOk.thn PanOk.body))))))))))))) sH rfl (VR.ofV (V_move rfl)) ?_
                    refine DH_take (v := .int .i64 x9_15) 40 (by kernel_rfl) rfl rfl (.yes rfl rfl rfl rfl (h2789)) (PanOk.thn (PanOk.thn (PanOk.inb (PanOk.thn (PanOk.thn (PanOk.inb (PanOk.thn (PanOk.inb (PanOk.thn (PanOk.thn (PanOk.inb (PanOk.thn (PanOk.thn PanOk.body))))))))))))) sH rfl (VR.ofV (V_move rfl)) ?_
                    obtain ⟨⟨g2485, g2486⟩, H⟩ := g_pos H
                    refine DH_take 41 (by kernel_rfl) rfl rfl (.yes rfl rfl rfl rfl (h2789)) (PanOk.thn (PanOk.thn (PanOk.inb (PanOk.thn (PanOk.thn (PanOk.inb (PanOk.thn (PanOk.inb (PanOk.thn (PanOk.thn (PanOk.inb (PanOk.thn (PanOk.thn PanOk.body))))))))))))) sH rfl (VR_index (i := x9_15) Try.underlying35 sz52 rfl rfl (Src.buf (k := 2) rfl) g2485 g2486) ?_
                    refine DH_take (v := .pointer (some ((el A4 (x9_15.toNat * 2)).add 0))) 42 (by kernel_rfl) rfl rfl (.yes rfl rfl rfl rfl (h2789)) (PanOk.thn (PanOk.thn (PanOk.inb (PanOk.thn (PanOk.thn (PanOk.inb (PanOk.thn (PanOk.inb (PanOk.thn (PanOk.thn (PanOk.inb (PanOk.thn (PanOk.thn PanOk.body))))))))))))) sH rfl (VR.ofV (V_fieldAddrN (B := el A4 (x9_15.toNat * 2)) (m := 0) (o := 0) Try.underlying52 rfl nz50 rfl rfl)) ?_
                    refine DH_take 43 (by kernel_rfl) rfl rfl (.yes rfl rfl rfl rfl (h2789)) (PanOk.thn (PanOk.thn (PanOk.inb (PanOk.thn (PanOk.thn (PanOk.inb (PanOk.thn (PanOk.inb (PanOk.thn (PanOk.thn (PanOk.inb (PanOk.thn (PanOk.thn PanOk.body))))))))))))) sH rfl (VR_load_el (enc := enc52) (i := x9_15) (j := x9_15.toNat * 2) (m := 0) (sz := 2) Try.underlying50 rfl rfl rfl rfl (Src.buf (k := 2) rfl) g2485 g2486 (fun _ _ h => h) rfl) ?_
                    refine DH_take (v := .bool (decide ((andI .u64 ((rd r3.1 x10_20).f0) (IntKind.u64.wrap ((shlI .u64 1 (IntKind.u64.wrap ((rd r3.1 x9_15).f1))) - 1))) = ((rd r3.1 x9_15).f0)))) 44 (by kernel_rfl) rfl rfl (.yes rfl rfl rfl rfl (h2789)) (PanOk.thn (PanOk.thn (PanOk.inb (PanOk.thn (PanOk.thn (PanOk.inb (PanOk.thn (PanOk.inb (PanOk.thn (PanOk.thn (PanOk.inb (PanOk.thn (PanOk.thn PanOk.body))))))))))))) sH rfl (VR.ofV (V_eql rfl rfl)) ?_
                    refine DH_take 45 (by kernel_rfl) rfl rfl (.no rfl) (PanOk.thn (PanOk.thn (PanOk.inb (PanOk.thn (PanOk.thn (PanOk.inb (PanOk.thn (PanOk.inb (PanOk.thn (PanOk.thn (PanOk.inb (PanOk.thn (PanOk.thn PanOk.body))))))))))))) sH rfl (VR.ofV (V_pickT rfl (h2789) rfl)) ?_
                    refine DH_open dd sH ?_
                    refine DN_done (by kernel_rfl) ?_
                    have hr_ := Option.some.inj H
                    subst hr_
                    exact at_normal (St.mk1 (aeq rfl (aeq rfl (aeq rfl (aeq rfl (aeq rfl (aeq rfl (aeq rfl (aeq rfl aeq0)))))))) (Gh.sel [0, 1, 2] rfl rfl))
                  · replace H := g_iff h2789 H
                    refine DH_skip 25 (by kernel_rfl) rfl rfl (.no rfl rfl rfl rfl (bno h2789)) (PanOk.thn (PanOk.thn (PanOk.inb (PanOk.thn (PanOk.thn (PanOk.inb (PanOk.thn (PanOk.inb (PanOk.thn (PanOk.thn (PanOk.inb (PanOk.thn (PanOk.thn PanOk.body))))))))))))) rfl ?_
                    refine DH_skip 26 (by kernel_rfl) rfl rfl (.no rfl rfl rfl rfl (bno h2789)) (PanOk.thn (PanOk.thn (PanOk.inb (PanOk.thn (PanOk.thn (PanOk.inb (PanOk.thn (PanOk.inb (PanOk.thn (PanOk.thn (PanOk.inb (PanOk.thn (PanOk.thn PanOk.body))))))))))))) rfl ?_
                    refine DH_skip 27 (by kernel_rfl) rfl rfl (.no rfl rfl rfl rfl (bno h2789)) (PanOk.thn (PanOk.thn (PanOk.inb (PanOk.thn (PanOk.thn (PanOk.inb (PanOk.thn (PanOk.inb (PanOk.thn (PanOk.thn (PanOk.inb (PanOk.thn (PanOk.thn PanOk.body))))))))))))) rfl ?_
                    refine DH_skip 28 (by kernel_rfl) rfl rfl (.no rfl rfl rfl rfl (bno h2789)) (PanOk.thn (PanOk.thn (PanOk.inb (PanOk.thn (PanOk.thn (PanOk.inb (PanOk.thn (PanOk.inb (PanOk.thn (PanOk.thn (PanOk.inb (PanOk.thn (PanOk.thn PanOk.body))))))))))))) rfl ?_
                    refine DH_skip 29 (by kernel_rfl) rfl rfl (.no rfl rfl rfl rfl (bno h2789)) (PanOk.thn (PanOk.thn (PanOk.inb (PanOk.thn (PanOk.thn (PanOk.inb (PanOk.thn (PanOk.inb (PanOk.thn (PanOk.thn (PanOk.inb (PanOk.thn (PanOk.thn PanOk.body))))))))))))) rfl ?_
                    refine DH_skip 30 (by kernel_rfl) rfl rfl (.no rfl rfl rfl rfl (bno h2789)) (PanOk.thn (PanOk.thn (PanOk.inb (PanOk.thn (PanOk.thn (PanOk.inb (PanOk.thn (PanOk.inb (PanOk.thn (PanOk.thn (PanOk.inb (PanOk.thn (PanOk.thn PanOk.body))))))))))))) rfl ?_
                    refine DH_skip 31 (by kernel_rfl) rfl rfl (.no rfl rfl rfl rfl (bno h2789)) (PanOk.thn (PanOk.thn (PanOk.inb (PanOk.thn (PanOk.thn (PanOk.inb (PanOk.thn (PanOk.inb (PanOk.thn (PanOk.thn (PanOk.inb (PanOk.thn (PanOk.thn PanOk.body))))))))))))) rfl ?_
                    refine DH_skip 32 (by kernel_rfl) rfl rfl (.no rfl rfl rfl rfl (bno h2789)) (PanOk.thn (PanOk.thn (PanOk.inb (PanOk.thn (PanOk.thn (PanOk.inb (PanOk.thn (PanOk.inb (PanOk.thn (PanOk.thn (PanOk.inb (PanOk.thn (PanOk.thn PanOk.body))))))))))))) rfl ?_
                    refine DH_skip 33 (by kernel_rfl) rfl rfl (.no rfl rfl rfl rfl (bno h2789)) (PanOk.thn (PanOk.thn (PanOk.inb (PanOk.thn (PanOk.thn (PanOk.inb (PanOk.thn (PanOk.inb (PanOk.thn (PanOk.thn (PanOk.inb (PanOk.thn (PanOk.thn PanOk.body))))))))))))) rfl ?_
                    refine DH_skip 34 (by kernel_rfl) rfl rfl (.no rfl rfl rfl rfl (bno h2789)) (PanOk.thn (PanOk.thn (PanOk.inb (PanOk.thn (PanOk.thn (PanOk.inb (PanOk.thn (PanOk.inb (PanOk.thn (PanOk.thn (PanOk.inb (PanOk.thn (PanOk.thn PanOk.body))))))))))))) rfl ?_
                    refine DH_skip 35 (by kernel_rfl) rfl rfl (.no rfl rfl rfl rfl (bno h2789)) (PanOk.thn (PanOk.thn (PanOk.inb (PanOk.thn (PanOk.thn (PanOk.inb (PanOk.thn (PanOk.inb (PanOk.thn (PanOk.thn (PanOk.inb (PanOk.thn (PanOk.thn PanOk.body))))))))))))) rfl ?_
                    refine DH_skip 36 (by kernel_rfl) rfl rfl (.no rfl rfl rfl rfl (bno h2789)) (PanOk.thn (PanOk.thn (PanOk.inb (PanOk.thn (PanOk.thn (PanOk.inb (PanOk.thn (PanOk.inb (PanOk.thn (PanOk.thn (PanOk.inb (PanOk.thn (PanOk.thn PanOk.body))))))))))))) rfl ?_
                    refine DH_skip 37 (by kernel_rfl) rfl rfl (.no rfl rfl rfl rfl (bno h2789)) (PanOk.thn (PanOk.thn (PanOk.inb (PanOk.thn (PanOk.thn (PanOk.inb (PanOk.thn (PanOk.inb (PanOk.thn (PanOk.thn (PanOk.inb (PanOk.thn (PanOk.thn PanOk.body))))))))))))) rfl ?_
                    refine DH_skip 38 (by kernel_rfl) rfl rfl (.no rfl rfl rfl rfl (bno h2789)) (PanOk.thn (PanOk.thn (PanOk.inb (PanOk.thn (PanOk.thn (PanOk.inb (PanOk.thn (PanOk.inb (PanOk.thn (PanOk.thn (PanOk.inb (PanOk.thn (PanOk.thn PanOk.body))))))))))))) rfl ?_
                    refine DH_skip 39 (by kernel_rfl) rfl rfl (.no rfl rfl rfl rfl (bno h2789)) (PanOk.thn (PanOk.thn (PanOk.inb (PanOk.thn (PanOk.thn (PanOk.inb (PanOk.thn (PanOk.inb (PanOk.thn (PanOk.thn (PanOk.inb (PanOk.thn (PanOk.thn PanOk.body))))))))))))) rfl ?_
                    refine DH_skip 40 (by kernel_rfl) rfl rfl (.no rfl rfl rfl rfl (bno h2789)) (PanOk.thn (PanOk.thn (PanOk.inb (PanOk.thn (PanOk.thn (PanOk.inb (PanOk.thn (PanOk.inb (PanOk.thn (PanOk.thn (PanOk.inb (PanOk.thn (PanOk.thn PanOk.body))))))))))))) rfl ?_
                    refine DH_skip 41 (by kernel_rfl) rfl rfl (.no rfl rfl rfl rfl (bno h2789)) (PanOk.thn (PanOk.thn (PanOk.inb (PanOk.thn (PanOk.thn (PanOk.inb (PanOk.thn (PanOk.inb (PanOk.thn (PanOk.thn (PanOk.inb (PanOk.thn (PanOk.thn PanOk.body))))))))))))) rfl ?_
                    refine DH_skip 42 (by kernel_rfl) rfl rfl (.no rfl rfl rfl rfl (bno h2789)) (PanOk.thn (PanOk.thn (PanOk.inb (PanOk.thn (PanOk.thn (PanOk.inb (PanOk.thn (PanOk.inb (PanOk.thn (PanOk.thn (PanOk.inb (PanOk.thn (PanOk.thn PanOk.body))))))))))))) rfl ?_
                    refine DH_skip 43 (by kernel_rfl) rfl rfl (.no rfl rfl rfl rfl (bno h2789)) (PanOk.thn (PanOk.thn (PanOk.inb (PanOk.thn (PanOk.thn (PanOk.inb (PanOk.thn (PanOk.inb (PanOk.thn (PanOk.thn (PanOk.inb (PanOk.thn (PanOk.thn PanOk.body))))))))))))) rfl ?_
                    refine DH_skip 44 (by kernel_rfl) rfl rfl (.no rfl rfl rfl rfl (bno h2789)) (PanOk.thn (PanOk.thn (PanOk.inb (PanOk.thn (PanOk.thn (PanOk.inb (PanOk.thn (PanOk.inb (PanOk.thn (PanOk.thn (PanOk.inb (PanOk.thn (PanOk.thn PanOk.body))))))))))))) rfl ?_
                    refine DH_take 45 (by kernel_rfl) rfl rfl (.no rfl) (PanOk.thn (PanOk.thn (PanOk.inb (PanOk.thn (PanOk.thn (PanOk.inb (PanOk.thn (PanOk.inb (PanOk.thn (PanOk.thn (PanOk.inb (PanOk.thn (PanOk.thn PanOk.body))))))))))))) sH rfl (VR.ofV (V_pickF rfl (bno h2789) rfl)) ?_
                    refine DH_open dd sH ?_
                    refine DN_done (by kernel_rfl) ?_
                    have hr_ := Option.some.inj H
                    subst hr_
                    exact at_normal (St.mk1 (aeq rfl (aeq rfl (aeq rfl (aeq rfl (aeq rfl (aeq rfl (aeq rfl (aeq rfl aeq0)))))))) (Gh.sel [0, 1, 2] rfl rfl))
              · replace H := g_iff h2786 H
                refine DH_skip 4 (by kernel_rfl) rfl rfl (.no rfl rfl rfl rfl (dec_f h2786)) (PanOk.thn (PanOk.thn (PanOk.inb (PanOk.thn (PanOk.thn (PanOk.inb (PanOk.thn (PanOk.inb (PanOk.thn (PanOk.thn (PanOk.inb (PanOk.thn (PanOk.thn PanOk.body))))))))))))) rfl ?_
                refine DH_skip 5 (by kernel_rfl) rfl rfl (.no rfl rfl rfl rfl (dec_f h2786)) (PanOk.thn (PanOk.thn (PanOk.inb (PanOk.thn (PanOk.thn (PanOk.inb (PanOk.thn (PanOk.inb (PanOk.thn (PanOk.thn (PanOk.inb (PanOk.thn (PanOk.thn PanOk.body))))))))))))) rfl ?_
                refine DH_skip 6 (by kernel_rfl) rfl rfl (.no rfl rfl rfl rfl (dec_f h2786)) (PanOk.thn (PanOk.thn (PanOk.inb (PanOk.thn (PanOk.thn (PanOk.inb (PanOk.thn (PanOk.inb (PanOk.thn (PanOk.thn (PanOk.inb (PanOk.thn (PanOk.thn PanOk.body))))))))))))) rfl ?_
                refine DH_skip 7 (by kernel_rfl) rfl rfl (.no rfl rfl rfl rfl (dec_f h2786)) (PanOk.thn (PanOk.thn (PanOk.inb (PanOk.thn (PanOk.thn (PanOk.inb (PanOk.thn (PanOk.inb (PanOk.thn (PanOk.thn (PanOk.inb (PanOk.thn (PanOk.thn PanOk.body))))))))))))) rfl ?_
                refine DH_skip 8 (by kernel_rfl) rfl rfl (.no rfl rfl rfl rfl (dec_f h2786)) (PanOk.thn (PanOk.thn (PanOk.inb (PanOk.thn (PanOk.thn (PanOk.inb (PanOk.thn (PanOk.inb (PanOk.thn (PanOk.thn (PanOk.inb (PanOk.thn (PanOk.thn PanOk.body))))))))))))) rfl ?_
                refine DH_skip 9 (by kernel_rfl) rfl rfl (.no rfl rfl rfl rfl (dec_f h2786)) (PanOk.thn (PanOk.thn (PanOk.inb (PanOk.thn (PanOk.thn (PanOk.inb (PanOk.thn (PanOk.inb (PanOk.thn (PanOk.thn (PanOk.inb (PanOk.thn (PanOk.thn PanOk.body))))))))))))) rfl ?_
                refine DH_take 10 (by kernel_rfl) rfl rfl (.no rfl) (PanOk.thn (PanOk.thn (PanOk.inb (PanOk.thn (PanOk.thn (PanOk.inb (PanOk.thn (PanOk.inb (PanOk.thn (PanOk.thn (PanOk.inb (PanOk.thn (PanOk.thn PanOk.body))))))))))))) sH rfl (VR.ofV (V_pickF rfl (dec_f h2786) rfl)) ?_
                refine DH_take (v := .bool false) 11 (by kernel_rfl) rfl rfl (.no rfl) (PanOk.thn (PanOk.thn (PanOk.inb (PanOk.thn (PanOk.thn (PanOk.inb (PanOk.thn (PanOk.inb (PanOk.thn (PanOk.thn (PanOk.inb (PanOk.thn (PanOk.thn PanOk.body))))))))))))) sH rfl (VR.ofV (V_move rfl)) ?_
                by_cases h2790 : false = true
                · replace H := g_ift h2790 H
                  refine DH_take (v := .slice A4 r3.1.length c5) 12 (by kernel_rfl) rfl rfl (.yes rfl rfl rfl rfl (h2790)) (PanOk.thn (PanOk.thn (PanOk.inb (PanOk.thn (PanOk.thn (PanOk.inb (PanOk.thn (PanOk.inb (PanOk.thn (PanOk.thn (PanOk.inb (PanOk.thn (PanOk.thn PanOk.body))))))))))))) sH rfl (VR.ofV (V_move rfl)) ?_
                  refine DH_take (v := .int .i64 x9_15) 13 (by kernel_rfl) rfl rfl (.yes rfl rfl rfl rfl (h2790)) (PanOk.thn (PanOk.thn (PanOk.inb (PanOk.thn (PanOk.thn (PanOk.inb (PanOk.thn (PanOk.inb (PanOk.thn (PanOk.thn (PanOk.inb (PanOk.thn (PanOk.thn PanOk.body))))))))))))) sH rfl (VR.ofV (V_move rfl)) ?_
                  obtain ⟨⟨g865, g866⟩, H⟩ := g_pos H
                  refine DH_take 14 (by kernel_rfl) rfl rfl (.yes rfl rfl rfl rfl (h2790)) (PanOk.thn (PanOk.thn (PanOk.inb (PanOk.thn (PanOk.thn (PanOk.inb (PanOk.thn (PanOk.inb (PanOk.thn (PanOk.thn (PanOk.inb (PanOk.thn (PanOk.thn PanOk.body))))))))))))) sH rfl (VR_index (i := x9_15) Try.underlying35 sz52 rfl rfl (Src.buf (k := 2) rfl) g865 g866) ?_
                  refine DH_take (v := .pointer (some ((el A4 (x9_15.toNat * 2)).add 1))) 15 (by kernel_rfl) rfl rfl (.yes rfl rfl rfl rfl (h2790)) (PanOk.thn (PanOk.thn (PanOk.inb (PanOk.thn (PanOk.thn (PanOk.inb (PanOk.thn (PanOk.inb (PanOk.thn (PanOk.thn (PanOk.inb (PanOk.thn (PanOk.thn PanOk.body))))))))))))) sH rfl (VR.ofV (V_fieldAddrN (B := el A4 (x9_15.toNat * 2)) (m := 0) (o := 1) Try.underlying52 rfl nz3 rfl rfl)) ?_
                  refine DH_take 16 (by kernel_rfl) rfl rfl (.yes rfl rfl rfl rfl (h2790)) (PanOk.thn (PanOk.thn (PanOk.inb (PanOk.thn (PanOk.thn (PanOk.inb (PanOk.thn (PanOk.inb (PanOk.thn (PanOk.thn (PanOk.inb (PanOk.thn (PanOk.thn PanOk.body))))))))))))) sH rfl (VR_load_el (enc := enc52) (i := x9_15) (j := x9_15.toNat * 2) (m := 1) (sz := 2) Try.underlying3 rfl rfl rfl rfl (Src.buf (k := 2) rfl) g865 g866 (fun _ _ h => h) rfl) ?_
                  refine DH_take (v := .slice A4 r3.1.length c5) 17 (by kernel_rfl) rfl rfl (.yes rfl rfl rfl rfl (h2790)) (PanOk.thn (PanOk.thn (PanOk.inb (PanOk.thn (PanOk.thn (PanOk.inb (PanOk.thn (PanOk.inb (PanOk.thn (PanOk.thn (PanOk.inb (PanOk.thn (PanOk.thn PanOk.body))))))))))))) sH rfl (VR.ofV (V_move rfl)) ?_
                  refine DH_take (v := .int .i64 x10_20) 18 (by kernel_rfl) rfl rfl (.yes rfl rfl rfl rfl (h2790)) (PanOk.thn (PanOk.thn (PanOk.inb (PanOk.thn (PanOk.thn (PanOk.inb (PanOk.thn (PanOk.inb (PanOk.thn (PanOk.thn (PanOk.inb (PanOk.thn (PanOk.thn PanOk.body))))))))))))) sH rfl (VR.ofV (V_move rfl)) ?_
                  obtain ⟨⟨g1165, g1166⟩, H⟩ := g_pos H
                  refine DH_take 19 (by kernel_rfl) rfl rfl (.yes rfl rfl rfl rfl (h2790)) (PanOk.thn (PanOk.thn (PanOk.inb (PanOk.thn (PanOk.thn (PanOk.inb (PanOk.thn (PanOk.inb (PanOk.thn (PanOk.thn (PanOk.inb (PanOk.thn (PanOk.thn PanOk.body))))))))))))) sH rfl (VR_index (i := x10_20) Try.underlying35 sz52 rfl rfl (Src.buf (k := 2) rfl) g1165 g1166) ?_
                  refine DH_take (v := .pointer (some ((el A4 (x10_20.toNat * 2)).add 1))) 20 (by kernel_rfl) rfl rfl (.yes rfl rfl rfl rfl (h2790)) (PanOk.thn (PanOk.thn (PanOk.inb (PanOk.thn (PanOk.thn (PanOk.inb (PanOk.thn (PanOk.inb (PanOk.thn (PanOk.thn (PanOk.inb (PanOk.thn (PanOk.thn PanOk.body))))))))))))) sH rfl (VR.ofV (V_fieldAddrN (B := el A4 (x10_20.toNat * 2)) (m := 0) (o := 1) Try.underlying52 rfl nz3 rfl rfl)) ?_
                  refine DH_take 21 (by kernel_rfl) rfl rfl (.yes rfl rfl rfl rfl (h2790)) (PanOk.thn (PanOk.thn (PanOk.inb (PanOk.thn (PanOk.thn (PanOk.inb (PanOk.thn (PanOk.inb (PanOk.thn (PanOk.thn (PanOk.inb (PanOk.thn (PanOk.thn PanOk.body))))))))))))) sH rfl (VR_load_el (enc := enc52) (i := x10_20) (j := x10_20.toNat * 2) (m := 1) (sz := 2) Try.underlying3 rfl rfl rfl rfl (Src.buf (k := 2) rfl) g1165 g1166 (fun _ _ h => h) rfl) ?_
                  refine DH_take (v := .bool (decide (((rd r3.1 x9_15).f1) ≤ ((rd r3.1 x10_20).f1)))) 22 (by kernel_rfl) rfl rfl (.yes rfl rfl rfl rfl (h2790)) (PanOk.thn (PanOk.thn (PanOk.inb (PanOk.thn (PanOk.thn (PanOk.inb (PanOk.thn (PanOk.inb (PanOk.thn (PanOk.thn (PanOk.inb (PanOk.thn (PanOk.thn PanOk.body))))))))))))) sH rfl (VR.ofV (V_leq rfl rfl)) ?_
                  refine DH_take 23 (by kernel_rfl) rfl rfl (.no rfl) (PanOk.thn (PanOk.thn (PanOk.inb (PanOk.thn (PanOk.thn (PanOk.inb (PanOk.thn (PanOk.inb (PanOk.thn (PanOk.thn (PanOk.inb (PanOk.thn (PanOk.thn PanOk.body))))))))))))) sH rfl (VR.ofV (V_pickT rfl (h2790) rfl)) ?_
                  refine DH_take (v := .bool (decide (((rd r3.1 x9_15).f1) ≤ ((rd r3.1 x10_20).f1)))) 24 (by kernel_rfl) rfl rfl (.no rfl) (PanOk.thn (PanOk.thn (PanOk.inb (PanOk.thn (PanOk.thn (PanOk.inb (PanOk.thn (PanOk.inb (PanOk.thn (PanOk.thn (PanOk.inb (PanOk.thn (PanOk.thn PanOk.body))))))))))))) sH rfl (VR.ofV (V_move rfl)) ?_
                  by_cases h2791 : ((rd r3.1 x9_15).f1) ≤ ((rd r3.1 x10_20).f1)
                  · replace H := g_ift h2791 H
                    refine DH_take (v := .slice A4 r3.1.length c5) 25 (by kernel_rfl) rfl rfl (.yes rfl rfl rfl rfl (dec_t h2791)) (PanOk.thn (PanOk.thn (PanOk.inb (PanOk.thn (PanOk.thn (PanOk.inb (PanOk.thn (PanOk.inb (PanOk.thn (PanOk.thn (PanOk.inb (PanOk.thn (PanOk.thn PanOk.body))))))))))))) sH rfl (VR.ofV (V_move rfl)) ?_
                    refine DH_take (v := .int .i64 x10_20) 26 (by kernel_rfl) rfl rfl (.yes rfl rfl rfl rfl (dec_t h2791)) (PanOk.thn (PanOk.thn (PanOk.inb (PanOk.thn (PanOk.thn (PanOk.inb (PanOk.thn (PanOk.inb (PanOk.thn (PanOk.thn (PanOk.inb (PanOk.thn (PanOk.thn PanOk.body))))))))))))) sH rfl (VR.ofV (V_move rfl)) ?_
                    obtain ⟨⟨g1645, g1646⟩, H⟩ := g_pos H
                    refine DH_take 27 (by kernel_rfl) rfl rfl (.yes rfl rfl rfl rfl (dec_t h2791)) (PanOk.thn (PanOk.thn (PanOk.inb (PanOk.thn (PanOk.thn (PanOk.inb (PanOk.thn (PanOk.inb (PanOk.thn (PanOk.thn (PanOk.inb (PanOk.thn (PanOk.thn PanOk.body))))))))))))) sH rfl (VR_index (i := x10_20) Try.underlying35 sz52 rfl rfl (Src.buf (k := 2) rfl) g1645 g1646) ?_
                    refine DH_take (v := .pointer (some ((el A4 (x10_20.toNat * 2)).add 0))) 28 (by kernel_rfl) rfl rfl (.yes rfl rfl rfl rfl (dec_t h2791)) (PanOk.thn (PanOk.thn (PanOk.inb (PanOk.thn (PanOk.thn (PanOk.inb (PanOk.thn (PanOk.inb (PanOk.thn (PanOk.thn (PanOk.inb (PanOk.thn (PanOk.thn PanOk.body))))))))))))) sH rfl (VR.ofV (V_fieldAddrN (B := el A4 (x10_20.toNat * 2)) (m := 0) (o := 0) Try.underlying52 rfl nz50 rfl rfl)) ?_
                    refine DH_take 29 (by kernel_rfl) rfl rfl (.yes rfl rfl rfl rfl (dec_t h2791)) (PanOk.thn (PanOk.thn (PanOk.inb (PanOk.thn (PanOk.thn (PanOk.inb (PanOk.thn (PanOk.inb (PanOk.thn (PanOk.thn (PanOk.inb (PanOk.thn (PanOk.thn PanOk.body))))))))))))) sH rfl (VR_load_el (enc := enc52) (i := x10_20) (j := x10_20.toNat * 2) (m := 0) (sz := 2) Try.underlying50 rfl rfl rfl rfl (Src.buf (k := 2) rfl) g1645 g1646 (fun _ _ h => h) rfl) ?_
                    refine DH_take (v := .slice A4 r3.1.length c5) 30 (by kernel_rfl) rfl rfl (.yes rfl rfl rfl rfl (dec_t h2791)) (PanOk.thn (PanOk.thn (PanOk.inb (PanOk.thn (PanOk.thn (PanOk.inb (PanOk.thn (PanOk.inb (PanOk.thn (PanOk.thn (PanOk.inb (PanOk.thn (PanOk.thn PanOk.body))))))))))))) sH rfl (VR.ofV (V_move rfl)) ?_
                    refine DH_take (v := .int .i64 x9_15) 31 (by kernel_rfl) rfl rfl (.yes rfl rfl rfl rfl (dec_t h2791)) (PanOk.thn (PanOk.thn (PanOk.inb (PanOk.thn (PanOk.thn (PanOk.inb (PanOk.thn (PanOk.inb (PanOk.thn (PanOk.thn (PanOk.inb (PanOk.thn (PanOk.thn PanOk.body))))))))))))) sH rfl (VR.ofV (V_move rfl)) ?_
                    obtain ⟨⟨g1945, g1946⟩, H⟩ := g_pos H
                    refine DH_take 32 (by kernel_rfl) rfl rfl (.yes rfl rfl rfl rfl (dec_t h2791)) (PanOk.thn (PanOk.thn (PanOk.inb (PanOk.thn (PanOk.thn (PanOk.inb (PanOk.thn (PanOk.inb (PanOk.thn (PanOk.thn (PanOk.inb (PanOk.thn (PanOk.thn PanOk.body))))))))))))) sH rfl (VR_index (i := x9_15) Try.underlying35 sz52 rfl rfl (Src.buf (k := 2) rfl) g1945 g1946) ?_
                    refine DH_take (v := .pointer (some ((el A4 (x9_15.toNat * 2)).add 1))) 33 (by kernel_rfl) rfl rfl (.yes rfl rfl rfl rfl (dec_t h2791)) (PanOk.thn (PanOk.thn (PanOk.inb (PanOk.thn (PanOk.thn (PanOk.inb (PanOk.thn (PanOk.inb (PanOk.thn (PanOk.thn (PanOk.inb (PanOk.thn (PanOk.thn PanOk.body))))))))))))) sH rfl (VR.ofV (V_fieldAddrN (B := el A4 (x9_15.toNat * 2)) (m := 0) (o := 1) Try.underlying52 rfl nz3 rfl rfl)) ?_
                    refine DH_take 34 (by kernel_rfl) rfl rfl (.yes rfl rfl rfl rfl (dec_t h2791)) (PanOk.thn (PanOk.thn (PanOk.inb (PanOk.thn (PanOk.thn (PanOk.inb (PanOk.thn (PanOk.inb (PanOk.thn (PanOk.thn (PanOk.inb (PanOk.thn (PanOk.thn PanOk.body))))))))))))) sH rfl (VR_load_el (enc := enc52) (i := x9_15) (j := x9_15.toNat * 2) (m := 1) (sz := 2) Try.underlying3 rfl rfl rfl rfl (Src.buf (k := 2) rfl) g1945 g1946 (fun _ _ h => h) rfl) ?_
                    refine DH_take (v := .int .u64 (IntKind.u64.wrap ((rd r3.1 x9_15).f1))) 35 (by kernel_rfl) rfl rfl (.yes rfl rfl rfl rfl (dec_t h2791)) (PanOk.thn (PanOk.thn (PanOk.inb (PanOk.thn (PanOk.thn (PanOk.inb (PanOk.thn (PanOk.inb (PanOk.thn (PanOk.thn (PanOk.inb (PanOk.thn (PanOk.thn PanOk.body))))))))))))) sH rfl (VR.ofV (V_conv (T := 3) (by kernel_rfl) Try.underlying53 rfl)) ?_
                    obtain ⟨g2185, H⟩ := g_pos H
                    refine DH_take (v := .int .u64 (shlI .u64 1 (IntKind.u64.wrap ((rd r3.1 x9_15).f1)))) 36 (by kernel_rfl) rfl rfl (.yes rfl rfl rfl rfl (dec_t h2791)) (PanOk.thn (PanOk.thn (PanOk.inb (PanOk.thn (PanOk.thn (PanOk.inb (PanOk.thn (PanOk.inb (PanOk.thn (PanOk.thn (PanOk.inb (PanOk.thn (PanOk.thn PanOk.body))))))))))))) sH rfl (VR.ofV (V_shl rfl rfl g2185)) ?_
                    refine DH_take (v := .int .u64 (IntKind.u64.wrap ((shlI .u64 1 (IntKind.u64.wrap ((rd r3.1 x9_15).f1))) - 1))) 37 (by kernel_rfl) rfl rfl (.yes rfl rfl rfl rfl (dec_t h2791)) (PanOk.thn (PanOk.thn (PanOk.inb (PanOk.thn (PanOk.thn (PanOk.inb (PanOk.thn (PanOk.inb (PanOk.thn (PanOk.thn (PanOk.inb (PanOk.thn (PanOk.thn PanOk.body))))))))))))) sH rfl (VR.ofV (V_sub rfl rfl)) ?_
                    refine DH_take (v := .int .u64 (andI .u64 ((rd r3.1 x10_20).f0) (IntKind.u64.wrap ((shlI .u64 1 (IntKind.u64.wrap ((rd r3.1 x9_15).f1))) - 1)))) 38 (by kernel_rfl) rfl rfl (.yes rfl rfl rfl rfl (dec_t h2791)) (PanOk.thn (PanOk.thn (PanOk.inb (PanOk.thn (PanOk.thn (PanOk.inb (PanOk.thn (PanOk.inb (PanOk.thn (PanOk.thn (PanOk.inb (PanOk.thn (PanOk.thn PanOk.body))))))))))))) sH rfl (VR.ofV (V_and rfl rfl)) ?_
                    refine DH_take (v := .slice A4 r3.1.length c5) 39 (by kernel_rfl) rfl rfl (.yes rfl rfl rfl rfl (dec_t h2791)) (PanOk.thn (PanOk.thn (PanOk.inb (PanOk.thn (PanOk.thn (PanOk.inb (PanOk.thn (PanOk.inb (PanOk.thn (PanOk.thn (PanOk.inb (PanOk.thn (PanOk.thn PanOk.body))))))))))))) sH rfl (VR.ofV (V_move rfl)) ?_
                    refine DH_take (v := .int .i64 x9_15) 40 (by kernel_rfl) rfl rfl (.yes rfl rfl rfl rfl (dec_t h2791)) (PanOk.thn (PanOk.thn (PanOk.inb (PanOk.thn (PanOk.thn (PanOk.inb (PanOk.thn (PanOk.inb (PanOk.thn (PanOk.thn (PanOk.inb (PanOk.thn (PanOk.thn PanOk.body))))))))))))) sH rfl (VR.ofV (V_move rfl)) ?_
                    obtain ⟨⟨g2485, g2486⟩, H⟩ := g_pos H
                    refine DH_take 41 (by kernel_rfl) rfl rfl (.yes rfl rfl rfl rfl (dec_t h2791)) (PanOk.thn (PanOk.thn (PanOk.inb (PanOk.thn (PanOk.thn (PanOk.inb (PanOk.thn (PanOk.inb (PanOk.thn (PanOk.thn (PanOk.inb (PanOk.thn (PanOk.thn PanOk.body))))))))))))) sH rfl (VR_index (i := x9_15) Try.underlying35 sz52 rfl rfl (Src.buf (k := 2) rfl) g2485 g2486) ?_
                    refine DH_take (v := .pointer (some ((el A4 (x9_15.toNat * 2)).add 0))) 42 (by kernel_rfl) rfl rfl (.yes rfl rfl rfl rfl (dec_t h2791)) (PanOk.thn (PanOk.thn (PanOk.inb (PanOk.thn (PanOk.thn (PanOk.inb (PanOk.thn (PanOk.inb (PanOk.thn (PanOk.thn (PanOk.inb (PanOk.thn (PanOk.thn PanOk.body))))))))))))) sH rfl (VR.ofV (V_fieldAddrN (B := el A4 (x9_15.toNat * 2)) (m := 0) (o := 0) Try.underlying52 rfl nz50 rfl rfl)) ?_
                    refine DH_take 43 (by kernel_rfl) rfl rfl (.yes rfl rfl rfl rfl (dec_t h2791)) (PanOk.thn (PanOk.thn (PanOk.inb (PanOk.thn (PanOk.thn (PanOk.inb (PanOk.thn (PanOk.inb (PanOk.thn (PanOk.thn (PanOk.inb (PanOk.thn (PanOk.thn PanOk.body))))))))))))) sH rfl (VR_load_el (enc := enc52) (i := x9_15) (j := x9_15.toNat * 2) (m := 0) (sz := 2) Try.underlying50 rfl rfl rfl rfl (Src.buf (k := 2) rfl) g2485 g2486 (fun _ _ h => h) rfl) ?_
                    refine DH_take (v := .bool (decide ((andI .u64 ((rd r3.1 x10_20).f0) (IntKind.u64.wrap ((shlI .u64 1 (IntKind.u64.wrap ((rd r3.1 x9_15).f1))) - 1))) = ((rd r3.1 x9_15).f0)))) 44 (by kernel_rfl) rfl rfl (.yes rfl rfl rfl rfl (dec_t h2791)) (PanOk.thn (PanOk.thn (PanOk.inb (PanOk.thn (PanOk.thn (PanOk.inb (PanOk.thn (PanOk.inb (PanOk.thn (PanOk.thn (PanOk.inb (PanOk.thn (PanOk.thn PanOk.body))))))))))))) sH rfl (VR.ofV (V_eql rfl rfl)) ?_
                    refine DH_take 45 (by kernel_rfl) rfl rfl (.no rfl) (PanOk.thn (PanOk.thn (PanOk.inb (PanOk.thn (PanOk.thn (PanOk.inb (PanOk.thn (PanOk.inb (PanOk.thn (PanOk.thn (PanOk.inb (PanOk.thn (PanOk.thn PanOk.body))))))))))))) sH rfl (VR.ofV (V_pickT rfl (dec_t h2791) rfl)) ?_
                    refine DH_open dd sH ?_
                    refine DN_done (by kernel_rfl) ?_
                    have hr_ := Option.some.inj H
                    subst hr_
                    exact at_normal (St.mk1 (aeq rfl (aeq rfl (aeq rfl (aeq rfl (aeq rfl (aeq rfl (aeq rfl (aeq rfl aeq0)))))))) (Gh.sel [0, 1, 2] rfl rfl))
                  · replace H := g_iff h2791 H
                    refine DH_skip 25 (by kernel_rfl) rfl rfl (.no rfl rfl rfl rfl (dec_f h2791)) (PanOk.thn (PanOk.thn (PanOk.inb (PanOk.thn (PanOk.thn (PanOk.inb (PanOk.thn (PanOk.inb (PanOk.thn (PanOk.thn (PanOk.inb (PanOk.thn (PanOk.thn PanOk.body))))))))))))) rfl ?_
                    refine DH_skip 26 (by kernel_rfl) rfl rfl (.no rfl rfl rfl rfl (dec_f h2791)) (PanOk.thn (PanOk.thn (PanOk.inb (PanOk.thn (PanOk.thn (PanOk.inb (PanOk.thn (PanOk.inb (PanOk.thn (PanOk.thn (PanOk.inb (PanOk.thn (PanOk.thn PanOk.body))))))))))))) rfl ?_
                    refine DH_skip 27 (by kernel_rfl) rfl rfl (.no rfl rfl rfl rfl (dec_f h2791)) (PanOk.thn (PanOk.thn (PanOk.inb (PanOk.thn (PanOk.thn (PanOk.inb (PanOk.thn (PanOk.inb (PanOk.thn (PanOk.thn (PanOk.inb (PanOk.thn (PanOk.thn PanOk.body))))))))))))) rfl ?_
                    refine DH_skip 28 (by kernel_rfl) rfl rfl (.no rfl rfl rfl rfl (dec_f h2791)) (PanOk.thn (PanOk.thn (PanOk.inb (PanOk.thn (PanOk.thn (PanOk.inb (PanOk.thn (PanOk.inb (PanOk.thn (PanOk.thn (PanOk.inb (PanOk.thn (PanOk.thn PanOk.body))))))))))))) rfl ?_
                    refine DH_skip 29 (by kernel_rfl) rfl rfl (.no rfl rfl rfl rfl (dec_f h2791)) (PanOk.thn (PanOk.thn (PanOk.inb (PanOk.thn (PanOk.thn (PanOk.inb (PanOk.thn (PanOk.inb (PanOk.thn (PanOk.thn (PanOk.inb (PanOk.thn (PanOk.thn PanOk.body))))))))))))) rfl ?_
                    refine DH_skip 30 (by kernel_rfl) rfl rfl (.no rfl rfl rfl rfl (dec_f h2791)) (PanOk.thn (PanOk.thn (PanOk.inb (PanOk.thn (PanOk.thn (PanOk.inb (PanOk.thn (PanOk.inb (PanOk.thn (PanOk.thn (PanOk.inb (PanOk.thn (PanOk.thn PanOk.body))))))))))))) rfl ?_
                    refine DH_skip 31 (by kernel_rfl) rfl rfl (.no rfl rfl rfl rfl (dec_f h2791)) (PanOk.thn (PanOk.thn (PanOk.inb (PanOk.thn (PanOk.thn (PanOk.inb (PanOk.thn (PanOk.inb (PanOk.thn (PanOk.thn (PanOk.inb (PanOk.thn (PanOk.thn PanOk.body))))))))))))) rfl ?_
                    refine DH_skip 32 (by kernel_rfl) rfl rfl (.no rfl rfl rfl rfl (dec_f h2791)) (PanOk.thn (PanOk.thn (PanOk.inb (PanOk.thn (PanOk.thn (PanOk.inb (PanOk.thn (PanOk.inb (PanOk.thn (PanOk.thn (PanOk.inb (PanOk.thn (PanOk.thn PanOk.body))))))))))))) rfl ?_
                    refine DH_skip 33 (by kernel_rfl) rfl rfl (.no rfl rfl rfl rfl (dec_f h2791)) (PanOk.thn (PanOk.thn (PanOk.inb (PanOk.thn (PanOk.thn (PanOk.inb (PanOk.thn (PanOk.inb (PanOk.thn (PanOk.thn (PanOk.inb (PanOk.thn (PanOk.thn PanOk.body))))))))))))) rfl ?_
                    refine DH_skip 34 (by kernel_rfl) rfl rfl (.no rfl rfl rfl rfl (dec_f h2791)) (PanOk.thn (PanOk.thn (PanOk.inb (PanOk.thn (PanOk.thn (PanOk.inb (PanOk.thn (PanOk.inb (PanOk.thn (PanOk.thn (PanOk.inb (PanOk.thn (PanOk.thn PanOk.body))))))))))))) rfl ?_
                    refine DH_skip 35 (by kernel_rfl) rfl rfl (.no rfl rfl rfl rfl (dec_f h2791)) (PanOk.thn (PanOk.thn (PanOk.inb (PanOk.thn (PanOk.thn (PanOk.inb (PanOk.thn (PanOk.inb (PanOk.thn (PanOk.thn (PanOk.inb (PanOk.thn (PanOk.thn PanOk.body))))))))))))) rfl ?_
                    refine DH_skip 36 (by kernel_rfl) rfl rfl (.no rfl rfl rfl rfl (dec_f h2791)) (PanOk.thn (PanOk.thn (PanOk.inb (PanOk.thn (PanOk.thn (PanOk.inb (PanOk.thn (PanOk.inb (PanOk.thn (PanOk.thn (PanOk.inb (PanOk.thn (PanOk.thn PanOk.body))))))))))))) rfl ?_
                    refine DH_skip 37 (by kernel_rfl) rfl rfl (.no rfl rfl rfl rfl (dec_f h2791)) (PanOk.thn (PanOk.thn (PanOk.inb (PanOk.thn (PanOk.thn (PanOk.inb (PanOk.thn (PanOk.inb (PanOk.thn (PanOk.thn (PanOk.inb (PanOk.thn (PanOk.thn PanOk.body))))))))))))) rfl ?_
                    refine DH_skip 38 (by kernel_rfl) rfl rfl (.no rfl rfl rfl rfl (dec_f h2791)) (PanOk.thn (PanOk.thn (PanOk.inb (PanOk.thn (PanOk.thn (PanOk.inb (PanOk.thn (PanOk.inb (PanOk.thn (PanOk.thn (PanOk.inb (PanOk.thn (PanOk.thn PanOk.body))))))))))))) rfl ?_
                    refine DH_skip 39 (by kernel_rfl) rfl rfl (.no rfl rfl rfl rfl (dec_f h2791)) (PanOk.thn (PanOk.thn (PanOk.inb (PanOk.thn (PanOk.thn (PanOk.inb (PanOk.thn (PanOk.inb (PanOk.thn (PanOk.thn (PanOk.inb (PanOk.thn (PanOk.thn PanOk.body))))))))))))) rfl ?_
                    refine DH_skip 40 (by kernel_rfl) rfl rfl (.no rfl rfl rfl rfl (dec_f h2791)) (PanOk.thn (PanOk.thn (PanOk.inb (PanOk.thn (PanOk.thn (PanOk.inb (PanOk.thn (PanOk.inb (PanOk.thn (PanOk.thn (PanOk.inb (PanOk.thn (PanOk.thn PanOk.body))))))))))))) rfl ?_
                    refine DH_skip 41 (by kernel_rfl) rfl rfl (.no rfl rfl rfl rfl (dec_f h2791)) (PanOk.thn (PanOk.thn (PanOk.inb (PanOk.thn (PanOk.thn (PanOk.inb (PanOk.thn (PanOk.inb (PanOk.thn (PanOk.thn (PanOk.inb (PanOk.thn (PanOk.thn PanOk.body))))))))))))) rfl ?_
                    refine DH_skip 42 (by kernel_rfl) rfl rfl (.no rfl rfl rfl rfl (dec_f h2791)) (PanOk.thn (PanOk.thn (PanOk.inb (PanOk.thn (PanOk.thn (PanOk.inb (PanOk.thn (PanOk.inb (PanOk.thn (PanOk.thn (PanOk.inb (PanOk.thn (PanOk.thn PanOk.body))))))))))))) rfl ?_
                    refine DH_skip 43 (by kernel_rfl) rfl rfl (.no rfl rfl rfl rfl (dec_f h2791)) (PanOk.thn (PanOk.thn (PanOk.inb (PanOk.thn (PanOk.thn (PanOk.inb (PanOk.thn (PanOk.inb (PanOk.thn (PanOk.thn (PanOk.inb (PanOk.thn (PanOk.thn PanOk.body))))))))))))) rfl ?_
                    refine DH_skip 44 (by kernel_rfl) rfl rfl (.no rfl rfl rfl rfl (dec_f h2791)) (PanOk.thn (PanOk.thn (PanOk.inb (PanOk.thn (PanOk.thn (PanOk.inb (PanOk.thn (PanOk.inb (PanOk.thn (PanOk.thn (PanOk.inb (PanOk.thn (PanOk.thn PanOk.body))))))))))))) rfl ?_
                    refine DH_take 45 (by kernel_rfl) rfl rfl (.no rfl) (PanOk.thn (PanOk.thn (PanOk.inb (PanOk.thn (PanOk.thn (PanOk.inb (PanOk.thn (PanOk.inb (PanOk.thn (PanOk.thn (PanOk.inb (PanOk.thn (PanOk.thn PanOk.body))))))))))))) sH rfl (VR.ofV (V_pickF rfl (dec_f h2791) rfl)) ?_
                    refine DH_open dd sH ?_
                    refine DN_done (by kernel_rfl) ?_
                    have hr_ := Option.some.inj H
                    subst hr_
                    exact at_normal (St.mk1 (aeq rfl (aeq rfl (aeq rfl (aeq rfl (aeq rfl (aeq rfl (aeq rfl (aeq rfl aeq0)))))))) (Gh.sel [0, 1, 2] rfl rfl))
                · replace H := g_iff h2790 H
                  refine DH_skip 12 (by kernel_rfl) rfl rfl (.no rfl rfl rfl rfl (bno h2790)) (PanOk.thn (PanOk.thn (PanOk.inb (PanOk.thn (PanOk.thn (PanOk.inb (PanOk.thn (PanOk.inb (PanOk.thn (PanOk.thn (PanOk.inb (PanOk.thn (PanOk.thn PanOk.body))))))))))))) rfl ?_
                  refine DH_skip 13 (by kernel_rfl) rfl rfl (.no rfl rfl rfl rfl (bno h2790)) (PanOk.thn (PanOk.thn (PanOk.inb (PanOk.thn (PanOk.thn (PanOk.inb (PanOk.thn (PanOk.inb (PanOk.thn (PanOk.thn (PanOk.inb (PanOk.thn (PanOk.thn PanOk.body))))))))))))) rfl ?_
                  refine DH_skip 14 (by kernel_rfl) rfl rfl (.no rfl rfl rfl rfl (bno h2790)) (PanOk.thn (PanOk.thn (PanOk.inb (PanOk.thn (PanOk.thn (PanOk.inb (PanOk.thn (PanOk.inb (PanOk.thn (PanOk.thn (PanOk.inb (PanOk.thn (PanOk.thn PanOk.body))))))))))))) rfl ?_
                  refine DH_skip 15 (by kernel_rfl) rfl rfl (.no rfl rfl rfl rfl (bno h2790)) (PanOk.thn (PanOk.thn (PanOk.inb (PanOk.thn (PanOk.thn (PanOk.inb (PanOk.thn (PanOk.inb (PanOk.thn (PanOk.thn (PanOk.inb (PanOk.thn (PanOk.thn PanOk.body))))))))))))) rfl ?_
                  refine DH_skip 16 (by kernel_rfl) rfl rfl (.no rfl rfl rfl rfl (bno h2790)) (PanOk.thn (PanOk.thn (PanOk.inb (PanOk.thn (PanOk.thn (PanOk.inb (PanOk.thn (PanOk.inb (PanOk.thn (PanOk.thn (PanOk.inb (PanOk.thn (PanOk.thn PanOk.body))))))))))))) rfl ?_
                  refine DH_skip 17 (by kernel_rfl) rfl rfl (.no rfl rfl rfl rfl (bno h2790)) (PanOk.thn (PanOk.thn (PanOk.inb (PanOk.thn (PanOk.thn (PanOk.inb (PanOk.thn (PanOk.inb (PanOk.thn (PanOk.thn (PanOk.inb (PanOk.thn (PanOk.thn PanOk.body))))))))))))) rfl ?_
                  refine DH_skip 18 (by kernel_rfl) rfl rfl (.no rfl rfl rfl rfl (bno h2790)) (PanOk.thn (PanOk.thn (PanOk.inb (PanOk.thn (PanOk.thn (PanOk.inb (PanOk.thn (PanOk.inb (PanOk.thn (PanOk.thn (PanOk.inb (PanOk.thn (PanOk.thn PanOk.body))))))))))))) rfl ?_
                  refine DH_skip 19 (by kernel_rfl) rfl rfl (.no rfl rfl rfl rfl (bno h2790)) (PanOk.thn (PanOk.thn (PanOk.inb (PanOk.thn (PanOk.thn (PanOk.inb (PanOk.thn (PanOk.inb (PanOk.thn (PanOk.thn (PanOk.inb (PanOk.thn (PanOk.thn PanOk.body))))))))))))) rfl ?_
                  refine DH_skip 20 (by kernel_rfl) rfl rfl (.no rfl rfl rfl rfl (bno h2790)) (PanOk.thn (PanOk.thn (PanOk.inb (PanOk.thn (PanOk.thn (PanOk.inb (PanOk.thn (PanOk.inb (PanOk.thn (PanOk.thn (PanOk.inb (PanOk.thn (PanOk.thn PanOk.body))))))))))))) rfl ?_
                  refine DH_skip 21 (by kernel_rfl) rfl rfl (.no rfl rfl rfl rfl (bno h2790)) (PanOk.thn (PanOk.thn (PanOk.inb (PanOk.thn (PanOk.thn (PanOk.inb (PanOk.thn (PanOk.inb (PanOk.thn (PanOk.thn (PanOk.inb (PanOk.thn (PanOk.thn PanOk.body))))))))))))) rfl ?_
                  refine DH_skip 22 (by kernel_rfl) rfl rfl (.no rfl rfl rfl rfl (bno h2790)) (PanOk.thn (PanOk.thn (PanOk.inb (PanOk.thn (PanOk.thn (PanOk.inb (PanOk.thn (PanOk.inb (PanOk.thn (PanOk.thn (PanOk.inb (PanOk.thn (PanOk.thn PanOk.body))))))))))))) rfl ?_
                  refine DH_take 23 (by kernel_rfl) rfl rfl (.no rfl) (PanOk.thn (PanOk.thn (PanOk.inb (PanOk.thn (PanOk.thn (PanOk.inb (PanOk.thn (PanOk.inb (PanOk.thn (PanOk.thn (PanOk.inb (PanOk.thn (PanOk.thn PanOk.body))))))))))))) sH rfl (VR.ofV (V_pickF rfl (bno h2790) rfl)) ?_
                  refine DH_take (v := .bool false) 24 (by kernel_rfl) rfl rfl (.no rfl) (PanOk.thn (PanOk.thn (PanOk.inb (PanOk.thn (PanOk.thn (PanOk.inb (PanOk.thn (PanOk.inb (PanOk.thn (PanOk.thn (PanOk.inb (PanOk.thn (PanOk.thn PanOk.body))))))))))))) sH rfl (VR.ofV (V_move rfl)) ?_
                  by_cases h2792 : false = true
                  · replace H := g_ift h2792 H
                    refine DH_take (v := .slice A4 r3.1.length c5) 25 (by kernel_rfl) rfl rfl (.yes rfl rfl rfl rfl (h2792)) (PanOk.thn (PanOk.thn (PanOk.inb (PanOk.thn (PanOk.thn (PanOk.inb (PanOk.thn (PanOk.inb (PanOk.thn (PanOk.thn (PanOk.inb (PanOk.thn (PanOk.thn PanOk.body))))))))))))) sH rfl (VR.ofV (V_move rfl)) ?_
                    refine DH_take (v := .int .i64 x10_20) 26 (by kernel_rfl) rfl rfl (.yes rfl rfl rfl rfl (h2792)) (PanOk.thn (PanOk.thn (PanOk.inb (PanOk.thn (PanOk.thn (PanOk.inb (PanOk.thn (PanOk.inb (PanOk.thn (PanOk.thn (PanOk.inb (PanOk.thn (PanOk.thn PanOk.body))))))))))))) sH rfl (VR.ofV (V_move rfl)) ?_
                    obtain ⟨⟨g1645, g1646⟩, H⟩ := g_pos H
                    refine DH_take 27 (by kernel_rfl) rfl rfl (.yes rfl rfl rfl rfl (h2792)) (PanOk.thn (PanOk.thn (PanOk.inb (PanOk.thn (PanOk.thn (PanOk.inb (PanOk.thn (PanOk.inb (PanOk.thn (PanOk.thn (PanOk.inb (PanOk.thn (PanOk.thn PanOk.body))))))))))))) sH rfl (VR_index (i := x10_20) Try.underlying35 sz52 rfl rfl (Src.buf (k := 2) rfl) g1645 g1646) ?_
                    refine DH_take (v := .pointer (some ((el A4 (x10_20.toNat * 2)).add 0))) 28 (by kernel_rfl) rfl rfl (.yes rfl rfl rfl rfl (h2792)) (PanOk.thn (PanOk.thn (PanOk.inb (PanOk.thn (PanOk.thn (PanOk.inb (PanOk.thn (PanOk.inb (PanOk.thn (PanOk.thn (PanOk.inb (PanOk.thn (PanOk.thn PanOk.body))))))))))))) sH rfl (VR.ofV (V_fieldAddrN (B := el A4 (x10_20.toNat * 2)) (m := 0) (o := 0) Try.underlying52 rfl nz50 rfl rfl)) ?_
                    refine DH_take 29 (by kernel_rfl) rfl rfl (.yes rfl rfl rfl rfl (h2792)) (PanOk.thn (PanOk.thn (PanOk.inb (PanOk.thn (PanOk.thn (PanOk.inb (PanOk.thn (PanOk.inb (PanOk.thn (PanOk.thn (PanOk.inb (PanOk.thn (PanOk.thn PanOk.body))))))))))))) sH rfl (VR_load_el (enc := enc52) (i := x10_20) (j := x10_20.toNat * 2) (m := 0) (sz := 2) Try.underlying50 rfl rfl rfl rfl (Src.buf (k := 2) rfl) g1645 g1646 (fun _ _ h => h) rfl) ?_
                    refine DH_take (v := .slice A4 r3.1.length c5) 30 (by kernel_rfl) rfl rfl (.yes rfl rfl rfl rfl (h2792)) (PanOk.thn (PanOk.thn (PanOk.inb (PanOk.thn (PanOk.thn (PanOk.inb (PanOk.thn (PanOk.inb (PanOk.thn (PanOk.thn (PanOk.inb (PanOk.thn (PanOk.thn PanOk.body))))))))))))) sH rfl (VR.ofV (V_move rfl)) ?_
                    refine DH_take (v := .int .i64 x9_15) 31 (by kernel_rfl) rfl rfl (.yes rfl rfl rfl rfl (h2792)) (PanOk.thn (PanOk.thn (PanOk.inb (PanOk.thn (PanOk.thn (PanOk.inb (PanOk.thn (PanOk.inb (PanOk.thn (PanOk.thn (PanOk.inb (PanOk.thn (PanOk.thn PanOk.body))))))))))))) sH rfl (VR.ofV (V_move rfl)) ?_
                    obtain ⟨⟨g1945, g1946⟩, H⟩ := g_pos H
                    refine DH_take 32 (by kernel_rfl) rfl rfl (.yes rfl rfl rfl rfl (h2792)) (PanOk.thn (PanOk.thn (PanOk.inb (PanOk.thn (PanOk.thn (PanOk.inb (PanOk.thn (PanOk.inb (PanOk.thn (PanOk.thn (PanOk.inb (PanOk.thn (PanOk.thn PanOk.body))))))))))))) sH rfl (VR_index (i := x9_15) Try.underlying35 sz52 rfl rfl (Src.buf (k := 2) rfl) g1945 g1946) ?_
                    refine DH_take (v := .pointer (some ((el A4 (x9_15.toNat * 2)).add 1))) 33 (by kernel_rfl) rfl rfl (.yes rfl rfl rfl rfl (h2792)) (PanOk.thn (PanOk.thn (PanOk.inb (PanOk.thn (PanOk.thn (PanOk.inb (PanOk.thn (PanOk.inb (PanOk.thn (PanOk.thn (PanOk.inb (PanOk.thn (PanOk.thn PanOk.body))))))))))))) sH rfl (VR.ofV (V_fieldAddrN (B := el A4 (x9_15.toNat * 2)) (m := 0) (o := 1) Try.underlying52 rfl nz3 rfl rfl)) ?_
                    refine DH_take 34 (by kernel_rfl) rfl rfl (.yes rfl rfl rfl rfl (h2792)) (PanOk.thn (PanOk.thn (PanOk.inb (PanOk.thn (PanOk.thn (PanOk.inb (PanOk.thn (PanOk.inb (PanOk.thn (PanOk.thn (PanOk.inb (PanOk.thn (PanOk.thn PanOk.body))))))))))))) sH rfl (VR_load_el (enc := enc52) (i := x9_15) (j := x9_15.toNat * 2) (m := 1) (sz := 2) Try.underlying3 rfl rfl rfl rfl (Src.buf (k := 2) rfl) g1945 g1946 (fun _ _ h => h) rfl) ?_
                    refine DH_take (v := .int .u64 (IntKind.u64.wrap ((rd r3.1 x9_15).f1))) 35 (by kernel_rfl) rfl rfl (.yes rfl rfl rfl rfl (h2792)) (PanOk.thn (PanOk.thn (PanOk.inb (PanOk.thn (PanOk.thn (PanOk.inb (PanOk.thn (PanOk.inb (PanOk.thn (PanOk.thn (PanOk.inb (PanOk.thn (PanOk.thn PanOk.body))))))))))))) sH rfl (VR.ofV (V_conv (T := 3) (by kernel_rfl) Try.underlying53 rfl)) ?_
                    obtain ⟨g2185, H⟩ := g_pos H
                    refine DH_take (v := .int .u64 (shlI .u64 1 (IntKind.u64.wrap ((rd r3.1 x9_15).f1)))) 36 (by kernel_rfl) rfl rfl (.yes rfl rfl rfl rfl (h2792)) (PanOk.thn (PanOk.thn (PanOk.inb (PanOk.thn (PanOk.thn (PanOk.inb (PanOk.thn (PanOk.inb (PanOk.thn (PanOk.thn (PanOk.inb (PanOk.thn (PanOk.thn PanOk.body))))))))))))) sH rfl (VR.ofV (V_shl rfl rfl g2185)) ?_
                    refine DH_take (v := .int .u64 (IntKind.u64.wrap ((shlI .u64 1 (IntKind.u64.wrap ((rd r3.1 x9_15).f1))) - 1))) 37 (by kernel_rfl) rfl rfl (.yes rfl rfl rfl rfl (h2792)) (PanOk.thn (PanOk.thn (PanOk.inb (PanOk.thn (PanOk.thn (PanOk.inb (PanOk.thn (PanOk.inb (PanOk.thn (PanOk.thn (PanOk.inb (PanOk.thn (PanOk.thn PanOk.body))))))))))))) sH rfl (VR.ofV (V_sub rfl rfl)) ?_
                    refine DH_take (v := .int .u64 (andI .u64 ((rd r3.1 x10_20).f0) (IntKind.u64.wrap ((shlI .u64 1 (IntKind.u64.wrap ((rd r3.1 x9_15).f1))) - 1)))) 38 (by kernel_rfl) rfl rfl (.yes rfl rfl rfl rfl (h2792)) (PanOk.thn (PanOk.thn (PanOk.inb (PanOk.thn (PanOk.thn (PanOk.inb (PanOk.thn (PanOk.inb (PanOk.thn (PanOk.thn (PanOk.inb (PanOk.thn (PanOk.thn PanOk.body))))))))))))) sH rfl (VR.ofV (V_and rfl rfl)) ?_
                    refine DH_take (v := .slice A4 r3.1.length c5) 39 (by kernel_rfl) rfl rfl (.yes rfl rfl rfl rfl (h2792)) (PanOk.thn (PanOk.thn (PanOk.inb (PanOk.thn (PanOk.thn (PanOk.inb (PanOk.thn (PanOk.inb (PanOk.thn (PanOk.thn (PanOk.inb (PanOk.thn (PanOk.thn PanOk.body))))))))))))) sH rfl (VR.ofV (V_move rfl)) ?_
                    refine DH_take (v := .int .i64 x9_15) 40 (by kernel_rfl) rfl rfl (.yes rfl rfl rfl rfl (h2792)) (PanOk.thn (PanOk.thn (PanOk.inb (PanOk.thn (PanOk.thn (PanOk.inb (PanOk.thn (PanOk.inb (PanOk.thn (PanOk.thn (PanOk.inb (PanOk.thn (PanOk.thn PanOk.body))))))))))))) sH rfl (VR.ofV (V_move rfl)) ?_
                    obtain ⟨⟨g2485, g2486⟩, H⟩ := g_pos H
                    refine DH_take 41 (by kernel_rfl) rfl rfl (.yes rfl rfl rfl rfl (h2792)) (PanOk.thn (PanOk.thn (PanOk.inb (PanOk.thn (PanOk.thn (PanOk.inb (PanOk.thn (PanOk.inb (PanOk.thn (PanOk.thn (PanOk.inb (PanOk.thn (PanOk.thn PanOk.body))))))))))))) sH rfl (VR_index (i := x9_15) Try.underlying35 sz52 rfl rfl (Src.buf (k := 2) rfl) g2485 g2486) ?_
                    refine DH_take (v := .pointer (some ((el A4 (x9_15.toNat * 2)).add 0))) 42 (by kernel_rfl) rfl rfl (.yes rfl rfl rfl rfl (h2792)) (PanOk.thn (PanOk.thn (PanOk.inb (PanOk.thn (PanOk.thn (PanOk.inb (PanOk.thn (PanOk.inb (PanOk.thn (PanOk.thn (PanOk.inb (PanOk.thn (PanOk.thn PanOk.body))))))))))))) sH rfl (VR.ofV (V_fieldAddrN (B := el A4 (x9_15.toNat * 2)) (m := 0) (o := 0) Try.underlying52 rfl nz50 rfl rfl)) ?_
                    refine DH_take 43 (by kernel_rfl) rfl rfl (.yes rfl rfl rfl rfl (h2792)) (PanOk.thn (PanOk.thn (PanOk.inb (PanOk.thn (PanOk.thn (PanOk.inb (PanOk.thn (PanOk.inb (PanOk.thn (PanOk.thn (PanOk.inb (PanOk.thn (PanOk.thn PanOk.body))))))))))))) sH rfl (VR_load_el (enc := enc52) (i := x9_15) (j := x9_15.toNat * 2) (m := 0) (sz := 2) Try.underlying50 rfl rfl rfl rfl (Src.buf (k := 2) rfl) g2485 g2486 (fun _ _ h => h) rfl) ?_
                    refine DH_take (v := .bool (decide ((andI .u64 ((rd r3.1 x10_20).f0) (IntKind.u64.wrap ((shlI .u64 1 (IntKind.u64.wrap ((rd r3.1 x9_15).f1))) - 1))) = ((rd r3.1 x9_15).f0)))) 44 (by kernel_rfl) rfl rfl (.yes rfl rfl rfl rfl (h2792)) (PanOk.thn (PanOk.thn (PanOk.inb (PanOk.thn (PanOk.thn (PanOk.inb (PanOk.thn (PanOk.inb (PanOk.thn (PanOk.thn (PanOk.inb (PanOk.thn (PanOk.thn PanOk.body))))))))))))) sH rfl (VR.ofV (V_eql rfl rfl)) ?_
                    refine DH_take 45 (by kernel_rfl) rfl rfl (.no rfl) (PanOk.thn (PanOk.thn (PanOk.inb (PanOk.thn (PanOk.thn (PanOk.inb (PanOk.thn (PanOk.inb (PanOk.thn (PanOk.thn (PanOk.inb (PanOk.thn (PanOk.thn PanOk.body))))))))))))) sH rfl (VR.ofV (V_pickT rfl (h2792) rfl)) ?_
                    refine DH_open dd sH ?_
                    refine DN_done (by kernel_rfl) ?_
                    have hr_ := Option.some.inj H
                    subst hr_
                    exact at_normal (St.mk1 (aeq rfl (aeq rfl (aeq rfl (aeq rfl (aeq rfl (aeq rfl (aeq rfl (aeq rfl aeq0)))))))) (Gh.sel [0, 1, 2] rfl rfl))
                  · replace H := g_iff h2792 H
                    refine DH_skip 25 (by kernel_rfl) rfl rfl (.no rfl rfl rfl rfl (bno h2792)) (PanOk.thn (PanOk.thn (PanOk.inb (PanOk.thn (PanOk.thn (PanOk.inb (PanOk.thn (PanOk.inb (PanOk.thn (PanOk.thn (PanOk.inb (PanOk.thn (PanOk.thn PanOk.body))))))))))))) rfl ?_
                    refine DH_skip 26 (by kernel_rfl) rfl rfl (.no rfl rfl rfl rfl (bno h2792)) (PanOk.thn (PanOk.thn (PanOk.inb (PanOk.thn (PanOk.thn (PanOk.inb (PanOk.thn (PanOk.inb (PanOk.thn (PanOk.thn (PanOk.inb (PanOk.thn (PanOk.thn PanOk.body))))))))))))) rfl ?_
                    refine DH_skip 27 (by kernel_rfl) rfl rfl (.no rfl rfl rfl rfl (bno h2792)) (PanOk.thn (PanOk.thn (PanOk.inb (PanOk.thn (PanOk.thn (PanOk.inb (PanOk.thn (PanOk.inb (PanOk.thn (PanOk.thn (PanOk.inb (PanOk.thn (PanOk.thn PanOk.body))))))))))))) rfl ?_
                    refine DH_skip 28 (by kernel_rfl) rfl rfl (.no rfl rfl rfl rfl (bno h2792)) (PanOk.thn (PanOk.thn (PanOk.inb (PanOk.thn (PanOk.thn (PanOk.inb (PanOk.thn (PanOk.inb (PanOk.thn (PanOk.thn (PanOk.inb (PanOk.thn (PanOk.thn PanOk.body))))))))))))) rfl ?_
                    refine DH_skip 29 (by kernel_rfl) rfl rfl (.no rfl rfl rfl rfl (bno h2792)) (PanOk.thn (PanOk.thn (PanOk.inb (PanOk.thn (PanOk.thn (PanOk.inb (PanOk.thn (PanOk.inb (PanOk.thn (PanOk.thn (PanOk.inb (PanOk.thn (PanOk.thn PanOk.body))))))))))))) rfl ?_
                    refine DH_skip 30 (by kernel_rfl) rfl rfl (.no rfl rfl rfl rfl (bno h2792)) (PanOk.thn (PanOk.thn (PanOk.inb (PanOk.thn (PanOk.thn (PanOk.inb (PanOk.thn (PanOk.inb (PanOk.thn (PanOk.thn (PanOk.inb (PanOk.thn (PanOk.thn PanOk.body))))))))))))) rfl ?_
                    refine DH_skip 31 (by kernel_rfl) rfl rfl (.no rfl rfl rfl rfl (bno h2792)) (PanOk.thn (PanOk.thn (PanOk.inb (PanOk.thn (PanOk.thn (PanOk.inb (PanOk.thn (PanOk.inb (PanOk.thn (PanOk.thn (PanOk.inb (PanOk.thn (PanOk.thn PanOk.body))))))))))))) rfl ?_
                    refine DH_skip 32 (by kernel_rfl) rfl rfl (.no rfl rfl rfl rfl (bno h2792)) (PanOk.thn (PanOk.thn (PanOk.inb (PanOk.thn (PanOk.thn (PanOk.inb (PanOk.thn (PanOk.inb (PanOk.thn (PanOk.thn (PanOk.inb (PanOk.thn (PanOk.thn PanOk.body))))))))))))) rfl ?_
                    refine DH_skip 33 (by kernel_rfl) rfl rfl (.no rfl rfl rfl rfl (bno h2792)) (PanOk.thn (PanOk.thn (PanOk.inb (PanOk.thn (PanOk.thn (PanOk.inb (PanOk.thn (PanOk.inb (PanOk.thn (PanOk.thn (PanOk.inb (PanOk.thn (PanOk.thn PanOk.body))))))))))))) rfl ?_
                    refine DH_skip 34 (by kernel_rfl) rfl rfl (.no rfl rfl rfl rfl (bno h2792)) (PanOk.thn (PanOk.thn (PanOk.inb (PanOk.thn (PanOk.thn (PanOk.inb (PanOk.thn (PanOk.inb (PanOk.thn (PanOk.thn (PanOk.inb (PanOk.thn (PanOk.thn PanOk.body))))))))))))) rfl ?_
                    refine DH_skip 35 (by kernel_rfl) rfl rfl (.no rfl rfl rfl rfl (bno h2792)) (PanOk.thn (PanOk.thn (PanOk.inb (PanOk.thn (PanOk.thn (PanOk.inb (PanOk.thn (PanOk.inb (PanOk.thn (PanOk.thn (PanOk.inb (PanOk.thn (PanOk.thn PanOk.body))))))))))))) rfl ?_
                    refine DH_skip 36 (by kernel_rfl) rfl rfl (.no rfl rfl rfl rfl (bno h2792)) (PanOk.thn (PanOk.thn (PanOk.inb (PanOk.thn (PanOk.thn (PanOk.inb (PanOk.thn (PanOk.inb (PanOk.thn (PanOk.thn (PanOk.inb (PanOk.thn (PanOk.thn PanOk.body))))))))))))) rfl ?_
                    refine DH_skip 37 (by kernel_rfl) rfl rfl (.no rfl rfl rfl rfl (bno h2792)) (PanOk.thn (PanOk.thn (PanOk.inb (PanOk.thn (PanOk.thn (PanOk.inb (PanOk.thn (PanOk.inb (PanOk.thn (PanOk.thn (PanOk.inb (PanOk.thn (PanOk.thn PanOk.body))))))))))))) rfl ?_
                    refine DH_skip 38 (by kernel_rfl) rfl rfl (.no rfl rfl rfl rfl (bno h2792)) (PanOk.thn (PanOk.thn (PanOk.inb (PanOk.thn (PanOk.thn (PanOk.inb (PanOk.thn (PanOk.inb (PanOk.thn (PanOk.thn (PanOk.inb (PanOk.thn (PanOk.thn PanOk.body))))))))))))) rfl ?_
                    refine DH_skip 39 (by kernel_rfl) rfl rfl (.no rfl rfl rfl rfl (bno h2792)) (PanOk.thn (PanOk.thn (PanOk.inb (PanOk.thn (PanOk.thn (PanOk.inb (PanOk.thn (PanOk.inb (PanOk.thn (PanOk.thn (PanOk.inb (PanOk.thn (PanOk.thn PanOk.body))))))))))))) rfl ?_
                    refine DH_skip 40 (by kernel_rfl) rfl rfl (.no rfl rfl rfl rfl (bno h2792)) (PanOk.thn (PanOk.thn (PanOk.inb (PanOk.thn (PanOk.thn (PanOk.inb (PanOk.thn (PanOk.inb (PanOk.thn (PanOk.thn (PanOk.inb (PanOk.thn (PanOk.thn PanOk.body))))))))))))) rfl ?_
                    refine DH_skip 41 (by kernel_rfl) rfl rfl (.no rfl rfl rfl rfl (bno h2792)) (PanOk.thn (PanOk.thn (PanOk.inb (PanOk.thn (PanOk.thn (PanOk.inb (PanOk.thn (PanOk.inb (PanOk.thn (PanOk.thn (PanOk.inb (PanOk.thn (PanOk.thn PanOk.body))))))))))))) rfl ?_
                    refine DH_skip 42 (by kernel_rfl) rfl rfl (.no rfl rfl rfl rfl (bno h2792)) (PanOk.thn (PanOk.thn (PanOk.inb (PanOk.thn (PanOk.thn (PanOk.inb (PanOk.thn (PanOk.inb (PanOk.thn (PanOk.thn (PanOk.inb (PanOk.thn (PanOk.thn PanOk.body))))))))))))) rfl ?_
                    refine DH_skip 43 (by kernel_rfl) rfl rfl (.no rfl rfl rfl rfl (bno h2792)) (PanOk.thn (PanOk.thn (PanOk.inb (PanOk.thn (PanOk.thn (PanOk.inb (PanOk.thn (PanOk.inb (PanOk.thn (PanOk.thn (PanOk.inb (PanOk.thn (PanOk.thn PanOk.body))))))))))))) rfl ?_
                    refine DH_skip 44 (by kernel_rfl) rfl rfl (.no rfl rfl rfl rfl (bno h2792)) (PanOk.thn (PanOk.thn (PanOk.inb (PanOk.thn (PanOk.thn (PanOk.inb (PanOk.thn (PanOk.inb (PanOk.thn (PanOk.thn (PanOk.inb (PanOk.thn (PanOk.thn PanOk.body))))))))))))) rfl ?_
                    refine DH_take 45 (by kernel_rfl) rfl rfl (.no rfl) (PanOk.thn (PanOk.thn (PanOk.inb (PanOk.thn (PanOk.thn (PanOk.inb (PanOk.thn (PanOk.inb (PanOk.thn (PanOk.thn (PanOk.inb (PanOk.thn (PanOk.thn PanOk.body))))))))))))) sH rfl (VR.ofV (V_pickF rfl (bno h2792) rfl)) ?_
                    refine DH_open dd sH ?_
                    refine DN_done (by kernel_rfl) ?_
                    have hr_ := Option.some.inj H
                    subst hr_
                    exact at_normal (St.mk1 (aeq rfl (aeq rfl (aeq rfl (aeq rfl (aeq rfl (aeq rfl (aeq rfl (aeq rfl aeq0)))))))) (Gh.sel [0, 1, 2] rfl rfl))
            · rintro e ds As hst2793
              clear H
              have H := Bt24
              clear Bt24
              refine at_normal ?_
              refine SA.of_St hst2793 fun junk => ?_
              by_cases h2794 : t24 = true
              · replace H := g_ift h2794 H
                refine SA_condTb rfl h2794 ?_
                refine SA_seq ?_
                refine SA_region ?_
                refine RA_step rfl (OA_v (v := .bool false) rfl (V_assign rfl) ?_)
                refine RA_nil ?_
                refine at_normal ?_
                refine SA_ret ?_
                refine inb_ret ?_
                refine thn_ret ?_
                refine thn_ret ?_
                refine inb_ret ?_
                refine thn_ret ?_
                refine inb_ret ?_
                refine thn_ret ?_
                refine thn_ret ?_
                refine inb_ret ?_
                refine thn_ret ?_
                refine thn_ret ?_
                have hr_ := Option.some.inj H
                subst hr_
                have hb_ := el_ret Bt19
                have hr_ := Option.some.inj hb_
                clear hb_
                subst hr_
                have hb_ := el_ret Bt14
                have hr_ := Option.some.inj hb_
                clear hb_
                subst hr_
                exact BQ_R1 [] rfl rfl (Gh.sel [] rfl rfl) ⟨rfl, rfl⟩
              · replace H := g_iff h2794 H
                refine SA_condFb rfl h2794 ?_
                refine SA_skip ?_
                refine inb_normal ?_
                refine at_normal ?_
                refine SA_region ?_
                refine RA_step rfl (OA_v (v := .int .i64 x10_20) rfl (V_move rfl) ?_)
                refine RA_step rfl (OA_v (v := .int .i64 (IntKind.i64.wrap (x10_20 + 1))) rfl (V_add rfl rfl) ?_)
                obtain ⟨n2795, hn2795, H⟩ := g_lt H
                refine RA_step rfl (OA_v (v := .int .i64 n2795) rfl (V_assign (v := .int .i64 n2795) (congrArg (Value.int .i64) hn2795.symm)) ?_)
                refine RA_nil ?_
                exact at_normal ⟨k21, Nat.lt_succ_self _, _, H, St.mk1 (aeq rfl (aeq rfl (aeq rfl (aeq rfl (aeq rfl (aeq rfl (aeq rfl aeq0))))))) (Gh.sel [0, 1, 2] rfl rfl)⟩
          · replace H := g_iff h23 H
            refine SA_condF rfl h23 ?_
            refine SA_exit ?_
            refine thn_exit ?_
            refine thn_exit ?_
            refine inb_hit ?_
            have hr_ := Option.some.inj H
            subst hr_
            exact at_normal ⟨(), rfl, St.mk1 (aeq rfl (aeq rfl (aeq rfl (aeq rfl (aeq rfl (aeq rfl aeq0)))))) (Gh.sel [0, 1, 2] rfl rfl)⟩
        · rintro e ds As ⟨s20, ht, hst2796⟩
          clear H
          subst ht
          replace Bt19 := el_go Bt19
          have H := Bt19
          clear Bt19
          refine inb_normal ?_
          refine at_normal ?_
          refine SA.of_St hst2796 fun junk => ?_
          refine SA_region ?_
          refine RA_step rfl (OA_v (v := .int .i64 x9_15) rfl (V_move rfl) ?_)
          refine RA_step rfl (OA_v (v := .int .i64 (IntKind.i64.wrap (x9_15 + 1))) rfl (V_add rfl rfl) ?_)
          obtain ⟨n2797, hn2797, H⟩ := g_lt H
          refine RA_step rfl (OA_v (v := .int .i64 n2797) rfl (V_assign (v := .int .i64 n2797) (congrArg (Value.int .i64) hn2797.symm)) ?_)
          refine RA_nil ?_
          exact at_normal ⟨k16, Nat.lt_succ_self _, _, H, St.mk1 (aeq rfl (aeq rfl (aeq rfl (aeq rfl (aeq rfl (aeq rfl aeq0)))))) (Gh.sel [0, 1, 2] rfl rfl)⟩
      · replace H := g_iff h18 H
        refine SA_condF rfl h18 ?_
        refine SA_exit ?_
        refine thn_exit ?_
        refine thn_exit ?_
        refine inb_hit ?_
        have hr_ := Option.some.inj H
        subst hr_
        exact at_normal ⟨(), rfl, St.mk1 (aeq rfl (aeq rfl (aeq rfl (aeq rfl aeq0)))) (Gh.sel [0, 1] rfl rfl)⟩
    · rintro e ds As ⟨s15, ht, hst2798⟩
      clear H
      subst ht
      replace Bt14 := el_go Bt14
      have H := Bt14
      clear Bt14
      refine at_normal ?_
      refine SA.of_St hst2798 fun junk => ?_
      refine SA_seq ?_
      refine SA_region ?_
      refine RA_step rfl (OA_v (v := .slice A0 l0.length c0) rfl (V_move rfl) ?_)
      refine RA_step rfl (OA_v (v := .slice A1 l1.length c1) rfl (V_move rfl) ?_)
      obtain ⟨r2799, C2830, H⟩ := g_bind H
      refine RA_step rfl (OA_callA [0, 1] [0, 1] rfl (X_fn (vs := [.slice A0 l0.length c0, .slice A1 l1.length c1, .int .i64 0]) Try.func24 nm24 rfl rfl) rfl (F24.ok (l0 := l0) (A0 := A0) (c0 := c0) (l1 := l1) (A1 := A1) (c1 := c1) (a2 := 0) C2830) rfl ?_)
      rintro _ _ ⟨rfl, rfl⟩
      refine RA_step rfl (OA_v (v := .tuple #[.int .i64 r2799.1, .int .i64 r2799.2.1, .int .i64 r2799.2.2]) rfl (V_move rfl) ?_)
      refine RA_step rfl (OA_v (v := .int .i64 r2799.1) rfl (V_extract rfl rfl) ?_)
      refine RA_step rfl (OA_v (v := .int .i64 r2799.2.1) rfl (V_extract rfl rfl) ?_)
      refine RA_step rfl (OA_v (v := .int .i64 r2799.2.2) rfl (V_extract rfl rfl) ?_)
      refine RA_step rfl (OA_v (v := .int .i64 r2799.1) rfl (V_assign rfl) ?_)
      refine RA_step rfl (OA_v (v := .int .i64 r2799.2.1) rfl (V_assign rfl) ?_)
      refine RA_step rfl (OA_v (v := .int .i64 r2799.2.2) rfl (V_assign rfl) ?_)
      refine RA_nil ?_
      refine at_normal ?_
      refine SA_seq ?_
      refine SA_seq ?_
      refine SA_region ?_
      refine RA_step rfl (OA_v (v := .int .i64 r7.2) rfl (V_move rfl) ?_)
      refine RA_step rfl (OA_v (v := .bool (decide (r7.2 = 0))) rfl (V_eql rfl rfl) ?_)
      refine RA_step rfl (OA_v (v := .bool (decide (r7.2 = 0))) rfl (V_move rfl) ?_)
      obtain ⟨q2800, hq2800, H⟩ := g_lt H
      refine RA_cut 3 (fun e ds As => St [(0, .slice A0 l0.length c0), (1, .slice A1 l1.length c1), (8, .int .i64 r7.2), (11, .int .i64 r2799.1), (12, .int .i64 r2799.2.1), (13, .int .i64 r2799.2.2), (102, .bool q2800)] [Ro (Kd.int .i64) A0 c0 l0, Ro (Kd.int .u8) A1 c1 l1] e ds As) ?_ ?_
      · by_cases h2801 : r7.2 = 0
        · refine RA_yesB rfl rfl rfl rfl (dec_t h2801) (OA_v (v := .int .i64 r7.1) rfl (V_move rfl) ?_)
          refine RA_yesB rfl rfl rfl rfl (dec_t h2801) (OA_v (v := .bool (decide (r7.1 = 32768))) rfl (V_eql rfl rfl) ?_)
          refine RA_step rfl (OA_v rfl (V_pickT rfl (dec_t h2801) rfl) ?_)
          refine RA_nil ?_
          exact at_normal (St.mk1 (aeq rfl (aeq rfl (aeq rfl (aeq rfl (aeq rfl (aeq rfl (aeq (congrArg Value.bool (and_t hq2800 (dec_t h2801))) aeq0))))))) (Gh.sel [0, 1] rfl rfl))
        · refine RA_noB rfl rfl rfl rfl (dec_f h2801) rfl ?_
          refine RA_noB rfl rfl rfl rfl (dec_f h2801) rfl ?_
          refine RA_step rfl (OA_v rfl (V_pickF rfl (dec_f h2801) rfl) ?_)
          refine RA_nil ?_
          exact at_normal (St.mk1 (aeq rfl (aeq rfl (aeq rfl (aeq rfl (aeq rfl (aeq rfl (aeq (congrArg Value.bool (and_f hq2800 (dec_f h2801))) aeq0))))))) (Gh.sel [0, 1] rfl rfl))
      · rintro e ds As hst2802
        refine RA.of_St rfl hst2802 fun junk => ?_
        refine RA_step rfl (OA_v (v := .bool q2800) rfl (V_move rfl) ?_)
        obtain ⟨q2803, hq2803, H⟩ := g_lt H
        refine RA_cut 4 (fun e ds As => St [(0, .slice A0 l0.length c0), (8, .int .i64 r7.2), (11, .int .i64 r2799.1), (12, .int .i64 r2799.2.1), (13, .int .i64 r2799.2.2), (107, .bool q2803)] [Ro (Kd.int .i64) A0 c0 l0] e ds As) ?_ ?_
        · by_cases h2804 : q2800 = true
          · refine RA_yesB rfl rfl rfl rfl (h2804) (OA_v (v := .slice A1 l1.length c1) rfl (V_move rfl) ?_)
            refine RA_yesB rfl rfl rfl rfl (h2804) (OA_v (v := .int .i64 (l1.length : Int)) rfl (V_len Try.underlying23 rfl) ?_)
            refine RA_yesB rfl rfl rfl rfl (h2804) (OA_v (v := .bool (decide ((l1.length : Int) ≥ 2))) rfl (V_geq rfl rfl) ?_)
            refine RA_step rfl (OA_v rfl (V_pickT rfl (h2804) rfl) ?_)
            refine RA_nil ?_
            exact at_normal (St.mk1 (aeq rfl (aeq rfl (aeq rfl (aeq rfl (aeq rfl (aeq (congrArg Value.bool (and_t hq2803 (h2804))) aeq0)))))) (Gh.sel [0] rfl rfl))
          · refine RA_noB rfl rfl rfl rfl (bno h2804) rfl ?_
            refine RA_noB rfl rfl rfl rfl (bno h2804) rfl ?_
            refine RA_noB rfl rfl rfl rfl (bno h2804) rfl ?_
            refine RA_step rfl (OA_v rfl (V_pickF rfl (bno h2804) rfl) ?_)
            refine RA_nil ?_
            exact at_normal (St.mk1 (aeq rfl (aeq rfl (aeq rfl (aeq rfl (aeq rfl (aeq (congrArg Value.bool (and_f hq2803 (bno h2804))) aeq0)))))) (Gh.sel [0] rfl rfl))
        · rintro e ds As hst2805
          refine RA.of_St rfl hst2805 fun junk => ?_
          refine RA_step rfl (OA_v (v := .bool q2803) rfl (V_move rfl) ?_)
          obtain ⟨q2806, H, Bq2806⟩ := g_bind H
          refine RA_cut 21 (fun e ds As => St [(8, .int .i64 r7.2), (129, .bool q2806)] [] e ds As) ?_ ?_
          · by_cases h2807 : q2803 = true
            · replace H := g_ift h2807 H
              refine RA_yesB rfl rfl rfl rfl (h2807) (OA_v (v := .int .i64 r2799.2.2) rfl (V_move rfl) ?_)
              refine RA_yesB rfl rfl rfl rfl (h2807) (OA_v (v := .bool (decide (r2799.2.2 ≠ 0))) rfl (V_neq rfl rfl) ?_)
              refine RA_yesB rfl rfl rfl rfl (h2807) (OA_v (v := .bool (decide (r2799.2.2 ≠ 0))) rfl (V_move rfl) ?_)
              by_cases h2808 : r2799.2.2 ≠ 0
              · replace H := g_ift h2808 H
                refine RA_noB rfl rfl rfl rfl (dec_t h2808) rfl ?_
                refine RA_noB rfl rfl rfl rfl (dec_t h2808) rfl ?_
                refine RA_yesB rfl rfl rfl rfl (h2807) (OA_v rfl (V_pickT rfl (dec_t h2808) rfl) ?_)
                refine RA_yesB rfl rfl rfl rfl (h2807) (OA_v (v := .bool true) rfl (V_move rfl) ?_)
                by_cases h2809 : true = true
                · replace H := g_ift h2809 H
                  refine RA_noB rfl rfl rfl rfl (h2809) rfl ?_
                  refine RA_noB rfl rfl rfl rfl (h2809) rfl ?_
                  refine RA_noB rfl rfl rfl rfl (h2809) rfl ?_
                  refine RA_noB rfl rfl rfl rfl (h2809) rfl ?_
                  refine RA_yesB rfl rfl rfl rfl (h2807) (OA_v rfl (V_pickT rfl (h2809) rfl) ?_)
                  refine RA_yesB rfl rfl rfl rfl (h2807) (OA_v (v := .bool true) rfl (V_move rfl) ?_)
                  by_cases h2810 : true = true
                  · replace H := g_ift h2810 H
                    refine RA_noB rfl rfl rfl rfl (h2810) rfl ?_
                    refine RA_noB rfl rfl rfl rfl (h2810) rfl ?_
                    refine RA_noB rfl rfl rfl rfl (h2810) rfl ?_
                    refine RA_noB rfl rfl rfl rfl (h2810) rfl ?_
                    refine RA_noB rfl rfl rfl rfl (h2810) rfl ?_
                    refine RA_noB rfl rfl rfl rfl (h2810) rfl ?_
                    refine RA_yesB rfl rfl rfl rfl (h2807) (OA_v rfl (V_pickT rfl (h2810) rfl) ?_)
                    refine RA_step rfl (OA_v rfl (V_pickT rfl (h2807) rfl) ?_)
                    have hr_ := Option.some.inj H
                    subst hr_
                    refine RA_nil ?_
                    exact at_normal (St.mk1 (aeq rfl (aeq rfl aeq0)) (Gh.sel [] rfl rfl))
                  · replace H := g_iff h2810 H
                    refine RA_yesB rfl rfl rfl rfl (bno h2810) (OA_v (v := .int .i64 r2799.2.1) rfl (V_move rfl) ?_)
                    refine RA_yesB rfl rfl rfl rfl (bno h2810) (OA_v (v := .slice A0 l0.length c0) rfl (V_move rfl) ?_)
                    refine RA_yesB rfl rfl rfl rfl (bno h2810) (OA_v (v := .int .i64 r2799.1) rfl (V_move rfl) ?_)
                    obtain ⟨⟨g2811, g2812⟩, H⟩ := g_pos H
                    refine RA_yesB rfl rfl rfl rfl (bno h2810) (OA_r rfl (VR_index (i := r2799.1) Try.underlying34 sz3 rfl rfl (Src.ro (k := 0) rfl) g2811 g2812) ?_)
                    refine RA_yesB rfl rfl rfl rfl (bno h2810) (OA_r rfl (VR_load_el (enc := (fun x_ : Int => [Value.int .i64 x_])) (i := r2799.1) (j := r2799.1.toNat * 1) (m := 0) (sz := 1) Try.underlying3 rfl rfl rfl rfl (Src.ro (k := 0) rfl) g2811 g2812 (fun _ _ h => h) rfl) ?_)
                    refine RA_yesB rfl rfl rfl rfl (bno h2810) (OA_v (v := .bool (decide (r2799.2.1 ≠ (rd l0 r2799.1)))) rfl (V_neq rfl rfl) ?_)
                    refine RA_yesB rfl rfl rfl rfl (h2807) (OA_v rfl (V_pickF rfl (bno h2810) rfl) ?_)
                    refine RA_step rfl (OA_v rfl (V_pickT rfl (h2807) rfl) ?_)
                    have hr_ := Option.some.inj H
                    subst hr_
                    refine RA_nil ?_
                    exact at_normal (St.mk1 (aeq rfl (aeq rfl aeq0)) (Gh.sel [] rfl rfl))
                · replace H := g_iff h2809 H
                  refine RA_yesB rfl rfl rfl rfl (bno h2809) (OA_v (v := .int .i64 r2799.1) rfl (V_move rfl) ?_)
                  refine RA_yesB rfl rfl rfl rfl (bno h2809) (OA_v (v := .slice A0 l0.length c0) rfl (V_move rfl) ?_)
                  refine RA_yesB rfl rfl rfl rfl (bno h2809) (OA_v (v := .int .i64 (l0.length : Int)) rfl (V_len Try.underlying34 rfl) ?_)
                  refine RA_yesB rfl rfl rfl rfl (bno h2809) (OA_v (v := .bool (decide (r2799.1 ≥ (l0.length : Int)))) rfl (V_geq rfl rfl) ?_)
                  refine RA_yesB rfl rfl rfl rfl (h2807) (OA_v rfl (V_pickF rfl (bno h2809) rfl) ?_)
                  refine RA_yesB rfl rfl rfl rfl (h2807) (OA_v (v := .bool (decide (r2799.1 ≥ (l0.length : Int)))) rfl (V_move rfl) ?_)
                  by_cases h2813 : r2799.1 ≥ (l0.length : Int)
                  · replace H := g_ift h2813 H
                    refine RA_noB rfl rfl rfl rfl (dec_t h2813) rfl ?_
                    refine RA_noB rfl rfl rfl rfl (dec_t h2813) rfl ?_
                    refine RA_noB rfl rfl rfl rfl (dec_t h2813) rfl ?_
                    refine RA_noB rfl rfl rfl rfl (dec_t h2813) rfl ?_
                    refine RA_noB rfl rfl rfl rfl (dec_t h2813) rfl ?_
                    refine RA_noB rfl rfl rfl rfl (dec_t h2813) rfl ?_
                    refine RA_yesB rfl rfl rfl rfl (h2807) (OA_v rfl (V_pickT rfl (dec_t h2813) rfl) ?_)
                    refine RA_step rfl (OA_v rfl (V_pickT rfl (h2807) rfl) ?_)
                    have hr_ := Option.some.inj H
                    subst hr_
                    refine RA_nil ?_
                    exact at_normal (St.mk1 (aeq rfl (aeq rfl aeq0)) (Gh.sel [] rfl rfl))
                  · replace H := g_iff h2813 H
                    refine RA_yesB rfl rfl rfl rfl (dec_f h2813) (OA_v (v := .int .i64 r2799.2.1) rfl (V_move rfl) ?_)
                    refine RA_yesB rfl rfl rfl rfl (dec_f h2813) (OA_v (v := .slice A0 l0.length c0) rfl (V_move rfl) ?_)
                    refine RA_yesB rfl rfl rfl rfl (dec_f h2813) (OA_v (v := .int .i64 r2799.1) rfl (V_move rfl) ?_)
                    obtain ⟨⟨g2814, g2815⟩, H⟩ := g_pos H
                    refine RA_yesB rfl rfl rfl rfl (dec_f h2813) (OA_r rfl (VR_index (i := r2799.1) Try.underlying34 sz3 rfl rfl (Src.ro (k := 0) rfl) g2814 g2815) ?_)
                    refine RA_yesB rfl rfl rfl rfl (dec_f h2813) (OA_r rfl (VR_load_el (enc := (fun x_ : Int => [Value.int .i64 x_])) (i := r2799.1) (j := r2799.1.toNat * 1) (m := 0) (sz := 1) Try.underlying3 rfl rfl rfl rfl (Src.ro (k := 0) rfl) g2814 g2815 (fun _ _ h => h) rfl) ?_)
                    refine RA_yesB rfl rfl rfl rfl (dec_f h2813) (OA_v (v := .bool (decide (r2799.2.1 ≠ (rd l0 r2799.1)))) rfl (V_neq rfl rfl) ?_)
                    refine RA_yesB rfl rfl rfl rfl (h2807) (OA_v rfl (V_pickF rfl (dec_f h2813) rfl) ?_)
                    refine RA_step rfl (OA_v rfl (V_pickT rfl (h2807) rfl) ?_)
                    have hr_ := Option.some.inj H
                    subst hr_
                    refine RA_nil ?_
                    exact at_normal (St.mk1 (aeq rfl (aeq rfl aeq0)) (Gh.sel [] rfl rfl))
              · replace H := g_iff h2808 H
                refine RA_yesB rfl rfl rfl rfl (dec_f h2808) (OA_v (v := .int .i64 r2799.1) rfl (V_move rfl) ?_)
                refine RA_yesB rfl rfl rfl rfl (dec_f h2808) (OA_v (v := .bool (decide (r2799.1 < 0))) rfl (V_lss rfl rfl) ?_)
                refine RA_yesB rfl rfl rfl rfl (h2807) (OA_v rfl (V_pickF rfl (dec_f h2808) rfl) ?_)
                refine RA_yesB rfl rfl rfl rfl (h2807) (OA_v (v := .bool (decide (r2799.1 < 0))) rfl (V_move rfl) ?_)
                by_cases h2816 : r2799.1 < 0
                · replace H := g_ift h2816 H
                  refine RA_noB rfl rfl rfl rfl (dec_t h2816) rfl ?_
                  refine RA_noB rfl rfl rfl rfl (dec_t h2816) rfl ?_
                  refine RA_noB rfl rfl rfl rfl (dec_t h2816) rfl ?_
                  refine RA_noB rfl rfl rfl rfl (dec_t h2816) rfl ?_
                  refine RA_yesB rfl rfl rfl rfl (h2807) (OA_v rfl (V_pickT rfl (dec_t h2816) rfl) ?_)
                  refine RA_yesB rfl rfl rfl rfl (h2807) (OA_v (v := .bool true) rfl (V_move rfl) ?_)
                  by_cases h2817 : true = true
                  · replace H := g_ift h2817 H
                    refine RA_noB rfl rfl rfl rfl (h2817) rfl ?_
                    refine RA_noB rfl rfl rfl rfl (h2817) rfl ?_
                    refine RA_noB rfl rfl rfl rfl (h2817) rfl ?_
                    refine RA_noB rfl rfl rfl rfl (h2817) rfl ?_
                    refine RA_noB rfl rfl rfl rfl (h2817) rfl ?_
                    refine RA_noB rfl rfl rfl rfl (h2817) rfl ?_
                    refine RA_yesB rfl rfl rfl rfl (h2807) (OA_v rfl (V_pickT rfl (h2817) rfl) ?_)
                    refine RA_step rfl (OA_v rfl (V_pickT rfl (h2807) rfl) ?_)
                    have hr_ := Option.some.inj H
                    subst hr_
                    refine RA_nil ?_
                    exact at_normal (St.mk1 (aeq rfl (aeq rfl aeq0)) (Gh.sel [] rfl rfl))
                  · replace H := g_iff h2817 H
                    refine RA_yesB rfl rfl rfl rfl (bno h2817) (OA_v (v := .int .i64 r2799.2.1) rfl (V_move rfl) ?_)
                    refine RA_yesB rfl rfl rfl rfl (bno h2817) (OA_v (v := .slice A0 l0.length c0) rfl (V_move rfl) ?_)
                    refine RA_yesB rfl rfl rfl rfl (bno h2817) (OA_v (v := .int .i64 r2799.1) rfl (V_move rfl) ?_)
                    obtain ⟨⟨g2818, g2819⟩, H⟩ := g_pos H
                    refine RA_yesB rfl rfl rfl rfl (bno h2817) (OA_r rfl (VR_index (i := r2799.1) Try.underlying34 sz3 rfl rfl (Src.ro (k := 0) rfl) g2818 g2819) ?_)
                    refine RA_yesB rfl rfl rfl rfl (bno h2817) (OA_r rfl (VR_load_el (enc := (fun x_ : Int => [Value.int .i64 x_])) (i := r2799.1) (j := r2799.1.toNat * 1) (m := 0) (sz := 1) Try.underlying3 rfl rfl rfl rfl (Src.ro (k := 0) rfl) g2818 g2819 (fun _ _ h => h) rfl) ?_)
                    refine RA_yesB rfl rfl rfl rfl (bno h2817) (OA_v (v := .bool (decide (r2799.2.1 ≠ (rd l0 r2799.1)))) rfl (V_neq rfl rfl) ?_)
                    refine RA_yesB rfl rfl rfl rfl (h2807) (OA_v rfl (V_pickF rfl (bno h2817) rfl) ?_)
                    refine RA_step rfl (OA_v rfl (V_pickT rfl (h2807) rfl) ?_)
                    have hr_ := Option.some.inj H
                    subst hr_
                    refine RA_nil ?_
                    exact at_normal (St.mk1 (aeq rfl (aeq rfl aeq0)) (Gh.sel [] rfl rfl))
                · replace H := g_iff h2816 H
                  refine RA_yesB rfl rfl rfl rfl (dec_f h2816) (OA_v (v := .int .i64 r2799.1) rfl (V_move rfl) ?_)
                  refine RA_yesB rfl rfl rfl rfl (dec_f h2816) (OA_v (v := .slice A0 l0.length c0) rfl (V_move rfl) ?_)
                  refine RA_yesB rfl rfl rfl rfl (dec_f h2816) (OA_v (v := .int .i64 (l0.length : Int)) rfl (V_len Try.underlying34 rfl) ?_)
                  refine RA_yesB rfl rfl rfl rfl (dec_f h2816) (OA_v (v := .bool (decide (r2799.1 ≥ (l0.length : Int)))) rfl (V_geq rfl rfl) ?_)
                  refine RA_yesB rfl rfl rfl rfl (h2807) (OA_v rfl (V_pickF rfl (dec_f h2816) rfl) ?_)
                  refine RA_yesB rfl rfl rfl rfl (h2807) (OA_v (v := .bool (decide (r2799.1 ≥ (l0.length : Int)))) rfl (V_move rfl) ?_)
                  by_cases h2820 : r2799.1 ≥ (l0.length : Int)
                  · replace H := g_ift h2820 H
                    refine RA_noB rfl rfl rfl rfl (dec_t h2820) rfl ?_
                    refine RA_noB rfl rfl rfl rfl (dec_t h2820) rfl ?_
                    refine RA_noB rfl rfl rfl rfl (dec_t h2820) rfl ?_
                    refine RA_noB rfl rfl rfl rfl (dec_t h2820) rfl ?_
                    refine RA_noB rfl rfl rfl rfl (dec_t h2820) rfl ?_
                    refine RA_noB rfl rfl rfl rfl (dec_t h2820) rfl ?_
                    refine RA_yesB rfl rfl rfl rfl (h2807) (OA_v rfl (V_pickT rfl (dec_t h2820) rfl) ?_)
                    refine RA_step rfl (OA_v rfl (V_pickT rfl (h2807) rfl) ?_)
                    have hr_ := Option.some.inj H
                    subst hr_
                    refine RA_nil ?_
                    exact at_normal (St.mk1 (aeq rfl (aeq rfl aeq0)) (Gh.sel [] rfl rfl))
                  · replace H := g_iff h2820 H
                    refine RA_yesB rfl rfl rfl rfl (dec_f h2820) (OA_v (v := .int .i64 r2799.2.1) rfl (V_move rfl) ?_)
                    refine RA_yesB rfl rfl rfl rfl (dec_f h2820) (OA_v (v := .slice A0 l0.length c0) rfl (V_move rfl) ?_)
                    refine RA_yesB rfl rfl rfl rfl (dec_f h2820) (OA_v (v := .int .i64 r2799.1) rfl (V_move rfl) ?_)
                    obtain ⟨⟨g2821, g2822⟩, H⟩ := g_pos H
                    refine RA_yesB rfl rfl rfl rfl (dec_f h2820) (OA_r rfl (VR_index (i := r2799.1) Try.underlying34 sz3 rfl rfl (Src.ro (k := 0) rfl) g2821 g2822) ?_)
                    refine RA_yesB rfl rfl rfl rfl (dec_f h2820) (OA_r rfl (VR_load_el (enc := (fun x_ : Int => [Value.int .i64 x_])) (i := r2799.1) (j := r2799.1.toNat * 1) (m := 0) (sz := 1) Try.underlying3 rfl rfl rfl rfl (Src.ro (k := 0) rfl) g2821 g2822 (fun _ _ h => h) rfl) ?_)
                    refine RA_yesB rfl rfl rfl rfl (dec_f h2820) (OA_v (v := .bool (decide (r2799.2.1 ≠ (rd l0 r2799.1)))) rfl (V_neq rfl rfl) ?_)
                    refine RA_yesB rfl rfl rfl rfl (h2807) (OA_v rfl (V_pickF rfl (dec_f h2820) rfl) ?_)
                    refine RA_step rfl (OA_v rfl (V_pickT rfl (h2807) rfl) ?_)
                    have hr_ := Option.some.inj H
                    subst hr_
                    refine RA_nil ?_
                    exact at_normal (St.mk1 (aeq rfl (aeq rfl aeq0)) (Gh.sel [] rfl rfl))
            · replace H := g_iff h2807 H
              refine RA_noB rfl rfl rfl rfl (bno h2807) rfl ?_
              refine RA_noB rfl rfl rfl rfl (bno h2807) rfl ?_
              refine RA_noB rfl rfl rfl rfl (bno h2807) rfl ?_
              refine RA_noU rfl rfl rfl rfl rfl ?_
              refine RA_noU rfl rfl rfl rfl rfl ?_
              refine RA_noB rfl rfl rfl rfl (bno h2807) rfl ?_
              refine RA_noB rfl rfl rfl rfl (bno h2807) rfl ?_
              refine RA_noU rfl rfl rfl rfl rfl ?_
              refine RA_noU rfl rfl rfl rfl rfl ?_
              refine RA_noU rfl rfl rfl rfl rfl ?_
              refine RA_noU rfl rfl rfl rfl rfl ?_
              refine RA_noB rfl rfl rfl rfl (bno h2807) rfl ?_
              refine RA_noB rfl rfl rfl rfl (bno h2807) rfl ?_
              refine RA_noU rfl rfl rfl rfl rfl ?_
              refine RA_noU rfl rfl rfl rfl rfl ?_
              refine RA_noU rfl rfl rfl rfl rfl ?_
              refine RA_noU rfl rfl rfl rfl rfl ?_
              refine RA_noU rfl rfl rfl rfl rfl ?_
              refine RA_noU rfl rfl rfl rfl rfl ?_
              refine RA_noB rfl rfl rfl rfl (bno h2807) rfl ?_
              refine RA_step rfl (OA_v rfl (V_pickF rfl (bno h2807) rfl) ?_)
              have hr_ := Option.some.inj H
              subst hr_
              refine RA_nil ?_
              exact at_normal (St.mk1 (aeq rfl (aeq rfl aeq0)) (Gh.sel [] rfl rfl))
          · rintro e ds As hst2823
            clear H
            have H := Bq2806
            clear Bq2806
            refine RA_nil ?_
            refine at_normal ?_
            refine SA.of_St hst2823 fun junk => ?_
            by_cases h2824 : q2806 = true
            · replace H := g_ift h2824 H
              refine SA_condTb rfl h2824 ?_
              refine SA_seq ?_
              refine SA_region ?_
              refine RA_step rfl (OA_v (v := .bool false) rfl (V_assign rfl) ?_)
              refine RA_nil ?_
              refine at_normal ?_
              refine SA_ret ?_
              refine thn_ret ?_
              have hr_ := Option.some.inj H
              subst hr_
              exact BQ_R1 [] rfl rfl (Gh.sel [] rfl rfl) ⟨rfl, rfl⟩
            · replace H := g_iff h2824 H
              refine SA_condFb rfl h2824 ?_
              refine SA_skip ?_
              refine at_normal ?_
              refine SA_seq ?_
              refine SA_region ?_
              obtain ⟨r2825, C2829, H⟩ := g_bind H
              refine RA_step rfl (OA_callA [] [] rfl (X_fn (vs := []) Try.func27 nm27 rfl rfl) rfl (F27.ok C2829) rfl ?_)
              rintro _ _ ⟨rfl, rfl⟩
              refine RA_step rfl (OA_v (v := .bool r2825) rfl (V_move rfl) ?_)
              obtain ⟨q2826, hq2826, H⟩ := g_lt H
              refine RA_cut 3 (fun e ds As => St [(134, .bool q2826)] [] e ds As) ?_ ?_
              · by_cases h2827 : r2825 = true
                · refine RA_yesB rfl rfl rfl rfl (h2827) (OA_v (v := .int .i64 r7.2) rfl (V_move rfl) ?_)
                  refine RA_yesB rfl rfl rfl rfl (h2827) (OA_v (v := .bool (decide (r7.2 = 0))) rfl (V_eql rfl rfl) ?_)
                  refine RA_step rfl (OA_v rfl (V_pickT rfl (h2827) rfl) ?_)
                  refine RA_nil ?_
                  exact at_normal (St.mk1 (aeq (congrArg Value.bool (and_t hq2826 (h2827))) aeq0) (Gh.sel [] rfl rfl))
                · refine RA_noB rfl rfl rfl rfl (bno h2827) rfl ?_
                  refine RA_noB rfl rfl rfl rfl (bno h2827) rfl ?_
                  refine RA_step rfl (OA_v rfl (V_pickF rfl (bno h2827) rfl) ?_)
                  refine RA_nil ?_
                  exact at_normal (St.mk1 (aeq (congrArg Value.bool (and_f hq2826 (bno h2827))) aeq0) (Gh.sel [] rfl rfl))
              · rintro e ds As hst2828
                refine RA.of_St rfl hst2828 fun junk => ?_
                refine RA_step rfl (OA_v (v := .bool q2826) rfl (V_assign rfl) ?_)
                refine RA_nil ?_
                refine at_normal ?_
                refine SA_ret ?_
                have hr_ := Option.some.inj H
                subst hr_
                exact BQ_R1 [] rfl rfl (Gh.sel [] rfl rfl) ⟨rfl, rfl⟩
end Go.Proofs.Ytocjoegcfojjhaa.He

/- What functions compute, and that they do: 111, 122, 123, 41, 84. -/
import Derived.Test.YtodkeoibebimgaaGr0
import Derived.Test.YtodkeoibebimgaaGr1
namespace Go.Proofs.Ytodkeoibebimgaa.Gr
open Go Go.RowKit Go.Proofs.Ytodkeoibebimgaa.SL
set_option linter.unusedVariables false
set_option linter.unusedSimpArgs false
attribute [local irreducible] IntKind.wrap minI maxI shrI shlI andI orI xorI andNotI cplI rd sub bytesOf strOf slA
/-! ### function 122: wayfarer/width.zeros -/
def F122.f  : Option ((List S190)) := some ((((S190.mk 768 879) :: (S190.mk 1155 1161) :: (S190.mk 1425 1469) :: (S190.mk 1471 1471) :: (S190.mk 1473 1474) :: (S190.mk 1552 1562) :: (S190.mk 1611 1631) :: (S190.mk 1750 1756) :: (S190.mk 2304 2306) :: (S190.mk 2364 2364) :: (S190.mk 2369 2376) :: (S190.mk 2381 2381) :: (S190.mk 3633 3633) :: (S190.mk 3636 3642) :: (S190.mk 6832 6911) :: (S190.mk 7616 7679) :: (S190.mk 8203 8207) :: (S190.mk 8234 8238) :: (S190.mk 8288 8292) :: (S190.mk 8400 8447) :: (S190.mk 12330 12333) :: (S190.mk 12441 12442) :: (S190.mk 65024 65039) :: (S190.mk 65056 65071) :: (S190.mk 65279 65279) :: (S190.mk 917760 917999) :: []) : (List S190)))
set_option maxHeartbeats 2000000 in
set_option maxRecDepth 100000 in
theorem F122.ok  {r : (List S190)} (H : F122.f  = some r) : SCA Try.prog 122 #[] [] (fun v B => v = .agg (List.flatMap enc190 ((rd r 0) :: (rd r 1) :: (rd r 2) :: (rd r 3) :: (rd r 4) :: (rd r 5) :: (rd r 6) :: (rd r 7) :: (rd r 8) :: (rd r 9) :: (rd r 10) :: (rd r 11) :: (rd r 12) :: (rd r 13) :: (rd r 14) :: (rd r 15) :: (rd r 16) :: (rd r 17) :: (rd r 18) :: (rd r 19) :: (rd r 20) :: (rd r 21) :: (rd r 22) :: (rd r 23) :: (rd r 24) :: (rd r 25) :: [])).toArray ∧ B = []) := by
  refine SCA_of_body Try.func122 rfl rfl ?_
  unfold F122.f at H
  refine SA_seq ?_
  refine SA_region ?_
  refine RA_step rfl (OA_alloc rfl zero193 fun b1 => ?_)
  refine RA_nil ?_
  refine at_normal ?_
  refine SA_seq ?_
  refine SA_region ?_
  refine RA_step rfl (OA_v (v := .agg #[.int .i32 768, .int .i32 879]) rfl (V_buildA (cells := [.int .i32 768, .int .i32 879]) (sz := 1) zero190 Try.underlying190 sz21 (by kernel_rfl)) ?_)
  refine RA_step rfl (OA_v (v := .agg #[.int .i32 1155, .int .i32 1161]) rfl (V_buildA (cells := [.int .i32 1155, .int .i32 1161]) (sz := 1) zero190 Try.underlying190 sz21 (by kernel_rfl)) ?_)
  refine RA_step rfl (OA_v (v := .agg #[.int .i32 1425, .int .i32 1469]) rfl (V_buildA (cells := [.int .i32 1425, .int .i32 1469]) (sz := 1) zero190 Try.underlying190 sz21 (by kernel_rfl)) ?_)
  refine RA_step rfl (OA_v (v := .agg #[.int .i32 1471, .int .i32 1471]) rfl (V_buildA (cells := [.int .i32 1471, .int .i32 1471]) (sz := 1) zero190 Try.underlying190 sz21 (by kernel_rfl)) ?_)
  refine RA_step rfl (OA_v (v := .agg #[.int .i32 1473, .int .i32 1474]) rfl (V_buildA (cells := [.int .i32 1473, .int .i32 1474]) (sz := 1) zero190 Try.underlying190 sz21 (by kernel_rfl)) ?_)
  refine RA_step rfl (OA_v (v := .agg #[.int .i32 1552, .int .i32 1562]) rfl (V_buildA (cells := [.int .i32 1552, .int .i32 1562]) (sz := 1) zero190 Try.underlying190 sz21 (by kernel_rfl)) ?_)
  refine RA_step rfl (OA_v (v := .agg #[.int .i32 1611, .int .i32 1631]) rfl (V_buildA (cells := [.int .i32 1611, .int .i32 1631]) (sz := 1) zero190 Try.underlying190 sz21 (by kernel_rfl)) ?_)
  refine RA_step rfl (OA_v (v := .agg #[.int .i32 1750, .int .i32 1756]) rfl (V_buildA (cells := [.int .i32 1750, .int .i32 1756]) (sz := 1) zero190 Try.underlying190 sz21 (by kernel_rfl)) ?_)
  refine RA_step rfl (OA_v (v := .agg #[.int .i32 2304, .int .i32 2306]) rfl (V_buildA (cells := [.int .i32 2304, .int .i32 2306]) (sz := 1) zero190 Try.underlying190 sz21 (by kernel_rfl)) ?_)
  refine RA_step rfl (OA_v (v := .agg #[.int .i32 2364, .int .i32 2364]) rfl (V_buildA (cells := [.int .i32 2364, .int .i32 2364]) (sz := 1) zero190 Try.underlying190 sz21 (by kernel_rfl)) ?_)
  refine RA_step rfl (OA_v (v := .agg #[.int .i32 2369, .int .i32 2376]) rfl (V_buildA (cells := [.int .i32 2369, .int .i32 2376]) (sz := 1) zero190 Try.underlying190 sz21 (by kernel_rfl)) ?_)
  refine RA_step rfl (OA_v (v := .agg #[.int .i32 2381, .int .i32 2381]) rfl (V_buildA (cells := [.int .i32 2381, .int .i32 2381]) (sz := 1) zero190 Try.underlying190 sz21 (by kernel_rfl)) ?_)
  refine RA_step rfl (OA_v (v := .agg #[.int .i32 3633, .int .i32 3633]) rfl (V_buildA (cells := [.int .i32 3633, .int .i32 3633]) (sz := 1) zero190 Try.underlying190 sz21 (by kernel_rfl)) ?_)
  refine RA_step rfl (OA_v (v := .agg #[.int .i32 3636, .int .i32 3642]) rfl (V_buildA (cells := [.int .i32 3636, .int .i32 3642]) (sz := 1) zero190 Try.underlying190 sz21 (by kernel_rfl)) ?_)
  refine RA_step rfl (OA_v (v := .agg #[.int .i32 6832, .int .i32 6911]) rfl (V_buildA (cells := [.int .i32 6832, .int .i32 6911]) (sz := 1) zero190 Try.underlying190 sz21 (by kernel_rfl)) ?_)
  refine RA_step rfl (OA_v (v := .agg #[.int .i32 7616, .int .i32 7679]) rfl (V_buildA (cells := [.int .i32 7616, .int .i32 7679]) (sz := 1) zero190 Try.underlying190 sz21 (by kernel_rfl)) ?_)
  refine RA_step rfl (OA_v (v := .agg #[.int .i32 8203, .int .i32 8207]) rfl (V_buildA (cells := [.int .i32 8203, .int .i32 8207]) (sz := 1) zero190 Try.underlying190 sz21 (by kernel_rfl)) ?_)
  refine RA_step rfl (OA_v (v := .agg #[.int .i32 8234, .int .i32 8238]) rfl (V_buildA (cells := [.int .i32 8234, .int .i32 8238]) (sz := 1) zero190 Try.underlying190 sz21 (by kernel_rfl)) ?_)
  refine RA_step rfl (OA_v (v := .agg #[.int .i32 8288, .int .i32 8292]) rfl (V_buildA (cells := [.int .i32 8288, .int .i32 8292]) (sz := 1) zero190 Try.underlying190 sz21 (by kernel_rfl)) ?_)
  refine RA_step rfl (OA_v (v := .agg #[.int .i32 8400, .int .i32 8447]) rfl (V_buildA (cells := [.int .i32 8400, .int .i32 8447]) (sz := 1) zero190 Try.underlying190 sz21 (by kernel_rfl)) ?_)
  refine RA_step rfl (OA_v (v := .agg #[.int .i32 12330, .int .i32 12333]) rfl (V_buildA (cells := [.int .i32 12330, .int .i32 12333]) (sz := 1) zero190 Try.underlying190 sz21 (by kernel_rfl)) ?_)
  refine RA_step rfl (OA_v (v := .agg #[.int .i32 12441, .int .i32 12442]) rfl (V_buildA (cells := [.int .i32 12441, .int .i32 12442]) (sz := 1) zero190 Try.underlying190 sz21 (by kernel_rfl)) ?_)
  refine RA_step rfl (OA_v (v := .agg #[.int .i32 65024, .int .i32 65039]) rfl (V_buildA (cells := [.int .i32 65024, .int .i32 65039]) (sz := 1) zero190 Try.underlying190 sz21 (by kernel_rfl)) ?_)
  refine RA_step rfl (OA_v (v := .agg #[.int .i32 65056, .int .i32 65071]) rfl (V_buildA (cells := [.int .i32 65056, .int .i32 65071]) (sz := 1) zero190 Try.underlying190 sz21 (by kernel_rfl)) ?_)
  refine RA_step rfl (OA_v (v := .agg #[.int .i32 65279, .int .i32 65279]) rfl (V_buildA (cells := [.int .i32 65279, .int .i32 65279]) (sz := 1) zero190 Try.underlying190 sz21 (by kernel_rfl)) ?_)
  refine RA_step rfl (OA_v (v := .agg #[.int .i32 917760, .int .i32 917999]) rfl (V_buildA (cells := [.int .i32 917760, .int .i32 917999]) (sz := 1) zero190 Try.underlying190 sz21 (by kernel_rfl)) ?_)
  refine RA_step rfl (OA_v (v := .agg (List.toArray (.int .i32 768 :: .int .i32 879 :: .int .i32 1155 :: .int .i32 1161 :: .int .i32 1425 :: .int .i32 1469 :: .int .i32 1471 :: .int .i32 1471 :: .int .i32 1473 :: .int .i32 1474 :: .int .i32 1552 :: .int .i32 1562 :: .int .i32 1611 :: .int .i32 1631 :: .int .i32 1750 :: .int .i32 1756 :: .int .i32 2304 :: .int .i32 2306 :: .int .i32 2364 :: .int .i32 2364 :: .int .i32 2369 :: .int .i32 2376 :: .int .i32 2381 :: .int .i32 2381 :: .int .i32 3633 :: .int .i32 3633 :: .int .i32 3636 :: .int .i32 3642 :: .int .i32 6832 :: .int .i32 6911 :: .int .i32 7616 :: .int .i32 7679 :: .int .i32 8203 :: .int .i32 8207 :: .int .i32 8234 :: .int .i32 8238 :: .int .i32 8288 :: .int .i32 8292 :: .int .i32 8400 :: .int .i32 8447 :: .int .i32 12330 :: .int .i32 12333 :: .int .i32 12441 :: .int .i32 12442 :: .int .i32 65024 :: .int .i32 65039 :: .int .i32 65056 :: .int .i32 65071 :: .int .i32 65279 :: .int .i32 65279 :: .int .i32 917760 :: .int .i32 917999 :: []))) rfl (V_buildA (cells := (List.flatMap enc190 ((S190.mk 768 879) :: (S190.mk 1155 1161) :: (S190.mk 1425 1469) :: (S190.mk 1471 1471) :: (S190.mk 1473 1474) :: (S190.mk 1552 1562) :: (S190.mk 1611 1631) :: (S190.mk 1750 1756) :: (S190.mk 2304 2306) :: (S190.mk 2364 2364) :: (S190.mk 2369 2376) :: (S190.mk 2381 2381) :: (S190.mk 3633 3633) :: (S190.mk 3636 3642) :: (S190.mk 6832 6911) :: (S190.mk 7616 7679) :: (S190.mk 8203 8207) :: (S190.mk 8234 8238) :: (S190.mk 8288 8292) :: (S190.mk 8400 8447) :: (S190.mk 12330 12333) :: (S190.mk 12441 12442) :: (S190.mk 65024 65039) :: (S190.mk 65056 65071) :: (S190.mk 65279 65279) :: (S190.mk 917760 917999) :: []))) (sz := 2) zero193 Try.underlying193 sz190 (by kernel_rfl)) ?_)
  refine RA_step rfl (OA_st (b := b1) (m := 0) (k := 0) (vs := (List.flatMap enc190 ((S190.mk 768 879) :: (S190.mk 1155 1161) :: (S190.mk 1425 1469) :: (S190.mk 1471 1471) :: (S190.mk 1473 1474) :: (S190.mk 1552 1562) :: (S190.mk 1611 1631) :: (S190.mk 1750 1756) :: (S190.mk 2304 2306) :: (S190.mk 2364 2364) :: (S190.mk 2369 2376) :: (S190.mk 2381 2381) :: (S190.mk 3633 3633) :: (S190.mk 3636 3642) :: (S190.mk 6832 6911) :: (S190.mk 7616 7679) :: (S190.mk 8203 8207) :: (S190.mk 8234 8238) :: (S190.mk 8288 8292) :: (S190.mk 8400 8447) :: (S190.mk 12330 12333) :: (S190.mk 12441 12442) :: (S190.mk 65024 65039) :: (S190.mk 65056 65071) :: (S190.mk 65279 65279) :: (S190.mk 917760 917999) :: []))) (cs' := (List.flatMap enc190 ((S190.mk 768 879) :: (S190.mk 1155 1161) :: (S190.mk 1425 1469) :: (S190.mk 1471 1471) :: (S190.mk 1473 1474) :: (S190.mk 1552 1562) :: (S190.mk 1611 1631) :: (S190.mk 1750 1756) :: (S190.mk 2304 2306) :: (S190.mk 2364 2364) :: (S190.mk 2369 2376) :: (S190.mk 2381 2381) :: (S190.mk 3633 3633) :: (S190.mk 3636 3642) :: (S190.mk 6832 6911) :: (S190.mk 7616 7679) :: (S190.mk 8203 8207) :: (S190.mk 8234 8238) :: (S190.mk 8288 8292) :: (S190.mk 8400 8447) :: (S190.mk 12330 12333) :: (S190.mk 12441 12442) :: (S190.mk 65024 65039) :: (S190.mk 65056 65071) :: (S190.mk 65279 65279) :: (S190.mk 917760 917999) :: []))) rfl rfl rfl rfl rfl (by kernel_rfl) sz193 rfl (by kernel_rfl) ?_)
  refine RA_nil ?_
  refine at_normal ?_
  refine SA_ret ?_
  have hr_ := Option.some.inj H
  subst hr_
  exact BQ_RL (rs := [.cell 0 193]) (vs := [.agg (List.toArray (.int .i32 768 :: .int .i32 879 :: .int .i32 1155 :: .int .i32 1161 :: .int .i32 1425 :: .int .i32 1469 :: .int .i32 1471 :: .int .i32 1471 :: .int .i32 1473 :: .int .i32 1474 :: .int .i32 1552 :: .int .i32 1562 :: .int .i32 1611 :: .int .i32 1631 :: .int .i32 1750 :: .int .i32 1756 :: .int .i32 2304 :: .int .i32 2306 :: .int .i32 2364 :: .int .i32 2364 :: .int .i32 2369 :: .int .i32 2376 :: .int .i32 2381 :: .int .i32 2381 :: .int .i32 3633 :: .int .i32 3633 :: .int .i32 3636 :: .int .i32 3642 :: .int .i32 6832 :: .int .i32 6911 :: .int .i32 7616 :: .int .i32 7679 :: .int .i32 8203 :: .int .i32 8207 :: .int .i32 8234 :: .int .i32 8238 :: .int .i32 8288 :: .int .i32 8292 :: .int .i32 8400 :: .int .i32 8447 :: .int .i32 12330 :: .int .i32 12333 :: .int .i32 12441 :: .int .i32 12442 :: .int .i32 65024 :: .int .i32 65039 :: .int .i32 65056 :: .int .i32 65071 :: .int .i32 65279 :: .int .i32 65279 :: .int .i32 917760 :: .int .i32 917999 :: []))]) [] rfl ⟨RV.cell (k := 0) rfl rfl Try.underlying193 rfl sz193, trivial⟩ rfl (Gh.sel [] rfl rfl) ⟨(by kernel_rfl), rfl⟩

/-! ### function 123: wayfarer/width.stands -/
def F123.l0 (l0 : (List S190)) (a1 : Int) : Nat → Int → Int → Option (Out (Bool) (Unit))
  | 0, _, _ => none
  | k + 1, x5_4, x6_4 => if x5_4 < x6_4 then (lt (shrI .u64 (IntKind.u64.wrap (x5_4 + x6_4)) 1) fun n8 => if 0 ≤ n8 ∧ n8 < (l0.length : Int) then (if a1 < ((rd l0 n8).f0) then (F123.l0 l0 a1 k x5_4 n8) else (if 0 ≤ n8 ∧ n8 < (l0.length : Int) then (if a1 > ((rd l0 n8).f1) then (lt (IntKind.u64.wrap (n8 + 1)) fun n15 => F123.l0 l0 a1 k n15 x6_4) else (some (Out.ret (true)))) else none)) else none) else (some (Out.go ()))
def F123.f (k : Nat) (l0 : (List S190)) (a1 : Int) : Option (Bool) := lt (IntKind.u64.wrap ((l0.length : Int))) fun n2 => (F123.l0 l0 a1 k 0 n2 : Option (Out (Bool) (Unit))).bind (fun t3 => Out.el t3 (fun r_ => some r_) (fun s4 => some (false)))
set_option maxHeartbeats 2000000 in
set_option maxRecDepth 100000 in
theorem F123.ok {k : Nat} {l0 : (List S190)} {a1 : Int} {A0 : Option Addr} {c0 : Nat} {r : Bool} (H : F123.f k l0 a1 = some r) : SCA Try.prog 123 #[.slice A0 l0.length c0, .int .i32 a1] [Ro k190 A0 c0 l0] (fun v B => v = .bool r ∧ B = []) := by
  refine SCA_of_body Try.func123 rfl rfl ?_
  unfold F123.f at H
  refine SA_seq ?_
  refine SA_region ?_
  refine RA_step rfl (OA_v (v := .bool false) rfl (V_assign rfl) ?_)
  refine RA_nil ?_
  refine at_normal ?_
  refine SA_seq ?_
  refine SA_region ?_
  refine RA_step rfl (OA_v (v := .slice A0 l0.length c0) rfl (V_move rfl) ?_)
  refine RA_step rfl (OA_v (v := .int .i64 (l0.length : Int)) rfl (V_len Try.underlying196 rfl) ?_)
  refine RA_step rfl (OA_v (v := .int .u64 (IntKind.u64.wrap ((l0.length : Int)))) rfl (V_conv (T := 3) (by kernel_rfl) Try.underlying183 rfl) ?_)
  refine RA_step rfl (OA_v (v := .int .u64 0) rfl (V_assign rfl) ?_)
  obtain ⟨n2, hn2, H⟩ := g_lt H
  refine RA_step rfl (OA_v (v := .int .u64 n2) rfl (V_assign (v := .int .u64 n2) (congrArg (Value.int .u64) hn2.symm)) ?_)
  refine RA_nil ?_
  refine at_normal ?_
  refine SA_seq ?_
  obtain ⟨t3, H, Bt3⟩ := g_bind H
  refine SA_mid (fun e ds As => ∃ (s4 : Unit), t3 = Out.go s4 ∧ St [] [] e ds As) ?_ ?_
  · refine SA_block ?_
    refine SA_loop (fun k_ e ds As => ∃ (x5_4 : Int) (x6_4 : Int), F123.l0 l0 a1 k_ x5_4 x6_4 = some t3 ∧ St [(0, .slice A0 l0.length c0), (1, .int .i32 a1), (5, .int .u64 x5_4), (6, .int .u64 x6_4)] [Ro k190 A0 c0 l0] e ds As) (k := k) ⟨_, _, H, St.mk1 (aeq rfl (aeq rfl (aeq rfl (aeq rfl aeq0)))) (Gh.sel [0] rfl rfl)⟩ ?_
    clear H
    rintro k5 e ds As ⟨x5_4, x6_4, H, hst6⟩
    obtain _ | k5 := k5
    · cases H
    rw [F123.l0] at H
    refine SA.of_St hst6 fun junk => ?_
    refine SA_seq ?_
    refine SA_seq ?_
    refine SA_region ?_
    refine RA_step rfl (OA_v (v := .int .u64 x5_4) rfl (V_move rfl) ?_)
    refine RA_step rfl (OA_v (v := .int .u64 x6_4) rfl (V_move rfl) ?_)
    refine RA_step rfl (OA_v (v := .bool (decide (x5_4 < x6_4))) rfl (V_lss rfl rfl) ?_)
    refine RA_nil ?_
    refine at_normal ?_
    by_cases h7 : x5_4 < x6_4
    · replace H := g_ift h7 H
      refine SA_condT rfl h7 ?_
      refine SA_skip ?_
      refine at_normal ?_
      refine SA_block ?_
      refine SA_seq ?_
      refine SA_region ?_
      refine RA_step rfl (OA_v (v := .int .u64 x5_4) rfl (V_move rfl) ?_)
      refine RA_step rfl (OA_v (v := .int .u64 x6_4) rfl (V_move rfl) ?_)
      refine RA_step rfl (OA_v (v := .int .u64 (IntKind.u64.wrap (x5_4 + x6_4))) rfl (V_add rfl rfl) ?_)
      refine RA_step rfl (OA_v (v := .int .u64 (shrI .u64 (IntKind.u64.wrap (x5_4 + x6_4)) 1)) rfl (V_shr rfl rfl (by decide)) ?_)
      obtain ⟨n8, hn8, H⟩ := g_lt H
      refine RA_step rfl (OA_v (v := .int .u64 n8) rfl (V_assign (v := .int .u64 n8) (congrArg (Value.int .u64) hn8.symm)) ?_)
      refine RA_nil ?_
      refine at_normal ?_
      refine SA_block ?_
      refine SA_seq ?_
      refine SA_region ?_
      refine RA_step rfl (OA_v (v := .int .i32 a1) rfl (V_move rfl) ?_)
      refine RA_step rfl (OA_v (v := .slice A0 l0.length c0) rfl (V_move rfl) ?_)
      refine RA_step rfl (OA_v (v := .int .u64 n8) rfl (V_move rfl) ?_)
      obtain ⟨⟨g9, g10⟩, H⟩ := g_pos H
      refine RA_step rfl (OA_r rfl (VR_index (i := n8) Try.underlying196 sz190 rfl rfl (Src.ro (k := 0) rfl) g9 g10) ?_)
      refine RA_step rfl (OA_v (v := .pointer (some ((el A0 (n8.toNat * 2)).add 0))) rfl (V_indexArr (B := el A0 (n8.toNat * 2)) (m := 0) (o := 0) Try.underlying190 sz21 rfl rfl (by decide) (by decide) rfl) ?_)
      refine RA_step rfl (OA_r rfl (VR_load_el (enc := enc190) (i := n8) (j := n8.toNat * 2) (m := 0) (sz := 2) Try.underlying21 rfl rfl rfl rfl (Src.ro (k := 0) rfl) g9 g10 (fun _ _ h => h) rfl) ?_)
      refine RA_step rfl (OA_v (v := .bool (decide (a1 < ((rd l0 n8).f0)))) rfl (V_lss rfl rfl) ?_)
      refine RA_step rfl (OA_v (v := .bool (decide (a1 < ((rd l0 n8).f0)))) rfl (V_assign rfl) ?_)
      refine RA_nil ?_
      refine at_normal ?_
      by_cases h11 : a1 < ((rd l0 n8).f0)
      · replace H := g_ift h11 H
        refine SA_condT rfl h11 ?_
        refine SA_region ?_
        refine RA_step rfl (OA_v (v := .int .u64 n8) rfl (V_move rfl) ?_)
        refine RA_step rfl (OA_v (v := .int .u64 n8) rfl (V_assign rfl) ?_)
        refine RA_nil ?_
        refine inb_normal ?_
        refine inb_normal ?_
        exact at_normal ⟨k5, Nat.lt_succ_self _, _, _, H, St.mk1 (aeq rfl (aeq rfl (aeq rfl (aeq rfl aeq0)))) (Gh.sel [0] rfl rfl)⟩
      replace H := g_iff h11 H
      refine SA_condF rfl h11 ?_
      refine SA_seq ?_
      refine SA_region ?_
      refine RA_step rfl (OA_v (v := .int .i32 a1) rfl (V_move rfl) ?_)
      refine RA_step rfl (OA_v (v := .slice A0 l0.length c0) rfl (V_move rfl) ?_)
      refine RA_step rfl (OA_v (v := .int .u64 n8) rfl (V_move rfl) ?_)
      obtain ⟨⟨g12, g13⟩, H⟩ := g_pos H
      refine RA_step rfl (OA_r rfl (VR_index (i := n8) Try.underlying196 sz190 rfl rfl (Src.ro (k := 0) rfl) g12 g13) ?_)
      refine RA_step rfl (OA_v (v := .pointer (some ((el A0 (n8.toNat * 2)).add 1))) rfl (V_indexArr (B := el A0 (n8.toNat * 2)) (m := 0) (o := 1) Try.underlying190 sz21 rfl rfl (by decide) (by decide) rfl) ?_)
      refine RA_step rfl (OA_r rfl (VR_load_el (enc := enc190) (i := n8) (j := n8.toNat * 2) (m := 1) (sz := 2) Try.underlying21 rfl rfl rfl rfl (Src.ro (k := 0) rfl) g12 g13 (fun _ _ h => h) rfl) ?_)
      refine RA_step rfl (OA_v (v := .bool (decide (a1 > ((rd l0 n8).f1)))) rfl (V_gtr rfl rfl) ?_)
      refine RA_step rfl (OA_v (v := .bool (decide (a1 > ((rd l0 n8).f1)))) rfl (V_assign rfl) ?_)
      refine RA_nil ?_
      refine at_normal ?_
      by_cases h14 : a1 > ((rd l0 n8).f1)
      · replace H := g_ift h14 H
        refine SA_condT rfl h14 ?_
        refine SA_region ?_
        refine RA_step rfl (OA_v (v := .int .u64 n8) rfl (V_move rfl) ?_)
        refine RA_step rfl (OA_v (v := .int .u64 (IntKind.u64.wrap (n8 + 1))) rfl (V_add rfl rfl) ?_)
        obtain ⟨n15, hn15, H⟩ := g_lt H
        refine RA_step rfl (OA_v (v := .int .u64 n15) rfl (V_assign (v := .int .u64 n15) (congrArg (Value.int .u64) hn15.symm)) ?_)
        refine RA_nil ?_
        refine inb_normal ?_
        refine inb_normal ?_
        exact at_normal ⟨k5, Nat.lt_succ_self _, _, _, H, St.mk1 (aeq rfl (aeq rfl (aeq rfl (aeq rfl aeq0)))) (Gh.sel [0] rfl rfl)⟩
      replace H := g_iff h14 H
      refine SA_condF rfl h14 ?_
      refine SA_seq ?_
      refine SA_region ?_
      refine RA_step rfl (OA_v (v := .bool true) rfl (V_assign rfl) ?_)
      refine RA_nil ?_
      refine at_normal ?_
      refine SA_ret ?_
      refine inb_ret ?_
      refine inb_ret ?_
      refine thn_ret ?_
      refine inb_ret ?_
      refine thn_ret ?_
      refine thn_ret ?_
      have hr_ := Option.some.inj H
      subst hr_
      have hb_ := el_ret Bt3
      have hr_ := Option.some.inj hb_
      clear hb_
      subst hr_
      exact BQ_R1 [] rfl rfl (Gh.sel [] rfl rfl) ⟨rfl, rfl⟩
    replace H := g_iff h7 H
    refine SA_condF rfl h7 ?_
    refine SA_exit ?_
    refine thn_exit ?_
    refine thn_exit ?_
    refine inb_hit ?_
    have hr_ := Option.some.inj H
    subst hr_
    exact at_normal ⟨(), rfl, St.mk1 aeq0 (Gh.sel [] rfl rfl)⟩
  rintro e ds As ⟨s4, ht, hst16⟩
  clear H
  subst ht
  replace Bt3 := el_go Bt3
  have H := Bt3
  clear Bt3
  refine at_normal ?_
  refine SA.of_St hst16 fun junk => ?_
  refine SA_seq ?_
  refine SA_region ?_
  refine RA_step rfl (OA_v (v := .bool false) rfl (V_assign rfl) ?_)
  refine RA_nil ?_
  refine at_normal ?_
  refine SA_ret ?_
  have hr_ := Option.some.inj H
  subst hr_
  exact BQ_R1 [] rfl rfl (Gh.sel [] rfl rfl) ⟨rfl, rfl⟩

/-! ### function 111: wayfarer/width.Of -/
def F111.f (k : Nat) (a0 : Int) : Option (Int) := (F121.f ).bind (fun r1 => (F122.f ).bind (fun r2 => (if a0 < 32 then (some true) else (if a0 ≥ 127 then (some (decide (a0 ≤ 159))) else (some false)) : Option Bool).bind (fun q7 => lt (q7 || (decide (a0 > 1114111))) fun q11 => (if q11 = true then (some true) else (if a0 ≥ 55296 then (some (decide (a0 ≤ 57343))) else (some false)) : Option Bool).bind (fun q14 => if q14 = true then (some ((-1))) else ((F123.f k (((rd r2 0) :: (rd r2 1) :: (rd r2 2) :: (rd r2 3) :: (rd r2 4) :: (rd r2 5) :: (rd r2 6) :: (rd r2 7) :: (rd r2 8) :: (rd r2 9) :: (rd r2 10) :: (rd r2 11) :: (rd r2 12) :: (rd r2 13) :: (rd r2 14) :: (rd r2 15) :: (rd r2 16) :: (rd r2 17) :: (rd r2 18) :: (rd r2 19) :: (rd r2 20) :: (rd r2 21) :: (rd r2 22) :: (rd r2 23) :: (rd r2 24) :: (rd r2 25) :: []) : List S190) a0).bind (fun r20 => if r20 = true then (some (0)) else ((F123.f k (((rd r1 0) :: (rd r1 1) :: (rd r1 2) :: (rd r1 3) :: (rd r1 4) :: (rd r1 5) :: (rd r1 6) :: (rd r1 7) :: (rd r1 8) :: (rd r1 9) :: (rd r1 10) :: (rd r1 11) :: (rd r1 12) :: (rd r1 13) :: (rd r1 14) :: (rd r1 15) :: (rd r1 16) :: (rd r1 17) :: (rd r1 18) :: (rd r1 19) :: (rd r1 20) :: (rd r1 21) :: (rd r1 22) :: (rd r1 23) :: (rd r1 24) :: (rd r1 25) :: (rd r1 26) :: (rd r1 27) :: (rd r1 28) :: (rd r1 29) :: (rd r1 30) :: (rd r1 31) :: (rd r1 32) :: (rd r1 33) :: (rd r1 34) :: (rd r1 35) :: (rd r1 36) :: []) : List S190) a0).bind (fun r23 => if r23 = true then (some (2)) else (some (1))))))))))
set_option maxHeartbeats 2000000 in
set_option maxRecDepth 100000 in
theorem F111.ok {k : Nat} {a0 : Int} {r : Int} (H : F111.f k a0 = some r) : SCA Try.prog 111 #[.int .i32 a0] [] (fun v B => v = .int .i64 r ∧ B = []) := by
  refine SCA_of_body Try.func111 rfl rfl ?_
  unfold F111.f at H
  refine SA_seq ?_
  refine SA_region ?_
  refine RA_step rfl (OA_v (v := .int .i64 0) rfl (V_assign rfl) ?_)
  refine RA_nil ?_
  refine at_normal ?_
  refine SA_seq ?_
  refine SA_region ?_
  obtain ⟨r1, C28, H⟩ := g_bind H
  refine RA_step rfl (OA_callA [] [] rfl (X_fn (vs := []) Try.func121 nm121 rfl rfl) rfl (F121.ok C28) rfl ?_)
  rintro _ _ ⟨rfl, rfl⟩
  obtain ⟨r2, C27, H⟩ := g_bind H
  refine RA_step rfl (OA_callA [] [] rfl (X_fn (vs := []) Try.func122 nm122 rfl rfl) rfl (F122.ok C27) rfl ?_)
  rintro _ _ ⟨rfl, rfl⟩
  refine RA_step rfl (OA_alloc rfl zero191 fun b3 => ?_)
  refine RA_step rfl (OA_alloc rfl zero193 fun b5 => ?_)
  refine RA_step rfl (OA_st (b := b3) (m := 0) (k := 0) (vs := (List.flatMap enc190 ((rd r1 0) :: (rd r1 1) :: (rd r1 2) :: (rd r1 3) :: (rd r1 4) :: (rd r1 5) :: (rd r1 6) :: (rd r1 7) :: (rd r1 8) :: (rd r1 9) :: (rd r1 10) :: (rd r1 11) :: (rd r1 12) :: (rd r1 13) :: (rd r1 14) :: (rd r1 15) :: (rd r1 16) :: (rd r1 17) :: (rd r1 18) :: (rd r1 19) :: (rd r1 20) :: (rd r1 21) :: (rd r1 22) :: (rd r1 23) :: (rd r1 24) :: (rd r1 25) :: (rd r1 26) :: (rd r1 27) :: (rd r1 28) :: (rd r1 29) :: (rd r1 30) :: (rd r1 31) :: (rd r1 32) :: (rd r1 33) :: (rd r1 34) :: (rd r1 35) :: (rd r1 36) :: []))) (cs' := (List.flatMap enc190 ((rd r1 0) :: (rd r1 1) :: (rd r1 2) :: (rd r1 3) :: (rd r1 4) :: (rd r1 5) :: (rd r1 6) :: (rd r1 7) :: (rd r1 8) :: (rd r1 9) :: (rd r1 10) :: (rd r1 11) :: (rd r1 12) :: (rd r1 13) :: (rd r1 14) :: (rd r1 15) :: (rd r1 16) :: (rd r1 17) :: (rd r1 18) :: (rd r1 19) :: (rd r1 20) :: (rd r1 21) :: (rd r1 22) :: (rd r1 23) :: (rd r1 24) :: (rd r1 25) :: (rd r1 26) :: (rd r1 27) :: (rd r1 28) :: (rd r1 29) :: (rd r1 30) :: (rd r1 31) :: (rd r1 32) :: (rd r1 33) :: (rd r1 34) :: (rd r1 35) :: (rd r1 36) :: []))) rfl rfl rfl rfl rfl (by kernel_rfl) sz191 rfl (by kernel_rfl) ?_)
  refine RA_step rfl (OA_st (b := b5) (m := 0) (k := 1) (vs := (List.flatMap enc190 ((rd r2 0) :: (rd r2 1) :: (rd r2 2) :: (rd r2 3) :: (rd r2 4) :: (rd r2 5) :: (rd r2 6) :: (rd r2 7) :: (rd r2 8) :: (rd r2 9) :: (rd r2 10) :: (rd r2 11) :: (rd r2 12) :: (rd r2 13) :: (rd r2 14) :: (rd r2 15) :: (rd r2 16) :: (rd r2 17) :: (rd r2 18) :: (rd r2 19) :: (rd r2 20) :: (rd r2 21) :: (rd r2 22) :: (rd r2 23) :: (rd r2 24) :: (rd r2 25) :: []))) (cs' := (List.flatMap enc190 ((rd r2 0) :: (rd r2 1) :: (rd r2 2) :: (rd r2 3) :: (rd r2 4) :: (rd r2 5) :: (rd r2 6) :: (rd r2 7) :: (rd r2 8) :: (rd r2 9) :: (rd r2 10) :: (rd r2 11) :: (rd r2 12) :: (rd r2 13) :: (rd r2 14) :: (rd r2 15) :: (rd r2 16) :: (rd r2 17) :: (rd r2 18) :: (rd r2 19) :: (rd r2 20) :: (rd r2 21) :: (rd r2 22) :: (rd r2 23) :: (rd r2 24) :: (rd r2 25) :: []))) rfl rfl rfl rfl rfl (by kernel_rfl) sz193 rfl (by kernel_rfl) ?_)
  refine RA_nil ?_
  refine at_normal ?_
  refine SA_seq ?_
  refine SA_block ?_
  refine SA_seq ?_
  refine SA_region ?_
  refine RA_step rfl (OA_v (v := .int .i32 a0) rfl (V_move rfl) ?_)
  refine RA_step rfl (OA_v (v := .bool (decide (a0 < 32))) rfl (V_lss rfl rfl) ?_)
  refine RA_step rfl (OA_v (v := .bool (decide (a0 < 32))) rfl (V_move rfl) ?_)
  obtain ⟨q7, H, Bq7⟩ := g_bind H
  refine RA_cut 7 (fun e ds As => St [(0, .int .i32 a0), (3, .pointer (some ⟨b3, 0, none⟩)), (4, .pointer (some ⟨b5, 0, none⟩)), (17, .bool q7)] [Blk b3 191 (List.flatMap enc190 ((rd r1 0) :: (rd r1 1) :: (rd r1 2) :: (rd r1 3) :: (rd r1 4) :: (rd r1 5) :: (rd r1 6) :: (rd r1 7) :: (rd r1 8) :: (rd r1 9) :: (rd r1 10) :: (rd r1 11) :: (rd r1 12) :: (rd r1 13) :: (rd r1 14) :: (rd r1 15) :: (rd r1 16) :: (rd r1 17) :: (rd r1 18) :: (rd r1 19) :: (rd r1 20) :: (rd r1 21) :: (rd r1 22) :: (rd r1 23) :: (rd r1 24) :: (rd r1 25) :: (rd r1 26) :: (rd r1 27) :: (rd r1 28) :: (rd r1 29) :: (rd r1 30) :: (rd r1 31) :: (rd r1 32) :: (rd r1 33) :: (rd r1 34) :: (rd r1 35) :: (rd r1 36) :: [])), Blk b5 193 (List.flatMap enc190 ((rd r2 0) :: (rd r2 1) :: (rd r2 2) :: (rd r2 3) :: (rd r2 4) :: (rd r2 5) :: (rd r2 6) :: (rd r2 7) :: (rd r2 8) :: (rd r2 9) :: (rd r2 10) :: (rd r2 11) :: (rd r2 12) :: (rd r2 13) :: (rd r2 14) :: (rd r2 15) :: (rd r2 16) :: (rd r2 17) :: (rd r2 18) :: (rd r2 19) :: (rd r2 20) :: (rd r2 21) :: (rd r2 22) :: (rd r2 23) :: (rd r2 24) :: (rd r2 25) :: []))] e ds As) ?_ ?_
  · by_cases h8 : a0 < 32
    · replace H := g_ift h8 H
      refine RA_noB rfl rfl rfl rfl (dec_t h8) rfl ?_
      refine RA_noB rfl rfl rfl rfl (dec_t h8) rfl ?_
      refine RA_noB rfl rfl rfl rfl (dec_t h8) rfl ?_
      refine RA_noU rfl rfl rfl rfl rfl ?_
      refine RA_noU rfl rfl rfl rfl rfl ?_
      refine RA_noB rfl rfl rfl rfl (dec_t h8) rfl ?_
      refine RA_step rfl (OA_v rfl (V_pickT rfl (dec_t h8) rfl) ?_)
      have hr_ := Option.some.inj H
      subst hr_
      refine RA_nil ?_
      exact at_normal (St.mk1 (aeq rfl (aeq rfl (aeq rfl (aeq rfl aeq0)))) (Gh.sel [0, 1] rfl rfl))
    replace H := g_iff h8 H
    refine RA_yesB rfl rfl rfl rfl (dec_f h8) (OA_v (v := .int .i32 a0) rfl (V_move rfl) ?_)
    refine RA_yesB rfl rfl rfl rfl (dec_f h8) (OA_v (v := .bool (decide (a0 ≥ 127))) rfl (V_geq rfl rfl) ?_)
    refine RA_yesB rfl rfl rfl rfl (dec_f h8) (OA_v (v := .bool (decide (a0 ≥ 127))) rfl (V_move rfl) ?_)
    by_cases h9 : a0 ≥ 127
    · replace H := g_ift h9 H
      refine RA_yesB rfl rfl rfl rfl (dec_t h9) (OA_v (v := .int .i32 a0) rfl (V_move rfl) ?_)
      refine RA_yesB rfl rfl rfl rfl (dec_t h9) (OA_v (v := .bool (decide (a0 ≤ 159))) rfl (V_leq rfl rfl) ?_)
      refine RA_yesB rfl rfl rfl rfl (dec_f h8) (OA_v rfl (V_pickT rfl (dec_t h9) rfl) ?_)
      refine RA_step rfl (OA_v rfl (V_pickF rfl (dec_f h8) rfl) ?_)
      have hr_ := Option.some.inj H
      subst hr_
      refine RA_nil ?_
      exact at_normal (St.mk1 (aeq rfl (aeq rfl (aeq rfl (aeq rfl aeq0)))) (Gh.sel [0, 1] rfl rfl))
    replace H := g_iff h9 H
    refine RA_noB rfl rfl rfl rfl (dec_f h9) rfl ?_
    refine RA_noB rfl rfl rfl rfl (dec_f h9) rfl ?_
    refine RA_yesB rfl rfl rfl rfl (dec_f h8) (OA_v rfl (V_pickF rfl (dec_f h9) rfl) ?_)
    refine RA_step rfl (OA_v rfl (V_pickF rfl (dec_f h8) rfl) ?_)
    have hr_ := Option.some.inj H
    subst hr_
    refine RA_nil ?_
    exact at_normal (St.mk1 (aeq rfl (aeq rfl (aeq rfl (aeq rfl aeq0)))) (Gh.sel [0, 1] rfl rfl))
  rintro e ds As hst10
  clear H
  have H := Bq7
  clear Bq7
  refine RA.of_St rfl hst10 fun junk => ?_
  refine RA_step rfl (OA_v (v := .bool q7) rfl (V_move rfl) ?_)
  obtain ⟨q11, hq11, H⟩ := g_lt H
  refine RA_cut 3 (fun e ds As => St [(0, .int .i32 a0), (3, .pointer (some ⟨b3, 0, none⟩)), (4, .pointer (some ⟨b5, 0, none⟩)), (21, .bool q11)] [Blk b3 191 (List.flatMap enc190 ((rd r1 0) :: (rd r1 1) :: (rd r1 2) :: (rd r1 3) :: (rd r1 4) :: (rd r1 5) :: (rd r1 6) :: (rd r1 7) :: (rd r1 8) :: (rd r1 9) :: (rd r1 10) :: (rd r1 11) :: (rd r1 12) :: (rd r1 13) :: (rd r1 14) :: (rd r1 15) :: (rd r1 16) :: (rd r1 17) :: (rd r1 18) :: (rd r1 19) :: (rd r1 20) :: (rd r1 21) :: (rd r1 22) :: (rd r1 23) :: (rd r1 24) :: (rd r1 25) :: (rd r1 26) :: (rd r1 27) :: (rd r1 28) :: (rd r1 29) :: (rd r1 30) :: (rd r1 31) :: (rd r1 32) :: (rd r1 33) :: (rd r1 34) :: (rd r1 35) :: (rd r1 36) :: [])), Blk b5 193 (List.flatMap enc190 ((rd r2 0) :: (rd r2 1) :: (rd r2 2) :: (rd r2 3) :: (rd r2 4) :: (rd r2 5) :: (rd r2 6) :: (rd r2 7) :: (rd r2 8) :: (rd r2 9) :: (rd r2 10) :: (rd r2 11) :: (rd r2 12) :: (rd r2 13) :: (rd r2 14) :: (rd r2 15) :: (rd r2 16) :: (rd r2 17) :: (rd r2 18) :: (rd r2 19) :: (rd r2 20) :: (rd r2 21) :: (rd r2 22) :: (rd r2 23) :: (rd r2 24) :: (rd r2 25) :: []))] e ds As) ?_ ?_
  · by_cases h12 : q7 = true
    · refine RA_noB rfl rfl rfl rfl (h12) rfl ?_
      refine RA_noB rfl rfl rfl rfl (h12) rfl ?_
      refine RA_step rfl (OA_v rfl (V_pickT rfl (h12) rfl) ?_)
      refine RA_nil ?_
      exact at_normal (St.mk1 (aeq rfl (aeq rfl (aeq rfl (aeq (congrArg Value.bool (or_t hq11 (h12))) aeq0)))) (Gh.sel [0, 1] rfl rfl))
    refine RA_yesB rfl rfl rfl rfl (bno h12) (OA_v (v := .int .i32 a0) rfl (V_move rfl) ?_)
    refine RA_yesB rfl rfl rfl rfl (bno h12) (OA_v (v := .bool (decide (a0 > 1114111))) rfl (V_gtr rfl rfl) ?_)
    refine RA_step rfl (OA_v rfl (V_pickF rfl (bno h12) rfl) ?_)
    refine RA_nil ?_
    exact at_normal (St.mk1 (aeq rfl (aeq rfl (aeq rfl (aeq (congrArg Value.bool (or_f hq11 (bno h12))) aeq0)))) (Gh.sel [0, 1] rfl rfl))
  rintro e ds As hst13
  refine RA.of_St rfl hst13 fun junk => ?_
  refine RA_step rfl (OA_v (v := .bool q11) rfl (V_move rfl) ?_)
  obtain ⟨q14, H, Bq14⟩ := g_bind H
  refine RA_cut 7 (fun e ds As => St [(0, .int .i32 a0), (3, .pointer (some ⟨b3, 0, none⟩)), (4, .pointer (some ⟨b5, 0, none⟩)), (29, .bool q14)] [Blk b3 191 (List.flatMap enc190 ((rd r1 0) :: (rd r1 1) :: (rd r1 2) :: (rd r1 3) :: (rd r1 4) :: (rd r1 5) :: (rd r1 6) :: (rd r1 7) :: (rd r1 8) :: (rd r1 9) :: (rd r1 10) :: (rd r1 11) :: (rd r1 12) :: (rd r1 13) :: (rd r1 14) :: (rd r1 15) :: (rd r1 16) :: (rd r1 17) :: (rd r1 18) :: (rd r1 19) :: (rd r1 20) :: (rd r1 21) :: (rd r1 22) :: (rd r1 23) :: (rd r1 24) :: (rd r1 25) :: (rd r1 26) :: (rd r1 27) :: (rd r1 28) :: (rd r1 29) :: (rd r1 30) :: (rd r1 31) :: (rd r1 32) :: (rd r1 33) :: (rd r1 34) :: (rd r1 35) :: (rd r1 36) :: [])), Blk b5 193 (List.flatMap enc190 ((rd r2 0) :: (rd r2 1) :: (rd r2 2) :: (rd r2 3) :: (rd r2 4) :: (rd r2 5) :: (rd r2 6) :: (rd r2 7) :: (rd r2 8) :: (rd r2 9) :: (rd r2 10) :: (rd r2 11) :: (rd r2 12) :: (rd r2 13) :: (rd r2 14) :: (rd r2 15) :: (rd r2 16) :: (rd r2 17) :: (rd r2 18) :: (rd r2 19) :: (rd r2 20) :: (rd r2 21) :: (rd r2 22) :: (rd r2 23) :: (rd r2 24) :: (rd r2 25) :: []))] e ds As) ?_ ?_
  · by_cases h15 : q11 = true
    · replace H := g_ift h15 H
      refine RA_noB rfl rfl rfl rfl (h15) rfl ?_
      refine RA_noB rfl rfl rfl rfl (h15) rfl ?_
      refine RA_noB rfl rfl rfl rfl (h15) rfl ?_
      refine RA_noU rfl rfl rfl rfl rfl ?_
      refine RA_noU rfl rfl rfl rfl rfl ?_
      refine RA_noB rfl rfl rfl rfl (h15) rfl ?_
      refine RA_step rfl (OA_v rfl (V_pickT rfl (h15) rfl) ?_)
      have hr_ := Option.some.inj H
      subst hr_
      refine RA_nil ?_
      exact at_normal (St.mk1 (aeq rfl (aeq rfl (aeq rfl (aeq rfl aeq0)))) (Gh.sel [0, 1] rfl rfl))
    replace H := g_iff h15 H
    refine RA_yesB rfl rfl rfl rfl (bno h15) (OA_v (v := .int .i32 a0) rfl (V_move rfl) ?_)
    refine RA_yesB rfl rfl rfl rfl (bno h15) (OA_v (v := .bool (decide (a0 ≥ 55296))) rfl (V_geq rfl rfl) ?_)
    refine RA_yesB rfl rfl rfl rfl (bno h15) (OA_v (v := .bool (decide (a0 ≥ 55296))) rfl (V_move rfl) ?_)
    by_cases h16 : a0 ≥ 55296
    · replace H := g_ift h16 H
      refine RA_yesB rfl rfl rfl rfl (dec_t h16) (OA_v (v := .int .i32 a0) rfl (V_move rfl) ?_)
      refine RA_yesB rfl rfl rfl rfl (dec_t h16) (OA_v (v := .bool (decide (a0 ≤ 57343))) rfl (V_leq rfl rfl) ?_)
      refine RA_yesB rfl rfl rfl rfl (bno h15) (OA_v rfl (V_pickT rfl (dec_t h16) rfl) ?_)
      refine RA_step rfl (OA_v rfl (V_pickF rfl (bno h15) rfl) ?_)
      have hr_ := Option.some.inj H
      subst hr_
      refine RA_nil ?_
      exact at_normal (St.mk1 (aeq rfl (aeq rfl (aeq rfl (aeq rfl aeq0)))) (Gh.sel [0, 1] rfl rfl))
    replace H := g_iff h16 H
    refine RA_noB rfl rfl rfl rfl (dec_f h16) rfl ?_
    refine RA_noB rfl rfl rfl rfl (dec_f h16) rfl ?_
    refine RA_yesB rfl rfl rfl rfl (bno h15) (OA_v rfl (V_pickF rfl (dec_f h16) rfl) ?_)
    refine RA_step rfl (OA_v rfl (V_pickF rfl (bno h15) rfl) ?_)
    have hr_ := Option.some.inj H
    subst hr_
    refine RA_nil ?_
    exact at_normal (St.mk1 (aeq rfl (aeq rfl (aeq rfl (aeq rfl aeq0)))) (Gh.sel [0, 1] rfl rfl))
  rintro e ds As hst17
  clear H
  have H := Bq14
  clear Bq14
  refine RA.of_St rfl hst17 fun junk => ?_
  refine RA_step rfl (OA_v (v := .bool q14) rfl (V_assign rfl) ?_)
  refine RA_nil ?_
  refine at_normal ?_
  by_cases h18 : q14 = true
  · replace H := g_ift h18 H
    refine SA_condTb rfl h18 ?_
    refine SA_seq ?_
    refine SA_region ?_
    refine RA_step rfl (OA_v (v := .int .i64 (-1)) rfl (V_assign rfl) ?_)
    refine RA_nil ?_
    refine at_normal ?_
    refine SA_ret ?_
    refine inb_ret ?_
    refine thn_ret ?_
    have hr_ := Option.some.inj H
    subst hr_
    exact BQ_R1 [] rfl rfl (Gh.sel [] rfl rfl) ⟨rfl, rfl⟩
  replace H := g_iff h18 H
  refine SA_condFb rfl h18 ?_
  refine SA_seq ?_
  refine SA_region ?_
  refine RA_step rfl (OA.ghost (Gh.blkRo (kd := k190) (k := 1) (xs := (((rd r2 0) :: (rd r2 1) :: (rd r2 2) :: (rd r2 3) :: (rd r2 4) :: (rd r2 5) :: (rd r2 6) :: (rd r2 7) :: (rd r2 8) :: (rd r2 9) :: (rd r2 10) :: (rd r2 11) :: (rd r2 12) :: (rd r2 13) :: (rd r2 14) :: (rd r2 15) :: (rd r2 16) :: (rd r2 17) :: (rd r2 18) :: (rd r2 19) :: (rd r2 20) :: (rd r2 21) :: (rd r2 22) :: (rd r2 23) :: (rd r2 24) :: (rd r2 25) :: []) : List S190)) rfl (RL_enc enc190 (fun _ _ => rfl) (by kernel_rfl)) rfl) (OA_v (v := .slice (some ⟨b5, 0, none⟩) 26 26) rfl (V_sliceArr Try.underlying193 sz190 rfl) ?_))
  refine RA_step rfl (OA_v (v := .int .i32 a0) rfl (V_move rfl) ?_)
  obtain ⟨r20, C26, H⟩ := g_bind H
  refine RA_step rfl (OA_callA [1] [0, 1] rfl (X_fn (vs := [.slice (some ⟨b5, 0, none⟩) (((rd r2 0) :: (rd r2 1) :: (rd r2 2) :: (rd r2 3) :: (rd r2 4) :: (rd r2 5) :: (rd r2 6) :: (rd r2 7) :: (rd r2 8) :: (rd r2 9) :: (rd r2 10) :: (rd r2 11) :: (rd r2 12) :: (rd r2 13) :: (rd r2 14) :: (rd r2 15) :: (rd r2 16) :: (rd r2 17) :: (rd r2 18) :: (rd r2 19) :: (rd r2 20) :: (rd r2 21) :: (rd r2 22) :: (rd r2 23) :: (rd r2 24) :: (rd r2 25) :: []) : List S190).length 26, .int .i32 a0]) Try.func123 nm123 rfl rfl) rfl (F123.ok (l0 := (((rd r2 0) :: (rd r2 1) :: (rd r2 2) :: (rd r2 3) :: (rd r2 4) :: (rd r2 5) :: (rd r2 6) :: (rd r2 7) :: (rd r2 8) :: (rd r2 9) :: (rd r2 10) :: (rd r2 11) :: (rd r2 12) :: (rd r2 13) :: (rd r2 14) :: (rd r2 15) :: (rd r2 16) :: (rd r2 17) :: (rd r2 18) :: (rd r2 19) :: (rd r2 20) :: (rd r2 21) :: (rd r2 22) :: (rd r2 23) :: (rd r2 24) :: (rd r2 25) :: []) : List S190)) (A0 := some ⟨b5, 0, none⟩) (c0 := 26) (a1 := a0) C26) rfl ?_)
  rintro _ _ ⟨rfl, rfl⟩
  refine RA_step rfl (OA_v (v := .bool r20) rfl (V_assign rfl) ?_)
  refine RA_nil ?_
  refine at_normal ?_
  by_cases h21 : r20 = true
  · replace H := g_ift h21 H
    refine SA_condTb rfl h21 ?_
    refine SA_seq ?_
    refine SA_region ?_
    refine RA_step rfl (OA_v (v := .int .i64 0) rfl (V_assign rfl) ?_)
    refine RA_nil ?_
    refine at_normal ?_
    refine SA_ret ?_
    refine inb_ret ?_
    refine thn_ret ?_
    have hr_ := Option.some.inj H
    subst hr_
    exact BQ_R1 [] rfl rfl (Gh.sel [] rfl rfl) ⟨rfl, rfl⟩
  replace H := g_iff h21 H
  refine SA_condFb rfl h21 ?_
  refine SA_seq ?_
  refine SA_region ?_
  refine RA_step rfl (OA.ghost (Gh.blkRo (kd := k190) (k := 0) (xs := (((rd r1 0) :: (rd r1 1) :: (rd r1 2) :: (rd r1 3) :: (rd r1 4) :: (rd r1 5) :: (rd r1 6) :: (rd r1 7) :: (rd r1 8) :: (rd r1 9) :: (rd r1 10) :: (rd r1 11) :: (rd r1 12) :: (rd r1 13) :: (rd r1 14) :: (rd r1 15) :: (rd r1 16) :: (rd r1 17) :: (rd r1 18) :: (rd r1 19) :: (rd r1 20) :: (rd r1 21) :: (rd r1 22) :: (rd r1 23) :: (rd r1 24) :: (rd r1 25) :: (rd r1 26) :: (rd r1 27) :: (rd r1 28) :: (rd r1 29) :: (rd r1 30) :: (rd r1 31) :: (rd r1 32) :: (rd r1 33) :: (rd r1 34) :: (rd r1 35) :: (rd r1 36) :: []) : List S190)) rfl (RL_enc enc190 (fun _ _ => rfl) (by kernel_rfl)) rfl) (OA_v (v := .slice (some ⟨b3, 0, none⟩) 37 37) rfl (V_sliceArr Try.underlying191 sz190 rfl) ?_))
  refine RA_step rfl (OA_v (v := .int .i32 a0) rfl (V_move rfl) ?_)
  obtain ⟨r23, C25, H⟩ := g_bind H
  refine RA_step rfl (OA_callA [0] [0, 1] rfl (X_fn (vs := [.slice (some ⟨b3, 0, none⟩) (((rd r1 0) :: (rd r1 1) :: (rd r1 2) :: (rd r1 3) :: (rd r1 4) :: (rd r1 5) :: (rd r1 6) :: (rd r1 7) :: (rd r1 8) :: (rd r1 9) :: (rd r1 10) :: (rd r1 11) :: (rd r1 12) :: (rd r1 13) :: (rd r1 14) :: (rd r1 15) :: (rd r1 16) :: (rd r1 17) :: (rd r1 18) :: (rd r1 19) :: (rd r1 20) :: (rd r1 21) :: (rd r1 22) :: (rd r1 23) :: (rd r1 24) :: (rd r1 25) :: (rd r1 26) :: (rd r1 27) :: (rd r1 28) :: (rd r1 29) :: (rd r1 30) :: (rd r1 31) :: (rd r1 32) :: (rd r1 33) :: (rd r1 34) :: (rd r1 35) :: (rd r1 36) :: []) : List S190).length 37, .int .i32 a0]) Try.func123 nm123 rfl rfl) rfl (F123.ok (l0 := (((rd r1 0) :: (rd r1 1) :: (rd r1 2) :: (rd r1 3) :: (rd r1 4) :: (rd r1 5) :: (rd r1 6) :: (rd r1 7) :: (rd r1 8) :: (rd r1 9) :: (rd r1 10) :: (rd r1 11) :: (rd r1 12) :: (rd r1 13) :: (rd r1 14) :: (rd r1 15) :: (rd r1 16) :: (rd r1 17) :: (rd r1 18) :: (rd r1 19) :: (rd r1 20) :: (rd r1 21) :: (rd r1 22) :: (rd r1 23) :: (rd r1 24) :: (rd r1 25) :: (rd r1 26) :: (rd r1 27) :: (rd r1 28) :: (rd r1 29) :: (rd r1 30) :: (rd r1 31) :: (rd r1 32) :: (rd r1 33) :: (rd r1 34) :: (rd r1 35) :: (rd r1 36) :: []) : List S190)) (A0 := some ⟨b3, 0, none⟩) (c0 := 37) (a1 := a0) C25) rfl ?_)
  rintro _ _ ⟨rfl, rfl⟩
  refine RA_step rfl (OA_v (v := .bool r23) rfl (V_assign rfl) ?_)
  refine RA_nil ?_
  refine at_normal ?_
  by_cases h24 : r23 = true
  · replace H := g_ift h24 H
    refine SA_condTb rfl h24 ?_
    refine SA_seq ?_
    refine SA_region ?_
    refine RA_step rfl (OA_v (v := .int .i64 2) rfl (V_assign rfl) ?_)
    refine RA_nil ?_
    refine at_normal ?_
    refine SA_ret ?_
    refine inb_ret ?_
    refine thn_ret ?_
    have hr_ := Option.some.inj H
    subst hr_
    exact BQ_R1 [] rfl rfl (Gh.sel [] rfl rfl) ⟨rfl, rfl⟩
  replace H := g_iff h24 H
  refine SA_condFb rfl h24 ?_
  refine SA_skip ?_
  refine inb_normal ?_
  refine at_normal ?_
  refine SA_seq ?_
  refine SA_region ?_
  refine RA_step rfl (OA_v (v := .int .i64 1) rfl (V_assign rfl) ?_)
  refine RA_nil ?_
  refine at_normal ?_
  refine SA_ret ?_
  have hr_ := Option.some.inj H
  subst hr_
  exact BQ_R1 [] rfl rfl (Gh.sel [] rfl rfl) ⟨rfl, rfl⟩

/-! ### function 84: wayfarer/cell.May -/
def F84.l0 (a0 : S76) : Nat → Bool → Int → Option (Out (Bool) (Unit))
  | 0, _, _ => none
  | k + 1, x3_735, x36_735 => if x36_735 < 3 then (if 0 ≤ x36_735 ∧ x36_735 < (3 : Int) then (lt (rd ([a0.f1.f0, a0.f1.f1, a0.f1.f2] : List Int) x36_735) fun n741 => if n741 = 0 then (F84.l0 a0 k true (IntKind.i64.wrap (x36_735 + 1))) else ((if x3_735 = true then (some true) else ((F111.f k n741).bind (fun r745 => some (decide (r745 ≠ 0)))) : Option Bool).bind (fun q743 => if q743 = true then (some (Out.ret (false))) else (F84.l0 a0 k x3_735 (IntKind.i64.wrap (x36_735 + 1)))))) else none) else (some (Out.go ()))
def F84.f (k : Nat) (a0 : S76) : Option (Bool) := (F71.f a0.f3).bind (fun r3 => if (!r3) = true then (some (false)) else (if a0.f2 = 0 then (lt ((decide (a0.f0 = 0)) && (decide (a0.f1 = (S74.mk 0 0 0)))) fun q6 => some (q6)) else ((if a0.f2 > 2 then (some true) else ((F111.f k a0.f0).bind (fun r370 => some (decide (r370 ≠ (IntKind.i64.wrap (a0.f2)))))) : Option (Bool)).bind (fun t9 => if t9 = true then (some (false)) else ((F84.l0 a0 k false 0 : Option (Out (Bool) (Unit))).bind (fun t734 => Out.el t734 (fun r_ => some r_) (fun s735 => some (true))))))))
set_option maxHeartbeats 2000000 in
set_option maxRecDepth 100000 in
theorem F84.ok {k : Nat} {a0 : S76} {r : Bool} (H : F84.f k a0 = some r) : SCA Try.prog 84 #[.agg (List.toArray (.int .i32 a0.f0 :: .int .i32 a0.f1.f0 :: .int .i32 a0.f1.f1 :: .int .i32 a0.f1.f2 :: .int .u8 a0.f2 :: .int .i64 a0.f3.f0 :: .int .i64 a0.f3.f1 :: .bool a0.f3.f2 :: .bool a0.f3.f3 :: .bool a0.f3.f4 :: .bool a0.f3.f5 :: .bool a0.f3.f6 :: .bool a0.f3.f7 :: .bool a0.f3.f8 :: .bool a0.f3.f9 :: []))] [] (fun v B => v = .bool r ∧ B = []) := by
  refine SCA_of_body Try.func84 rfl rfl ?_
  unfold F84.f at H
  refine SA_seq ?_
  refine SA_region ?_
  refine RA_step rfl (OA_box rfl rfl fun b1 => ?_)
  refine RA_step rfl (OA_v (v := .bool false) rfl (V_assign rfl) ?_)
  refine RA_nil ?_
  refine at_normal ?_
  refine SA_seq ?_
  refine SA_seq ?_
  refine SA_region ?_
  refine RA_step rfl (OA_v (v := .pointer (some ((⟨b1, 0, none⟩ : Addr).add 5))) rfl (V_fieldAddrN (B := ⟨b1, 0, none⟩) (m := 0) (o := 5) Try.underlying76 rfl nz70 rfl rfl) ?_)
  refine RA_step rfl (OA_r rfl (VR_loadA_blk (b := b1) (m := 5) (k := 0) (vs := [.int .i64 a0.f3.f0, .int .i64 a0.f3.f1, .bool a0.f3.f2, .bool a0.f3.f3, .bool a0.f3.f4, .bool a0.f3.f5, .bool a0.f3.f6, .bool a0.f3.f7, .bool a0.f3.f8, .bool a0.f3.f9]) Try.underlying70 rfl sz70 rfl rfl rfl) ?_)
  obtain ⟨r3, C750, H⟩ := g_bind H
  refine RA_step rfl (OA_callA [] [0] rfl (X_fn (vs := [.agg #[.int .i64 a0.f3.f0, .int .i64 a0.f3.f1, .bool a0.f3.f2, .bool a0.f3.f3, .bool a0.f3.f4, .bool a0.f3.f5, .bool a0.f3.f6, .bool a0.f3.f7, .bool a0.f3.f8, .bool a0.f3.f9]]) Try.func71 nm71 rfl rfl) rfl (F71.ok (a0 := a0.f3) C750) rfl ?_)
  rintro _ _ ⟨rfl, rfl⟩
  refine RA_step rfl (OA_v (v := .bool (!r3)) rfl (V_not rfl) ?_)
  refine RA_nil ?_
  refine at_normal ?_
  by_cases h4 : (!r3) = true
  · replace H := g_ift h4 H
    refine SA_condTb rfl h4 ?_
    refine SA_seq ?_
    refine SA_region ?_
    refine RA_step rfl (OA_v (v := .bool false) rfl (V_assign rfl) ?_)
    refine RA_nil ?_
    refine at_normal ?_
    refine SA_ret ?_
    refine thn_ret ?_
    have hr_ := Option.some.inj H
    subst hr_
    exact BQ_R1 [] rfl rfl (Gh.sel [] rfl rfl) ⟨rfl, rfl⟩
  replace H := g_iff h4 H
  refine SA_condFb rfl h4 ?_
  refine SA_skip ?_
  refine at_normal ?_
  refine SA_seq ?_
  refine SA_seq ?_
  refine SA_region ?_
  refine RA_step rfl (OA_v (v := .pointer (some ((⟨b1, 0, none⟩ : Addr).add 4))) rfl (V_fieldAddrN (B := ⟨b1, 0, none⟩) (m := 0) (o := 4) Try.underlying76 rfl nz5 rfl rfl) ?_)
  refine RA_step rfl (OA_r rfl (VR_load_blk (b := b1) (m := 4) (k := 0) Try.underlying5 rfl rfl rfl rfl) ?_)
  refine RA_step rfl (OA_v (v := .bool (decide (a0.f2 = 0))) rfl (V_eql rfl rfl) ?_)
  refine RA_nil ?_
  refine at_normal ?_
  by_cases h5 : a0.f2 = 0
  · replace H := g_ift h5 H
    refine SA_condT rfl h5 ?_
    refine SA_seq ?_
    refine SA_region ?_
    refine RA_step rfl (OA_v (v := .pointer (some ⟨b1, 0, none⟩)) rfl (V_fieldAddrN (B := ⟨b1, 0, none⟩) (m := 0) (o := 0) Try.underlying76 rfl nz21 rfl rfl) ?_)
    refine RA_step rfl (OA_r rfl (VR_load_blk (b := b1) (m := 0) (k := 0) Try.underlying21 rfl rfl rfl rfl) ?_)
    refine RA_step rfl (OA_v (v := .bool (decide (a0.f0 = 0))) rfl (V_eql rfl rfl) ?_)
    refine RA_step rfl (OA_v (v := .bool (decide (a0.f0 = 0))) rfl (V_move rfl) ?_)
    obtain ⟨q6, hq6, H⟩ := g_lt H
    refine RA_cut 5 (fun e ds As => St [(21, .bool q6)] [] e ds As) ?_ ?_
    · by_cases h7 : a0.f0 = 0
      · refine RA_yesB rfl rfl rfl rfl (dec_t h7) (OA_v (v := .pointer (some ((⟨b1, 0, none⟩ : Addr).add 1))) rfl (V_fieldAddrN (B := ⟨b1, 0, none⟩) (m := 0) (o := 1) Try.underlying76 rfl nz74 rfl rfl) ?_)
        refine RA_yesB rfl rfl rfl rfl (dec_t h7) (OA_r rfl (VR_loadA_blk (b := b1) (m := 1) (k := 0) (vs := [.int .i32 a0.f1.f0, .int .i32 a0.f1.f1, .int .i32 a0.f1.f2]) Try.underlying74 rfl sz74 rfl rfl rfl) ?_)
        refine RA_yesB rfl rfl rfl rfl (dec_t h7) (OA_v (v := .agg #[.int .i32 0, .int .i32 0, .int .i32 0]) rfl (V_buildA (cells := [.int .i32 0, .int .i32 0, .int .i32 0]) (sz := 1) zero74 Try.underlying74 sz21 (by kernel_rfl)) ?_)
        refine RA_yesB rfl rfl rfl rfl (dec_t h7) (OA_v (v := .bool (decide (a0.f1 = (S74.mk 0 0 0)))) rfl (V_eqlD (xs := [.int .i32 a0.f1.f0, .int .i32 a0.f1.f1, .int .i32 a0.f1.f2]) (ys := [.int .i32 0, .int .i32 0, .int .i32 0]) (r := ((a0.f1.f0 == 0) && ((a0.f1.f1 == 0) && ((a0.f1.f2 == 0) && true)))) (p := a0.f1 = (S74.mk 0 0 0)) eqg74 rfl rfl (by kernel_rfl) (eqv74 (x := a0.f1) (y := (S74.mk 0 0 0)))) ?_)
        refine RA_step rfl (OA_v rfl (V_pickT rfl (dec_t h7) rfl) ?_)
        refine RA_nil ?_
        exact at_normal (St.mk1 (aeq (congrArg Value.bool (and_t hq6 (dec_t h7))) aeq0) (Gh.sel [] rfl rfl))
      refine RA_noB rfl rfl rfl rfl (dec_f h7) rfl ?_
      refine RA_noB rfl rfl rfl rfl (dec_f h7) rfl ?_
      refine RA_noB rfl rfl rfl rfl (dec_f h7) rfl ?_
      refine RA_noB rfl rfl rfl rfl (dec_f h7) rfl ?_
      refine RA_step rfl (OA_v rfl (V_pickF rfl (dec_f h7) rfl) ?_)
      refine RA_nil ?_
      exact at_normal (St.mk1 (aeq (congrArg Value.bool (and_f hq6 (dec_f h7))) aeq0) (Gh.sel [] rfl rfl))
    rintro e ds As hst8
    refine RA.of_St rfl hst8 fun junk => ?_
    refine RA_step rfl (OA_v (v := .bool q6) rfl (V_assign rfl) ?_)
    refine RA_nil ?_
    refine at_normal ?_
    refine SA_ret ?_
    refine thn_ret ?_
    have hr_ := Option.some.inj H
    subst hr_
    exact BQ_R1 [] rfl rfl (Gh.sel [] rfl rfl) ⟨rfl, rfl⟩
  replace H := g_iff h5 H
  refine SA_condF rfl h5 ?_
  refine SA_skip ?_
  refine at_normal ?_
  refine SA_seq ?_
  refine SA_seq ?_
  obtain ⟨t9, H, Bt9⟩ := g_bind H
  refine SA_mid (fun e ds As => St [(1, .pointer (some ⟨b1, 0, none⟩)), (33, .bool t9)] [Blk b1 76 (.int .i32 a0.f0 :: .int .i32 a0.f1.f0 :: .int .i32 a0.f1.f1 :: .int .i32 a0.f1.f2 :: .int .u8 a0.f2 :: .int .i64 a0.f3.f0 :: .int .i64 a0.f3.f1 :: .bool a0.f3.f2 :: .bool a0.f3.f3 :: .bool a0.f3.f4 :: .bool a0.f3.f5 :: .bool a0.f3.f6 :: .bool a0.f3.f7 :: .bool a0.f3.f8 :: .bool a0.f3.f9 :: [])] e ds As) ?_ ?_
  · refine SA_drawHq [0, 1, 2, 3, 4, 5, 6, 7, 8, 9, 10, 11] #[[], [0], [0, 1], [0, 1, 2], [0, 1, 2, 3], [0, 1, 2, 3, 4], [0, 1, 2, 3, 4, 5], [0, 1, 2, 3], [0, 1, 2, 3, 7], [0, 1, 2, 3, 7, 8], [0, 1, 2, 3, 4, 5, 6, 7, 8, 9], [0, 1, 2, 3, 4, 5, 6, 7, 8, 9, 10]] [0] [] mixed rfl rfl rfl (PanOk.thn (PanOk.thn (PanOk.thn PanOk.body))) fun I0 hS h0 hh0 w0 sH dd pk => ?_
    refine DH_take (v := .pointer (some ((⟨b1, 0, none⟩ : Addr).add 4))) 0 (by kernel_rfl) rfl rfl (.no rfl) pk sH rfl (VR.ofV (V_fieldAddrN (B := ⟨b1, 0, none⟩) (m := 0) (o := 4) Try.underlying76 rfl nz5 rfl rfl)) ?_
    refine DH_take 1 (by kernel_rfl) rfl rfl (.no rfl) pk sH rfl (VR_load_blk (b := b1) (m := 4) (k := 0) Try.underlying5 rfl rfl rfl rfl) ?_
    refine DH_take (v := .bool (decide (a0.f2 > 2))) 2 (by kernel_rfl) rfl rfl (.no rfl) pk sH rfl (VR.ofV (V_gtr rfl rfl)) ?_
    refine DH_take (v := .bool (decide (a0.f2 > 2))) 3 (by kernel_rfl) rfl rfl (.no rfl) pk sH rfl (VR.ofV (V_move rfl)) ?_
    by_cases h731 : a0.f2 > 2
    · replace H := g_ift h731 H
      refine DH_skip 4 (by kernel_rfl) rfl rfl (.no rfl rfl rfl rfl (dec_t h731)) pk rfl ?_
      refine DH_skip 5 (by kernel_rfl) rfl rfl (.no rfl rfl rfl rfl (dec_t h731)) pk rfl ?_
      refine DH_skip 6 (by kernel_rfl) rfl rfl (.no rfl rfl rfl rfl (dec_t h731)) pk rfl ?_
      refine DH_skip 7 (by kernel_rfl) rfl rfl (.no rfl rfl rfl rfl (dec_t h731)) pk rfl ?_
      refine DH_skip 8 (by kernel_rfl) rfl rfl (.no rfl rfl rfl rfl (dec_t h731)) pk rfl ?_
      refine DH_skip 9 (by kernel_rfl) rfl rfl (.no rfl rfl rfl rfl (dec_t h731)) pk rfl ?_
      refine DH_skip 10 (by kernel_rfl) rfl rfl (.no rfl rfl rfl rfl (dec_t h731)) pk rfl ?_
      refine DH_take 11 (by kernel_rfl) rfl rfl (.no rfl) pk sH rfl (VR.ofV (V_pickT rfl (dec_t h731) rfl)) ?_
      refine DH_open dd sH ?_
      refine DN_done (by kernel_rfl) ?_
      have hr_ := Option.some.inj H
      subst hr_
      exact at_normal (St.mk1 (aeq rfl (aeq rfl aeq0)) (Gh.sel [0] rfl rfl))
    replace H := g_iff h731 H
    refine DH_take (v := .pointer (some ⟨b1, 0, none⟩)) 4 (by kernel_rfl) rfl rfl (.yes rfl rfl rfl rfl (dec_f h731)) pk sH rfl (VR.ofV (V_fieldAddrN (B := ⟨b1, 0, none⟩) (m := 0) (o := 0) Try.underlying76 rfl nz21 rfl rfl)) ?_
    refine DH_take 5 (by kernel_rfl) rfl rfl (.yes rfl rfl rfl rfl (dec_f h731)) pk sH rfl (VR_load_blk (b := b1) (m := 0) (k := 0) Try.underlying21 rfl rfl rfl rfl) ?_
    refine DH_take (v := .pointer (some ((⟨b1, 0, none⟩ : Addr).add 4))) 7 (by kernel_rfl) rfl rfl (.yes rfl rfl rfl rfl (dec_f h731)) pk sH rfl (VR.ofV (V_fieldAddrN (B := ⟨b1, 0, none⟩) (m := 0) (o := 4) Try.underlying76 rfl nz5 rfl rfl)) ?_
    refine DH_take 8 (by kernel_rfl) rfl rfl (.yes rfl rfl rfl rfl (dec_f h731)) pk sH rfl (VR_load_blk (b := b1) (m := 4) (k := 0) Try.underlying5 rfl rfl rfl rfl) ?_
    refine DH_take (v := .int .i64 (IntKind.i64.wrap (a0.f2))) 9 (by kernel_rfl) rfl rfl (.yes rfl rfl rfl rfl (dec_f h731)) pk sH rfl (VR.ofV (V_conv (T := 5) (by kernel_rfl) Try.underlying3 rfl)) ?_
    obtain ⟨r370, C371, H⟩ := g_bind H
    refine DH_one 6 dd (by kernel_rfl) rfl (.yes rfl rfl rfl rfl (dec_f h731)) (OA_callA [] [] rfl (X_fn (vs := [.int .i32 a0.f0]) Try.func111 nm111 rfl rfl) rfl (F111.ok (a0 := a0.f0) C371) rfl ?_)
    rintro _ _ ⟨rfl, rfl⟩
    refine DH_take (v := .bool (decide (r370 ≠ (IntKind.i64.wrap (a0.f2))))) 10 (by kernel_rfl) rfl rfl (.yes rfl rfl rfl rfl (dec_f h731)) pk sH rfl (VR.ofV (V_neq rfl rfl)) ?_
    refine DH_take 11 (by kernel_rfl) rfl rfl (.no rfl) pk sH rfl (VR.ofV (V_pickF rfl (dec_f h731) rfl)) ?_
    refine DH_open dd sH ?_
    refine DN_done (by kernel_rfl) ?_
    have hr_ := Option.some.inj H
    subst hr_
    exact at_normal (St.mk1 (aeq rfl (aeq rfl aeq0)) (Gh.sel [0] rfl rfl))
  rintro e ds As hst732
  clear H
  have H := Bt9
  clear Bt9
  refine at_normal ?_
  refine SA.of_St hst732 fun junk => ?_
  by_cases h733 : t9 = true
  · replace H := g_ift h733 H
    refine SA_condTb rfl h733 ?_
    refine SA_seq ?_
    refine SA_region ?_
    refine RA_step rfl (OA_v (v := .bool false) rfl (V_assign rfl) ?_)
    refine RA_nil ?_
    refine at_normal ?_
    refine SA_ret ?_
    refine thn_ret ?_
    have hr_ := Option.some.inj H
    subst hr_
    exact BQ_R1 [] rfl rfl (Gh.sel [] rfl rfl) ⟨rfl, rfl⟩
  replace H := g_iff h733 H
  refine SA_condFb rfl h733 ?_
  refine SA_skip ?_
  refine at_normal ?_
  refine SA_seq ?_
  refine SA_region ?_
  refine RA_step rfl (OA_v (v := .bool false) rfl (V_assign rfl) ?_)
  refine RA_nil ?_
  refine at_normal ?_
  refine SA_seq ?_
  refine SA_seq ?_
  refine SA_region ?_
  refine RA_step rfl (OA_v (v := .pointer (some ((⟨b1, 0, none⟩ : Addr).add 1))) rfl (V_fieldAddrN (B := ⟨b1, 0, none⟩) (m := 0) (o := 1) Try.underlying76 rfl nz74 rfl rfl) ?_)
  refine RA_step rfl (OA_r rfl (VR_loadA_blk (b := b1) (m := 1) (k := 0) (vs := [.int .i32 a0.f1.f0, .int .i32 a0.f1.f1, .int .i32 a0.f1.f2]) Try.underlying74 rfl sz74 rfl rfl rfl) ?_)
  refine RA_step rfl (OA_v (v := .int .i64 0) rfl (V_move rfl) ?_)
  refine RA_nil ?_
  refine at_normal ?_
  obtain ⟨t734, H, Bt734⟩ := g_bind H
  refine SA_mid (fun e ds As => ∃ (s735 : Unit), t734 = Out.go s735 ∧ St [] [] e ds As) ?_ ?_
  · refine SA_block ?_
    refine SA_loop (fun k_ e ds As => ∃ (x3_735 : Bool) (x36_735 : Int), F84.l0 a0 k_ x3_735 x36_735 = some t734 ∧ St [(3, .bool x3_735), (35, .agg #[.int .i32 a0.f1.f0, .int .i32 a0.f1.f1, .int .i32 a0.f1.f2]), (36, .int .i64 x36_735)] [] e ds As) (k := k) ⟨_, _, H, St.mk1 (aeq rfl (aeq rfl (aeq rfl aeq0))) (Gh.sel [] rfl rfl)⟩ ?_
    clear H
    rintro k736 e ds As ⟨x3_735, x36_735, H, hst737⟩
    obtain _ | k736 := k736
    · cases H
    rw [F84.l0] at H
    refine SA.of_St hst737 fun junk => ?_
    refine SA_seq ?_
    refine SA_region ?_
    refine RA_step rfl (OA_v (v := .bool (decide (x36_735 < 3))) rfl (V_lss rfl rfl) ?_)
    refine RA_nil ?_
    refine at_normal ?_
    refine SA_seq ?_
    by_cases h738 : x36_735 < 3
    · replace H := g_ift h738 H
      refine SA_condT rfl h738 ?_
      refine SA_skip ?_
      refine at_normal ?_
      refine SA_seq ?_
      refine SA_block ?_
      refine SA_seq ?_
      refine SA_region ?_
      obtain ⟨⟨g739, g740⟩, H⟩ := g_pos H
      refine RA_step rfl (OA_v (v := .int .i32 (rd ([a0.f1.f0, a0.f1.f1, a0.f1.f2] : List Int) x36_735)) rfl (V_indexV1 (kd := (Kd.int .i32)) (i := x36_735) (cs := [.int .i32 a0.f1.f0, .int .i32 a0.f1.f1, .int .i32 a0.f1.f2]) (xs := ([a0.f1.f0, a0.f1.f1, a0.f1.f2] : List Int)) (v := .int .i32 (rd ([a0.f1.f0, a0.f1.f1, a0.f1.f2] : List Int) x36_735)) Try.underlying74 sz21 Try.underlying21 rfl rfl rfl (RL_enc (fun x_ : Int => [Value.int .i32 x_]) (fun _ _ => rfl) (by kernel_rfl) _) rfl rfl g739 g740 (fun _ h_ => by rw [h_]; rfl)) ?_)
      obtain ⟨n741, hn741, H⟩ := g_lt H
      refine RA_step rfl (OA_v (v := .int .i32 n741) rfl (V_assign (v := .int .i32 n741) (congrArg (Value.int .i32) hn741.symm)) ?_)
      refine RA_nil ?_
      refine at_normal ?_
      refine SA_block ?_
      refine SA_seq ?_
      refine SA_region ?_
      refine RA_step rfl (OA_v (v := .int .i32 n741) rfl (V_move rfl) ?_)
      refine RA_step rfl (OA_v (v := .bool (decide (n741 = 0))) rfl (V_eql rfl rfl) ?_)
      refine RA_step rfl (OA_v (v := .bool (decide (n741 = 0))) rfl (V_assign rfl) ?_)
      refine RA_nil ?_
      refine at_normal ?_
      by_cases h742 : n741 = 0
      · replace H := g_ift h742 H
        refine SA_condT rfl h742 ?_
        refine SA_region ?_
        refine RA_step rfl (OA_v (v := .bool true) rfl (V_assign rfl) ?_)
        refine RA_nil ?_
        refine inb_normal ?_
        refine inb_normal ?_
        refine at_normal ?_
        refine SA_region ?_
        refine RA_step rfl (OA_v (v := .int .i64 (IntKind.i64.wrap (x36_735 + 1))) rfl (V_add rfl rfl) ?_)
        refine RA_step rfl (OA_v (v := .int .i64 (IntKind.i64.wrap (x36_735 + 1))) rfl (V_move rfl) ?_)
        refine RA_nil ?_
        exact at_normal ⟨k736, Nat.lt_succ_self _, _, _, H, St.mk1 (aeq rfl (aeq rfl (aeq rfl aeq0))) (Gh.sel [] rfl rfl)⟩
      replace H := g_iff h742 H
      refine SA_condF rfl h742 ?_
      refine SA_seq ?_
      refine SA_region ?_
      refine RA_step rfl (OA_v (v := .bool x3_735) rfl (V_move rfl) ?_)
      refine RA_step rfl (OA_v (v := .bool x3_735) rfl (V_move rfl) ?_)
      obtain ⟨q743, H, Bq743⟩ := g_bind H
      refine RA_cut 4 (fun e ds As => St [(3, .bool x3_735), (35, .agg #[.int .i32 a0.f1.f0, .int .i32 a0.f1.f1, .int .i32 a0.f1.f2]), (36, .int .i64 x36_735), (48, .bool q743)] [] e ds As) ?_ ?_
      · by_cases h744 : x3_735 = true
        · replace H := g_ift h744 H
          refine RA_noB rfl rfl rfl rfl (h744) rfl ?_
          refine RA_noB rfl rfl rfl rfl (h744) rfl ?_
          refine RA_noB rfl rfl rfl rfl (h744) rfl ?_
          refine RA_step rfl (OA_v rfl (V_pickT rfl (h744) rfl) ?_)
          have hr_ := Option.some.inj H
          subst hr_
          refine RA_nil ?_
          exact at_normal (St.mk1 (aeq rfl (aeq rfl (aeq rfl (aeq rfl aeq0)))) (Gh.sel [] rfl rfl))
        replace H := g_iff h744 H
        refine RA_yesB rfl rfl rfl rfl (bno h744) (OA_v (v := .int .i32 n741) rfl (V_move rfl) ?_)
        obtain ⟨r745, C746, H⟩ := g_bind H
        refine RA_yesB rfl rfl rfl rfl (bno h744) (OA_callA [] [] rfl (X_fn (vs := [.int .i32 n741]) Try.func111 nm111 rfl rfl) rfl (F111.ok (a0 := n741) C746) rfl ?_)
        rintro _ _ ⟨rfl, rfl⟩
        refine RA_yesB rfl rfl rfl rfl (bno h744) (OA_v (v := .bool (decide (r745 ≠ 0))) rfl (V_neq rfl rfl) ?_)
        refine RA_step rfl (OA_v rfl (V_pickF rfl (bno h744) rfl) ?_)
        have hr_ := Option.some.inj H
        subst hr_
        refine RA_nil ?_
        exact at_normal (St.mk1 (aeq rfl (aeq rfl (aeq rfl (aeq rfl aeq0)))) (Gh.sel [] rfl rfl))
      rintro e ds As hst747
      clear H
      have H := Bq743
      clear Bq743
      refine RA.of_St rfl hst747 fun junk => ?_
      refine RA_step rfl (OA_v (v := .bool q743) rfl (V_assign rfl) ?_)
      refine RA_nil ?_
      refine at_normal ?_
      by_cases h748 : q743 = true
      · replace H := g_ift h748 H
        refine SA_condTb rfl h748 ?_
        refine SA_seq ?_
        refine SA_region ?_
        refine RA_step rfl (OA_v (v := .bool false) rfl (V_assign rfl) ?_)
        refine RA_nil ?_
        refine at_normal ?_
        refine SA_ret ?_
        refine inb_ret ?_
        refine inb_ret ?_
        refine thn_ret ?_
        refine thn_ret ?_
        refine inb_ret ?_
        refine thn_ret ?_
        refine thn_ret ?_
        have hr_ := Option.some.inj H
        subst hr_
        have hb_ := el_ret Bt734
        have hr_ := Option.some.inj hb_
        clear hb_
        subst hr_
        exact BQ_R1 [] rfl rfl (Gh.sel [] rfl rfl) ⟨rfl, rfl⟩
      replace H := g_iff h748 H
      refine SA_condFb rfl h748 ?_
      refine SA_skip ?_
      refine inb_normal ?_
      refine inb_normal ?_
      refine at_normal ?_
      refine SA_region ?_
      refine RA_step rfl (OA_v (v := .int .i64 (IntKind.i64.wrap (x36_735 + 1))) rfl (V_add rfl rfl) ?_)
      refine RA_step rfl (OA_v (v := .int .i64 (IntKind.i64.wrap (x36_735 + 1))) rfl (V_move rfl) ?_)
      refine RA_nil ?_
      exact at_normal ⟨k736, Nat.lt_succ_self _, _, _, H, St.mk1 (aeq rfl (aeq rfl (aeq rfl aeq0))) (Gh.sel [] rfl rfl)⟩
    replace H := g_iff h738 H
    refine SA_condF rfl h738 ?_
    refine SA_exit ?_
    refine thn_exit ?_
    refine thn_exit ?_
    refine inb_hit ?_
    have hr_ := Option.some.inj H
    subst hr_
    exact at_normal ⟨(), rfl, St.mk1 aeq0 (Gh.sel [] rfl rfl)⟩
  rintro e ds As ⟨s735, ht, hst749⟩
  clear H
  subst ht
  replace Bt734 := el_go Bt734
  have H := Bt734
  clear Bt734
  refine at_normal ?_
  refine SA.of_St hst749 fun junk => ?_
  refine SA_seq ?_
  refine SA_region ?_
  refine RA_step rfl (OA_v (v := .bool true) rfl (V_assign rfl) ?_)
  refine RA_nil ?_
  refine at_normal ?_
  refine SA_ret ?_
  have hr_ := Option.some.inj H
  subst hr_
  exact BQ_R1 [] rfl rfl (Gh.sel [] rfl rfl) ⟨rfl, rfl⟩

/-! ### function 41: wayfarer/grid.May -/
def F41.l0 (a0 : S67) : Nat → S76 → Int → Option (Out (Bool) (S76))
  | 0, _, _ => none
  | k + 1, x3_13, x28_13 => if x28_13 < (a0.f2.length : Int) then (if 0 ≤ x28_13 ∧ x28_13 < (a0.f2.length : Int) then (if a0.f0 ≠ 0 then (lt ((decide ((x28_13.tmod a0.f0) = 0)) && (decide (x3_13.f2 = 2))) fun q23 => if q23 = true then (some (Out.ret (false))) else (lt ((decide (((rd a0.f2 x28_13).f2) = 0)) && (decide (((rd a0.f2 x28_13).f3) = x3_13.f3))) fun q27 => (if q27 = true then (if a0.f0 ≠ 0 then (some (decide ((x28_13.tmod a0.f0) > 0))) else none) else (some false) : Option Bool).bind (fun q30 => (F84.f k (S76.mk ((rd a0.f2 x28_13).f0) ((rd a0.f2 x28_13).f1) ((rd a0.f2 x28_13).f2) ((rd a0.f2 x28_13).f3))).bind (fun r34 => lt ((!r34) || (decide ((decide (x3_13.f2 = 2)) ≠ q30))) fun q35 => (if q35 = true then (some true) else (if ((rd a0.f2 x28_13).f2) = 0 then (some (!q30)) else (some false)) : Option Bool).bind (fun q38 => if q38 = true then (some (Out.ret (false))) else (F41.l0 a0 k (S76.mk ((rd a0.f2 x28_13).f0) ((rd a0.f2 x28_13).f1) ((rd a0.f2 x28_13).f2) ((rd a0.f2 x28_13).f3)) (IntKind.i64.wrap (x28_13 + 1)))))))) else none) else none) else (some (Out.go x3_13))
def F41.f (k : Nat) (a0 : S67) : Option (Bool) := (F78.f a0.f0 a0.f1).bind (fun r4 => lt ((!r4) || (decide ((a0.f2.length : Int) ≠ (IntKind.i64.wrap (a0.f0 * a0.f1))))) fun q5 => if q5 = true then (some (false)) else ((F41.l0 a0 k (S76.mk 0 (S74.mk 0 0 0) 1 (S70.mk 0 0 false false false false false false false false)) 0 : Option (Out (Bool) (S76))).bind (fun t11 => Out.el t11 (fun r_ => some r_) (fun s12 => some (decide (s12.f2 ≠ 2))))))
set_option maxHeartbeats 2000000 in
set_option maxRecDepth 100000 in
theorem F41.ok {k : Nat} {a0 : S67} {A0_0 : Option Addr} {c0_0 : Nat} {r : Bool} (H : F41.f k a0 = some r) : SCA Try.prog 41 #[.agg #[.int .i64 a0.f0, .int .i64 a0.f1, .slice A0_0 a0.f2.length c0_0]] [Ro k76 A0_0 c0_0 a0.f2] (fun v B => v = .bool r ∧ B = []) := by
  refine SCA_of_body Try.func41 rfl rfl ?_
  unfold F41.f at H
  refine SA_seq ?_
  refine SA_region ?_
  refine RA_step rfl (OA_box rfl rfl fun b2 => ?_)
  refine RA_step rfl (OA_v (v := .bool false) rfl (V_assign rfl) ?_)
  refine RA_nil ?_
  refine at_normal ?_
  refine SA_seq ?_
  refine SA_seq ?_
  refine SA_region ?_
  refine RA_step rfl (OA_v (v := .pointer (some ⟨b2, 0, none⟩)) rfl (V_fieldAddrN (B := ⟨b2, 0, none⟩) (m := 0) (o := 0) Try.underlying67 rfl nz3 rfl rfl) ?_)
  refine RA_step rfl (OA_r rfl (VR_load_blk (b := b2) (m := 0) (k := 1) Try.underlying3 rfl rfl rfl rfl) ?_)
  refine RA_step rfl (OA_v (v := .pointer (some ((⟨b2, 0, none⟩ : Addr).add 1))) rfl (V_fieldAddrN (B := ⟨b2, 0, none⟩) (m := 0) (o := 1) Try.underlying67 rfl nz3 rfl rfl) ?_)
  refine RA_step rfl (OA_r rfl (VR_load_blk (b := b2) (m := 1) (k := 1) Try.underlying3 rfl rfl rfl rfl) ?_)
  obtain ⟨r4, C45, H⟩ := g_bind H
  refine RA_step rfl (OA_callA [] [0, 1] rfl (X_fn (vs := [.int .i64 a0.f0, .int .i64 a0.f1]) Try.func78 nm78 rfl rfl) rfl (F78.ok (a0 := a0.f0) (a1 := a0.f1) C45) rfl ?_)
  rintro _ _ ⟨rfl, rfl⟩
  refine RA_step rfl (OA_v (v := .bool (!r4)) rfl (V_not rfl) ?_)
  refine RA_step rfl (OA_v (v := .bool (!r4)) rfl (V_move rfl) ?_)
  obtain ⟨q5, hq5, H⟩ := g_lt H
  refine RA_cut 10 (fun e ds As => St [(1, .pointer (some ⟨b2, 0, none⟩)), (23, .bool q5)] [Blk b2 67 [.int .i64 a0.f0, .int .i64 a0.f1, .slice A0_0 a0.f2.length c0_0], Ro k76 A0_0 c0_0 a0.f2] e ds As) ?_ ?_
  · by_cases h6 : (!r4) = true
    · refine RA_noB rfl rfl rfl rfl (h6) rfl ?_
      refine RA_noB rfl rfl rfl rfl (h6) rfl ?_
      refine RA_noB rfl rfl rfl rfl (h6) rfl ?_
      refine RA_noB rfl rfl rfl rfl (h6) rfl ?_
      refine RA_noB rfl rfl rfl rfl (h6) rfl ?_
      refine RA_noB rfl rfl rfl rfl (h6) rfl ?_
      refine RA_noB rfl rfl rfl rfl (h6) rfl ?_
      refine RA_noB rfl rfl rfl rfl (h6) rfl ?_
      refine RA_noB rfl rfl rfl rfl (h6) rfl ?_
      refine RA_step rfl (OA_v rfl (V_pickT rfl (h6) rfl) ?_)
      refine RA_nil ?_
      exact at_normal (St.mk1 (aeq rfl (aeq (congrArg Value.bool (or_t hq5 (h6))) aeq0)) (Gh.sel [1, 0] rfl rfl))
    refine RA_yesB rfl rfl rfl rfl (bno h6) (OA_v (v := .pointer (some ((⟨b2, 0, none⟩ : Addr).add 2))) rfl (V_fieldAddrN (B := ⟨b2, 0, none⟩) (m := 0) (o := 2) Try.underlying67 rfl nz65 rfl rfl) ?_)
    refine RA_yesB rfl rfl rfl rfl (bno h6) (OA_r rfl (VR_load_blk (b := b2) (m := 2) (k := 1) Try.underlying65 rfl rfl rfl rfl) ?_)
    refine RA_yesB rfl rfl rfl rfl (bno h6) (OA_v (v := .int .i64 (a0.f2.length : Int)) rfl (V_len Try.underlying65 rfl) ?_)
    refine RA_yesB rfl rfl rfl rfl (bno h6) (OA_v (v := .pointer (some ⟨b2, 0, none⟩)) rfl (V_fieldAddrN (B := ⟨b2, 0, none⟩) (m := 0) (o := 0) Try.underlying67 rfl nz3 rfl rfl) ?_)
    refine RA_yesB rfl rfl rfl rfl (bno h6) (OA_r rfl (VR_load_blk (b := b2) (m := 0) (k := 1) Try.underlying3 rfl rfl rfl rfl) ?_)
    refine RA_yesB rfl rfl rfl rfl (bno h6) (OA_v (v := .pointer (some ((⟨b2, 0, none⟩ : Addr).add 1))) rfl (V_fieldAddrN (B := ⟨b2, 0, none⟩) (m := 0) (o := 1) Try.underlying67 rfl nz3 rfl rfl) ?_)
    refine RA_yesB rfl rfl rfl rfl (bno h6) (OA_r rfl (VR_load_blk (b := b2) (m := 1) (k := 1) Try.underlying3 rfl rfl rfl rfl) ?_)
    refine RA_yesB rfl rfl rfl rfl (bno h6) (OA_v (v := .int .i64 (IntKind.i64.wrap (a0.f0 * a0.f1))) rfl (V_mul rfl rfl) ?_)
    refine RA_yesB rfl rfl rfl rfl (bno h6) (OA_v (v := .bool (decide ((a0.f2.length : Int) ≠ (IntKind.i64.wrap (a0.f0 * a0.f1))))) rfl (V_neq rfl rfl) ?_)
    refine RA_step rfl (OA_v rfl (V_pickF rfl (bno h6) rfl) ?_)
    refine RA_nil ?_
    exact at_normal (St.mk1 (aeq rfl (aeq (congrArg Value.bool (or_f hq5 (bno h6))) aeq0)) (Gh.sel [1, 0] rfl rfl))
  rintro e ds As hst7
  refine RA_nil ?_
  refine at_normal ?_
  refine SA.of_St hst7 fun junk => ?_
  by_cases h8 : q5 = true
  · replace H := g_ift h8 H
    refine SA_condTb rfl h8 ?_
    refine SA_seq ?_
    refine SA_region ?_
    refine RA_step rfl (OA_v (v := .bool false) rfl (V_assign rfl) ?_)
    refine RA_nil ?_
    refine at_normal ?_
    refine SA_ret ?_
    refine thn_ret ?_
    have hr_ := Option.some.inj H
    subst hr_
    exact BQ_R1 [] rfl rfl (Gh.sel [] rfl rfl) ⟨rfl, rfl⟩
  replace H := g_iff h8 H
  refine SA_condFb rfl h8 ?_
  refine SA_skip ?_
  refine at_normal ?_
  refine SA_seq ?_
  refine SA_region ?_
  refine RA_step rfl (OA_v (v := .agg (List.toArray (.int .i32 0 :: .int .i32 0 :: .int .i32 0 :: .int .i32 0 :: .int .u8 1 :: .int .i64 0 :: .int .i64 0 :: .bool false :: .bool false :: .bool false :: .bool false :: .bool false :: .bool false :: .bool false :: .bool false :: []))) rfl (V_build (cells := (.int .i32 0 :: .int .i32 0 :: .int .i32 0 :: .int .i32 0 :: .int .u8 1 :: .int .i64 0 :: .int .i64 0 :: .bool false :: .bool false :: .bool false :: .bool false :: .bool false :: .bool false :: .bool false :: .bool false :: [])) zero76 Try.underlying76 plc76 (by kernel_rfl)) ?_)
  refine RA_step rfl (OA_alloc rfl zero76 fun b9 => ?_)
  refine RA_step rfl (OA_st (b := b9) (m := 0) (k := 2) (vs := (.int .i32 0 :: .int .i32 0 :: .int .i32 0 :: .int .i32 0 :: .int .u8 1 :: .int .i64 0 :: .int .i64 0 :: .bool false :: .bool false :: .bool false :: .bool false :: .bool false :: .bool false :: .bool false :: .bool false :: [])) (cs' := (.int .i32 0 :: .int .i32 0 :: .int .i32 0 :: .int .i32 0 :: .int .u8 1 :: .int .i64 0 :: .int .i64 0 :: .bool false :: .bool false :: .bool false :: .bool false :: .bool false :: .bool false :: .bool false :: .bool false :: [])) rfl rfl rfl rfl rfl rfl sz76 rfl rfl ?_)
  refine RA_nil ?_
  refine at_normal ?_
  refine SA_seq ?_
  refine SA_seq ?_
  refine SA_region ?_
  refine RA_step rfl (OA_v (v := .pointer (some ((⟨b2, 0, none⟩ : Addr).add 2))) rfl (V_fieldAddrN (B := ⟨b2, 0, none⟩) (m := 0) (o := 2) Try.underlying67 rfl nz65 rfl rfl) ?_)
  refine RA_step rfl (OA_r rfl (VR_load_blk (b := b2) (m := 2) (k := 0) Try.underlying65 rfl rfl rfl rfl) ?_)
  refine RA_step rfl (OA_v (v := .int .i64 (a0.f2.length : Int)) rfl (V_len Try.underlying65 rfl) ?_)
  refine RA_step rfl (OA_v (v := .int .i64 0) rfl (V_move rfl) ?_)
  refine RA_nil ?_
  refine at_normal ?_
  obtain ⟨t11, H, Bt11⟩ := g_bind H
  refine SA_mid (fun e ds As => ∃ (s12 : S76), t11 = Out.go s12 ∧ ∃ (b13 : Nat), St [(3, .pointer (some ⟨b13, 0, none⟩))] [Blk b13 76 (.int .i32 s12.f0 :: .int .i32 s12.f1.f0 :: .int .i32 s12.f1.f1 :: .int .i32 s12.f1.f2 :: .int .u8 s12.f2 :: .int .i64 s12.f3.f0 :: .int .i64 s12.f3.f1 :: .bool s12.f3.f2 :: .bool s12.f3.f3 :: .bool s12.f3.f4 :: .bool s12.f3.f5 :: .bool s12.f3.f6 :: .bool s12.f3.f7 :: .bool s12.f3.f8 :: .bool s12.f3.f9 :: [])] e ds As) ?_ ?_
  · refine SA_block ?_
    refine SA_loop (fun k_ e ds As => ∃ (x3_13 : S76) (x28_13 : Int), ∃ (b14 : Nat), F41.l0 a0 k_ x3_13 x28_13 = some t11 ∧ St [(1, .pointer (some ⟨b2, 0, none⟩)), (3, .pointer (some ⟨b14, 0, none⟩)), (26, .slice A0_0 a0.f2.length c0_0), (27, .int .i64 (a0.f2.length : Int)), (28, .int .i64 x28_13)] [Blk b2 67 [.int .i64 a0.f0, .int .i64 a0.f1, .slice A0_0 a0.f2.length c0_0], Ro k76 A0_0 c0_0 a0.f2, Blk b14 76 (.int .i32 x3_13.f0 :: .int .i32 x3_13.f1.f0 :: .int .i32 x3_13.f1.f1 :: .int .i32 x3_13.f1.f2 :: .int .u8 x3_13.f2 :: .int .i64 x3_13.f3.f0 :: .int .i64 x3_13.f3.f1 :: .bool x3_13.f3.f2 :: .bool x3_13.f3.f3 :: .bool x3_13.f3.f4 :: .bool x3_13.f3.f5 :: .bool x3_13.f3.f6 :: .bool x3_13.f3.f7 :: .bool x3_13.f3.f8 :: .bool x3_13.f3.f9 :: [])] e ds As) (k := k) ⟨_, _, b9, H, St.mk1 (aeq rfl (aeq rfl (aeq rfl (aeq rfl (aeq rfl aeq0))))) (Gh.sel [0, 1, 2] rfl rfl)⟩ ?_
    clear H
    rintro k15 e ds As ⟨x3_13, x28_13, b14, H, hst16⟩
    obtain _ | k15 := k15
    · cases H
    rw [F41.l0] at H
    refine SA.of_St hst16 fun junk => ?_
    refine SA_seq ?_
    refine SA_region ?_
    refine RA_step rfl (OA_v (v := .bool (decide (x28_13 < (a0.f2.length : Int)))) rfl (V_lss rfl rfl) ?_)
    refine RA_nil ?_
    refine at_normal ?_
    refine SA_seq ?_
    by_cases h17 : x28_13 < (a0.f2.length : Int)
    · replace H := g_ift h17 H
      refine SA_condT rfl h17 ?_
      refine SA_skip ?_
      refine at_normal ?_
      refine SA_seq ?_
      refine SA_block ?_
      refine SA_seq ?_
      refine SA_region ?_
      refine RA_step rfl (OA_v (v := .int .i64 x28_13) rfl (V_move rfl) ?_)
      obtain ⟨⟨g18, g19⟩, H⟩ := g_pos H
      refine RA_step rfl (OA_r rfl (VR_index (i := x28_13) Try.underlying65 sz76 rfl rfl (Src.ro (k := 1) rfl) g18 g19) ?_)
      refine RA_step rfl (OA_r rfl (VR_loadA_el (enc := enc76) (i := x28_13) (j := x28_13.toNat * 15) (m := 0) (sz := 15) (vs := (.int .i32 ((rd a0.f2 x28_13).f0) :: .int .i32 (((rd a0.f2 x28_13).f1).f0) :: .int .i32 (((rd a0.f2 x28_13).f1).f1) :: .int .i32 (((rd a0.f2 x28_13).f1).f2) :: .int .u8 ((rd a0.f2 x28_13).f2) :: .int .i64 (((rd a0.f2 x28_13).f3).f0) :: .int .i64 (((rd a0.f2 x28_13).f3).f1) :: .bool (((rd a0.f2 x28_13).f3).f2) :: .bool (((rd a0.f2 x28_13).f3).f3) :: .bool (((rd a0.f2 x28_13).f3).f4) :: .bool (((rd a0.f2 x28_13).f3).f5) :: .bool (((rd a0.f2 x28_13).f3).f6) :: .bool (((rd a0.f2 x28_13).f3).f7) :: .bool (((rd a0.f2 x28_13).f3).f8) :: .bool (((rd a0.f2 x28_13).f3).f9) :: [])) Try.underlying76 rfl sz76 rfl rfl rfl (Src.ro (k := 1) rfl) g18 g19 (fun _ _ h => h) rfl) ?_)
      refine RA_step rfl (OA_alloc rfl zero76 fun b20 => ?_)
      refine RA_step rfl (OA_v (v := .int .i64 x28_13) rfl (V_assign rfl) ?_)
      refine RA_step rfl (OA_st (b := b20) (m := 0) (k := 3) (vs := (.int .i32 ((rd a0.f2 x28_13).f0) :: .int .i32 (((rd a0.f2 x28_13).f1).f0) :: .int .i32 (((rd a0.f2 x28_13).f1).f1) :: .int .i32 (((rd a0.f2 x28_13).f1).f2) :: .int .u8 ((rd a0.f2 x28_13).f2) :: .int .i64 (((rd a0.f2 x28_13).f3).f0) :: .int .i64 (((rd a0.f2 x28_13).f3).f1) :: .bool (((rd a0.f2 x28_13).f3).f2) :: .bool (((rd a0.f2 x28_13).f3).f3) :: .bool (((rd a0.f2 x28_13).f3).f4) :: .bool (((rd a0.f2 x28_13).f3).f5) :: .bool (((rd a0.f2 x28_13).f3).f6) :: .bool (((rd a0.f2 x28_13).f3).f7) :: .bool (((rd a0.f2 x28_13).f3).f8) :: .bool (((rd a0.f2 x28_13).f3).f9) :: [])) (cs' := (.int .i32 ((rd a0.f2 x28_13).f0) :: .int .i32 (((rd a0.f2 x28_13).f1).f0) :: .int .i32 (((rd a0.f2 x28_13).f1).f1) :: .int .i32 (((rd a0.f2 x28_13).f1).f2) :: .int .u8 ((rd a0.f2 x28_13).f2) :: .int .i64 (((rd a0.f2 x28_13).f3).f0) :: .int .i64 (((rd a0.f2 x28_13).f3).f1) :: .bool (((rd a0.f2 x28_13).f3).f2) :: .bool (((rd a0.f2 x28_13).f3).f3) :: .bool (((rd a0.f2 x28_13).f3).f4) :: .bool (((rd a0.f2 x28_13).f3).f5) :: .bool (((rd a0.f2 x28_13).f3).f6) :: .bool (((rd a0.f2 x28_13).f3).f7) :: .bool (((rd a0.f2 x28_13).f3).f8) :: .bool (((rd a0.f2 x28_13).f3).f9) :: [])) rfl rfl rfl rfl rfl rfl sz76 rfl rfl ?_)
      refine RA_nil ?_
      refine at_normal ?_
      refine SA_seq ?_
      refine SA_seq ?_
      refine SA_region ?_
      refine RA_step rfl (OA_v (v := .int .i64 x28_13) rfl (V_move rfl) ?_)
      refine RA_step rfl (OA_v (v := .pointer (some ⟨b2, 0, none⟩)) rfl (V_fieldAddrN (B := ⟨b2, 0, none⟩) (m := 0) (o := 0) Try.underlying67 rfl nz3 rfl rfl) ?_)
      refine RA_step rfl (OA_r rfl (VR_load_blk (b := b2) (m := 0) (k := 0) Try.underlying3 rfl rfl rfl rfl) ?_)
      obtain ⟨g22, H⟩ := g_pos H
      refine RA_step rfl (OA_v (v := .int .i64 (x28_13.tmod a0.f0)) rfl (V_rem rfl rfl g22) ?_)
      refine RA_step rfl (OA_v (v := .bool (decide ((x28_13.tmod a0.f0) = 0))) rfl (V_eql rfl rfl) ?_)
      refine RA_step rfl (OA_v (v := .bool (decide ((x28_13.tmod a0.f0) = 0))) rfl (V_move rfl) ?_)
      obtain ⟨q23, hq23, H⟩ := g_lt H
      refine RA_cut 4 (fun e ds As => St [(1, .pointer (some ⟨b2, 0, none⟩)), (3, .pointer (some ⟨b14, 0, none⟩)), (4, .int .i64 x28_13), (5, .pointer (some ⟨b20, 0, none⟩)), (26, .slice A0_0 a0.f2.length c0_0), (27, .int .i64 (a0.f2.length : Int)), (28, .int .i64 x28_13), (42, .bool q23)] [Blk b2 67 [.int .i64 a0.f0, .int .i64 a0.f1, .slice A0_0 a0.f2.length c0_0], Ro k76 A0_0 c0_0 a0.f2, Blk b14 76 (.int .i32 x3_13.f0 :: .int .i32 x3_13.f1.f0 :: .int .i32 x3_13.f1.f1 :: .int .i32 x3_13.f1.f2 :: .int .u8 x3_13.f2 :: .int .i64 x3_13.f3.f0 :: .int .i64 x3_13.f3.f1 :: .bool x3_13.f3.f2 :: .bool x3_13.f3.f3 :: .bool x3_13.f3.f4 :: .bool x3_13.f3.f5 :: .bool x3_13.f3.f6 :: .bool x3_13.f3.f7 :: .bool x3_13.f3.f8 :: .bool x3_13.f3.f9 :: []), Blk b20 76 (.int .i32 ((rd a0.f2 x28_13).f0) :: .int .i32 (((rd a0.f2 x28_13).f1).f0) :: .int .i32 (((rd a0.f2 x28_13).f1).f1) :: .int .i32 (((rd a0.f2 x28_13).f1).f2) :: .int .u8 ((rd a0.f2 x28_13).f2) :: .int .i64 (((rd a0.f2 x28_13).f3).f0) :: .int .i64 (((rd a0.f2 x28_13).f3).f1) :: .bool (((rd a0.f2 x28_13).f3).f2) :: .bool (((rd a0.f2 x28_13).f3).f3) :: .bool (((rd a0.f2 x28_13).f3).f4) :: .bool (((rd a0.f2 x28_13).f3).f5) :: .bool (((rd a0.f2 x28_13).f3).f6) :: .bool (((rd a0.f2 x28_13).f3).f7) :: .bool (((rd a0.f2 x28_13).f3).f8) :: .bool (((rd a0.f2 x28_13).f3).f9) :: [])] e ds As) ?_ ?_
      · by_cases h24 : (x28_13.tmod a0.f0) = 0
        · refine RA_yesB rfl rfl rfl rfl (dec_t h24) (OA_v (v := .pointer (some ((⟨b14, 0, none⟩ : Addr).add 4))) rfl (V_fieldAddrN (B := ⟨b14, 0, none⟩) (m := 0) (o := 4) Try.underlying76 rfl nz5 rfl rfl) ?_)
          refine RA_yesB rfl rfl rfl rfl (dec_t h24) (OA_r rfl (VR_load_blk (b := b14) (m := 4) (k := 2) Try.underlying5 rfl rfl rfl rfl) ?_)
          refine RA_yesB rfl rfl rfl rfl (dec_t h24) (OA_v (v := .bool (decide (x3_13.f2 = 2))) rfl (V_eql rfl rfl) ?_)
          refine RA_step rfl (OA_v rfl (V_pickT rfl (dec_t h24) rfl) ?_)
          refine RA_nil ?_
          exact at_normal (St.mk1 (aeq rfl (aeq rfl (aeq rfl (aeq rfl (aeq rfl (aeq rfl (aeq rfl (aeq (congrArg Value.bool (and_t hq23 (dec_t h24))) aeq0)))))))) (Gh.sel [0, 1, 2, 3] rfl rfl))
        refine RA_noB rfl rfl rfl rfl (dec_f h24) rfl ?_
        refine RA_noB rfl rfl rfl rfl (dec_f h24) rfl ?_
        refine RA_noB rfl rfl rfl rfl (dec_f h24) rfl ?_
        refine RA_step rfl (OA_v rfl (V_pickF rfl (dec_f h24) rfl) ?_)
        refine RA_nil ?_
        exact at_normal (St.mk1 (aeq rfl (aeq rfl (aeq rfl (aeq rfl (aeq rfl (aeq rfl (aeq rfl (aeq (congrArg Value.bool (and_f hq23 (dec_f h24))) aeq0)))))))) (Gh.sel [0, 1, 2, 3] rfl rfl))
      rintro e ds As hst25
      refine RA_nil ?_
      refine at_normal ?_
      refine SA.of_St hst25 fun junk => ?_
      by_cases h26 : q23 = true
      · replace H := g_ift h26 H
        refine SA_condTb rfl h26 ?_
        refine SA_seq ?_
        refine SA_region ?_
        refine RA_step rfl (OA_v (v := .bool false) rfl (V_assign rfl) ?_)
        refine RA_nil ?_
        refine at_normal ?_
        refine SA_ret ?_
        refine thn_ret ?_
        refine inb_ret ?_
        refine thn_ret ?_
        refine thn_ret ?_
        refine inb_ret ?_
        refine thn_ret ?_
        refine thn_ret ?_
        have hr_ := Option.some.inj H
        subst hr_
        have hb_ := el_ret Bt11
        have hr_ := Option.some.inj hb_
        clear hb_
        subst hr_
        exact BQ_R1 [] rfl rfl (Gh.sel [] rfl rfl) ⟨rfl, rfl⟩
      replace H := g_iff h26 H
      refine SA_condFb rfl h26 ?_
      refine SA_skip ?_
      refine at_normal ?_
      refine SA_seq ?_
      refine SA_region ?_
      refine RA_step rfl (OA_v (v := .pointer (some ((⟨b20, 0, none⟩ : Addr).add 4))) rfl (V_fieldAddrN (B := ⟨b20, 0, none⟩) (m := 0) (o := 4) Try.underlying76 rfl nz5 rfl rfl) ?_)
      refine RA_step rfl (OA_r rfl (VR_load_blk (b := b20) (m := 4) (k := 3) Try.underlying5 rfl rfl rfl rfl) ?_)
      refine RA_step rfl (OA_v (v := .bool (decide (((rd a0.f2 x28_13).f2) = 0))) rfl (V_eql rfl rfl) ?_)
      refine RA_step rfl (OA_v (v := .bool (decide (((rd a0.f2 x28_13).f2) = 0))) rfl (V_move rfl) ?_)
      obtain ⟨q27, hq27, H⟩ := g_lt H
      refine RA_cut 6 (fun e ds As => St [(1, .pointer (some ⟨b2, 0, none⟩)), (3, .pointer (some ⟨b14, 0, none⟩)), (4, .int .i64 x28_13), (5, .pointer (some ⟨b20, 0, none⟩)), (26, .slice A0_0 a0.f2.length c0_0), (27, .int .i64 (a0.f2.length : Int)), (28, .int .i64 x28_13), (52, .bool q27)] [Blk b2 67 [.int .i64 a0.f0, .int .i64 a0.f1, .slice A0_0 a0.f2.length c0_0], Ro k76 A0_0 c0_0 a0.f2, Blk b14 76 (.int .i32 x3_13.f0 :: .int .i32 x3_13.f1.f0 :: .int .i32 x3_13.f1.f1 :: .int .i32 x3_13.f1.f2 :: .int .u8 x3_13.f2 :: .int .i64 x3_13.f3.f0 :: .int .i64 x3_13.f3.f1 :: .bool x3_13.f3.f2 :: .bool x3_13.f3.f3 :: .bool x3_13.f3.f4 :: .bool x3_13.f3.f5 :: .bool x3_13.f3.f6 :: .bool x3_13.f3.f7 :: .bool x3_13.f3.f8 :: .bool x3_13.f3.f9 :: []), Blk b20 76 (.int .i32 ((rd a0.f2 x28_13).f0) :: .int .i32 (((rd a0.f2 x28_13).f1).f0) :: .int .i32 (((rd a0.f2 x28_13).f1).f1) :: .int .i32 (((rd a0.f2 x28_13).f1).f2) :: .int .u8 ((rd a0.f2 x28_13).f2) :: .int .i64 (((rd a0.f2 x28_13).f3).f0) :: .int .i64 (((rd a0.f2 x28_13).f3).f1) :: .bool (((rd a0.f2 x28_13).f3).f2) :: .bool (((rd a0.f2 x28_13).f3).f3) :: .bool (((rd a0.f2 x28_13).f3).f4) :: .bool (((rd a0.f2 x28_13).f3).f5) :: .bool (((rd a0.f2 x28_13).f3).f6) :: .bool (((rd a0.f2 x28_13).f3).f7) :: .bool (((rd a0.f2 x28_13).f3).f8) :: .bool (((rd a0.f2 x28_13).f3).f9) :: [])] e ds As) ?_ ?_
      · by_cases h28 : ((rd a0.f2 x28_13).f2) = 0
        · refine RA_yesB rfl rfl rfl rfl (dec_t h28) (OA_v (v := .pointer (some ((⟨b20, 0, none⟩ : Addr).add 5))) rfl (V_fieldAddrN (B := ⟨b20, 0, none⟩) (m := 0) (o := 5) Try.underlying76 rfl nz70 rfl rfl) ?_)
          refine RA_yesB rfl rfl rfl rfl (dec_t h28) (OA_r rfl (VR_loadA_blk (b := b20) (m := 5) (k := 3) (vs := [.int .i64 (((rd a0.f2 x28_13).f3).f0), .int .i64 (((rd a0.f2 x28_13).f3).f1), .bool (((rd a0.f2 x28_13).f3).f2), .bool (((rd a0.f2 x28_13).f3).f3), .bool (((rd a0.f2 x28_13).f3).f4), .bool (((rd a0.f2 x28_13).f3).f5), .bool (((rd a0.f2 x28_13).f3).f6), .bool (((rd a0.f2 x28_13).f3).f7), .bool (((rd a0.f2 x28_13).f3).f8), .bool (((rd a0.f2 x28_13).f3).f9)]) Try.underlying70 rfl sz70 rfl rfl rfl) ?_)
          refine RA_yesB rfl rfl rfl rfl (dec_t h28) (OA_v (v := .pointer (some ((⟨b14, 0, none⟩ : Addr).add 5))) rfl (V_fieldAddrN (B := ⟨b14, 0, none⟩) (m := 0) (o := 5) Try.underlying76 rfl nz70 rfl rfl) ?_)
          refine RA_yesB rfl rfl rfl rfl (dec_t h28) (OA_r rfl (VR_loadA_blk (b := b14) (m := 5) (k := 2) (vs := [.int .i64 x3_13.f3.f0, .int .i64 x3_13.f3.f1, .bool x3_13.f3.f2, .bool x3_13.f3.f3, .bool x3_13.f3.f4, .bool x3_13.f3.f5, .bool x3_13.f3.f6, .bool x3_13.f3.f7, .bool x3_13.f3.f8, .bool x3_13.f3.f9]) Try.underlying70 rfl sz70 rfl rfl rfl) ?_)
          refine RA_yesB rfl rfl rfl rfl (dec_t h28) (OA_v (v := .bool (decide (((rd a0.f2 x28_13).f3) = x3_13.f3))) rfl (V_eqlD (xs := [.int .i64 (((rd a0.f2 x28_13).f3).f0), .int .i64 (((rd a0.f2 x28_13).f3).f1), .bool (((rd a0.f2 x28_13).f3).f2), .bool (((rd a0.f2 x28_13).f3).f3), .bool (((rd a0.f2 x28_13).f3).f4), .bool (((rd a0.f2 x28_13).f3).f5), .bool (((rd a0.f2 x28_13).f3).f6), .bool (((rd a0.f2 x28_13).f3).f7), .bool (((rd a0.f2 x28_13).f3).f8), .bool (((rd a0.f2 x28_13).f3).f9)]) (ys := [.int .i64 x3_13.f3.f0, .int .i64 x3_13.f3.f1, .bool x3_13.f3.f2, .bool x3_13.f3.f3, .bool x3_13.f3.f4, .bool x3_13.f3.f5, .bool x3_13.f3.f6, .bool x3_13.f3.f7, .bool x3_13.f3.f8, .bool x3_13.f3.f9]) (r := (((((rd a0.f2 x28_13).f3).f0) == x3_13.f3.f0) && (((((rd a0.f2 x28_13).f3).f1) == x3_13.f3.f1) && (((((rd a0.f2 x28_13).f3).f2) == x3_13.f3.f2) && (((((rd a0.f2 x28_13).f3).f3) == x3_13.f3.f3) && (((((rd a0.f2 x28_13).f3).f4) == x3_13.f3.f4) && (((((rd a0.f2 x28_13).f3).f5) == x3_13.f3.f5) && (((((rd a0.f2 x28_13).f3).f6) == x3_13.f3.f6) && (((((rd a0.f2 x28_13).f3).f7) == x3_13.f3.f7) && (((((rd a0.f2 x28_13).f3).f8) == x3_13.f3.f8) && (((((rd a0.f2 x28_13).f3).f9) == x3_13.f3.f9) && true))))))))))) (p := ((rd a0.f2 x28_13).f3) = x3_13.f3) eqg70 rfl rfl (by kernel_rfl) (eqv70 (x := ((rd a0.f2 x28_13).f3)) (y := x3_13.f3))) ?_)
          refine RA_step rfl (OA_v rfl (V_pickT rfl (dec_t h28) rfl) ?_)
          refine RA_nil ?_
          exact at_normal (St.mk1 (aeq rfl (aeq rfl (aeq rfl (aeq rfl (aeq rfl (aeq rfl (aeq rfl (aeq (congrArg Value.bool (and_t hq27 (dec_t h28))) aeq0)))))))) (Gh.sel [0, 1, 2, 3] rfl rfl))
        refine RA_noB rfl rfl rfl rfl (dec_f h28) rfl ?_
        refine RA_noB rfl rfl rfl rfl (dec_f h28) rfl ?_
        refine RA_noB rfl rfl rfl rfl (dec_f h28) rfl ?_
        refine RA_noB rfl rfl rfl rfl (dec_f h28) rfl ?_
        refine RA_noB rfl rfl rfl rfl (dec_f h28) rfl ?_
        refine RA_step rfl (OA_v rfl (V_pickF rfl (dec_f h28) rfl) ?_)
        refine RA_nil ?_
        exact at_normal (St.mk1 (aeq rfl (aeq rfl (aeq rfl (aeq rfl (aeq rfl (aeq rfl (aeq rfl (aeq (congrArg Value.bool (and_f hq27 (dec_f h28))) aeq0)))))))) (Gh.sel [0, 1, 2, 3] rfl rfl))
      rintro e ds As hst29
      refine RA.of_St rfl hst29 fun junk => ?_
      refine RA_step rfl (OA_v (v := .bool q27) rfl (V_move rfl) ?_)
      obtain ⟨q30, H, Bq30⟩ := g_bind H
      refine RA_cut 6 (fun e ds As => St [(1, .pointer (some ⟨b2, 0, none⟩)), (3, .pointer (some ⟨b14, 0, none⟩)), (5, .pointer (some ⟨b20, 0, none⟩)), (26, .slice A0_0 a0.f2.length c0_0), (27, .int .i64 (a0.f2.length : Int)), (28, .int .i64 x28_13), (59, .bool q30)] [Blk b2 67 [.int .i64 a0.f0, .int .i64 a0.f1, .slice A0_0 a0.f2.length c0_0], Ro k76 A0_0 c0_0 a0.f2, Blk b14 76 (.int .i32 x3_13.f0 :: .int .i32 x3_13.f1.f0 :: .int .i32 x3_13.f1.f1 :: .int .i32 x3_13.f1.f2 :: .int .u8 x3_13.f2 :: .int .i64 x3_13.f3.f0 :: .int .i64 x3_13.f3.f1 :: .bool x3_13.f3.f2 :: .bool x3_13.f3.f3 :: .bool x3_13.f3.f4 :: .bool x3_13.f3.f5 :: .bool x3_13.f3.f6 :: .bool x3_13.f3.f7 :: .bool x3_13.f3.f8 :: .bool x3_13.f3.f9 :: []), Blk b20 76 (.int .i32 ((rd a0.f2 x28_13).f0) :: .int .i32 (((rd a0.f2 x28_13).f1).f0) :: .int .i32 (((rd a0.f2 x28_13).f1).f1) :: .int .i32 (((rd a0.f2 x28_13).f1).f2) :: .int .u8 ((rd a0.f2 x28_13).f2) :: .int .i64 (((rd a0.f2 x28_13).f3).f0) :: .int .i64 (((rd a0.f2 x28_13).f3).f1) :: .bool (((rd a0.f2 x28_13).f3).f2) :: .bool (((rd a0.f2 x28_13).f3).f3) :: .bool (((rd a0.f2 x28_13).f3).f4) :: .bool (((rd a0.f2 x28_13).f3).f5) :: .bool (((rd a0.f2 x28_13).f3).f6) :: .bool (((rd a0.f2 x28_13).f3).f7) :: .bool (((rd a0.f2 x28_13).f3).f8) :: .bool (((rd a0.f2 x28_13).f3).f9) :: [])] e ds As) ?_ ?_
      · by_cases h31 : q27 = true
        · replace H := g_ift h31 H
          refine RA_yesB rfl rfl rfl rfl (h31) (OA_v (v := .int .i64 x28_13) rfl (V_move rfl) ?_)
          refine RA_yesB rfl rfl rfl rfl (h31) (OA_v (v := .pointer (some ⟨b2, 0, none⟩)) rfl (V_fieldAddrN (B := ⟨b2, 0, none⟩) (m := 0) (o := 0) Try.underlying67 rfl nz3 rfl rfl) ?_)
          refine RA_yesB rfl rfl rfl rfl (h31) (OA_r rfl (VR_load_blk (b := b2) (m := 0) (k := 0) Try.underlying3 rfl rfl rfl rfl) ?_)
          obtain ⟨g32, H⟩ := g_pos H
          refine RA_yesB rfl rfl rfl rfl (h31) (OA_v (v := .int .i64 (x28_13.tmod a0.f0)) rfl (V_rem rfl rfl g32) ?_)
          refine RA_yesB rfl rfl rfl rfl (h31) (OA_v (v := .bool (decide ((x28_13.tmod a0.f0) > 0))) rfl (V_gtr rfl rfl) ?_)
          refine RA_step rfl (OA_v rfl (V_pickT rfl (h31) rfl) ?_)
          have hr_ := Option.some.inj H
          subst hr_
          refine RA_nil ?_
          exact at_normal (St.mk1 (aeq rfl (aeq rfl (aeq rfl (aeq rfl (aeq rfl (aeq rfl (aeq rfl aeq0))))))) (Gh.sel [0, 1, 2, 3] rfl rfl))
        replace H := g_iff h31 H
        refine RA_noB rfl rfl rfl rfl (bno h31) rfl ?_
        refine RA_noB rfl rfl rfl rfl (bno h31) rfl ?_
        refine RA_noB rfl rfl rfl rfl (bno h31) rfl ?_
        refine RA_noB rfl rfl rfl rfl (bno h31) rfl ?_
        refine RA_noB rfl rfl rfl rfl (bno h31) rfl ?_
        refine RA_step rfl (OA_v rfl (V_pickF rfl (bno h31) rfl) ?_)
        have hr_ := Option.some.inj H
        subst hr_
        refine RA_nil ?_
        exact at_normal (St.mk1 (aeq rfl (aeq rfl (aeq rfl (aeq rfl (aeq rfl (aeq rfl (aeq rfl aeq0))))))) (Gh.sel [0, 1, 2, 3] rfl rfl))
      rintro e ds As hst33
      clear H
      have H := Bq30
      clear Bq30
      refine RA.of_St rfl hst33 fun junk => ?_
      refine RA_step rfl (OA_v (v := .bool q30) rfl (V_assign rfl) ?_)
      refine RA_nil ?_
      refine at_normal ?_
      refine SA_seq ?_
      refine SA_seq ?_
      refine SA_region ?_
      refine RA_step rfl (OA_r rfl (VR_loadA_blk (b := b20) (m := 0) (k := 3) (vs := (.int .i32 ((rd a0.f2 x28_13).f0) :: .int .i32 (((rd a0.f2 x28_13).f1).f0) :: .int .i32 (((rd a0.f2 x28_13).f1).f1) :: .int .i32 (((rd a0.f2 x28_13).f1).f2) :: .int .u8 ((rd a0.f2 x28_13).f2) :: .int .i64 (((rd a0.f2 x28_13).f3).f0) :: .int .i64 (((rd a0.f2 x28_13).f3).f1) :: .bool (((rd a0.f2 x28_13).f3).f2) :: .bool (((rd a0.f2 x28_13).f3).f3) :: .bool (((rd a0.f2 x28_13).f3).f4) :: .bool (((rd a0.f2 x28_13).f3).f5) :: .bool (((rd a0.f2 x28_13).f3).f6) :: .bool (((rd a0.f2 x28_13).f3).f7) :: .bool (((rd a0.f2 x28_13).f3).f8) :: .bool (((rd a0.f2 x28_13).f3).f9) :: [])) Try.underlying76 rfl sz76 rfl rfl rfl) ?_)
      obtain ⟨r34, C43, H⟩ := g_bind H
      refine RA_step rfl (OA_callA [] [0, 1, 2, 3] rfl (X_fn (vs := [.agg (List.toArray (.int .i32 ((rd a0.f2 x28_13).f0) :: .int .i32 (((rd a0.f2 x28_13).f1).f0) :: .int .i32 (((rd a0.f2 x28_13).f1).f1) :: .int .i32 (((rd a0.f2 x28_13).f1).f2) :: .int .u8 ((rd a0.f2 x28_13).f2) :: .int .i64 (((rd a0.f2 x28_13).f3).f0) :: .int .i64 (((rd a0.f2 x28_13).f3).f1) :: .bool (((rd a0.f2 x28_13).f3).f2) :: .bool (((rd a0.f2 x28_13).f3).f3) :: .bool (((rd a0.f2 x28_13).f3).f4) :: .bool (((rd a0.f2 x28_13).f3).f5) :: .bool (((rd a0.f2 x28_13).f3).f6) :: .bool (((rd a0.f2 x28_13).f3).f7) :: .bool (((rd a0.f2 x28_13).f3).f8) :: .bool (((rd a0.f2 x28_13).f3).f9) :: []))]) Try.func84 nm84 rfl rfl) rfl (F84.ok (a0 := (S76.mk ((rd a0.f2 x28_13).f0) ((rd a0.f2 x28_13).f1) ((rd a0.f2 x28_13).f2) ((rd a0.f2 x28_13).f3))) C43) rfl ?_)
      rintro _ _ ⟨rfl, rfl⟩
      refine RA_step rfl (OA_v (v := .bool (!r34)) rfl (V_not rfl) ?_)
      refine RA_step rfl (OA_v (v := .bool (!r34)) rfl (V_move rfl) ?_)
      obtain ⟨q35, hq35, H⟩ := g_lt H
      refine RA_cut 6 (fun e ds As => St [(1, .pointer (some ⟨b2, 0, none⟩)), (3, .pointer (some ⟨b14, 0, none⟩)), (5, .pointer (some ⟨b20, 0, none⟩)), (6, .bool q30), (26, .slice A0_0 a0.f2.length c0_0), (27, .int .i64 (a0.f2.length : Int)), (28, .int .i64 x28_13), (69, .bool q35)] [Blk b2 67 [.int .i64 a0.f0, .int .i64 a0.f1, .slice A0_0 a0.f2.length c0_0], Ro k76 A0_0 c0_0 a0.f2, Blk b14 76 (.int .i32 x3_13.f0 :: .int .i32 x3_13.f1.f0 :: .int .i32 x3_13.f1.f1 :: .int .i32 x3_13.f1.f2 :: .int .u8 x3_13.f2 :: .int .i64 x3_13.f3.f0 :: .int .i64 x3_13.f3.f1 :: .bool x3_13.f3.f2 :: .bool x3_13.f3.f3 :: .bool x3_13.f3.f4 :: .bool x3_13.f3.f5 :: .bool x3_13.f3.f6 :: .bool x3_13.f3.f7 :: .bool x3_13.f3.f8 :: .bool x3_13.f3.f9 :: []), Blk b20 76 (.int .i32 ((rd a0.f2 x28_13).f0) :: .int .i32 (((rd a0.f2 x28_13).f1).f0) :: .int .i32 (((rd a0.f2 x28_13).f1).f1) :: .int .i32 (((rd a0.f2 x28_13).f1).f2) :: .int .u8 ((rd a0.f2 x28_13).f2) :: .int .i64 (((rd a0.f2 x28_13).f3).f0) :: .int .i64 (((rd a0.f2 x28_13).f3).f1) :: .bool (((rd a0.f2 x28_13).f3).f2) :: .bool (((rd a0.f2 x28_13).f3).f3) :: .bool (((rd a0.f2 x28_13).f3).f4) :: .bool (((rd a0.f2 x28_13).f3).f5) :: .bool (((rd a0.f2 x28_13).f3).f6) :: .bool (((rd a0.f2 x28_13).f3).f7) :: .bool (((rd a0.f2 x28_13).f3).f8) :: .bool (((rd a0.f2 x28_13).f3).f9) :: [])] e ds As) ?_ ?_
      · by_cases h36 : (!r34) = true
        · refine RA_noB rfl rfl rfl rfl (h36) rfl ?_
          refine RA_noB rfl rfl rfl rfl (h36) rfl ?_
          refine RA_noB rfl rfl rfl rfl (h36) rfl ?_
          refine RA_noB rfl rfl rfl rfl (h36) rfl ?_
          refine RA_noB rfl rfl rfl rfl (h36) rfl ?_
          refine RA_step rfl (OA_v rfl (V_pickT rfl (h36) rfl) ?_)
          refine RA_nil ?_
          exact at_normal (St.mk1 (aeq rfl (aeq rfl (aeq rfl (aeq rfl (aeq rfl (aeq rfl (aeq rfl (aeq (congrArg Value.bool (or_t hq35 (h36))) aeq0)))))))) (Gh.sel [0, 1, 2, 3] rfl rfl))
        refine RA_yesB rfl rfl rfl rfl (bno h36) (OA_v (v := .pointer (some ((⟨b14, 0, none⟩ : Addr).add 4))) rfl (V_fieldAddrN (B := ⟨b14, 0, none⟩) (m := 0) (o := 4) Try.underlying76 rfl nz5 rfl rfl) ?_)
        refine RA_yesB rfl rfl rfl rfl (bno h36) (OA_r rfl (VR_load_blk (b := b14) (m := 4) (k := 2) Try.underlying5 rfl rfl rfl rfl) ?_)
        refine RA_yesB rfl rfl rfl rfl (bno h36) (OA_v (v := .bool (decide (x3_13.f2 = 2))) rfl (V_eql rfl rfl) ?_)
        refine RA_yesB rfl rfl rfl rfl (bno h36) (OA_v (v := .bool q30) rfl (V_move rfl) ?_)
        refine RA_yesB rfl rfl rfl rfl (bno h36) (OA_v (v := .bool (decide ((decide (x3_13.f2 = 2)) ≠ q30))) rfl (V_neqB Try.underlying4 rfl rfl) ?_)
        refine RA_step rfl (OA_v rfl (V_pickF rfl (bno h36) rfl) ?_)
        refine RA_nil ?_
        exact at_normal (St.mk1 (aeq rfl (aeq rfl (aeq rfl (aeq rfl (aeq rfl (aeq rfl (aeq rfl (aeq (congrArg Value.bool (or_f hq35 (bno h36))) aeq0)))))))) (Gh.sel [0, 1, 2, 3] rfl rfl))
      rintro e ds As hst37
      refine RA.of_St rfl hst37 fun junk => ?_
      refine RA_step rfl (OA_v (v := .bool q35) rfl (V_move rfl) ?_)
      obtain ⟨q38, H, Bq38⟩ := g_bind H
      refine RA_cut 8 (fun e ds As => St [(1, .pointer (some ⟨b2, 0, none⟩)), (3, .pointer (some ⟨b14, 0, none⟩)), (5, .pointer (some ⟨b20, 0, none⟩)), (26, .slice A0_0 a0.f2.length c0_0), (27, .int .i64 (a0.f2.length : Int)), (28, .int .i64 x28_13), (78, .bool q38)] [Blk b2 67 [.int .i64 a0.f0, .int .i64 a0.f1, .slice A0_0 a0.f2.length c0_0], Ro k76 A0_0 c0_0 a0.f2, Blk b14 76 (.int .i32 x3_13.f0 :: .int .i32 x3_13.f1.f0 :: .int .i32 x3_13.f1.f1 :: .int .i32 x3_13.f1.f2 :: .int .u8 x3_13.f2 :: .int .i64 x3_13.f3.f0 :: .int .i64 x3_13.f3.f1 :: .bool x3_13.f3.f2 :: .bool x3_13.f3.f3 :: .bool x3_13.f3.f4 :: .bool x3_13.f3.f5 :: .bool x3_13.f3.f6 :: .bool x3_13.f3.f7 :: .bool x3_13.f3.f8 :: .bool x3_13.f3.f9 :: []), Blk b20 76 (.int .i32 ((rd a0.f2 x28_13).f0) :: .int .i32 (((rd a0.f2 x28_13).f1).f0) :: .int .i32 (((rd a0.f2 x28_13).f1).f1) :: .int .i32 (((rd a0.f2 x28_13).f1).f2) :: .int .u8 ((rd a0.f2 x28_13).f2) :: .int .i64 (((rd a0.f2 x28_13).f3).f0) :: .int .i64 (((rd a0.f2 x28_13).f3).f1) :: .bool (((rd a0.f2 x28_13).f3).f2) :: .bool (((rd a0.f2 x28_13).f3).f3) :: .bool (((rd a0.f2 x28_13).f3).f4) :: .bool (((rd a0.f2 x28_13).f3).f5) :: .bool (((rd a0.f2 x28_13).f3).f6) :: .bool (((rd a0.f2 x28_13).f3).f7) :: .bool (((rd a0.f2 x28_13).f3).f8) :: .bool (((rd a0.f2 x28_13).f3).f9) :: [])] e ds As) ?_ ?_
      · by_cases h39 : q35 = true
        · replace H := g_ift h39 H
          refine RA_noB rfl rfl rfl rfl (h39) rfl ?_
          refine RA_noB rfl rfl rfl rfl (h39) rfl ?_
          refine RA_noB rfl rfl rfl rfl (h39) rfl ?_
          refine RA_noB rfl rfl rfl rfl (h39) rfl ?_
          refine RA_noU rfl rfl rfl rfl rfl ?_
          refine RA_noU rfl rfl rfl rfl rfl ?_
          refine RA_noB rfl rfl rfl rfl (h39) rfl ?_
          refine RA_step rfl (OA_v rfl (V_pickT rfl (h39) rfl) ?_)
          have hr_ := Option.some.inj H
          subst hr_
          refine RA_nil ?_
          exact at_normal (St.mk1 (aeq rfl (aeq rfl (aeq rfl (aeq rfl (aeq rfl (aeq rfl (aeq rfl aeq0))))))) (Gh.sel [0, 1, 2, 3] rfl rfl))
        replace H := g_iff h39 H
        refine RA_yesB rfl rfl rfl rfl (bno h39) (OA_v (v := .pointer (some ((⟨b20, 0, none⟩ : Addr).add 4))) rfl (V_fieldAddrN (B := ⟨b20, 0, none⟩) (m := 0) (o := 4) Try.underlying76 rfl nz5 rfl rfl) ?_)
        refine RA_yesB rfl rfl rfl rfl (bno h39) (OA_r rfl (VR_load_blk (b := b20) (m := 4) (k := 3) Try.underlying5 rfl rfl rfl rfl) ?_)
        refine RA_yesB rfl rfl rfl rfl (bno h39) (OA_v (v := .bool (decide (((rd a0.f2 x28_13).f2) = 0))) rfl (V_eql rfl rfl) ?_)
        refine RA_yesB rfl rfl rfl rfl (bno h39) (OA_v (v := .bool (decide (((rd a0.f2 x28_13).f2) = 0))) rfl (V_move rfl) ?_)
        by_cases h40 : ((rd a0.f2 x28_13).f2) = 0
        · replace H := g_ift h40 H
          refine RA_yesB rfl rfl rfl rfl (dec_t h40) (OA_v (v := .bool q30) rfl (V_move rfl) ?_)
          refine RA_yesB rfl rfl rfl rfl (dec_t h40) (OA_v (v := .bool (!q30)) rfl (V_not rfl) ?_)
          refine RA_yesB rfl rfl rfl rfl (bno h39) (OA_v rfl (V_pickT rfl (dec_t h40) rfl) ?_)
          refine RA_step rfl (OA_v rfl (V_pickF rfl (bno h39) rfl) ?_)
          have hr_ := Option.some.inj H
          subst hr_
          refine RA_nil ?_
          exact at_normal (St.mk1 (aeq rfl (aeq rfl (aeq rfl (aeq rfl (aeq rfl (aeq rfl (aeq rfl aeq0))))))) (Gh.sel [0, 1, 2, 3] rfl rfl))
        replace H := g_iff h40 H
        refine RA_noB rfl rfl rfl rfl (dec_f h40) rfl ?_
        refine RA_noB rfl rfl rfl rfl (dec_f h40) rfl ?_
        refine RA_yesB rfl rfl rfl rfl (bno h39) (OA_v rfl (V_pickF rfl (dec_f h40) rfl) ?_)
        refine RA_step rfl (OA_v rfl (V_pickF rfl (bno h39) rfl) ?_)
        have hr_ := Option.some.inj H
        subst hr_
        refine RA_nil ?_
        exact at_normal (St.mk1 (aeq rfl (aeq rfl (aeq rfl (aeq rfl (aeq rfl (aeq rfl (aeq rfl aeq0))))))) (Gh.sel [0, 1, 2, 3] rfl rfl))
      rintro e ds As hst41
      clear H
      have H := Bq38
      clear Bq38
      refine RA_nil ?_
      refine at_normal ?_
      refine SA.of_St hst41 fun junk => ?_
      by_cases h42 : q38 = true
      · replace H := g_ift h42 H
        refine SA_condTb rfl h42 ?_
        refine SA_seq ?_
        refine SA_region ?_
        refine RA_step rfl (OA_v (v := .bool false) rfl (V_assign rfl) ?_)
        refine RA_nil ?_
        refine at_normal ?_
        refine SA_ret ?_
        refine thn_ret ?_
        refine inb_ret ?_
        refine thn_ret ?_
        refine thn_ret ?_
        refine inb_ret ?_
        refine thn_ret ?_
        refine thn_ret ?_
        have hr_ := Option.some.inj H
        subst hr_
        have hb_ := el_ret Bt11
        have hr_ := Option.some.inj hb_
        clear hb_
        subst hr_
        exact BQ_R1 [] rfl rfl (Gh.sel [] rfl rfl) ⟨rfl, rfl⟩
      replace H := g_iff h42 H
      refine SA_condFb rfl h42 ?_
      refine SA_skip ?_
      refine at_normal ?_
      refine SA_region ?_
      refine RA_step rfl (OA_r rfl (VR_loadA_blk (b := b20) (m := 0) (k := 3) (vs := (.int .i32 ((rd a0.f2 x28_13).f0) :: .int .i32 (((rd a0.f2 x28_13).f1).f0) :: .int .i32 (((rd a0.f2 x28_13).f1).f1) :: .int .i32 (((rd a0.f2 x28_13).f1).f2) :: .int .u8 ((rd a0.f2 x28_13).f2) :: .int .i64 (((rd a0.f2 x28_13).f3).f0) :: .int .i64 (((rd a0.f2 x28_13).f3).f1) :: .bool (((rd a0.f2 x28_13).f3).f2) :: .bool (((rd a0.f2 x28_13).f3).f3) :: .bool (((rd a0.f2 x28_13).f3).f4) :: .bool (((rd a0.f2 x28_13).f3).f5) :: .bool (((rd a0.f2 x28_13).f3).f6) :: .bool (((rd a0.f2 x28_13).f3).f7) :: .bool (((rd a0.f2 x28_13).f3).f8) :: .bool (((rd a0.f2 x28_13).f3).f9) :: [])) Try.underlying76 rfl sz76 rfl rfl rfl) ?_)
      refine RA_step rfl (OA_st (b := b14) (m := 0) (k := 2) (vs := (.int .i32 ((rd a0.f2 x28_13).f0) :: .int .i32 (((rd a0.f2 x28_13).f1).f0) :: .int .i32 (((rd a0.f2 x28_13).f1).f1) :: .int .i32 (((rd a0.f2 x28_13).f1).f2) :: .int .u8 ((rd a0.f2 x28_13).f2) :: .int .i64 (((rd a0.f2 x28_13).f3).f0) :: .int .i64 (((rd a0.f2 x28_13).f3).f1) :: .bool (((rd a0.f2 x28_13).f3).f2) :: .bool (((rd a0.f2 x28_13).f3).f3) :: .bool (((rd a0.f2 x28_13).f3).f4) :: .bool (((rd a0.f2 x28_13).f3).f5) :: .bool (((rd a0.f2 x28_13).f3).f6) :: .bool (((rd a0.f2 x28_13).f3).f7) :: .bool (((rd a0.f2 x28_13).f3).f8) :: .bool (((rd a0.f2 x28_13).f3).f9) :: [])) (cs' := (.int .i32 ((rd a0.f2 x28_13).f0) :: .int .i32 (((rd a0.f2 x28_13).f1).f0) :: .int .i32 (((rd a0.f2 x28_13).f1).f1) :: .int .i32 (((rd a0.f2 x28_13).f1).f2) :: .int .u8 ((rd a0.f2 x28_13).f2) :: .int .i64 (((rd a0.f2 x28_13).f3).f0) :: .int .i64 (((rd a0.f2 x28_13).f3).f1) :: .bool (((rd a0.f2 x28_13).f3).f2) :: .bool (((rd a0.f2 x28_13).f3).f3) :: .bool (((rd a0.f2 x28_13).f3).f4) :: .bool (((rd a0.f2 x28_13).f3).f5) :: .bool (((rd a0.f2 x28_13).f3).f6) :: .bool (((rd a0.f2 x28_13).f3).f7) :: .bool (((rd a0.f2 x28_13).f3).f8) :: .bool (((rd a0.f2 x28_13).f3).f9) :: [])) rfl rfl rfl rfl rfl rfl sz76 rfl rfl ?_)
      refine RA_nil ?_
      refine inb_normal ?_
      refine at_normal ?_
      refine SA_region ?_
      refine RA_step rfl (OA_v (v := .int .i64 (IntKind.i64.wrap (x28_13 + 1))) rfl (V_add rfl rfl) ?_)
      refine RA_step rfl (OA_v (v := .int .i64 (IntKind.i64.wrap (x28_13 + 1))) rfl (V_move rfl) ?_)
      refine RA_nil ?_
      exact at_normal ⟨k15, Nat.lt_succ_self _, _, _, b14, H, St.mk1 (aeq rfl (aeq rfl (aeq rfl (aeq rfl (aeq rfl aeq0))))) (Gh.sel [0, 1, 2] rfl rfl)⟩
    replace H := g_iff h17 H
    refine SA_condF rfl h17 ?_
    refine SA_exit ?_
    refine thn_exit ?_
    refine thn_exit ?_
    refine inb_hit ?_
    have hr_ := Option.some.inj H
    subst hr_
    exact at_normal ⟨x3_13, rfl, b14, St.mk1 (aeq rfl aeq0) (Gh.sel [2] rfl rfl)⟩
  rintro e ds As ⟨s12, ht, b13, hst44⟩
  clear H
  subst ht
  replace Bt11 := el_go Bt11
  have H := Bt11
  clear Bt11
  refine at_normal ?_
  refine SA.of_St hst44 fun junk => ?_
  refine SA_seq ?_
  refine SA_region ?_
  refine RA_step rfl (OA_v (v := .pointer (some ((⟨b13, 0, none⟩ : Addr).add 4))) rfl (V_fieldAddrN (B := ⟨b13, 0, none⟩) (m := 0) (o := 4) Try.underlying76 rfl nz5 rfl rfl) ?_)
  refine RA_step rfl (OA_r rfl (VR_load_blk (b := b13) (m := 4) (k := 0) Try.underlying5 rfl rfl rfl rfl) ?_)
  refine RA_step rfl (OA_v (v := .bool (decide (s12.f2 ≠ 2))) rfl (V_neq rfl rfl) ?_)
  refine RA_step rfl (OA_v (v := .bool (decide (s12.f2 ≠ 2))) rfl (V_assign rfl) ?_)
  refine RA_nil ?_
  refine at_normal ?_
  refine SA_ret ?_
  have hr_ := Option.some.inj H
  subst hr_
  exact BQ_R1 [] rfl rfl (Gh.sel [] rfl rfl) ⟨rfl, rfl⟩
end Go.Proofs.Ytodkeoibebimgaa.Gr

/- The row of ScreenKeeps: at every call that the row speaks of, the law returns true. Out of the walk of its functions and the plain law. -/
import Derived.Test.YtckilbegmbaeeaaGreatRows
import Derived.Test.YtckilbegmbaeeaaGreatZ5U
import Derived.Test.YtckilbegmbaeeaaGreatZ5P
import Derived.WalkKit
import Derived.ProofKit
import Derived.OpenShut
import Derived.ShutString
import Derived.ChangeOld
import Derived.Below
import Derived.SizedLaws
namespace Go.Proofs.YtckilbegmbaeeaaGreat.screenKeeps
open Go.ChangeShapes Go.WideShapes Go.ChangeAt Go.RowKit Go.Proofs.YtckilbegmbaeeaaGreat.SL Go.Proofs.YtckilbegmbaeeaaGreat.Z5
open Go.ChangeMaps (open_string shut_string)
set_option linter.unusedVariables false
theorem own : ownKnob Tryz.prog.godebug = none := by kernel_rfl
theorem laidOut : laidOutB Tryz.prog = true := by kernel_rfl
set_option maxRecDepth 100000 in
theorem lifted (os : Os) (started : os.Started) (H : Type) (enc : TypeId × Value → H) :
    ReturnsInHanded {} Tryz.checked os 5 .any (Rows.screenKeepsSpec.pre6 enc Tryz.prog Tryz.f5 Rows.screenKeepsRow.domain false) (Rows.screenKeepsSpec.post enc Tryz.prog Tryz.f5 false true false false) := by
  refine returnsInHanded_of_change_sized (C := Tryz.checked) own started (by kernel_rfl) Tryz.func5
    (ChangeSpec.witness6 (enc := enc) (C := Tryz.checked) false ⟨#[], #[.agg (List.toArray (.int .i64 0 :: .int .i64 0 :: .slice none 0 0 :: .int .i64 0 :: .int .i64 0 :: .bool false :: .int .i64 0 :: .int .i64 0 :: .bool false :: .bool false :: .bool false :: .bool false :: .bool false :: .bool false :: .bool false :: .bool false :: .int .i64 0 :: .int .i64 0 :: .slice none 0 0 :: .bool false :: .bool false :: .bool false :: .bool false :: .bool false :: .bool false :: .int .i64 0 :: .int .i64 0 :: .bool false :: .bool false :: .int .i64 0 :: .int .i64 0 :: .bool false :: .bool false :: .bool false :: .bool false :: .bool false :: .bool false :: .bool false :: .bool false :: .bool false :: .int .i64 0 :: .int .i64 0 :: .slice none 0 0 :: .slice none 0 0 :: [])), .slice none 0 0], []⟩ 12 (by kernel_rfl) (by kernel_rfl) (by kernel_rfl) (by kernel_rfl)) ?_
  intro W base args ds gs before hval0 hW hcnd hsz0 _
  have hsz : (DataW.weightsEach Tryz.prog (Tryz.f5.params.toList ++ Rows.screenKeepsSpec.plain.varTypes Tryz.prog) (ds ++ gs)).all (· ≤ reachBytes) = true := hsz0
  have hval : ∀ (j : Nat) t v, Tryz.f5.params[j]? = some t → args[j]? = some v → Value.okWide Tryz.prog W .any base t v := hval0
  have hW' := hW
  obtain ⟨p, q, hA0, hV, rfl, hfz, hnd⟩ := hW
  have hA : DataW.TrodAll enc Tryz.prog W 0 (fun _ => true) true Tryz.f5.params.toList args.toList ds p := hA0
  rw [Tryz.params5] at hA hval hsz
  obtain ⟨v0, vs0, d0, ds0, p0, q0, hargs, rfl, rfl, h0, r0⟩ := trodAll_cons hA
  obtain ⟨v1, vs1, d1, ds1, p1, q1, rfl, rfl, rfl, h1, r1⟩ := trodAll_cons r0
  obtain ⟨rfl, rfl, rfl⟩ := trodAll_nil r1
  obtain rfl : args = #[v0, v1] := by cases args; simp_all
  obtain ⟨rfl, rfl⟩ := trodVars_none hV
  have k0 := h0
  have lt0 : ∀ x ∈ p0, x.block < W.heap.size := by obtain ⟨m, hm⟩ := k0; exact DataW.trod_lt m _ _ _ hm
  have s0 : Sized Tryz.prog 34 d0 := sized_arg hsz (j := 0) rfl rfl
  obtain ⟨cs0, rfl, _⟩ := okWide_struct Tryz.underlying34 (hval 0 34 v0 rfl rfl)
  obtain ⟨x0, ⟨bs0, ⟨A1001, c1002, A1004, c1005, A1007, c1008, A1010, c1011, e0, rfl⟩, p0_⟩, w0⟩ := open_p opn34 h0 s0
  obtain rfl : cs0 = (List.toArray (.int .i64 x0.f0.f0 :: .int .i64 x0.f0.f1 :: .slice A1001 x0.f0.f2.length c1002 :: .int .i64 x0.f1 :: .int .i64 x0.f2 :: .bool x0.f3 :: .int .i64 x0.f4.f0 :: .int .i64 x0.f4.f1 :: .bool x0.f4.f2 :: .bool x0.f4.f3 :: .bool x0.f4.f4 :: .bool x0.f4.f5 :: .bool x0.f4.f6 :: .bool x0.f4.f7 :: .bool x0.f4.f8 :: .bool x0.f4.f9 :: .int .i64 x0.f5 :: .int .i64 x0.f6 :: .slice A1004 x0.f7.length c1005 :: .bool x0.f8 :: .bool x0.f9 :: .bool x0.f10 :: .bool x0.f11 :: .bool x0.f12 :: .bool x0.f13 :: .int .i64 x0.f14.f0 :: .int .i64 x0.f14.f1 :: .bool x0.f14.f2 :: .bool x0.f14.f3 :: .int .i64 x0.f14.f4.f0 :: .int .i64 x0.f14.f4.f1 :: .bool x0.f14.f4.f2 :: .bool x0.f14.f4.f3 :: .bool x0.f14.f4.f4 :: .bool x0.f14.f4.f5 :: .bool x0.f14.f4.f6 :: .bool x0.f14.f4.f7 :: .bool x0.f14.f4.f8 :: .bool x0.f14.f4.f9 :: .bool x0.f15 :: .int .i64 x0.f16.f0 :: .int .i64 x0.f16.f1 :: .slice A1007 x0.f16.f2.length c1008 :: .slice A1010 x0.f17.length c1011 :: [])) := Array.ext' e0
  have k1 := h1
  have lt1 : ∀ x ∈ p1, x.block < W.heap.size := by obtain ⟨m, hm⟩ := k1; exact DataW.trod_lt m _ _ _ hm
  have s1 : Sized Tryz.prog 23 d1 := sized_arg hsz (j := 1) rfl rfl
  obtain ⟨B1, len1, cap1, rfl⟩ := okWide_slice Tryz.underlying23 (hval 1 23 v1 rfl rfl)
  obtain ⟨x1, ⟨bs1, ⟨A2001, c2002, e1, rfl⟩, p1_⟩, w1⟩ := open_p (Opn.sl (e := 44) (B := 32) Tryz.underlying23 opn44 (by kernel_rfl) (by decide) (by kernel_rfl)) h1 s1
  replace e1 : [Value.slice B1 len1 cap1] = [.slice A2001 x1.length c2002] := e1
  simp only [List.cons.injEq, Value.slice.injEq, and_true] at e1
  obtain ⟨rfl, rfl, rfl⟩ := e1
  clear hA0 hval0 hsz0 hsz
  obtain ⟨k, hk⟩ := Go.Proofs.YtckilbegmbaeeaaGreat.Z5Pure.row x0 x1 w0 w1
  refine (row_calls (F5.ok hk) (sepP rfl (p0_ _ (by simp)).2 (sepP rfl (p0_ _ (by simp)).2 (sepP rfl (p0_ _ (by simp)).2 (sepP rfl (p0_ _ (by simp)).2 (sepP rfl (p1_ _ (by simp)).2 sep0)))))).mono fun e W' ⟨he, bel⟩ => ?_
  subst he
  exact ⟨_, rfl, _, _, _, [], _, [], hW', trodAll_mk1 (shut_bool Tryz.underlying4 _), (trodAll_cons_mk (Below.trod laidOut (by kernel_rfl) (of_decide_eq_true (by kernel_rfl)) k0 bel lt0) (trodAll_cons_mk (Below.trod laidOut (by kernel_rfl) (of_decide_eq_true (by kernel_rfl)) k1 bel lt1) trodAll_mk0)), rfl, bel.frame _, fun h => by cases h⟩
theorem over : Rows.screenKeepsRow.holds Tryz.pinned (OpenSpec.ofChange Rows.screenKeepsSpec) :=
  OpenClaim.holds_of_wide 5 Tryz.f5 rfl rfl rfl rfl rfl rfl rfl ⟨rfl, rfl, rfl, rfl, rfl⟩ rfl rfl rfl rfl rfl (by kernel_rfl) Tryz.func5 (by kernel_rfl)
    (of_decide_eq_true (by kernel_rfl)) (by unfold Func.isWrapper; first | (rw [if_pos (by decide +kernel)]; kernel_rfl) | (rw [if_neg (by decide +kernel)]; exact ⟨rfl, rfl⟩))
    (fun os started H enc _ => lifted os started H enc)
theorem proved : Rows.ScreenKeepsSaid := over
#print axioms proved
end Go.Proofs.YtckilbegmbaeeaaGreat.screenKeeps
namespace Go.Proofs.YtckilbegmbaeeaaGreat
/-- The row, under a short name, for the claim. -/
theorem screenKeeps_holds : Rows.ScreenKeepsSaid := screenKeeps.proved
end Go.Proofs.YtckilbegmbaeeaaGreat

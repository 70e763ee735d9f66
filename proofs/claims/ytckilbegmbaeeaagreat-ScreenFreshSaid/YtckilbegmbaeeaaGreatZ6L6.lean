/- The row of ScreenFresh: at every call that the row speaks of, the law returns true. Out of the walk of its functions and the plain law. -/
import Derived.Test.YtckilbegmbaeeaaGreatRows
import Derived.Test.YtckilbegmbaeeaaGreatZ6U
import Derived.Test.YtckilbegmbaeeaaGreatZ6P
import Derived.WalkKit
import Derived.ProofKit
import Derived.OpenShut
import Derived.ShutString
import Derived.ChangeOld
import Derived.Below
import Derived.SizedLaws
namespace Go.Proofs.YtckilbegmbaeeaaGreat.screenFresh
open Go.ChangeShapes Go.WideShapes Go.ChangeAt Go.RowKit Go.Proofs.YtckilbegmbaeeaaGreat.SL Go.Proofs.YtckilbegmbaeeaaGreat.Z6
open Go.ChangeMaps (open_string shut_string)
set_option linter.unusedVariables false
theorem own : ownKnob Tryz.prog.godebug = none := by kernel_rfl
theorem rS : laidOutB Tryz.prog = true := by kernel_rfl
set_option maxRecDepth 100000 in
theorem wS (os : Os) (started : os.Started) (H : Type) (enc : TypeId × Value → H) :
    ReturnsInHanded {} Tryz.checked os 6 .any (Rows.screenFreshSpec.pre6 enc Tryz.prog Tryz.f6 Rows.screenFreshRow.domain false) (Rows.screenFreshSpec.post enc Tryz.prog Tryz.f6 false true false false) := by
  refine returnsInHanded_of_change_sized (C := Tryz.checked) own started (by kernel_rfl) Tryz.func6
    (ChangeSpec.witness6 (enc := enc) (C := Tryz.checked) false ⟨#[], #[.agg (List.toArray (.int .i64 0 :: .int .i64 0 :: .slice none 0 0 :: .int .i64 0 :: .int .i64 0 :: .bool false :: .int .i64 0 :: .int .i64 0 :: .bool false :: .bool false :: .bool false :: .bool false :: .bool false :: .bool false :: .bool false :: .bool false :: .int .i64 0 :: .int .i64 0 :: .slice none 0 0 :: .bool false :: .bool false :: .bool false :: .bool false :: .bool false :: .bool false :: .int .i64 0 :: .int .i64 0 :: .bool false :: .bool false :: .int .i64 0 :: .int .i64 0 :: .bool false :: .bool false :: .bool false :: .bool false :: .bool false :: .bool false :: .bool false :: .bool false :: .bool false :: .int .i64 0 :: .int .i64 0 :: .slice none 0 0 :: .slice none 0 0 :: [])), .agg #[.int .u8 0, .int .i64 0, .int .i64 0, .bool false]], []⟩ 12 (by kernel_rfl) (by kernel_rfl) (by kernel_rfl) (by kernel_rfl)) ?_
  intro W base args ds gs before b hW hcnd d _
  have hsz : (DataW.weightsEach Tryz.prog (Tryz.f6.params.toList ++ Rows.screenFreshSpec.plain.varTypes Tryz.prog) (ds ++ gs)).all (· ≤ reachBytes) = true := d
  have hval : ∀ (j : Nat) t v, Tryz.f6.params[j]? = some t → args[j]? = some v → Value.okWide Tryz.prog W .any base t v := b
  have hW' := hW
  obtain ⟨p, q, E, hV, rfl, hfz, hnd⟩ := hW
  have hA : DataW.TrodAll enc Tryz.prog W 0 (fun _ => true) true Tryz.f6.params.toList args.toList ds p := E
  rw [Tryz.params6] at hA hval hsz
  obtain ⟨R, a3, U, a1, p0, q0, hargs, rfl, rfl, J, r0⟩ := trodAll_cons hA
  obtain ⟨S, a4, Y, a2, p1, q1, rfl, rfl, rfl, K, r1⟩ := trodAll_cons r0
  obtain ⟨rfl, rfl, rfl⟩ := trodAll_nil r1
  obtain rfl : args = #[R, S] := by cases args; simp_all
  obtain ⟨rfl, rfl⟩ := trodVars_none hV
  have L := J
  have N : ∀ x ∈ p0, x.block < W.heap.size := by obtain ⟨m, hm⟩ := L; exact DataW.trod_lt m _ _ _ hm
  have s0 : cU Tryz.prog 34 U := oP hsz (j := 0) rfl rfl
  obtain ⟨F, rfl, _⟩ := okWide_struct Tryz.underlying34 (hval 0 34 R rfl rfl)
  obtain ⟨a, ⟨a0, ⟨o, y, r, z, s, B, u, D, Z, rfl⟩, c⟩, w0⟩ := tV yA J s0
  obtain rfl : F = (List.toArray (.int .i64 a.f0.f0 :: .int .i64 a.f0.f1 :: .slice o a.f0.f2.length y :: .int .i64 a.f1 :: .int .i64 a.f2 :: .bool a.f3 :: .int .i64 a.f4.f0 :: .int .i64 a.f4.f1 :: .bool a.f4.f2 :: .bool a.f4.f3 :: .bool a.f4.f4 :: .bool a.f4.f5 :: .bool a.f4.f6 :: .bool a.f4.f7 :: .bool a.f4.f8 :: .bool a.f4.f9 :: .int .i64 a.f5 :: .int .i64 a.f6 :: .slice r a.f7.length z :: .bool a.f8 :: .bool a.f9 :: .bool a.f10 :: .bool a.f11 :: .bool a.f12 :: .bool a.f13 :: .int .i64 a.f14.f0 :: .int .i64 a.f14.f1 :: .bool a.f14.f2 :: .bool a.f14.f3 :: .int .i64 a.f14.f4.f0 :: .int .i64 a.f14.f4.f1 :: .bool a.f14.f4.f2 :: .bool a.f14.f4.f3 :: .bool a.f14.f4.f4 :: .bool a.f14.f4.f5 :: .bool a.f14.f4.f6 :: .bool a.f14.f4.f7 :: .bool a.f14.f4.f8 :: .bool a.f14.f4.f9 :: .bool a.f15 :: .int .i64 a.f16.f0 :: .int .i64 a.f16.f1 :: .slice s a.f16.f2.length B :: .slice u a.f17.length D :: [])) := Array.ext' Z
  have M := K
  have O : ∀ x ∈ p1, x.block < W.heap.size := by obtain ⟨m, hm⟩ := M; exact DataW.trod_lt m _ _ _ hm
  have s1 : cU Tryz.prog 44 Y := oP hsz (j := 1) rfl rfl
  obtain ⟨I, rfl, _⟩ := okWide_struct Tryz.underlying44 (hval 1 44 S rfl rfl)
  obtain ⟨l, e1, w1⟩ := tV yB K s1
  obtain rfl : I = #[.int .u8 l.f0, .int .i64 l.f1, .int .i64 l.f2, .bool l.f3] := Array.ext' e1
  clear E b d hsz
  obtain ⟨k, hk⟩ := Go.Proofs.YtckilbegmbaeeaaGreat.Z6Pure.row a l w0 w1
  refine (sP (F6.ok hk) (vw rfl (c _ (by simp)).2 (vw rfl (c _ (by simp)).2 (vw rfl (c _ (by simp)).2 (vw rfl (c _ (by simp)).2 Bq))))).mono fun e W' ⟨he, bel⟩ => ?_
  subst he
  exact ⟨_, rfl, _, _, _, [], _, [], hW', trodAll_mk1 (shut_bool Tryz.underlying4 _), (trodAll_cons_mk (Below.trod rS (by kernel_rfl) (of_decide_eq_true (by kernel_rfl)) L bel N) (trodAll_cons_mk (Below.trod rS (by kernel_rfl) (of_decide_eq_true (by kernel_rfl)) M bel O) trodAll_mk0)), rfl, bel.frame _, fun h => by cases h⟩
theorem bB : Rows.screenFreshRow.holds Tryz.pinned (OpenSpec.ofChange Rows.screenFreshSpec) :=
  OpenClaim.holds_of_wide 6 Tryz.f6 rfl rfl rfl rfl rfl rfl rfl ⟨rfl, rfl, rfl, rfl, rfl⟩ rfl rfl rfl rfl rfl (by kernel_rfl) Tryz.func6 (by kernel_rfl)
    (of_decide_eq_true (by kernel_rfl)) (by unfold Func.isWrapper; first | (rw [if_pos (by decide +kernel)]; kernel_rfl) | (rw [if_neg (by decide +kernel)]; exact ⟨rfl, rfl⟩))
    (fun os started H enc _ => wS os started H enc)
theorem proved : Rows.ScreenFreshSaid := bB
#print axioms proved
end Go.Proofs.YtckilbegmbaeeaaGreat.screenFresh
namespace Go.Proofs.YtckilbegmbaeeaaGreat
/-- The row, under a short name, for the claim. -/
theorem screenFresh_holds : Rows.ScreenFreshSaid := screenFresh.proved
end Go.Proofs.YtckilbegmbaeeaaGreat

/- The row of ScreenDoes: at every call that the row speaks of, the law returns true. Out of the walk of its functions and the plain law. -/
import Derived.Test.YtckilbegmbaeeaaGreatRows
import Derived.Test.YtckilbegmbaeeaaGreatZ7U
import Derived.Test.YtckilbegmbaeeaaGreatZ7P
import Derived.WalkKit
import Derived.ProofKit
import Derived.OpenShut
import Derived.ShutString
import Derived.ChangeOld
import Derived.Below
import Derived.SizedLaws
namespace Go.Proofs.YtckilbegmbaeeaaGreat.screenDoes
open Go.ChangeShapes Go.WideShapes Go.ChangeAt Go.RowKit Go.Proofs.YtckilbegmbaeeaaGreat.SL Go.Proofs.YtckilbegmbaeeaaGreat.Z7
open Go.ChangeMaps (open_string shut_string)
set_option linter.unusedVariables false
theorem own : ownKnob Tryz.prog.godebug = none := by kernel_rfl
theorem pm : laidOutB Tryz.prog = true := by kernel_rfl
set_option maxRecDepth 100000 in
theorem xj (os : Os) (started : os.Started) (H : Type) (enc : TypeId × Value → H) :
    ReturnsInHanded {} Tryz.checked os 7 .any (Rows.screenDoesSpec.pre6 enc Tryz.prog Tryz.f7 Rows.screenDoesRow.domain false) (Rows.screenDoesSpec.post enc Tryz.prog Tryz.f7 false true false false) := by
  refine returnsInHanded_of_change_sized (C := Tryz.checked) own started (by kernel_rfl) Tryz.func7
    (ChangeSpec.witness6 (enc := enc) (C := Tryz.checked) false ⟨#[], #[.agg (List.toArray (.int .i64 0 :: .int .i64 0 :: .slice none 0 0 :: .int .i64 0 :: .int .i64 0 :: .bool false :: .int .i64 0 :: .int .i64 0 :: .bool false :: .bool false :: .bool false :: .bool false :: .bool false :: .bool false :: .bool false :: .bool false :: .int .i64 0 :: .int .i64 0 :: .slice none 0 0 :: .bool false :: .bool false :: .bool false :: .bool false :: .bool false :: .bool false :: .int .i64 0 :: .int .i64 0 :: .bool false :: .bool false :: .int .i64 0 :: .int .i64 0 :: .bool false :: .bool false :: .bool false :: .bool false :: .bool false :: .bool false :: .bool false :: .bool false :: .bool false :: .int .i64 0 :: .int .i64 0 :: .slice none 0 0 :: .slice none 0 0 :: [])), .agg #[.int .u8 0, .int .i64 0, .int .i64 0, .bool false], .agg (List.toArray (.int .i64 0 :: .int .i64 0 :: .slice none 0 0 :: .int .i64 0 :: .int .i64 0 :: .bool false :: .int .i64 0 :: .int .i64 0 :: .bool false :: .bool false :: .bool false :: .bool false :: .bool false :: .bool false :: .bool false :: .bool false :: .int .i64 0 :: .int .i64 0 :: .slice none 0 0 :: .bool false :: .bool false :: .bool false :: .bool false :: .bool false :: .bool false :: .int .i64 0 :: .int .i64 0 :: .bool false :: .bool false :: .int .i64 0 :: .int .i64 0 :: .bool false :: .bool false :: .bool false :: .bool false :: .bool false :: .bool false :: .bool false :: .bool false :: .bool false :: .int .i64 0 :: .int .i64 0 :: .slice none 0 0 :: .slice none 0 0 :: []))], []⟩ 12 (by kernel_rfl) (by kernel_rfl) (by kernel_rfl) (by kernel_rfl)) ?_
  intro W base args ds gs before c hW hcnd o _
  have hsz : (DataW.weightsEach Tryz.prog (Tryz.f7.params.toList ++ Rows.screenDoesSpec.plain.varTypes Tryz.prog) (ds ++ gs)).all (· ≤ reachBytes) = true := o
  have hval : ∀ (j : Nat) t v, Tryz.f7.params[j]? = some t → args[j]? = some v → Value.okWide Tryz.prog W .any base t v := c
  have hW' := hW
  obtain ⟨p, q, S, hV, rfl, hfz, hnd⟩ := hW
  have hA : DataW.TrodAll enc Tryz.prog W 0 (fun _ => true) true Tryz.f7.params.toList args.toList ds p := S
  rw [Tryz.params7] at hA hval hsz
  obtain ⟨v0, a8, d0, a5, p0, q0, hargs, rfl, rfl, h0, r0⟩ := trodAll_cons hA
  obtain ⟨v1, a9, d1, a6, p1, q1, rfl, rfl, rfl, h1, r1⟩ := trodAll_cons r0
  obtain ⟨v2, b0, d2, a7, p2, q2, rfl, rfl, rfl, h2, r2⟩ := trodAll_cons r1
  obtain ⟨rfl, rfl, rfl⟩ := trodAll_nil r2
  obtain rfl : args = #[v0, v1, v2] := by cases args; simp_all
  obtain ⟨rfl, rfl⟩ := trodVars_none hV
  have k0 := h0
  have a0 : ∀ x ∈ p0, x.block < W.heap.size := by obtain ⟨m, hm⟩ := k0; exact DataW.trod_lt m _ _ _ hm
  have s0 : cT Tryz.prog 34 d0 := ni hsz (j := 0) rfl rfl
  obtain ⟨U, rfl, _⟩ := okWide_struct Tryz.underlying34 (hval 0 34 v0 rfl rfl)
  obtain ⟨a, ⟨a3, ⟨s, I, u, J, y, K, z, L, e0, rfl⟩, d⟩, w0⟩ := rm wj h0 s0
  obtain rfl : U = (List.toArray (.int .i64 a.f0.f0 :: .int .i64 a.f0.f1 :: .slice s a.f0.f2.length I :: .int .i64 a.f1 :: .int .i64 a.f2 :: .bool a.f3 :: .int .i64 a.f4.f0 :: .int .i64 a.f4.f1 :: .bool a.f4.f2 :: .bool a.f4.f3 :: .bool a.f4.f4 :: .bool a.f4.f5 :: .bool a.f4.f6 :: .bool a.f4.f7 :: .bool a.f4.f8 :: .bool a.f4.f9 :: .int .i64 a.f5 :: .int .i64 a.f6 :: .slice u a.f7.length J :: .bool a.f8 :: .bool a.f9 :: .bool a.f10 :: .bool a.f11 :: .bool a.f12 :: .bool a.f13 :: .int .i64 a.f14.f0 :: .int .i64 a.f14.f1 :: .bool a.f14.f2 :: .bool a.f14.f3 :: .int .i64 a.f14.f4.f0 :: .int .i64 a.f14.f4.f1 :: .bool a.f14.f4.f2 :: .bool a.f14.f4.f3 :: .bool a.f14.f4.f4 :: .bool a.f14.f4.f5 :: .bool a.f14.f4.f6 :: .bool a.f14.f4.f7 :: .bool a.f14.f4.f8 :: .bool a.f14.f4.f9 :: .bool a.f15 :: .int .i64 a.f16.f0 :: .int .i64 a.f16.f1 :: .slice y a.f16.f2.length K :: .slice z a.f17.length L :: [])) := Array.ext' e0
  have k1 := h1
  have a1 : ∀ x ∈ p1, x.block < W.heap.size := by obtain ⟨m, hm⟩ := k1; exact DataW.trod_lt m _ _ _ hm
  have s1 : cT Tryz.prog 44 d1 := ni hsz (j := 1) rfl rfl
  obtain ⟨Y, rfl, _⟩ := okWide_struct Tryz.underlying44 (hval 1 44 v1 rfl rfl)
  obtain ⟨r, e1, w1⟩ := rm yN h1 s1
  obtain rfl : Y = #[.int .u8 r.f0, .int .i64 r.f1, .int .i64 r.f2, .bool r.f3] := Array.ext' e1
  have k2 := h2
  have a2 : ∀ x ∈ p2, x.block < W.heap.size := by obtain ⟨m, hm⟩ := k2; exact DataW.trod_lt m _ _ _ hm
  have s2 : cT Tryz.prog 34 d2 := ni hsz (j := 2) rfl rfl
  obtain ⟨Z, rfl, _⟩ := okWide_struct Tryz.underlying34 (hval 2 34 v2 rfl rfl)
  obtain ⟨b, ⟨a4, ⟨B, M, D, N, E, O, F, R, e2, rfl⟩, l⟩, w2⟩ := rm wj h2 s2
  obtain rfl : Z = (List.toArray (.int .i64 b.f0.f0 :: .int .i64 b.f0.f1 :: .slice B b.f0.f2.length M :: .int .i64 b.f1 :: .int .i64 b.f2 :: .bool b.f3 :: .int .i64 b.f4.f0 :: .int .i64 b.f4.f1 :: .bool b.f4.f2 :: .bool b.f4.f3 :: .bool b.f4.f4 :: .bool b.f4.f5 :: .bool b.f4.f6 :: .bool b.f4.f7 :: .bool b.f4.f8 :: .bool b.f4.f9 :: .int .i64 b.f5 :: .int .i64 b.f6 :: .slice D b.f7.length N :: .bool b.f8 :: .bool b.f9 :: .bool b.f10 :: .bool b.f11 :: .bool b.f12 :: .bool b.f13 :: .int .i64 b.f14.f0 :: .int .i64 b.f14.f1 :: .bool b.f14.f2 :: .bool b.f14.f3 :: .int .i64 b.f14.f4.f0 :: .int .i64 b.f14.f4.f1 :: .bool b.f14.f4.f2 :: .bool b.f14.f4.f3 :: .bool b.f14.f4.f4 :: .bool b.f14.f4.f5 :: .bool b.f14.f4.f6 :: .bool b.f14.f4.f7 :: .bool b.f14.f4.f8 :: .bool b.f14.f4.f9 :: .bool b.f15 :: .int .i64 b.f16.f0 :: .int .i64 b.f16.f1 :: .slice E b.f16.f2.length O :: .slice F b.f17.length R :: [])) := Array.ext' e2
  clear S c o hsz
  obtain ⟨k, hk⟩ := Go.Proofs.YtckilbegmbaeeaaGreat.Z7Pure.row a r b w0 w1 w2
  refine (sR (F7.ok hk) (qy rfl (d _ (by simp)).2 (qy rfl (d _ (by simp)).2 (qy rfl (d _ (by simp)).2 (qy rfl (d _ (by simp)).2 (qy rfl (l _ (by simp)).2 (qy rfl (l _ (by simp)).2 (qy rfl (l _ (by simp)).2 (qy rfl (l _ (by simp)).2 BF))))))))).mono fun e W' ⟨he, bel⟩ => ?_
  subst he
  exact ⟨_, rfl, _, _, _, [], _, [], hW', trodAll_mk1 (shut_bool Tryz.underlying4 _), (trodAll_cons_mk (Below.trod pm (by kernel_rfl) (of_decide_eq_true (by kernel_rfl)) k0 bel a0) (trodAll_cons_mk (Below.trod pm (by kernel_rfl) (of_decide_eq_true (by kernel_rfl)) k1 bel a1) (trodAll_cons_mk (Below.trod pm (by kernel_rfl) (of_decide_eq_true (by kernel_rfl)) k2 bel a2) trodAll_mk0))), rfl, bel.frame _, fun h => by cases h⟩
theorem bB : Rows.screenDoesRow.holds Tryz.pinned (OpenSpec.ofChange Rows.screenDoesSpec) :=
  OpenClaim.holds_of_wide 7 Tryz.f7 rfl rfl rfl rfl rfl rfl rfl ⟨rfl, rfl, rfl, rfl, rfl⟩ rfl rfl rfl rfl rfl (by kernel_rfl) Tryz.func7 (by kernel_rfl)
    (of_decide_eq_true (by kernel_rfl)) (by unfold Func.isWrapper; first | (rw [if_pos (by decide +kernel)]; kernel_rfl) | (rw [if_neg (by decide +kernel)]; exact ⟨rfl, rfl⟩))
    (fun os started H enc _ => xj os started H enc)
theorem proved : Rows.ScreenDoesSaid := bB
#print axioms proved
end Go.Proofs.YtckilbegmbaeeaaGreat.screenDoes
namespace Go.Proofs.YtckilbegmbaeeaaGreat
/-- The row, under a short name, for the claim. -/
theorem screenDoes_holds : Rows.ScreenDoesSaid := screenDoes.proved
end Go.Proofs.YtckilbegmbaeeaaGreat

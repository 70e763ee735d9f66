/- The row of DeflateTells: at every call that the row speaks of, the law returns true. Out of the walk of its functions and the plain law. -/
import Derived.Test.YtocjoegcfojjhaaRows
import Derived.Test.YtocjoegcfojjhaaGa
import Derived.Test.YtocjoegcfojjhaaSlR
import Derived.Test.YtocjoegcfojjhaaGaPure
import Derived.WalkKit
import Derived.ProofKit
import Derived.OpenShut
import Derived.ShutString
import Derived.ChangeOld
import Derived.Below
import Derived.SizedLaws
namespace Go.Proofs.Ytocjoegcfojjhaa.deflateTells
open Go.ChangeShapes Go.WideShapes Go.ChangeAt Go.RowKit Go.Proofs.Ytocjoegcfojjhaa.SL Go.Proofs.Ytocjoegcfojjhaa.Ga
open Go.ChangeMaps (open_string shut_string)
set_option linter.unusedVariables false
theorem own : ownKnob Try.prog.godebug = none := by kernel_rfl
theorem laidOut : laidOutB Try.prog = true := by kernel_rfl
def wf82 (x : S82) : Prop := (Lit.int .u8 x.f0).wf = true ∧ (Lit.int .i64 x.f1).wf = true ∧ (Lit.int .i64 x.f2).wf = true
set_option maxRecDepth 100000 in
theorem opn82 {H : Type} {enc : TypeId × Value → H} {W : World} : Opn enc Try.prog W 82 k82 wf82 := fun held fuel cs x h => by
  obtain ⟨n, hl, hf⟩ := trod_field Try.underlying82 h
  rw [show Try.prog.cellsOf 82 = 3 from by kernel_rfl] at hl
  obtain ⟨c0, c1, c2, rfl⟩ : ∃ c0 c1 c2, cs = [c0, c1, c2] := by
    match cs, hl with
    | [c0, c1, c2], _ => exact ⟨c0, c1, c2, rfl⟩
  obtain ⟨y0, h0⟩ : ∃ y, DataW.trod enc Try.prog W 0 (fun _ => true) held n 5 ((([c0, c1, c2] : List Value).drop 0).take (Try.prog.cellsOf 5)) = some y := hf 0 _ rfl
  rw [show Try.prog.cellsOf 5 = 1 from by kernel_rfl] at h0
  obtain ⟨z0, e0, w0⟩ := (Opn.int Try.underlying5) _ _ _ _ h0
  replace e0 : [c0] = (fun x_ : Int => [Value.int .u8 x_]) z0 := e0
  obtain ⟨y1, h1⟩ : ∃ y, DataW.trod enc Try.prog W 0 (fun _ => true) held n 3 ((([c0, c1, c2] : List Value).drop 1).take (Try.prog.cellsOf 3)) = some y := hf 1 _ rfl
  rw [show Try.prog.cellsOf 3 = 1 from by kernel_rfl] at h1
  obtain ⟨z1, e1, w1⟩ := (Opn.int Try.underlying3) _ _ _ _ h1
  replace e1 : [c1] = (fun x_ : Int => [Value.int .i64 x_]) z1 := e1
  obtain ⟨y2, h2⟩ : ∃ y, DataW.trod enc Try.prog W 0 (fun _ => true) held n 3 ((([c0, c1, c2] : List Value).drop 2).take (Try.prog.cellsOf 3)) = some y := hf 2 _ rfl
  rw [show Try.prog.cellsOf 3 = 1 from by kernel_rfl] at h2
  obtain ⟨z2, e2, w2⟩ := (Opn.int Try.underlying3) _ _ _ _ h2
  replace e2 : [c2] = (fun x_ : Int => [Value.int .i64 x_]) z2 := e2
  refine ⟨⟨z0, z1, z2⟩, ?_, ⟨w0, w1, w2⟩⟩
  show [c0, c1, c2] = enc82 _
  have ee : [c0, c1, c2] = ((fun x_ : Int => [Value.int .u8 x_]) z0) ++ ((fun x_ : Int => [Value.int .i64 x_]) z1) ++ ((fun x_ : Int => [Value.int .i64 x_]) z2) := by rw [← e0, ← e1, ← e2]; rfl
  rw [ee]; rfl
set_option maxRecDepth 100000 in
theorem lifted (os : Os) (started : os.Started) (H : Type) (enc : TypeId × Value → H) :
    ReturnsInHanded {} Try.checked os 3 .any (Rows.deflateTellsSpec.pre6 enc Try.prog Try.f3 Rows.deflateTellsRow.domain false) (Rows.deflateTellsSpec.post enc Try.prog Try.f3 false true false false) := by
  refine returnsInHanded_of_change_sized (C := Try.checked) own started (by kernel_rfl) Try.func3
    (ChangeSpec.witness6 (enc := enc) (C := Try.checked) false ⟨#[], #[.slice none 0 0, .slice none 0 0], []⟩ 8 (by kernel_rfl) (by kernel_rfl) (by kernel_rfl) (by kernel_rfl)) ?_
  intro W base args ds gs before hval0 hW hcnd hsz0 _
  have hsz : (DataW.weightsEach Try.prog (Try.f3.params.toList ++ Rows.deflateTellsSpec.plain.varTypes Try.prog) (ds ++ gs)).all (· ≤ reachBytes) = true := hsz0
  have hval : ∀ (j : Nat) t v, Try.f3.params[j]? = some t → args[j]? = some v → Value.okWide Try.prog W .any base t v := hval0
  have hW' := hW
  obtain ⟨p, q, hA0, hV, rfl, hfz, hnd⟩ := hW
  have hA : DataW.TrodAll enc Try.prog W 0 (fun _ => true) true Try.f3.params.toList args.toList ds p := hA0
  rw [Try.params3] at hA hval hsz
  obtain ⟨v0, vs0, d0, ds0, p0, q0, hargs, rfl, rfl, h0, r0⟩ := trodAll_cons hA
  obtain ⟨v1, vs1, d1, ds1, p1, q1, rfl, rfl, rfl, h1, r1⟩ := trodAll_cons r0
  obtain ⟨rfl, rfl, rfl⟩ := trodAll_nil r1
  obtain rfl : args = #[v0, v1] := by cases args; simp_all
  obtain ⟨rfl, rfl⟩ := trodVars_none hV
  have k0 := h0
  have lt0 : ∀ x ∈ p0, x.block < W.heap.size := by obtain ⟨m, hm⟩ := k0; exact DataW.trod_lt m _ _ _ hm
  obtain ⟨A0, len0, cap0, rfl⟩ := okWide_slice Try.underlying22 (hval 0 22 v0 rfl rfl)
  have y0 : len0 * 24 ≤ 140737488351232 := sized_any hsz (j := 0) (t := 22) rfl rfl Try.underlying22 (by kernel_rfl) h0
  obtain ⟨x0, rfl, w0, o0⟩ := open_ro (e := 82) Try.underlying22 opn82 (by kernel_rfl) (by decide) h0
  have k1 := h1
  have lt1 : ∀ x ∈ p1, x.block < W.heap.size := by obtain ⟨m, hm⟩ := k1; exact DataW.trod_lt m _ _ _ hm
  obtain ⟨A1, len1, cap1, rfl⟩ := okWide_slice Try.underlying23 (hval 1 23 v1 rfl rfl)
  have y1 : len1 * 1 ≤ 140737488351232 := sized_any hsz (j := 1) (t := 23) rfl rfl Try.underlying23 (by kernel_rfl) h1
  obtain ⟨x1, rfl, w1, o1⟩ := open_ro (e := 5) Try.underlying23 (Opn.int Try.underlying5) (by kernel_rfl) (by decide) h1
  clear hA0 hval0 hsz0 hsz
  obtain ⟨k, hk⟩ := Go.Proofs.Ytocjoegcfojjhaa.GaPure.row x0 x1 y0 w0 y1 w1
  refine (row_calls (F3.ok hk) (sepP rfl o0 (sepP rfl o1 sep0))).mono fun e W' ⟨he, bel⟩ => ?_
  subst he
  exact ⟨_, rfl, _, _, _, [], _, [], hW', trodAll_mk1 (shut_bool Try.underlying4 _), (trodAll_cons_mk (Below.trod laidOut (by kernel_rfl) (of_decide_eq_true (by kernel_rfl)) k0 bel lt0) (trodAll_cons_mk (Below.trod laidOut (by kernel_rfl) (of_decide_eq_true (by kernel_rfl)) k1 bel lt1) trodAll_mk0)), rfl, bel.frame _, fun h => by cases h⟩
theorem over : Rows.deflateTellsRow.holds Try.pinned (OpenSpec.ofChange Rows.deflateTellsSpec) :=
  OpenClaim.holds_of_wide 3 Try.f3 rfl rfl rfl rfl rfl rfl rfl ⟨rfl, rfl, rfl, rfl, rfl⟩ rfl rfl rfl rfl rfl (by kernel_rfl) Try.func3 (by kernel_rfl)
    (of_decide_eq_true (by kernel_rfl)) (by unfold Func.isWrapper; first | (rw [if_pos (by decide +kernel)]; kernel_rfl) | (rw [if_neg (by decide +kernel)]; exact ⟨rfl, rfl⟩))
    (fun os started H enc _ => lifted os started H enc)
theorem proved : Rows.DeflateTellsSaid := over
#print axioms proved
end Go.Proofs.Ytocjoegcfojjhaa.deflateTells
namespace Go.Proofs.Ytocjoegcfojjhaa
/-- The row, under a short name, for the claim. -/
theorem deflateTells_holds : Rows.DeflateTellsSaid := deflateTells.proved
end Go.Proofs.Ytocjoegcfojjhaa

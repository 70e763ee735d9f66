/- The row of SspAlike, narrowed to a bulk: at every call that the row speaks of, the law returns true. Out of the walk of its functions and the plain law. Condition: what the law reads is of bulk at most 1048576, as the given statement says. -/
import Derived.Test.YtodkeoibebimgaaRows
import Derived.Test.YtodkeoibebimgaaSqU
import Derived.Test.YtodkeoibebimgaaSqPAlike
import Derived.WalkKit
import Derived.ProofKit
import Derived.OpenShut
import Derived.ShutString
import Derived.ChangeOld
import Derived.Below
import Derived.SizedLaws
import Derived.JoinedCond
namespace Go.Proofs.Ytodkeoibebimgaa.sspAlike
open Go.ChangeShapes Go.WideShapes Go.ChangeAt Go.RowKit Go.Proofs.Ytodkeoibebimgaa.SL Go.Proofs.Ytodkeoibebimgaa.Sq
open Go.ChangeMaps (open_string shut_string)
set_option linter.unusedVariables false
theorem own : ownKnob Try.prog.godebug = none := by kernel_rfl
theorem laidOut : laidOutB Try.prog = true := by kernel_rfl
set_option maxRecDepth 100000 in
set_option maxHeartbeats 2000000 in
theorem lifted (os : Os) (started : os.Started) (H : Type) (enc : TypeId × Value → H) (F0 : Stop.Interp) :
    ReturnsInHanded {} Try.checked os 11 .any ((Rows.OpenSpec.upto Rows.sspAlikeSpec).pre6 enc Try.prog Try.f11 Rows.sspAlikeUptoRow.domain false) (((Rows.OpenSpec.upto Rows.sspAlikeSpec).at F0).post enc Try.prog Try.f11 false true false false) := by
  refine returnsInHanded_of_cond (C := Try.checked) (s := (Rows.OpenSpec.upto Rows.sspAlikeSpec)) (k := Rows.uptoSmall) rfl own started (by kernel_rfl) Try.func11
    (OpenSpec.witness (enc := enc) (C := Try.checked) (s := (Rows.OpenSpec.upto Rows.sspAlikeSpec)) (k := Rows.uptoSmall) rfl false ⟨#[], #[.slice none 0 0, .slice none 0 0], []⟩ 12 (by kernel_rfl) (by kernel_rfl) (by kernel_rfl) (x := ([.nil, .nil], [], [])) (by kernel_rfl) (by kernel_rfl) (by kernel_rfl)) ?_
  intro W base args ds gs before hval0 hW _ hk0 _
  have hval : ∀ (j : Nat) t v, Try.f11.params[j]? = some t → args[j]? = some v → Value.okWide Try.prog W .any base t v := hval0
  have hW' := hW
  obtain ⟨p, q, hA0, hV, rfl, hfz, hnd⟩ := hW
  have hA : DataW.TrodAll enc Try.prog W 0 (fun _ => true) true Try.f11.params.toList args.toList ds p := hA0
  rw [Try.params11] at hA hval
  obtain ⟨v0, vs0, d0, ds0, p0, q0, hargs, rfl, rfl, h0, r0⟩ := trodAll_cons hA
  obtain ⟨v1, vs1, d1, ds1, p1, q1, rfl, rfl, rfl, h1, r1⟩ := trodAll_cons r0
  obtain ⟨rfl, rfl, rfl⟩ := trodAll_nil r1
  obtain rfl : args = #[v0, v1] := by cases args; simp_all
  obtain ⟨rfl, rfl⟩ := trodVars_none hV
  have hk1 : decide (Rows.uptoBulkAll (([d0, d1] : List (DataW H)) ++ []) ≤ 1048576) = true := hk0
  have hk := of_decide_eq_true hk1
  simp only [List.append_nil, bulkAll1, bulkAll0] at hk
  have k0 := h0
  have lt0 : ∀ x ∈ p0, x.block < W.heap.size := by obtain ⟨m, hm⟩ := k0; exact DataW.trod_lt m _ _ _ hm
  obtain ⟨B0, len0, cap0, rfl⟩ := okWide_slice Try.underlying105 (hval 0 105 v0 rfl rfl)
  obtain ⟨x0, ⟨bs0, ⟨A1001, c1002, e0, rfl⟩, p0_⟩, w0, b0⟩ := open_pU (OpnU.sl (e := 9) Try.underlying105 (OpnU.str Try.underlying9) (by kernel_rfl) (by decide)) h0
  replace e0 : [Value.slice B0 len0 cap0] = [.slice A1001 x0.length c1002] := e0
  simp only [List.cons.injEq, Value.slice.injEq, and_true] at e0
  obtain ⟨rfl, rfl, rfl⟩ := e0
  have k1 := h1
  have lt1 : ∀ x ∈ p1, x.block < W.heap.size := by obtain ⟨m, hm⟩ := k1; exact DataW.trod_lt m _ _ _ hm
  obtain ⟨B1, len1, cap1, rfl⟩ := okWide_slice Try.underlying23 (hval 1 23 v1 rfl rfl)
  obtain ⟨x1, ⟨bs1, ⟨A2001, c2002, e1, rfl⟩, p1_⟩, w1, b1⟩ := open_pU (OpnU.sl (e := 5) Try.underlying23 (OpnU.int Try.underlying5) (by kernel_rfl) (by decide)) h1
  replace e1 : [Value.slice B1 len1 cap1] = [.slice A2001 x1.length c2002] := e1
  simp only [List.cons.injEq, Value.slice.injEq, and_true] at e1
  obtain ⟨rfl, rfl, rfl⟩ := e1
  clear hA0 hval0 hk0 hk1
  have hB : ((x0.map (fun y_ : ByteArray => y_.size + 1)).sum + 1) + ((x1.map (fun _ : Int => 1)).sum + 1) ≤ 1048576 := by omega
  obtain ⟨k, hk⟩ := Go.Proofs.Ytodkeoibebimgaa.SqPure.row x0 x1 w0 w1 hB
  refine (row_calls (F11.ok hk) (sepP rfl (p0_ _ (by simp)).2 (sepP rfl (p1_ _ (by simp)).2 sep0))).mono fun e W' ⟨he, bel⟩ => ?_
  subst he
  exact ⟨_, rfl, _, _, _, [], _, [], hW', trodAll_mk1 (shut_bool Try.underlying4 _), (trodAll_cons_mk (Below.trod laidOut (by kernel_rfl) (of_decide_eq_true (by kernel_rfl)) k0 bel lt0) (trodAll_cons_mk (Below.trod laidOut (by kernel_rfl) (of_decide_eq_true (by kernel_rfl)) k1 bel lt1) trodAll_mk0)), rfl, bel.frame _, fun h => by cases h⟩
theorem over : Rows.sspAlikeUptoRow.holds Try.pinned (Rows.OpenSpec.upto Rows.sspAlikeSpec) :=
  OpenClaim.holds_of_cond 11 Try.f11 rfl rfl rfl rfl rfl rfl rfl ⟨rfl, rfl, rfl, rfl, rfl⟩ rfl rfl rfl rfl rfl (by kernel_rfl) Try.func11 (by kernel_rfl)
    (of_decide_eq_true (by kernel_rfl)) (by unfold Func.isWrapper; first | (rw [if_pos (by decide +kernel)]; kernel_rfl) | (rw [if_neg (by decide +kernel)]; exact ⟨rfl, rfl⟩))
    (fun os started H enc _ F0 => lifted os started H enc F0)
theorem proved : Rows.SspAlikeUptoSaid := over
#print axioms proved
end Go.Proofs.Ytodkeoibebimgaa.sspAlike
namespace Go.Proofs.Ytodkeoibebimgaa
/-- The row, under a short name, for the claim. -/
theorem sspAlike_holds : Rows.SspAlikeUptoSaid := sspAlike.proved
end Go.Proofs.Ytodkeoibebimgaa

/- The row of SspTakes, narrowed to a bulk: at every call that the row speaks of, the law returns true. Out of the walk of its functions and the plain law. Condition: what the law reads is of bulk at most 1048576, as the given statement says. -/
import Derived.Test.YtodkeoibebimgaaRows
import Derived.Test.YtodkeoibebimgaaSqU
import Derived.Test.YtodkeoibebimgaaSqPTakes
import Derived.WalkKit
import Derived.ProofKit
import Derived.OpenShut
import Derived.ShutString
import Derived.ChangeOld
import Derived.Below
import Derived.SizedLaws
import Derived.JoinedCond
namespace Go.Proofs.Ytodkeoibebimgaa.sspTakes
open Go.ChangeShapes Go.WideShapes Go.ChangeAt Go.RowKit Go.Proofs.Ytodkeoibebimgaa.SL Go.Proofs.Ytodkeoibebimgaa.Sq
open Go.ChangeMaps (open_string shut_string)
set_option linter.unusedVariables false
theorem own : ownKnob Try.prog.godebug = none := by kernel_rfl
theorem laidOut : laidOutB Try.prog = true := by kernel_rfl
set_option maxRecDepth 100000 in
set_option maxHeartbeats 2000000 in
theorem lifted (os : Os) (started : os.Started) (H : Type) (enc : TypeId × Value → H) (F0 : Stop.Interp) :
    ReturnsInHanded {} Try.checked os 12 .any ((Rows.OpenSpec.upto Rows.sspTakesSpec).pre6 enc Try.prog Try.f12 Rows.sspTakesUptoRow.domain false) (((Rows.OpenSpec.upto Rows.sspTakesSpec).at F0).post enc Try.prog Try.f12 false true false false) := by
  refine returnsInHanded_of_cond (C := Try.checked) (s := (Rows.OpenSpec.upto Rows.sspTakesSpec)) (k := Rows.uptoSmall) rfl own started (by kernel_rfl) Try.func12
    (OpenSpec.witness (enc := enc) (C := Try.checked) (s := (Rows.OpenSpec.upto Rows.sspTakesSpec)) (k := Rows.uptoSmall) rfl false ⟨#[], #[.string ByteArray.empty, .slice none 0 0], []⟩ 12 (by kernel_rfl) (by kernel_rfl) (by kernel_rfl) (x := ([.lit (.string []), .nil], [], [])) (by kernel_rfl) (by kernel_rfl) (by kernel_rfl)) ?_
  intro W base args ds gs before hval0 hW _ hk0 _
  have hval : ∀ (j : Nat) t v, Try.f12.params[j]? = some t → args[j]? = some v → Value.okWide Try.prog W .any base t v := hval0
  have hW' := hW
  obtain ⟨p, q, hA0, hV, rfl, hfz, hnd⟩ := hW
  have hA : DataW.TrodAll enc Try.prog W 0 (fun _ => true) true Try.f12.params.toList args.toList ds p := hA0
  rw [Try.params12] at hA hval
  obtain ⟨v0, vs0, d0, ds0, p0, q0, hargs, rfl, rfl, h0, r0⟩ := trodAll_cons hA
  obtain ⟨v1, vs1, d1, ds1, p1, q1, rfl, rfl, rfl, h1, r1⟩ := trodAll_cons r0
  obtain ⟨rfl, rfl, rfl⟩ := trodAll_nil r1
  obtain rfl : args = #[v0, v1] := by cases args; simp_all
  obtain ⟨rfl, rfl⟩ := trodVars_none hV
  have hk1 : decide (Rows.uptoBulkAll (([d0, d1] : List (DataW H)) ++ []) ≤ 1048576) = true := hk0
  have hk := of_decide_eq_true hk1
  simp only [List.append_nil, bulkAll1, bulkAll0] at hk
  have k0 := h0
  have lt0 : ∀ x ∈ p0, x.block < W.heap.size := by obtain ⟨m, hm⟩ := k0; exact DataW.trod_lt m _ _ _ hm
  obtain ⟨x0, rfl, rfl, rfl, ys0⟩ := open_string Try.underlying9 (hval 0 9 v0 rfl rfl) h0
  simp only [bulk_str, Array.length_toList] at hk
  have sz0 : x0.data.size = x0.size := rfl
  rw [sz0] at hk
  have k1 := h1
  have lt1 : ∀ x ∈ p1, x.block < W.heap.size := by obtain ⟨m, hm⟩ := k1; exact DataW.trod_lt m _ _ _ hm
  obtain ⟨B1, len1, cap1, rfl⟩ := okWide_slice Try.underlying108 (hval 1 108 v1 rfl rfl)
  obtain ⟨x1, ⟨bs1, ⟨A2001, c2002, e1, rfl⟩, p1_⟩, w1, b1⟩ := open_pU (OpnU.sl (e := 54) Try.underlying108 opn54 (by kernel_rfl) (by decide)) h1
  replace e1 : [Value.slice B1 len1 cap1] = [.slice A2001 x1.length c2002] := e1
  simp only [List.cons.injEq, Value.slice.injEq, and_true] at e1
  obtain ⟨rfl, rfl, rfl⟩ := e1
  clear hA0 hval0 hk0 hk1
  have hB : (x0.size + 1) + ((x1.map bk54).sum + 1) ≤ 1048576 := by omega
  obtain ⟨k, hk⟩ := Go.Proofs.Ytodkeoibebimgaa.SqPure.row x0 x1 trivial w1 hB
  refine (row_calls (F12.ok hk) (sepP rfl (p1_ _ (by simp)).2 sep0)).mono fun e W' ⟨he, bel⟩ => ?_
  subst he
  exact ⟨_, rfl, _, _, _, [], _, [], hW', trodAll_mk1 (shut_bool Try.underlying4 _), (trodAll_cons_mk (Below.trod laidOut (by kernel_rfl) (of_decide_eq_true (by kernel_rfl)) k0 bel lt0) (trodAll_cons_mk (Below.trod laidOut (by kernel_rfl) (of_decide_eq_true (by kernel_rfl)) k1 bel lt1) trodAll_mk0)), rfl, bel.frame _, fun h => by cases h⟩
theorem over : Rows.sspTakesUptoRow.holds Try.pinned (Rows.OpenSpec.upto Rows.sspTakesSpec) :=
  OpenClaim.holds_of_cond 12 Try.f12 rfl rfl rfl rfl rfl rfl rfl ⟨rfl, rfl, rfl, rfl, rfl⟩ rfl rfl rfl rfl rfl (by kernel_rfl) Try.func12 (by kernel_rfl)
    (of_decide_eq_true (by kernel_rfl)) (by unfold Func.isWrapper; first | (rw [if_pos (by decide +kernel)]; kernel_rfl) | (rw [if_neg (by decide +kernel)]; exact ⟨rfl, rfl⟩))
    (fun os started H enc _ F0 => lifted os started H enc F0)
theorem proved : Rows.SspTakesUptoSaid := over
#print axioms proved
end Go.Proofs.Ytodkeoibebimgaa.sspTakes
namespace Go.Proofs.Ytodkeoibebimgaa
/-- The row, under a short name, for the claim. -/
theorem sspTakes_holds : Rows.SspTakesUptoSaid := sspTakes.proved
end Go.Proofs.Ytodkeoibebimgaa

/- The row of KeysEncode: at every call that the row speaks of, the law returns true. Out of the walk of its functions and the plain law. -/
import Derived.Test.YtodkeoibebimgaaRows
import Derived.Test.YtodkeoibebimgaaKa
import Derived.Test.YtodkeoibebimgaaSlR
import Derived.Test.YtodkeoibebimgaaKaPure
import Derived.WalkKit
import Derived.ProofKit
import Derived.OpenShut
import Derived.ShutString
import Derived.ChangeOld
import Derived.Below
import Derived.SizedLaws
namespace Go.Proofs.Ytodkeoibebimgaa.keysEncode
open Go.ChangeShapes Go.WideShapes Go.ChangeAt Go.RowKit Go.Proofs.Ytodkeoibebimgaa.SL Go.Proofs.Ytodkeoibebimgaa.Ka
open Go.ChangeMaps (open_string shut_string)
set_option linter.unusedVariables false
theorem own : ownKnob Try.prog.godebug = none := by kernel_rfl
theorem laidOut : laidOutB Try.prog = true := by kernel_rfl
def wf25 (x : S25) : Prop := (Lit.int .u8 x.f0).wf = true ∧ (x.f1.length * 1 ≤ 140737488351232 ∧ ∀ y_ ∈ x.f1, (Lit.int .u8 y_).wf = true) ∧ (Lit.int .i64 x.f2).wf = true ∧ (Lit.int .i64 x.f3).wf = true ∧ (Lit.int .u8 x.f4).wf = true
set_option maxRecDepth 100000 in
theorem opn25 {H : Type} {enc : TypeId × Value → H} {W : World} : Opn enc Try.prog W 25 k25 wf25 := fun held fuel cs d ps h hs => by
  obtain ⟨n, hl, hf⟩ := trod_field Try.underlying25 h hs
  rw [show Try.prog.cellsOf 25 = 5 from by kernel_rfl] at hl
  obtain ⟨c0, c1, c2, c3, c4, rfl⟩ : ∃ c0 c1 c2 c3 c4, cs = [c0, c1, c2, c3, c4] := by
    match cs, hl with
    | [c0, c1, c2, c3, c4], _ => exact ⟨c0, c1, c2, c3, c4, rfl⟩
  obtain ⟨d0, ps0, h0, s0⟩ : ∃ d' ps', DataW.trod enc Try.prog W 0 (fun _ => true) held n 22 ((([c0, c1, c2, c3, c4] : List Value).drop 0).take (Try.prog.cellsOf 22)) = some (d', ps') ∧ Sized Try.prog 22 d' := hf 0 _ rfl
  rw [show Try.prog.cellsOf 22 = 1 from by kernel_rfl] at h0
  obtain ⟨z0, e0, w0⟩ := (Opn.int Try.underlying22) _ _ _ _ _ h0 s0
  replace e0 : [c0] = [.int .u8 z0] := e0
  simp only [List.cons.injEq, and_true] at e0
  obtain ⟨d1, ps1, h1, s1⟩ : ∃ d' ps', DataW.trod enc Try.prog W 0 (fun _ => true) held n 23 ((([c0, c1, c2, c3, c4] : List Value).drop 1).take (Try.prog.cellsOf 23)) = some (d', ps') ∧ Sized Try.prog 23 d' := hf 1 _ rfl
  rw [show Try.prog.cellsOf 23 = 1 from by kernel_rfl] at h1
  obtain ⟨z1, ⟨bs1, ⟨A2001, c2002, e1, rfl⟩, p1⟩, w1⟩ := (Opn.sl (e := 5) (B := 1) Try.underlying23 (Opn.int Try.underlying5) (by kernel_rfl) (by decide) (by kernel_rfl)) _ _ _ _ _ h1 s1
  replace e1 : [c1] = [.slice A2001 z1.length c2002] := e1
  simp only [List.cons.injEq, and_true] at e1
  obtain ⟨d2, ps2, h2, s2⟩ : ∃ d' ps', DataW.trod enc Try.prog W 0 (fun _ => true) held n 3 ((([c0, c1, c2, c3, c4] : List Value).drop 2).take (Try.prog.cellsOf 3)) = some (d', ps') ∧ Sized Try.prog 3 d' := hf 2 _ rfl
  rw [show Try.prog.cellsOf 3 = 1 from by kernel_rfl] at h2
  obtain ⟨z2, e2, w2⟩ := (Opn.int Try.underlying3) _ _ _ _ _ h2 s2
  replace e2 : [c2] = [.int .i64 z2] := e2
  simp only [List.cons.injEq, and_true] at e2
  obtain ⟨d3, ps3, h3, s3⟩ : ∃ d' ps', DataW.trod enc Try.prog W 0 (fun _ => true) held n 3 ((([c0, c1, c2, c3, c4] : List Value).drop 3).take (Try.prog.cellsOf 3)) = some (d', ps') ∧ Sized Try.prog 3 d' := hf 3 _ rfl
  rw [show Try.prog.cellsOf 3 = 1 from by kernel_rfl] at h3
  obtain ⟨z3, e3, w3⟩ := (Opn.int Try.underlying3) _ _ _ _ _ h3 s3
  replace e3 : [c3] = [.int .i64 z3] := e3
  simp only [List.cons.injEq, and_true] at e3
  obtain ⟨d4, ps4, h4, s4⟩ : ∃ d' ps', DataW.trod enc Try.prog W 0 (fun _ => true) held n 5 ((([c0, c1, c2, c3, c4] : List Value).drop 4).take (Try.prog.cellsOf 5)) = some (d', ps') ∧ Sized Try.prog 5 d' := hf 4 _ rfl
  rw [show Try.prog.cellsOf 5 = 1 from by kernel_rfl] at h4
  obtain ⟨z4, e4, w4⟩ := (Opn.int Try.underlying5) _ _ _ _ _ h4 s4
  replace e4 : [c4] = [.int .u8 z4] := e4
  simp only [List.cons.injEq, and_true] at e4
  obtain rfl := e0
  obtain rfl := e1
  obtain rfl := e2
  obtain rfl := e3
  obtain rfl := e4
  exact ⟨⟨z0, z1, z2, z3, z4⟩, ⟨[Ro (Kd.int .u8) A2001 c2002 z1], ⟨A2001, c2002, rfl, rfl⟩, (PersL.cons rfl (p1 _ (by simp)).2 PersL.nil)⟩, ⟨w0, w1, w2, w3, w4⟩⟩
def wf27 (x : S27) : Prop := True ∧ True
set_option maxRecDepth 100000 in
theorem opn27 {H : Type} {enc : TypeId × Value → H} {W : World} : Opn enc Try.prog W 27 k27 wf27 := fun held fuel cs d ps h hs => by
  obtain ⟨n, hl, hf⟩ := trod_field Try.underlying27 h hs
  rw [show Try.prog.cellsOf 27 = 2 from by kernel_rfl] at hl
  obtain ⟨c0, c1, rfl⟩ : ∃ c0 c1, cs = [c0, c1] := by
    match cs, hl with
    | [c0, c1], _ => exact ⟨c0, c1, rfl⟩
  obtain ⟨d0, ps0, h0, s0⟩ : ∃ d' ps', DataW.trod enc Try.prog W 0 (fun _ => true) held n 4 ((([c0, c1] : List Value).drop 0).take (Try.prog.cellsOf 4)) = some (d', ps') ∧ Sized Try.prog 4 d' := hf 0 _ rfl
  rw [show Try.prog.cellsOf 4 = 1 from by kernel_rfl] at h0
  obtain ⟨z0, e0, w0⟩ := (Opn.bool Try.underlying4) _ _ _ _ _ h0 s0
  replace e0 : [c0] = [.bool z0] := e0
  simp only [List.cons.injEq, and_true] at e0
  obtain ⟨d1, ps1, h1, s1⟩ : ∃ d' ps', DataW.trod enc Try.prog W 0 (fun _ => true) held n 4 ((([c0, c1] : List Value).drop 1).take (Try.prog.cellsOf 4)) = some (d', ps') ∧ Sized Try.prog 4 d' := hf 1 _ rfl
  rw [show Try.prog.cellsOf 4 = 1 from by kernel_rfl] at h1
  obtain ⟨z1, e1, w1⟩ := (Opn.bool Try.underlying4) _ _ _ _ _ h1 s1
  replace e1 : [c1] = [.bool z1] := e1
  simp only [List.cons.injEq, and_true] at e1
  obtain rfl := e0
  obtain rfl := e1
  exact ⟨⟨z0, z1⟩, rfl, ⟨w0, w1⟩⟩
set_option maxRecDepth 100000 in
theorem lifted (os : Os) (started : os.Started) (H : Type) (enc : TypeId × Value → H) :
    ReturnsInHanded {} Try.checked os 3 .any (Rows.keysEncodeSpec.pre6 enc Try.prog Try.f3 Rows.keysEncodeRow.domain false) (Rows.keysEncodeSpec.post enc Try.prog Try.f3 false true false false) := by
  refine returnsInHanded_of_change_sized (C := Try.checked) own started (by kernel_rfl) Try.func3
    (ChangeSpec.witness6 (enc := enc) (C := Try.checked) false ⟨#[], #[.agg #[.int .u8 0, .slice none 0 0, .int .i64 0, .int .i64 0, .int .u8 0], .agg #[.bool false, .bool false], .slice none 0 0], []⟩ 8 (by kernel_rfl) (by kernel_rfl) (by kernel_rfl) (by kernel_rfl)) ?_
  intro W base args ds gs before hval0 hW hcnd hsz0 _
  have hsz : (DataW.weightsEach Try.prog (Try.f3.params.toList ++ Rows.keysEncodeSpec.plain.varTypes Try.prog) (ds ++ gs)).all (· ≤ reachBytes) = true := hsz0
  have hval : ∀ (j : Nat) t v, Try.f3.params[j]? = some t → args[j]? = some v → Value.okWide Try.prog W .any base t v := hval0
  have hW' := hW
  obtain ⟨p, q, hA0, hV, rfl, hfz, hnd⟩ := hW
  have hA : DataW.TrodAll enc Try.prog W 0 (fun _ => true) true Try.f3.params.toList args.toList ds p := hA0
  rw [Try.params3] at hA hval hsz
  obtain ⟨v0, vs0, d0, ds0, p0, q0, hargs, rfl, rfl, h0, r0⟩ := trodAll_cons hA
  obtain ⟨v1, vs1, d1, ds1, p1, q1, rfl, rfl, rfl, h1, r1⟩ := trodAll_cons r0
  obtain ⟨v2, vs2, d2, ds2, p2, q2, rfl, rfl, rfl, h2, r2⟩ := trodAll_cons r1
  obtain ⟨rfl, rfl, rfl⟩ := trodAll_nil r2
  obtain rfl : args = #[v0, v1, v2] := by cases args; simp_all
  obtain ⟨rfl, rfl⟩ := trodVars_none hV
  have k0 := h0
  have lt0 : ∀ x ∈ p0, x.block < W.heap.size := by obtain ⟨m, hm⟩ := k0; exact DataW.trod_lt m _ _ _ hm
  have s0 : Sized Try.prog 25 d0 := sized_arg hsz (j := 0) rfl rfl
  obtain ⟨cs0, rfl, _⟩ := okWide_struct Try.underlying25 (hval 0 25 v0 rfl rfl)
  obtain ⟨x0, ⟨bs0, ⟨A1001, c1002, e0, rfl⟩, p0_⟩, w0⟩ := open_p opn25 h0 s0
  obtain rfl : cs0 = #[.int .u8 x0.f0, .slice A1001 x0.f1.length c1002, .int .i64 x0.f2, .int .i64 x0.f3, .int .u8 x0.f4] := Array.ext' e0
  have k1 := h1
  have lt1 : ∀ x ∈ p1, x.block < W.heap.size := by obtain ⟨m, hm⟩ := k1; exact DataW.trod_lt m _ _ _ hm
  have s1 : Sized Try.prog 27 d1 := sized_arg hsz (j := 1) rfl rfl
  obtain ⟨cs1, rfl, _⟩ := okWide_struct Try.underlying27 (hval 1 27 v1 rfl rfl)
  obtain ⟨x1, e1, w1⟩ := open_p opn27 h1 s1
  obtain rfl : cs1 = #[.bool x1.f0, .bool x1.f1] := Array.ext' e1
  have k2 := h2
  have lt2 : ∀ x ∈ p2, x.block < W.heap.size := by obtain ⟨m, hm⟩ := k2; exact DataW.trod_lt m _ _ _ hm
  have s2 : Sized Try.prog 23 d2 := sized_arg hsz (j := 2) rfl rfl
  obtain ⟨B2, len2, cap2, rfl⟩ := okWide_slice Try.underlying23 (hval 2 23 v2 rfl rfl)
  obtain ⟨x2, ⟨bs2, ⟨A3001, c3002, e2, rfl⟩, p2_⟩, w2⟩ := open_p (Opn.sl (e := 5) (B := 1) Try.underlying23 (Opn.int Try.underlying5) (by kernel_rfl) (by decide) (by kernel_rfl)) h2 s2
  replace e2 : [Value.slice B2 len2 cap2] = [.slice A3001 x2.length c3002] := e2
  simp only [List.cons.injEq, Value.slice.injEq, and_true] at e2
  obtain ⟨rfl, rfl, rfl⟩ := e2
  clear hA0 hval0 hsz0 hsz
  obtain ⟨k, hk⟩ := Go.Proofs.Ytodkeoibebimgaa.KaPure.row x0 x1 x2 w0 w1 w2
  refine (row_calls (F3.ok hk) (sepP rfl (p0_ _ (by simp)).2 (sepP rfl (p2_ _ (by simp)).2 sep0))).mono fun e W' ⟨he, bel⟩ => ?_
  subst he
  exact ⟨_, rfl, _, _, _, [], _, [], hW', trodAll_mk1 (shut_bool Try.underlying4 _), (trodAll_cons_mk (Below.trod laidOut (by kernel_rfl) (of_decide_eq_true (by kernel_rfl)) k0 bel lt0) (trodAll_cons_mk (Below.trod laidOut (by kernel_rfl) (of_decide_eq_true (by kernel_rfl)) k1 bel lt1) (trodAll_cons_mk (Below.trod laidOut (by kernel_rfl) (of_decide_eq_true (by kernel_rfl)) k2 bel lt2) trodAll_mk0))), rfl, bel.frame _, fun h => by cases h⟩
theorem over : Rows.keysEncodeRow.holds Try.pinned (OpenSpec.ofChange Rows.keysEncodeSpec) :=
  OpenClaim.holds_of_wide 3 Try.f3 rfl rfl rfl rfl rfl rfl rfl ⟨rfl, rfl, rfl, rfl, rfl⟩ rfl rfl rfl rfl rfl (by kernel_rfl) Try.func3 (by kernel_rfl)
    (of_decide_eq_true (by kernel_rfl)) (by unfold Func.isWrapper; first | (rw [if_pos (by decide +kernel)]; kernel_rfl) | (rw [if_neg (by decide +kernel)]; exact ⟨rfl, rfl⟩))
    (fun os started H enc _ => lifted os started H enc)
theorem proved : Rows.KeysEncodeSaid := over
#print axioms proved
end Go.Proofs.Ytodkeoibebimgaa.keysEncode
namespace Go.Proofs.Ytodkeoibebimgaa
/-- The row, under a short name, for the claim. -/
theorem keysEncode_holds : Rows.KeysEncodeSaid := keysEncode.proved
end Go.Proofs.Ytodkeoibebimgaa

/- What data that come in are: their bounds, how they lie. -/
import Derived.Test.YtodkeoibebimgaaGr
import Derived.Test.YtodkeoibebimgaaSlF
namespace Go.Proofs.Ytodkeoibebimgaa.Gr
open Go Go.RowKit Go.Proofs.Ytodkeoibebimgaa.SL
set_option linter.unusedVariables false
set_option linter.unusedSimpArgs false
def wf74 (x : S74) : Prop := (Lit.int .i32 x.f0).wf = true ∧ (Lit.int .i32 x.f1).wf = true ∧ (Lit.int .i32 x.f2).wf = true
set_option maxRecDepth 100000 in
set_option maxHeartbeats 1000000 in
theorem opn74 {H : Type} {enc : TypeId × Value → H} {W : World} : Opn enc Try.prog W 74 k74 wf74 := fun held fuel cs d ps h hs => by
  obtain ⟨n, hl, hf⟩ := trod_item Try.underlying74 h hs
  rw [show Try.prog.cellsOf 74 = 3 from by kernel_rfl] at hl
  obtain ⟨c0, c1, c2, rfl⟩ : ∃ c0 c1 c2, cs = [c0, c1, c2] := by
    match cs, hl with
    | [c0, c1, c2], _ => exact ⟨c0, c1, c2, rfl⟩
  obtain ⟨d0, ps0, h0, s0⟩ : ∃ d' ps', DataW.trod enc Try.prog W 0 (fun _ => true) held n 21 ((([c0, c1, c2] : List Value).drop 0).take (Try.prog.cellsOf 21)) = some (d', ps') ∧ Sized Try.prog 21 d' := hf 0 (by decide)
  rw [show Try.prog.cellsOf 21 = 1 from by kernel_rfl] at h0
  obtain ⟨z0, e0, w0⟩ := (Opn.int Try.underlying21) _ _ _ _ _ h0 s0
  replace e0 : [c0] = [.int .i32 z0] := e0
  simp only [List.cons.injEq, and_true] at e0
  obtain ⟨d1, ps1, h1, s1⟩ : ∃ d' ps', DataW.trod enc Try.prog W 0 (fun _ => true) held n 21 ((([c0, c1, c2] : List Value).drop 1).take (Try.prog.cellsOf 21)) = some (d', ps') ∧ Sized Try.prog 21 d' := hf 1 (by decide)
  rw [show Try.prog.cellsOf 21 = 1 from by kernel_rfl] at h1
  obtain ⟨z1, e1, w1⟩ := (Opn.int Try.underlying21) _ _ _ _ _ h1 s1
  replace e1 : [c1] = [.int .i32 z1] := e1
  simp only [List.cons.injEq, and_true] at e1
  obtain ⟨d2, ps2, h2, s2⟩ : ∃ d' ps', DataW.trod enc Try.prog W 0 (fun _ => true) held n 21 ((([c0, c1, c2] : List Value).drop 2).take (Try.prog.cellsOf 21)) = some (d', ps') ∧ Sized Try.prog 21 d' := hf 2 (by decide)
  rw [show Try.prog.cellsOf 21 = 1 from by kernel_rfl] at h2
  obtain ⟨z2, e2, w2⟩ := (Opn.int Try.underlying21) _ _ _ _ _ h2 s2
  replace e2 : [c2] = [.int .i32 z2] := e2
  simp only [List.cons.injEq, and_true] at e2
  obtain rfl := e0
  obtain rfl := e1
  obtain rfl := e2
  exact ⟨⟨z0, z1, z2⟩, (by rfl), ⟨w0, w1, w2⟩⟩
def wf70 (x : S70) : Prop := (Lit.int .i64 x.f0).wf = true ∧ (Lit.int .i64 x.f1).wf = true ∧ True ∧ True ∧ True ∧ True ∧ True ∧ True ∧ True ∧ True
set_option maxRecDepth 100000 in
set_option maxHeartbeats 1000000 in
theorem opn70 {H : Type} {enc : TypeId × Value → H} {W : World} : Opn enc Try.prog W 70 k70 wf70 := fun held fuel cs d ps h hs => by
  obtain ⟨n, hl, hf⟩ := trod_field Try.underlying70 h hs
  rw [show Try.prog.cellsOf 70 = 10 from by kernel_rfl] at hl
  obtain ⟨c0, c1, c2, c3, c4, c5, c6, c7, c8, c9, rfl⟩ : ∃ c0 c1 c2 c3 c4 c5 c6 c7 c8 c9, cs = [c0, c1, c2, c3, c4, c5, c6, c7, c8, c9] := by
    match cs, hl with
    | [c0, c1, c2, c3, c4, c5, c6, c7, c8, c9], _ => exact ⟨c0, c1, c2, c3, c4, c5, c6, c7, c8, c9, rfl⟩
  obtain ⟨d0, ps0, h0, s0⟩ : ∃ d' ps', DataW.trod enc Try.prog W 0 (fun _ => true) held n 3 ((([c0, c1, c2, c3, c4, c5, c6, c7, c8, c9] : List Value).drop 0).take (Try.prog.cellsOf 3)) = some (d', ps') ∧ Sized Try.prog 3 d' := hf 0 _ rfl
  rw [show Try.prog.cellsOf 3 = 1 from by kernel_rfl] at h0
  obtain ⟨z0, e0, w0⟩ := (Opn.int Try.underlying3) _ _ _ _ _ h0 s0
  replace e0 : [c0] = [.int .i64 z0] := e0
  simp only [List.cons.injEq, and_true] at e0
  obtain ⟨d1, ps1, h1, s1⟩ : ∃ d' ps', DataW.trod enc Try.prog W 0 (fun _ => true) held n 3 ((([c0, c1, c2, c3, c4, c5, c6, c7, c8, c9] : List Value).drop 1).take (Try.prog.cellsOf 3)) = some (d', ps') ∧ Sized Try.prog 3 d' := hf 1 _ rfl
  rw [show Try.prog.cellsOf 3 = 1 from by kernel_rfl] at h1
  obtain ⟨z1, e1, w1⟩ := (Opn.int Try.underlying3) _ _ _ _ _ h1 s1
  replace e1 : [c1] = [.int .i64 z1] := e1
  simp only [List.cons.injEq, and_true] at e1
  obtain ⟨d2, ps2, h2, s2⟩ : ∃ d' ps', DataW.trod enc Try.prog W 0 (fun _ => true) held n 4 ((([c0, c1, c2, c3, c4, c5, c6, c7, c8, c9] : List Value).drop 2).take (Try.prog.cellsOf 4)) = some (d', ps') ∧ Sized Try.prog 4 d' := hf 2 _ rfl
  rw [show Try.prog.cellsOf 4 = 1 from by kernel_rfl] at h2
  obtain ⟨z2, e2, w2⟩ := (Opn.bool Try.underlying4) _ _ _ _ _ h2 s2
  replace e2 : [c2] = [.bool z2] := e2
  simp only [List.cons.injEq, and_true] at e2
  obtain ⟨d3, ps3, h3, s3⟩ : ∃ d' ps', DataW.trod enc Try.prog W 0 (fun _ => true) held n 4 ((([c0, c1, c2, c3, c4, c5, c6, c7, c8, c9] : List Value).drop 3).take (Try.prog.cellsOf 4)) = some (d', ps') ∧ Sized Try.prog 4 d' := hf 3 _ rfl
  rw [show Try.prog.cellsOf 4 = 1 from by kernel_rfl] at h3
  obtain ⟨z3, e3, w3⟩ := (Opn.bool Try.underlying4) _ _ _ _ _ h3 s3
  replace e3 : [c3] = [.bool z3] := e3
  simp only [List.cons.injEq, and_true] at e3
  obtain ⟨d4, ps4, h4, s4⟩ : ∃ d' ps', DataW.trod enc Try.prog W 0 (fun _ => true) held n 4 ((([c0, c1, c2, c3, c4, c5, c6, c7, c8, c9] : List Value).drop 4).take (Try.prog.cellsOf 4)) = some (d', ps') ∧ Sized Try.prog 4 d' := hf 4 _ rfl
  rw [show Try.prog.cellsOf 4 = 1 from by kernel_rfl] at h4
  obtain ⟨z4, e4, w4⟩ := (Opn.bool Try.underlying4) _ _ _ _ _ h4 s4
  replace e4 : [c4] = [.bool z4] := e4
  simp only [List.cons.injEq, and_true] at e4
  obtain ⟨d5, ps5, h5, s5⟩ : ∃ d' ps', DataW.trod enc Try.prog W 0 (fun _ => true) held n 4 ((([c0, c1, c2, c3, c4, c5, c6, c7, c8, c9] : List Value).drop 5).take (Try.prog.cellsOf 4)) = some (d', ps') ∧ Sized Try.prog 4 d' := hf 5 _ rfl
  rw [show Try.prog.cellsOf 4 = 1 from by kernel_rfl] at h5
  obtain ⟨z5, e5, w5⟩ := (Opn.bool Try.underlying4) _ _ _ _ _ h5 s5
  replace e5 : [c5] = [.bool z5] := e5
  simp only [List.cons.injEq, and_true] at e5
  obtain ⟨d6, ps6, h6, s6⟩ : ∃ d' ps', DataW.trod enc Try.prog W 0 (fun _ => true) held n 4 ((([c0, c1, c2, c3, c4, c5, c6, c7, c8, c9] : List Value).drop 6).take (Try.prog.cellsOf 4)) = some (d', ps') ∧ Sized Try.prog 4 d' := hf 6 _ rfl
  rw [show Try.prog.cellsOf 4 = 1 from by kernel_rfl] at h6
  obtain ⟨z6, e6, w6⟩ := (Opn.bool Try.underlying4) _ _ _ _ _ h6 s6
  replace e6 : [c6] = [.bool z6] := e6
  simp only [List.cons.injEq, and_true] at e6
  obtain ⟨d7, ps7, h7, s7⟩ : ∃ d' ps', DataW.trod enc Try.prog W 0 (fun _ => true) held n 4 ((([c0, c1, c2, c3, c4, c5, c6, c7, c8, c9] : List Value).drop 7).take (Try.prog.cellsOf 4)) = some (d', ps') ∧ Sized Try.prog 4 d' := hf 7 _ rfl
  rw [show Try.prog.cellsOf 4 = 1 from by kernel_rfl] at h7
  obtain ⟨z7, e7, w7⟩ := (Opn.bool Try.underlying4) _ _ _ _ _ h7 s7
  replace e7 : [c7] = [.bool z7] := e7
  simp only [List.cons.injEq, and_true] at e7
  obtain ⟨d8, ps8, h8, s8⟩ : ∃ d' ps', DataW.trod enc Try.prog W 0 (fun _ => true) held n 4 ((([c0, c1, c2, c3, c4, c5, c6, c7, c8, c9] : List Value).drop 8).take (Try.prog.cellsOf 4)) = some (d', ps') ∧ Sized Try.prog 4 d' := hf 8 _ rfl
  rw [show Try.prog.cellsOf 4 = 1 from by kernel_rfl] at h8
  obtain ⟨z8, e8, w8⟩ := (Opn.bool Try.underlying4) _ _ _ _ _ h8 s8
  replace e8 : [c8] = [.bool z8] := e8
  simp only [List.cons.injEq, and_true] at e8
  obtain ⟨d9, ps9, h9, s9⟩ : ∃ d' ps', DataW.trod enc Try.prog W 0 (fun _ => true) held n 4 ((([c0, c1, c2, c3, c4, c5, c6, c7, c8, c9] : List Value).drop 9).take (Try.prog.cellsOf 4)) = some (d', ps') ∧ Sized Try.prog 4 d' := hf 9 _ rfl
  rw [show Try.prog.cellsOf 4 = 1 from by kernel_rfl] at h9
  obtain ⟨z9, e9, w9⟩ := (Opn.bool Try.underlying4) _ _ _ _ _ h9 s9
  replace e9 : [c9] = [.bool z9] := e9
  simp only [List.cons.injEq, and_true] at e9
  obtain rfl := e0
  obtain rfl := e1
  obtain rfl := e2
  obtain rfl := e3
  obtain rfl := e4
  obtain rfl := e5
  obtain rfl := e6
  obtain rfl := e7
  obtain rfl := e8
  obtain rfl := e9
  exact ⟨⟨z0, z1, z2, z3, z4, z5, z6, z7, z8, z9⟩, (by rfl), ⟨w0, w1, w2, w3, w4, w5, w6, w7, w8, w9⟩⟩
def wf76 (x : S76) : Prop := (Lit.int .i32 x.f0).wf = true ∧ wf74 x.f1 ∧ (Lit.int .u8 x.f2).wf = true ∧ wf70 x.f3
set_option maxRecDepth 100000 in
set_option maxHeartbeats 1000000 in
theorem opn76 {H : Type} {enc : TypeId × Value → H} {W : World} : Opn enc Try.prog W 76 k76 wf76 := fun held fuel cs d ps h hs => by
  obtain ⟨n, hl, hf⟩ := trod_field Try.underlying76 h hs
  rw [show Try.prog.cellsOf 76 = 15 from by kernel_rfl] at hl
  obtain ⟨c0, c1, c2, c3, c4, c5, c6, c7, c8, c9, c10, c11, c12, c13, c14, rfl⟩ : ∃ c0 c1 c2 c3 c4 c5 c6 c7 c8 c9 c10 c11 c12 c13 c14, cs = (c0 :: c1 :: c2 :: c3 :: c4 :: c5 :: c6 :: c7 :: c8 :: c9 :: c10 :: c11 :: c12 :: c13 :: c14 :: []) := by
    match cs, hl with
    | c0 :: c1 :: c2 :: c3 :: c4 :: c5 :: c6 :: c7 :: c8 :: c9 :: c10 :: c11 :: c12 :: c13 :: c14 :: [], _ => exact ⟨c0, c1, c2, c3, c4, c5, c6, c7, c8, c9, c10, c11, c12, c13, c14, rfl⟩
  obtain ⟨d0, ps0, h0, s0⟩ : ∃ d' ps', DataW.trod enc Try.prog W 0 (fun _ => true) held n 21 ((((c0 :: c1 :: c2 :: c3 :: c4 :: c5 :: c6 :: c7 :: c8 :: c9 :: c10 :: c11 :: c12 :: c13 :: c14 :: []) : List Value).drop 0).take (Try.prog.cellsOf 21)) = some (d', ps') ∧ Sized Try.prog 21 d' := hf 0 _ rfl
  rw [show Try.prog.cellsOf 21 = 1 from by kernel_rfl] at h0
  obtain ⟨z0, e0, w0⟩ := (Opn.int Try.underlying21) _ _ _ _ _ h0 s0
  replace e0 : [c0] = [.int .i32 z0] := e0
  simp only [List.cons.injEq, and_true] at e0
  obtain ⟨d1, ps1, h1, s1⟩ : ∃ d' ps', DataW.trod enc Try.prog W 0 (fun _ => true) held n 74 ((((c0 :: c1 :: c2 :: c3 :: c4 :: c5 :: c6 :: c7 :: c8 :: c9 :: c10 :: c11 :: c12 :: c13 :: c14 :: []) : List Value).drop 1).take (Try.prog.cellsOf 74)) = some (d', ps') ∧ Sized Try.prog 74 d' := hf 1 _ rfl
  rw [show Try.prog.cellsOf 74 = 3 from by kernel_rfl] at h1
  obtain ⟨z1, e1, w1⟩ := opn74 _ _ _ _ _ h1 s1
  replace e1 : [c1, c2, c3] = [.int .i32 z1.f0, .int .i32 z1.f1, .int .i32 z1.f2] := e1
  simp only [List.cons.injEq, and_true] at e1
  obtain ⟨d2, ps2, h2, s2⟩ : ∃ d' ps', DataW.trod enc Try.prog W 0 (fun _ => true) held n 5 ((((c0 :: c1 :: c2 :: c3 :: c4 :: c5 :: c6 :: c7 :: c8 :: c9 :: c10 :: c11 :: c12 :: c13 :: c14 :: []) : List Value).drop 4).take (Try.prog.cellsOf 5)) = some (d', ps') ∧ Sized Try.prog 5 d' := hf 2 _ rfl
  rw [show Try.prog.cellsOf 5 = 1 from by kernel_rfl] at h2
  obtain ⟨z2, e2, w2⟩ := (Opn.int Try.underlying5) _ _ _ _ _ h2 s2
  replace e2 : [c4] = [.int .u8 z2] := e2
  simp only [List.cons.injEq, and_true] at e2
  obtain ⟨d3, ps3, h3, s3⟩ : ∃ d' ps', DataW.trod enc Try.prog W 0 (fun _ => true) held n 70 ((((c0 :: c1 :: c2 :: c3 :: c4 :: c5 :: c6 :: c7 :: c8 :: c9 :: c10 :: c11 :: c12 :: c13 :: c14 :: []) : List Value).drop 5).take (Try.prog.cellsOf 70)) = some (d', ps') ∧ Sized Try.prog 70 d' := hf 3 _ rfl
  rw [show Try.prog.cellsOf 70 = 10 from by kernel_rfl] at h3
  obtain ⟨z3, e3, w3⟩ := opn70 _ _ _ _ _ h3 s3
  replace e3 : [c5, c6, c7, c8, c9, c10, c11, c12, c13, c14] = [.int .i64 z3.f0, .int .i64 z3.f1, .bool z3.f2, .bool z3.f3, .bool z3.f4, .bool z3.f5, .bool z3.f6, .bool z3.f7, .bool z3.f8, .bool z3.f9] := e3
  simp only [List.cons.injEq, and_true] at e3
  obtain rfl := e0
  obtain ⟨rfl, rfl, rfl⟩ := e1
  obtain rfl := e2
  obtain ⟨rfl, rfl, rfl, rfl, rfl, rfl, rfl, rfl, rfl, rfl⟩ := e3
  exact ⟨⟨z0, z1, z2, z3⟩, (by rfl), ⟨w0, w1, w2, w3⟩⟩
def wf67 (x : S67) : Prop := (Lit.int .i64 x.f0).wf = true ∧ (Lit.int .i64 x.f1).wf = true ∧ (x.f2.length * 48 ≤ 140737488351232 ∧ ∀ y_ ∈ x.f2, wf76 y_)
set_option maxRecDepth 100000 in
set_option maxHeartbeats 1000000 in
theorem opn67 {H : Type} {enc : TypeId × Value → H} {W : World} : Opn enc Try.prog W 67 k67 wf67 := fun held fuel cs d ps h hs => by
  obtain ⟨n, hl, hf⟩ := trod_field Try.underlying67 h hs
  rw [show Try.prog.cellsOf 67 = 3 from by kernel_rfl] at hl
  obtain ⟨c0, c1, c2, rfl⟩ : ∃ c0 c1 c2, cs = [c0, c1, c2] := by
    match cs, hl with
    | [c0, c1, c2], _ => exact ⟨c0, c1, c2, rfl⟩
  obtain ⟨d0, ps0, h0, s0⟩ : ∃ d' ps', DataW.trod enc Try.prog W 0 (fun _ => true) held n 3 ((([c0, c1, c2] : List Value).drop 0).take (Try.prog.cellsOf 3)) = some (d', ps') ∧ Sized Try.prog 3 d' := hf 0 _ rfl
  rw [show Try.prog.cellsOf 3 = 1 from by kernel_rfl] at h0
  obtain ⟨z0, e0, w0⟩ := (Opn.int Try.underlying3) _ _ _ _ _ h0 s0
  replace e0 : [c0] = [.int .i64 z0] := e0
  simp only [List.cons.injEq, and_true] at e0
  obtain ⟨d1, ps1, h1, s1⟩ : ∃ d' ps', DataW.trod enc Try.prog W 0 (fun _ => true) held n 3 ((([c0, c1, c2] : List Value).drop 1).take (Try.prog.cellsOf 3)) = some (d', ps') ∧ Sized Try.prog 3 d' := hf 1 _ rfl
  rw [show Try.prog.cellsOf 3 = 1 from by kernel_rfl] at h1
  obtain ⟨z1, e1, w1⟩ := (Opn.int Try.underlying3) _ _ _ _ _ h1 s1
  replace e1 : [c1] = [.int .i64 z1] := e1
  simp only [List.cons.injEq, and_true] at e1
  obtain ⟨d2, ps2, h2, s2⟩ : ∃ d' ps', DataW.trod enc Try.prog W 0 (fun _ => true) held n 65 ((([c0, c1, c2] : List Value).drop 2).take (Try.prog.cellsOf 65)) = some (d', ps') ∧ Sized Try.prog 65 d' := hf 2 _ rfl
  rw [show Try.prog.cellsOf 65 = 1 from by kernel_rfl] at h2
  obtain ⟨z2, ⟨bs2, ⟨A3001, c3002, e2, rfl⟩, p2⟩, w2⟩ := (Opn.sl (e := 76) (B := 48) Try.underlying65 opn76 (by kernel_rfl) (by decide) (by kernel_rfl)) _ _ _ _ _ h2 s2
  replace e2 : [c2] = [.slice A3001 z2.length c3002] := e2
  simp only [List.cons.injEq, and_true] at e2
  obtain rfl := e0
  obtain rfl := e1
  obtain rfl := e2
  exact ⟨⟨z0, z1, z2⟩, ⟨[Ro k76 A3001 c3002 z2], ⟨A3001, c3002, rfl, rfl⟩, (PersL.cons rfl (p2 _ (by simp)).2 PersL.nil)⟩, ⟨w0, w1, w2⟩⟩
def wf90 (x : S90) : Prop := (Lit.int .i64 x.f0).wf = true ∧ (Lit.int .i64 x.f1).wf = true ∧ (Lit.int .i64 x.f2).wf = true ∧ (Lit.int .i64 x.f3).wf = true ∧ wf70 x.f4 ∧ (x.f5.length * 48 ≤ 140737488351232 ∧ ∀ y_ ∈ x.f5, wf76 y_)
set_option maxRecDepth 100000 in
set_option maxHeartbeats 1000000 in
theorem opn90 {H : Type} {enc : TypeId × Value → H} {W : World} : Opn enc Try.prog W 90 k90 wf90 := fun held fuel cs d ps h hs => by
  obtain ⟨n, hl, hf⟩ := trod_field Try.underlying90 h hs
  rw [show Try.prog.cellsOf 90 = 15 from by kernel_rfl] at hl
  obtain ⟨c0, c1, c2, c3, c4, c5, c6, c7, c8, c9, c10, c11, c12, c13, c14, rfl⟩ : ∃ c0 c1 c2 c3 c4 c5 c6 c7 c8 c9 c10 c11 c12 c13 c14, cs = (c0 :: c1 :: c2 :: c3 :: c4 :: c5 :: c6 :: c7 :: c8 :: c9 :: c10 :: c11 :: c12 :: c13 :: c14 :: []) := by
    match cs, hl with
    | c0 :: c1 :: c2 :: c3 :: c4 :: c5 :: c6 :: c7 :: c8 :: c9 :: c10 :: c11 :: c12 :: c13 :: c14 :: [], _ => exact ⟨c0, c1, c2, c3, c4, c5, c6, c7, c8, c9, c10, c11, c12, c13, c14, rfl⟩
  obtain ⟨d0, ps0, h0, s0⟩ : ∃ d' ps', DataW.trod enc Try.prog W 0 (fun _ => true) held n 3 ((((c0 :: c1 :: c2 :: c3 :: c4 :: c5 :: c6 :: c7 :: c8 :: c9 :: c10 :: c11 :: c12 :: c13 :: c14 :: []) : List Value).drop 0).take (Try.prog.cellsOf 3)) = some (d', ps') ∧ Sized Try.prog 3 d' := hf 0 _ rfl
  rw [show Try.prog.cellsOf 3 = 1 from by kernel_rfl] at h0
  obtain ⟨z0, e0, w0⟩ := (Opn.int Try.underlying3) _ _ _ _ _ h0 s0
  replace e0 : [c0] = [.int .i64 z0] := e0
  simp only [List.cons.injEq, and_true] at e0
  obtain ⟨d1, ps1, h1, s1⟩ : ∃ d' ps', DataW.trod enc Try.prog W 0 (fun _ => true) held n 3 ((((c0 :: c1 :: c2 :: c3 :: c4 :: c5 :: c6 :: c7 :: c8 :: c9 :: c10 :: c11 :: c12 :: c13 :: c14 :: []) : List Value).drop 1).take (Try.prog.cellsOf 3)) = some (d', ps') ∧ Sized Try.prog 3 d' := hf 1 _ rfl
  rw [show Try.prog.cellsOf 3 = 1 from by kernel_rfl] at h1
  obtain ⟨z1, e1, w1⟩ := (Opn.int Try.underlying3) _ _ _ _ _ h1 s1
  replace e1 : [c1] = [.int .i64 z1] := e1
  simp only [List.cons.injEq, and_true] at e1
  obtain ⟨d2, ps2, h2, s2⟩ : ∃ d' ps', DataW.trod enc Try.prog W 0 (fun _ => true) held n 3 ((((c0 :: c1 :: c2 :: c3 :: c4 :: c5 :: c6 :: c7 :: c8 :: c9 :: c10 :: c11 :: c12 :: c13 :: c14 :: []) : List Value).drop 2).take (Try.prog.cellsOf 3)) = some (d', ps') ∧ Sized Try.prog 3 d' := hf 2 _ rfl
  rw [show Try.prog.cellsOf 3 = 1 from by kernel_rfl] at h2
  obtain ⟨z2, e2, w2⟩ := (Opn.int Try.underlying3) _ _ _ _ _ h2 s2
  replace e2 : [c2] = [.int .i64 z2] := e2
  simp only [List.cons.injEq, and_true] at e2
  obtain ⟨d3, ps3, h3, s3⟩ : ∃ d' ps', DataW.trod enc Try.prog W 0 (fun _ => true) held n 3 ((((c0 :: c1 :: c2 :: c3 :: c4 :: c5 :: c6 :: c7 :: c8 :: c9 :: c10 :: c11 :: c12 :: c13 :: c14 :: []) : List Value).drop 3).take (Try.prog.cellsOf 3)) = some (d', ps') ∧ Sized Try.prog 3 d' := hf 3 _ rfl
  rw [show Try.prog.cellsOf 3 = 1 from by kernel_rfl] at h3
  obtain ⟨z3, e3, w3⟩ := (Opn.int Try.underlying3) _ _ _ _ _ h3 s3
  replace e3 : [c3] = [.int .i64 z3] := e3
  simp only [List.cons.injEq, and_true] at e3
  obtain ⟨d4, ps4, h4, s4⟩ : ∃ d' ps', DataW.trod enc Try.prog W 0 (fun _ => true) held n 70 ((((c0 :: c1 :: c2 :: c3 :: c4 :: c5 :: c6 :: c7 :: c8 :: c9 :: c10 :: c11 :: c12 :: c13 :: c14 :: []) : List Value).drop 4).take (Try.prog.cellsOf 70)) = some (d', ps') ∧ Sized Try.prog 70 d' := hf 4 _ rfl
  rw [show Try.prog.cellsOf 70 = 10 from by kernel_rfl] at h4
  obtain ⟨z4, e4, w4⟩ := opn70 _ _ _ _ _ h4 s4
  replace e4 : [c4, c5, c6, c7, c8, c9, c10, c11, c12, c13] = [.int .i64 z4.f0, .int .i64 z4.f1, .bool z4.f2, .bool z4.f3, .bool z4.f4, .bool z4.f5, .bool z4.f6, .bool z4.f7, .bool z4.f8, .bool z4.f9] := e4
  simp only [List.cons.injEq, and_true] at e4
  obtain ⟨d5, ps5, h5, s5⟩ : ∃ d' ps', DataW.trod enc Try.prog W 0 (fun _ => true) held n 65 ((((c0 :: c1 :: c2 :: c3 :: c4 :: c5 :: c6 :: c7 :: c8 :: c9 :: c10 :: c11 :: c12 :: c13 :: c14 :: []) : List Value).drop 14).take (Try.prog.cellsOf 65)) = some (d', ps') ∧ Sized Try.prog 65 d' := hf 5 _ rfl
  rw [show Try.prog.cellsOf 65 = 1 from by kernel_rfl] at h5
  obtain ⟨z5, ⟨bs5, ⟨A6001, c6002, e5, rfl⟩, p5⟩, w5⟩ := (Opn.sl (e := 76) (B := 48) Try.underlying65 opn76 (by kernel_rfl) (by decide) (by kernel_rfl)) _ _ _ _ _ h5 s5
  replace e5 : [c14] = [.slice A6001 z5.length c6002] := e5
  simp only [List.cons.injEq, and_true] at e5
  obtain rfl := e0
  obtain rfl := e1
  obtain rfl := e2
  obtain rfl := e3
  obtain ⟨rfl, rfl, rfl, rfl, rfl, rfl, rfl, rfl, rfl, rfl⟩ := e4
  obtain rfl := e5
  exact ⟨⟨z0, z1, z2, z3, z4, z5⟩, ⟨[Ro k76 A6001 c6002 z5], ⟨A6001, c6002, rfl, rfl⟩, (PersL.cons rfl (p5 _ (by simp)).2 PersL.nil)⟩, ⟨w0, w1, w2, w3, w4, w5⟩⟩
end Go.Proofs.Ytodkeoibebimgaa.Gr

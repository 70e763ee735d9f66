/- What data that come in are: their bounds, how they lie. -/
import Derived.Test.YtckilbegmbaeeaaGreatZ5
import Derived.Test.YtckilbegmbaeeaaGreatZ5S1
namespace Go.Proofs.YtckilbegmbaeeaaGreat.Z5
open Go Go.RowKit Go.Proofs.YtckilbegmbaeeaaGreat.SL
set_option linter.unusedVariables false
set_option linter.unusedSimpArgs false
def wf53 (x : S53) : Prop := (Lit.int .i32 x.f0).wf = true ∧ (Lit.int .i32 x.f1).wf = true ∧ (Lit.int .i32 x.f2).wf = true
set_option maxRecDepth 100000 in
set_option maxHeartbeats 1000000 in
theorem opn53 {H : Type} {enc : TypeId × Value → H} {W : World} : Opn enc Tryz.prog W 53 k53 wf53 := fun held fuel cs d ps h hs => by
  obtain ⟨n, hl, hf⟩ := trod_item Tryz.underlying53 h hs
  rw [show Tryz.prog.cellsOf 53 = 3 from by kernel_rfl] at hl
  obtain ⟨c0, c1, c2, rfl⟩ : ∃ c0 c1 c2, cs = [c0, c1, c2] := by
    match cs, hl with
    | [c0, c1, c2], _ => exact ⟨c0, c1, c2, rfl⟩
  obtain ⟨d0, ps0, h0, s0⟩ : ∃ d' ps', DataW.trod enc Tryz.prog W 0 (fun _ => true) held n 21 ((([c0, c1, c2] : List Value).drop 0).take (Tryz.prog.cellsOf 21)) = some (d', ps') ∧ Sized Tryz.prog 21 d' := hf 0 (by decide)
  rw [show Tryz.prog.cellsOf 21 = 1 from by kernel_rfl] at h0
  obtain ⟨z0, e0, w0⟩ := (Opn.int Tryz.underlying21) _ _ _ _ _ h0 s0
  replace e0 : [c0] = [.int .i32 z0] := e0
  simp only [List.cons.injEq, and_true] at e0
  obtain ⟨d1, ps1, h1, s1⟩ : ∃ d' ps', DataW.trod enc Tryz.prog W 0 (fun _ => true) held n 21 ((([c0, c1, c2] : List Value).drop 1).take (Tryz.prog.cellsOf 21)) = some (d', ps') ∧ Sized Tryz.prog 21 d' := hf 1 (by decide)
  rw [show Tryz.prog.cellsOf 21 = 1 from by kernel_rfl] at h1
  obtain ⟨z1, e1, w1⟩ := (Opn.int Tryz.underlying21) _ _ _ _ _ h1 s1
  replace e1 : [c1] = [.int .i32 z1] := e1
  simp only [List.cons.injEq, and_true] at e1
  obtain ⟨d2, ps2, h2, s2⟩ : ∃ d' ps', DataW.trod enc Tryz.prog W 0 (fun _ => true) held n 21 ((([c0, c1, c2] : List Value).drop 2).take (Tryz.prog.cellsOf 21)) = some (d', ps') ∧ Sized Tryz.prog 21 d' := hf 2 (by decide)
  rw [show Tryz.prog.cellsOf 21 = 1 from by kernel_rfl] at h2
  obtain ⟨z2, e2, w2⟩ := (Opn.int Tryz.underlying21) _ _ _ _ _ h2 s2
  replace e2 : [c2] = [.int .i32 z2] := e2
  simp only [List.cons.injEq, and_true] at e2
  obtain rfl := e0
  obtain rfl := e1
  obtain rfl := e2
  exact ⟨⟨z0, z1, z2⟩, (by rfl), ⟨w0, w1, w2⟩⟩
def wf28 (x : S28) : Prop := (Lit.int .i64 x.f0).wf = true ∧ (Lit.int .i64 x.f1).wf = true ∧ True ∧ True ∧ True ∧ True ∧ True ∧ True ∧ True ∧ True
set_option maxRecDepth 100000 in
set_option maxHeartbeats 1000000 in
theorem opn28 {H : Type} {enc : TypeId × Value → H} {W : World} : Opn enc Tryz.prog W 28 k28 wf28 := fun held fuel cs d ps h hs => by
  obtain ⟨n, hl, hf⟩ := trod_field Tryz.underlying28 h hs
  rw [show Tryz.prog.cellsOf 28 = 10 from by kernel_rfl] at hl
  obtain ⟨c0, c1, c2, c3, c4, c5, c6, c7, c8, c9, rfl⟩ : ∃ c0 c1 c2 c3 c4 c5 c6 c7 c8 c9, cs = [c0, c1, c2, c3, c4, c5, c6, c7, c8, c9] := by
    match cs, hl with
    | [c0, c1, c2, c3, c4, c5, c6, c7, c8, c9], _ => exact ⟨c0, c1, c2, c3, c4, c5, c6, c7, c8, c9, rfl⟩
  obtain ⟨d0, ps0, h0, s0⟩ : ∃ d' ps', DataW.trod enc Tryz.prog W 0 (fun _ => true) held n 3 ((([c0, c1, c2, c3, c4, c5, c6, c7, c8, c9] : List Value).drop 0).take (Tryz.prog.cellsOf 3)) = some (d', ps') ∧ Sized Tryz.prog 3 d' := hf 0 _ rfl
  rw [show Tryz.prog.cellsOf 3 = 1 from by kernel_rfl] at h0
  obtain ⟨z0, e0, w0⟩ := (Opn.int Tryz.underlying3) _ _ _ _ _ h0 s0
  replace e0 : [c0] = [.int .i64 z0] := e0
  simp only [List.cons.injEq, and_true] at e0
  obtain ⟨d1, ps1, h1, s1⟩ : ∃ d' ps', DataW.trod enc Tryz.prog W 0 (fun _ => true) held n 3 ((([c0, c1, c2, c3, c4, c5, c6, c7, c8, c9] : List Value).drop 1).take (Tryz.prog.cellsOf 3)) = some (d', ps') ∧ Sized Tryz.prog 3 d' := hf 1 _ rfl
  rw [show Tryz.prog.cellsOf 3 = 1 from by kernel_rfl] at h1
  obtain ⟨z1, e1, w1⟩ := (Opn.int Tryz.underlying3) _ _ _ _ _ h1 s1
  replace e1 : [c1] = [.int .i64 z1] := e1
  simp only [List.cons.injEq, and_true] at e1
  obtain ⟨d2, ps2, h2, s2⟩ : ∃ d' ps', DataW.trod enc Tryz.prog W 0 (fun _ => true) held n 4 ((([c0, c1, c2, c3, c4, c5, c6, c7, c8, c9] : List Value).drop 2).take (Tryz.prog.cellsOf 4)) = some (d', ps') ∧ Sized Tryz.prog 4 d' := hf 2 _ rfl
  rw [show Tryz.prog.cellsOf 4 = 1 from by kernel_rfl] at h2
  obtain ⟨z2, e2, w2⟩ := (Opn.bool Tryz.underlying4) _ _ _ _ _ h2 s2
  replace e2 : [c2] = [.bool z2] := e2
  simp only [List.cons.injEq, and_true] at e2
  obtain ⟨d3, ps3, h3, s3⟩ : ∃ d' ps', DataW.trod enc Tryz.prog W 0 (fun _ => true) held n 4 ((([c0, c1, c2, c3, c4, c5, c6, c7, c8, c9] : List Value).drop 3).take (Tryz.prog.cellsOf 4)) = some (d', ps') ∧ Sized Tryz.prog 4 d' := hf 3 _ rfl
  rw [show Tryz.prog.cellsOf 4 = 1 from by kernel_rfl] at h3
  obtain ⟨z3, e3, w3⟩ := (Opn.bool Tryz.underlying4) _ _ _ _ _ h3 s3
  replace e3 : [c3] = [.bool z3] := e3
  simp only [List.cons.injEq, and_true] at e3
  obtain ⟨d4, ps4, h4, s4⟩ : ∃ d' ps', DataW.trod enc Tryz.prog W 0 (fun _ => true) held n 4 ((([c0, c1, c2, c3, c4, c5, c6, c7, c8, c9] : List Value).drop 4).take (Tryz.prog.cellsOf 4)) = some (d', ps') ∧ Sized Tryz.prog 4 d' := hf 4 _ rfl
  rw [show Tryz.prog.cellsOf 4 = 1 from by kernel_rfl] at h4
  obtain ⟨z4, e4, w4⟩ := (Opn.bool Tryz.underlying4) _ _ _ _ _ h4 s4
  replace e4 : [c4] = [.bool z4] := e4
  simp only [List.cons.injEq, and_true] at e4
  obtain ⟨d5, ps5, h5, s5⟩ : ∃ d' ps', DataW.trod enc Tryz.prog W 0 (fun _ => true) held n 4 ((([c0, c1, c2, c3, c4, c5, c6, c7, c8, c9] : List Value).drop 5).take (Tryz.prog.cellsOf 4)) = some (d', ps') ∧ Sized Tryz.prog 4 d' := hf 5 _ rfl
  rw [show Tryz.prog.cellsOf 4 = 1 from by kernel_rfl] at h5
  obtain ⟨z5, e5, w5⟩ := (Opn.bool Tryz.underlying4) _ _ _ _ _ h5 s5
  replace e5 : [c5] = [.bool z5] := e5
  simp only [List.cons.injEq, and_true] at e5
  obtain ⟨d6, ps6, h6, s6⟩ : ∃ d' ps', DataW.trod enc Tryz.prog W 0 (fun _ => true) held n 4 ((([c0, c1, c2, c3, c4, c5, c6, c7, c8, c9] : List Value).drop 6).take (Tryz.prog.cellsOf 4)) = some (d', ps') ∧ Sized Tryz.prog 4 d' := hf 6 _ rfl
  rw [show Tryz.prog.cellsOf 4 = 1 from by kernel_rfl] at h6
  obtain ⟨z6, e6, w6⟩ := (Opn.bool Tryz.underlying4) _ _ _ _ _ h6 s6
  replace e6 : [c6] = [.bool z6] := e6
  simp only [List.cons.injEq, and_true] at e6
  obtain ⟨d7, ps7, h7, s7⟩ : ∃ d' ps', DataW.trod enc Tryz.prog W 0 (fun _ => true) held n 4 ((([c0, c1, c2, c3, c4, c5, c6, c7, c8, c9] : List Value).drop 7).take (Tryz.prog.cellsOf 4)) = some (d', ps') ∧ Sized Tryz.prog 4 d' := hf 7 _ rfl
  rw [show Tryz.prog.cellsOf 4 = 1 from by kernel_rfl] at h7
  obtain ⟨z7, e7, w7⟩ := (Opn.bool Tryz.underlying4) _ _ _ _ _ h7 s7
  replace e7 : [c7] = [.bool z7] := e7
  simp only [List.cons.injEq, and_true] at e7
  obtain ⟨d8, ps8, h8, s8⟩ : ∃ d' ps', DataW.trod enc Tryz.prog W 0 (fun _ => true) held n 4 ((([c0, c1, c2, c3, c4, c5, c6, c7, c8, c9] : List Value).drop 8).take (Tryz.prog.cellsOf 4)) = some (d', ps') ∧ Sized Tryz.prog 4 d' := hf 8 _ rfl
  rw [show Tryz.prog.cellsOf 4 = 1 from by kernel_rfl] at h8
  obtain ⟨z8, e8, w8⟩ := (Opn.bool Tryz.underlying4) _ _ _ _ _ h8 s8
  replace e8 : [c8] = [.bool z8] := e8
  simp only [List.cons.injEq, and_true] at e8
  obtain ⟨d9, ps9, h9, s9⟩ : ∃ d' ps', DataW.trod enc Tryz.prog W 0 (fun _ => true) held n 4 ((([c0, c1, c2, c3, c4, c5, c6, c7, c8, c9] : List Value).drop 9).take (Tryz.prog.cellsOf 4)) = some (d', ps') ∧ Sized Tryz.prog 4 d' := hf 9 _ rfl
  rw [show Tryz.prog.cellsOf 4 = 1 from by kernel_rfl] at h9
  obtain ⟨z9, e9, w9⟩ := (Opn.bool Tryz.underlying4) _ _ _ _ _ h9 s9
  replace e9 : [c9] = [.bool z9] := e9
  simp only [List.cons.injEq, and_true] at e9
  obtain rfl := e0
  obtain rfl := e1
  obtain rfl := e2
  obtain rfl := e3
  obtain rfl := e4
  obtain rfl := e5
  obtain rfl := e6
  obtain rfl := e7
  obtain rfl := e8
  obtain rfl := e9
  exact ⟨⟨z0, z1, z2, z3, z4, z5, z6, z7, z8, z9⟩, (by rfl), ⟨w0, w1, w2, w3, w4, w5, w6, w7, w8, w9⟩⟩
def wf55 (x : S55) : Prop := (Lit.int .i32 x.f0).wf = true ∧ wf53 x.f1 ∧ (Lit.int .u8 x.f2).wf = true ∧ wf28 x.f3
set_option maxRecDepth 100000 in
set_option maxHeartbeats 1000000 in
theorem opn55 {H : Type} {enc : TypeId × Value → H} {W : World} : Opn enc Tryz.prog W 55 k55 wf55 := fun held fuel cs d ps h hs => by
  obtain ⟨n, hl, hf⟩ := trod_field Tryz.underlying55 h hs
  rw [show Tryz.prog.cellsOf 55 = 15 from by kernel_rfl] at hl
  obtain ⟨c0, c1, c2, c3, c4, c5, c6, c7, c8, c9, c10, c11, c12, c13, c14, rfl⟩ : ∃ c0 c1 c2 c3 c4 c5 c6 c7 c8 c9 c10 c11 c12 c13 c14, cs = (c0 :: c1 :: c2 :: c3 :: c4 :: c5 :: c6 :: c7 :: c8 :: c9 :: c10 :: c11 :: c12 :: c13 :: c14 :: []) := by
    match cs, hl with
    | c0 :: c1 :: c2 :: c3 :: c4 :: c5 :: c6 :: c7 :: c8 :: c9 :: c10 :: c11 :: c12 :: c13 :: c14 :: [], _ => exact ⟨c0, c1, c2, c3, c4, c5, c6, c7, c8, c9, c10, c11, c12, c13, c14, rfl⟩
  obtain ⟨d0, ps0, h0, s0⟩ : ∃ d' ps', DataW.trod enc Tryz.prog W 0 (fun _ => true) held n 21 ((((c0 :: c1 :: c2 :: c3 :: c4 :: c5 :: c6 :: c7 :: c8 :: c9 :: c10 :: c11 :: c12 :: c13 :: c14 :: []) : List Value).drop 0).take (Tryz.prog.cellsOf 21)) = some (d', ps') ∧ Sized Tryz.prog 21 d' := hf 0 _ rfl
  rw [show Tryz.prog.cellsOf 21 = 1 from by kernel_rfl] at h0
  obtain ⟨z0, e0, w0⟩ := (Opn.int Tryz.underlying21) _ _ _ _ _ h0 s0
  replace e0 : [c0] = [.int .i32 z0] := e0
  simp only [List.cons.injEq, and_true] at e0
  obtain ⟨d1, ps1, h1, s1⟩ : ∃ d' ps', DataW.trod enc Tryz.prog W 0 (fun _ => true) held n 53 ((((c0 :: c1 :: c2 :: c3 :: c4 :: c5 :: c6 :: c7 :: c8 :: c9 :: c10 :: c11 :: c12 :: c13 :: c14 :: []) : List Value).drop 1).take (Tryz.prog.cellsOf 53)) = some (d', ps') ∧ Sized Tryz.prog 53 d' := hf 1 _ rfl
  rw [show Tryz.prog.cellsOf 53 = 3 from by kernel_rfl] at h1
  obtain ⟨z1, e1, w1⟩ := opn53 _ _ _ _ _ h1 s1
  replace e1 : [c1, c2, c3] = [.int .i32 z1.f0, .int .i32 z1.f1, .int .i32 z1.f2] := e1
  simp only [List.cons.injEq, and_true] at e1
  obtain ⟨d2, ps2, h2, s2⟩ : ∃ d' ps', DataW.trod enc Tryz.prog W 0 (fun _ => true) held n 5 ((((c0 :: c1 :: c2 :: c3 :: c4 :: c5 :: c6 :: c7 :: c8 :: c9 :: c10 :: c11 :: c12 :: c13 :: c14 :: []) : List Value).drop 4).take (Tryz.prog.cellsOf 5)) = some (d', ps') ∧ Sized Tryz.prog 5 d' := hf 2 _ rfl
  rw [show Tryz.prog.cellsOf 5 = 1 from by kernel_rfl] at h2
  obtain ⟨z2, e2, w2⟩ := (Opn.int Tryz.underlying5) _ _ _ _ _ h2 s2
  replace e2 : [c4] = [.int .u8 z2] := e2
  simp only [List.cons.injEq, and_true] at e2
  obtain ⟨d3, ps3, h3, s3⟩ : ∃ d' ps', DataW.trod enc Tryz.prog W 0 (fun _ => true) held n 28 ((((c0 :: c1 :: c2 :: c3 :: c4 :: c5 :: c6 :: c7 :: c8 :: c9 :: c10 :: c11 :: c12 :: c13 :: c14 :: []) : List Value).drop 5).take (Tryz.prog.cellsOf 28)) = some (d', ps') ∧ Sized Tryz.prog 28 d' := hf 3 _ rfl
  rw [show Tryz.prog.cellsOf 28 = 10 from by kernel_rfl] at h3
  obtain ⟨z3, e3, w3⟩ := opn28 _ _ _ _ _ h3 s3
  replace e3 : [c5, c6, c7, c8, c9, c10, c11, c12, c13, c14] = [.int .i64 z3.f0, .int .i64 z3.f1, .bool z3.f2, .bool z3.f3, .bool z3.f4, .bool z3.f5, .bool z3.f6, .bool z3.f7, .bool z3.f8, .bool z3.f9] := e3
  simp only [List.cons.injEq, and_true] at e3
  obtain rfl := e0
  obtain ⟨rfl, rfl, rfl⟩ := e1
  obtain rfl := e2
  obtain ⟨rfl, rfl, rfl, rfl, rfl, rfl, rfl, rfl, rfl, rfl⟩ := e3
  exact ⟨⟨z0, z1, z2, z3⟩, (by rfl), ⟨w0, w1, w2, w3⟩⟩
def wf26 (x : S26) : Prop := (Lit.int .i64 x.f0).wf = true ∧ (Lit.int .i64 x.f1).wf = true ∧ (x.f2.length * 48 ≤ 140737488351232 ∧ ∀ y_ ∈ x.f2, wf55 y_)
set_option maxRecDepth 100000 in
set_option maxHeartbeats 1000000 in
theorem opn26 {H : Type} {enc : TypeId × Value → H} {W : World} : Opn enc Tryz.prog W 26 k26 wf26 := fun held fuel cs d ps h hs => by
  obtain ⟨n, hl, hf⟩ := trod_field Tryz.underlying26 h hs
  rw [show Tryz.prog.cellsOf 26 = 3 from by kernel_rfl] at hl
  obtain ⟨c0, c1, c2, rfl⟩ : ∃ c0 c1 c2, cs = [c0, c1, c2] := by
    match cs, hl with
    | [c0, c1, c2], _ => exact ⟨c0, c1, c2, rfl⟩
  obtain ⟨d0, ps0, h0, s0⟩ : ∃ d' ps', DataW.trod enc Tryz.prog W 0 (fun _ => true) held n 3 ((([c0, c1, c2] : List Value).drop 0).take (Tryz.prog.cellsOf 3)) = some (d', ps') ∧ Sized Tryz.prog 3 d' := hf 0 _ rfl
  rw [show Tryz.prog.cellsOf 3 = 1 from by kernel_rfl] at h0
  obtain ⟨z0, e0, w0⟩ := (Opn.int Tryz.underlying3) _ _ _ _ _ h0 s0
  replace e0 : [c0] = [.int .i64 z0] := e0
  simp only [List.cons.injEq, and_true] at e0
  obtain ⟨d1, ps1, h1, s1⟩ : ∃ d' ps', DataW.trod enc Tryz.prog W 0 (fun _ => true) held n 3 ((([c0, c1, c2] : List Value).drop 1).take (Tryz.prog.cellsOf 3)) = some (d', ps') ∧ Sized Tryz.prog 3 d' := hf 1 _ rfl
  rw [show Tryz.prog.cellsOf 3 = 1 from by kernel_rfl] at h1
  obtain ⟨z1, e1, w1⟩ := (Opn.int Tryz.underlying3) _ _ _ _ _ h1 s1
  replace e1 : [c1] = [.int .i64 z1] := e1
  simp only [List.cons.injEq, and_true] at e1
  obtain ⟨d2, ps2, h2, s2⟩ : ∃ d' ps', DataW.trod enc Tryz.prog W 0 (fun _ => true) held n 24 ((([c0, c1, c2] : List Value).drop 2).take (Tryz.prog.cellsOf 24)) = some (d', ps') ∧ Sized Tryz.prog 24 d' := hf 2 _ rfl
  rw [show Tryz.prog.cellsOf 24 = 1 from by kernel_rfl] at h2
  obtain ⟨z2, ⟨bs2, ⟨A3001, c3002, e2, rfl⟩, p2⟩, w2⟩ := (Opn.sl (e := 55) (B := 48) Tryz.underlying24 opn55 (by kernel_rfl) (by decide) (by kernel_rfl)) _ _ _ _ _ h2 s2
  replace e2 : [c2] = [.slice A3001 z2.length c3002] := e2
  simp only [List.cons.injEq, and_true] at e2
  obtain rfl := e0
  obtain rfl := e1
  obtain rfl := e2
  exact ⟨⟨z0, z1, z2⟩, ⟨[Ro k55 A3001 c3002 z2], ⟨A3001, c3002, rfl, rfl⟩, (PersL.cons rfl (p2 _ (by simp)).2 PersL.nil)⟩, ⟨w0, w1, w2⟩⟩
def wf31 (x : S31) : Prop := (Lit.int .i64 x.f0).wf = true ∧ (Lit.int .i64 x.f1).wf = true ∧ True ∧ True ∧ wf28 x.f4
set_option maxRecDepth 100000 in
set_option maxHeartbeats 1000000 in
theorem opn31 {H : Type} {enc : TypeId × Value → H} {W : World} : Opn enc Tryz.prog W 31 k31 wf31 := fun held fuel cs d ps h hs => by
  obtain ⟨n, hl, hf⟩ := trod_field Tryz.underlying31 h hs
  rw [show Tryz.prog.cellsOf 31 = 14 from by kernel_rfl] at hl
  obtain ⟨c0, c1, c2, c3, c4, c5, c6, c7, c8, c9, c10, c11, c12, c13, rfl⟩ : ∃ c0 c1 c2 c3 c4 c5 c6 c7 c8 c9 c10 c11 c12 c13, cs = (c0 :: c1 :: c2 :: c3 :: c4 :: c5 :: c6 :: c7 :: c8 :: c9 :: c10 :: c11 :: c12 :: c13 :: []) := by
    match cs, hl with
    | c0 :: c1 :: c2 :: c3 :: c4 :: c5 :: c6 :: c7 :: c8 :: c9 :: c10 :: c11 :: c12 :: c13 :: [], _ => exact ⟨c0, c1, c2, c3, c4, c5, c6, c7, c8, c9, c10, c11, c12, c13, rfl⟩
  obtain ⟨d0, ps0, h0, s0⟩ : ∃ d' ps', DataW.trod enc Tryz.prog W 0 (fun _ => true) held n 3 ((((c0 :: c1 :: c2 :: c3 :: c4 :: c5 :: c6 :: c7 :: c8 :: c9 :: c10 :: c11 :: c12 :: c13 :: []) : List Value).drop 0).take (Tryz.prog.cellsOf 3)) = some (d', ps') ∧ Sized Tryz.prog 3 d' := hf 0 _ rfl
  rw [show Tryz.prog.cellsOf 3 = 1 from by kernel_rfl] at h0
  obtain ⟨z0, e0, w0⟩ := (Opn.int Tryz.underlying3) _ _ _ _ _ h0 s0
  replace e0 : [c0] = [.int .i64 z0] := e0
  simp only [List.cons.injEq, and_true] at e0
  obtain ⟨d1, ps1, h1, s1⟩ : ∃ d' ps', DataW.trod enc Tryz.prog W 0 (fun _ => true) held n 3 ((((c0 :: c1 :: c2 :: c3 :: c4 :: c5 :: c6 :: c7 :: c8 :: c9 :: c10 :: c11 :: c12 :: c13 :: []) : List Value).drop 1).take (Tryz.prog.cellsOf 3)) = some (d', ps') ∧ Sized Tryz.prog 3 d' := hf 1 _ rfl
  rw [show Tryz.prog.cellsOf 3 = 1 from by kernel_rfl] at h1
  obtain ⟨z1, e1, w1⟩ := (Opn.int Tryz.underlying3) _ _ _ _ _ h1 s1
  replace e1 : [c1] = [.int .i64 z1] := e1
  simp only [List.cons.injEq, and_true] at e1
  obtain ⟨d2, ps2, h2, s2⟩ : ∃ d' ps', DataW.trod enc Tryz.prog W 0 (fun _ => true) held n 4 ((((c0 :: c1 :: c2 :: c3 :: c4 :: c5 :: c6 :: c7 :: c8 :: c9 :: c10 :: c11 :: c12 :: c13 :: []) : List Value).drop 2).take (Tryz.prog.cellsOf 4)) = some (d', ps') ∧ Sized Tryz.prog 4 d' := hf 2 _ rfl
  rw [show Tryz.prog.cellsOf 4 = 1 from by kernel_rfl] at h2
  obtain ⟨z2, e2, w2⟩ := (Opn.bool Tryz.underlying4) _ _ _ _ _ h2 s2
  replace e2 : [c2] = [.bool z2] := e2
  simp only [List.cons.injEq, and_true] at e2
  obtain ⟨d3, ps3, h3, s3⟩ : ∃ d' ps', DataW.trod enc Tryz.prog W 0 (fun _ => true) held n 4 ((((c0 :: c1 :: c2 :: c3 :: c4 :: c5 :: c6 :: c7 :: c8 :: c9 :: c10 :: c11 :: c12 :: c13 :: []) : List Value).drop 3).take (Tryz.prog.cellsOf 4)) = some (d', ps') ∧ Sized Tryz.prog 4 d' := hf 3 _ rfl
  rw [show Tryz.prog.cellsOf 4 = 1 from by kernel_rfl] at h3
  obtain ⟨z3, e3, w3⟩ := (Opn.bool Tryz.underlying4) _ _ _ _ _ h3 s3
  replace e3 : [c3] = [.bool z3] := e3
  simp only [List.cons.injEq, and_true] at e3
  obtain ⟨d4, ps4, h4, s4⟩ : ∃ d' ps', DataW.trod enc Tryz.prog W 0 (fun _ => true) held n 28 ((((c0 :: c1 :: c2 :: c3 :: c4 :: c5 :: c6 :: c7 :: c8 :: c9 :: c10 :: c11 :: c12 :: c13 :: []) : List Value).drop 4).take (Tryz.prog.cellsOf 28)) = some (d', ps') ∧ Sized Tryz.prog 28 d' := hf 4 _ rfl
  rw [show Tryz.prog.cellsOf 28 = 10 from by kernel_rfl] at h4
  obtain ⟨z4, e4, w4⟩ := opn28 _ _ _ _ _ h4 s4
  replace e4 : [c4, c5, c6, c7, c8, c9, c10, c11, c12, c13] = [.int .i64 z4.f0, .int .i64 z4.f1, .bool z4.f2, .bool z4.f3, .bool z4.f4, .bool z4.f5, .bool z4.f6, .bool z4.f7, .bool z4.f8, .bool z4.f9] := e4
  simp only [List.cons.injEq, and_true] at e4
  obtain rfl := e0
  obtain rfl := e1
  obtain rfl := e2
  obtain rfl := e3
  obtain ⟨rfl, rfl, rfl, rfl, rfl, rfl, rfl, rfl, rfl, rfl⟩ := e4
  exact ⟨⟨z0, z1, z2, z3, z4⟩, (by rfl), ⟨w0, w1, w2, w3, w4⟩⟩
def wf34 (x : S34) : Prop := wf26 x.f0 ∧ (Lit.int .i64 x.f1).wf = true ∧ (Lit.int .i64 x.f2).wf = true ∧ True ∧ wf28 x.f4 ∧ (Lit.int .i64 x.f5).wf = true ∧ (Lit.int .i64 x.f6).wf = true ∧ (x.f7.length * 8 ≤ 140737488351232 ∧ ∀ y_ ∈ x.f7, (Lit.int .i64 y_).wf = true) ∧ True ∧ True ∧ True ∧ True ∧ True ∧ True ∧ wf31 x.f14 ∧ True ∧ wf26 x.f16 ∧ (x.f17.length * 4 ≤ 140737488351232 ∧ ∀ y_ ∈ x.f17, (Lit.int .i32 y_).wf = true)
set_option maxRecDepth 100000 in
set_option maxHeartbeats 1000000 in
theorem opn34 {H : Type} {enc : TypeId × Value → H} {W : World} : Opn enc Tryz.prog W 34 k34 wf34 := fun held fuel cs d ps h hs => by
  obtain ⟨n, hl, hf⟩ := trod_field Tryz.underlying34 h hs
  rw [show Tryz.prog.cellsOf 34 = 44 from by kernel_rfl] at hl
  obtain ⟨c0, c1, c2, c3, c4, c5, c6, c7, c8, c9, c10, c11, c12, c13, c14, c15, c16, c17, c18, c19, c20, c21, c22, c23, c24, c25, c26, c27, c28, c29, c30, c31, c32, c33, c34, c35, c36, c37, c38, c39, c40, c41, c42, c43, rfl⟩ : ∃ c0 c1 c2 c3 c4 c5 c6 c7 c8 c9 c10 c11 c12 c13 c14 c15 c16 c17 c18 c19 c20 c21 c22 c23 c24 c25 c26 c27 c28 c29 c30 c31 c32 c33 c34 c35 c36 c37 c38 c39 c40 c41 c42 c43, cs = (c0 :: c1 :: c2 :: c3 :: c4 :: c5 :: c6 :: c7 :: c8 :: c9 :: c10 :: c11 :: c12 :: c13 :: c14 :: c15 :: c16 :: c17 :: c18 :: c19 :: c20 :: c21 :: c22 :: c23 :: c24 :: c25 :: c26 :: c27 :: c28 :: c29 :: c30 :: c31 :: c32 :: c33 :: c34 :: c35 :: c36 :: c37 :: c38 :: c39 :: c40 :: c41 :: c42 :: c43 :: []) := by
    match cs, hl with
    | c0 :: c1 :: c2 :: c3 :: c4 :: c5 :: c6 :: c7 :: c8 :: c9 :: c10 :: c11 :: c12 :: c13 :: c14 :: c15 :: c16 :: c17 :: c18 :: c19 :: c20 :: c21 :: c22 :: c23 :: c24 :: c25 :: c26 :: c27 :: c28 :: c29 :: c30 :: c31 :: c32 :: c33 :: c34 :: c35 :: c36 :: c37 :: c38 :: c39 :: c40 :: c41 :: c42 :: c43 :: [], _ => exact ⟨c0, c1, c2, c3, c4, c5, c6, c7, c8, c9, c10, c11, c12, c13, c14, c15, c16, c17, c18, c19, c20, c21, c22, c23, c24, c25, c26, c27, c28, c29, c30, c31, c32, c33, c34, c35, c36, c37, c38, c39, c40, c41, c42, c43, rfl⟩
  obtain ⟨d0, ps0, h0, s0⟩ : ∃ d' ps', DataW.trod enc Tryz.prog W 0 (fun _ => true) held n 26 ((((c0 :: c1 :: c2 :: c3 :: c4 :: c5 :: c6 :: c7 :: c8 :: c9 :: c10 :: c11 :: c12 :: c13 :: c14 :: c15 :: c16 :: c17 :: c18 :: c19 :: c20 :: c21 :: c22 :: c23 :: c24 :: c25 :: c26 :: c27 :: c28 :: c29 :: c30 :: c31 :: c32 :: c33 :: c34 :: c35 :: c36 :: c37 :: c38 :: c39 :: c40 :: c41 :: c42 :: c43 :: []) : List Value).drop 0).take (Tryz.prog.cellsOf 26)) = some (d', ps') ∧ Sized Tryz.prog 26 d' := hf 0 _ rfl
  rw [show Tryz.prog.cellsOf 26 = 3 from by kernel_rfl] at h0
  obtain ⟨z0, ⟨bs0, ⟨A1001, c1002, e0, rfl⟩, p0⟩, w0⟩ := opn26 _ _ _ _ _ h0 s0
  replace e0 : [c0, c1, c2] = [.int .i64 z0.f0, .int .i64 z0.f1, .slice A1001 z0.f2.length c1002] := e0
  simp only [List.cons.injEq, and_true] at e0
  obtain ⟨d1, ps1, h1, s1⟩ : ∃ d' ps', DataW.trod enc Tryz.prog W 0 (fun _ => true) held n 3 ((((c0 :: c1 :: c2 :: c3 :: c4 :: c5 :: c6 :: c7 :: c8 :: c9 :: c10 :: c11 :: c12 :: c13 :: c14 :: c15 :: c16 :: c17 :: c18 :: c19 :: c20 :: c21 :: c22 :: c23 :: c24 :: c25 :: c26 :: c27 :: c28 :: c29 :: c30 :: c31 :: c32 :: c33 :: c34 :: c35 :: c36 :: c37 :: c38 :: c39 :: c40 :: c41 :: c42 :: c43 :: []) : List Value).drop 3).take (Tryz.prog.cellsOf 3)) = some (d', ps') ∧ Sized Tryz.prog 3 d' := hf 1 _ rfl
  rw [show Tryz.prog.cellsOf 3 = 1 from by kernel_rfl] at h1
  obtain ⟨z1, e1, w1⟩ := (Opn.int Tryz.underlying3) _ _ _ _ _ h1 s1
  replace e1 : [c3] = [.int .i64 z1] := e1
  simp only [List.cons.injEq, and_true] at e1
  obtain ⟨d2, ps2, h2, s2⟩ : ∃ d' ps', DataW.trod enc Tryz.prog W 0 (fun _ => true) held n 3 ((((c0 :: c1 :: c2 :: c3 :: c4 :: c5 :: c6 :: c7 :: c8 :: c9 :: c10 :: c11 :: c12 :: c13 :: c14 :: c15 :: c16 :: c17 :: c18 :: c19 :: c20 :: c21 :: c22 :: c23 :: c24 :: c25 :: c26 :: c27 :: c28 :: c29 :: c30 :: c31 :: c32 :: c33 :: c34 :: c35 :: c36 :: c37 :: c38 :: c39 :: c40 :: c41 :: c42 :: c43 :: []) : List Value).drop 4).take (Tryz.prog.cellsOf 3)) = some (d', ps') ∧ Sized Tryz.prog 3 d' := hf 2 _ rfl
  rw [show Tryz.prog.cellsOf 3 = 1 from by kernel_rfl] at h2
  obtain ⟨z2, e2, w2⟩ := (Opn.int Tryz.underlying3) _ _ _ _ _ h2 s2
  replace e2 : [c4] = [.int .i64 z2] := e2
  simp only [List.cons.injEq, and_true] at e2
  obtain ⟨d3, ps3, h3, s3⟩ : ∃ d' ps', DataW.trod enc Tryz.prog W 0 (fun _ => true) held n 4 ((((c0 :: c1 :: c2 :: c3 :: c4 :: c5 :: c6 :: c7 :: c8 :: c9 :: c10 :: c11 :: c12 :: c13 :: c14 :: c15 :: c16 :: c17 :: c18 :: c19 :: c20 :: c21 :: c22 :: c23 :: c24 :: c25 :: c26 :: c27 :: c28 :: c29 :: c30 :: c31 :: c32 :: c33 :: c34 :: c35 :: c36 :: c37 :: c38 :: c39 :: c40 :: c41 :: c42 :: c43 :: []) : List Value).drop 5).take (Tryz.prog.cellsOf 4)) = some (d', ps') ∧ Sized Tryz.prog 4 d' := hf 3 _ rfl
  rw [show Tryz.prog.cellsOf 4 = 1 from by kernel_rfl] at h3
  obtain ⟨z3, e3, w3⟩ := (Opn.bool Tryz.underlying4) _ _ _ _ _ h3 s3
  replace e3 : [c5] = [.bool z3] := e3
  simp only [List.cons.injEq, and_true] at e3
  obtain ⟨d4, ps4, h4, s4⟩ : ∃ d' ps', DataW.trod enc Tryz.prog W 0 (fun _ => true) held n 28 ((((c0 :: c1 :: c2 :: c3 :: c4 :: c5 :: c6 :: c7 :: c8 :: c9 :: c10 :: c11 :: c12 :: c13 :: c14 :: c15 :: c16 :: c17 :: c18 :: c19 :: c20 :: c21 :: c22 :: c23 :: c24 :: c25 :: c26 :: c27 :: c28 :: c29 :: c30 :: c31 :: c32 :: c33 :: c34 :: c35 :: c36 :: c37 :: c38 :: c39 :: c40 :: c41 :: c42 :: c43 :: []) : List Value).drop 6).take (Tryz.prog.cellsOf 28)) = some (d', ps') ∧ Sized Tryz.prog 28 d' := hf 4 _ rfl
  rw [show Tryz.prog.cellsOf 28 = 10 from by kernel_rfl] at h4
  obtain ⟨z4, e4, w4⟩ := opn28 _ _ _ _ _ h4 s4
  replace e4 : [c6, c7, c8, c9, c10, c11, c12, c13, c14, c15] = [.int .i64 z4.f0, .int .i64 z4.f1, .bool z4.f2, .bool z4.f3, .bool z4.f4, .bool z4.f5, .bool z4.f6, .bool z4.f7, .bool z4.f8, .bool z4.f9] := e4
  simp only [List.cons.injEq, and_true] at e4
  obtain ⟨d5, ps5, h5, s5⟩ : ∃ d' ps', DataW.trod enc Tryz.prog W 0 (fun _ => true) held n 3 ((((c0 :: c1 :: c2 :: c3 :: c4 :: c5 :: c6 :: c7 :: c8 :: c9 :: c10 :: c11 :: c12 :: c13 :: c14 :: c15 :: c16 :: c17 :: c18 :: c19 :: c20 :: c21 :: c22 :: c23 :: c24 :: c25 :: c26 :: c27 :: c28 :: c29 :: c30 :: c31 :: c32 :: c33 :: c34 :: c35 :: c36 :: c37 :: c38 :: c39 :: c40 :: c41 :: c42 :: c43 :: []) : List Value).drop 16).take (Tryz.prog.cellsOf 3)) = some (d', ps') ∧ Sized Tryz.prog 3 d' := hf 5 _ rfl
  rw [show Tryz.prog.cellsOf 3 = 1 from by kernel_rfl] at h5
  obtain ⟨z5, e5, w5⟩ := (Opn.int Tryz.underlying3) _ _ _ _ _ h5 s5
  replace e5 : [c16] = [.int .i64 z5] := e5
  simp only [List.cons.injEq, and_true] at e5
  obtain ⟨d6, ps6, h6, s6⟩ : ∃ d' ps', DataW.trod enc Tryz.prog W 0 (fun _ => true) held n 3 ((((c0 :: c1 :: c2 :: c3 :: c4 :: c5 :: c6 :: c7 :: c8 :: c9 :: c10 :: c11 :: c12 :: c13 :: c14 :: c15 :: c16 :: c17 :: c18 :: c19 :: c20 :: c21 :: c22 :: c23 :: c24 :: c25 :: c26 :: c27 :: c28 :: c29 :: c30 :: c31 :: c32 :: c33 :: c34 :: c35 :: c36 :: c37 :: c38 :: c39 :: c40 :: c41 :: c42 :: c43 :: []) : List Value).drop 17).take (Tryz.prog.cellsOf 3)) = some (d', ps') ∧ Sized Tryz.prog 3 d' := hf 6 _ rfl
  rw [show Tryz.prog.cellsOf 3 = 1 from by kernel_rfl] at h6
  obtain ⟨z6, e6, w6⟩ := (Opn.int Tryz.underlying3) _ _ _ _ _ h6 s6
  replace e6 : [c17] = [.int .i64 z6] := e6
  simp only [List.cons.injEq, and_true] at e6
  obtain ⟨d7, ps7, h7, s7⟩ : ∃ d' ps', DataW.trod enc Tryz.prog W 0 (fun _ => true) held n 29 ((((c0 :: c1 :: c2 :: c3 :: c4 :: c5 :: c6 :: c7 :: c8 :: c9 :: c10 :: c11 :: c12 :: c13 :: c14 :: c15 :: c16 :: c17 :: c18 :: c19 :: c20 :: c21 :: c22 :: c23 :: c24 :: c25 :: c26 :: c27 :: c28 :: c29 :: c30 :: c31 :: c32 :: c33 :: c34 :: c35 :: c36 :: c37 :: c38 :: c39 :: c40 :: c41 :: c42 :: c43 :: []) : List Value).drop 18).take (Tryz.prog.cellsOf 29)) = some (d', ps') ∧ Sized Tryz.prog 29 d' := hf 7 _ rfl
  rw [show Tryz.prog.cellsOf 29 = 1 from by kernel_rfl] at h7
  obtain ⟨z7, ⟨bs7, ⟨A8001, c8002, e7, rfl⟩, p7⟩, w7⟩ := (Opn.sl (e := 3) (B := 8) Tryz.underlying29 (Opn.int Tryz.underlying3) (by kernel_rfl) (by decide) (by kernel_rfl)) _ _ _ _ _ h7 s7
  replace e7 : [c18] = [.slice A8001 z7.length c8002] := e7
  simp only [List.cons.injEq, and_true] at e7
  obtain ⟨d8, ps8, h8, s8⟩ : ∃ d' ps', DataW.trod enc Tryz.prog W 0 (fun _ => true) held n 4 ((((c0 :: c1 :: c2 :: c3 :: c4 :: c5 :: c6 :: c7 :: c8 :: c9 :: c10 :: c11 :: c12 :: c13 :: c14 :: c15 :: c16 :: c17 :: c18 :: c19 :: c20 :: c21 :: c22 :: c23 :: c24 :: c25 :: c26 :: c27 :: c28 :: c29 :: c30 :: c31 :: c32 :: c33 :: c34 :: c35 :: c36 :: c37 :: c38 :: c39 :: c40 :: c41 :: c42 :: c43 :: []) : List Value).drop 19).take (Tryz.prog.cellsOf 4)) = some (d', ps') ∧ Sized Tryz.prog 4 d' := hf 8 _ rfl
  rw [show Tryz.prog.cellsOf 4 = 1 from by kernel_rfl] at h8
  obtain ⟨z8, e8, w8⟩ := (Opn.bool Tryz.underlying4) _ _ _ _ _ h8 s8
  replace e8 : [c19] = [.bool z8] := e8
  simp only [List.cons.injEq, and_true] at e8
  obtain ⟨d9, ps9, h9, s9⟩ : ∃ d' ps', DataW.trod enc Tryz.prog W 0 (fun _ => true) held n 4 ((((c0 :: c1 :: c2 :: c3 :: c4 :: c5 :: c6 :: c7 :: c8 :: c9 :: c10 :: c11 :: c12 :: c13 :: c14 :: c15 :: c16 :: c17 :: c18 :: c19 :: c20 :: c21 :: c22 :: c23 :: c24 :: c25 :: c26 :: c27 :: c28 :: c29 :: c30 :: c31 :: c32 :: c33 :: c34 :: c35 :: c36 :: c37 :: c38 :: c39 :: c40 :: c41 :: c42 :: c43 :: []) : List Value).drop 20).take (Tryz.prog.cellsOf 4)) = some (d', ps') ∧ Sized Tryz.prog 4 d' := hf 9 _ rfl
  rw [show Tryz.prog.cellsOf 4 = 1 from by kernel_rfl] at h9
  obtain ⟨z9, e9, w9⟩ := (Opn.bool Tryz.underlying4) _ _ _ _ _ h9 s9
  replace e9 : [c20] = [.bool z9] := e9
  simp only [List.cons.injEq, and_true] at e9
  obtain ⟨d10, ps10, h10, s10⟩ : ∃ d' ps', DataW.trod enc Tryz.prog W 0 (fun _ => true) held n 4 ((((c0 :: c1 :: c2 :: c3 :: c4 :: c5 :: c6 :: c7 :: c8 :: c9 :: c10 :: c11 :: c12 :: c13 :: c14 :: c15 :: c16 :: c17 :: c18 :: c19 :: c20 :: c21 :: c22 :: c23 :: c24 :: c25 :: c26 :: c27 :: c28 :: c29 :: c30 :: c31 :: c32 :: c33 :: c34 :: c35 :: c36 :: c37 :: c38 :: c39 :: c40 :: c41 :: c42 :: c43 :: []) : List Value).drop 21).take (Tryz.prog.cellsOf 4)) = some (d', ps') ∧ Sized Tryz.prog 4 d' := hf 10 _ rfl
  rw [show Tryz.prog.cellsOf 4 = 1 from by kernel_rfl] at h10
  obtain ⟨z10, e10, w10⟩ := (Opn.bool Tryz.underlying4) _ _ _ _ _ h10 s10
  replace e10 : [c21] = [.bool z10] := e10
  simp only [List.cons.injEq, and_true] at e10
  obtain ⟨d11, ps11, h11, s11⟩ : ∃ d' ps', DataW.trod enc Tryz.prog W 0 (fun _ => true) held n 4 ((((c0 :: c1 :: c2 :: c3 :: c4 :: c5 :: c6 :: c7 :: c8 :: c9 :: c10 :: c11 :: c12 :: c13 :: c14 :: c15 :: c16 :: c17 :: c18 :: c19 :: c20 :: c21 :: c22 :: c23 :: c24 :: c25 :: c26 :: c27 :: c28 :: c29 :: c30 :: c31 :: c32 :: c33 :: c34 :: c35 :: c36 :: c37 :: c38 :: c39 :: c40 :: c41 :: c42 :: c43 :: []) : List Value).drop 22).take (Tryz.prog.cellsOf 4)) = some (d', ps') ∧ Sized Tryz.prog 4 d' := hf 11 _ rfl
  rw [show Tryz.prog.cellsOf 4 = 1 from by kernel_rfl] at h11
  obtain ⟨z11, e11, w11⟩ := (Opn.bool Tryz.underlying4) _ _ _ _ _ h11 s11
  replace e11 : [c22] = [.bool z11] := e11
  simp only [List.cons.injEq, and_true] at e11
  obtain ⟨d12, ps12, h12, s12⟩ : ∃ d' ps', DataW.trod enc Tryz.prog W 0 (fun _ => true) held n 4 ((((c0 :: c1 :: c2 :: c3 :: c4 :: c5 :: c6 :: c7 :: c8 :: c9 :: c10 :: c11 :: c12 :: c13 :: c14 :: c15 :: c16 :: c17 :: c18 :: c19 :: c20 :: c21 :: c22 :: c23 :: c24 :: c25 :: c26 :: c27 :: c28 :: c29 :: c30 :: c31 :: c32 :: c33 :: c34 :: c35 :: c36 :: c37 :: c38 :: c39 :: c40 :: c41 :: c42 :: c43 :: []) : List Value).drop 23).take (Tryz.prog.cellsOf 4)) = some (d', ps') ∧ Sized Tryz.prog 4 d' := hf 12 _ rfl
  rw [show Tryz.prog.cellsOf 4 = 1 from by kernel_rfl] at h12
  obtain ⟨z12, e12, w12⟩ := (Opn.bool Tryz.underlying4) _ _ _ _ _ h12 s12
  replace e12 : [c23] = [.bool z12] := e12
  simp only [List.cons.injEq, and_true] at e12
  obtain ⟨d13, ps13, h13, s13⟩ : ∃ d' ps', DataW.trod enc Tryz.prog W 0 (fun _ => true) held n 4 ((((c0 :: c1 :: c2 :: c3 :: c4 :: c5 :: c6 :: c7 :: c8 :: c9 :: c10 :: c11 :: c12 :: c13 :: c14 :: c15 :: c16 :: c17 :: c18 :: c19 :: c20 :: c21 :: c22 :: c23 :: c24 :: c25 :: c26 :: c27 :: c28 :: c29 :: c30 :: c31 :: c32 :: c33 :: c34 :: c35 :: c36 :: c37 :: c38 :: c39 :: c40 :: c41 :: c42 :: c43 :: []) : List Value).drop 24).take (Tryz.prog.cellsOf 4)) = some (d', ps') ∧ Sized Tryz.prog 4 d' := hf 13 _ rfl
  rw [show Tryz.prog.cellsOf 4 = 1 from by kernel_rfl] at h13
  obtain ⟨z13, e13, w13⟩ := (Opn.bool Tryz.underlying4) _ _ _ _ _ h13 s13
  replace e13 : [c24] = [.bool z13] := e13
  simp only [List.cons.injEq, and_true] at e13
  obtain ⟨d14, ps14, h14, s14⟩ : ∃ d' ps', DataW.trod enc Tryz.prog W 0 (fun _ => true) held n 31 ((((c0 :: c1 :: c2 :: c3 :: c4 :: c5 :: c6 :: c7 :: c8 :: c9 :: c10 :: c11 :: c12 :: c13 :: c14 :: c15 :: c16 :: c17 :: c18 :: c19 :: c20 :: c21 :: c22 :: c23 :: c24 :: c25 :: c26 :: c27 :: c28 :: c29 :: c30 :: c31 :: c32 :: c33 :: c34 :: c35 :: c36 :: c37 :: c38 :: c39 :: c40 :: c41 :: c42 :: c43 :: []) : List Value).drop 25).take (Tryz.prog.cellsOf 31)) = some (d', ps') ∧ Sized Tryz.prog 31 d' := hf 14 _ rfl
  rw [show Tryz.prog.cellsOf 31 = 14 from by kernel_rfl] at h14
  obtain ⟨z14, e14, w14⟩ := opn31 _ _ _ _ _ h14 s14
  replace e14 : (c25 :: c26 :: c27 :: c28 :: c29 :: c30 :: c31 :: c32 :: c33 :: c34 :: c35 :: c36 :: c37 :: c38 :: []) = (.int .i64 z14.f0 :: .int .i64 z14.f1 :: .bool z14.f2 :: .bool z14.f3 :: .int .i64 z14.f4.f0 :: .int .i64 z14.f4.f1 :: .bool z14.f4.f2 :: .bool z14.f4.f3 :: .bool z14.f4.f4 :: .bool z14.f4.f5 :: .bool z14.f4.f6 :: .bool z14.f4.f7 :: .bool z14.f4.f8 :: .bool z14.f4.f9 :: []) := e14
  simp only [List.cons.injEq, and_true] at e14
  obtain ⟨d15, ps15, h15, s15⟩ : ∃ d' ps', DataW.trod enc Tryz.prog W 0 (fun _ => true) held n 4 ((((c0 :: c1 :: c2 :: c3 :: c4 :: c5 :: c6 :: c7 :: c8 :: c9 :: c10 :: c11 :: c12 :: c13 :: c14 :: c15 :: c16 :: c17 :: c18 :: c19 :: c20 :: c21 :: c22 :: c23 :: c24 :: c25 :: c26 :: c27 :: c28 :: c29 :: c30 :: c31 :: c32 :: c33 :: c34 :: c35 :: c36 :: c37 :: c38 :: c39 :: c40 :: c41 :: c42 :: c43 :: []) : List Value).drop 39).take (Tryz.prog.cellsOf 4)) = some (d', ps') ∧ Sized Tryz.prog 4 d' := hf 15 _ rfl
  rw [show Tryz.prog.cellsOf 4 = 1 from by kernel_rfl] at h15
  obtain ⟨z15, e15, w15⟩ := (Opn.bool Tryz.underlying4) _ _ _ _ _ h15 s15
  replace e15 : [c39] = [.bool z15] := e15
  simp only [List.cons.injEq, and_true] at e15
  obtain ⟨d16, ps16, h16, s16⟩ : ∃ d' ps', DataW.trod enc Tryz.prog W 0 (fun _ => true) held n 26 ((((c0 :: c1 :: c2 :: c3 :: c4 :: c5 :: c6 :: c7 :: c8 :: c9 :: c10 :: c11 :: c12 :: c13 :: c14 :: c15 :: c16 :: c17 :: c18 :: c19 :: c20 :: c21 :: c22 :: c23 :: c24 :: c25 :: c26 :: c27 :: c28 :: c29 :: c30 :: c31 :: c32 :: c33 :: c34 :: c35 :: c36 :: c37 :: c38 :: c39 :: c40 :: c41 :: c42 :: c43 :: []) : List Value).drop 40).take (Tryz.prog.cellsOf 26)) = some (d', ps') ∧ Sized Tryz.prog 26 d' := hf 16 _ rfl
  rw [show Tryz.prog.cellsOf 26 = 3 from by kernel_rfl] at h16
  obtain ⟨z16, ⟨bs16, ⟨A17001, c17002, e16, rfl⟩, p16⟩, w16⟩ := opn26 _ _ _ _ _ h16 s16
  replace e16 : [c40, c41, c42] = [.int .i64 z16.f0, .int .i64 z16.f1, .slice A17001 z16.f2.length c17002] := e16
  simp only [List.cons.injEq, and_true] at e16
  obtain ⟨d17, ps17, h17, s17⟩ : ∃ d' ps', DataW.trod enc Tryz.prog W 0 (fun _ => true) held n 32 ((((c0 :: c1 :: c2 :: c3 :: c4 :: c5 :: c6 :: c7 :: c8 :: c9 :: c10 :: c11 :: c12 :: c13 :: c14 :: c15 :: c16 :: c17 :: c18 :: c19 :: c20 :: c21 :: c22 :: c23 :: c24 :: c25 :: c26 :: c27 :: c28 :: c29 :: c30 :: c31 :: c32 :: c33 :: c34 :: c35 :: c36 :: c37 :: c38 :: c39 :: c40 :: c41 :: c42 :: c43 :: []) : List Value).drop 43).take (Tryz.prog.cellsOf 32)) = some (d', ps') ∧ Sized Tryz.prog 32 d' := hf 17 _ rfl
  rw [show Tryz.prog.cellsOf 32 = 1 from by kernel_rfl] at h17
  obtain ⟨z17, ⟨bs17, ⟨A18001, c18002, e17, rfl⟩, p17⟩, w17⟩ := (Opn.sl (e := 21) (B := 4) Tryz.underlying32 (Opn.int Tryz.underlying21) (by kernel_rfl) (by decide) (by kernel_rfl)) _ _ _ _ _ h17 s17
  replace e17 : [c43] = [.slice A18001 z17.length c18002] := e17
  simp only [List.cons.injEq, and_true] at e17
  obtain ⟨rfl, rfl, rfl⟩ := e0
  obtain rfl := e1
  obtain rfl := e2
  obtain rfl := e3
  obtain ⟨rfl, rfl, rfl, rfl, rfl, rfl, rfl, rfl, rfl, rfl⟩ := e4
  obtain rfl := e5
  obtain rfl := e6
  obtain rfl := e7
  obtain rfl := e8
  obtain rfl := e9
  obtain rfl := e10
  obtain rfl := e11
  obtain rfl := e12
  obtain rfl := e13
  obtain ⟨rfl, rfl, rfl, rfl, rfl, rfl, rfl, rfl, rfl, rfl, rfl, rfl, rfl, rfl⟩ := e14
  obtain rfl := e15
  obtain ⟨rfl, rfl, rfl⟩ := e16
  obtain rfl := e17
  exact ⟨⟨z0, z1, z2, z3, z4, z5, z6, z7, z8, z9, z10, z11, z12, z13, z14, z15, z16, z17⟩, ⟨[Ro k55 A1001 c1002 z0.f2, Ro (Kd.int .i64) A8001 c8002 z7, Ro k55 A17001 c17002 z16.f2, Ro (Kd.int .i32) A18001 c18002 z17], ⟨A1001, c1002, A8001, c8002, A17001, c17002, A18001, c18002, rfl, rfl⟩, (PersL.cons rfl (p0 _ (by simp)).2 (PersL.cons rfl (p7 _ (by simp)).2 (PersL.cons rfl (p16 _ (by simp)).2 (PersL.cons rfl (p17 _ (by simp)).2 PersL.nil))))⟩, ⟨w0, w1, w2, w3, w4, w5, w6, w7, w8, w9, w10, w11, w12, w13, w14, w15, w16, w17⟩⟩
def wf44 (x : S44) : Prop := (Lit.int .u8 x.f0).wf = true ∧ (Lit.int .i64 x.f1).wf = true ∧ (Lit.int .i64 x.f2).wf = true ∧ True
set_option maxRecDepth 100000 in
set_option maxHeartbeats 1000000 in
theorem opn44 {H : Type} {enc : TypeId × Value → H} {W : World} : Opn enc Tryz.prog W 44 k44 wf44 := fun held fuel cs d ps h hs => by
  obtain ⟨n, hl, hf⟩ := trod_field Tryz.underlying44 h hs
  rw [show Tryz.prog.cellsOf 44 = 4 from by kernel_rfl] at hl
  obtain ⟨c0, c1, c2, c3, rfl⟩ : ∃ c0 c1 c2 c3, cs = [c0, c1, c2, c3] := by
    match cs, hl with
    | [c0, c1, c2, c3], _ => exact ⟨c0, c1, c2, c3, rfl⟩
  obtain ⟨d0, ps0, h0, s0⟩ : ∃ d' ps', DataW.trod enc Tryz.prog W 0 (fun _ => true) held n 5 ((([c0, c1, c2, c3] : List Value).drop 0).take (Tryz.prog.cellsOf 5)) = some (d', ps') ∧ Sized Tryz.prog 5 d' := hf 0 _ rfl
  rw [show Tryz.prog.cellsOf 5 = 1 from by kernel_rfl] at h0
  obtain ⟨z0, e0, w0⟩ := (Opn.int Tryz.underlying5) _ _ _ _ _ h0 s0
  replace e0 : [c0] = [.int .u8 z0] := e0
  simp only [List.cons.injEq, and_true] at e0
  obtain ⟨d1, ps1, h1, s1⟩ : ∃ d' ps', DataW.trod enc Tryz.prog W 0 (fun _ => true) held n 3 ((([c0, c1, c2, c3] : List Value).drop 1).take (Tryz.prog.cellsOf 3)) = some (d', ps') ∧ Sized Tryz.prog 3 d' := hf 1 _ rfl
  rw [show Tryz.prog.cellsOf 3 = 1 from by kernel_rfl] at h1
  obtain ⟨z1, e1, w1⟩ := (Opn.int Tryz.underlying3) _ _ _ _ _ h1 s1
  replace e1 : [c1] = [.int .i64 z1] := e1
  simp only [List.cons.injEq, and_true] at e1
  obtain ⟨d2, ps2, h2, s2⟩ : ∃ d' ps', DataW.trod enc Tryz.prog W 0 (fun _ => true) held n 3 ((([c0, c1, c2, c3] : List Value).drop 2).take (Tryz.prog.cellsOf 3)) = some (d', ps') ∧ Sized Tryz.prog 3 d' := hf 2 _ rfl
  rw [show Tryz.prog.cellsOf 3 = 1 from by kernel_rfl] at h2
  obtain ⟨z2, e2, w2⟩ := (Opn.int Tryz.underlying3) _ _ _ _ _ h2 s2
  replace e2 : [c2] = [.int .i64 z2] := e2
  simp only [List.cons.injEq, and_true] at e2
  obtain ⟨d3, ps3, h3, s3⟩ : ∃ d' ps', DataW.trod enc Tryz.prog W 0 (fun _ => true) held n 4 ((([c0, c1, c2, c3] : List Value).drop 3).take (Tryz.prog.cellsOf 4)) = some (d', ps') ∧ Sized Tryz.prog 4 d' := hf 3 _ rfl
  rw [show Tryz.prog.cellsOf 4 = 1 from by kernel_rfl] at h3
  obtain ⟨z3, e3, w3⟩ := (Opn.bool Tryz.underlying4) _ _ _ _ _ h3 s3
  replace e3 : [c3] = [.bool z3] := e3
  simp only [List.cons.injEq, and_true] at e3
  obtain rfl := e0
  obtain rfl := e1
  obtain rfl := e2
  obtain rfl := e3
  exact ⟨⟨z0, z1, z2, z3⟩, (by rfl), ⟨w0, w1, w2, w3⟩⟩
def wf22 (x : S22) : Prop := (Lit.int .i64 x.f0).wf = true ∧ (Lit.int .i64 x.f1).wf = true
set_option maxRecDepth 100000 in
set_option maxHeartbeats 1000000 in
theorem opn22 {H : Type} {enc : TypeId × Value → H} {W : World} : Opn enc Tryz.prog W 22 k22 wf22 := fun held fuel cs d ps h hs => by
  obtain ⟨n, hl, hf⟩ := trod_item Tryz.underlying22 h hs
  rw [show Tryz.prog.cellsOf 22 = 2 from by kernel_rfl] at hl
  obtain ⟨c0, c1, rfl⟩ : ∃ c0 c1, cs = [c0, c1] := by
    match cs, hl with
    | [c0, c1], _ => exact ⟨c0, c1, rfl⟩
  obtain ⟨d0, ps0, h0, s0⟩ : ∃ d' ps', DataW.trod enc Tryz.prog W 0 (fun _ => true) held n 3 ((([c0, c1] : List Value).drop 0).take (Tryz.prog.cellsOf 3)) = some (d', ps') ∧ Sized Tryz.prog 3 d' := hf 0 (by decide)
  rw [show Tryz.prog.cellsOf 3 = 1 from by kernel_rfl] at h0
  obtain ⟨z0, e0, w0⟩ := (Opn.int Tryz.underlying3) _ _ _ _ _ h0 s0
  replace e0 : [c0] = [.int .i64 z0] := e0
  simp only [List.cons.injEq, and_true] at e0
  obtain ⟨d1, ps1, h1, s1⟩ : ∃ d' ps', DataW.trod enc Tryz.prog W 0 (fun _ => true) held n 3 ((([c0, c1] : List Value).drop 1).take (Tryz.prog.cellsOf 3)) = some (d', ps') ∧ Sized Tryz.prog 3 d' := hf 1 (by decide)
  rw [show Tryz.prog.cellsOf 3 = 1 from by kernel_rfl] at h1
  obtain ⟨z1, e1, w1⟩ := (Opn.int Tryz.underlying3) _ _ _ _ _ h1 s1
  replace e1 : [c1] = [.int .i64 z1] := e1
  simp only [List.cons.injEq, and_true] at e1
  obtain rfl := e0
  obtain rfl := e1
  exact ⟨⟨z0, z1⟩, (by rfl), ⟨w0, w1⟩⟩
end Go.Proofs.YtckilbegmbaeeaaGreat.Z5

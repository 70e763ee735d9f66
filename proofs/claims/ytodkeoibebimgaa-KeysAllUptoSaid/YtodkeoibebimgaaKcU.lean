/- What data that come in are: their bounds, what they weigh, how they lie. -/
import Derived.Test.YtodkeoibebimgaaKc
import Derived.Test.YtodkeoibebimgaaSlU
namespace Go.Proofs.Ytodkeoibebimgaa.Kc
open Go Go.RowKit Go.Proofs.Ytodkeoibebimgaa.SL
set_option linter.unusedVariables false
set_option linter.unusedSimpArgs false
def wf74 (x : S74) : Prop := (Lit.int .i32 x.f0).wf = true ∧ (Lit.int .i32 x.f1).wf = true ∧ (Lit.int .i32 x.f2).wf = true
def bk74 (x : S74) : Nat := 1 + 1 + 1 + 1
set_option maxRecDepth 100000 in
set_option maxHeartbeats 1000000 in
theorem opn74 {H : Type} {enc : TypeId × Value → H} {W : World} : OpnU enc Try.prog W 74 k74 wf74 bk74 := fun held fuel cs d ps h => by
  obtain ⟨n, parts, hl, rfl, hpl, hf⟩ := trod_itemU Try.underlying74 h
  rw [show Try.prog.cellsOf 74 = 3 from by kernel_rfl] at hl
  obtain ⟨c0, c1, c2, rfl⟩ : ∃ c0 c1 c2, cs = [c0, c1, c2] := by
    match cs, hl with
    | [c0, c1, c2], _ => exact ⟨c0, c1, c2, rfl⟩
  obtain ⟨d0, d1, d2, rfl⟩ : ∃ d0 d1 d2, parts = [d0, d1, d2] := by
    match parts, hpl with
    | [d0, d1, d2], _ => exact ⟨d0, d1, d2, rfl⟩
  obtain ⟨ps0, h0⟩ : ∃ ps', DataW.trod enc Try.prog W 0 (fun _ => true) held n 21 ((([c0, c1, c2] : List Value).drop 0).take (Try.prog.cellsOf 21)) = some (d0, ps') := by obtain ⟨_, p_, e_, h_⟩ := hf 0 (by decide); obtain rfl := Option.some.inj e_; exact ⟨p_, h_⟩
  rw [show Try.prog.cellsOf 21 = 1 from by kernel_rfl] at h0
  obtain ⟨z0, e0, w0, b0⟩ := (OpnU.int Try.underlying21) _ _ _ _ _ h0
  replace b0 : 1 ≤ Rows.uptoBulk d0 := b0
  replace e0 : [c0] = [.int .i32 z0] := e0
  simp only [List.cons.injEq, and_true] at e0
  obtain ⟨ps1, h1⟩ : ∃ ps', DataW.trod enc Try.prog W 0 (fun _ => true) held n 21 ((([c0, c1, c2] : List Value).drop 1).take (Try.prog.cellsOf 21)) = some (d1, ps') := by obtain ⟨_, p_, e_, h_⟩ := hf 1 (by decide); obtain rfl := Option.some.inj e_; exact ⟨p_, h_⟩
  rw [show Try.prog.cellsOf 21 = 1 from by kernel_rfl] at h1
  obtain ⟨z1, e1, w1, b1⟩ := (OpnU.int Try.underlying21) _ _ _ _ _ h1
  replace b1 : 1 ≤ Rows.uptoBulk d1 := b1
  replace e1 : [c1] = [.int .i32 z1] := e1
  simp only [List.cons.injEq, and_true] at e1
  obtain ⟨ps2, h2⟩ : ∃ ps', DataW.trod enc Try.prog W 0 (fun _ => true) held n 21 ((([c0, c1, c2] : List Value).drop 2).take (Try.prog.cellsOf 21)) = some (d2, ps') := by obtain ⟨_, p_, e_, h_⟩ := hf 2 (by decide); obtain rfl := Option.some.inj e_; exact ⟨p_, h_⟩
  rw [show Try.prog.cellsOf 21 = 1 from by kernel_rfl] at h2
  obtain ⟨z2, e2, w2, b2⟩ := (OpnU.int Try.underlying21) _ _ _ _ _ h2
  replace b2 : 1 ≤ Rows.uptoBulk d2 := b2
  replace e2 : [c2] = [.int .i32 z2] := e2
  simp only [List.cons.injEq, and_true] at e2
  obtain rfl := e0
  obtain rfl := e1
  obtain rfl := e2
  exact ⟨⟨z0, z1, z2⟩, (by rfl), ⟨w0, w1, w2⟩, (by rw [bulk_agg]; simp only [bulkAll1, bulkAll0, bk74]; omega)⟩
def wf70 (x : S70) : Prop := (Lit.int .i64 x.f0).wf = true ∧ (Lit.int .i64 x.f1).wf = true ∧ True ∧ True ∧ True ∧ True ∧ True ∧ True ∧ True ∧ True
def bk70 (x : S70) : Nat := 1 + 1 + 1 + 1 + 1 + 1 + 1 + 1 + 1 + 1 + 1
set_option maxRecDepth 100000 in
set_option maxHeartbeats 1000000 in
theorem opn70 {H : Type} {enc : TypeId × Value → H} {W : World} : OpnU enc Try.prog W 70 k70 wf70 bk70 := fun held fuel cs d ps h => by
  obtain ⟨n, parts, hl, rfl, hpl, hf⟩ := trod_fieldU Try.underlying70 h
  rw [show Try.prog.cellsOf 70 = 10 from by kernel_rfl] at hl
  obtain ⟨c0, c1, c2, c3, c4, c5, c6, c7, c8, c9, rfl⟩ : ∃ c0 c1 c2 c3 c4 c5 c6 c7 c8 c9, cs = [c0, c1, c2, c3, c4, c5, c6, c7, c8, c9] := by
    match cs, hl with
    | [c0, c1, c2, c3, c4, c5, c6, c7, c8, c9], _ => exact ⟨c0, c1, c2, c3, c4, c5, c6, c7, c8, c9, rfl⟩
  obtain ⟨d0, d1, d2, d3, d4, d5, d6, d7, d8, d9, rfl⟩ : ∃ d0 d1 d2 d3 d4 d5 d6 d7 d8 d9, parts = [d0, d1, d2, d3, d4, d5, d6, d7, d8, d9] := by
    match parts, hpl with
    | [d0, d1, d2, d3, d4, d5, d6, d7, d8, d9], _ => exact ⟨d0, d1, d2, d3, d4, d5, d6, d7, d8, d9, rfl⟩
  obtain ⟨ps0, h0⟩ : ∃ ps', DataW.trod enc Try.prog W 0 (fun _ => true) held n 3 ((([c0, c1, c2, c3, c4, c5, c6, c7, c8, c9] : List Value).drop 0).take (Try.prog.cellsOf 3)) = some (d0, ps') := by obtain ⟨_, p_, e_, h_⟩ := hf 0 _ rfl; obtain rfl := Option.some.inj e_; exact ⟨p_, h_⟩
  rw [show Try.prog.cellsOf 3 = 1 from by kernel_rfl] at h0
  obtain ⟨z0, e0, w0, b0⟩ := (OpnU.int Try.underlying3) _ _ _ _ _ h0
  replace b0 : 1 ≤ Rows.uptoBulk d0 := b0
  replace e0 : [c0] = [.int .i64 z0] := e0
  simp only [List.cons.injEq, and_true] at e0
  obtain ⟨ps1, h1⟩ : ∃ ps', DataW.trod enc Try.prog W 0 (fun _ => true) held n 3 ((([c0, c1, c2, c3, c4, c5, c6, c7, c8, c9] : List Value).drop 1).take (Try.prog.cellsOf 3)) = some (d1, ps') := by obtain ⟨_, p_, e_, h_⟩ := hf 1 _ rfl; obtain rfl := Option.some.inj e_; exact ⟨p_, h_⟩
  rw [show Try.prog.cellsOf 3 = 1 from by kernel_rfl] at h1
  obtain ⟨z1, e1, w1, b1⟩ := (OpnU.int Try.underlying3) _ _ _ _ _ h1
  replace b1 : 1 ≤ Rows.uptoBulk d1 := b1
  replace e1 : [c1] = [.int .i64 z1] := e1
  simp only [List.cons.injEq, and_true] at e1
  obtain ⟨ps2, h2⟩ : ∃ ps', DataW.trod enc Try.prog W 0 (fun _ => true) held n 4 ((([c0, c1, c2, c3, c4, c5, c6, c7, c8, c9] : List Value).drop 2).take (Try.prog.cellsOf 4)) = some (d2, ps') := by obtain ⟨_, p_, e_, h_⟩ := hf 2 _ rfl; obtain rfl := Option.some.inj e_; exact ⟨p_, h_⟩
  rw [show Try.prog.cellsOf 4 = 1 from by kernel_rfl] at h2
  obtain ⟨z2, e2, w2, b2⟩ := (OpnU.bool Try.underlying4) _ _ _ _ _ h2
  replace b2 : 1 ≤ Rows.uptoBulk d2 := b2
  replace e2 : [c2] = [.bool z2] := e2
  simp only [List.cons.injEq, and_true] at e2
  obtain ⟨ps3, h3⟩ : ∃ ps', DataW.trod enc Try.prog W 0 (fun _ => true) held n 4 ((([c0, c1, c2, c3, c4, c5, c6, c7, c8, c9] : List Value).drop 3).take (Try.prog.cellsOf 4)) = some (d3, ps') := by obtain ⟨_, p_, e_, h_⟩ := hf 3 _ rfl; obtain rfl := Option.some.inj e_; exact ⟨p_, h_⟩
  rw [show Try.prog.cellsOf 4 = 1 from by kernel_rfl] at h3
  obtain ⟨z3, e3, w3, b3⟩ := (OpnU.bool Try.underlying4) _ _ _ _ _ h3
  replace b3 : 1 ≤ Rows.uptoBulk d3 := b3
  replace e3 : [c3] = [.bool z3] := e3
  simp only [List.cons.injEq, and_true] at e3
  obtain ⟨ps4, h4⟩ : ∃ ps', DataW.trod enc Try.prog W 0 (fun _ => true) held n 4 ((([c0, c1, c2, c3, c4, c5, c6, c7, c8, c9] : List Value).drop 4).take (Try.prog.cellsOf 4)) = some (d4, ps') := by obtain ⟨_, p_, e_, h_⟩ := hf 4 _ rfl; obtain rfl := Option.some.inj e_; exact ⟨p_, h_⟩
  rw [show Try.prog.cellsOf 4 = 1 from by kernel_rfl] at h4
  obtain ⟨z4, e4, w4, b4⟩ := (OpnU.bool Try.underlying4) _ _ _ _ _ h4
  replace b4 : 1 ≤ Rows.uptoBulk d4 := b4
  replace e4 : [c4] = [.bool z4] := e4
  simp only [List.cons.injEq, and_true] at e4
  obtain ⟨ps5, h5⟩ : ∃ ps', DataW.trod enc Try.prog W 0 (fun _ => true) held n 4 ((([c0, c1, c2, c3, c4, c5, c6, c7, c8, c9] : List Value).drop 5).take (Try.prog.cellsOf 4)) = some (d5, ps') := by obtain ⟨_, p_, e_, h_⟩ := hf 5 _ rfl; obtain rfl := Option.some.inj e_; exact ⟨p_, h_⟩
  rw [show Try.prog.cellsOf 4 = 1 from by kernel_rfl] at h5
  obtain ⟨z5, e5, w5, b5⟩ := (OpnU.bool Try.underlying4) _ _ _ _ _ h5
  replace b5 : 1 ≤ Rows.uptoBulk d5 := b5
  replace e5 : [c5] = [.bool z5] := e5
  simp only [List.cons.injEq, and_true] at e5
  obtain ⟨ps6, h6⟩ : ∃ ps', DataW.trod enc Try.prog W 0 (fun _ => true) held n 4 ((([c0, c1, c2, c3, c4, c5, c6, c7, c8, c9] : List Value).drop 6).take (Try.prog.cellsOf 4)) = some (d6, ps') := by obtain ⟨_, p_, e_, h_⟩ := hf 6 _ rfl; obtain rfl := Option.some.inj e_; exact ⟨p_, h_⟩
  rw [show Try.prog.cellsOf 4 = 1 from by kernel_rfl] at h6
  obtain ⟨z6, e6, w6, b6⟩ := (OpnU.bool Try.underlying4) _ _ _ _ _ h6
  replace b6 : 1 ≤ Rows.uptoBulk d6 := b6
  replace e6 : [c6] = [.bool z6] := e6
  simp only [List.cons.injEq, and_true] at e6
  obtain ⟨ps7, h7⟩ : ∃ ps', DataW.trod enc Try.prog W 0 (fun _ => true) held n 4 ((([c0, c1, c2, c3, c4, c5, c6, c7, c8, c9] : List Value).drop 7).take (Try.prog.cellsOf 4)) = some (d7, ps') := by obtain ⟨_, p_, e_, h_⟩ := hf 7 _ rfl; obtain rfl := Option.some.inj e_; exact ⟨p_, h_⟩
  rw [show Try.prog.cellsOf 4 = 1 from by kernel_rfl] at h7
  obtain ⟨z7, e7, w7, b7⟩ := (OpnU.bool Try.underlying4) _ _ _ _ _ h7
  replace b7 : 1 ≤ Rows.uptoBulk d7 := b7
  replace e7 : [c7] = [.bool z7] := e7
  simp only [List.cons.injEq, and_true] at e7
  obtain ⟨ps8, h8⟩ : ∃ ps', DataW.trod enc Try.prog W 0 (fun _ => true) held n 4 ((([c0, c1, c2, c3, c4, c5, c6, c7, c8, c9] : List Value).drop 8).take (Try.prog.cellsOf 4)) = some (d8, ps') := by obtain ⟨_, p_, e_, h_⟩ := hf 8 _ rfl; obtain rfl := Option.some.inj e_; exact ⟨p_, h_⟩
  rw [show Try.prog.cellsOf 4 = 1 from by kernel_rfl] at h8
  obtain ⟨z8, e8, w8, b8⟩ := (OpnU.bool Try.underlying4) _ _ _ _ _ h8
  replace b8 : 1 ≤ Rows.uptoBulk d8 := b8
  replace e8 : [c8] = [.bool z8] := e8
  simp only [List.cons.injEq, and_true] at e8
  obtain ⟨ps9, h9⟩ : ∃ ps', DataW.trod enc Try.prog W 0 (fun _ => true) held n 4 ((([c0, c1, c2, c3, c4, c5, c6, c7, c8, c9] : List Value).drop 9).take (Try.prog.cellsOf 4)) = some (d9, ps') := by obtain ⟨_, p_, e_, h_⟩ := hf 9 _ rfl; obtain rfl := Option.some.inj e_; exact ⟨p_, h_⟩
  rw [show Try.prog.cellsOf 4 = 1 from by kernel_rfl] at h9
  obtain ⟨z9, e9, w9, b9⟩ := (OpnU.bool Try.underlying4) _ _ _ _ _ h9
  replace b9 : 1 ≤ Rows.uptoBulk d9 := b9
  replace e9 : [c9] = [.bool z9] := e9
  simp only [List.cons.injEq, and_true] at e9
  obtain rfl := e0
  obtain rfl := e1
  obtain rfl := e2
  obtain rfl := e3
  obtain rfl := e4
  obtain rfl := e5
  obtain rfl := e6
  obtain rfl := e7
  obtain rfl := e8
  obtain rfl := e9
  exact ⟨⟨z0, z1, z2, z3, z4, z5, z6, z7, z8, z9⟩, (by rfl), ⟨w0, w1, w2, w3, w4, w5, w6, w7, w8, w9⟩, (by rw [bulk_agg]; simp only [bulkAll1, bulkAll0, bk70]; omega)⟩
def wf76 (x : S76) : Prop := (Lit.int .i32 x.f0).wf = true ∧ wf74 x.f1 ∧ (Lit.int .u8 x.f2).wf = true ∧ wf70 x.f3
def bk76 (x : S76) : Nat := 1 + bk74 x.f1 + 1 + bk70 x.f3 + 1
set_option maxRecDepth 100000 in
set_option maxHeartbeats 1000000 in
theorem opn76 {H : Type} {enc : TypeId × Value → H} {W : World} : OpnU enc Try.prog W 76 k76 wf76 bk76 := fun held fuel cs d ps h => by
  obtain ⟨n, parts, hl, rfl, hpl, hf⟩ := trod_fieldU Try.underlying76 h
  rw [show Try.prog.cellsOf 76 = 15 from by kernel_rfl] at hl
  obtain ⟨c0, c1, c2, c3, c4, c5, c6, c7, c8, c9, c10, c11, c12, c13, c14, rfl⟩ : ∃ c0 c1 c2 c3 c4 c5 c6 c7 c8 c9 c10 c11 c12 c13 c14, cs = (c0 :: c1 :: c2 :: c3 :: c4 :: c5 :: c6 :: c7 :: c8 :: c9 :: c10 :: c11 :: c12 :: c13 :: c14 :: []) := by
    match cs, hl with
    | c0 :: c1 :: c2 :: c3 :: c4 :: c5 :: c6 :: c7 :: c8 :: c9 :: c10 :: c11 :: c12 :: c13 :: c14 :: [], _ => exact ⟨c0, c1, c2, c3, c4, c5, c6, c7, c8, c9, c10, c11, c12, c13, c14, rfl⟩
  obtain ⟨d0, d1, d2, d3, rfl⟩ : ∃ d0 d1 d2 d3, parts = [d0, d1, d2, d3] := by
    match parts, hpl with
    | [d0, d1, d2, d3], _ => exact ⟨d0, d1, d2, d3, rfl⟩
  obtain ⟨ps0, h0⟩ : ∃ ps', DataW.trod enc Try.prog W 0 (fun _ => true) held n 21 ((((c0 :: c1 :: c2 :: c3 :: c4 :: c5 :: c6 :: c7 :: c8 :: c9 :: c10 :: c11 :: c12 :: c13 :: c14 :: []) : List Value).drop 0).take (Try.prog.cellsOf 21)) = some (d0, ps') := by obtain ⟨_, p_, e_, h_⟩ := hf 0 _ rfl; obtain rfl := Option.some.inj e_; exact ⟨p_, h_⟩
  rw [show Try.prog.cellsOf 21 = 1 from by kernel_rfl] at h0
  obtain ⟨z0, e0, w0, b0⟩ := (OpnU.int Try.underlying21) _ _ _ _ _ h0
  replace b0 : 1 ≤ Rows.uptoBulk d0 := b0
  replace e0 : [c0] = [.int .i32 z0] := e0
  simp only [List.cons.injEq, and_true] at e0
  obtain ⟨ps1, h1⟩ : ∃ ps', DataW.trod enc Try.prog W 0 (fun _ => true) held n 74 ((((c0 :: c1 :: c2 :: c3 :: c4 :: c5 :: c6 :: c7 :: c8 :: c9 :: c10 :: c11 :: c12 :: c13 :: c14 :: []) : List Value).drop 1).take (Try.prog.cellsOf 74)) = some (d1, ps') := by obtain ⟨_, p_, e_, h_⟩ := hf 1 _ rfl; obtain rfl := Option.some.inj e_; exact ⟨p_, h_⟩
  rw [show Try.prog.cellsOf 74 = 3 from by kernel_rfl] at h1
  obtain ⟨z1, e1, w1, b1⟩ := opn74 _ _ _ _ _ h1
  replace b1 : bk74 z1 ≤ Rows.uptoBulk d1 := b1
  replace e1 : [c1, c2, c3] = [.int .i32 z1.f0, .int .i32 z1.f1, .int .i32 z1.f2] := e1
  simp only [List.cons.injEq, and_true] at e1
  obtain ⟨ps2, h2⟩ : ∃ ps', DataW.trod enc Try.prog W 0 (fun _ => true) held n 5 ((((c0 :: c1 :: c2 :: c3 :: c4 :: c5 :: c6 :: c7 :: c8 :: c9 :: c10 :: c11 :: c12 :: c13 :: c14 :: []) : List Value).drop 4).take (Try.prog.cellsOf 5)) = some (d2, ps') := by obtain ⟨_, p_, e_, h_⟩ := hf 2 _ rfl; obtain rfl := Option.some.inj e_; exact ⟨p_, h_⟩
  rw [show Try.prog.cellsOf 5 = 1 from by kernel_rfl] at h2
  obtain ⟨z2, e2, w2, b2⟩ := (OpnU.int Try.underlying5) _ _ _ _ _ h2
  replace b2 : 1 ≤ Rows.uptoBulk d2 := b2
  replace e2 : [c4] = [.int .u8 z2] := e2
  simp only [List.cons.injEq, and_true] at e2
  obtain ⟨ps3, h3⟩ : ∃ ps', DataW.trod enc Try.prog W 0 (fun _ => true) held n 70 ((((c0 :: c1 :: c2 :: c3 :: c4 :: c5 :: c6 :: c7 :: c8 :: c9 :: c10 :: c11 :: c12 :: c13 :: c14 :: []) : List Value).drop 5).take (Try.prog.cellsOf 70)) = some (d3, ps') := by obtain ⟨_, p_, e_, h_⟩ := hf 3 _ rfl; obtain rfl := Option.some.inj e_; exact ⟨p_, h_⟩
  rw [show Try.prog.cellsOf 70 = 10 from by kernel_rfl] at h3
  obtain ⟨z3, e3, w3, b3⟩ := opn70 _ _ _ _ _ h3
  replace b3 : bk70 z3 ≤ Rows.uptoBulk d3 := b3
  replace e3 : [c5, c6, c7, c8, c9, c10, c11, c12, c13, c14] = [.int .i64 z3.f0, .int .i64 z3.f1, .bool z3.f2, .bool z3.f3, .bool z3.f4, .bool z3.f5, .bool z3.f6, .bool z3.f7, .bool z3.f8, .bool z3.f9] := e3
  simp only [List.cons.injEq, and_true] at e3
  obtain rfl := e0
  obtain ⟨rfl, rfl, rfl⟩ := e1
  obtain rfl := e2
  obtain ⟨rfl, rfl, rfl, rfl, rfl, rfl, rfl, rfl, rfl, rfl⟩ := e3
  exact ⟨⟨z0, z1, z2, z3⟩, (by rfl), ⟨w0, w1, w2, w3⟩, (by rw [bulk_agg]; simp only [bulkAll1, bulkAll0, bk76]; omega)⟩
def wf67 (x : S67) : Prop := (Lit.int .i64 x.f0).wf = true ∧ (Lit.int .i64 x.f1).wf = true ∧ (∀ y_ ∈ x.f2, wf76 y_)
def bk67 (x : S67) : Nat := 1 + 1 + ((x.f2.map bk76).sum + 1) + 1
set_option maxRecDepth 100000 in
set_option maxHeartbeats 1000000 in
theorem opn67 {H : Type} {enc : TypeId × Value → H} {W : World} : OpnU enc Try.prog W 67 k67 wf67 bk67 := fun held fuel cs d ps h => by
  obtain ⟨n, parts, hl, rfl, hpl, hf⟩ := trod_fieldU Try.underlying67 h
  rw [show Try.prog.cellsOf 67 = 3 from by kernel_rfl] at hl
  obtain ⟨c0, c1, c2, rfl⟩ : ∃ c0 c1 c2, cs = [c0, c1, c2] := by
    match cs, hl with
    | [c0, c1, c2], _ => exact ⟨c0, c1, c2, rfl⟩
  obtain ⟨d0, d1, d2, rfl⟩ : ∃ d0 d1 d2, parts = [d0, d1, d2] := by
    match parts, hpl with
    | [d0, d1, d2], _ => exact ⟨d0, d1, d2, rfl⟩
  obtain ⟨ps0, h0⟩ : ∃ ps', DataW.trod enc Try.prog W 0 (fun _ => true) held n 3 ((([c0, c1, c2] : List Value).drop 0).take (Try.prog.cellsOf 3)) = some (d0, ps') := by obtain ⟨_, p_, e_, h_⟩ := hf 0 _ rfl; obtain rfl := Option.some.inj e_; exact ⟨p_, h_⟩
  rw [show Try.prog.cellsOf 3 = 1 from by kernel_rfl] at h0
  obtain ⟨z0, e0, w0, b0⟩ := (OpnU.int Try.underlying3) _ _ _ _ _ h0
  replace b0 : 1 ≤ Rows.uptoBulk d0 := b0
  replace e0 : [c0] = [.int .i64 z0] := e0
  simp only [List.cons.injEq, and_true] at e0
  obtain ⟨ps1, h1⟩ : ∃ ps', DataW.trod enc Try.prog W 0 (fun _ => true) held n 3 ((([c0, c1, c2] : List Value).drop 1).take (Try.prog.cellsOf 3)) = some (d1, ps') := by obtain ⟨_, p_, e_, h_⟩ := hf 1 _ rfl; obtain rfl := Option.some.inj e_; exact ⟨p_, h_⟩
  rw [show Try.prog.cellsOf 3 = 1 from by kernel_rfl] at h1
  obtain ⟨z1, e1, w1, b1⟩ := (OpnU.int Try.underlying3) _ _ _ _ _ h1
  replace b1 : 1 ≤ Rows.uptoBulk d1 := b1
  replace e1 : [c1] = [.int .i64 z1] := e1
  simp only [List.cons.injEq, and_true] at e1
  obtain ⟨ps2, h2⟩ : ∃ ps', DataW.trod enc Try.prog W 0 (fun _ => true) held n 65 ((([c0, c1, c2] : List Value).drop 2).take (Try.prog.cellsOf 65)) = some (d2, ps') := by obtain ⟨_, p_, e_, h_⟩ := hf 2 _ rfl; obtain rfl := Option.some.inj e_; exact ⟨p_, h_⟩
  rw [show Try.prog.cellsOf 65 = 1 from by kernel_rfl] at h2
  obtain ⟨z2, ⟨bs2, ⟨A3001, c3002, e2, rfl⟩, p2⟩, w2, b2⟩ := (OpnU.sl (e := 76) Try.underlying65 opn76 (by kernel_rfl) (by decide)) _ _ _ _ _ h2
  replace b2 : ((z2.map bk76).sum + 1) ≤ Rows.uptoBulk d2 := b2
  replace e2 : [c2] = [.slice A3001 z2.length c3002] := e2
  simp only [List.cons.injEq, and_true] at e2
  obtain rfl := e0
  obtain rfl := e1
  obtain rfl := e2
  exact ⟨⟨z0, z1, z2⟩, ⟨[Ro k76 A3001 c3002 z2], ⟨A3001, c3002, rfl, rfl⟩, (PersL.cons rfl (p2 _ (by simp)).2 PersL.nil)⟩, ⟨w0, w1, w2⟩, (by rw [bulk_agg]; simp only [bulkAll1, bulkAll0, bk67]; omega)⟩
def wf80 (x : S80) : Prop := (Lit.int .i64 x.f0).wf = true ∧ (Lit.int .i64 x.f1).wf = true ∧ True ∧ True ∧ wf70 x.f4
def bk80 (x : S80) : Nat := 1 + 1 + 1 + 1 + bk70 x.f4 + 1
set_option maxRecDepth 100000 in
set_option maxHeartbeats 1000000 in
theorem opn80 {H : Type} {enc : TypeId × Value → H} {W : World} : OpnU enc Try.prog W 80 k80 wf80 bk80 := fun held fuel cs d ps h => by
  obtain ⟨n, parts, hl, rfl, hpl, hf⟩ := trod_fieldU Try.underlying80 h
  rw [show Try.prog.cellsOf 80 = 14 from by kernel_rfl] at hl
  obtain ⟨c0, c1, c2, c3, c4, c5, c6, c7, c8, c9, c10, c11, c12, c13, rfl⟩ : ∃ c0 c1 c2 c3 c4 c5 c6 c7 c8 c9 c10 c11 c12 c13, cs = (c0 :: c1 :: c2 :: c3 :: c4 :: c5 :: c6 :: c7 :: c8 :: c9 :: c10 :: c11 :: c12 :: c13 :: []) := by
    match cs, hl with
    | c0 :: c1 :: c2 :: c3 :: c4 :: c5 :: c6 :: c7 :: c8 :: c9 :: c10 :: c11 :: c12 :: c13 :: [], _ => exact ⟨c0, c1, c2, c3, c4, c5, c6, c7, c8, c9, c10, c11, c12, c13, rfl⟩
  obtain ⟨d0, d1, d2, d3, d4, rfl⟩ : ∃ d0 d1 d2 d3 d4, parts = [d0, d1, d2, d3, d4] := by
    match parts, hpl with
    | [d0, d1, d2, d3, d4], _ => exact ⟨d0, d1, d2, d3, d4, rfl⟩
  obtain ⟨ps0, h0⟩ : ∃ ps', DataW.trod enc Try.prog W 0 (fun _ => true) held n 3 ((((c0 :: c1 :: c2 :: c3 :: c4 :: c5 :: c6 :: c7 :: c8 :: c9 :: c10 :: c11 :: c12 :: c13 :: []) : List Value).drop 0).take (Try.prog.cellsOf 3)) = some (d0, ps') := by obtain ⟨_, p_, e_, h_⟩ := hf 0 _ rfl; obtain rfl := Option.some.inj e_; exact ⟨p_, h_⟩
  rw [show Try.prog.cellsOf 3 = 1 from by kernel_rfl] at h0
  obtain ⟨z0, e0, w0, b0⟩ := (OpnU.int Try.underlying3) _ _ _ _ _ h0
  replace b0 : 1 ≤ Rows.uptoBulk d0 := b0
  replace e0 : [c0] = [.int .i64 z0] := e0
  simp only [List.cons.injEq, and_true] at e0
  obtain ⟨ps1, h1⟩ : ∃ ps', DataW.trod enc Try.prog W 0 (fun _ => true) held n 3 ((((c0 :: c1 :: c2 :: c3 :: c4 :: c5 :: c6 :: c7 :: c8 :: c9 :: c10 :: c11 :: c12 :: c13 :: []) : List Value).drop 1).take (Try.prog.cellsOf 3)) = some (d1, ps') := by obtain ⟨_, p_, e_, h_⟩ := hf 1 _ rfl; obtain rfl := Option.some.inj e_; exact ⟨p_, h_⟩
  rw [show Try.prog.cellsOf 3 = 1 from by kernel_rfl] at h1
  obtain ⟨z1, e1, w1, b1⟩ := (OpnU.int Try.underlying3) _ _ _ _ _ h1
  replace b1 : 1 ≤ Rows.uptoBulk d1 := b1
  replace e1 : [c1] = [.int .i64 z1] := e1
  simp only [List.cons.injEq, and_true] at e1
  obtain ⟨ps2, h2⟩ : ∃ ps', DataW.trod enc Try.prog W 0 (fun _ => true) held n 4 ((((c0 :: c1 :: c2 :: c3 :: c4 :: c5 :: c6 :: c7 :: c8 :: c9 :: c10 :: c11 :: c12 :: c13 :: []) : List Value).drop 2).take (Try.prog.cellsOf 4)) = some (d2, ps') := by obtain ⟨_, p_, e_, h_⟩ := hf 2 _ rfl; obtain rfl := Option.some.inj e_; exact ⟨p_, h_⟩
  rw [show Try.prog.cellsOf 4 = 1 from by kernel_rfl] at h2
  obtain ⟨z2, e2, w2, b2⟩ := (OpnU.bool Try.underlying4) _ _ _ _ _ h2
  replace b2 : 1 ≤ Rows.uptoBulk d2 := b2
  replace e2 : [c2] = [.bool z2] := e2
  simp only [List.cons.injEq, and_true] at e2
  obtain ⟨ps3, h3⟩ : ∃ ps', DataW.trod enc Try.prog W 0 (fun _ => true) held n 4 ((((c0 :: c1 :: c2 :: c3 :: c4 :: c5 :: c6 :: c7 :: c8 :: c9 :: c10 :: c11 :: c12 :: c13 :: []) : List Value).drop 3).take (Try.prog.cellsOf 4)) = some (d3, ps') := by obtain ⟨_, p_, e_, h_⟩ := hf 3 _ rfl; obtain rfl := Option.some.inj e_; exact ⟨p_, h_⟩
  rw [show Try.prog.cellsOf 4 = 1 from by kernel_rfl] at h3
  obtain ⟨z3, e3, w3, b3⟩ := (OpnU.bool Try.underlying4) _ _ _ _ _ h3
  replace b3 : 1 ≤ Rows.uptoBulk d3 := b3
  replace e3 : [c3] = [.bool z3] := e3
  simp only [List.cons.injEq, and_true] at e3
  obtain ⟨ps4, h4⟩ : ∃ ps', DataW.trod enc Try.prog W 0 (fun _ => true) held n 70 ((((c0 :: c1 :: c2 :: c3 :: c4 :: c5 :: c6 :: c7 :: c8 :: c9 :: c10 :: c11 :: c12 :: c13 :: []) : List Value).drop 4).take (Try.prog.cellsOf 70)) = some (d4, ps') := by obtain ⟨_, p_, e_, h_⟩ := hf 4 _ rfl; obtain rfl := Option.some.inj e_; exact ⟨p_, h_⟩
  rw [show Try.prog.cellsOf 70 = 10 from by kernel_rfl] at h4
  obtain ⟨z4, e4, w4, b4⟩ := opn70 _ _ _ _ _ h4
  replace b4 : bk70 z4 ≤ Rows.uptoBulk d4 := b4
  replace e4 : [c4, c5, c6, c7, c8, c9, c10, c11, c12, c13] = [.int .i64 z4.f0, .int .i64 z4.f1, .bool z4.f2, .bool z4.f3, .bool z4.f4, .bool z4.f5, .bool z4.f6, .bool z4.f7, .bool z4.f8, .bool z4.f9] := e4
  simp only [List.cons.injEq, and_true] at e4
  obtain rfl := e0
  obtain rfl := e1
  obtain rfl := e2
  obtain rfl := e3
  obtain ⟨rfl, rfl, rfl, rfl, rfl, rfl, rfl, rfl, rfl, rfl⟩ := e4
  exact ⟨⟨z0, z1, z2, z3, z4⟩, (by rfl), ⟨w0, w1, w2, w3, w4⟩, (by rw [bulk_agg]; simp only [bulkAll1, bulkAll0, bk80]; omega)⟩
def wf83 (x : S83) : Prop := wf67 x.f0 ∧ (Lit.int .i64 x.f1).wf = true ∧ (Lit.int .i64 x.f2).wf = true ∧ True ∧ wf70 x.f4 ∧ (Lit.int .i64 x.f5).wf = true ∧ (Lit.int .i64 x.f6).wf = true ∧ (∀ y_ ∈ x.f7, (Lit.int .i64 y_).wf = true) ∧ True ∧ True ∧ True ∧ True ∧ True ∧ True ∧ wf80 x.f14 ∧ True ∧ wf67 x.f16 ∧ (∀ y_ ∈ x.f17, (Lit.int .i32 y_).wf = true)
def bk83 (x : S83) : Nat := bk67 x.f0 + 1 + 1 + 1 + bk70 x.f4 + 1 + 1 + ((x.f7.map (fun _ : Int => 1)).sum + 1) + 1 + 1 + 1 + 1 + 1 + 1 + bk80 x.f14 + 1 + bk67 x.f16 + ((x.f17.map (fun _ : Int => 1)).sum + 1) + 1
set_option maxRecDepth 100000 in
set_option maxHeartbeats 1000000 in
theorem opn83 {H : Type} {enc : TypeId × Value → H} {W : World} : OpnU enc Try.prog W 83 k83 wf83 bk83 := fun held fuel cs d ps h => by
  obtain ⟨n, parts, hl, rfl, hpl, hf⟩ := trod_fieldU Try.underlying83 h
  rw [show Try.prog.cellsOf 83 = 44 from by kernel_rfl] at hl
  obtain ⟨c0, c1, c2, c3, c4, c5, c6, c7, c8, c9, c10, c11, c12, c13, c14, c15, c16, c17, c18, c19, c20, c21, c22, c23, c24, c25, c26, c27, c28, c29, c30, c31, c32, c33, c34, c35, c36, c37, c38, c39, c40, c41, c42, c43, rfl⟩ : ∃ c0 c1 c2 c3 c4 c5 c6 c7 c8 c9 c10 c11 c12 c13 c14 c15 c16 c17 c18 c19 c20 c21 c22 c23 c24 c25 c26 c27 c28 c29 c30 c31 c32 c33 c34 c35 c36 c37 c38 c39 c40 c41 c42 c43, cs = (c0 :: c1 :: c2 :: c3 :: c4 :: c5 :: c6 :: c7 :: c8 :: c9 :: c10 :: c11 :: c12 :: c13 :: c14 :: c15 :: c16 :: c17 :: c18 :: c19 :: c20 :: c21 :: c22 :: c23 :: c24 :: c25 :: c26 :: c27 :: c28 :: c29 :: c30 :: c31 :: c32 :: c33 :: c34 :: c35 :: c36 :: c37 :: c38 :: c39 :: c40 :: c41 :: c42 :: c43 :: []) := by
    match cs, hl with
    | c0 :: c1 :: c2 :: c3 :: c4 :: c5 :: c6 :: c7 :: c8 :: c9 :: c10 :: c11 :: c12 :: c13 :: c14 :: c15 :: c16 :: c17 :: c18 :: c19 :: c20 :: c21 :: c22 :: c23 :: c24 :: c25 :: c26 :: c27 :: c28 :: c29 :: c30 :: c31 :: c32 :: c33 :: c34 :: c35 :: c36 :: c37 :: c38 :: c39 :: c40 :: c41 :: c42 :: c43 :: [], _ => exact ⟨c0, c1, c2, c3, c4, c5, c6, c7, c8, c9, c10, c11, c12, c13, c14, c15, c16, c17, c18, c19, c20, c21, c22, c23, c24, c25, c26, c27, c28, c29, c30, c31, c32, c33, c34, c35, c36, c37, c38, c39, c40, c41, c42, c43, rfl⟩
  obtain ⟨d0, d1, d2, d3, d4, d5, d6, d7, d8, d9, d10, d11, d12, d13, d14, d15, d16, d17, rfl⟩ : ∃ d0 d1 d2 d3 d4 d5 d6 d7 d8 d9 d10 d11 d12 d13 d14 d15 d16 d17, parts = (d0 :: d1 :: d2 :: d3 :: d4 :: d5 :: d6 :: d7 :: d8 :: d9 :: d10 :: d11 :: d12 :: d13 :: d14 :: d15 :: d16 :: d17 :: []) := by
    match parts, hpl with
    | d0 :: d1 :: d2 :: d3 :: d4 :: d5 :: d6 :: d7 :: d8 :: d9 :: d10 :: d11 :: d12 :: d13 :: d14 :: d15 :: d16 :: d17 :: [], _ => exact ⟨d0, d1, d2, d3, d4, d5, d6, d7, d8, d9, d10, d11, d12, d13, d14, d15, d16, d17, rfl⟩
  obtain ⟨ps0, h0⟩ : ∃ ps', DataW.trod enc Try.prog W 0 (fun _ => true) held n 67 ((((c0 :: c1 :: c2 :: c3 :: c4 :: c5 :: c6 :: c7 :: c8 :: c9 :: c10 :: c11 :: c12 :: c13 :: c14 :: c15 :: c16 :: c17 :: c18 :: c19 :: c20 :: c21 :: c22 :: c23 :: c24 :: c25 :: c26 :: c27 :: c28 :: c29 :: c30 :: c31 :: c32 :: c33 :: c34 :: c35 :: c36 :: c37 :: c38 :: c39 :: c40 :: c41 :: c42 :: c43 :: []) : List Value).drop 0).take (Try.prog.cellsOf 67)) = some (d0, ps') := by obtain ⟨_, p_, e_, h_⟩ := hf 0 _ rfl; obtain rfl := Option.some.inj e_; exact ⟨p_, h_⟩
  rw [show Try.prog.cellsOf 67 = 3 from by kernel_rfl] at h0
  obtain ⟨z0, ⟨bs0, ⟨A1001, c1002, e0, rfl⟩, p0⟩, w0, b0⟩ := opn67 _ _ _ _ _ h0
  replace b0 : bk67 z0 ≤ Rows.uptoBulk d0 := b0
  replace e0 : [c0, c1, c2] = [.int .i64 z0.f0, .int .i64 z0.f1, .slice A1001 z0.f2.length c1002] := e0
  simp only [List.cons.injEq, and_true] at e0
  obtain ⟨ps1, h1⟩ : ∃ ps', DataW.trod enc Try.prog W 0 (fun _ => true) held n 3 ((((c0 :: c1 :: c2 :: c3 :: c4 :: c5 :: c6 :: c7 :: c8 :: c9 :: c10 :: c11 :: c12 :: c13 :: c14 :: c15 :: c16 :: c17 :: c18 :: c19 :: c20 :: c21 :: c22 :: c23 :: c24 :: c25 :: c26 :: c27 :: c28 :: c29 :: c30 :: c31 :: c32 :: c33 :: c34 :: c35 :: c36 :: c37 :: c38 :: c39 :: c40 :: c41 :: c42 :: c43 :: []) : List Value).drop 3).take (Try.prog.cellsOf 3)) = some (d1, ps') := by obtain ⟨_, p_, e_, h_⟩ := hf 1 _ rfl; obtain rfl := Option.some.inj e_; exact ⟨p_, h_⟩
  rw [show Try.prog.cellsOf 3 = 1 from by kernel_rfl] at h1
  obtain ⟨z1, e1, w1, b1⟩ := (OpnU.int Try.underlying3) _ _ _ _ _ h1
  replace b1 : 1 ≤ Rows.uptoBulk d1 := b1
  replace e1 : [c3] = [.int .i64 z1] := e1
  simp only [List.cons.injEq, and_true] at e1
  obtain ⟨ps2, h2⟩ : ∃ ps', DataW.trod enc Try.prog W 0 (fun _ => true) held n 3 ((((c0 :: c1 :: c2 :: c3 :: c4 :: c5 :: c6 :: c7 :: c8 :: c9 :: c10 :: c11 :: c12 :: c13 :: c14 :: c15 :: c16 :: c17 :: c18 :: c19 :: c20 :: c21 :: c22 :: c23 :: c24 :: c25 :: c26 :: c27 :: c28 :: c29 :: c30 :: c31 :: c32 :: c33 :: c34 :: c35 :: c36 :: c37 :: c38 :: c39 :: c40 :: c41 :: c42 :: c43 :: []) : List Value).drop 4).take (Try.prog.cellsOf 3)) = some (d2, ps') := by obtain ⟨_, p_, e_, h_⟩ := hf 2 _ rfl; obtain rfl := Option.some.inj e_; exact ⟨p_, h_⟩
  rw [show Try.prog.cellsOf 3 = 1 from by kernel_rfl] at h2
  obtain ⟨z2, e2, w2, b2⟩ := (OpnU.int Try.underlying3) _ _ _ _ _ h2
  replace b2 : 1 ≤ Rows.uptoBulk d2 := b2
  replace e2 : [c4] = [.int .i64 z2] := e2
  simp only [List.cons.injEq, and_true] at e2
  obtain ⟨ps3, h3⟩ : ∃ ps', DataW.trod enc Try.prog W 0 (fun _ => true) held n 4 ((((c0 :: c1 :: c2 :: c3 :: c4 :: c5 :: c6 :: c7 :: c8 :: c9 :: c10 :: c11 :: c12 :: c13 :: c14 :: c15 :: c16 :: c17 :: c18 :: c19 :: c20 :: c21 :: c22 :: c23 :: c24 :: c25 :: c26 :: c27 :: c28 :: c29 :: c30 :: c31 :: c32 :: c33 :: c34 :: c35 :: c36 :: c37 :: c38 :: c39 :: c40 :: c41 :: c42 :: c43 :: []) : List Value).drop 5).take (Try.prog.cellsOf 4)) = some (d3, ps') := by obtain ⟨_, p_, e_, h_⟩ := hf 3 _ rfl; obtain rfl := Option.some.inj e_; exact ⟨p_, h_⟩
  rw [show Try.prog.cellsOf 4 = 1 from by kernel_rfl] at h3
  obtain ⟨z3, e3, w3, b3⟩ := (OpnU.bool Try.underlying4) _ _ _ _ _ h3
  replace b3 : 1 ≤ Rows.uptoBulk d3 := b3
  replace e3 : [c5] = [.bool z3] := e3
  simp only [List.cons.injEq, and_true] at e3
  obtain ⟨ps4, h4⟩ : ∃ ps', DataW.trod enc Try.prog W 0 (fun _ => true) held n 70 ((((c0 :: c1 :: c2 :: c3 :: c4 :: c5 :: c6 :: c7 :: c8 :: c9 :: c10 :: c11 :: c12 :: c13 :: c14 :: c15 :: c16 :: c17 :: c18 :: c19 :: c20 :: c21 :: c22 :: c23 :: c24 :: c25 :: c26 :: c27 :: c28 :: c29 :: c30 :: c31 :: c32 :: c33 :: c34 :: c35 :: c36 :: c37 :: c38 :: c39 :: c40 :: c41 :: c42 :: c43 :: []) : List Value).drop 6).take (Try.prog.cellsOf 70)) = some (d4, ps') := by obtain ⟨_, p_, e_, h_⟩ := hf 4 _ rfl; obtain rfl := Option.some.inj e_; exact ⟨p_, h_⟩
  rw [show Try.prog.cellsOf 70 = 10 from by kernel_rfl] at h4
  obtain ⟨z4, e4, w4, b4⟩ := opn70 _ _ _ _ _ h4
  replace b4 : bk70 z4 ≤ Rows.uptoBulk d4 := b4
  replace e4 : [c6, c7, c8, c9, c10, c11, c12, c13, c14, c15] = [.int .i64 z4.f0, .int .i64 z4.f1, .bool z4.f2, .bool z4.f3, .bool z4.f4, .bool z4.f5, .bool z4.f6, .bool z4.f7, .bool z4.f8, .bool z4.f9] := e4
  simp only [List.cons.injEq, and_true] at e4
  obtain ⟨ps5, h5⟩ : ∃ ps', DataW.trod enc Try.prog W 0 (fun _ => true) held n 3 ((((c0 :: c1 :: c2 :: c3 :: c4 :: c5 :: c6 :: c7 :: c8 :: c9 :: c10 :: c11 :: c12 :: c13 :: c14 :: c15 :: c16 :: c17 :: c18 :: c19 :: c20 :: c21 :: c22 :: c23 :: c24 :: c25 :: c26 :: c27 :: c28 :: c29 :: c30 :: c31 :: c32 :: c33 :: c34 :: c35 :: c36 :: c37 :: c38 :: c39 :: c40 :: c41 :: c42 :: c43 :: []) : List Value).drop 16).take (Try.prog.cellsOf 3)) = some (d5, ps') := by obtain ⟨_, p_, e_, h_⟩ := hf 5 _ rfl; obtain rfl := Option.some.inj e_; exact ⟨p_, h_⟩
  rw [show Try.prog.cellsOf 3 = 1 from by kernel_rfl] at h5
  obtain ⟨z5, e5, w5, b5⟩ := (OpnU.int Try.underlying3) _ _ _ _ _ h5
  replace b5 : 1 ≤ Rows.uptoBulk d5 := b5
  replace e5 : [c16] = [.int .i64 z5] := e5
  simp only [List.cons.injEq, and_true] at e5
  obtain ⟨ps6, h6⟩ : ∃ ps', DataW.trod enc Try.prog W 0 (fun _ => true) held n 3 ((((c0 :: c1 :: c2 :: c3 :: c4 :: c5 :: c6 :: c7 :: c8 :: c9 :: c10 :: c11 :: c12 :: c13 :: c14 :: c15 :: c16 :: c17 :: c18 :: c19 :: c20 :: c21 :: c22 :: c23 :: c24 :: c25 :: c26 :: c27 :: c28 :: c29 :: c30 :: c31 :: c32 :: c33 :: c34 :: c35 :: c36 :: c37 :: c38 :: c39 :: c40 :: c41 :: c42 :: c43 :: []) : List Value).drop 17).take (Try.prog.cellsOf 3)) = some (d6, ps') := by obtain ⟨_, p_, e_, h_⟩ := hf 6 _ rfl; obtain rfl := Option.some.inj e_; exact ⟨p_, h_⟩
  rw [show Try.prog.cellsOf 3 = 1 from by kernel_rfl] at h6
  obtain ⟨z6, e6, w6, b6⟩ := (OpnU.int Try.underlying3) _ _ _ _ _ h6
  replace b6 : 1 ≤ Rows.uptoBulk d6 := b6
  replace e6 : [c17] = [.int .i64 z6] := e6
  simp only [List.cons.injEq, and_true] at e6
  obtain ⟨ps7, h7⟩ : ∃ ps', DataW.trod enc Try.prog W 0 (fun _ => true) held n 78 ((((c0 :: c1 :: c2 :: c3 :: c4 :: c5 :: c6 :: c7 :: c8 :: c9 :: c10 :: c11 :: c12 :: c13 :: c14 :: c15 :: c16 :: c17 :: c18 :: c19 :: c20 :: c21 :: c22 :: c23 :: c24 :: c25 :: c26 :: c27 :: c28 :: c29 :: c30 :: c31 :: c32 :: c33 :: c34 :: c35 :: c36 :: c37 :: c38 :: c39 :: c40 :: c41 :: c42 :: c43 :: []) : List Value).drop 18).take (Try.prog.cellsOf 78)) = some (d7, ps') := by obtain ⟨_, p_, e_, h_⟩ := hf 7 _ rfl; obtain rfl := Option.some.inj e_; exact ⟨p_, h_⟩
  rw [show Try.prog.cellsOf 78 = 1 from by kernel_rfl] at h7
  obtain ⟨z7, ⟨bs7, ⟨A8001, c8002, e7, rfl⟩, p7⟩, w7, b7⟩ := (OpnU.sl (e := 3) Try.underlying78 (OpnU.int Try.underlying3) (by kernel_rfl) (by decide)) _ _ _ _ _ h7
  replace b7 : ((z7.map (fun _ : Int => 1)).sum + 1) ≤ Rows.uptoBulk d7 := b7
  replace e7 : [c18] = [.slice A8001 z7.length c8002] := e7
  simp only [List.cons.injEq, and_true] at e7
  obtain ⟨ps8, h8⟩ : ∃ ps', DataW.trod enc Try.prog W 0 (fun _ => true) held n 4 ((((c0 :: c1 :: c2 :: c3 :: c4 :: c5 :: c6 :: c7 :: c8 :: c9 :: c10 :: c11 :: c12 :: c13 :: c14 :: c15 :: c16 :: c17 :: c18 :: c19 :: c20 :: c21 :: c22 :: c23 :: c24 :: c25 :: c26 :: c27 :: c28 :: c29 :: c30 :: c31 :: c32 :: c33 :: c34 :: c35 :: c36 :: c37 :: c38 :: c39 :: c40 :: c41 :: c42 :: c43 :: []) : List Value).drop 19).take (Try.prog.cellsOf 4)) = some (d8, ps') := by obtain ⟨_, p_, e_, h_⟩ := hf 8 _ rfl; obtain rfl := Option.some.inj e_; exact ⟨p_, h_⟩
  rw [show Try.prog.cellsOf 4 = 1 from by kernel_rfl] at h8
  obtain ⟨z8, e8, w8, b8⟩ := (OpnU.bool Try.underlying4) _ _ _ _ _ h8
  replace b8 : 1 ≤ Rows.uptoBulk d8 := b8
  replace e8 : [c19] = [.bool z8] := e8
  simp only [List.cons.injEq, and_true] at e8
  obtain ⟨ps9, h9⟩ : ∃ ps', DataW.trod enc Try.prog W 0 (fun _ => true) held n 4 ((((c0 :: c1 :: c2 :: c3 :: c4 :: c5 :: c6 :: c7 :: c8 :: c9 :: c10 :: c11 :: c12 :: c13 :: c14 :: c15 :: c16 :: c17 :: c18 :: c19 :: c20 :: c21 :: c22 :: c23 :: c24 :: c25 :: c26 :: c27 :: c28 :: c29 :: c30 :: c31 :: c32 :: c33 :: c34 :: c35 :: c36 :: c37 :: c38 :: c39 :: c40 :: c41 :: c42 :: c43 :: []) : List Value).drop 20).take (Try.prog.cellsOf 4)) = some (d9, ps') := by obtain ⟨_, p_, e_, h_⟩ := hf 9 _ rfl; obtain rfl := Option.some.inj e_; exact ⟨p_, h_⟩
  rw [show Try.prog.cellsOf 4 = 1 from by kernel_rfl] at h9
  obtain ⟨z9, e9, w9, b9⟩ := (OpnU.bool Try.underlying4) _ _ _ _ _ h9
  replace b9 : 1 ≤ Rows.uptoBulk d9 := b9
  replace e9 : [c20] = [.bool z9] := e9
  simp only [List.cons.injEq, and_true] at e9
  obtain ⟨ps10, h10⟩ : ∃ ps', DataW.trod enc Try.prog W 0 (fun _ => true) held n 4 ((((c0 :: c1 :: c2 :: c3 :: c4 :: c5 :: c6 :: c7 :: c8 :: c9 :: c10 :: c11 :: c12 :: c13 :: c14 :: c15 :: c16 :: c17 :: c18 :: c19 :: c20 :: c21 :: c22 :: c23 :: c24 :: c25 :: c26 :: c27 :: c28 :: c29 :: c30 :: c31 :: c32 :: c33 :: c34 :: c35 :: c36 :: c37 :: c38 :: c39 :: c40 :: c41 :: c42 :: c43 :: []) : List Value).drop 21).take (Try.prog.cellsOf 4)) = some (d10, ps') := by obtain ⟨_, p_, e_, h_⟩ := hf 10 _ rfl; obtain rfl := Option.some.inj e_; exact ⟨p_, h_⟩
  rw [show Try.prog.cellsOf 4 = 1 from by kernel_rfl] at h10
  obtain ⟨z10, e10, w10, b10⟩ := (OpnU.bool Try.underlying4) _ _ _ _ _ h10
  replace b10 : 1 ≤ Rows.uptoBulk d10 := b10
  replace e10 : [c21] = [.bool z10] := e10
  simp only [List.cons.injEq, and_true] at e10
  obtain ⟨ps11, h11⟩ : ∃ ps', DataW.trod enc Try.prog W 0 (fun _ => true) held n 4 ((((c0 :: c1 :: c2 :: c3 :: c4 :: c5 :: c6 :: c7 :: c8 :: c9 :: c10 :: c11 :: c12 :: c13 :: c14 :: c15 :: c16 :: c17 :: c18 :: c19 :: c20 :: c21 :: c22 :: c23 :: c24 :: c25 :: c26 :: c27 :: c28 :: c29 :: c30 :: c31 :: c32 :: c33 :: c34 :: c35 :: c36 :: c37 :: c38 :: c39 :: c40 :: c41 :: c42 :: c43 :: []) : List Value).drop 22).take (Try.prog.cellsOf 4)) = some (d11, ps') := by obtain ⟨_, p_, e_, h_⟩ := hf 11 _ rfl; obtain rfl := Option.some.inj e_; exact ⟨p_, h_⟩
  rw [show Try.prog.cellsOf 4 = 1 from by kernel_rfl] at h11
  obtain ⟨z11, e11, w11, b11⟩ := (OpnU.bool Try.underlying4) _ _ _ _ _ h11
  replace b11 : 1 ≤ Rows.uptoBulk d11 := b11
  replace e11 : [c22] = [.bool z11] := e11
  simp only [List.cons.injEq, and_true] at e11
  obtain ⟨ps12, h12⟩ : ∃ ps', DataW.trod enc Try.prog W 0 (fun _ => true) held n 4 ((((c0 :: c1 :: c2 :: c3 :: c4 :: c5 :: c6 :: c7 :: c8 :: c9 :: c10 :: c11 :: c12 :: c13 :: c14 :: c15 :: c16 :: c17 :: c18 :: c19 :: c20 :: c21 :: c22 :: c23 :: c24 :: c25 :: c26 :: c27 :: c28 :: c29 :: c30 :: c31 :: c32 :: c33 :: c34 :: c35 :: c36 :: c37 :: c38 :: c39 :: c40 :: c41 :: c42 :: c43 :: []) : List Value).drop 23).take (Try.prog.cellsOf 4)) = some (d12, ps') := by obtain ⟨_, p_, e_, h_⟩ := hf 12 _ rfl; obtain rfl := Option.some.inj e_; exact ⟨p_, h_⟩
  rw [show Try.prog.cellsOf 4 = 1 from by kernel_rfl] at h12
  obtain ⟨z12, e12, w12, b12⟩ := (OpnU.bool Try.underlying4) _ _ _ _ _ h12
  replace b12 : 1 ≤ Rows.uptoBulk d12 := b12
  replace e12 : [c23] = [.bool z12] := e12
  simp only [List.cons.injEq, and_true] at e12
  obtain ⟨ps13, h13⟩ : ∃ ps', DataW.trod enc Try.prog W 0 (fun _ => true) held n 4 ((((c0 :: c1 :: c2 :: c3 :: c4 :: c5 :: c6 :: c7 :: c8 :: c9 :: c10 :: c11 :: c12 :: c13 :: c14 :: c15 :: c16 :: c17 :: c18 :: c19 :: c20 :: c21 :: c22 :: c23 :: c24 :: c25 :: c26 :: c27 :: c28 :: c29 :: c30 :: c31 :: c32 :: c33 :: c34 :: c35 :: c36 :: c37 :: c38 :: c39 :: c40 :: c41 :: c42 :: c43 :: []) : List Value).drop 24).take (Try.prog.cellsOf 4)) = some (d13, ps') := by obtain ⟨_, p_, e_, h_⟩ := hf 13 _ rfl; obtain rfl := Option.some.inj e_; exact ⟨p_, h_⟩
  rw [show Try.prog.cellsOf 4 = 1 from by kernel_rfl] at h13
  obtain ⟨z13, e13, w13, b13⟩ := (OpnU.bool Try.underlying4) _ _ _ _ _ h13
  replace b13 : 1 ≤ Rows.uptoBulk d13 := b13
  replace e13 : [c24] = [.bool z13] := e13
  simp only [List.cons.injEq, and_true] at e13
  obtain ⟨ps14, h14⟩ : ∃ ps', DataW.trod enc Try.prog W 0 (fun _ => true) held n 80 ((((c0 :: c1 :: c2 :: c3 :: c4 :: c5 :: c6 :: c7 :: c8 :: c9 :: c10 :: c11 :: c12 :: c13 :: c14 :: c15 :: c16 :: c17 :: c18 :: c19 :: c20 :: c21 :: c22 :: c23 :: c24 :: c25 :: c26 :: c27 :: c28 :: c29 :: c30 :: c31 :: c32 :: c33 :: c34 :: c35 :: c36 :: c37 :: c38 :: c39 :: c40 :: c41 :: c42 :: c43 :: []) : List Value).drop 25).take (Try.prog.cellsOf 80)) = some (d14, ps') := by obtain ⟨_, p_, e_, h_⟩ := hf 14 _ rfl; obtain rfl := Option.some.inj e_; exact ⟨p_, h_⟩
  rw [show Try.prog.cellsOf 80 = 14 from by kernel_rfl] at h14
  obtain ⟨z14, e14, w14, b14⟩ := opn80 _ _ _ _ _ h14
  replace b14 : bk80 z14 ≤ Rows.uptoBulk d14 := b14
  replace e14 : (c25 :: c26 :: c27 :: c28 :: c29 :: c30 :: c31 :: c32 :: c33 :: c34 :: c35 :: c36 :: c37 :: c38 :: []) = (.int .i64 z14.f0 :: .int .i64 z14.f1 :: .bool z14.f2 :: .bool z14.f3 :: .int .i64 z14.f4.f0 :: .int .i64 z14.f4.f1 :: .bool z14.f4.f2 :: .bool z14.f4.f3 :: .bool z14.f4.f4 :: .bool z14.f4.f5 :: .bool z14.f4.f6 :: .bool z14.f4.f7 :: .bool z14.f4.f8 :: .bool z14.f4.f9 :: []) := e14
  simp only [List.cons.injEq, and_true] at e14
  obtain ⟨ps15, h15⟩ : ∃ ps', DataW.trod enc Try.prog W 0 (fun _ => true) held n 4 ((((c0 :: c1 :: c2 :: c3 :: c4 :: c5 :: c6 :: c7 :: c8 :: c9 :: c10 :: c11 :: c12 :: c13 :: c14 :: c15 :: c16 :: c17 :: c18 :: c19 :: c20 :: c21 :: c22 :: c23 :: c24 :: c25 :: c26 :: c27 :: c28 :: c29 :: c30 :: c31 :: c32 :: c33 :: c34 :: c35 :: c36 :: c37 :: c38 :: c39 :: c40 :: c41 :: c42 :: c43 :: []) : List Value).drop 39).take (Try.prog.cellsOf 4)) = some (d15, ps') := by obtain ⟨_, p_, e_, h_⟩ := hf 15 _ rfl; obtain rfl := Option.some.inj e_; exact ⟨p_, h_⟩
  rw [show Try.prog.cellsOf 4 = 1 from by kernel_rfl] at h15
  obtain ⟨z15, e15, w15, b15⟩ := (OpnU.bool Try.underlying4) _ _ _ _ _ h15
  replace b15 : 1 ≤ Rows.uptoBulk d15 := b15
  replace e15 : [c39] = [.bool z15] := e15
  simp only [List.cons.injEq, and_true] at e15
  obtain ⟨ps16, h16⟩ : ∃ ps', DataW.trod enc Try.prog W 0 (fun _ => true) held n 67 ((((c0 :: c1 :: c2 :: c3 :: c4 :: c5 :: c6 :: c7 :: c8 :: c9 :: c10 :: c11 :: c12 :: c13 :: c14 :: c15 :: c16 :: c17 :: c18 :: c19 :: c20 :: c21 :: c22 :: c23 :: c24 :: c25 :: c26 :: c27 :: c28 :: c29 :: c30 :: c31 :: c32 :: c33 :: c34 :: c35 :: c36 :: c37 :: c38 :: c39 :: c40 :: c41 :: c42 :: c43 :: []) : List Value).drop 40).take (Try.prog.cellsOf 67)) = some (d16, ps') := by obtain ⟨_, p_, e_, h_⟩ := hf 16 _ rfl; obtain rfl := Option.some.inj e_; exact ⟨p_, h_⟩
  rw [show Try.prog.cellsOf 67 = 3 from by kernel_rfl] at h16
  obtain ⟨z16, ⟨bs16, ⟨A17001, c17002, e16, rfl⟩, p16⟩, w16, b16⟩ := opn67 _ _ _ _ _ h16
  replace b16 : bk67 z16 ≤ Rows.uptoBulk d16 := b16
  replace e16 : [c40, c41, c42] = [.int .i64 z16.f0, .int .i64 z16.f1, .slice A17001 z16.f2.length c17002] := e16
  simp only [List.cons.injEq, and_true] at e16
  obtain ⟨ps17, h17⟩ : ∃ ps', DataW.trod enc Try.prog W 0 (fun _ => true) held n 81 ((((c0 :: c1 :: c2 :: c3 :: c4 :: c5 :: c6 :: c7 :: c8 :: c9 :: c10 :: c11 :: c12 :: c13 :: c14 :: c15 :: c16 :: c17 :: c18 :: c19 :: c20 :: c21 :: c22 :: c23 :: c24 :: c25 :: c26 :: c27 :: c28 :: c29 :: c30 :: c31 :: c32 :: c33 :: c34 :: c35 :: c36 :: c37 :: c38 :: c39 :: c40 :: c41 :: c42 :: c43 :: []) : List Value).drop 43).take (Try.prog.cellsOf 81)) = some (d17, ps') := by obtain ⟨_, p_, e_, h_⟩ := hf 17 _ rfl; obtain rfl := Option.some.inj e_; exact ⟨p_, h_⟩
  rw [show Try.prog.cellsOf 81 = 1 from by kernel_rfl] at h17
  obtain ⟨z17, ⟨bs17, ⟨A18001, c18002, e17, rfl⟩, p17⟩, w17, b17⟩ := (OpnU.sl (e := 21) Try.underlying81 (OpnU.int Try.underlying21) (by kernel_rfl) (by decide)) _ _ _ _ _ h17
  replace b17 : ((z17.map (fun _ : Int => 1)).sum + 1) ≤ Rows.uptoBulk d17 := b17
  replace e17 : [c43] = [.slice A18001 z17.length c18002] := e17
  simp only [List.cons.injEq, and_true] at e17
  obtain ⟨rfl, rfl, rfl⟩ := e0
  obtain rfl := e1
  obtain rfl := e2
  obtain rfl := e3
  obtain ⟨rfl, rfl, rfl, rfl, rfl, rfl, rfl, rfl, rfl, rfl⟩ := e4
  obtain rfl := e5
  obtain rfl := e6
  obtain rfl := e7
  obtain rfl := e8
  obtain rfl := e9
  obtain rfl := e10
  obtain rfl := e11
  obtain rfl := e12
  obtain rfl := e13
  obtain ⟨rfl, rfl, rfl, rfl, rfl, rfl, rfl, rfl, rfl, rfl, rfl, rfl, rfl, rfl⟩ := e14
  obtain rfl := e15
  obtain ⟨rfl, rfl, rfl⟩ := e16
  obtain rfl := e17
  exact ⟨⟨z0, z1, z2, z3, z4, z5, z6, z7, z8, z9, z10, z11, z12, z13, z14, z15, z16, z17⟩, ⟨[Ro k76 A1001 c1002 z0.f2, Ro (Kd.int .i64) A8001 c8002 z7, Ro k76 A17001 c17002 z16.f2, Ro (Kd.int .i32) A18001 c18002 z17], ⟨A1001, c1002, A8001, c8002, A17001, c17002, A18001, c18002, rfl, rfl⟩, (PersL.cons rfl (p0 _ (by simp)).2 (PersL.cons rfl (p7 _ (by simp)).2 (PersL.cons rfl (p16 _ (by simp)).2 (PersL.cons rfl (p17 _ (by simp)).2 PersL.nil))))⟩, ⟨w0, w1, w2, w3, w4, w5, w6, w7, w8, w9, w10, w11, w12, w13, w14, w15, w16, w17⟩, (by rw [bulk_agg]; simp only [bulkAll1, bulkAll0, bk83]; omega)⟩
def wf25 (x : S25) : Prop := (Lit.int .u8 x.f0).wf = true ∧ (∀ y_ ∈ x.f1, (Lit.int .u8 y_).wf = true) ∧ (Lit.int .i64 x.f2).wf = true ∧ (Lit.int .i64 x.f3).wf = true ∧ (Lit.int .u8 x.f4).wf = true
def bk25 (x : S25) : Nat := 1 + ((x.f1.map (fun _ : Int => 1)).sum + 1) + 1 + 1 + 1 + 1
set_option maxRecDepth 100000 in
set_option maxHeartbeats 1000000 in
theorem opn25 {H : Type} {enc : TypeId × Value → H} {W : World} : OpnU enc Try.prog W 25 k25 wf25 bk25 := fun held fuel cs d ps h => by
  obtain ⟨n, parts, hl, rfl, hpl, hf⟩ := trod_fieldU Try.underlying25 h
  rw [show Try.prog.cellsOf 25 = 5 from by kernel_rfl] at hl
  obtain ⟨c0, c1, c2, c3, c4, rfl⟩ : ∃ c0 c1 c2 c3 c4, cs = [c0, c1, c2, c3, c4] := by
    match cs, hl with
    | [c0, c1, c2, c3, c4], _ => exact ⟨c0, c1, c2, c3, c4, rfl⟩
  obtain ⟨d0, d1, d2, d3, d4, rfl⟩ : ∃ d0 d1 d2 d3 d4, parts = [d0, d1, d2, d3, d4] := by
    match parts, hpl with
    | [d0, d1, d2, d3, d4], _ => exact ⟨d0, d1, d2, d3, d4, rfl⟩
  obtain ⟨ps0, h0⟩ : ∃ ps', DataW.trod enc Try.prog W 0 (fun _ => true) held n 22 ((([c0, c1, c2, c3, c4] : List Value).drop 0).take (Try.prog.cellsOf 22)) = some (d0, ps') := by obtain ⟨_, p_, e_, h_⟩ := hf 0 _ rfl; obtain rfl := Option.some.inj e_; exact ⟨p_, h_⟩
  rw [show Try.prog.cellsOf 22 = 1 from by kernel_rfl] at h0
  obtain ⟨z0, e0, w0, b0⟩ := (OpnU.int Try.underlying22) _ _ _ _ _ h0
  replace b0 : 1 ≤ Rows.uptoBulk d0 := b0
  replace e0 : [c0] = [.int .u8 z0] := e0
  simp only [List.cons.injEq, and_true] at e0
  obtain ⟨ps1, h1⟩ : ∃ ps', DataW.trod enc Try.prog W 0 (fun _ => true) held n 23 ((([c0, c1, c2, c3, c4] : List Value).drop 1).take (Try.prog.cellsOf 23)) = some (d1, ps') := by obtain ⟨_, p_, e_, h_⟩ := hf 1 _ rfl; obtain rfl := Option.some.inj e_; exact ⟨p_, h_⟩
  rw [show Try.prog.cellsOf 23 = 1 from by kernel_rfl] at h1
  obtain ⟨z1, ⟨bs1, ⟨A2001, c2002, e1, rfl⟩, p1⟩, w1, b1⟩ := (OpnU.sl (e := 5) Try.underlying23 (OpnU.int Try.underlying5) (by kernel_rfl) (by decide)) _ _ _ _ _ h1
  replace b1 : ((z1.map (fun _ : Int => 1)).sum + 1) ≤ Rows.uptoBulk d1 := b1
  replace e1 : [c1] = [.slice A2001 z1.length c2002] := e1
  simp only [List.cons.injEq, and_true] at e1
  obtain ⟨ps2, h2⟩ : ∃ ps', DataW.trod enc Try.prog W 0 (fun _ => true) held n 3 ((([c0, c1, c2, c3, c4] : List Value).drop 2).take (Try.prog.cellsOf 3)) = some (d2, ps') := by obtain ⟨_, p_, e_, h_⟩ := hf 2 _ rfl; obtain rfl := Option.some.inj e_; exact ⟨p_, h_⟩
  rw [show Try.prog.cellsOf 3 = 1 from by kernel_rfl] at h2
  obtain ⟨z2, e2, w2, b2⟩ := (OpnU.int Try.underlying3) _ _ _ _ _ h2
  replace b2 : 1 ≤ Rows.uptoBulk d2 := b2
  replace e2 : [c2] = [.int .i64 z2] := e2
  simp only [List.cons.injEq, and_true] at e2
  obtain ⟨ps3, h3⟩ : ∃ ps', DataW.trod enc Try.prog W 0 (fun _ => true) held n 3 ((([c0, c1, c2, c3, c4] : List Value).drop 3).take (Try.prog.cellsOf 3)) = some (d3, ps') := by obtain ⟨_, p_, e_, h_⟩ := hf 3 _ rfl; obtain rfl := Option.some.inj e_; exact ⟨p_, h_⟩
  rw [show Try.prog.cellsOf 3 = 1 from by kernel_rfl] at h3
  obtain ⟨z3, e3, w3, b3⟩ := (OpnU.int Try.underlying3) _ _ _ _ _ h3
  replace b3 : 1 ≤ Rows.uptoBulk d3 := b3
  replace e3 : [c3] = [.int .i64 z3] := e3
  simp only [List.cons.injEq, and_true] at e3
  obtain ⟨ps4, h4⟩ : ∃ ps', DataW.trod enc Try.prog W 0 (fun _ => true) held n 5 ((([c0, c1, c2, c3, c4] : List Value).drop 4).take (Try.prog.cellsOf 5)) = some (d4, ps') := by obtain ⟨_, p_, e_, h_⟩ := hf 4 _ rfl; obtain rfl := Option.some.inj e_; exact ⟨p_, h_⟩
  rw [show Try.prog.cellsOf 5 = 1 from by kernel_rfl] at h4
  obtain ⟨z4, e4, w4, b4⟩ := (OpnU.int Try.underlying5) _ _ _ _ _ h4
  replace b4 : 1 ≤ Rows.uptoBulk d4 := b4
  replace e4 : [c4] = [.int .u8 z4] := e4
  simp only [List.cons.injEq, and_true] at e4
  obtain rfl := e0
  obtain rfl := e1
  obtain rfl := e2
  obtain rfl := e3
  obtain rfl := e4
  exact ⟨⟨z0, z1, z2, z3, z4⟩, ⟨[Ro (Kd.int .u8) A2001 c2002 z1], ⟨A2001, c2002, rfl, rfl⟩, (PersL.cons rfl (p1 _ (by simp)).2 PersL.nil)⟩, ⟨w0, w1, w2, w3, w4⟩, (by rw [bulk_agg]; simp only [bulkAll1, bulkAll0, bk25]; omega)⟩
end Go.Proofs.Ytodkeoibebimgaa.Kc

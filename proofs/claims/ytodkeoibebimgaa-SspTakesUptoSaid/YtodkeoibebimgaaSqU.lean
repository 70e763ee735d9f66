/- What data that come in are: their bounds, what they weigh, how they lie. -/
import Derived.Test.YtodkeoibebimgaaSq
import Derived.Test.YtodkeoibebimgaaSlU
namespace Go.Proofs.Ytodkeoibebimgaa.Sq
open Go Go.RowKit Go.Proofs.Ytodkeoibebimgaa.SL
set_option linter.unusedVariables false
set_option linter.unusedSimpArgs false
def wf54 (x : S54) : Prop := (Lit.int .u64 x.f0).wf = true ∧ (Lit.int .u64 x.f1).wf = true ∧ (Lit.int .u64 x.f2).wf = true ∧ (Lit.int .u64 x.f3).wf = true ∧ (∀ y_ ∈ x.f4, (Lit.int .u8 y_).wf = true)
def bk54 (x : S54) : Nat := 1 + 1 + 1 + 1 + ((x.f4.map (fun _ : Int => 1)).sum + 1) + 1
set_option maxRecDepth 100000 in
set_option maxHeartbeats 1000000 in
theorem opn54 {H : Type} {enc : TypeId × Value → H} {W : World} : OpnU enc Try.prog W 54 k54 wf54 bk54 := fun held fuel cs d ps h => by
  obtain ⟨n, parts, hl, rfl, hpl, hf⟩ := trod_fieldU Try.underlying54 h
  rw [show Try.prog.cellsOf 54 = 5 from by kernel_rfl] at hl
  obtain ⟨c0, c1, c2, c3, c4, rfl⟩ : ∃ c0 c1 c2 c3 c4, cs = [c0, c1, c2, c3, c4] := by
    match cs, hl with
    | [c0, c1, c2, c3, c4], _ => exact ⟨c0, c1, c2, c3, c4, rfl⟩
  obtain ⟨d0, d1, d2, d3, d4, rfl⟩ : ∃ d0 d1 d2 d3 d4, parts = [d0, d1, d2, d3, d4] := by
    match parts, hpl with
    | [d0, d1, d2, d3, d4], _ => exact ⟨d0, d1, d2, d3, d4, rfl⟩
  obtain ⟨ps0, h0⟩ : ∃ ps', DataW.trod enc Try.prog W 0 (fun _ => true) held n 44 ((([c0, c1, c2, c3, c4] : List Value).drop 0).take (Try.prog.cellsOf 44)) = some (d0, ps') := by obtain ⟨_, p_, e_, h_⟩ := hf 0 _ rfl; obtain rfl := Option.some.inj e_; exact ⟨p_, h_⟩
  rw [show Try.prog.cellsOf 44 = 1 from by kernel_rfl] at h0
  obtain ⟨z0, e0, w0, b0⟩ := (OpnU.int Try.underlying44) _ _ _ _ _ h0
  replace b0 : 1 ≤ Rows.uptoBulk d0 := b0
  replace e0 : [c0] = [.int .u64 z0] := e0
  simp only [List.cons.injEq, and_true] at e0
  obtain ⟨ps1, h1⟩ : ∃ ps', DataW.trod enc Try.prog W 0 (fun _ => true) held n 44 ((([c0, c1, c2, c3, c4] : List Value).drop 1).take (Try.prog.cellsOf 44)) = some (d1, ps') := by obtain ⟨_, p_, e_, h_⟩ := hf 1 _ rfl; obtain rfl := Option.some.inj e_; exact ⟨p_, h_⟩
  rw [show Try.prog.cellsOf 44 = 1 from by kernel_rfl] at h1
  obtain ⟨z1, e1, w1, b1⟩ := (OpnU.int Try.underlying44) _ _ _ _ _ h1
  replace b1 : 1 ≤ Rows.uptoBulk d1 := b1
  replace e1 : [c1] = [.int .u64 z1] := e1
  simp only [List.cons.injEq, and_true] at e1
  obtain ⟨ps2, h2⟩ : ∃ ps', DataW.trod enc Try.prog W 0 (fun _ => true) held n 44 ((([c0, c1, c2, c3, c4] : List Value).drop 2).take (Try.prog.cellsOf 44)) = some (d2, ps') := by obtain ⟨_, p_, e_, h_⟩ := hf 2 _ rfl; obtain rfl := Option.some.inj e_; exact ⟨p_, h_⟩
  rw [show Try.prog.cellsOf 44 = 1 from by kernel_rfl] at h2
  obtain ⟨z2, e2, w2, b2⟩ := (OpnU.int Try.underlying44) _ _ _ _ _ h2
  replace b2 : 1 ≤ Rows.uptoBulk d2 := b2
  replace e2 : [c2] = [.int .u64 z2] := e2
  simp only [List.cons.injEq, and_true] at e2
  obtain ⟨ps3, h3⟩ : ∃ ps', DataW.trod enc Try.prog W 0 (fun _ => true) held n 44 ((([c0, c1, c2, c3, c4] : List Value).drop 3).take (Try.prog.cellsOf 44)) = some (d3, ps') := by obtain ⟨_, p_, e_, h_⟩ := hf 3 _ rfl; obtain rfl := Option.some.inj e_; exact ⟨p_, h_⟩
  rw [show Try.prog.cellsOf 44 = 1 from by kernel_rfl] at h3
  obtain ⟨z3, e3, w3, b3⟩ := (OpnU.int Try.underlying44) _ _ _ _ _ h3
  replace b3 : 1 ≤ Rows.uptoBulk d3 := b3
  replace e3 : [c3] = [.int .u64 z3] := e3
  simp only [List.cons.injEq, and_true] at e3
  obtain ⟨ps4, h4⟩ : ∃ ps', DataW.trod enc Try.prog W 0 (fun _ => true) held n 23 ((([c0, c1, c2, c3, c4] : List Value).drop 4).take (Try.prog.cellsOf 23)) = some (d4, ps') := by obtain ⟨_, p_, e_, h_⟩ := hf 4 _ rfl; obtain rfl := Option.some.inj e_; exact ⟨p_, h_⟩
  rw [show Try.prog.cellsOf 23 = 1 from by kernel_rfl] at h4
  obtain ⟨z4, ⟨bs4, ⟨A5001, c5002, e4, rfl⟩, p4⟩, w4, b4⟩ := (OpnU.sl (e := 5) Try.underlying23 (OpnU.int Try.underlying5) (by kernel_rfl) (by decide)) _ _ _ _ _ h4
  replace b4 : ((z4.map (fun _ : Int => 1)).sum + 1) ≤ Rows.uptoBulk d4 := b4
  replace e4 : [c4] = [.slice A5001 z4.length c5002] := e4
  simp only [List.cons.injEq, and_true] at e4
  obtain rfl := e0
  obtain rfl := e1
  obtain rfl := e2
  obtain rfl := e3
  obtain rfl := e4
  exact ⟨⟨z0, z1, z2, z3, z4⟩, ⟨[Ro (Kd.int .u8) A5001 c5002 z4], ⟨A5001, c5002, rfl, rfl⟩, (PersL.cons rfl (p4 _ (by simp)).2 PersL.nil)⟩, ⟨w0, w1, w2, w3, w4⟩, (by rw [bulk_agg]; simp only [bulkAll1, bulkAll0, bk54]; omega)⟩
end Go.Proofs.Ytodkeoibebimgaa.Sq

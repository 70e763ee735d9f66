import Derived.Test.YtckilbegmbaeeaaGreatZ3
import Derived.Test.YtckilbegmbaeeaaGreatZ3S1
namespace Go.Proofs.YtckilbegmbaeeaaGreat.Z3
open Go Go.RowKit Go.Proofs.YtckilbegmbaeeaaGreat.SL
set_option linter.unusedVariables false
set_option linter.unusedSimpArgs false
def zK (x : fR) : Prop:=(Lit.int .i32 x.f0).wf = true∧(Lit.int .i32 x.f1).wf = true∧(Lit.int .i32 x.f2).wf = true
def Aa (x : cA) : Prop:=(Lit.int .i64 x.f0).wf = true∧(Lit.int .i64 x.f1).wf = true∧True∧True∧True∧True∧True∧True∧True∧True
def yz (x : aZ) : Prop:=(Lit.int .i32 x.f0).wf = true∧zK x.f1∧(Lit.int .u8 x.f2).wf = true∧Aa x.f3
def Au (x : bF) : Prop:=(Lit.int .i64 x.f0).wf = true∧(Lit.int .i64 x.f1).wf = true∧(x.f2.length * 48 ≤ 140737488351232∧∀ y_ ∈ x.f2,yz y_)
def xO (x : pM) : Prop:=(Lit.int .u8 x.f0).wf = true∧(Lit.int .i64 x.f1).wf = true∧(Lit.int .i64 x.f2).wf = true∧True
set_option maxRecDepth 100000 in
set_option maxHeartbeats 1000000 in
theorem yJ {H : Type} {enc : TypeId × Value → H} {W : World} : pP enc Tryz.prog W 44 tS xO:=fun jI fuel cs d ps h hs=>by
 obtain ⟨n,hl,hf⟩:=rv Tryz.underlying44 h hs
 rw [show Tryz.prog.cellsOf 44 = 4 from by kernel_rfl] at hl
 obtain ⟨c0,c1,c2,c3,rfl⟩ : ∃ c0 c1 c2 c3,cs = [c0,c1,c2,c3]:=by
  match cs,hl with
  | [c0,c1,c2,c3],_=>exact ⟨c0,c1,c2,c3,rfl⟩
 obtain ⟨d0,ps0,h0,s0⟩ : ∃ d' ps',DataW.trod enc Tryz.prog W 0 (fun _=>true) jI n 5 ((([c0,c1,c2,c3] : List Value).drop 0).take (Tryz.prog.cellsOf 5)) = some (d',ps')∧iU Tryz.prog 5 d':=hf 0 _ rfl
 rw [show Tryz.prog.cellsOf 5 = 1 from by kernel_rfl] at h0
 obtain ⟨z0,e0,w0⟩:=(pP.int Tryz.underlying5) _ _ _ _ _ h0 s0
 replace e0 : [c0] = [.int .u8 z0]:=e0
 simp only [List.cons.injEq,and_true] at e0
 obtain ⟨d1,ps1,h1,s1⟩ : ∃ d' ps',DataW.trod enc Tryz.prog W 0 (fun _=>true) jI n 3 ((([c0,c1,c2,c3] : List Value).drop 1).take (Tryz.prog.cellsOf 3)) = some (d',ps')∧iU Tryz.prog 3 d':=hf 1 _ rfl
 rw [show Tryz.prog.cellsOf 3 = 1 from by kernel_rfl] at h1
 obtain ⟨z1,e1,w1⟩:=(pP.int Tryz.underlying3) _ _ _ _ _ h1 s1
 replace e1 : [c1] = [.int .i64 z1]:=e1
 simp only [List.cons.injEq,and_true] at e1
 obtain ⟨d2,ps2,h2,s2⟩ : ∃ d' ps',DataW.trod enc Tryz.prog W 0 (fun _=>true) jI n 3 ((([c0,c1,c2,c3] : List Value).drop 2).take (Tryz.prog.cellsOf 3)) = some (d',ps')∧iU Tryz.prog 3 d':=hf 2 _ rfl
 rw [show Tryz.prog.cellsOf 3 = 1 from by kernel_rfl] at h2
 obtain ⟨z2,e2,w2⟩:=(pP.int Tryz.underlying3) _ _ _ _ _ h2 s2
 replace e2 : [c2] = [.int .i64 z2]:=e2
 simp only [List.cons.injEq,and_true] at e2
 obtain ⟨d3,ps3,h3,s3⟩ : ∃ d' ps',DataW.trod enc Tryz.prog W 0 (fun _=>true) jI n 4 ((([c0,c1,c2,c3] : List Value).drop 3).take (Tryz.prog.cellsOf 4)) = some (d',ps')∧iU Tryz.prog 4 d':=hf 3 _ rfl
 rw [show Tryz.prog.cellsOf 4 = 1 from by kernel_rfl] at h3
 obtain ⟨z3,e3,w3⟩:=(pP.bool Tryz.underlying4) _ _ _ _ _ h3 s3
 replace e3 : [c3] = [.bool z3]:=e3
 simp only [List.cons.injEq,and_true] at e3
 obtain rfl:=e0
 obtain rfl:=e1
 obtain rfl:=e2
 obtain rfl:=e3
 exact ⟨⟨z0,z1,z2,z3⟩,(by rfl),⟨w0,w1,w2,w3⟩⟩
def yP (x : wc) : Prop:=(Lit.int .i64 x.f0).wf = true∧(Lit.int .i64 x.f1).wf = true
set_option maxRecDepth 100000 in
set_option maxHeartbeats 1000000 in
theorem yG {H : Type} {enc : TypeId × Value → H} {W : World} : pP enc Tryz.prog W 22 EL yP:=fun jI fuel cs d ps h hs=>by
 obtain ⟨n,hl,hf⟩:=sC Tryz.underlying22 h hs
 rw [show Tryz.prog.cellsOf 22 = 2 from by kernel_rfl] at hl
 obtain ⟨c0,c1,rfl⟩ : ∃ c0 c1,cs = [c0,c1]:=by
  match cs,hl with
  | [c0,c1],_=>exact ⟨c0,c1,rfl⟩
 obtain ⟨d0,ps0,h0,s0⟩ : ∃ d' ps',DataW.trod enc Tryz.prog W 0 (fun _=>true) jI n 3 ((([c0,c1] : List Value).drop 0).take (Tryz.prog.cellsOf 3)) = some (d',ps')∧iU Tryz.prog 3 d':=hf 0 (by decide)
 rw [show Tryz.prog.cellsOf 3 = 1 from by kernel_rfl] at h0
 obtain ⟨z0,e0,w0⟩:=(pP.int Tryz.underlying3) _ _ _ _ _ h0 s0
 replace e0 : [c0] = [.int .i64 z0]:=e0
 simp only [List.cons.injEq,and_true] at e0
 obtain ⟨d1,ps1,h1,s1⟩ : ∃ d' ps',DataW.trod enc Tryz.prog W 0 (fun _=>true) jI n 3 ((([c0,c1] : List Value).drop 1).take (Tryz.prog.cellsOf 3)) = some (d',ps')∧iU Tryz.prog 3 d':=hf 1 (by decide)
 rw [show Tryz.prog.cellsOf 3 = 1 from by kernel_rfl] at h1
 obtain ⟨z1,e1,w1⟩:=(pP.int Tryz.underlying3) _ _ _ _ _ h1 s1
 replace e1 : [c1] = [.int .i64 z1]:=e1
 simp only [List.cons.injEq,and_true] at e1
 obtain rfl:=e0
 obtain rfl:=e1
 exact ⟨⟨z0,z1⟩,(by rfl),⟨w0,w1⟩⟩
end Go.Proofs.YtckilbegmbaeeaaGreat.Z3

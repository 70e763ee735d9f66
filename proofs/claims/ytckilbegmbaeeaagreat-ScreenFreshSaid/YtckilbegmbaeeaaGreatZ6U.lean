import Derived.Test.YtckilbegmbaeeaaGreatZ6
import Derived.Test.YtckilbegmbaeeaaGreatZ6S1
namespace Go.Proofs.YtckilbegmbaeeaaGreat.Z6
open Go Go.RowKit Go.Proofs.YtckilbegmbaeeaaGreat.SL
set_option linter.unusedVariables false
set_option linter.unusedSimpArgs false
def zb (x : fX) : Prop:=(Lit.int .i32 x.f0).wf = true∧(Lit.int .i32 x.f1).wf = true∧(Lit.int .i32 x.f2).wf = true
set_option maxRecDepth 100000 in
set_option maxHeartbeats 1000000 in
theorem yC {H : Type} {enc : TypeId × Value → H} {W : World} : ie enc Tryz.prog W 53 GI zb:=fun dE fuel cs d ps h hs=>by
 obtain ⟨n,hl,hf⟩:=sU Tryz.underlying53 h hs
 rw [show Tryz.prog.cellsOf 53 = 3 from by kernel_rfl] at hl
 obtain ⟨c0,c1,c2,rfl⟩ : ∃ c0 c1 c2,cs = [c0,c1,c2]:=by
  match cs,hl with
  | [c0,c1,c2],_=>exact ⟨c0,c1,c2,rfl⟩
 obtain ⟨F,B,j,q⟩ : ∃ d' ps',DataW.trod enc Tryz.prog W 0 (fun _=>true) dE n 21 ((([c0,c1,c2] : List Value).drop 0).take (Tryz.prog.cellsOf 21)) = some (d',ps')∧cU Tryz.prog 21 d':=hf 0 (by decide)
 rw [show Tryz.prog.cellsOf 21 = 1 from by kernel_rfl] at j
 obtain ⟨m,a,u⟩:=(ie.int Tryz.underlying21) _ _ _ _ _ j q
 replace a : [c0] = [.int .i32 m]:=a
 simp only [List.cons.injEq,and_true] at a
 obtain ⟨I,D,l,r⟩ : ∃ d' ps',DataW.trod enc Tryz.prog W 0 (fun _=>true) dE n 21 ((([c0,c1,c2] : List Value).drop 1).take (Tryz.prog.cellsOf 21)) = some (d',ps')∧cU Tryz.prog 21 d':=hf 1 (by decide)
 rw [show Tryz.prog.cellsOf 21 = 1 from by kernel_rfl] at l
 obtain ⟨o,b,y⟩:=(ie.int Tryz.underlying21) _ _ _ _ _ l r
 replace b : [c1] = [.int .i32 o]:=b
 simp only [List.cons.injEq,and_true] at b
 obtain ⟨J,E,h2,s⟩ : ∃ d' ps',DataW.trod enc Tryz.prog W 0 (fun _=>true) dE n 21 ((([c0,c1,c2] : List Value).drop 2).take (Tryz.prog.cellsOf 21)) = some (d',ps')∧cU Tryz.prog 21 d':=hf 2 (by decide)
 rw [show Tryz.prog.cellsOf 21 = 1 from by kernel_rfl] at h2
 obtain ⟨p,c,z⟩:=(ie.int Tryz.underlying21) _ _ _ _ _ h2 s
 replace c : [c2] = [.int .i32 p]:=c
 simp only [List.cons.injEq,and_true] at c
 obtain rfl:=a
 obtain rfl:=b
 obtain rfl:=c
 exact ⟨⟨m,o,p⟩,(by rfl),⟨u,y,z⟩⟩
def vy (x : cM) : Prop:=(Lit.int .i64 x.f0).wf = true∧(Lit.int .i64 x.f1).wf = true∧True∧True∧True∧True∧True∧True∧True∧True
set_option maxRecDepth 100000 in
set_option maxHeartbeats 1000000 in
theorem tW {H : Type} {enc : TypeId × Value → H} {W : World} : ie enc Tryz.prog W 28 pF vy:=fun dE fuel cs d ps h hs=>by
 obtain ⟨n,hl,hf⟩:=iC Tryz.underlying28 h hs
 rw [show Tryz.prog.cellsOf 28 = 10 from by kernel_rfl] at hl
 obtain ⟨c0,c1,c2,c3,c4,a,b,c,j,l,rfl⟩ : ∃ c0 c1 c2 c3 c4 a b c j l,cs = [c0,c1,c2,c3,c4,a,b,c,j,l]:=by
  match cs,hl with
  | [c0,c1,c2,c3,c4,a,b,c,j,l],_=>exact ⟨c0,c1,c2,c3,c4,a,b,c,j,l,rfl⟩
 obtain ⟨d0,a0,D,s0⟩ : ∃ d' ps',DataW.trod enc Tryz.prog W 0 (fun _=>true) dE n 3 ((([c0,c1,c2,c3,c4,a,b,c,j,l] : List Value).drop 0).take (Tryz.prog.cellsOf 3)) = some (d',ps')∧cU Tryz.prog 3 d':=hf 0 _ rfl
 rw [show Tryz.prog.cellsOf 3 = 1 from by kernel_rfl] at D
 obtain ⟨O,m,w0⟩:=(ie.int Tryz.underlying3) _ _ _ _ _ D s0
 replace m : [c0] = [.int .i64 O]:=m
 simp only [List.cons.injEq,and_true] at m
 obtain ⟨d1,a1,E,s1⟩ : ∃ d' ps',DataW.trod enc Tryz.prog W 0 (fun _=>true) dE n 3 ((([c0,c1,c2,c3,c4,a,b,c,j,l] : List Value).drop 1).take (Tryz.prog.cellsOf 3)) = some (d',ps')∧cU Tryz.prog 3 d':=hf 1 _ rfl
 rw [show Tryz.prog.cellsOf 3 = 1 from by kernel_rfl] at E
 obtain ⟨R,o,w1⟩:=(ie.int Tryz.underlying3) _ _ _ _ _ E s1
 replace o : [c1] = [.int .i64 R]:=o
 simp only [List.cons.injEq,and_true] at o
 obtain ⟨d2,a2,h2,s2⟩ : ∃ d' ps',DataW.trod enc Tryz.prog W 0 (fun _=>true) dE n 4 ((([c0,c1,c2,c3,c4,a,b,c,j,l] : List Value).drop 2).take (Tryz.prog.cellsOf 4)) = some (d',ps')∧cU Tryz.prog 4 d':=hf 2 _ rfl
 rw [show Tryz.prog.cellsOf 4 = 1 from by kernel_rfl] at h2
 obtain ⟨S,p,w2⟩:=(ie.bool Tryz.underlying4) _ _ _ _ _ h2 s2
 replace p : [c2] = [.bool S]:=p
 simp only [List.cons.injEq,and_true] at p
 obtain ⟨d3,a3,F,s3⟩ : ∃ d' ps',DataW.trod enc Tryz.prog W 0 (fun _=>true) dE n 4 ((([c0,c1,c2,c3,c4,a,b,c,j,l] : List Value).drop 3).take (Tryz.prog.cellsOf 4)) = some (d',ps')∧cU Tryz.prog 4 d':=hf 3 _ rfl
 rw [show Tryz.prog.cellsOf 4 = 1 from by kernel_rfl] at F
 obtain ⟨U,q,w3⟩:=(ie.bool Tryz.underlying4) _ _ _ _ _ F s3
 replace q : [c3] = [.bool U]:=q
 simp only [List.cons.injEq,and_true] at q
 obtain ⟨d4,a4,I,s4⟩ : ∃ d' ps',DataW.trod enc Tryz.prog W 0 (fun _=>true) dE n 4 ((([c0,c1,c2,c3,c4,a,b,c,j,l] : List Value).drop 4).take (Tryz.prog.cellsOf 4)) = some (d',ps')∧cU Tryz.prog 4 d':=hf 4 _ rfl
 rw [show Tryz.prog.cellsOf 4 = 1 from by kernel_rfl] at I
 obtain ⟨Y,r,w4⟩:=(ie.bool Tryz.underlying4) _ _ _ _ _ I s4
 replace r : [c4] = [.bool Y]:=r
 simp only [List.cons.injEq,and_true] at r
 obtain ⟨d5,a5,J,s5⟩ : ∃ d' ps',DataW.trod enc Tryz.prog W 0 (fun _=>true) dE n 4 ((([c0,c1,c2,c3,c4,a,b,c,j,l] : List Value).drop 5).take (Tryz.prog.cellsOf 4)) = some (d',ps')∧cU Tryz.prog 4 d':=hf 5 _ rfl
 rw [show Tryz.prog.cellsOf 4 = 1 from by kernel_rfl] at J
 obtain ⟨Z,s,w5⟩:=(ie.bool Tryz.underlying4) _ _ _ _ _ J s5
 replace s : [a] = [.bool Z]:=s
 simp only [List.cons.injEq,and_true] at s
 obtain ⟨d6,a6,K,s6⟩ : ∃ d' ps',DataW.trod enc Tryz.prog W 0 (fun _=>true) dE n 4 ((([c0,c1,c2,c3,c4,a,b,c,j,l] : List Value).drop 6).take (Tryz.prog.cellsOf 4)) = some (d',ps')∧cU Tryz.prog 4 d':=hf 6 _ rfl
 rw [show Tryz.prog.cellsOf 4 = 1 from by kernel_rfl] at K
 obtain ⟨z6,u,w6⟩:=(ie.bool Tryz.underlying4) _ _ _ _ _ K s6
 replace u : [b] = [.bool z6]:=u
 simp only [List.cons.injEq,and_true] at u
 obtain ⟨d7,a7,L,s7⟩ : ∃ d' ps',DataW.trod enc Tryz.prog W 0 (fun _=>true) dE n 4 ((([c0,c1,c2,c3,c4,a,b,c,j,l] : List Value).drop 7).take (Tryz.prog.cellsOf 4)) = some (d',ps')∧cU Tryz.prog 4 d':=hf 7 _ rfl
 rw [show Tryz.prog.cellsOf 4 = 1 from by kernel_rfl] at L
 obtain ⟨z7,y,w7⟩:=(ie.bool Tryz.underlying4) _ _ _ _ _ L s7
 replace y : [c] = [.bool z7]:=y
 simp only [List.cons.injEq,and_true] at y
 obtain ⟨d8,a8,M,s8⟩ : ∃ d' ps',DataW.trod enc Tryz.prog W 0 (fun _=>true) dE n 4 ((([c0,c1,c2,c3,c4,a,b,c,j,l] : List Value).drop 8).take (Tryz.prog.cellsOf 4)) = some (d',ps')∧cU Tryz.prog 4 d':=hf 8 _ rfl
 rw [show Tryz.prog.cellsOf 4 = 1 from by kernel_rfl] at M
 obtain ⟨z8,z,w8⟩:=(ie.bool Tryz.underlying4) _ _ _ _ _ M s8
 replace z : [j] = [.bool z8]:=z
 simp only [List.cons.injEq,and_true] at z
 obtain ⟨d9,a9,N,s9⟩ : ∃ d' ps',DataW.trod enc Tryz.prog W 0 (fun _=>true) dE n 4 ((([c0,c1,c2,c3,c4,a,b,c,j,l] : List Value).drop 9).take (Tryz.prog.cellsOf 4)) = some (d',ps')∧cU Tryz.prog 4 d':=hf 9 _ rfl
 rw [show Tryz.prog.cellsOf 4 = 1 from by kernel_rfl] at N
 obtain ⟨z9,B,w9⟩:=(ie.bool Tryz.underlying4) _ _ _ _ _ N s9
 replace B : [l] = [.bool z9]:=B
 simp only [List.cons.injEq,and_true] at B
 obtain rfl:=m
 obtain rfl:=o
 obtain rfl:=p
 obtain rfl:=q
 obtain rfl:=r
 obtain rfl:=s
 obtain rfl:=u
 obtain rfl:=y
 obtain rfl:=z
 obtain rfl:=B
 exact ⟨⟨O,R,S,U,Y,Z,z6,z7,z8,z9⟩,(by rfl),⟨w0,w1,w2,w3,w4,w5,w6,w7,w8,w9⟩⟩
def xt (x : aY) : Prop:=(Lit.int .i32 x.f0).wf = true∧zb x.f1∧(Lit.int .u8 x.f2).wf = true∧vy x.f3
set_option maxRecDepth 100000 in
set_option maxHeartbeats 1000000 in
theorem yD {H : Type} {enc : TypeId × Value → H} {W : World} : ie enc Tryz.prog W 55 bD xt:=fun dE fuel cs d ps h hs=>by
 obtain ⟨n,hl,hf⟩:=iC Tryz.underlying55 h hs
 rw [show Tryz.prog.cellsOf 55 = 15 from by kernel_rfl] at hl
 obtain ⟨c0,c1,c2,c3,c4,o,p,q,r,s,a,b,c,j,l,rfl⟩ : ∃ c0 c1 c2 c3 c4 o p q r s a b c j l,cs = (c0::c1::c2::c3::c4::o::p::q::r::s::a::b::c::j::l::[]):=by
  match cs,hl with
  | c0::c1::c2::c3::c4::o::p::q::r::s::a::b::c::j::l::[],_=>exact ⟨c0,c1,c2,c3,c4,o,p,q,r,s,a,b,c,j,l,rfl⟩
 obtain ⟨d0,Z,E,L⟩ : ∃ d' ps',DataW.trod enc Tryz.prog W 0 (fun _=>true) dE n 21 ((((c0::c1::c2::c3::c4::o::p::q::r::s::a::b::c::j::l::[]) : List Value).drop 0).take (Tryz.prog.cellsOf 21)) = some (d',ps')∧cU Tryz.prog 21 d':=hf 0 _ rfl
 rw [show Tryz.prog.cellsOf 21 = 1 from by kernel_rfl] at E
 obtain ⟨J,u,R⟩:=(ie.int Tryz.underlying21) _ _ _ _ _ E L
 replace u : [c0] = [.int .i32 J]:=u
 simp only [List.cons.injEq,and_true] at u
 obtain ⟨d1,a0,F,M⟩ : ∃ d' ps',DataW.trod enc Tryz.prog W 0 (fun _=>true) dE n 53 ((((c0::c1::c2::c3::c4::o::p::q::r::s::a::b::c::j::l::[]) : List Value).drop 1).take (Tryz.prog.cellsOf 53)) = some (d',ps')∧cU Tryz.prog 53 d':=hf 1 _ rfl
 rw [show Tryz.prog.cellsOf 53 = 3 from by kernel_rfl] at F
 obtain ⟨D,y,S⟩:=yC _ _ _ _ _ F M
 replace y : [c1,c2,c3] = [.int .i32 D.f0,.int .i32 D.f1,.int .i32 D.f2]:=y
 simp only [List.cons.injEq,and_true] at y
 obtain ⟨d2,a1,h2,N⟩ : ∃ d' ps',DataW.trod enc Tryz.prog W 0 (fun _=>true) dE n 5 ((((c0::c1::c2::c3::c4::o::p::q::r::s::a::b::c::j::l::[]) : List Value).drop 4).take (Tryz.prog.cellsOf 5)) = some (d',ps')∧cU Tryz.prog 5 d':=hf 2 _ rfl
 rw [show Tryz.prog.cellsOf 5 = 1 from by kernel_rfl] at h2
 obtain ⟨K,z,U⟩:=(ie.int Tryz.underlying5) _ _ _ _ _ h2 N
 replace z : [c4] = [.int .u8 K]:=z
 simp only [List.cons.injEq,and_true] at z
 obtain ⟨d3,a2,I,O⟩ : ∃ d' ps',DataW.trod enc Tryz.prog W 0 (fun _=>true) dE n 28 ((((c0::c1::c2::c3::c4::o::p::q::r::s::a::b::c::j::l::[]) : List Value).drop 5).take (Tryz.prog.cellsOf 28)) = some (d',ps')∧cU Tryz.prog 28 d':=hf 3 _ rfl
 rw [show Tryz.prog.cellsOf 28 = 10 from by kernel_rfl] at I
 obtain ⟨m,B,Y⟩:=tW _ _ _ _ _ I O
 replace B : [o,p,q,r,s,a,b,c,j,l] = [.int .i64 m.f0,.int .i64 m.f1,.bool m.f2,.bool m.f3,.bool m.f4,.bool m.f5,.bool m.f6,.bool m.f7,.bool m.f8,.bool m.f9]:=B
 simp only [List.cons.injEq,and_true] at B
 obtain rfl:=u
 obtain ⟨rfl,rfl,rfl⟩:=y
 obtain rfl:=z
 obtain ⟨rfl,rfl,rfl,rfl,rfl,rfl,rfl,rfl,rfl,rfl⟩:=B
 exact ⟨⟨J,D,K,m⟩,(by rfl),⟨R,S,U,Y⟩⟩
def vx (x : bH) : Prop:=(Lit.int .i64 x.f0).wf = true∧(Lit.int .i64 x.f1).wf = true∧(x.f2.length * 48 ≤ 140737488351232∧∀ y_ ∈ x.f2,xt y_)
set_option maxRecDepth 100000 in
set_option maxHeartbeats 1000000 in
theorem vX {H : Type} {enc : TypeId × Value → H} {W : World} : ie enc Tryz.prog W 26 GF vx:=fun dE fuel cs d ps h hs=>by
 obtain ⟨n,hl,hf⟩:=iC Tryz.underlying26 h hs
 rw [show Tryz.prog.cellsOf 26 = 3 from by kernel_rfl] at hl
 obtain ⟨c0,c1,c2,rfl⟩ : ∃ c0 c1 c2,cs = [c0,c1,c2]:=by
  match cs,hl with
  | [c0,c1,c2],_=>exact ⟨c0,c1,c2,rfl⟩
 obtain ⟨L,I,o,s⟩ : ∃ d' ps',DataW.trod enc Tryz.prog W 0 (fun _=>true) dE n 3 ((([c0,c1,c2] : List Value).drop 0).take (Tryz.prog.cellsOf 3)) = some (d',ps')∧cU Tryz.prog 3 d':=hf 0 _ rfl
 rw [show Tryz.prog.cellsOf 3 = 1 from by kernel_rfl] at o
 obtain ⟨q,c,z⟩:=(ie.int Tryz.underlying3) _ _ _ _ _ o s
 replace c : [c0] = [.int .i64 q]:=c
 simp only [List.cons.injEq,and_true] at c
 obtain ⟨M,J,p,u⟩ : ∃ d' ps',DataW.trod enc Tryz.prog W 0 (fun _=>true) dE n 3 ((([c0,c1,c2] : List Value).drop 1).take (Tryz.prog.cellsOf 3)) = some (d',ps')∧cU Tryz.prog 3 d':=hf 1 _ rfl
 rw [show Tryz.prog.cellsOf 3 = 1 from by kernel_rfl] at p
 obtain ⟨r,j,D⟩:=(ie.int Tryz.underlying3) _ _ _ _ _ p u
 replace j : [c1] = [.int .i64 r]:=j
 simp only [List.cons.injEq,and_true] at j
 obtain ⟨N,K,h2,y⟩ : ∃ d' ps',DataW.trod enc Tryz.prog W 0 (fun _=>true) dE n 24 ((([c0,c1,c2] : List Value).drop 2).take (Tryz.prog.cellsOf 24)) = some (d',ps')∧cU Tryz.prog 24 d':=hf 2 _ rfl
 rw [show Tryz.prog.cellsOf 24 = 1 from by kernel_rfl] at h2
 obtain ⟨m,⟨F,⟨a,b,l,rfl⟩,p2⟩,E⟩:=(ie.sl (e:=55) (B:=48) Tryz.underlying24 yD (by kernel_rfl) (by decide) (by kernel_rfl)) _ _ _ _ _ h2 y
 replace l : [c2] = [.slice a m.length b]:=l
 simp only [List.cons.injEq,and_true] at l
 obtain rfl:=c
 obtain rfl:=j
 obtain rfl:=l
 exact ⟨⟨q,r,m⟩,⟨[Ro bD a b m],⟨a,b,rfl,rfl⟩,(fu.cons rfl (p2 _ (by simp)).2 fu.nil)⟩,⟨z,D,E⟩⟩
def yZ (x : dz) : Prop:=(Lit.int .i64 x.f0).wf = true∧(Lit.int .i64 x.f1).wf = true∧True∧True∧vy x.f4
set_option maxRecDepth 100000 in
set_option maxHeartbeats 1000000 in
theorem yz {H : Type} {enc : TypeId × Value → H} {W : World} : ie enc Tryz.prog W 31 xE yZ:=fun dE fuel cs d ps h hs=>by
 obtain ⟨n,hl,hf⟩:=iC Tryz.underlying31 h hs
 rw [show Tryz.prog.cellsOf 31 = 14 from by kernel_rfl] at hl
 obtain ⟨c0,c1,c2,c3,c4,m,o,p,q,r,a,b,c,j,rfl⟩ : ∃ c0 c1 c2 c3 c4 m o p q r a b c j,cs = (c0::c1::c2::c3::c4::m::o::p::q::r::a::b::c::j::[]):=by
  match cs,hl with
  | c0::c1::c2::c3::c4::m::o::p::q::r::a::b::c::j::[],_=>exact ⟨c0,c1,c2,c3,c4,m,o,p,q,r,a,b,c,j,rfl⟩
 obtain ⟨d0,a0,D,N⟩ : ∃ d' ps',DataW.trod enc Tryz.prog W 0 (fun _=>true) dE n 3 ((((c0::c1::c2::c3::c4::m::o::p::q::r::a::b::c::j::[]) : List Value).drop 0).take (Tryz.prog.cellsOf 3)) = some (d',ps')∧cU Tryz.prog 3 d':=hf 0 _ rfl
 rw [show Tryz.prog.cellsOf 3 = 1 from by kernel_rfl] at D
 obtain ⟨J,s,Y⟩:=(ie.int Tryz.underlying3) _ _ _ _ _ D N
 replace s : [c0] = [.int .i64 J]:=s
 simp only [List.cons.injEq,and_true] at s
 obtain ⟨d1,a1,E,O⟩ : ∃ d' ps',DataW.trod enc Tryz.prog W 0 (fun _=>true) dE n 3 ((((c0::c1::c2::c3::c4::m::o::p::q::r::a::b::c::j::[]) : List Value).drop 1).take (Tryz.prog.cellsOf 3)) = some (d',ps')∧cU Tryz.prog 3 d':=hf 1 _ rfl
 rw [show Tryz.prog.cellsOf 3 = 1 from by kernel_rfl] at E
 obtain ⟨K,u,Z⟩:=(ie.int Tryz.underlying3) _ _ _ _ _ E O
 replace u : [c1] = [.int .i64 K]:=u
 simp only [List.cons.injEq,and_true] at u
 obtain ⟨d2,a2,h2,R⟩ : ∃ d' ps',DataW.trod enc Tryz.prog W 0 (fun _=>true) dE n 4 ((((c0::c1::c2::c3::c4::m::o::p::q::r::a::b::c::j::[]) : List Value).drop 2).take (Tryz.prog.cellsOf 4)) = some (d',ps')∧cU Tryz.prog 4 d':=hf 2 _ rfl
 rw [show Tryz.prog.cellsOf 4 = 1 from by kernel_rfl] at h2
 obtain ⟨L,y,w2⟩:=(ie.bool Tryz.underlying4) _ _ _ _ _ h2 R
 replace y : [c2] = [.bool L]:=y
 simp only [List.cons.injEq,and_true] at y
 obtain ⟨d3,a3,F,S⟩ : ∃ d' ps',DataW.trod enc Tryz.prog W 0 (fun _=>true) dE n 4 ((((c0::c1::c2::c3::c4::m::o::p::q::r::a::b::c::j::[]) : List Value).drop 3).take (Tryz.prog.cellsOf 4)) = some (d',ps')∧cU Tryz.prog 4 d':=hf 3 _ rfl
 rw [show Tryz.prog.cellsOf 4 = 1 from by kernel_rfl] at F
 obtain ⟨M,z,w3⟩:=(ie.bool Tryz.underlying4) _ _ _ _ _ F S
 replace z : [c3] = [.bool M]:=z
 simp only [List.cons.injEq,and_true] at z
 obtain ⟨d4,a4,I,U⟩ : ∃ d' ps',DataW.trod enc Tryz.prog W 0 (fun _=>true) dE n 28 ((((c0::c1::c2::c3::c4::m::o::p::q::r::a::b::c::j::[]) : List Value).drop 4).take (Tryz.prog.cellsOf 28)) = some (d',ps')∧cU Tryz.prog 28 d':=hf 4 _ rfl
 rw [show Tryz.prog.cellsOf 28 = 10 from by kernel_rfl] at I
 obtain ⟨l,B,w4⟩:=tW _ _ _ _ _ I U
 replace B : [c4,m,o,p,q,r,a,b,c,j] = [.int .i64 l.f0,.int .i64 l.f1,.bool l.f2,.bool l.f3,.bool l.f4,.bool l.f5,.bool l.f6,.bool l.f7,.bool l.f8,.bool l.f9]:=B
 simp only [List.cons.injEq,and_true] at B
 obtain rfl:=s
 obtain rfl:=u
 obtain rfl:=y
 obtain rfl:=z
 obtain ⟨rfl,rfl,rfl,rfl,rfl,rfl,rfl,rfl,rfl,rfl⟩:=B
 exact ⟨⟨J,K,L,M,l⟩,(by rfl),⟨Y,Z,w2,w3,w4⟩⟩
def xr (x : aJ) : Prop:=vx x.f0∧(Lit.int .i64 x.f1).wf = true∧(Lit.int .i64 x.f2).wf = true∧True∧vy x.f4∧(Lit.int .i64 x.f5).wf = true∧(Lit.int .i64 x.f6).wf = true∧(x.f7.length * 8 ≤ 140737488351232∧∀ y_ ∈ x.f7,(Lit.int .i64 y_).wf = true)∧True∧True∧True∧True∧True∧True∧yZ x.f14∧True∧vx x.f16∧(x.f17.length * 4 ≤ 140737488351232∧∀ y_ ∈ x.f17,(Lit.int .i32 y_).wf = true)
set_option maxRecDepth 100000 in
set_option maxHeartbeats 1000000 in
theorem yA {H : Type} {enc : TypeId × Value → H} {W : World} : ie enc Tryz.prog W 34 GG xr:=fun dE fuel cs d ps h hs=>by
 obtain ⟨n,hl,hf⟩:=iC Tryz.underlying34 h hs
 rw [show Tryz.prog.cellsOf 34 = 44 from by kernel_rfl] at hl
 obtain ⟨c0,c1,c2,c3,c4,c5,c6,c7,c8,c9,a,b,c,j,l,m,o,p,q,r,s,u,y,z,D,E,F,I,J,K,L,M,N,O,R,S,U,Y,Z,a0,a1,a2,a3,a4,rfl⟩ : ∃ c0 c1 c2 c3 c4 c5 c6 c7 c8 c9 a b c j l m o p q r s u y z D E F I J K L M N O R S U Y Z a0 a1 a2 a3 a4,cs = (c0::c1::c2::c3::c4::c5::c6::c7::c8::c9::a::b::c::j::l::m::o::p::q::r::s::u::y::z::D::E::F::I::J::K::L::M::N::O::R::S::U::Y::Z::a0::a1::a2::a3::a4::[]):=by
  match cs,hl with
  | c0::c1::c2::c3::c4::c5::c6::c7::c8::c9::a::b::c::j::l::m::o::p::q::r::s::u::y::z::D::E::F::I::J::K::L::M::N::O::R::S::U::Y::Z::a0::a1::a2::a3::a4::[],_=>exact ⟨c0,c1,c2,c3,c4,c5,c6,c7,c8,c9,a,b,c,j,l,m,o,p,q,r,s,u,y,z,D,E,F,I,J,K,L,M,N,O,R,S,U,Y,Z,a0,a1,a2,a3,a4,rfl⟩
 obtain ⟨d0,m5,h0,s0⟩ : ∃ d' ps',DataW.trod enc Tryz.prog W 0 (fun _=>true) dE n 26 ((((c0::c1::c2::c3::c4::c5::c6::c7::c8::c9::a::b::c::j::l::m::o::p::q::r::s::u::y::z::D::E::F::I::J::K::L::M::N::O::R::S::U::Y::Z::a0::a1::a2::a3::a4::[]) : List Value).drop 0).take (Tryz.prog.cellsOf 26)) = some (d',ps')∧cU Tryz.prog 26 d':=hf 0 _ rfl
 rw [show Tryz.prog.cellsOf 26 = 3 from by kernel_rfl] at h0
 obtain ⟨z0,⟨l5,⟨b0,b2,e0,rfl⟩,p0⟩,w0⟩:=vX _ _ _ _ _ h0 s0
 replace e0 : [c0,c1,c2] = [.int .i64 z0.f0,.int .i64 z0.f1,.slice b0 z0.f2.length b2]:=e0
 simp only [List.cons.injEq,and_true] at e0
 obtain ⟨d1,m6,h1,s1⟩ : ∃ d' ps',DataW.trod enc Tryz.prog W 0 (fun _=>true) dE n 3 ((((c0::c1::c2::c3::c4::c5::c6::c7::c8::c9::a::b::c::j::l::m::o::p::q::r::s::u::y::z::D::E::F::I::J::K::L::M::N::O::R::S::U::Y::Z::a0::a1::a2::a3::a4::[]) : List Value).drop 3).take (Tryz.prog.cellsOf 3)) = some (d',ps')∧cU Tryz.prog 3 d':=hf 1 _ rfl
 rw [show Tryz.prog.cellsOf 3 = 1 from by kernel_rfl] at h1
 obtain ⟨z1,e1,w1⟩:=(ie.int Tryz.underlying3) _ _ _ _ _ h1 s1
 replace e1 : [c3] = [.int .i64 z1]:=e1
 simp only [List.cons.injEq,and_true] at e1
 obtain ⟨d2,m7,h2,s2⟩ : ∃ d' ps',DataW.trod enc Tryz.prog W 0 (fun _=>true) dE n 3 ((((c0::c1::c2::c3::c4::c5::c6::c7::c8::c9::a::b::c::j::l::m::o::p::q::r::s::u::y::z::D::E::F::I::J::K::L::M::N::O::R::S::U::Y::Z::a0::a1::a2::a3::a4::[]) : List Value).drop 4).take (Tryz.prog.cellsOf 3)) = some (d',ps')∧cU Tryz.prog 3 d':=hf 2 _ rfl
 rw [show Tryz.prog.cellsOf 3 = 1 from by kernel_rfl] at h2
 obtain ⟨z2,e2,w2⟩:=(ie.int Tryz.underlying3) _ _ _ _ _ h2 s2
 replace e2 : [c4] = [.int .i64 z2]:=e2
 simp only [List.cons.injEq,and_true] at e2
 obtain ⟨d3,m8,h3,s3⟩ : ∃ d' ps',DataW.trod enc Tryz.prog W 0 (fun _=>true) dE n 4 ((((c0::c1::c2::c3::c4::c5::c6::c7::c8::c9::a::b::c::j::l::m::o::p::q::r::s::u::y::z::D::E::F::I::J::K::L::M::N::O::R::S::U::Y::Z::a0::a1::a2::a3::a4::[]) : List Value).drop 5).take (Tryz.prog.cellsOf 4)) = some (d',ps')∧cU Tryz.prog 4 d':=hf 3 _ rfl
 rw [show Tryz.prog.cellsOf 4 = 1 from by kernel_rfl] at h3
 obtain ⟨z3,e3,w3⟩:=(ie.bool Tryz.underlying4) _ _ _ _ _ h3 s3
 replace e3 : [c5] = [.bool z3]:=e3
 simp only [List.cons.injEq,and_true] at e3
 obtain ⟨d4,m9,h4,s4⟩ : ∃ d' ps',DataW.trod enc Tryz.prog W 0 (fun _=>true) dE n 28 ((((c0::c1::c2::c3::c4::c5::c6::c7::c8::c9::a::b::c::j::l::m::o::p::q::r::s::u::y::z::D::E::F::I::J::K::L::M::N::O::R::S::U::Y::Z::a0::a1::a2::a3::a4::[]) : List Value).drop 6).take (Tryz.prog.cellsOf 28)) = some (d',ps')∧cU Tryz.prog 28 d':=hf 4 _ rfl
 rw [show Tryz.prog.cellsOf 28 = 10 from by kernel_rfl] at h4
 obtain ⟨z4,e4,w4⟩:=tW _ _ _ _ _ h4 s4
 replace e4 : [c6,c7,c8,c9,a,b,c,j,l,m] = [.int .i64 z4.f0,.int .i64 z4.f1,.bool z4.f2,.bool z4.f3,.bool z4.f4,.bool z4.f5,.bool z4.f6,.bool z4.f7,.bool z4.f8,.bool z4.f9]:=e4
 simp only [List.cons.injEq,and_true] at e4
 obtain ⟨d5,n0,h5,s5⟩ : ∃ d' ps',DataW.trod enc Tryz.prog W 0 (fun _=>true) dE n 3 ((((c0::c1::c2::c3::c4::c5::c6::c7::c8::c9::a::b::c::j::l::m::o::p::q::r::s::u::y::z::D::E::F::I::J::K::L::M::N::O::R::S::U::Y::Z::a0::a1::a2::a3::a4::[]) : List Value).drop 16).take (Tryz.prog.cellsOf 3)) = some (d',ps')∧cU Tryz.prog 3 d':=hf 5 _ rfl
 rw [show Tryz.prog.cellsOf 3 = 1 from by kernel_rfl] at h5
 obtain ⟨z5,e5,w5⟩:=(ie.int Tryz.underlying3) _ _ _ _ _ h5 s5
 replace e5 : [o] = [.int .i64 z5]:=e5
 simp only [List.cons.injEq,and_true] at e5
 obtain ⟨d6,n1,h6,s6⟩ : ∃ d' ps',DataW.trod enc Tryz.prog W 0 (fun _=>true) dE n 3 ((((c0::c1::c2::c3::c4::c5::c6::c7::c8::c9::a::b::c::j::l::m::o::p::q::r::s::u::y::z::D::E::F::I::J::K::L::M::N::O::R::S::U::Y::Z::a0::a1::a2::a3::a4::[]) : List Value).drop 17).take (Tryz.prog.cellsOf 3)) = some (d',ps')∧cU Tryz.prog 3 d':=hf 6 _ rfl
 rw [show Tryz.prog.cellsOf 3 = 1 from by kernel_rfl] at h6
 obtain ⟨z6,e6,w6⟩:=(ie.int Tryz.underlying3) _ _ _ _ _ h6 s6
 replace e6 : [p] = [.int .i64 z6]:=e6
 simp only [List.cons.injEq,and_true] at e6
 obtain ⟨d7,n2,h7,s7⟩ : ∃ d' ps',DataW.trod enc Tryz.prog W 0 (fun _=>true) dE n 29 ((((c0::c1::c2::c3::c4::c5::c6::c7::c8::c9::a::b::c::j::l::m::o::p::q::r::s::u::y::z::D::E::F::I::J::K::L::M::N::O::R::S::U::Y::Z::a0::a1::a2::a3::a4::[]) : List Value).drop 18).take (Tryz.prog.cellsOf 29)) = some (d',ps')∧cU Tryz.prog 29 d':=hf 7 _ rfl
 rw [show Tryz.prog.cellsOf 29 = 1 from by kernel_rfl] at h7
 obtain ⟨z7,⟨l6,⟨b1,b3,e7,rfl⟩,p7⟩,w7⟩:=(ie.sl (e:=3) (B:=8) Tryz.underlying29 (ie.int Tryz.underlying3) (by kernel_rfl) (by decide) (by kernel_rfl)) _ _ _ _ _ h7 s7
 replace e7 : [q] = [.slice b1 z7.length b3]:=e7
 simp only [List.cons.injEq,and_true] at e7
 obtain ⟨d8,n3,h8,s8⟩ : ∃ d' ps',DataW.trod enc Tryz.prog W 0 (fun _=>true) dE n 4 ((((c0::c1::c2::c3::c4::c5::c6::c7::c8::c9::a::b::c::j::l::m::o::p::q::r::s::u::y::z::D::E::F::I::J::K::L::M::N::O::R::S::U::Y::Z::a0::a1::a2::a3::a4::[]) : List Value).drop 19).take (Tryz.prog.cellsOf 4)) = some (d',ps')∧cU Tryz.prog 4 d':=hf 8 _ rfl
 rw [show Tryz.prog.cellsOf 4 = 1 from by kernel_rfl] at h8
 obtain ⟨z8,e8,w8⟩:=(ie.bool Tryz.underlying4) _ _ _ _ _ h8 s8
 replace e8 : [r] = [.bool z8]:=e8
 simp only [List.cons.injEq,and_true] at e8
 obtain ⟨d9,o0,h9,s9⟩ : ∃ d' ps',DataW.trod enc Tryz.prog W 0 (fun _=>true) dE n 4 ((((c0::c1::c2::c3::c4::c5::c6::c7::c8::c9::a::b::c::j::l::m::o::p::q::r::s::u::y::z::D::E::F::I::J::K::L::M::N::O::R::S::U::Y::Z::a0::a1::a2::a3::a4::[]) : List Value).drop 20).take (Tryz.prog.cellsOf 4)) = some (d',ps')∧cU Tryz.prog 4 d':=hf 9 _ rfl
 rw [show Tryz.prog.cellsOf 4 = 1 from by kernel_rfl] at h9
 obtain ⟨z9,e9,w9⟩:=(ie.bool Tryz.underlying4) _ _ _ _ _ h9 s9
 replace e9 : [s] = [.bool z9]:=e9
 simp only [List.cons.injEq,and_true] at e9
 obtain ⟨l7,k7,g4,i9⟩ : ∃ d' ps',DataW.trod enc Tryz.prog W 0 (fun _=>true) dE n 4 ((((c0::c1::c2::c3::c4::c5::c6::c7::c8::c9::a::b::c::j::l::m::o::p::q::r::s::u::y::z::D::E::F::I::J::K::L::M::N::O::R::S::U::Y::Z::a0::a1::a2::a3::a4::[]) : List Value).drop 21).take (Tryz.prog.cellsOf 4)) = some (d',ps')∧cU Tryz.prog 4 d':=hf 10 _ rfl
 rw [show Tryz.prog.cellsOf 4 = 1 from by kernel_rfl] at g4
 obtain ⟨i2,b5,j7⟩:=(ie.bool Tryz.underlying4) _ _ _ _ _ g4 i9
 replace b5 : [u] = [.bool i2]:=b5
 simp only [List.cons.injEq,and_true] at b5
 obtain ⟨l8,k8,g5,j0⟩ : ∃ d' ps',DataW.trod enc Tryz.prog W 0 (fun _=>true) dE n 4 ((((c0::c1::c2::c3::c4::c5::c6::c7::c8::c9::a::b::c::j::l::m::o::p::q::r::s::u::y::z::D::E::F::I::J::K::L::M::N::O::R::S::U::Y::Z::a0::a1::a2::a3::a4::[]) : List Value).drop 22).take (Tryz.prog.cellsOf 4)) = some (d',ps')∧cU Tryz.prog 4 d':=hf 11 _ rfl
 rw [show Tryz.prog.cellsOf 4 = 1 from by kernel_rfl] at g5
 obtain ⟨i3,b6,j8⟩:=(ie.bool Tryz.underlying4) _ _ _ _ _ g5 j0
 replace b6 : [y] = [.bool i3]:=b6
 simp only [List.cons.injEq,and_true] at b6
 obtain ⟨l9,k9,g6,j1⟩ : ∃ d' ps',DataW.trod enc Tryz.prog W 0 (fun _=>true) dE n 4 ((((c0::c1::c2::c3::c4::c5::c6::c7::c8::c9::a::b::c::j::l::m::o::p::q::r::s::u::y::z::D::E::F::I::J::K::L::M::N::O::R::S::U::Y::Z::a0::a1::a2::a3::a4::[]) : List Value).drop 23).take (Tryz.prog.cellsOf 4)) = some (d',ps')∧cU Tryz.prog 4 d':=hf 12 _ rfl
 rw [show Tryz.prog.cellsOf 4 = 1 from by kernel_rfl] at g6
 obtain ⟨i4,b7,j9⟩:=(ie.bool Tryz.underlying4) _ _ _ _ _ g6 j1
 replace b7 : [z] = [.bool i4]:=b7
 simp only [List.cons.injEq,and_true] at b7
 obtain ⟨m0,l0,g7,j2⟩ : ∃ d' ps',DataW.trod enc Tryz.prog W 0 (fun _=>true) dE n 4 ((((c0::c1::c2::c3::c4::c5::c6::c7::c8::c9::a::b::c::j::l::m::o::p::q::r::s::u::y::z::D::E::F::I::J::K::L::M::N::O::R::S::U::Y::Z::a0::a1::a2::a3::a4::[]) : List Value).drop 24).take (Tryz.prog.cellsOf 4)) = some (d',ps')∧cU Tryz.prog 4 d':=hf 13 _ rfl
 rw [show Tryz.prog.cellsOf 4 = 1 from by kernel_rfl] at g7
 obtain ⟨i5,b8,k0⟩:=(ie.bool Tryz.underlying4) _ _ _ _ _ g7 j2
 replace b8 : [D] = [.bool i5]:=b8
 simp only [List.cons.injEq,and_true] at b8
 obtain ⟨m1,l1,g8,j3⟩ : ∃ d' ps',DataW.trod enc Tryz.prog W 0 (fun _=>true) dE n 31 ((((c0::c1::c2::c3::c4::c5::c6::c7::c8::c9::a::b::c::j::l::m::o::p::q::r::s::u::y::z::D::E::F::I::J::K::L::M::N::O::R::S::U::Y::Z::a0::a1::a2::a3::a4::[]) : List Value).drop 25).take (Tryz.prog.cellsOf 31)) = some (d',ps')∧cU Tryz.prog 31 d':=hf 14 _ rfl
 rw [show Tryz.prog.cellsOf 31 = 14 from by kernel_rfl] at g8
 obtain ⟨a5,b9,k1⟩:=yz _ _ _ _ _ g8 j3
 replace b9 : (E::F::I::J::K::L::M::N::O::R::S::U::Y::Z::[]) = (.int .i64 a5.f0::.int .i64 a5.f1::.bool a5.f2::.bool a5.f3::.int .i64 a5.f4.f0::.int .i64 a5.f4.f1::.bool a5.f4.f2::.bool a5.f4.f3::.bool a5.f4.f4::.bool a5.f4.f5::.bool a5.f4.f6::.bool a5.f4.f7::.bool a5.f4.f8::.bool a5.f4.f9::[]):=b9
 simp only [List.cons.injEq,and_true] at b9
 obtain ⟨m2,l2,g9,j4⟩ : ∃ d' ps',DataW.trod enc Tryz.prog W 0 (fun _=>true) dE n 4 ((((c0::c1::c2::c3::c4::c5::c6::c7::c8::c9::a::b::c::j::l::m::o::p::q::r::s::u::y::z::D::E::F::I::J::K::L::M::N::O::R::S::U::Y::Z::a0::a1::a2::a3::a4::[]) : List Value).drop 39).take (Tryz.prog.cellsOf 4)) = some (d',ps')∧cU Tryz.prog 4 d':=hf 15 _ rfl
 rw [show Tryz.prog.cellsOf 4 = 1 from by kernel_rfl] at g9
 obtain ⟨i6,g0,k2⟩:=(ie.bool Tryz.underlying4) _ _ _ _ _ g9 j4
 replace g0 : [a0] = [.bool i6]:=g0
 simp only [List.cons.injEq,and_true] at g0
 obtain ⟨m3,l3,i0,j5⟩ : ∃ d' ps',DataW.trod enc Tryz.prog W 0 (fun _=>true) dE n 26 ((((c0::c1::c2::c3::c4::c5::c6::c7::c8::c9::a::b::c::j::l::m::o::p::q::r::s::u::y::z::D::E::F::I::J::K::L::M::N::O::R::S::U::Y::Z::a0::a1::a2::a3::a4::[]) : List Value).drop 40).take (Tryz.prog.cellsOf 26)) = some (d',ps')∧cU Tryz.prog 26 d':=hf 16 _ rfl
 rw [show Tryz.prog.cellsOf 26 = 3 from by kernel_rfl] at i0
 obtain ⟨b4,⟨k5,⟨a6,a8,g1,rfl⟩,i7⟩,k3⟩:=vX _ _ _ _ _ i0 j5
 replace g1 : [a1,a2,a3] = [.int .i64 b4.f0,.int .i64 b4.f1,.slice a6 b4.f2.length a8]:=g1
 simp only [List.cons.injEq,and_true] at g1
 obtain ⟨m4,l4,i1,j6⟩ : ∃ d' ps',DataW.trod enc Tryz.prog W 0 (fun _=>true) dE n 32 ((((c0::c1::c2::c3::c4::c5::c6::c7::c8::c9::a::b::c::j::l::m::o::p::q::r::s::u::y::z::D::E::F::I::J::K::L::M::N::O::R::S::U::Y::Z::a0::a1::a2::a3::a4::[]) : List Value).drop 43).take (Tryz.prog.cellsOf 32)) = some (d',ps')∧cU Tryz.prog 32 d':=hf 17 _ rfl
 rw [show Tryz.prog.cellsOf 32 = 1 from by kernel_rfl] at i1
 obtain ⟨g3,⟨k6,⟨a7,a9,g2,rfl⟩,i8⟩,k4⟩:=(ie.sl (e:=21) (B:=4) Tryz.underlying32 (ie.int Tryz.underlying21) (by kernel_rfl) (by decide) (by kernel_rfl)) _ _ _ _ _ i1 j6
 replace g2 : [a4] = [.slice a7 g3.length a9]:=g2
 simp only [List.cons.injEq,and_true] at g2
 obtain ⟨rfl,rfl,rfl⟩:=e0
 obtain rfl:=e1
 obtain rfl:=e2
 obtain rfl:=e3
 obtain ⟨rfl,rfl,rfl,rfl,rfl,rfl,rfl,rfl,rfl,rfl⟩:=e4
 obtain rfl:=e5
 obtain rfl:=e6
 obtain rfl:=e7
 obtain rfl:=e8
 obtain rfl:=e9
 obtain rfl:=b5
 obtain rfl:=b6
 obtain rfl:=b7
 obtain rfl:=b8
 obtain ⟨rfl,rfl,rfl,rfl,rfl,rfl,rfl,rfl,rfl,rfl,rfl,rfl,rfl,rfl⟩:=b9
 obtain rfl:=g0
 obtain ⟨rfl,rfl,rfl⟩:=g1
 obtain rfl:=g2
 exact ⟨⟨z0,z1,z2,z3,z4,z5,z6,z7,z8,z9,i2,i3,i4,i5,a5,i6,b4,g3⟩,⟨[Ro bD b0 b2 z0.f2,Ro (Kd.int .i64) b1 b3 z7,Ro bD a6 a8 b4.f2,Ro (Kd.int .i32) a7 a9 g3],⟨b0,b2,b1,b3,a6,a8,a7,a9,rfl,rfl⟩,(fu.cons rfl (p0 _ (by simp)).2 (fu.cons rfl (p7 _ (by simp)).2 (fu.cons rfl (i7 _ (by simp)).2 (fu.cons rfl (i8 _ (by simp)).2 fu.nil))))⟩,⟨w0,w1,w2,w3,w4,w5,w6,w7,w8,w9,j7,j8,j9,k0,k1,k2,k3,k4⟩⟩
def za (x : qG) : Prop:=(Lit.int .u8 x.f0).wf = true∧(Lit.int .i64 x.f1).wf = true∧(Lit.int .i64 x.f2).wf = true∧True
set_option maxRecDepth 100000 in
set_option maxHeartbeats 1000000 in
theorem yB {H : Type} {enc : TypeId × Value → H} {W : World} : ie enc Tryz.prog W 44 GH za:=fun dE fuel cs d ps h hs=>by
 obtain ⟨n,hl,hf⟩:=iC Tryz.underlying44 h hs
 rw [show Tryz.prog.cellsOf 44 = 4 from by kernel_rfl] at hl
 obtain ⟨c0,c1,c2,c3,rfl⟩ : ∃ c0 c1 c2 c3,cs = [c0,c1,c2,c3]:=by
  match cs,hl with
  | [c0,c1,c2,c3],_=>exact ⟨c0,c1,c2,c3,rfl⟩
 obtain ⟨N,J,l,u⟩ : ∃ d' ps',DataW.trod enc Tryz.prog W 0 (fun _=>true) dE n 5 ((([c0,c1,c2,c3] : List Value).drop 0).take (Tryz.prog.cellsOf 5)) = some (d',ps')∧cU Tryz.prog 5 d':=hf 0 _ rfl
 rw [show Tryz.prog.cellsOf 5 = 1 from by kernel_rfl] at l
 obtain ⟨p,a,D⟩:=(ie.int Tryz.underlying5) _ _ _ _ _ l u
 replace a : [c0] = [.int .u8 p]:=a
 simp only [List.cons.injEq,and_true] at a
 obtain ⟨O,K,m,y⟩ : ∃ d' ps',DataW.trod enc Tryz.prog W 0 (fun _=>true) dE n 3 ((([c0,c1,c2,c3] : List Value).drop 1).take (Tryz.prog.cellsOf 3)) = some (d',ps')∧cU Tryz.prog 3 d':=hf 1 _ rfl
 rw [show Tryz.prog.cellsOf 3 = 1 from by kernel_rfl] at m
 obtain ⟨q,b,E⟩:=(ie.int Tryz.underlying3) _ _ _ _ _ m y
 replace b : [c1] = [.int .i64 q]:=b
 simp only [List.cons.injEq,and_true] at b
 obtain ⟨R,L,h2,z⟩ : ∃ d' ps',DataW.trod enc Tryz.prog W 0 (fun _=>true) dE n 3 ((([c0,c1,c2,c3] : List Value).drop 2).take (Tryz.prog.cellsOf 3)) = some (d',ps')∧cU Tryz.prog 3 d':=hf 2 _ rfl
 rw [show Tryz.prog.cellsOf 3 = 1 from by kernel_rfl] at h2
 obtain ⟨r,c,F⟩:=(ie.int Tryz.underlying3) _ _ _ _ _ h2 z
 replace c : [c2] = [.int .i64 r]:=c
 simp only [List.cons.injEq,and_true] at c
 obtain ⟨S,M,o,B⟩ : ∃ d' ps',DataW.trod enc Tryz.prog W 0 (fun _=>true) dE n 4 ((([c0,c1,c2,c3] : List Value).drop 3).take (Tryz.prog.cellsOf 4)) = some (d',ps')∧cU Tryz.prog 4 d':=hf 3 _ rfl
 rw [show Tryz.prog.cellsOf 4 = 1 from by kernel_rfl] at o
 obtain ⟨s,j,I⟩:=(ie.bool Tryz.underlying4) _ _ _ _ _ o B
 replace j : [c3] = [.bool s]:=j
 simp only [List.cons.injEq,and_true] at j
 obtain rfl:=a
 obtain rfl:=b
 obtain rfl:=c
 obtain rfl:=j
 exact ⟨⟨p,q,r,s⟩,(by rfl),⟨D,E,F,I⟩⟩
end Go.Proofs.YtckilbegmbaeeaaGreat.Z6

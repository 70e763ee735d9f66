/- Walks. -/
import Derived.Test.YtckilbegmbaeeaaGreatZ616
namespace Go.Proofs.YtckilbegmbaeeaaGreat.Z6
open Go Go.RowKit Go.Proofs.YtckilbegmbaeeaaGreat.SL
open Go.IntKind (i64)
set_option linter.unusedVariables false
set_option maxHeartbeats 20000000
set_option maxRecDepth 100000
set_option linter.unusedSimpArgs false
attribute [local irreducible] IntKind.wrap da fk gR kN kD po ky eS kF rd sub bytesOf ib dj
variable {ag az av ax k : Nat}
variable {af ay au aw : Option Addr}
def F6.l3 (r24 : aJ × Int) : Nat → Int → (List Int) → Option (Unit)
  | 0,_,_=>none
  | k + 1,b,a=>if a.length = r24.1.f17.length then (if b < (a.length : Int) then (if 0 ≤ b∧b < (a.length : Int) then (lt (a.set b.toNat 3) fun n75=>(lt (i64.wrap (b + 1)) fun n76=>F6.l3 r24 k n76 n75)) else none) else (some ())) else none
def F6.l2 (r24 : aJ × Int) : Nat → Int → (List Int) → Option ((List Int))
  | 0,_,_=>none
  | k + 1,b,a=>if a.length = r24.1.f7.length then (if b < (a.length : Int) then (if 0 ≤ b∧b < (a.length : Int) then (lt (a.set b.toNat (-1)) fun n65=>(lt (i64.wrap (b + 1)) fun n66=>F6.l2 r24 k n66 n65)) else none) else (some a)) else none
def F6.l1 (r24 : aJ × Int) : Nat → Int → (List aY) → Option ((List aY))
  | 0,_,_=>none
  | k + 1,b,a=>if a.length = r24.1.f16.f2.length then (if b < (a.length : Int) then (if 0 ≤ b∧b < (a.length : Int) then (lt (a.set b.toNat (aY.mk 2 ((rd a b).f1) ((rd a b).f2) ((rd a b).f3))) fun n55=>(lt (i64.wrap (b + 1)) fun n56=>F6.l1 r24 k n56 n55)) else none) else (some a)) else none
def F6.l0 (r24 : aJ × Int) : Nat → Int → (List aY) → Option ((List aY))
  | 0,_,_=>none
  | k + 1,b,a=>if a.length = r24.1.f0.f2.length then (if b < (a.length : Int) then (if 0 ≤ b∧b < (a.length : Int) then (lt (a.set b.toNat (aY.mk 1 ((rd a b).f1) ((rd a b).f2) ((rd a b).f3))) fun n45=>(lt (i64.wrap (b + 1)) fun n46=>F6.l0 r24 k n46 n45)) else none) else (some a)) else none
def F6.f (k : Nat) (a0 : aJ) (a1 : qG) : Option (Bool):=(ld.f a0).bind (fun p=>(uG.f k p a1).bind (fun a=>(F6.l0 a k 0 a.1.f0.f2 : Option ((List aY))).bind (fun q=>if q.length = a.1.f0.f2.length then ((F6.l1 a k 0 a.1.f16.f2 : Option ((List aY))).bind (fun r=>if r.length = a.1.f16.f2.length then ((F6.l2 a k 0 a.1.f7 : Option ((List Int))).bind (fun s=>if s.length = a.1.f7.length then ((F6.l3 a k 0 a.1.f17 : Option (Unit)).bind (fun u=>(uG.f k p a1).bind (fun b=>(pN.f k a0 a1).bind (fun c=>(sZ.f k ).bind (fun l=>(if l = true then ((db.f k a0 p).bind (fun m=>some m)) else (some false) : Option Bool).bind (fun d=>(if d = true then ((db.f k b.1 c.1).bind (fun o=>some o)) else (some false) : Option Bool).bind (fun h=>lt (h && (decide (b.2 = c.2))) fun j=>some (j)))))))) else none)) else none)) else none)))
theorem F6.ok {a0 : aJ} {a1 : qG} {r : Bool} (H : F6.f k a0 a1 = some r) : dk Tryz.prog 6 #[.agg (al a0 af ag ay az au av aw ax).toArray,.agg #[.int .u8 a1.f0,ae a1.f1,ae a1.f2,.bool a1.f3]] (cH a0 af ag ay az au av aw ax) (fun v B=>v = .bool r∧B = []):=by
 refine aj Tryz.func6 rfl rfl ?_
 unfold F6.f at H
 refine aR (o' (bO (h:=fun b5=>o' (bO (h:=fun b7=>ad aW (h:=cP (l' (cm 4) ?_)))))))
 obtain⟨c,j0,H⟩:=ac H
 refine o' (ed [0,1,2,3] [0,1,2,3,4,5] (BB.ok j0) fun y F z I D J E K=>?_)
 refine o' (cw (h:=fun q=>o' (bi q 0 10 (al c y F z I D J E K) (h:=cP (bp (cm 10) (h:=l' (cz b7 0 9 [.int .u8 a1.f0,ae a1.f1,ae a1.f2,.bool a1.f3]) ?_))))))
 obtain⟨a,i9,H⟩:=ac H
 refine o' (OA.ghost (Gh.freeze (k:=0) rfl) (OA.ghost (Gh.freeze (k:=1) rfl) (OA.ghost (Gh.freeze (k:=2) rfl) (OA.ghost (Gh.freeze (k:=3) rfl) (ed [0,1,2,3] [0,1,2,3,4,5,6,7,8,9,10] (uG.ok i9) fun L S N U M Y O Z=>?_)))))
 refine ad ar (h:=ad cr (h:=ad cr (h:=o' (cw (h:=fun R=>o' (bi R 0 15 (al a.1 L S N U M Y O Z) (h:=ad aW (h:=eD (ad aW (h:=bA ?_))))))))))
 obtain⟨a2,H,d8⟩:=ac H
 refine bI (St [(2,aH b5),(3,aH b7),(5,aH q),(6,aH R)] (aK b5 34 (al a0 af ag ay az au av aw ax)::Ro bD af ag a0.f0.f2::pG ay az a0.f7::Ro bD au av a0.f16.f2::nZ aw ax a0.f17::aK b7 44 [.int .u8 a1.f0,ae a1.f1,ae a1.f2,.bool a1.f3]::aK q 34 (al c y F z I D J E K)::Ro bD y F c.f0.f2::pG z I c.f7::Ro bD D J c.f16.f2::nZ E K c.f17::aK R 34 (al (aJ.mk (bH.mk a.1.f0.f0 a.1.f0.f1 a2) a.1.f1 a.1.f2 a.1.f3 a.1.f4 a.1.f5 a.1.f6 a.1.f7 a.1.f8 a.1.f9 a.1.f10 a.1.f11 a.1.f12 a.1.f13 a.1.f14 a.1.f15 a.1.f16 a.1.f17) L S N U M Y O Z)::Buf bD 55 L S a2::gf 3 N U a.1.f7::Buf bD 55 M Y a.1.f16.f2::kU 21 O Z a.1.f17::[])) ?_ ?_
 ·refine aQ (cj (fun k_ e ds As=>∃ (s : Int) (d : (List aY)),F6.l0 a k_ s d = some a2∧St [(2,aH b5),(3,aH b7),(5,aH q),(6,aH R),(8,ae s)] (aK b5 34 (al a0 af ag ay az au av aw ax)::Ro bD af ag a0.f0.f2::pG ay az a0.f7::Ro bD au av a0.f16.f2::nZ aw ax a0.f17::aK b7 44 [.int .u8 a1.f0,ae a1.f1,ae a1.f2,.bool a1.f3]::aK q 34 (al c y F z I D J E K)::Ro bD y F c.f0.f2::pG z I c.f7::Ro bD D J c.f16.f2::nZ E K c.f17::aK R 34 (al (aJ.mk (bH.mk a.1.f0.f0 a.1.f0.f1 d) a.1.f1 a.1.f2 a.1.f3 a.1.f4 a.1.f5 a.1.f6 a.1.f7 a.1.f8 a.1.f9 a.1.f10 a.1.f11 a.1.f12 a.1.f13 a.1.f14 a.1.f15 a.1.f16 a.1.f17) L S N U M Y O Z)::Buf bD 55 L S d::gf 3 N U a.1.f7::Buf bD 55 M Y a.1.f16.f2::kU 21 O Z a.1.f17::[]) e ds As) (k:=k) ⟨_,_,H,St.mk1 (cB rfl (cB rfl (cB rfl (cB rfl (cB rfl dS))))) (eZ (12::8::9::10::11::13::14::4::5::6::7::15::0::1::2::3::[]))⟩ ?_)
  clear H
  rintro g0 e ds As ⟨s,d,H,g7⟩
  obtain _ | g0:=g0
  ·cases H
  rw [F6.l0] at H
  obtain⟨k9,H⟩:=aO H
  refine SA.of_St g7 fun junk=>ao (aR (ad ar (h:=ad aA (h:=ad aA (h:=bp (aP 11) (h:=bP (ae (d.length : Int)) (cO Tryz.underlying24 rfl) (h:=ad (ce rfl rfl) (h:=bA ?_))))))))
  rcases bE H with⟨e2,H⟩|⟨e2,H⟩
  ·refine aC rfl e2 (ap (aa (ao (aQ (ak (ad aA (h:=ad aA (h:=bp (aP 11) (h:=S' ar ?_)))))))))
   obtain⟨⟨h6,h7⟩,H⟩:=aO H
   refine bp (bu (i:=s) Tryz.underlying24 cl rfl rfl (Src.buf (k:=12) rfl) h6 h7) (h:=s' (.pointer (some ((el L (s.toNat * 15)).add 0))) (lp (el L (s.toNat * 15)) 0 0) ?_)
   obtain⟨n45,e6,H⟩:=bj H
   have hl_n45 : n45.length = d.length:=by rw [e6]; exact List.length_set
   refine o' (fW (k:=12) (i:=s) (j:=s.toNat * 15) (m:=0) (sz:=15) (xs:=d) (vs:=[aL 1]) (aY.mk 1 ((rd d s).f1) ((rd d s).f2) ((rd d s).f3)) rfl rfl rfl rfl rfl rfl rfl rfl iB h6 h7 rfl (fun _ _ h_=>by subst h_; rfl) ?_)
   rewrite [← e6]
   try unfold cN
   try unfold fc
   try unfold al
   try rewrite [← hl_n45]
   refine ah (aF (aa (ak (ad ar (h:=S' (bW rfl rfl) ?_)))))
   obtain⟨n46,j1,H⟩:=bj H
   refine bP (ae n46) (bo (v:=ae n46) (congrArg (Value.int .i64) j1.symm)) (h:=ah ?_)
   exact aa ⟨g0,Nat.lt_succ_self _,_,_,H,dZ (0::1::2::3::4::5::6::7::8::9::10::11::12::13::14::15::[])⟩
  refine aB rfl e2 (cf (aX (aX (cg ?_))))
  have h:=aN H;subst h
  exact aa (dZ (0::1::2::3::4::5::6::7::8::9::10::11::12::13::14::15::[]))
 rintro e ds As g8
 clear H
 have H:=d8
 clear d8
 obtain⟨k4,H⟩:=aO H
 refine aa (SA.of_St g8 fun junk=>ao (aR (ad aW (h:=bA ?_))))
 obtain⟨b0,H,d9⟩:=ac H
 refine bI (St [(2,aH b5),(3,aH b7),(5,aH q),(6,aH R)] (aK b5 34 (al a0 af ag ay az au av aw ax)::Ro bD af ag a0.f0.f2::pG ay az a0.f7::Ro bD au av a0.f16.f2::nZ aw ax a0.f17::aK b7 44 [.int .u8 a1.f0,ae a1.f1,ae a1.f2,.bool a1.f3]::aK q 34 (al c y F z I D J E K)::Ro bD y F c.f0.f2::pG z I c.f7::Ro bD D J c.f16.f2::nZ E K c.f17::aK R 34 (al (aJ.mk (bH.mk a.1.f0.f0 a.1.f0.f1 a2) a.1.f1 a.1.f2 a.1.f3 a.1.f4 a.1.f5 a.1.f6 a.1.f7 a.1.f8 a.1.f9 a.1.f10 a.1.f11 a.1.f12 a.1.f13 a.1.f14 a.1.f15 (bH.mk a.1.f16.f0 a.1.f16.f1 b0) a.1.f17) L S N U M Y O Z)::Buf bD 55 L S a2::gf 3 N U a.1.f7::Buf bD 55 M Y b0::kU 21 O Z a.1.f17::[])) ?_ ?_
 ·refine aQ (cj (fun k_ e ds As=>∃ (u : Int) (b : (List aY)),F6.l1 a k_ u b = some b0∧St [(2,aH b5),(3,aH b7),(5,aH q),(6,aH R),(9,ae u)] (aK b5 34 (al a0 af ag ay az au av aw ax)::Ro bD af ag a0.f0.f2::pG ay az a0.f7::Ro bD au av a0.f16.f2::nZ aw ax a0.f17::aK b7 44 [.int .u8 a1.f0,ae a1.f1,ae a1.f2,.bool a1.f3]::aK q 34 (al c y F z I D J E K)::Ro bD y F c.f0.f2::pG z I c.f7::Ro bD D J c.f16.f2::nZ E K c.f17::aK R 34 (al (aJ.mk (bH.mk a.1.f0.f0 a.1.f0.f1 a2) a.1.f1 a.1.f2 a.1.f3 a.1.f4 a.1.f5 a.1.f6 a.1.f7 a.1.f8 a.1.f9 a.1.f10 a.1.f11 a.1.f12 a.1.f13 a.1.f14 a.1.f15 (bH.mk a.1.f16.f0 a.1.f16.f1 b) a.1.f17) L S N U M Y O Z)::Buf bD 55 L S a2::gf 3 N U a.1.f7::Buf bD 55 M Y b::kU 21 O Z a.1.f17::[]) e ds As) (k:=k) ⟨_,_,H,St.mk1 (cB rfl (cB rfl (cB rfl (cB rfl (cB rfl dS))))) (eZ (0::1::2::3::4::5::6::7::8::9::10::11::12::13::14::15::[]))⟩ ?_)
  clear H
  rintro g1 e ds As ⟨u,b,H,g9⟩
  obtain _ | g1:=g1
  ·cases H
  rw [F6.l1] at H
  obtain⟨l4,H⟩:=aO H
  refine SA.of_St g9 fun junk=>ao (aR (ad ar (h:=ad aA (h:=ad aA (h:=bp (aP 11) (h:=bP (ae (b.length : Int)) (cO Tryz.underlying24 rfl) (h:=ad (ce rfl rfl) (h:=bA ?_))))))))
  rcases bE H with⟨e3,H⟩|⟨e3,H⟩
  ·refine aC rfl e3 (ap (aa (ao (aQ (ak (ad aA (h:=ad aA (h:=bp (aP 11) (h:=S' ar ?_)))))))))
   obtain⟨⟨h8,h9⟩,H⟩:=aO H
   refine bp (bu (i:=u) Tryz.underlying24 cl rfl rfl (Src.buf (k:=14) rfl) h8 h9) (h:=s' (.pointer (some ((el M (u.toNat * 15)).add 0))) (lp (el M (u.toNat * 15)) 0 0) ?_)
   obtain⟨n55,e7,H⟩:=bj H
   have hl_n55 : n55.length = b.length:=by rw [e7]; exact List.length_set
   refine o' (fW (k:=14) (i:=u) (j:=u.toNat * 15) (m:=0) (sz:=15) (xs:=b) (vs:=[aL 2]) (aY.mk 2 ((rd b u).f1) ((rd b u).f2) ((rd b u).f3)) rfl rfl rfl rfl rfl rfl rfl rfl iB h8 h9 rfl (fun _ _ h_=>by subst h_; rfl) ?_)
   rewrite [← e7]
   try unfold cN
   try unfold fc
   try unfold al
   try rewrite [← hl_n55]
   refine ah (aF (aa (ak (ad ar (h:=S' (bW rfl rfl) ?_)))))
   obtain⟨n56,j2,H⟩:=bj H
   refine bP (ae n56) (bo (v:=ae n56) (congrArg (Value.int .i64) j2.symm)) (h:=ah ?_)
   exact aa ⟨g1,Nat.lt_succ_self _,_,_,H,dZ (0::1::2::3::4::5::6::7::8::9::10::11::12::13::14::15::[])⟩
  refine aB rfl e3 (cf (aX (aX (cg ?_))))
  have h:=aN H;subst h
  exact aa (dZ (0::1::2::3::4::5::6::7::8::9::10::11::12::13::14::15::[]))
 rintro e ds As h0
 clear H
 have H:=d9
 clear d9
 obtain⟨k3,H⟩:=aO H
 refine aa (SA.of_St h0 fun junk=>ao (aR (ad aW (h:=bA ?_))))
 obtain⟨d5,H,e0⟩:=ac H
 refine bI (St [(2,aH b5),(3,aH b7),(5,aH q),(6,aH R)] (aK b5 34 (al a0 af ag ay az au av aw ax)::Ro bD af ag a0.f0.f2::pG ay az a0.f7::Ro bD au av a0.f16.f2::nZ aw ax a0.f17::aK b7 44 [.int .u8 a1.f0,ae a1.f1,ae a1.f2,.bool a1.f3]::aK q 34 (al c y F z I D J E K)::Ro bD y F c.f0.f2::pG z I c.f7::Ro bD D J c.f16.f2::nZ E K c.f17::aK R 34 (al (aJ.mk (bH.mk a.1.f0.f0 a.1.f0.f1 a2) a.1.f1 a.1.f2 a.1.f3 a.1.f4 a.1.f5 a.1.f6 d5 a.1.f8 a.1.f9 a.1.f10 a.1.f11 a.1.f12 a.1.f13 a.1.f14 a.1.f15 (bH.mk a.1.f16.f0 a.1.f16.f1 b0) a.1.f17) L S N U M Y O Z)::Buf bD 55 L S a2::gf 3 N U d5::Buf bD 55 M Y b0::kU 21 O Z a.1.f17::[])) ?_ ?_
 ·refine aQ (cj (fun k_ e ds As=>∃ (a3 : Int) (o : (List Int)),F6.l2 a k_ a3 o = some d5∧St [(2,aH b5),(3,aH b7),(5,aH q),(6,aH R),(10,ae a3)] (aK b5 34 (al a0 af ag ay az au av aw ax)::Ro bD af ag a0.f0.f2::pG ay az a0.f7::Ro bD au av a0.f16.f2::nZ aw ax a0.f17::aK b7 44 [.int .u8 a1.f0,ae a1.f1,ae a1.f2,.bool a1.f3]::aK q 34 (al c y F z I D J E K)::Ro bD y F c.f0.f2::pG z I c.f7::Ro bD D J c.f16.f2::nZ E K c.f17::aK R 34 (al (aJ.mk (bH.mk a.1.f0.f0 a.1.f0.f1 a2) a.1.f1 a.1.f2 a.1.f3 a.1.f4 a.1.f5 a.1.f6 o a.1.f8 a.1.f9 a.1.f10 a.1.f11 a.1.f12 a.1.f13 a.1.f14 a.1.f15 (bH.mk a.1.f16.f0 a.1.f16.f1 b0) a.1.f17) L S N U M Y O Z)::Buf bD 55 L S a2::gf 3 N U o::Buf bD 55 M Y b0::kU 21 O Z a.1.f17::[]) e ds As) (k:=k) ⟨_,_,H,St.mk1 (cB rfl (cB rfl (cB rfl (cB rfl (cB rfl dS))))) (eZ (0::1::2::3::4::5::6::7::8::9::10::11::12::13::14::15::[]))⟩ ?_)
  clear H
  rintro g2 e ds As ⟨a3,o,H,h1⟩
  obtain _ | g2:=g2
  ·cases H
  rw [F6.l2] at H
  obtain⟨l5,H⟩:=aO H
  refine SA.of_St h1 fun junk=>ao (aR (ad ar (h:=ad aA (h:=bp (aP 11) (h:=bP (ae (o.length : Int)) (cO Tryz.underlying29 rfl) (h:=ad (ce rfl rfl) (h:=bA ?_)))))))
  rcases bE H with⟨e4,H⟩|⟨e4,H⟩
  ·refine aC rfl e4 (ap (aa (ao (aQ (ak (ad aA (h:=bp (aP 11) (h:=S' ar ?_))))))))
   obtain⟨⟨i0,i1⟩,H⟩:=aO H
   refine l' (bu (i:=a3) Tryz.underlying29 jl rfl rfl (Src.buf (k:=13) rfl) i0 i1) ?_
   obtain⟨n65,e8,H⟩:=bj H
   have hl_n65 : n65.length = o.length:=by rw [e8]; exact List.length_set
   refine o' (fW (k:=13) (i:=a3) (j:=a3.toNat * 1) (m:=0) (sz:=1) (xs:=o) (vs:=[ae (-1)]) (-1) rfl rfl rfl rfl rfl rfl rfl rfl jl i0 i1 rfl (fun _ _ h_=>by subst h_; rfl) ?_)
   rewrite [← e8]
   try unfold cN
   try unfold fc
   try unfold al
   try rewrite [← hl_n65]
   refine ah (aF (aa (ak (ad ar (h:=S' (bW rfl rfl) ?_)))))
   obtain⟨n66,j3,H⟩:=bj H
   refine bP (ae n66) (bo (v:=ae n66) (congrArg (Value.int .i64) j3.symm)) (h:=ah ?_)
   exact aa ⟨g2,Nat.lt_succ_self _,_,_,H,dZ (0::1::2::3::4::5::6::7::8::9::10::11::12::13::14::15::[])⟩
  refine aB rfl e4 (cf (aX (aX (cg ?_))))
  have h:=aN H;subst h
  exact aa (dZ (0::1::2::3::4::5::6::7::8::9::10::11::12::13::14::15::[]))
 rintro e ds As h3
 clear H
 have H:=e0
 clear e0
 obtain⟨k2,H⟩:=aO H
 refine aa (SA.of_St h3 fun junk=>ao (aR (ad aW (h:=bA ?_))))
 obtain⟨j7,H,e1⟩:=ac H
 refine bI (St [(2,aH b5),(3,aH b7),(5,aH q)] (aK b5 34 (al a0 af ag ay az au av aw ax)::(cH a0 af ag ay az au av aw ax++(aK b7 44 [.int .u8 a1.f0,ae a1.f1,ae a1.f2,.bool a1.f3]::fc q c y F z I D J E K)))) ?_ ?_
 ·refine aQ (cj (fun k_ e ds As=>∃ (a4 : Int) (p : (List Int)),F6.l3 a k_ a4 p = some j7∧St [(2,aH b5),(3,aH b7),(5,aH q),(6,aH R),(11,ae a4)] (aK b5 34 (al a0 af ag ay az au av aw ax)::Ro bD af ag a0.f0.f2::pG ay az a0.f7::Ro bD au av a0.f16.f2::nZ aw ax a0.f17::aK b7 44 [.int .u8 a1.f0,ae a1.f1,ae a1.f2,.bool a1.f3]::aK q 34 (al c y F z I D J E K)::Ro bD y F c.f0.f2::pG z I c.f7::Ro bD D J c.f16.f2::nZ E K c.f17::aK R 34 (al (aJ.mk (bH.mk a.1.f0.f0 a.1.f0.f1 a2) a.1.f1 a.1.f2 a.1.f3 a.1.f4 a.1.f5 a.1.f6 d5 a.1.f8 a.1.f9 a.1.f10 a.1.f11 a.1.f12 a.1.f13 a.1.f14 a.1.f15 (bH.mk a.1.f16.f0 a.1.f16.f1 b0) p) L S N U M Y O Z)::Buf bD 55 L S a2::gf 3 N U d5::Buf bD 55 M Y b0::kU 21 O Z p::[]) e ds As) (k:=k) ⟨_,_,H,St.mk1 (cB rfl (cB rfl (cB rfl (cB rfl (cB rfl dS))))) (eZ (0::1::2::3::4::5::6::7::8::9::10::11::12::13::14::15::[]))⟩ ?_)
  clear H
  rintro g3 e ds As ⟨a4,p,H,h4⟩
  obtain _ | g3:=g3
  ·cases H
  rw [F6.l3] at H
  obtain⟨l6,H⟩:=aO H
  refine SA.of_St h4 fun junk=>ao (aR (ad ar (h:=ad aA (h:=bp (aP 11) (h:=bP (ae (p.length : Int)) (cO Tryz.underlying32 rfl) (h:=ad (ce rfl rfl) (h:=bA ?_)))))))
  rcases bE H with⟨e5,H⟩|⟨e5,H⟩
  ·refine aC rfl e5 (ap (aa (ao (aQ (ak (ad aA (h:=bp (aP 11) (h:=S' ar ?_))))))))
   obtain⟨⟨i2,i3⟩,H⟩:=aO H
   refine l' (bu (i:=a4) Tryz.underlying32 iB rfl rfl (Src.buf (k:=15) rfl) i2 i3) ?_
   obtain⟨n75,e9,H⟩:=bj H
   have hl_n75 : n75.length = p.length:=by rw [e9]; exact List.length_set
   refine o' (fW (k:=15) (i:=a4) (j:=a4.toNat * 1) (m:=0) (sz:=1) (xs:=p) (vs:=[aL 3]) 3 rfl rfl rfl rfl rfl rfl rfl rfl iB i2 i3 rfl (fun _ _ h_=>by subst h_; rfl) ?_)
   rewrite [← e9]
   try unfold cN
   try unfold fc
   try unfold al
   try rewrite [← hl_n75]
   refine ah (aF (aa (ak (ad ar (h:=S' (bW rfl rfl) ?_)))))
   obtain⟨n76,j4,H⟩:=bj H
   refine bP (ae n76) (bo (v:=ae n76) (congrArg (Value.int .i64) j4.symm)) (h:=ah ?_)
   exact aa ⟨g3,Nat.lt_succ_self _,_,_,H,dZ (0::1::2::3::4::5::6::7::8::9::10::11::12::13::14::15::[])⟩
  refine aB rfl e5 (cf (aX (aX (cg ?_))))
  have h:=aN H;subst h
  exact bK [0,1,2,3,4,5,6,7,8,9,10]
 rintro e ds As h5
 clear H
 have H:=e1
 clear e1
 refine aa (SA.of_St h5 fun junk=>aR (bp (cm 6) (h:=l' (cz b7 0 5 [.int .u8 a1.f0,ae a1.f1,ae a1.f2,.bool a1.f3]) ?_)))
 obtain⟨a6,i8,H⟩:=ac H
 refine o' (ed [7,8,9,10] [0,1,2,3,4,5,6,7,8,9,10] (uG.ok i8) fun c6 d1 c7 d2 c8 d3 c9 d4=>?_)
 refine ad ar (h:=ad cr (h:=ad cr (h:=o' (cw (h:=fun d0=>o' (bi d0 0 15 (al a6.1 c6 d1 c7 d2 c8 d3 c9 d4) (h:=ad aW (h:=bA (ao (bM 0 fun k5=>bM 1 fun k6=>bM 2 fun k7=>?_))))))))))
 refine bM 3 fun k8=>ak (bp (cm 4) (h:=l' (cz b7 0 9 [.int .u8 a1.f0,ae a1.f1,ae a1.f2,.bool a1.f3]) ?_))
 obtain⟨a7,i7,H⟩:=ac H
 refine o' (ed [5,6,7,8] (0::1::2::3::4::5::6::7::8::9::10::11::12::13::14::15::[]) (DY.ok i7) fun d6 b6 b2 b8 b3 b9 b4 c5=>?_)
 refine ad ar (h:=ad cr (h:=ad cr (h:=o' (cw (h:=fun b1=>o' (bi b1 0 20 (al a7.1 d6 b6 b2 b8 b3 b9 b4 c5) (h:=ad aW (h:=bA (SA.of_St (l:=[(2,aH b5),(5,aH q),(12,aH d0),(13,ae a6.2),(14,aH b1),(15,ae a7.2)]) (B:=(aK b5 34 (al a0 af ag ay az au av aw ax)::Ro bD af ag a0.f0.f2::pG ay az a0.f7::Ro bD au av a0.f16.f2::nZ aw ax a0.f17::aK q 34 (al c y F z I D J E K)::Ro bD y F c.f0.f2::pG z I c.f7::Ro bD D J c.f16.f2::nZ E K c.f17::aK d0 34 (al a6.1 c6 d1 c7 d2 c8 d3 c9 d4)::Buf bD 55 c6 d1 a6.1.f0.f2::gf 3 c7 d2 a6.1.f7::Buf bD 55 c8 d3 a6.1.f16.f2::kU 21 c9 d4 a6.1.f17::aK b1 34 (al a7.1 d6 b6 b2 b8 b3 b9 b4 c5)::Buf bD 55 d6 b6 a7.1.f0.f2::gf 3 b2 b8 a7.1.f7::Buf bD 55 b3 b9 a7.1.f16.f2::kU 21 b4 c5 a7.1.f17::[])) (St.mk1 (cB rfl (cB rfl (cB rfl (cB rfl (cB rfl (cB rfl dS)))))) (Gh.sel (8::9::10::11::12::14::15::16::17::18::19::4::5::6::7::20::0::1::2::3::[]) (by kernel_rfl) (by kernel_rfl))) fun junk=>ao (bM 16 fun j8=>?_))))))))))
 refine bM 17 fun j9=>bM 18 fun k0=>bM 19 fun k1=>ak ?_
 obtain⟨l7,i6,H⟩:=ac H
 refine o' (dc [] (0::1::2::3::4::5::6::7::8::9::10::11::12::13::14::15::16::17::18::19::[]) (sZ.ok i6) ?_)
 refine S' ar ?_
 obtain⟨j5,H,g5⟩:=ac H
 refine dy 4 [(12,aH d0),(13,ae a6.2),(14,aH b1),(15,ae a7.2),(91,.bool j5)] (aK d0 34 (al a6.1 c6 d1 c7 d2 c8 d3 c9 d4)::(bn a6.1 c6 d1 c7 d2 c8 d3 c9 d4++(cN b1 a7.1 d6 b6 b2 b8 b3 b9 b4 c5))) ?_ fun junk=>?_
 ·rcases bE H with⟨a8,H⟩|⟨a8,H⟩
  ·refine cE a8 (cm 0) (h:=z' a8 (cm 5) ?_)
   obtain⟨l8,i4,H⟩:=ac H
   refine fT a8 (dc [1,2,3,4,6,7,8,9] (0::1::2::3::4::5::6::7::8::9::10::11::12::13::14::15::16::17::18::19::[]) (DX.ok i4) ?_)
   refine gN a8 ?_
   have h:=aN H;subst h
   exact dL [10,11,12,13,14,15,16,17,18,19]
  refine cu 3 (aM a8) (fZ (aM a8) ?_)
  have h:=aN H;subst h
  exact dL [10,11,12,13,14,15,16,17,18,19]
 replace H:=g5
 refine S' ar ?_
 obtain⟨g4,H,g6⟩:=ac H
 refine dy 4 [(13,ae a6.2),(15,ae a7.2),(96,.bool g4)] [] ?_ fun junk=>?_
 ·rcases bE H with⟨a9,H⟩|⟨a9,H⟩
  ·refine cE a9 (cm 0) (h:=z' a9 (cm 5) ?_)
   obtain⟨l9,i5,H⟩:=ac H
   refine fT a9 (dc [1,2,3,4,6,7,8,9] [0,5] (db.ok i5) ?_)
   refine gN a9 ?_
   have h:=aN H;subst h
   exact dL []
  refine cu 3 (aM a9) (fZ (aM a9) ?_)
  have h:=aN H;subst h
  exact dL []
 replace H:=g6
 refine S' ar ?_
 obtain⟨j6,d7,H⟩:=bj H
 refine dy 4 [(101,.bool j6)] [] ?_ fun junk=>?_
 ·by_cases a5 : g4 = true
  ·refine bf a5 ar (h:=bf a5 ar (h:=bf a5 (bk rfl rfl) (h:=cd a5 (h:=ah ?_))))
   have x_:=fD d7 a5;exact bK []
  refine cu 3 (aM a5) (ck (aM a5) (h:=ah ?_))
  have x_:=fC d7 ((aM a5));exact bK []
 refine ad aW (h:=cC ?_)
 have h:=aN H;subst h
 exact dX [] ⟨rfl,rfl⟩

end Go.Proofs.YtckilbegmbaeeaaGreat.Z6

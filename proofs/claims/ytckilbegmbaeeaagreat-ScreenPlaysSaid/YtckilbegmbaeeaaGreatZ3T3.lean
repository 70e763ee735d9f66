/- What a function computes, and that it does: 3. -/
import Derived.Test.YtckilbegmbaeeaaGreatZ32
import Derived.Test.YtckilbegmbaeeaaGreatZ316
import Derived.Test.YtckilbegmbaeeaaGreatZ330
import Derived.Test.YtckilbegmbaeeaaGreatZ331
namespace Go.Proofs.YtckilbegmbaeeaaGreat.Z3
open Go Go.RowKit Go.Proofs.YtckilbegmbaeeaaGreat.SL
open Go.IntKind (i64)
set_option linter.unusedVariables false
set_option maxHeartbeats 20000000
set_option maxRecDepth 100000
set_option linter.unusedSimpArgs false
attribute [local irreducible] IntKind.wrap cC dO eX gp gl lH fU cN gm rd sub bytesOf eG cL
variable {k : Nat}
def F3.l0 (a0 : wc) (l1 : (List pM)) (r4 : aG × Int) : Nat → aG → aG → Int → Option (Out (Bool) (Unit))
  | 0,_,_,_=>none
  | k + 1,c,d,a=>lt ((decide (a < (l1.length : Int))) && (decide (r4.2 = 0))) fun r=>(if r = true then ((vV.f a0.f0 a0.f1 (l1.length : Int)).bind (fun s=>some (!s))) else (some false) : Option Bool).bind (fun u=>if u = true then ((if 0 ≤ a∧a < (l1.length : Int) then ((vD.f k c (rd l1 a)).bind (fun l=>some (c,l.1,l.2))) else none : Option (aG × aG × Int)).bind (fun h=>(if 0 ≤ a∧a < (l1.length : Int) then ((ns.f k d (rd l1 a)).bind (fun j=>some (j.1,j.2))) else none : Option (aG × Int)).bind (fun b=>(dj.f k h.2.1 b.1).bind (fun m=>lt ((!m) || (decide (h.2.2 ≠ b.2))) fun o=>if o = true then (some (Out.ret (false))) else (if b.2 = 0 then (lt (i64.wrap (a + 1)) fun p=>F3.l0 a0 l1 r4 k h.2.1 b.1 p) else (lt (i64.wrap (a + 1)) fun q=>F3.l0 a0 l1 r4 k h.1 d q)))))) else (some (Out.go ())))
def F3.f (k : Nat) (a0 : wc) (l1 : (List pM)) : Option (Bool):=(F8.f k a0.f0 a0.f1).bind (fun b=>(F9.f k a0.f0 a0.f1).bind (fun a=>(dj.f k b.1 a.1).bind (fun d=>lt ((!d) || (decide (b.2 ≠ a.2))) fun h=>if h = true then (some (false)) else ((F3.l0 a0 l1 b k b.1 a.1 0 : Option (Out (Bool) (Unit))).bind (fun j=>Out.el j (fun r_=>some r_) (fun l=>(tV.f k ).bind (fun c=>some (c))))))))
theorem F3.ok {a0 : wc} {l1 : (List pM)} {A1 : Option Addr} {c1 : Nat} {r : Bool} (H : F3.f k a0 l1 = some r) : df Tryz.prog 3 #[.agg #[ae a0.f0,ae a0.f1],.slice A1 l1.length c1] [Ro tS A1 c1 l1] (fun v B=>v = .bool r∧B = []):=by
 refine ai Tryz.func3 rfl rfl ?_
 unfold F3.f at H
 refine aQ (o' (bN (h:=fun p=>ad aV (h:=cV (bO (aK p) (dM (B:=⟨p,0,none⟩) (m:=0) (o:=0) Tryz.underlying22 jG rfl rfl (by decide) (by decide) rfl) (h:=bD (aT 1) (h:=bO (qF p 1) (dM (B:=⟨p,0,none⟩) (m:=0) (o:=1) Tryz.underlying22 jG rfl rfl (by decide) (by decide) rfl) (h:=l' (aT 1) ?_))))))))
 obtain⟨r4,k5,H⟩:=ac H
 refine o' (dN [] [0,1] (F8.ok k5) fun A5 c6 A8 c9 g6 g7 g8 g9=>?_)
 refine ad ax (h:=ad cg (h:=ad cg (h:=o' (cy (h:=fun h0=>o' (bg h0 0 6 (al r4.1 A5 c6 A8 c9 g6 g7 g8 g9) (h:=ad aV (h:=cV (bO (aK p) (dM (B:=⟨p,0,none⟩) (m:=0) (o:=0) Tryz.underlying22 jG rfl rfl (by decide) (by decide) rfl) (h:=bD (aT 5) (h:=s' (qF p 1) (dM (B:=⟨p,0,none⟩) (m:=0) (o:=1) Tryz.underlying22 jG rfl rfl (by decide) (by decide) rfl) ?_)))))))))))
 refine l' (aT 5) ?_
 obtain⟨l7,k6,H⟩:=ac H
 refine o' (dN [] [0,1,2,3,4,5,6] (F9.ok k6) fun i4 i5 i6 i7 i8 i9 j0 j1=>?_)
 refine ad ax (h:=ad cg (h:=ad cg (h:=o' (cy (h:=fun h1=>o' (bg h1 0 11 (al l7.1 i4 i5 i6 i7 i8 i9 j0 j1) (h:=ad aV (h:=bC (ao (ao (bj 0 fun p5=>bj 1 fun p6=>bj 2 fun p7=>?_)))))))))))
 refine bj 3 fun p8=>bj 4 fun p9=>bj 5 fun q0=>bj 6 fun q1=>bj 7 fun q2=>ah (bD (ck 10) (h:=l' (ck 11) ?_))
 obtain⟨m0,k7,H⟩:=ac H
 refine o' (da [4,5,6,7,0,1,2,3] [8,9,10,11] (dj.ok k7) ?_)
 refine ad (ca rfl) (h:=S' ax ?_)
 obtain⟨m1,j2,H⟩:=br H
 refine cD 4 (St [(1,.slice A1 l1.length c1),(2,aK p),(5,aK h0),(6,ae r4.2),(7,aK h1),(38,.bool m1)] (Ro tS A1 c1 l1::(aL p 22 [ae a0.f0,ae a0.f1]::(aL h0 34 (al r4.1 A5 c6 A8 c9 g6 g7 g8 g9)::(aS r4.1 A5 c6 A8 c9 g6 g7 g8 g9++(cK h1 l7.1 i4 i5 i6 i7 i8 i9 j0 j1)))))) ?_ ?_
 ·by_cases e5 : (!m0) = true
  ·refine cI 3 e5 (cq e5 (h:=aj ?_))
   have x_:=jL j2 e5;exact bM [8,9,10,0,1,2,3,11,4,5,6,7]
  refine bn (aX e5) ax (h:=bn (aX e5) ax (h:=bn (aX e5) (dK rfl rfl) (h:=cv (aX e5) (h:=aj ?_))))
  have x_:=jN j2 ((aX e5));exact bM [8,9,10,0,1,2,3,11,4,5,6,7]
 rintro e ds As k8
 refine bC (SA.of_St k8 fun junk=>?_)
 rcases bH H with⟨j3,H⟩|⟨j3,H⟩
 ·refine aC rfl j3 (aQ (ad aV (h:=cE ?_)))
  have h:=aN H;subst h
  exact er [] ⟨rfl,rfl⟩
 refine aD rfl j3 (ap (aa (ao (aQ (ad aV (h:=bC ?_))))))
 obtain⟨l8,H,e6⟩:=ac H
 refine bI (fun e ds As=>∃ (l9 : Unit),l8 = Out.go l9∧St [] [] e ds As) ?_ ?_
 ·refine aU (cw (fun k_ e ds As=>∃ (J : aG) (c : aG) (a : Int),∃ (c5 : Nat),∃ (c7 : Option Addr) (c8 : Nat),∃ (d0 : Option Addr) (d1 : Nat),∃ (d2 : Option Addr) (d3 : Nat),∃ (d4 : Option Addr) (d5 : Nat),∃ (d : Nat),∃ (M : Option Addr) (N : Nat),∃ (O : Option Addr) (R : Nat),∃ (S : Option Addr) (U : Nat),∃ (Y : Option Addr) (Z : Nat),F3.l0 a0 l1 r4 k_ J c a = some l8∧St [(1,.slice A1 l1.length c1),(2,aK p),(5,aK c5),(6,ae r4.2),(7,aK d),(9,ae a)] (Ro tS A1 c1 l1::(aL p 22 [ae a0.f0,ae a0.f1]::(aL c5 34 (al J c7 c8 d0 d1 d2 d3 d4 d5)::(eK J c7 c8 d0 d1 d2 d3 d4 d5++(cK d c M N O R S U Y Z))))) e ds As) (k:=k) ⟨_,_,_,h0,A5,c6,A8,c9,g6,g7,g8,g9,h1,i4,i5,i6,i7,i8,i9,j0,j1,H,St.mk1 (cJ rfl (cJ rfl (cJ rfl (cJ rfl (cJ rfl (cJ rfl dQ)))))) ((Gh.freeze (k:=3) rfl).trans ((Gh.freeze (k:=4) rfl).trans ((Gh.freeze (k:=5) rfl).trans ((Gh.freeze (k:=6) rfl).trans (eY [0,1,2,3,4,5,6,7,8,9,10,11])))))⟩ ?_)
  clear H
  rintro h3 e ds As ⟨J,c,a,c5,c7,c8,d0,d1,d2,d3,d4,d5,d,M,N,O,R,S,U,Y,Z,H,k9⟩
  obtain _ | h3:=h3
  ·cases H
  rw [F3.l0] at H
  refine SA.of_St k9 fun junk=>ao (aQ (ad ax (h:=ad ax (h:=bO (ae (l1.length : Int)) (dB Tryz.underlying23 rfl) (h:=ad (cn rfl rfl) (h:=S' ax ?_))))))
  obtain⟨m2,j4,H⟩:=br H
  refine eg 3 [(1,.slice A1 l1.length c1),(2,aK p),(5,aK c5),(6,ae r4.2),(7,aK d),(9,ae a),(46,.bool m2)] (Ro tS A1 c1 l1::(aL p 22 [ae a0.f0,ae a0.f1]::(aL c5 34 (al J c7 c8 d0 d1 d2 d3 d4 d5)::(eK J c7 c8 d0 d1 d2 d3 d4 d5++(cK d c M N O R S U Y Z))))) ?_ fun junk=>?_
  ·by_cases e7 : a < (l1.length : Int)
   ·refine bn (ak e7) ax (h:=bn (ak e7) (bk rfl rfl) (h:=cq (ak e7) (h:=aj ?_)))
    have x_:=gD j4 ((ak e7));exact bM [0,1,2,3,4,5,6,7,8,9,10,11]
   refine cI 2 (am e7) (cv (am e7) (h:=aj ?_))
   have x_:=gC j4 ((am e7));exact bM [0,1,2,3,4,5,6,7,8,9,10,11]
  refine S' ax ?_
  obtain⟨m3,H,j5⟩:=ac H
  refine cD 9 (St [(1,.slice A1 l1.length c1),(2,aK p),(5,aK c5),(6,ae r4.2),(7,aK d),(9,ae a),(56,.bool m3)] (Ro tS A1 c1 l1::(aL p 22 [ae a0.f0,ae a0.f1]::(aL c5 34 (al J c7 c8 d0 d1 d2 d3 d4 d5)::(eK J c7 c8 d0 d1 d2 d3 d4 d5++(cK d c M N O R S U Y Z)))))) ?_ ?_
  ·rcases bH H with⟨a1,H⟩|⟨a1,H⟩
   ·refine kQ a1 (aK p) (dM (B:=⟨p,0,none⟩) (m:=0) (o:=0) Tryz.underlying22 jG rfl rfl (by decide) (by decide) rfl) (h:=dc a1 (aT 1) (h:=kQ a1 (qF p 1) (dM (B:=⟨p,0,none⟩) (m:=0) (o:=1) Tryz.underlying22 jG rfl rfl (by decide) (by decide) rfl) (h:=dc a1 (aT 1) (h:=bn a1 ax (h:=y' a1 (ae (l1.length : Int)) (dB Tryz.underlying23 rfl) ?_)))))
    obtain⟨q3,m4,H⟩:=ac H
    refine gE a1 (da [] [0,1,2,3,4,5,6,7,8,9,10,11] (vV.ok m4) ?_)
    refine bn a1 (ca rfl) (h:=ii a1 ?_)
    have h:=aN H;subst h
    exact dV [0,1,2,3,4,5,6,7,8,9,10,11]
   refine cI 8 (aX a1) (gL (aX a1) ?_)
   have h:=aN H;subst h
   exact dV [0,1,2,3,4,5,6,7,8,9,10,11]
  rintro e ds As l2
  clear H
  have H:=j5
  clear j5
  refine bC (SA.of_St l2 fun junk=>?_)
  rcases bH H with⟨j6,H⟩|⟨j6,H⟩
  ·refine aC rfl j6 (ap (aa (ao (aU (ao ?_)))))
   obtain⟨b,H,j7⟩:=ac H
   refine bI (fun e ds As=>∃ (K : Nat),∃ (b0 : Option Addr) (b1 : Nat),∃ (b3 : Option Addr) (b4 : Nat),∃ (b5 : Option Addr) (b6 : Nat),∃ (b7 : Option Addr) (b8 : Nat),∃ (b9 : Nat),∃ (s : Option Addr) (u : Nat),∃ (y : Option Addr) (z : Nat),∃ (D : Option Addr) (E : Nat),∃ (F : Option Addr) (I : Nat),St [(1,.slice A1 l1.length c1),(2,aK p),(5,aK K),(6,ae r4.2),(7,aK d),(9,ae a),(10,aK b9),(11,ae b.2.2)] (aL K 34 (al b.1 b0 b1 b3 b4 b5 b6 b7 b8)::Ro bE b0 b1 b.1.f0.f2::yY b3 b4 b.1.f7::Ro bE b5 b6 b.1.f16.f2::vj b7 b8 b.1.f17::aL b9 34 (al b.2.1 s u y z D E F I)::Buf bE 55 s u b.2.1.f0.f2::fm 3 y z b.2.1.f7::Buf bE 55 D E b.2.1.f16.f2::jf 21 F I b.2.1.f17::Ro tS A1 c1 l1::aL p 22 [ae a0.f0,ae a0.f1]::aL d 34 (al c M N O R S U Y Z)::Buf bE 55 M N c.f0.f2::fm 3 O R c.f7::Buf bE 55 S U c.f16.f2::jf 21 Y Z c.f17::[]) e ds As) ?_ ?_
   ·refine fk [0,1,2,3,4,6,7,8,11] [0,2,3,4,5,6] [0,1,3,4,5,6,7,8,9,10,11] fun _ _ _ _ _ sH dd pk=>?_
    refine bT 0 rfl sH (ck 1) (h:=bf 1 rfl sH ax (h:=T' 2 rfl sH ax ?_))
    obtain⟨⟨j8,j9⟩,H⟩:=aR H
    refine bT 3 rfl sH (bK (i:=a) Tryz.underlying23 vr rfl rfl (Src.ro (k:=0) rfl) j8 j9) (h:=r' 4 rfl sH (cj (enc:=rQ) (i:=a) (j:=a.toNat * 4) (m:=0) (sz:=4) (vs:=[.int .u8 ((rd l1 a).f0),ae ((rd l1 a).f1),ae ((rd l1 a).f2),.bool ((rd l1 a).f3)]) Tryz.underlying44 rfl vr rfl rfl rfl (Src.ro (k:=0) rfl) j8 j9 (fun _ _ h=>h) rfl) ?_)
    obtain⟨k0,k1,H⟩:=ac H
    refine gM (rs:=[5,9]) dd (by kernel_rfl) (by decide) (bx ⟨_,rfl,(.no rfl),?_⟩ (bx ⟨_,rfl,(.no rfl),?_⟩ cO))
    ·refine id (dN [2,3,4,5] [0,1,2,3,4,5,6,7,8,9,10] (vD.ok k1) fun e8 e9 f4 f5 f6 f8 f9 g0=>?_)
     refine bf 6 rfl sH ax (h:=bf 7 rfl sH cg (h:=bf 8 rfl sH cg (h:=dx 9 rfl dd (iO rfl lm fun g1=>dx 10 rfl dd (bg g1 0 15 (al k0.1 e8 e9 f4 f5 f6 f8 f9 g0) (h:=bf 11 rfl sH aV (h:=aW dd sH (aH (by kernel_rfl) ?_))))))))
     have h:=aN H;subst h
     exact aa ⟨c5,c7,c8,d0,d1,d2,d3,d4,d5,g1,e8,e9,f4,f5,f6,f8,f9,g0,ed (1::2::3::4::5::21::6::7::8::9::0::11::16::17::18::19::20::[])⟩
    refine id (iO rfl lm fun g1=>dx 5 rfl dd (dN [2,3,4,5] [0,1,2,3,4,5,6,7,8,9,10,11] (vD.ok k1) fun e8 e9 f4 f5 f6 f8 f9 g0=>?_))
    refine bf 6 rfl sH ax (h:=bf 7 rfl sH cg (h:=bf 8 rfl sH cg (h:=dx 10 rfl dd (bg g1 0 15 (al k0.1 e8 e9 f4 f5 f6 f8 f9 g0) (h:=bf 11 rfl sH aV (h:=aW dd sH (aH (by kernel_rfl) ?_)))))))
    have h:=aN H;subst h
    exact aa ⟨c5,c7,c8,d0,d1,d2,d3,d4,d5,g1,e8,e9,f4,f5,f6,f8,f9,g0,ed (1::2::3::4::5::21::6::7::8::9::0::11::16::17::18::19::20::[])⟩
   rintro e ds As ⟨K,b0,b1,b3,b4,b5,b6,b7,b8,b9,s,u,y,z,D,E,F,I,k2⟩
   clear H
   have H:=j7
   clear j7
   refine aa (SA.of_St k2 fun junk=>ao ?_)
   obtain⟨q,H,h4⟩:=ac H
   refine bI (fun e ds As=>∃ (g2 : Nat),∃ (a2 : Option Addr) (a3 : Nat),∃ (a4 : Option Addr) (a5 : Nat),∃ (a6 : Option Addr) (a7 : Nat),∃ (a8 : Option Addr) (a9 : Nat),St [(1,.slice A1 l1.length c1),(2,aK p),(5,aK K),(6,ae r4.2),(7,aK d),(9,ae a),(10,aK b9),(11,ae b.2.2),(12,aK g2),(13,ae q.2)] (aL g2 34 (al q.1 a2 a3 a4 a5 a6 a7 a8 a9)::Buf bE 55 a2 a3 q.1.f0.f2::fm 3 a4 a5 q.1.f7::Buf bE 55 a6 a7 q.1.f16.f2::jf 21 a8 a9 q.1.f17::Ro tS A1 c1 l1::aL p 22 [ae a0.f0,ae a0.f1]::aL K 34 (al b.1 b0 b1 b3 b4 b5 b6 b7 b8)::Ro bE b0 b1 b.1.f0.f2::yY b3 b4 b.1.f7::Ro bE b5 b6 b.1.f16.f2::vj b7 b8 b.1.f17::aL d 34 (al c M N O R S U Y Z)::Buf bE 55 M N c.f0.f2::fm 3 O R c.f7::Buf bE 55 S U c.f16.f2::jf 21 Y Z c.f17::aL b9 34 (al b.2.1 s u y z D E F I)::Buf bE 55 s u b.2.1.f0.f2::fm 3 y z b.2.1.f7::Buf bE 55 D E b.2.1.f16.f2::jf 21 F I b.2.1.f17::[]) e ds As) ?_ ?_
   ·refine bj 6 fun o3=>bj 7 fun o4=>bj 8 fun o5=>bj 9 fun o6=>bj 13 fun o7=>bj 14 fun o8=>bj 15 fun o9=>bj 16 fun p0=>?_
    refine fk [0,1,2,3,4,6,7,8,11] [1,2,3,4,10,12] (0::1::2::3::4::5::6::7::8::9::10::11::13::14::15::16::[]) fun _ _ _ _ _ sH dd pk=>?_
    refine bT 0 rfl sH (ck 5) (h:=bf 1 rfl sH ax (h:=T' 2 rfl sH ax ?_))
    obtain⟨⟨h5,h6⟩,H⟩:=aR H
    refine bT 3 rfl sH (bK (i:=a) Tryz.underlying23 vr rfl rfl (Src.ro (k:=4) rfl) h5 h6) (h:=r' 4 rfl sH (cj (enc:=rQ) (i:=a) (j:=a.toNat * 4) (m:=0) (sz:=4) (vs:=[.int .u8 ((rd l1 a).f0),ae ((rd l1 a).f1),ae ((rd l1 a).f2),.bool ((rd l1 a).f3)]) Tryz.underlying44 rfl vr rfl rfl rfl (Src.ro (k:=4) rfl) h5 h6 (fun _ _ h=>h) rfl) ?_)
    obtain⟨h7,h8,H⟩:=ac H
    refine gM (rs:=[5,9]) dd (by kernel_rfl) (by decide) (bx ⟨_,rfl,(.no rfl),?_⟩ (bx ⟨_,rfl,(.no rfl),?_⟩ cO))
    ·refine id (dN [12,13,14,15] [0,1,2,3,4,5,6,7,8,9,10,11] (ns.ok h8) fun d6 d7 d8 d9 e0 e1 e2 e3=>?_)
     refine bf 6 rfl sH ax (h:=bf 7 rfl sH cg (h:=bf 8 rfl sH cg (h:=dx 9 rfl dd (iO rfl lm fun e4=>dx 10 rfl dd (bg e4 0 20 (al h7.1 d6 d7 d8 d9 e0 e1 e2 e3) (h:=bf 11 rfl sH aV (h:=aW dd sH (aH (by kernel_rfl) ?_))))))))
     have h:=aN H;subst h
     exact aa ⟨e4,d6,d7,d8,d9,e0,e1,e2,e3,ed (26::6::7::8::9::4::25::14::0::1::2::3::5::10::11::12::13::19::20::21::22::23::[])⟩
    refine id (iO rfl lm fun e4=>dx 5 rfl dd (dN [12,13,14,15] (0::1::2::3::4::5::6::7::8::9::10::11::16::[]) (ns.ok h8) fun d6 d7 d8 d9 e0 e1 e2 e3=>?_))
    refine bf 6 rfl sH ax (h:=bf 7 rfl sH cg (h:=bf 8 rfl sH cg (h:=dx 10 rfl dd (bg e4 0 20 (al h7.1 d6 d7 d8 d9 e0 e1 e2 e3) (h:=bf 11 rfl sH aV (h:=aW dd sH (aH (by kernel_rfl) ?_)))))))
    have h:=aN H;subst h
    exact aa ⟨e4,d6,d7,d8,d9,e0,e1,e2,e3,ed (26::6::7::8::9::4::25::14::0::1::2::3::5::10::11::12::13::19::20::21::22::23::[])⟩
   rintro e ds As ⟨g2,a2,a3,a4,a5,a6,a7,a8,a9,i1⟩
   clear H
   have H:=h4
   clear h4
   refine aa (SA.of_St i1 fun junk=>ao (ao (bj 1 fun m5=>bj 2 fun m6=>bj 3 fun m7=>bj 4 fun m8=>bj 13 fun m9=>bj 14 fun n0=>bj 15 fun n1=>?_)))
   refine bj 16 fun n2=>bj 18 fun n3=>bj 19 fun o0=>bj 20 fun o1=>bj 21 fun o2=>ah (bD (ck 17) (h:=l' (ck 0) ?_))
   obtain⟨l3,l4,H⟩:=ac H
   refine o' (da [18,19,20,21,1,2,3,4] (0::5::6::7::8::9::10::11::12::13::14::15::16::17::[]) (dj.ok l4) ?_)
   refine ad (ca rfl) (h:=S' ax ?_)
   obtain⟨l5,g5,H⟩:=br H
   refine cD 4 (St [(1,.slice A1 l1.length c1),(2,aK p),(5,aK K),(6,ae r4.2),(7,aK d),(9,ae a),(10,aK b9),(12,aK g2),(13,ae q.2),(85,.bool l5)] (Ro tS A1 c1 l1::aL p 22 [ae a0.f0,ae a0.f1]::aL K 34 (al b.1 b0 b1 b3 b4 b5 b6 b7 b8)::Ro bE b0 b1 b.1.f0.f2::yY b3 b4 b.1.f7::Ro bE b5 b6 b.1.f16.f2::vj b7 b8 b.1.f17::aL d 34 (al c M N O R S U Y Z)::Buf bE 55 M N c.f0.f2::fm 3 O R c.f7::Buf bE 55 S U c.f16.f2::jf 21 Y Z c.f17::aL b9 34 (al b.2.1 s u y z D E F I)::Buf bE 55 s u b.2.1.f0.f2::fm 3 y z b.2.1.f7::Buf bE 55 D E b.2.1.f16.f2::jf 21 F I b.2.1.f17::aL g2 34 (al q.1 a2 a3 a4 a5 a6 a7 a8 a9)::Buf bE 55 a2 a3 q.1.f0.f2::fm 3 a4 a5 q.1.f7::Buf bE 55 a6 a7 q.1.f16.f2::jf 21 a8 a9 q.1.f17::[])) ?_ ?_
   ·by_cases L : (!l3) = true
    ·refine cI 3 L (cq L (h:=aj ?_))
     have x_:=jL g5 L;exact aa (ed (9::10::11::12::13::14::15::16::17::18::19::20::21::0::1::2::3::8::4::5::6::7::[]))
    refine bn (aX L) ax (h:=bn (aX L) ax (h:=bn (aX L) (dK rfl rfl) (h:=cv (aX L) (h:=aj ?_))))
    have x_:=jN g5 ((aX L));exact aa (ed (9::10::11::12::13::14::15::16::17::18::19::20::21::0::1::2::3::8::4::5::6::7::[]))
   rintro e ds As i2
   refine bC (SA.of_St i2 fun junk=>?_)
   rcases bH H with⟨g3,H⟩|⟨g3,H⟩
   ·refine aC rfl g3 (SA.of_St (l:=[]) (B:=[]) (St.mk1 dQ (Gh.sel [] (by kernel_rfl) (by kernel_rfl))) fun junk=>aQ (ad aV (h:=cE (bi (aI (aI (bi (aI (aI ?_)))))))))
    have h:=aN H;subst h
    have hb_:=dS e6
    have hr_:=Option.some.inj hb_
    clear hb_
    subst hr_
    exact er [] ⟨rfl,rfl⟩
   refine aD rfl g3 (ap (aa (aQ (ad ax (h:=ad (bk rfl rfl) (h:=bC ?_))))))
   rcases bH H with⟨g4,H⟩|⟨g4,H⟩
   ·refine aB rfl g4 ?_
    refine fk [0,1] [0,3,4,5,6,12,17] (0::1::2::3::4::5::6::7::8::9::10::11::13::14::15::16::18::19::20::21::[]) fun _ _ _ _ _ sH dd pk=>?_
    refine bT 0 rfl sH (ck 5) (h:=bT 1 rfl sH (ck 6) (h:=dx 2 rfl dd (bg K 0 2 (al b.2.1 s u y z D E F I) (h:=dx 3 rfl dd (bg d 0 7 (al q.1 a2 a3 a4 a5 a6 a7 a8 a9) (h:=aW dd sH (aH (by kernel_rfl) (aF (aa (SA.of_St (l:=[(1,.slice A1 l1.length c1),(2,aK p),(5,aK K),(6,ae r4.2),(7,aK d),(9,ae a)]) (B:=(Ro tS A1 c1 l1::(aL p 22 [ae a0.f0,ae a0.f1]::(aL K 34 (al b.2.1 s u y z D E F I)::(aS b.2.1 s u y z D E F I++(cK d q.1 a2 a3 a4 a5 a6 a7 a8 a9)))))) (St.mk1 (cJ rfl (cJ rfl (cJ rfl (cJ rfl (cJ rfl (cJ rfl dQ)))))) (Gh.sel [0,8,9,19,20,21,22,14,23,24,25,26] (by kernel_rfl) (by kernel_rfl))) fun junk=>ah (S' ax ?_)))))))))))
    refine S' (bV rfl rfl) ?_
    obtain⟨h9,k3,H⟩:=br H
    refine bO (ae h9) (bz (v:=ae h9) (congrArg (Value.int .i64) k3.symm)) (h:=aj ?_)
    exact aa ⟨h3,Nat.lt_succ_self _,_,_,_,K,s,u,y,z,D,E,F,I,d,a2,a3,a4,a5,a6,a7,a8,a9,H,St.mk1 (cJ rfl (cJ rfl (cJ rfl (cJ rfl (cJ rfl (cJ rfl dQ)))))) ((Gh.freeze (k:=3) rfl).trans ((Gh.freeze (k:=4) rfl).trans ((Gh.freeze (k:=5) rfl).trans ((Gh.freeze (k:=6) rfl).trans (eY [0,1,2,3,4,5,6,7,8,9,10,11])))))⟩
   refine aA rfl g4 (ap (aF (aa (SA.of_St (l:=[(1,.slice A1 l1.length c1),(2,aK p),(5,aK K),(6,ae r4.2),(7,aK d),(9,ae a)]) (B:=(Ro tS A1 c1 l1::(aL p 22 [ae a0.f0,ae a0.f1]::(aL K 34 (al b.1 b0 b1 b3 b4 b5 b6 b7 b8)::(eK b.1 b0 b1 b3 b4 b5 b6 b7 b8++(cK d c M N O R S U Y Z)))))) (St.mk1 (cJ rfl (cJ rfl (cJ rfl (cJ rfl (cJ rfl (cJ rfl dQ)))))) (Gh.sel [0,1,2,3,4,5,6,7,8,9,10,11] (by kernel_rfl) (by kernel_rfl))) fun junk=>ah (ad ax (h:=S' (bV rfl rfl) ?_))))))
   obtain⟨i0,k4,H⟩:=br H
   refine bO (ae i0) (bz (v:=ae i0) (congrArg (Value.int .i64) k4.symm)) (h:=aj ?_)
   exact aa ⟨h3,Nat.lt_succ_self _,_,_,_,K,b0,b1,b3,b4,b5,b6,b7,b8,d,M,N,O,R,S,U,Y,Z,H,ed [0,1,2,3,4,5,6,7,8,9,10,11]⟩
  refine aD rfl j6 (ct (bc (bc (cr ?_))))
  have h:=aN H;subst h
  exact aa ⟨(),rfl,ed []⟩
 rintro e ds As ⟨l9,ht,i3⟩
 clear H
 subst ht
 replace e6:=fW e6
 have H:=e6
 clear e6
 refine aa (SA.of_St i3 fun junk=>aQ ?_)
 obtain⟨p1,l6,H⟩:=ac H
 refine o' (da [] [] (tV.ok l6) ?_)
 refine ad aV (h:=cF ?_)
 have h:=aN H;subst h
 exact er [] ⟨rfl,rfl⟩

end Go.Proofs.YtckilbegmbaeeaaGreat.Z3

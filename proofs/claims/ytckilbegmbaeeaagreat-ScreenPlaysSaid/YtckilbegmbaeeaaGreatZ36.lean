/- What functions compute, and that they do: 122w0, 123w0b2, 124, 136w0, 152. -/
import Derived.Test.YtckilbegmbaeeaaGreatZ35
namespace Go.Proofs.YtckilbegmbaeeaaGreat.Z3
open Go Go.RowKit Go.Proofs.YtckilbegmbaeeaaGreat.SL
open Go.IntKind (i64)
set_option linter.unusedVariables false
set_option maxHeartbeats 20000000
set_option maxRecDepth 100000
set_option linter.unusedSimpArgs false
attribute [local irreducible] IntKind.wrap cC dO eX gp gl lH fU cN gm rd sub bytesOf eG cL
variable {k : Nat}
def dW.l0 (l0 : (List aZ)) (o0 : Int) (n0 : Int) : Nat → Int → (List aZ) → Option ((List aZ))
  | 0,_,_=>none
  | k + 1,b,a=>if a.length = l0.length then (if b < n0 then (if 0 ≤ b∧b < n0 then ((if ((rd a (o0 + b)).f2) = 2 then ((iu.f (i64.wrap (b + 1)) 0 ((rd a (o0 + b)).f3) a o0 n0).bind (fun h=>some (!h))) else (some false) : Option Bool).bind (fun j=>(if j = true then (some true) else (if ((rd a (o0 + b)).f2) = 0 then ((iu.f (i64.wrap (b - 1)) 2 ((rd a (o0 + b)).f3) a o0 n0).bind (fun l=>some (!l))) else (some false)) : Option Bool).bind (fun m=>if m = true then ((oo.f ((rd a (o0 + b)).f3)).bind (fun c=>if 0 ≤ b∧b < n0 then (lt (a.set (o0 + b).toNat c) fun d=>(dW.l0 l0 o0 n0 k (i64.wrap (b + 1)) d)) else none)) else (dW.l0 l0 o0 n0 k (i64.wrap (b + 1)) a)))) else none) else (some a)) else none
def dW.f (k : Nat) (l0 : (List aZ)) (o0 : Int) (n0 : Int) : Option ((List aZ)):=if 0 ≤ o0∧0 ≤ n0∧o0 + n0 ≤ (l0.length : Int) then ((dW.l0 l0 o0 n0 k 0 l0 : Option ((List aZ))).bind (fun a=>if a.length = l0.length then (some (a)) else none)) else none
theorem dW.ok {l0 : (List aZ)} {o0 : Int} {n0 : Int} {A0 V0 : Option Addr} {c0 v0 : Nat} (hw0 : dZ A0 V0 15 o0 n0 v0) {r : (List aZ)} (H : dW.f k l0 o0 n0 = some r) : df Tryz.prog 136 #[.slice V0 n0.toNat v0] [Buf bE 55 A0 c0 l0] (fun v B=>v = .tuple #[]∧B = [Buf bE 55 A0 c0 r]):=by
 refine ai Tryz.func136 rfl rfl ?_
 unfold dW.f at H
 obtain⟨⟨a7,a8,a9⟩,H⟩:=aR H
 have hcv_hw0:=hw0.cap
 refine aQ (o' (bN (h:=fun p=>cV (bO (.func (.func 157) #[] #[aK p]) (dy (us:=[aK p]) rfl) (h:=ad aV (h:=cV (bD (aT 1) (h:=bO (ae n0) (jV hw0 Tryz.underlying116 rfl) (h:=ad ax (h:=bC ?_))))))))))
 obtain⟨J,H,I⟩:=ac H
 refine bI (St [] [Buf bE 55 A0 c0 J]) ?_ ?_
 ·refine aU (cw (fun k_ e ds As=>∃ (b : Int) (a : (List aZ)),dW.l0 l0 o0 n0 k_ b a = some J∧St [(1,aK p),(2,.func (.func 157) #[] #[aK p]),(6,.slice V0 n0.toNat v0),(7,ae n0),(8,ae b)] [Buf bE 55 A0 c0 a,aL p 116 [.slice V0 n0.toNat v0]] e ds As) (k:=k) ⟨_,_,H,kW [0,1]⟩ ?_)
  clear H
  rintro E e ds As ⟨b,a,H,K⟩
  obtain _ | E:=E
  ·cases H
  rw [dW.l0] at H
  obtain⟨a5,H⟩:=aR H
  refine SA.of_St K fun junk=>aQ (ad (cn rfl rfl) (h:=bC (ao ?_)))
  rcases bH H with⟨L,H⟩|⟨L,H⟩
  ·refine aB rfl L (ap (aa (ao (aU (aQ (S' ax ?_))))))
   obtain⟨⟨g8,g9⟩,H⟩:=aR H
   have Z : 0 ≤ o0 + b:=by omega
   have a0 : o0 + b < (a.length : Int):=by omega
   refine bD (eI (l:=o0) (m:=n0) (i:=b) (sz:=15) hw0 Tryz.underlying116 cl rfl rfl (Src.buf (k:=0) rfl) g8 g9 (by omega)) (h:=bD (cj (enc:=di) (i:=o0 + b) (j:=(o0 + b).toNat * 15) (m:=0) (sz:=15) (vs:=(bR (aZ.mk ((rd a (o0 + b)).f0) ((rd a (o0 + b)).f1) ((rd a (o0 + b)).f2) ((rd a (o0 + b)).f3)))) Tryz.underlying55 rfl cl rfl rfl rfl (Src.buf (k:=0) rfl) Z a0 (fun _ _ h=>h) rfl) (h:=o' (cy (h:=fun q=>ad aV (h:=o' (bg q 0 2 (bR (aZ.mk ((rd a (o0 + b)).f0) ((rd a (o0 + b)).f1) ((rd a (o0 + b)).f2) ((rd a (o0 + b)).f3))) (h:=cV (ad aE (h:=bD (aT 2) (h:=ad (bk rfl rfl) (h:=S' ax ?_)))))))))))
   obtain⟨a1,H,M⟩:=ac H
   refine eg 8 [(1,aK p),(2,.func (.func 157) #[] #[aK p]),(3,ae b),(4,aK q),(6,.slice V0 n0.toNat v0),(7,ae n0),(8,ae b),(24,.bool a1)] [Buf bE 55 A0 c0 a,aL p 116 [.slice V0 n0.toNat v0],aL q 55 (bR (aZ.mk ((rd a (o0 + b)).f0) ((rd a (o0 + b)).f1) ((rd a (o0 + b)).f2) ((rd a (o0 + b)).f3)))] ?_ fun junk=>?_
   ·rcases bH H with⟨d,H⟩|⟨d,H⟩
    ·refine bn (ak d) ax (h:=bn (ak d) ax (h:=bn (ak d) (bV rfl rfl) (h:=bn (ak d) aE (h:=z' (ak d) (cG q 5 2 (bG ((rd a (o0 + b)).f3))) ?_))))
     obtain⟨b0,a2,H⟩:=ac H
     refine gE (ak d) (rn [1,0] [2] (je (vs:=[ae (i64.wrap (b + 1)),.int .u8 0,.agg (bG ((rd a (o0 + b)).f3)).toArray]) (cap:=[aK p]) rfl Tryz.func157 wb rfl rfl) (iu.ok (vp:=p) (o3:=o0) (n3:=n0) (A3:=A0) (c3:=c0) (V3:=V0) (v3:=v0) (hw3:=hw0) a2) ?_)
     rintro _ _⟨rfl,rfl⟩
     refine bn (ak d) (ca rfl) (h:=ii (ak d) ?_)
     have h:=aN H;subst h
     exact dV [1,0,2]
    refine cI 7 (am d) (gL (am d) ?_)
    have h:=aN H;subst h
    exact dV [0,1,2]
   replace H:=M
   refine S' ax ?_
   obtain⟨a3,H,u⟩:=ac H
   refine cD 13 (St [(1,aK p),(2,.func (.func 157) #[] #[aK p]),(3,ae b),(4,aK q),(6,.slice V0 n0.toNat v0),(7,ae n0),(8,ae b),(38,.bool a3)] [Buf bE 55 A0 c0 a,aL p 116 [.slice V0 n0.toNat v0],aL q 55 (bR (aZ.mk ((rd a (o0 + b)).f0) ((rd a (o0 + b)).f1) ((rd a (o0 + b)).f2) ((rd a (o0 + b)).f3)))]) ?_ ?_
   ·rcases bH H with⟨c,H⟩|⟨c,H⟩
    ·refine cI 4 c (gj (gj (gj (gj (gj (gj (gj (cI 1 c (ii c ?_)))))))))
     have h:=aN H;subst h
     exact dV [0,1,2]
    refine bn (aX c) aE (h:=dc (aX c) (aT 2) (h:=bn (aX c) (bk rfl rfl) (h:=Y' (aX c) ax ?_)))
    rcases bH H with⟨o,H⟩|⟨o,H⟩
    ·refine bn (ak o) ax (h:=bn (ak o) ax (h:=bn (ak o) (cY rfl rfl) (h:=bn (ak o) aE (h:=z' (ak o) (cG q 5 2 (bG ((rd a (o0 + b)).f3))) ?_))))
     obtain⟨b1,a4,H⟩:=ac H
     refine gE (ak o) (rn [1,0] [2] (je (vs:=[ae (i64.wrap (b - 1)),.int .u8 2,.agg (bG ((rd a (o0 + b)).f3)).toArray]) (cap:=[aK p]) rfl Tryz.func157 wb rfl rfl) (iu.ok (vp:=p) (o3:=o0) (n3:=n0) (A3:=A0) (c3:=c0) (V3:=V0) (v3:=v0) (hw3:=hw0) a4) ?_)
     rintro _ _⟨rfl,rfl⟩
     refine bn (ak o) (ca rfl) (h:=gE (aX c) (dl rfl (bX rfl (ak o) rfl) (gL (aX c) ?_)))
     have h:=aN H;subst h
     exact dV [1,0,2]
    refine cI 7 (am o) (gE (aX c) (dl rfl (bY rfl (am o) rfl) (gL (aX c) ?_)))
    have h:=aN H;subst h
    exact dV [0,1,2]
   rintro e ds As F
   clear H
   have H:=u
   clear u
   refine bC (SA.of_St F fun junk=>?_)
   rcases bH H with⟨y,H⟩|⟨y,H⟩
   ·refine aC rfl y ?_
    refine fk [0,1,2,3,5] [0,1,2] [] fun _ _ _ _ _ sH dd pk=>?_
    refine bT 0 rfl sH (aT 1) (h:=bf 1 rfl sH ax (h:=bf 2 rfl sH aE (h:=r' 3 rfl sH (cG q 5 2 (bG ((rd a (o0 + b)).f3))) ?_)))
    obtain⟨z,N,H⟩:=ac H
    refine dx 4 rfl dd (da [] [] (oo.ok N) ?_)
    obtain⟨⟨O,R⟩,H⟩:=aR H
    have S : 0 ≤ o0 + b:=by omega
    have U : o0 + b < (a.length : Int):=by omega
    refine bT 5 rfl sH (eI (l:=o0) (m:=n0) (i:=b) (sz:=15) hw0 Tryz.underlying116 cl rfl rfl (Src.buf (k:=0) rfl) O R (by omega)) (h:=aW dd sH ?_)
    obtain⟨Y,s,H⟩:=br H
    have hl_n386 : Y.length = a.length:=by rw [s]; exact List.length_set
    refine ey 6 rfl (iB (k:=0) (i:=o0 + b) (j:=(o0 + b).toNat * 15) (m:=0) (sz:=15) (xs:=a) (vs:=(bR z)) z rfl rfl rfl rfl rfl rfl rfl rfl cl S U rfl (fun _ _ h_=>by subst h_; rfl) ?_)
    rewrite [← s]
    try rewrite [← hl_n386]
    refine aH (by kernel_rfl) (aF (aa (ah (ad (bV rfl rfl) (h:=ad ax (h:=aj ?_))))))
    exact aa ⟨E,Nat.lt_succ_self _,_,_,H,ed [0,1]⟩
   refine aD rfl y (ap (aF (aa (ah (ad (bV rfl rfl) (h:=ad ax (h:=aj ?_)))))))
   exact aa ⟨E,Nat.lt_succ_self _,_,_,H,ed [0,1]⟩
  refine aA rfl L (ct (bc (bc (cr ?_))))
  have h:=aN H;subst h
  exact bM [0]
 rintro e ds As D
 clear H
 have H:=I
 clear I
 obtain⟨a6,H⟩:=aR H
 have h:=aN H;subst h
 exact oc D [Buf bE 55 A0 c0 J] rfl (eY [0]) ⟨rfl,rfl⟩


def iY.f (k : Nat) (l0 : (List aZ)) (o0 : Int) (n0 : Int) (a1 : Int) (a2 : Int) (a3 : cA) : Option ((List aZ)):=if 0 ≤ o0∧0 ≤ n0∧o0 + n0 ≤ (l0.length : Int) then (if 0 ≤ a1∧a1 ≤ n0∧n0 ≤ n0 then (lt (dO (i64.wrap (0 - (n0 - a1))) (cC a2 (n0 - a1))) fun n11=>if n11 ≥ 0 then (if 0 ≤ n11∧n11 ≤ (n0 - a1)∧(n0 - a1) ≤ (n0 - a1) then (lt (bo l0 ((o0 + a1) + n11).toNat ((sub l0 (o0 + a1) ((o0 + a1) + (n0 - a1))).take ((n0 - a1) - n11).toNat)) fun n19=>(if 0 ≤ (0 : Int)∧(0 : Int) ≤ n11∧n11 ≤ (n0 - a1) then ((eT.f k n19 ((o0 + a1) + (0 : Int)) (n11 - (0 : Int)) a3).bind (fun a=>if a.length = n19.length then ((dW.f k a o0 n0).bind (fun c=>if c.length = a.length then (some (c)) else none)) else none)) else none)) else none) else (if 0 ≤ (i64.wrap (0 - n11))∧(i64.wrap (0 - n11)) ≤ (n0 - a1)∧(n0 - a1) ≤ (n0 - a1) then (lt (bo l0 (o0 + a1).toNat ((sub l0 ((o0 + a1) + (i64.wrap (0 - n11))) (((o0 + a1) + (i64.wrap (0 - n11))) + ((n0 - a1) - (i64.wrap (0 - n11))))).take (n0 - a1).toNat)) fun d=>(if 0 ≤ (i64.wrap ((n0 - a1) + n11))∧(i64.wrap ((n0 - a1) + n11)) ≤ (n0 - a1)∧(n0 - a1) ≤ (n0 - a1) then ((eT.f k d ((o0 + a1) + (i64.wrap ((n0 - a1) + n11))) ((n0 - a1) - (i64.wrap ((n0 - a1) + n11))) a3).bind (fun b=>if b.length = d.length then ((dW.f k b o0 n0).bind (fun h=>if h.length = b.length then (some (h)) else none)) else none)) else none)) else none)) else none) else none
theorem iY.ok {l0 : (List aZ)} {o0 : Int} {n0 : Int} {a1 : Int} {a2 : Int} {a3 : cA} {A0 V0 : Option Addr} {c0 v0 : Nat} (hw0 : dZ A0 V0 15 o0 n0 v0) {r : (List aZ)} (H : iY.f k l0 o0 n0 a1 a2 a3 = some r) : df Tryz.prog 122 #[.slice V0 n0.toNat v0,ae a1,ae a2,.agg (bG a3).toArray] [Buf bE 55 A0 c0 l0] (fun v B=>v = .tuple #[]∧B = [Buf bE 55 A0 c0 r]):=by
 refine ai Tryz.func122 rfl rfl ?_
 unfold iY.f at H
 obtain⟨⟨b1,b3,b4⟩,H⟩:=aR H
 have hcv_hw0:=hw0.cap
 refine aQ (o' (bN (h:=fun b2=>bC (ao (bj 0 fun b7=>ah (ad ax (h:=S' ax ?_)))))))
 obtain⟨⟨g5,g6,g7⟩,H⟩:=aR H
 refine s' (.slice (cL V0 a1 ((v0 : Nat) : Int) 15) (n0 - a1).toNat (((v0 : Nat) : Int).toNat - a1.toNat)) (dh (l:=o0) (m:=n0) (a:=a1) (b:=n0) (q:=((v0 : Nat) : Int)) hw0 Tryz.underlying116 cl rfl rfl rfl rfl (.inr ⟨_,rfl⟩) (.inl ⟨rfl,rfl,rfl⟩) (.inl ⟨rfl,rfl⟩) g5 g6 g7) ?_
 have c : dZ A0 (cL V0 a1 ((v0 : Nat) : Int) 15) 15 (o0 + a1) (n0 - a1) (((v0 : Nat) : Int).toNat - a1.toNat):=dZ.sub hw0 g5 g6 g7 (.inl rfl) (Int.le_refl _)
 refine bO (.slice (cL V0 a1 ((v0 : Nat) : Int) 15) (n0 - a1).toNat (((v0 : Nat) : Int).toNat - a1.toNat)) sf (h:=cV (bO (.slice (cL V0 a1 ((v0 : Nat) : Int) 15) (n0 - a1).toNat (((v0 : Nat) : Int).toNat - a1.toNat)) fM (h:=bO (ae (n0 - a1)) (jV c Tryz.underlying116 rfl) (h:=bO (ae (i64.wrap (0 - (n0 - a1)))) (ms rfl) (h:=ad ax (h:=bO (.slice (cL V0 a1 ((v0 : Nat) : Int) 15) (n0 - a1).toNat (((v0 : Nat) : Int).toNat - a1.toNat)) fM (h:=bO (ae (n0 - a1)) (jV c Tryz.underlying116 rfl) (h:=bO (ae (cC a2 (n0 - a1))) (jR rfl rfl) (h:=s' (ae (dO (i64.wrap (0 - (n0 - a1))) (cC a2 (n0 - a1)))) (nG rfl rfl) ?_)))))))))
 obtain⟨n11,a0,H⟩:=br H
 refine bO (ae n11) (bz (v:=ae n11) (congrArg (Value.int .i64) a0.symm)) (h:=eJ (ad ax (h:=ad (dI rfl rfl) (h:=bC ?_))))
 rcases bH H with⟨p,H⟩|⟨p,H⟩
 ·refine aB rfl p (aQ (bO (.slice (cL V0 a1 ((v0 : Nat) : Int) 15) (n0 - a1).toNat (((v0 : Nat) : Int).toNat - a1.toNat)) fM (h:=S' ax ?_)))
  obtain⟨⟨U,Y,Z⟩,H⟩:=aR H
  refine s' (.slice (cL (cL V0 a1 ((v0 : Nat) : Int) 15) n11 ((((v0 : Nat) : Int).toNat - a1.toNat : Nat) : Int) 15) ((n0 - a1) - n11).toNat (((((v0 : Nat) : Int).toNat - a1.toNat : Nat) : Int).toNat - n11.toNat)) (dh (l:=o0 + a1) (m:=n0 - a1) (a:=n11) (b:=n0 - a1) (q:=((((v0 : Nat) : Int).toNat - a1.toNat : Nat) : Int)) c Tryz.underlying116 cl rfl rfl rfl rfl (.inr ⟨_,rfl⟩) (.inl ⟨rfl,rfl,rfl⟩) (.inl ⟨rfl,rfl⟩) U Y Z) ?_
  have a4 : dZ A0 (cL (cL V0 a1 ((v0 : Nat) : Int) 15) n11 ((((v0 : Nat) : Int).toNat - a1.toNat : Nat) : Int) 15) 15 ((o0 + a1) + n11) ((n0 - a1) - n11) (((((v0 : Nat) : Int).toNat - a1.toNat : Nat) : Int).toNat - n11.toNat):=dZ.sub c U Y Z (.inl rfl) (Int.le_refl _)
  refine s' (.slice (cL V0 a1 ((v0 : Nat) : Int) 15) (n0 - a1).toNat (((v0 : Nat) : Int).toNat - a1.toNat)) fM ?_
  obtain⟨n19,s,H⟩:=br H
  have hl_n19 : n19.length = l0.length:=by rw [s]; exact eM (by rw [List.length_take]; omega)
  refine o' (fY (k:=0) (l:=(o0 + a1) + n11) (m:=(n0 - a1) - n11) (xs:=l0) (ys:=sub l0 (o0 + a1) ((o0 + a1) + (n0 - a1))) n19 s a4 rfl Tryz.underlying116 cl rfl rfl rfl (by omega) rfl (pO.win (Src.buf (k:=0) rfl) c rfl (by omega)) ?_)
  try unfold bG
  try rewrite [← hl_n19]
  refine bC ?_
  refine fk (dG 0 4) [1] [0] fun _ _ _ _ _ sH dd pk=>?_
  refine kY (.slice (cL V0 a1 ((v0 : Nat) : Int) 15) (n0 - a1).toNat (((v0 : Nat) : Int).toNat - a1.toNat)) 0 rfl sH fM (h:=T' 1 rfl sH ax ?_)
  obtain⟨⟨u,y,z⟩,H⟩:=aR H
  refine t' (.slice (cL (cL V0 a1 ((v0 : Nat) : Int) 15) (0 : Int) ((((v0 : Nat) : Int).toNat - a1.toNat : Nat) : Int) 15) (n11 - (0 : Int)).toNat (((((v0 : Nat) : Int).toNat - a1.toNat : Nat) : Int).toNat - (0 : Int).toNat)) 2 rfl sH (dh (l:=o0 + a1) (m:=n0 - a1) (a:=(0 : Int)) (b:=n11) (q:=((((v0 : Nat) : Int).toNat - a1.toNat : Nat) : Int)) c Tryz.underlying116 cl rfl rfl rfl rfl (.inl ⟨rfl,rfl⟩) (.inr ⟨_,rfl⟩) (.inl ⟨rfl,rfl⟩) u y z) ?_
  have M : dZ A0 (cL (cL V0 a1 ((v0 : Nat) : Int) 15) (0 : Int) ((((v0 : Nat) : Int).toNat - a1.toNat : Nat) : Int) 15) 15 ((o0 + a1) + (0 : Int)) (n11 - (0 : Int)) (((((v0 : Nat) : Int).toNat - a1.toNat : Nat) : Int).toNat - (0 : Int).toNat):=dZ.sub c u y z (.inl rfl) (Int.le_refl _)
  refine r' 3 rfl sH (ck 0) ?_
  obtain⟨a5,a6,H⟩:=ac H
  obtain⟨d,H⟩:=aR H
  refine dx 4 rfl dd (da [0] [] (eT.ok (o0:=(o0 + a1) + (0 : Int)) (n0:=n11 - (0 : Int)) (A0:=A0) (c0:=c0) (V0:=cL (cL V0 a1 ((v0 : Nat) : Int) 15) (0 : Int) ((((v0 : Nat) : Int).toNat - a1.toNat : Nat) : Int) 15) (v0:=((((v0 : Nat) : Int).toNat - a1.toNat : Nat) : Int).toNat - (0 : Int).toNat) (hw0:=M) a6) ?_)
  try unfold bG
  try rewrite [← d]
  try unfold bG at sH
  try rewrite [← d] at sH
  refine aW dd sH (aH (by kernel_rfl) (aa (SA.of_St (l:=[(0,.slice V0 n0.toNat v0)]) (B:=[Buf bE 55 A0 c0 a5]) (St.mk1 (cJ rfl dQ) (Gh.sel [1] (by kernel_rfl) (by kernel_rfl))) fun junk=>ah (S' ax ?_))))
  obtain⟨b5,a7,H⟩:=ac H
  obtain⟨N,H⟩:=aR H
  refine o' (da [0] [] (dW.ok (o0:=o0) (n0:=n0) (A0:=A0) (c0:=c0) (V0:=V0) (v0:=v0) (hw0:=hw0) a7) ?_)
  try unfold bG
  try rewrite [← N]
  refine aj ?_
  have h:=aN H;subst h
  exact fD [0] ⟨rfl,rfl⟩
 refine aA rfl p (aQ (bO (.slice (cL V0 a1 ((v0 : Nat) : Int) 15) (n0 - a1).toNat (((v0 : Nat) : Int).toNat - a1.toNat)) fM (h:=bO (.slice (cL V0 a1 ((v0 : Nat) : Int) 15) (n0 - a1).toNat (((v0 : Nat) : Int).toNat - a1.toNat)) fM (h:=ad ax (h:=s' (ae (i64.wrap (0 - n11))) (ms rfl) ?_)))))
 obtain⟨⟨D,E,F⟩,H⟩:=aR H
 refine s' (.slice (cL (cL V0 a1 ((v0 : Nat) : Int) 15) (i64.wrap (0 - n11)) ((((v0 : Nat) : Int).toNat - a1.toNat : Nat) : Int) 15) ((n0 - a1) - (i64.wrap (0 - n11))).toNat (((((v0 : Nat) : Int).toNat - a1.toNat : Nat) : Int).toNat - (i64.wrap (0 - n11)).toNat)) (dh (l:=o0 + a1) (m:=n0 - a1) (a:=i64.wrap (0 - n11)) (b:=n0 - a1) (q:=((((v0 : Nat) : Int).toNat - a1.toNat : Nat) : Int)) c Tryz.underlying116 cl rfl rfl rfl rfl (.inr ⟨_,rfl⟩) (.inl ⟨rfl,rfl,rfl⟩) (.inl ⟨rfl,rfl⟩) D E F) ?_
 have O : dZ A0 (cL (cL V0 a1 ((v0 : Nat) : Int) 15) (i64.wrap (0 - n11)) ((((v0 : Nat) : Int).toNat - a1.toNat : Nat) : Int) 15) 15 ((o0 + a1) + (i64.wrap (0 - n11))) ((n0 - a1) - (i64.wrap (0 - n11))) (((((v0 : Nat) : Int).toNat - a1.toNat : Nat) : Int).toNat - (i64.wrap (0 - n11)).toNat):=dZ.sub c D E F (.inl rfl) (Int.le_refl _)
 obtain⟨I,j,H⟩:=br H
 have hl_n330 : I.length = l0.length:=by rw [j]; exact eM (by rw [List.length_take]; omega)
 refine o' (fY (k:=0) (l:=o0 + a1) (m:=n0 - a1) (xs:=l0) (ys:=sub l0 ((o0 + a1) + (i64.wrap (0 - n11))) (((o0 + a1) + (i64.wrap (0 - n11))) + ((n0 - a1) - (i64.wrap (0 - n11))))) I j c rfl Tryz.underlying116 cl rfl rfl rfl (by omega) rfl (pO.win (Src.buf (k:=0) rfl) O rfl (by omega)) ?_)
 try unfold bG
 try rewrite [← hl_n330]
 refine bC ?_
 refine fk (dG 0 7) [1] [0] fun _ _ _ _ _ sH dd pk=>?_
 refine kY (.slice (cL V0 a1 ((v0 : Nat) : Int) 15) (n0 - a1).toNat (((v0 : Nat) : Int).toNat - a1.toNat)) 0 rfl sH fM (h:=kY (.slice (cL V0 a1 ((v0 : Nat) : Int) 15) (n0 - a1).toNat (((v0 : Nat) : Int).toNat - a1.toNat)) 1 rfl sH fM (h:=kY (ae (n0 - a1)) 2 rfl sH (jV c Tryz.underlying116 rfl) (h:=bf 3 rfl sH ax (h:=T' 4 rfl sH (bV rfl rfl) ?_))))
 obtain⟨⟨J,K,L⟩,H⟩:=aR H
 refine t' (.slice (cL (cL V0 a1 ((v0 : Nat) : Int) 15) (i64.wrap ((n0 - a1) + n11)) ((((v0 : Nat) : Int).toNat - a1.toNat : Nat) : Int) 15) ((n0 - a1) - (i64.wrap ((n0 - a1) + n11))).toNat (((((v0 : Nat) : Int).toNat - a1.toNat : Nat) : Int).toNat - (i64.wrap ((n0 - a1) + n11)).toNat)) 5 rfl sH (dh (l:=o0 + a1) (m:=n0 - a1) (a:=i64.wrap ((n0 - a1) + n11)) (b:=n0 - a1) (q:=((((v0 : Nat) : Int).toNat - a1.toNat : Nat) : Int)) c Tryz.underlying116 cl rfl rfl rfl rfl (.inr ⟨_,rfl⟩) (.inl ⟨rfl,rfl,rfl⟩) (.inl ⟨rfl,rfl⟩) J K L) ?_
 have R : dZ A0 (cL (cL V0 a1 ((v0 : Nat) : Int) 15) (i64.wrap ((n0 - a1) + n11)) ((((v0 : Nat) : Int).toNat - a1.toNat : Nat) : Int) 15) 15 ((o0 + a1) + (i64.wrap ((n0 - a1) + n11))) ((n0 - a1) - (i64.wrap ((n0 - a1) + n11))) (((((v0 : Nat) : Int).toNat - a1.toNat : Nat) : Int).toNat - (i64.wrap ((n0 - a1) + n11)).toNat):=dZ.sub c J K L (.inl rfl) (Int.le_refl _)
 refine r' 6 rfl sH (ck 0) ?_
 obtain⟨a8,a9,H⟩:=ac H
 obtain⟨o,H⟩:=aR H
 refine dx 7 rfl dd (da [0] [] (eT.ok (o0:=(o0 + a1) + (i64.wrap ((n0 - a1) + n11))) (n0:=(n0 - a1) - (i64.wrap ((n0 - a1) + n11))) (A0:=A0) (c0:=c0) (V0:=cL (cL V0 a1 ((v0 : Nat) : Int) 15) (i64.wrap ((n0 - a1) + n11)) ((((v0 : Nat) : Int).toNat - a1.toNat : Nat) : Int) 15) (v0:=((((v0 : Nat) : Int).toNat - a1.toNat : Nat) : Int).toNat - (i64.wrap ((n0 - a1) + n11)).toNat) (hw0:=R) a9) ?_)
 try unfold bG
 try rewrite [← o]
 try unfold bG at sH
 try rewrite [← o] at sH
 refine aW dd sH (aH (by kernel_rfl) (aa (SA.of_St (l:=[(0,.slice V0 n0.toNat v0)]) (B:=[Buf bE 55 A0 c0 a8]) (St.mk1 (cJ rfl dQ) (Gh.sel [1] (by kernel_rfl) (by kernel_rfl))) fun junk=>ah (S' ax ?_))))
 obtain⟨b6,b0,H⟩:=ac H
 obtain⟨S,H⟩:=aR H
 refine o' (da [0] [] (dW.ok (o0:=o0) (n0:=n0) (A0:=A0) (c0:=c0) (V0:=V0) (v0:=v0) (hw0:=hw0) b0) ?_)
 try unfold bG
 try rewrite [← S]
 refine aj ?_
 have h:=aN H;subst h
 exact fD [0] ⟨rfl,rfl⟩


def rF.f (a0 : cA) (a1 : Int) : Option ((List aZ)):=if a1 ≠ 2 then (some (([] : (List aZ)))) else (some (([(aZ.mk 0 (fR.mk 0 0 0) 0 a0)] : (List aZ))))
theorem rF.ok {a0 : cA} {a1 : Int} {r : (List aZ)} (H : rF.f a0 a1 = some r) : df Tryz.prog 152 #[.agg (bG a0).toArray,ae a1] [] (fun v B=>∃ aP aO,v = .slice aP r.length aO∧B = [Buf bE 55 aP aO r]):=by
 refine ai Tryz.func152 rfl rfl ?_
 unfold rF.f at H
 refine aQ (o' (bN (h:=fun c=>ad aV (h:=eJ (ad ax (h:=ad (dK rfl rfl) (h:=bC ?_)))))))
 rcases bH H with⟨a,H⟩|⟨a,H⟩
 ·refine aB rfl a (aQ (ad aV (h:=cE ?_)))
  have h:=aN H;subst h
  exact mq [Buf bE 55 none 0 ([] : (List aZ))] rfl rfl ((Gh.nilBuf bE 55).trans (eY [1])) ⟨none,0,rfl,rfl⟩
 refine aA rfl a (ap (aa (aQ (bD (ck 0) (h:=bO (.agg (bR (aZ.mk 0 (fR.mk 0 0 0) 0 a0)).toArray) dA (h:=o' (hU (kd:=bE) (zv:=(.agg (bR lP).toArray)) (sz:=15) (cells:=(bR (aZ.mk 0 (fR.mk 0 0 0) 0 a0))) (xs:=([(aZ.mk 0 (fR.mk 0 0 0) 0 a0)] : (List aZ))) rfl Tryz.underlying24 jX cl rfl rfl rfl (by kernel_rfl) rfl rfl (dL di (fun _ _=>rfl) (by kernel_rfl)) fun b=>ad aV (h:=cF ?_))))))))
 have h:=aN H;subst h
 exact er [1] ⟨some ⟨b,0,none⟩,1,rfl,rfl⟩


def qq.f (k : Nat) (a0 : Int) (a1 : cA) : Option ((List aZ)):=(lZ.f k a0).bind (fun a=>(if a = 1 then (some (decide (a = 1))) else (some (decide (a = 2))) : Option (Bool)).bind (fun d=>if d = true then ((rF.f a1 a).bind (fun b=>if ([(aZ.mk a0 (fR.mk 0 0 0) (IntKind.u8.wrap (a)) a1)] : (List aZ)).length + b.length ≤ 2932031007402 then lt (([(aZ.mk a0 (fR.mk 0 0 0) (IntKind.u8.wrap (a)) a1)] : (List aZ)) ++ b) fun c=>(some (c)) else none)) else (some (([] : (List aZ))))))
theorem qq.ok {a0 : Int} {a1 : cA} {r : (List aZ)} (H : qq.f k a0 a1 = some r) : df Tryz.prog 124 #[aJ a0,.agg (bG a1).toArray] [] (fun v B=>∃ aP aO,v = .slice aP r.length aO∧B = [Buf bE 55 aP aO r]):=by
 refine ai Tryz.func124 rfl rfl ?_
 unfold qq.f at H
 refine aQ (o' (bN (h:=fun I=>ad aV (h:=cV (ad ax (h:=bD (ck 0) (h:=bO (.agg (bR (aZ.mk a0 (fR.mk 0 0 0) 0 a1)).toArray) dA (h:=o' (cy (h:=fun s=>o' (bg s 0 1 (bR (aZ.mk a0 (fR.mk 0 0 0) 0 a1)) (h:=eJ ?_))))))))))))
 refine S' ax ?_
 obtain⟨a,u,H⟩:=ac H
 refine o' (da [] [0,1] (lZ.ok u) ?_)
 refine ad aV (h:=cV (ad ax (h:=bC (aU (ao (aQ (ad (bk rfl rfl) (h:=ad aV (h:=bC ?_)))))))))
 obtain⟨J,H,q⟩:=ac H
 refine bI (St [(3,aK I),(5,aK s),(6,ae a),(13,.bool J)] [aL I 28 (bG a1),aL s 55 (bR (aZ.mk a0 (fR.mk 0 0 0) 0 a1))]) ?_ ?_
 ·rcases bH H with⟨y,H⟩|⟨y,H⟩
  ·refine aB rfl y (ap ?_)
   have h:=aN H;subst h
   exact bM [0,1]
  refine aA rfl y (ah (ad (bk rfl rfl) (h:=ad aV (h:=aj ?_))))
  have h:=aN H;subst h
  exact bM [0,1]
 rintro e ds As z
 clear H
 have H:=q
 clear q
 refine aa (SA.of_St z fun junk=>?_)
 rcases bH H with⟨D,H⟩|⟨D,H⟩
 ·refine aC rfl D (aQ (ad ax (h:=bO (.int .u8 (IntKind.u8.wrap (a))) (jS (T:=3) (by kernel_rfl) Tryz.underlying5 rfl) (h:=ad aE (h:=o' (cH 1 [.int .u8 (IntKind.u8.wrap (a))] (h:=(bC (ao ?_)))))))))
  refine fk [0,2,3,6] [0,1] [] fun _ _ _ _ _ sH dd pk=>?_
  refine bT 0 rfl sH (ck 1) (h:=bT 2 rfl sH (ck 0) (h:=T' 3 rfl sH ax ?_))
  obtain⟨l,m,H⟩:=ac H
  obtain⟨K,H⟩:=aR H
  obtain⟨o,j,H⟩:=br H
  refine gM (rs:=[1,4]) dd (by kernel_rfl) (by decide) (bx ⟨_,rfl,(.no rfl),?_⟩ (bx ⟨_,rfl,(.no rfl),?_⟩ cO))
  ·refine id (hU (kd:=bE) (zv:=(.agg (bR lP).toArray)) (sz:=15) (cells:=(bR (aZ.mk a0 (fR.mk 0 0 0) (IntKind.u8.wrap (a)) a1))) (xs:=([(aZ.mk a0 (fR.mk 0 0 0) (IntKind.u8.wrap (a)) a1)] : (List aZ))) rfl Tryz.underlying24 jX cl rfl rfl rfl (by kernel_rfl) rfl rfl (dL di (fun _ _=>rfl) (by kernel_rfl)) fun p=>dx 4 rfl dd (gu [] [0] (rF.ok m) fun E F=>?_))
   refine dx 5 rfl dd (gZ (k:=1) (A:=some ⟨p,0,none⟩) (c:=1) (xs:=([(aZ.mk a0 (fR.mk 0 0 0) (IntKind.u8.wrap (a)) a1)] : (List aZ))) (ys:=l) o j rfl Tryz.underlying24 nl rfl rfl rfl rfl rfl (oe.slice Tryz.underlying24 (Src.buf (k:=0) rfl)) (by omega) (by omega) fun b d=>bf 6 rfl sH aV (h:=aW dd sH (aH (by kernel_rfl) (aa (fa (bi (aI ?_)))))))
   have h:=aN H;subst h
   exact er [3] ⟨b,d,rfl,rfl⟩
  refine id (gu [] [] (rF.ok m) fun E F=>?_)
  refine dx 1 rfl dd (hU (kd:=bE) (zv:=(.agg (bR lP).toArray)) (sz:=15) (cells:=(bR (aZ.mk a0 (fR.mk 0 0 0) (IntKind.u8.wrap (a)) a1))) (xs:=([(aZ.mk a0 (fR.mk 0 0 0) (IntKind.u8.wrap (a)) a1)] : (List aZ))) rfl Tryz.underlying24 jX cl rfl rfl rfl (by kernel_rfl) rfl rfl (dL di (fun _ _=>rfl) (by kernel_rfl)) fun p=>dx 5 rfl dd (gZ (k:=1) (A:=some ⟨p,0,none⟩) (c:=1) (xs:=([(aZ.mk a0 (fR.mk 0 0 0) (IntKind.u8.wrap (a)) a1)] : (List aZ))) (ys:=l) o j rfl Tryz.underlying24 nl rfl rfl rfl rfl rfl (oe.slice Tryz.underlying24 (Src.buf (k:=0) rfl)) (by omega) (by omega) fun b d=>bf 6 rfl sH aV (h:=aW dd sH (aH (by kernel_rfl) (aa (fa (bi (aI ?_))))))))
  have h:=aN H;subst h
  exact er [3] ⟨b,d,rfl,rfl⟩
 refine aD rfl D (ap (aF (aa (aQ (ad aV (h:=cF ?_))))))
 have h:=aN H;subst h
 exact mq [Buf bE 55 none 0 ([] : (List aZ))] rfl rfl ((Gh.nilBuf bE 55).trans (eY [2])) ⟨none,0,rfl,rfl⟩


def ib.f (k : Nat) (l0 : (List aZ)) (o0 : Int) (n0 : Int) (a1 : Int) (l2 : (List aZ)) : Option ((List aZ)):=if 0 ≤ o0∧0 ≤ n0∧o0 + n0 ≤ (l0.length : Int) then (if 0 ≤ a1∧a1 ≤ n0∧n0 ≤ n0 then (lt (bo l0 (o0 + a1).toNat (l2.take (n0 - a1).toNat)) fun n11=>((dW.f k n11 o0 n0).bind (fun a=>if a.length = n11.length then (some (a)) else none))) else none) else none
theorem ib.ok {l0 : (List aZ)} {o0 : Int} {n0 : Int} {a1 : Int} {l2 : (List aZ)} {A0 V0 : Option Addr} {c0 v0 : Nat} {A2 : Option Addr} {c2 : Nat} (hw0 : dZ A0 V0 15 o0 n0 v0) {r : (List aZ)} (H : ib.f k l0 o0 n0 a1 l2 = some r) : df Tryz.prog 123 #[.slice V0 n0.toNat v0,ae a1,.slice A2 l2.length c2] [Buf bE 55 A0 c0 l0,Buf bE 55 A2 c2 l2] (fun v B=>v = .tuple #[]∧B = [Buf bE 55 A0 c0 r,Buf bE 55 A2 c2 l2]):=by
 refine ai Tryz.func123 rfl rfl ?_
 unfold ib.f at H
 obtain⟨⟨y,z,D⟩,H⟩:=aR H
 have hcv_hw0:=hw0.cap
 refine ao (bj 0 fun E=>bj 1 fun F=>ah (ad ax (h:=S' ax ?_)))
 obtain⟨⟨o,p,s⟩,H⟩:=aR H
 refine s' (.slice (cL V0 a1 ((v0 : Nat) : Int) 15) (n0 - a1).toNat (((v0 : Nat) : Int).toNat - a1.toNat)) (dh (l:=o0) (m:=n0) (a:=a1) (b:=n0) (q:=((v0 : Nat) : Int)) hw0 Tryz.underlying116 cl rfl rfl rfl rfl (.inr ⟨_,rfl⟩) (.inl ⟨rfl,rfl,rfl⟩) (.inl ⟨rfl,rfl⟩) o p s) ?_
 have d : dZ A0 (cL V0 a1 ((v0 : Nat) : Int) 15) 15 (o0 + a1) (n0 - a1) (((v0 : Nat) : Int).toNat - a1.toNat):=dZ.sub hw0 o p s (.inl rfl) (Int.le_refl _)
 refine S' ax ?_
 obtain⟨n11,c,H⟩:=br H
 have hl_n11 : n11.length = l0.length:=by rw [c]; exact eM (by rw [List.length_take]; omega)
 refine o' (fY (k:=0) (l:=o0 + a1) (m:=n0 - a1) (xs:=l0) (ys:=l2) n11 c d rfl Tryz.underlying116 cl rfl rfl rfl (by omega) rfl (pO.slice (Src.buf (k:=1) rfl)) ?_)
 try rewrite [← hl_n11]
 refine bC (ah (S' ax ?_))
 obtain⟨I,u,H⟩:=ac H
 obtain⟨j,H⟩:=aR H
 refine o' (da [0] [1] (dW.ok (o0:=o0) (n0:=n0) (A0:=A0) (c0:=c0) (V0:=V0) (v0:=v0) (hw0:=hw0) u) ?_)
 try rewrite [← j]
 refine aj ?_
 have h:=aN H;subst h
 exact fD [0,1] ⟨rfl,rfl⟩

end Go.Proofs.YtckilbegmbaeeaaGreat.Z3

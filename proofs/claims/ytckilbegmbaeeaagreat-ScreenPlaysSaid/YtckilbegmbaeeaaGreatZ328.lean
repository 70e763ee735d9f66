/- What functions compute, and that they do: 108b0, 50b0. -/
import Derived.Test.YtckilbegmbaeeaaGreatZ327
namespace Go.Proofs.YtckilbegmbaeeaaGreat.Z3
open Go Go.RowKit Go.Proofs.YtckilbegmbaeeaaGreat.SL
open Go.IntKind (i64)
set_option linter.unusedVariables false
set_option maxHeartbeats 20000000
set_option maxRecDepth 100000
set_option linter.unusedSimpArgs false
attribute [local irreducible] IntKind.wrap cC dO eX gp gl lH fU cN gm rd sub bytesOf eG cL
variable {af ay ar au k : Nat}
variable {ag az aw av : Option Addr}
def fA.l0 (a0 : aG) (r13 : bF × Int) : Nat → Int → (List aZ) → Option ((List aZ))
  | 0,_,_=>none
  | k + 1,b,a=>if a.length = r13.1.f2.length then (if b < (a.length : Int) then ((pN.f a0.f4).bind (fun c=>if 0 ≤ b∧b < (a.length : Int) then (lt (a.set b.toNat c) fun d=>(lt (i64.wrap (b + 1)) fun h=>fA.l0 a0 r13 k h d)) else none)) else (some a)) else none
def fA.f (k : Nat) (a0 : aG) (a1 : Bool) : Option (Nat × aG):=lt (a1 && (!a0.f15)) fun d=>if d = true then ((pw.f k a0.f0.f0 a0.f0.f1 a0.f4).bind (fun a=>(fA.l0 a0 a k 0 a.1.f2 : Option ((List aZ))).bind (fun b=>if b.length = a.1.f2.length then (some ((0,({ a0 with f0:=(bF.mk a.1.f0 a.1.f1 b),f15:=true,f16:=a0.f0 })))) else none))) else (lt ((!a1) && a0.f15) fun c=>if c = true then (some ((1,({ a0 with f0:=a0.f16,f15:=false,f16:=(bF.mk 0 0 ([] : (List aZ))) })))) else (some ((2,a0))))
theorem fA.ok {a0 : aG} {a1 : Bool} {r : Nat × aG} (H : fA.f k a0 a1 = some r) : df Tryz.prog 108 #[.agg (al a0 ag af az ay aw ar av au).toArray,.bool a1] (aS a0 ag af az ay aw ar av au) (fun v B=>(r.1 = 0∧∃ aP aO,v = .agg (al (aG.mk r.2.f0 r.2.f1 r.2.f2 r.2.f3 r.2.f4 r.2.f5 r.2.f6 a0.f7 r.2.f8 r.2.f9 r.2.f10 r.2.f11 r.2.f12 r.2.f13 r.2.f14 r.2.f15 (bF.mk r.2.f16.f0 r.2.f16.f1 a0.f0.f2) a0.f17) aP aO az ay ag af av au).toArray∧B = (Buf bE 55 aP aO r.2.f0.f2::aS a0 ag af az ay aw ar av au)) ∨ (r.1 = 1∧∃ bq bp,v = .agg (al (aG.mk (bF.mk r.2.f0.f0 r.2.f0.f1 a0.f16.f2) r.2.f1 r.2.f2 r.2.f3 r.2.f4 r.2.f5 r.2.f6 a0.f7 r.2.f8 r.2.f9 r.2.f10 r.2.f11 r.2.f12 r.2.f13 r.2.f14 r.2.f15 r.2.f16 a0.f17) aw ar az ay bq bp av au).toArray∧B = (Buf bE 55 bq bp r.2.f16.f2::aS a0 ag af az ay aw ar av au)) ∨ (r.1 = 2∧v = .agg (al (aG.mk (bF.mk r.2.f0.f0 r.2.f0.f1 a0.f0.f2) r.2.f1 r.2.f2 r.2.f3 r.2.f4 r.2.f5 r.2.f6 a0.f7 r.2.f8 r.2.f9 r.2.f10 r.2.f11 r.2.f12 r.2.f13 r.2.f14 r.2.f15 (bF.mk r.2.f16.f0 r.2.f16.f1 a0.f16.f2) a0.f17) ag af az ay aw ar av au).toArray∧B = (aS a0 ag af az ay aw ar av au))):=by
 refine ai Tryz.func108 rfl rfl ?_
 unfold fA.f at H
 refine aQ (o' (bN (h:=fun q=>o' (cy (h:=fun s=>eJ (ad ax (h:=S' ax ?_)))))))
 obtain⟨q9,Z,H⟩:=br H
 refine cD 4 (St [(1,.bool a1),(2,aK q),(4,aK s),(11,.bool q9)] (aS a0 ag af az ay aw ar av au++[aL q 34 (al a0 ag af az ay aw ar av au),aL s 34 (al cx none 0 none 0 none 0 none 0)])) ?_ ?_
 ·by_cases p : a1 = true
  ·refine bn p aE (h:=dc p (aT 4) (h:=bn p (ca rfl) (h:=cq p (h:=aj ?_))))
   have x_:=gD Z p;exact bM [0,1,2,3,4,5]
  refine cI 3 (aX p) (cv (aX p) (h:=aj ?_))
  have x_:=gC Z ((aX p));exact bM [0,1,2,3,4,5]
 rintro e ds As S
 refine bC (SA.of_St S fun junk=>?_)
 rcases bH H with⟨E,H⟩|⟨E,H⟩
 ·refine aC rfl E (aQ (ad aE (h:=bD (cG q 0 4 [ae a0.f0.f0,ae a0.f0.f1,.slice ag a0.f0.f2.length af]) (h:=ad aE (h:=o' (cH 4 [ae a0.f0.f0,ae a0.f0.f1,.slice ag a0.f0.f2.length af] (h:=(ad aE (h:=o' (cH 4 [.bool true] (h:=(cV (S' aE ?_)))))))))))))
  refine ad aE (h:=bD (aT 4) (h:=ad aE (h:=ad aE (h:=bD (aT 4) (h:=ad aE (h:=l' (cG q 6 4 (bG a0.f4)) ?_))))))
  obtain⟨b,a2,H⟩:=ac H
  refine o' (gu [] [0,1,2,3,4,5] (pw.ok a2) fun l o=>?_)
  refine ad ax (h:=ad cg (h:=ad cg (h:=ad aE (h:=o' (cH 5 [ae b.1.f0,ae b.1.f1,.slice l b.1.f2.length o] (h:=(cV (ad aV (h:=bC ?_)))))))))
  obtain⟨u,H,F⟩:=ac H
  refine bI (St [(2,aK q),(4,aK s)] (aS a0 ag af az ay aw ar av au++[aL q 34 (al ({ a0 with f0:=(bF.mk b.1.f0 b.1.f1 u),f15:=true,f16:=a0.f0 }) l o az ay ag af av au),Buf bE 55 l o u,aL s 34 (al cx none 0 none 0 none 0 none 0)])) ?_ ?_
  ·refine aU (cw (fun k_ e ds As=>∃ (c : Int) (a : (List aZ)),fA.l0 a0 b k_ c a = some u∧St [(2,aK q),(4,aK s),(5,ae c)] (aS a0 ag af az ay aw ar av au++[aL q 34 (al ({ a0 with f0:=(bF.mk b.1.f0 b.1.f1 a),f15:=true,f16:=a0.f0 }) l o az ay ag af av au),Buf bE 55 l o a,aL s 34 (al cx none 0 none 0 none 0 none 0)]) e ds As) (k:=k) ⟨_,_,H,kW [1,2,3,4,5,0,6]⟩ ?_)
   clear H
   rintro I e ds As ⟨c,a,H,U⟩
   obtain _ | I:=I
   ·cases H
   rw [fA.l0] at H
   obtain⟨a6,H⟩:=aR H
   refine SA.of_St U fun junk=>ao (aQ (ad ax (h:=ad aE (h:=ad aE (h:=bD (aT 4) (h:=bO (ae (a.length : Int)) (dB Tryz.underlying24 rfl) (h:=ad (cn rfl rfl) (h:=bC ?_))))))))
   rcases bH H with⟨J,H⟩|⟨J,H⟩
   ·refine aB rfl J (ap (aa (ao (aU ?_))))
    refine fk [0,1,2,3,4,5,7] [4,5] [0,1,2,3,6] fun _ _ _ _ _ sH dd pk=>?_
    refine bf 0 rfl sH aE (h:=bf 1 rfl sH aE (h:=bT 2 rfl sH (aT 0) (h:=bf 3 rfl sH ax (h:=bf 4 rfl sH aE (h:=r' 5 rfl sH (cG q 6 0 (bG a0.f4)) ?_)))))
    obtain⟨K,a3,H⟩:=ac H
    refine dx 6 rfl dd (da [] [0,1,2,3,4] (pN.ok a3) ?_)
    obtain⟨⟨L,M⟩,H⟩:=aR H
    refine bT 7 rfl sH (bK (i:=c) Tryz.underlying24 cl rfl rfl (Src.buf (k:=1) rfl) L M) (h:=aW dd sH ?_)
    obtain⟨a4,z,H⟩:=br H
    have hl_n501 : a4.length = a.length:=by rw [z]; exact List.length_set
    refine ey 8 rfl (iB (k:=1) (i:=c) (j:=c.toNat * 15) (m:=0) (sz:=15) (xs:=a) (vs:=(bR K)) K rfl rfl rfl rfl rfl rfl rfl rfl cl L M rfl (fun _ _ h_=>by subst h_; rfl) ?_)
    rewrite [← z]
    try unfold cK
    try unfold kD
    try unfold al
    try rewrite [← hl_n501]
    refine aH (by kernel_rfl) (aF (aa (ah (ad ax (h:=S' (bV rfl rfl) ?_)))))
    obtain⟨N,Y,H⟩:=br H
    refine bO (ae N) (bz (v:=ae N) (congrArg (Value.int .i64) Y.symm)) (h:=aj ?_)
    exact aa ⟨I,Nat.lt_succ_self _,_,_,H,ed [2,3,4,5,0,1,6]⟩
   refine aA rfl J (ct (bc (bc (cr ?_))))
   have h:=aN H;subst h
   exact bM [0,1,2,3,4,5,6]
  rintro e ds As O
  clear H
  have H:=F
  clear F
  obtain⟨a7,H⟩:=aR H
  refine aa (SA.of_St O fun junk=>aQ (bD (ck 4) (h:=o' (bg s 0 6 (al ({ a0 with f0:=(bF.mk b.1.f0 b.1.f1 u),f15:=true,f16:=a0.f0 }) l o az ay ag af av au) (h:=cF ?_)))))
  have h:=aN H;subst h
  exact gH (rs:=[.cell 4 34]) (vs:=[.agg (al ({ a0 with f0:=(bF.mk b.1.f0 b.1.f1 u),f15:=true,f16:=a0.f0 }) l o az ay ag af av au).toArray]) (Buf bE 55 l o u::aS a0 ag af az ay aw ar av au) rfl ⟨RV.cell (k:=6) rfl rfl Tryz.underlying34 rfl sD,trivial⟩ rfl (eY [5,0,1,2,3]) (.inl ⟨rfl,l,o,rfl,rfl⟩)
 refine aD rfl E (aQ (ad ax (h:=ad (ca rfl) (h:=S' ax ?_))))
 obtain⟨a5,D,H⟩:=br H
 refine cD 3 (St [(2,aK q),(4,aK s),(50,.bool a5)] (aS a0 ag af az ay aw ar av au++[aL q 34 (al a0 ag af az ay aw ar av au),aL s 34 (al cx none 0 none 0 none 0 none 0)])) ?_ ?_
 ·by_cases d : (!a1) = true
  ·refine bn d aE (h:=dc d (aT 4) (h:=cq d (h:=aj ?_)))
   have x_:=gD D d;exact bM [0,1,2,3,4,5]
  refine cI 2 (aX d) (cv (aX d) (h:=aj ?_))
  have x_:=gC D ((aX d));exact bM [0,1,2,3,4,5]
 rintro e ds As R
 refine bC (SA.of_St R fun junk=>?_)
 rcases bH H with⟨y,H⟩|⟨y,H⟩
 ·refine aC rfl y (ah (ad aE (h:=bD (cG q 40 4 [ae a0.f16.f0,ae a0.f16.f1,.slice aw a0.f16.f2.length ar]) (h:=bO (.agg #[ae 0,ae 0,.slice none 0 0]) dA (h:=ad aE (h:=o' (cH 4 [ae a0.f16.f0,ae a0.f16.f1,.slice aw a0.f16.f2.length ar] (h:=(ad aE (h:=o' (cH 4 [ae 0,ae 0,.slice none 0 0] (h:=(S' aE ?_)))))))))))))
  refine o' (cH 4 [.bool false] (h:=(cV (bD (ck 4) (h:=o' (bg s 0 5 (al ({ a0 with f0:=a0.f16,f15:=false,f16:=nE }) aw ar az ay none 0 av au) (h:=cF ?_)))))))
  have h:=aN H;subst h
  exact gH (rs:=[.cell 4 34]) (vs:=[.agg (al ({ a0 with f0:=a0.f16,f15:=false,f16:=nE }) aw ar az ay none 0 av au).toArray]) (Buf bE 55 none 0 ([] : (List aZ))::aS a0 ag af az ay aw ar av au) rfl ⟨RV.cell (k:=5) rfl rfl Tryz.underlying34 rfl sD,trivial⟩ rfl ((Gh.nilBuf bE 55).trans (eY [6,0,1,2,3])) (.inr (.inl ⟨rfl,none,0,rfl,rfl⟩))
 refine aD rfl y (ap (aa (aQ (bD (ck 4) (h:=o' (bg s 0 5 (al a0 ag af az ay aw ar av au) (h:=cF ?_)))))))
 have h:=aN H;subst h
 exact gH (rs:=[.cell 4 34]) (vs:=[.agg (al a0 ag af az ay aw ar av au).toArray]) (aS a0 ag af az ay aw ar av au) rfl ⟨RV.cell (k:=5) rfl rfl Tryz.underlying34 rfl sD,trivial⟩ rfl (eY [0,1,2,3]) (.inr (.inr (⟨rfl,rfl,rfl⟩)))


def nK.f (k : Nat) (a0 : aG) (a1 : Bool) (a2 : Int) (a3 : Bool) : Option (aG × Int):=(eN.f k a0).bind (fun a=>if (!a.2) = true then (some ((a.1,2))) else (if (!a1) = true then (if a2 = 4 then (some (((aG.mk a.1.f0 a.1.f1 a.1.f2 a.1.f3 a.1.f4 a.1.f5 a.1.f6 a.1.f7 a.1.f8 a.1.f9 a3 a.1.f11 a.1.f12 a.1.f13 a.1.f14 a.1.f15 a.1.f16 a.1.f17),0))) else (some ((a.1,0)))) else (if a2 = 1 then (some (((aG.mk a.1.f0 a.1.f1 a.1.f2 a.1.f3 a.1.f4 a.1.f5 a.1.f6 a.1.f7 a.1.f8 a.1.f9 a.1.f10 a3 a.1.f12 a.1.f13 a.1.f14 a.1.f15 a.1.f16 a.1.f17),0))) else (if a2 = 6 then ((kR.f k (aG.mk a.1.f0 a.1.f1 a.1.f2 a.1.f3 a.1.f4 a.1.f5 a.1.f6 a.1.f7 a.1.f8 a3 a.1.f10 a.1.f11 a.1.f12 a.1.f13 a.1.f14 a.1.f15 a.1.f16 a.1.f17) 0 0).bind (fun o=>some ((o.1,o.2)))) else (if a2 = 7 then (some (((aG.mk a.1.f0 a.1.f1 a.1.f2 a.1.f3 a.1.f4 a.1.f5 a.1.f6 a.1.f7 a3 a.1.f9 a.1.f10 a.1.f11 a.1.f12 a.1.f13 a.1.f14 a.1.f15 a.1.f16 a.1.f17),0))) else (if a2 = 25 then (some (((aG.mk a.1.f0 a.1.f1 a.1.f2 a.1.f3 a.1.f4 a.1.f5 a.1.f6 a.1.f7 a.1.f8 a.1.f9 a.1.f10 a.1.f11 a.1.f12 a3 a.1.f14 a.1.f15 a.1.f16 a.1.f17),0))) else (if a2 = 2004 then (some (((aG.mk a.1.f0 a.1.f1 a.1.f2 a.1.f3 a.1.f4 a.1.f5 a.1.f6 a.1.f7 a.1.f8 a.1.f9 a.1.f10 a.1.f11 a3 a.1.f13 a.1.f14 a.1.f15 a.1.f16 a.1.f17),0))) else ((if a2 = 47 then (some (decide (a2 = 47))) else (some (decide (a2 = 1047))) : Option (Bool)).bind (fun p=>if p = true then ((fA.f k a.1 a3).bind (fun d=>if d.1 = 0 then (some (((aG.mk d.2.f0 d.2.f1 d.2.f2 d.2.f3 d.2.f4 d.2.f5 d.2.f6 a.1.f7 d.2.f8 d.2.f9 d.2.f10 d.2.f11 d.2.f12 d.2.f13 d.2.f14 d.2.f15 (bF.mk d.2.f16.f0 d.2.f16.f1 a.1.f0.f2) a.1.f17),0))) else (if d.1 = 1 then (some (((aG.mk (bF.mk d.2.f0.f0 d.2.f0.f1 a.1.f16.f2) d.2.f1 d.2.f2 d.2.f3 d.2.f4 d.2.f5 d.2.f6 a.1.f7 d.2.f8 d.2.f9 d.2.f10 d.2.f11 d.2.f12 d.2.f13 d.2.f14 d.2.f15 d.2.f16 a.1.f17),0))) else (if d.1 = 2 then (some (((aG.mk (bF.mk d.2.f0.f0 d.2.f0.f1 a.1.f0.f2) d.2.f1 d.2.f2 d.2.f3 d.2.f4 d.2.f5 d.2.f6 a.1.f7 d.2.f8 d.2.f9 d.2.f10 d.2.f11 d.2.f12 d.2.f13 d.2.f14 d.2.f15 (bF.mk d.2.f16.f0 d.2.f16.f1 a.1.f16.f2) a.1.f17),0))) else (none))))) else (if a2 = 1049 then (if a3 = true then ((ju.f k a.1 false).bind (fun h=>(fA.f k h.1 true).bind (fun b=>if b.1 = 0 then (some (((aG.mk b.2.f0 b.2.f1 b.2.f2 b.2.f3 b.2.f4 b.2.f5 b.2.f6 h.1.f7 b.2.f8 b.2.f9 b.2.f10 b.2.f11 b.2.f12 b.2.f13 b.2.f14 b.2.f15 (bF.mk b.2.f16.f0 b.2.f16.f1 h.1.f0.f2) h.1.f17),0))) else (if b.1 = 1 then (some (((aG.mk (bF.mk b.2.f0.f0 b.2.f0.f1 h.1.f16.f2) b.2.f1 b.2.f2 b.2.f3 b.2.f4 b.2.f5 b.2.f6 h.1.f7 b.2.f8 b.2.f9 b.2.f10 b.2.f11 b.2.f12 b.2.f13 b.2.f14 b.2.f15 b.2.f16 h.1.f17),0))) else (if b.1 = 2 then (some (((aG.mk (bF.mk b.2.f0.f0 b.2.f0.f1 h.1.f0.f2) b.2.f1 b.2.f2 b.2.f3 b.2.f4 b.2.f5 b.2.f6 h.1.f7 b.2.f8 b.2.f9 b.2.f10 b.2.f11 b.2.f12 b.2.f13 b.2.f14 b.2.f15 (bF.mk b.2.f16.f0 b.2.f16.f1 h.1.f16.f2) h.1.f17),0))) else (none)))))) else (if a.1.f15 = true then ((fA.f k a.1 false).bind (fun c=>if c.1 = 0 then ((ju.f k (aG.mk c.2.f0 c.2.f1 c.2.f2 c.2.f3 c.2.f4 c.2.f5 c.2.f6 a.1.f7 c.2.f8 c.2.f9 c.2.f10 c.2.f11 c.2.f12 c.2.f13 c.2.f14 c.2.f15 (bF.mk c.2.f16.f0 c.2.f16.f1 a.1.f0.f2) a.1.f17) true).bind (fun j=>some ((j.1,j.2)))) else (if c.1 = 1 then ((ju.f k (aG.mk (bF.mk c.2.f0.f0 c.2.f0.f1 a.1.f16.f2) c.2.f1 c.2.f2 c.2.f3 c.2.f4 c.2.f5 c.2.f6 a.1.f7 c.2.f8 c.2.f9 c.2.f10 c.2.f11 c.2.f12 c.2.f13 c.2.f14 c.2.f15 c.2.f16 a.1.f17) true).bind (fun l=>some ((l.1,l.2)))) else (if c.1 = 2 then ((ju.f k (aG.mk (bF.mk c.2.f0.f0 c.2.f0.f1 a.1.f0.f2) c.2.f1 c.2.f2 c.2.f3 c.2.f4 c.2.f5 c.2.f6 a.1.f7 c.2.f8 c.2.f9 c.2.f10 c.2.f11 c.2.f12 c.2.f13 c.2.f14 c.2.f15 (bF.mk c.2.f16.f0 c.2.f16.f1 a.1.f16.f2) a.1.f17) true).bind (fun m=>some ((m.1,m.2)))) else (none))))) else (some ((a.1,0))))) else (some ((a.1,0)))))))))))))
theorem nK.ok {a0 : aG} {a1 : Bool} {a2 : Int} {a3 : Bool} {r : aG × Int} (H : nK.f k a0 a1 a2 a3 = some r) : df Tryz.prog 50 #[.agg (al a0 ag af az ay aw ar av au).toArray,.bool a1,ae a2,.bool a3] (aS a0 ag af az ay aw ar av au) (fun v B=>∃ aP aO bA bv bq bp bB bw,v = .tuple #[.agg (al r.1 aP aO bA bv bq bp bB bw).toArray,ae r.2]∧B = (aS r.1 aP aO bA bv bq bp bB bw++aS a0 ag af az ay aw ar av au)):=by
 refine ai Tryz.func50 rfl rfl ?_
 unfold nK.f at H
 refine aQ (o' (bN (h:=fun S=>o' (cy (h:=fun y=>ad aV (h:=bC (ao (bj 0 fun l6=>bj 1 fun k0=>bj 2 fun k1=>bj 3 fun k2=>ah ?_))))))))
 refine l' (ck 4) ?_
 obtain⟨a,h4,H⟩:=ac H
 refine o' (dN [0,1,2,3] [4,5] (eN.ok h4) fun p q d j s u m o=>?_)
 refine ad ax (h:=ad cg (h:=ad cg (h:=o' (bg S 0 8 (al a.1 p q d j s u m o) (h:=ad aV (h:=eJ (ad ax (h:=ad (ca rfl) (h:=bC ?_)))))))))
 rcases bH H with⟨Z,H⟩|⟨Z,H⟩
 ·refine aC rfl Z (aQ (bD (ck 8) (h:=o' (bg y 0 9 (al a.1 p q d j s u m o) (h:=ad aV (h:=cE ?_))))))
  have h:=aN H;subst h
  exact dt [.cell 8 34,.tmp 9] [0,1,2,3,4,5,6,7] ⟨p,q,d,j,s,u,m,o,rfl,rfl⟩ ⟨cR 9,cP,trivial⟩
 refine aD rfl Z (ap (aa (ao (aQ (ad ax (h:=ad (ca rfl) (h:=bC ?_)))))))
 rcases bH H with⟨a4,H⟩|⟨a4,H⟩
 ·refine aC rfl a4 (ao (aQ (ad ax (h:=ad (bk rfl rfl) (h:=bC ?_)))))
  rcases bH H with⟨a5,H⟩|⟨a5,H⟩
  ·refine aB rfl a5 (ah (ad ax (h:=ad aE (h:=o' (cH 8 [.bool a3] (h:=(cV (bD (ck 8) (h:=o' (bg y 0 9 (al (aG.mk a.1.f0 a.1.f1 a.1.f2 a.1.f3 a.1.f4 a.1.f5 a.1.f6 a.1.f7 a.1.f8 a.1.f9 a3 a.1.f11 a.1.f12 a.1.f13 a.1.f14 a.1.f15 a.1.f16 a.1.f17) p q d j s u m o) (h:=ad aV (h:=cE ?_))))))))))))
   have h:=aN H;subst h
   exact dt [.cell 8 34,.tmp 9] [0,1,2,3,4,5,6,7] ⟨p,q,d,j,s,u,m,o,rfl,rfl⟩ ⟨cR 9,cP,trivial⟩
  refine aA rfl a5 (ap (aa (aQ (bD (ck 8) (h:=o' (bg y 0 9 (al a.1 p q d j s u m o) (h:=ad aV (h:=cE ?_))))))))
  have h:=aN H;subst h
  exact dt [.cell 8 34,.tmp 9] [0,1,2,3,4,5,6,7] ⟨p,q,d,j,s,u,m,o,rfl,rfl⟩ ⟨cR 9,cP,trivial⟩
 refine aD rfl a4 (ap (aa (ao (aQ (ad ax (h:=bC (aU (aQ (ad (bk rfl rfl) (h:=ad aV (h:=bC ?_)))))))))))
 rcases bH H with⟨a6,H⟩|⟨a6,H⟩
 ·refine aB rfl a6 (ah (ad ax (h:=ad aE (h:=o' (cH 8 [.bool a3] (h:=(aj (aF (aa (aQ (bD (ck 8) (h:=o' (bg y 0 9 (al (aG.mk a.1.f0 a.1.f1 a.1.f2 a.1.f3 a.1.f4 a.1.f5 a.1.f6 a.1.f7 a.1.f8 a.1.f9 a.1.f10 a3 a.1.f12 a.1.f13 a.1.f14 a.1.f15 a.1.f16 a.1.f17) p q d j s u m o) (h:=ad aV (h:=cF ?_)))))))))))))))
  have h:=aN H;subst h
  exact dt [.cell 8 34,.tmp 9] [0,1,2,3,4,5,6,7] ⟨p,q,d,j,s,u,m,o,rfl,rfl⟩ ⟨cR 9,cP,trivial⟩
 refine aA rfl a6 (aQ (ad (bk rfl rfl) (h:=ad aV (h:=bC ?_))))
 rcases bH H with⟨a7,H⟩|⟨a7,H⟩
 ·refine aB rfl a7 (aQ (ad ax (h:=ad aE (h:=o' (cH 8 [.bool a3] (h:=(bC (ao (bj 0 fun k3=>bj 1 fun k4=>bj 2 fun k5=>bj 3 fun k6=>?_)))))))))
  refine ah (l' (ck 8) ?_)
  obtain⟨i4,i5,H⟩:=ac H
  refine o' (dN [0,1,2,3] [4,5,6,7,8,9] (kR.ok i5) fun g1 g2 g3 g4 g5 g6 g7 g8=>?_)
  refine ad cg (h:=ad cg (h:=o' (bg y 0 13 (al i4.1 g1 g2 g3 g4 g5 g6 g7 g8) (h:=ad aV (h:=cF (bi (aI ?_)))))))
  have h:=aN H;subst h
  exact dt [.cell 8 34,.tmp 9] [0,1,2,3,8,9,10,11] ⟨g1,g2,g3,g4,g5,g6,g7,g8,rfl,rfl⟩ ⟨cR 13,cP,trivial⟩
 refine aA rfl a7 (aQ (ad (bk rfl rfl) (h:=ad aV (h:=bC ?_))))
 rcases bH H with⟨a8,H⟩|⟨a8,H⟩
 ·refine aB rfl a8 (ah (ad ax (h:=ad aE (h:=o' (cH 8 [.bool a3] (h:=(aj (aF (aa (aQ (bD (ck 8) (h:=o' (bg y 0 9 (al (aG.mk a.1.f0 a.1.f1 a.1.f2 a.1.f3 a.1.f4 a.1.f5 a.1.f6 a.1.f7 a3 a.1.f9 a.1.f10 a.1.f11 a.1.f12 a.1.f13 a.1.f14 a.1.f15 a.1.f16 a.1.f17) p q d j s u m o) (h:=ad aV (h:=cF ?_)))))))))))))))
  have h:=aN H;subst h
  exact dt [.cell 8 34,.tmp 9] [0,1,2,3,4,5,6,7] ⟨p,q,d,j,s,u,m,o,rfl,rfl⟩ ⟨cR 9,cP,trivial⟩
 refine aA rfl a8 (aQ (ad (bk rfl rfl) (h:=ad aV (h:=bC ?_))))
 rcases bH H with⟨a9,H⟩|⟨a9,H⟩
 ·refine aB rfl a9 (ah (ad ax (h:=ad aE (h:=o' (cH 8 [.bool a3] (h:=(aj (aF (aa (SA.of_St (l:=[(4,aK S),(8,aK y)]) (B:=(aS a0 ag af az ay aw ar av au++(aL S 34 (al (aG.mk a.1.f0 a.1.f1 a.1.f2 a.1.f3 a.1.f4 a.1.f5 a.1.f6 a.1.f7 a.1.f8 a.1.f9 a.1.f10 a.1.f11 a.1.f12 a3 a.1.f14 a.1.f15 a.1.f16 a.1.f17) p q d j s u m o)::(aS a.1 p q d j s u m o++[aL y 34 (al cx none 0 none 0 none 0 none 0)])))) (St.mk1 (cJ rfl (cJ rfl dQ)) (Gh.sel [4,5,6,7,8,0,1,2,3,9] (by kernel_rfl) (by kernel_rfl))) fun junk=>aQ (bD (ck 4) (h:=o' (uX y 0 9 (al (aG.mk a.1.f0 a.1.f1 a.1.f2 a.1.f3 a.1.f4 a.1.f5 a.1.f6 a.1.f7 a.1.f8 a.1.f9 a.1.f10 a.1.f11 a.1.f12 a3 a.1.f14 a.1.f15 a.1.f16 a.1.f17) p q d j s u m o) ?_)))))))))))))
  refine ad aV (h:=cF ?_)
  have h:=aN H;subst h
  exact dt [.cell 8 34,.tmp 9] [5,6,7,8,0,1,2,3] ⟨p,q,d,j,s,u,m,o,rfl,rfl⟩ ⟨cR 9,cP,trivial⟩
 refine aA rfl a9 (aQ (ad (bk rfl rfl) (h:=ad aV (h:=bC (SA.of_St (l:=[(3,.bool a3),(4,aK S),(8,aK y),(26,ae a2),(47,.bool (decide (a2 = 2004)))]) (B:=(aS a0 ag af az ay aw ar av au++(aL S 34 (al a.1 p q d j s u m o)::(aS a.1 p q d j s u m o++[aL y 34 (al cx none 0 none 0 none 0 none 0)])))) (St.mk1 (cJ rfl (cJ rfl (cJ rfl (cJ rfl (cJ rfl dQ))))) (Gh.sel [4,5,6,7,8,0,1,2,3,9] (by kernel_rfl) (by kernel_rfl))) fun junk=>?_)))))
 rcases bH H with⟨b0,H⟩|⟨b0,H⟩
 ·refine aB rfl b0 (ah (ad ax (h:=ad aE (h:=o' (cH 4 [.bool a3] (h:=(aj (aF (aa (aQ (bD (ck 4) (h:=o' (bg y 0 9 (al (aG.mk a.1.f0 a.1.f1 a.1.f2 a.1.f3 a.1.f4 a.1.f5 a.1.f6 a.1.f7 a.1.f8 a.1.f9 a.1.f10 a.1.f11 a3 a.1.f13 a.1.f14 a.1.f15 a.1.f16 a.1.f17) p q d j s u m o) (h:=ad aV (h:=cF ?_)))))))))))))))
  have h:=aN H;subst h
  exact dt [.cell 8 34,.tmp 9] [5,6,7,8,0,1,2,3] ⟨p,q,d,j,s,u,m,o,rfl,rfl⟩ ⟨cR 9,cP,trivial⟩
 refine aA rfl b0 (ao (aQ (ad (bk rfl rfl) (h:=ad aV (h:=bC ?_)))))
 obtain⟨i6,H,b1⟩:=ac H
 refine bI (St [(3,.bool a3),(4,aK S),(8,aK y),(26,ae a2),(51,.bool i6)] (aS a0 ag af az ay aw ar av au++(aL S 34 (al a.1 p q d j s u m o)::(aS a.1 p q d j s u m o++[aL y 34 (al cx none 0 none 0 none 0 none 0)])))) ?_ ?_
 ·rcases bH H with⟨b2,H⟩|⟨b2,H⟩
  ·refine aB rfl b2 (ap ?_)
   have h:=aN H;subst h
   exact bM [0,1,2,3,4,5,6,7,8,9]
  refine aA rfl b2 (ah (ad (bk rfl rfl) (h:=ad aV (h:=aj ?_))))
  have h:=aN H;subst h
  exact bM [0,1,2,3,4,5,6,7,8,9]
 rintro e ds As g0
 clear H
 have H:=b1
 clear b1
 refine aa (SA.of_St g0 fun junk=>?_)
 rcases bH H with⟨b3,H⟩|⟨b3,H⟩
 ·refine aC rfl b3 (ao (bj 5 fun k7=>bj 6 fun k8=>bj 7 fun k9=>bj 8 fun l0=>ah (bD (ck 4) (h:=S' ax ?_))))
  obtain⟨c,i7,H⟩:=ac H
  refine o' (mC [5,6,7,8] [0,1,2,3,4,9] (fA.ok i7) ?_)
  rintro _ _ (⟨L,g9,h0,rfl,rfl⟩ | ⟨L,h1,h3,rfl,rfl⟩ | ⟨L,rfl,rfl⟩)
  ·replace H:=kZ L H
   refine o' (bg y 0 10 (al (aG.mk c.2.f0 c.2.f1 c.2.f2 c.2.f3 c.2.f4 c.2.f5 c.2.f6 a.1.f7 c.2.f8 c.2.f9 c.2.f10 c.2.f11 c.2.f12 c.2.f13 c.2.f14 c.2.f15 (bF.mk c.2.f16.f0 c.2.f16.f1 a.1.f0.f2) a.1.f17) g9 h0 d j p q m o) (h:=ad aV (h:=cF (bi (aI ?_)))))
   have h:=aN H;subst h
   exact dt [.cell 8 34,.tmp 9] [0,2,1,4,5,6,7,8] ⟨g9,h0,d,j,p,q,m,o,rfl,rfl⟩ ⟨cR 10,cP,trivial⟩
  ·replace H:=ls (by rw [L]; decide) H
   replace H:=kZ L H
   refine o' (bg y 0 10 (al (aG.mk (bF.mk c.2.f0.f0 c.2.f0.f1 a.1.f16.f2) c.2.f1 c.2.f2 c.2.f3 c.2.f4 c.2.f5 c.2.f6 a.1.f7 c.2.f8 c.2.f9 c.2.f10 c.2.f11 c.2.f12 c.2.f13 c.2.f14 c.2.f15 c.2.f16 a.1.f17) s u d j h1 h3 m o) (h:=ad aV (h:=cF (bi (aI ?_)))))
   have h:=aN H;subst h
   exact dt [.cell 8 34,.tmp 9] [3,2,0,4,5,6,7,8] ⟨s,u,d,j,h1,h3,m,o,rfl,rfl⟩ ⟨cR 10,cP,trivial⟩
  replace H:=ls (by rw [L]; decide) H
  replace H:=ls (by rw [L]; decide) H
  replace H:=kZ L H
  refine o' (bg y 0 9 (al (aG.mk (bF.mk c.2.f0.f0 c.2.f0.f1 a.1.f0.f2) c.2.f1 c.2.f2 c.2.f3 c.2.f4 c.2.f5 c.2.f6 a.1.f7 c.2.f8 c.2.f9 c.2.f10 c.2.f11 c.2.f12 c.2.f13 c.2.f14 c.2.f15 (bF.mk c.2.f16.f0 c.2.f16.f1 a.1.f16.f2) a.1.f17) p q d j s u m o) (h:=ad aV (h:=cF (bi (aI ?_)))))
  have h:=aN H;subst h
  exact dt [.cell 8 34,.tmp 9] [0,1,2,3,4,5,6,7] ⟨p,q,d,j,s,u,m,o,rfl,rfl⟩ ⟨cR 9,cP,trivial⟩
 refine aD rfl b3 (aQ (ad (bk rfl rfl) (h:=ad aV (h:=bC ?_))))
 rcases bH H with⟨b4,H⟩|⟨b4,H⟩
 ·refine aB rfl b4 (ao (aQ (ad ax (h:=bC ?_))))
  rcases bH H with⟨U,H⟩|⟨U,H⟩
  ·refine aC rfl U (ao (bj 5 fun i8=>bj 6 fun i9=>bj 7 fun j0=>bj 8 fun j1=>ah (l' (ck 4) ?_)))
   obtain⟨z,h5,H⟩:=ac H
   refine o' (dN [5,6,7,8] [0,1,2,3,4,9] (ju.ok h5) fun M N F I O R J K=>?_)
   refine ad ax (h:=ad cg (h:=ad cg (h:=o' (bg S 0 12 (al z.1 M N F I O R J K) (h:=bC (SA.of_St (l:=[(4,aK S),(8,aK y)]) (B:=(aS a0 ag af az ay aw ar av au++(aL S 34 (al z.1 M N F I O R J K)::(aS z.1 M N F I O R J K++[aL y 34 (al cx none 0 none 0 none 0 none 0)])))) (St.mk1 (cJ rfl (cJ rfl dQ)) (Gh.sel [8,9,10,11,12,0,1,2,3,13] (by kernel_rfl) (by kernel_rfl))) fun junk=>ao (bj 5 fun j2=>bj 6 fun j3=>bj 7 fun j4=>?_)))))))
   refine bj 8 fun j5=>ah (l' (ck 4) ?_)
   obtain⟨b,h6,H⟩:=ac H
   refine o' (mC [5,6,7,8] [0,1,2,3,4,9] (fA.ok h6) ?_)
   rintro _ _ (⟨D,b6,b8,rfl,rfl⟩ | ⟨D,b9,c5,rfl,rfl⟩ | ⟨D,rfl,rfl⟩)
   ·replace H:=kZ D H
    refine o' (bg y 0 10 (al (aG.mk b.2.f0 b.2.f1 b.2.f2 b.2.f3 b.2.f4 b.2.f5 b.2.f6 z.1.f7 b.2.f8 b.2.f9 b.2.f10 b.2.f11 b.2.f12 b.2.f13 b.2.f14 b.2.f15 (bF.mk b.2.f16.f0 b.2.f16.f1 z.1.f0.f2) z.1.f17) b6 b8 F I M N J K) (h:=ad aV (h:=cE (bi (aI ?_)))))
    have h:=aN H;subst h
    exact dt [.cell 8 34,.tmp 9] [0,2,1,4,5,6,7,8] ⟨b6,b8,F,I,M,N,J,K,rfl,rfl⟩ ⟨cR 10,cP,trivial⟩
   ·replace H:=ls (by rw [D]; decide) H
    replace H:=kZ D H
    refine o' (bg y 0 10 (al (aG.mk (bF.mk b.2.f0.f0 b.2.f0.f1 z.1.f16.f2) b.2.f1 b.2.f2 b.2.f3 b.2.f4 b.2.f5 b.2.f6 z.1.f7 b.2.f8 b.2.f9 b.2.f10 b.2.f11 b.2.f12 b.2.f13 b.2.f14 b.2.f15 b.2.f16 z.1.f17) O R F I b9 c5 J K) (h:=ad aV (h:=cE (bi (aI ?_)))))
    have h:=aN H;subst h
    exact dt [.cell 8 34,.tmp 9] [3,2,0,4,5,6,7,8] ⟨O,R,F,I,b9,c5,J,K,rfl,rfl⟩ ⟨cR 10,cP,trivial⟩
   replace H:=ls (by rw [D]; decide) H
   replace H:=ls (by rw [D]; decide) H
   replace H:=kZ D H
   refine o' (bg y 0 9 (al (aG.mk (bF.mk b.2.f0.f0 b.2.f0.f1 z.1.f0.f2) b.2.f1 b.2.f2 b.2.f3 b.2.f4 b.2.f5 b.2.f6 z.1.f7 b.2.f8 b.2.f9 b.2.f10 b.2.f11 b.2.f12 b.2.f13 b.2.f14 b.2.f15 (bF.mk b.2.f16.f0 b.2.f16.f1 z.1.f16.f2) z.1.f17) M N F I O R J K) (h:=ad aV (h:=cE (bi (aI ?_)))))
   have h:=aN H;subst h
   exact dt [.cell 8 34,.tmp 9] [0,1,2,3,4,5,6,7] ⟨M,N,F,I,O,R,J,K,rfl,rfl⟩ ⟨cR 9,cP,trivial⟩
  refine aD rfl U (ap (aa (aQ (ad aE (h:=bD (aT 4) (h:=bC ?_))))))
  rcases bH H with⟨Y,H⟩|⟨Y,H⟩
  ·refine aC rfl Y (ao (bj 5 fun j6=>bj 6 fun j7=>bj 7 fun j8=>bj 8 fun j9=>ah (l' (ck 4) ?_)))
   obtain⟨l1,h7,H⟩:=ac H
   refine o' (mC [5,6,7,8] [0,1,2,3,4,9] (fA.ok h7) ?_)
   rintro _ _ (⟨E,l2,l3,rfl,rfl⟩ | ⟨E,l4,l5,rfl,rfl⟩ | ⟨E,rfl,rfl⟩)
   ·replace H:=kZ E H
    obtain⟨h8,h9,H⟩:=ac H
    refine o' (dN [0,2,1,4] [3,5,6,7,8,9,10] (ju.ok h9) fun c6 c7 c8 c9 d0 d1 d2 d3=>?_)
    refine ad cg (h:=ad cg (h:=o' (bg y 0 14 (al h8.1 c6 c7 c8 c9 d0 d1 d2 d3) (h:=ad aV (h:=cF (bi (aI ?_)))))))
    have h:=aN H;subst h
    exact dt [.cell 8 34,.tmp 9] [0,1,2,3,9,10,11,12] ⟨c6,c7,c8,c9,d0,d1,d2,d3,rfl,rfl⟩ ⟨cR 14,cP,trivial⟩
   ·replace H:=ls (by rw [E]; decide) H
    replace H:=kZ E H
    obtain⟨i0,i1,H⟩:=ac H
    refine o' (dN [3,2,0,4] [1,5,6,7,8,9,10] (ju.ok i1) fun d4 d5 d6 d7 d8 d9 e0 e1=>?_)
    refine ad cg (h:=ad cg (h:=o' (bg y 0 14 (al i0.1 d4 d5 d6 d7 d8 d9 e0 e1) (h:=ad aV (h:=cF (bi (aI ?_)))))))
    have h:=aN H;subst h
    exact dt [.cell 8 34,.tmp 9] [0,1,2,3,9,10,11,12] ⟨d4,d5,d6,d7,d8,d9,e0,e1,rfl,rfl⟩ ⟨cR 14,cP,trivial⟩
   replace H:=ls (by rw [E]; decide) H
   replace H:=ls (by rw [E]; decide) H
   replace H:=kZ E H
   obtain⟨i2,i3,H⟩:=ac H
   refine o' (dN [0,1,2,3] [4,5,6,7,8,9] (ju.ok i3) fun e2 e3 e4 e5 e6 e7 e8 e9=>?_)
   refine ad cg (h:=ad cg (h:=o' (bg y 0 13 (al i2.1 e2 e3 e4 e5 e6 e7 e8 e9) (h:=ad aV (h:=cF (bi (aI ?_)))))))
   have h:=aN H;subst h
   exact dt [.cell 8 34,.tmp 9] [0,1,2,3,8,9,10,11] ⟨e2,e3,e4,e5,e6,e7,e8,e9,rfl,rfl⟩ ⟨cR 13,cP,trivial⟩
  refine aD rfl Y (ap (aF (aa (aQ (bD (ck 4) (h:=o' (bg y 0 9 (al a.1 p q d j s u m o) (h:=ad aV (h:=cF ?_)))))))))
  have h:=aN H;subst h
  exact dt [.cell 8 34,.tmp 9] [5,6,7,8,0,1,2,3] ⟨p,q,d,j,s,u,m,o,rfl,rfl⟩ ⟨cR 9,cP,trivial⟩
 refine aA rfl b4 (ap (aF (aa (aQ (bD (ck 4) (h:=o' (bg y 0 9 (al a.1 p q d j s u m o) (h:=ad aV (h:=cF ?_)))))))))
 have h:=aN H;subst h
 exact dt [.cell 8 34,.tmp 9] [5,6,7,8,0,1,2,3] ⟨p,q,d,j,s,u,m,o,rfl,rfl⟩ ⟨cR 9,cP,trivial⟩

end Go.Proofs.YtckilbegmbaeeaaGreat.Z3

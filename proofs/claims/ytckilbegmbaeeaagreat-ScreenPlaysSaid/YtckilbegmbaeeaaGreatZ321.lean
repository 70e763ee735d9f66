/- What functions compute, and that they do: 101b0. -/
import Derived.Test.YtckilbegmbaeeaaGreatZ320
namespace Go.Proofs.YtckilbegmbaeeaaGreat.Z3
open Go Go.RowKit Go.Proofs.YtckilbegmbaeeaaGreat.SL
open Go.IntKind (i64)
set_option linter.unusedVariables false
set_option maxHeartbeats 20000000
set_option maxRecDepth 100000
set_option linter.unusedSimpArgs false
attribute [local irreducible] IntKind.wrap cC dO eX gp gl lH fU cN gm rd sub bytesOf eG cL
variable {ba af ay ar au k : Nat}
variable {ag az aw av : Option Addr}
def im.f (k : Nat) (p0 : aG) : Option (aG):=if p0.f1 = p0.f6 then ((cu.f k p0.f0 p0.f5 p0.f6 1 p0.f4).bind (fun a=>some (({ p0 with f0:=a.1 })))) else (if p0.f1 < (i64.wrap (p0.f0.f1 - 1)) then (some (({ p0 with f1:=(i64.wrap (p0.f1 + 1)) }))) else (some (p0)))
theorem im.ok {p0 : aG} {r : aG} (H : im.f k p0 = some r) : df Tryz.prog 101 #[.pointer (some ⟨ba,0,none⟩)] (cK ba p0 ag af az ay aw ar av au) (fun v B=>∃ P0_0_ q0_0_ P0_1_ q0_1_ P0_2_ q0_2_ P0_3_ q0_3_,v = .tuple #[]∧B = (cK ba r P0_0_ q0_0_ P0_1_ q0_1_ P0_2_ q0_2_ P0_3_ q0_3_)):=by
 refine ai Tryz.func101 rfl rfl ?_
 unfold im.f at H
 refine ao ?_
 refine fk (dG 0 9) [0] (dG 1 4) fun _ _ _ _ _ sH dd pk=>?_
 refine bf 0 rfl sH ax (h:=bf 1 rfl sH cz (h:=bf 2 rfl sH aE (h:=bT 3 rfl sH (aT 0) (h:=bf 4 rfl sH ax (h:=bf 5 rfl sH cz (h:=bf 6 rfl sH aE (h:=bT 7 rfl sH (aT 0) (h:=bf 8 rfl sH (bk rfl rfl) (h:=aW dd sH ?_)))))))))
 refine aH (by kernel_rfl) (aa ?_)
 rcases bH H with⟨l,H⟩|⟨l,H⟩
 ·refine aB rfl l (bj 1 fun m=>bj 2 fun o=>bj 3 fun p=>bj 4 fun q=>?_)
  refine lI jy bP.body fun u s y pk=>?_
  refine bW 0 rfl ax (h:=bW 1 rfl ax (h:=bW 2 rfl cz (h:=bW 3 rfl aE (h:=bW 5 rfl ax (h:=bW 6 rfl cz (h:=bW 7 rfl aE (h:=bW 9 rfl ax (h:=bW 10 rfl cz (h:=yt 11 rfl aE ?_)))))))))
  refine bW 13 rfl ax (h:=bW 14 rfl cz (h:=yt 15 rfl aE ?_))
  obtain⟨a,d,H⟩:=ac H
  refine eu (rs:=[4,8,12,16]) (by kernel_rfl) (by decide) (bx ⟨rfl,_,rfl,(.no rfl),?_⟩ (bx ⟨rfl,_,rfl,(.no rfl),?_⟩ (bx ⟨rfl,_,rfl,(.no rfl),?_⟩ (bx ⟨rfl,_,rfl,(.no rfl),?_⟩ cO))))
  ·refine id (dv rfl (cG ba 0 0 [ae p0.f0.f0,ae p0.f0.f1,.slice ag p0.f0.f2.length af]) ?_)
   refine eu (rs:=[8,12,16]) (by kernel_rfl) (by decide) (bx ⟨rfl,_,rfl,(.no rfl),?_⟩ (bx ⟨rfl,_,rfl,(.no rfl),?_⟩ (bx ⟨rfl,_,rfl,(.no rfl),?_⟩ cO)))
   ·refine id (dv rfl (ig ba 16 0) ?_)
    refine eu (rs:=[12,16]) (by kernel_rfl) (by decide) (bx ⟨rfl,_,rfl,(.no rfl),?_⟩ (bx ⟨rfl,_,rfl,(.no rfl),?_⟩ cO))
    ·refine id (dv rfl (ig ba 17 0) (ey 16 rfl (dv rfl (cG ba 6 0 (bG p0.f4)) (ey 17 rfl (gu [1] [0,2,3,4] (cu.ok d) fun b c=>?_)))))
     refine bW 18 rfl ax (h:=bW 19 rfl cg (h:=bW 20 rfl cg (h:=bW 21 rfl cz (h:=bW 22 rfl aE (h:=ey 23 rfl (cH 2 [ae a.1.f0,ae a.1.f1,.slice b a.1.f2.length c] (h:=(aH (by kernel_rfl) ?_))))))))
     have h:=aN H;subst h
     exact fD [2,0,3,4,5] ⟨b,c,az,ay,aw,ar,av,au,rfl,rfl⟩
    refine id (dv rfl (cG ba 6 0 (bG p0.f4)) (ey 12 rfl (dv rfl (ig ba 17 0) (ey 17 rfl (gu [1] [0,2,3,4] (cu.ok d) fun b c=>?_)))))
    refine bW 18 rfl ax (h:=bW 19 rfl cg (h:=bW 20 rfl cg (h:=bW 21 rfl cz (h:=bW 22 rfl aE (h:=ey 23 rfl (cH 2 [ae a.1.f0,ae a.1.f1,.slice b a.1.f2.length c] (h:=(aH (by kernel_rfl) ?_))))))))
    have h:=aN H;subst h
    exact fD [2,0,3,4,5] ⟨b,c,az,ay,aw,ar,av,au,rfl,rfl⟩
   ·refine id (dv rfl (ig ba 17 0) ?_)
    refine eu (rs:=[8,16]) (by kernel_rfl) (by decide) (bx ⟨rfl,_,rfl,(.no rfl),?_⟩ (bx ⟨rfl,_,rfl,(.no rfl),?_⟩ cO))
    ·refine id (dv rfl (ig ba 16 0) (ey 16 rfl (dv rfl (cG ba 6 0 (bG p0.f4)) (ey 17 rfl (gu [1] [0,2,3,4] (cu.ok d) fun b c=>?_)))))
     refine bW 18 rfl ax (h:=bW 19 rfl cg (h:=bW 20 rfl cg (h:=bW 21 rfl cz (h:=bW 22 rfl aE (h:=ey 23 rfl (cH 2 [ae a.1.f0,ae a.1.f1,.slice b a.1.f2.length c] (h:=(aH (by kernel_rfl) ?_))))))))
     have h:=aN H;subst h
     exact fD [2,0,3,4,5] ⟨b,c,az,ay,aw,ar,av,au,rfl,rfl⟩
    refine id (dv rfl (cG ba 6 0 (bG p0.f4)) (ey 8 rfl (dv rfl (ig ba 16 0) (ey 17 rfl (gu [1] [0,2,3,4] (cu.ok d) fun b c=>?_)))))
    refine bW 18 rfl ax (h:=bW 19 rfl cg (h:=bW 20 rfl cg (h:=bW 21 rfl cz (h:=bW 22 rfl aE (h:=ey 23 rfl (cH 2 [ae a.1.f0,ae a.1.f1,.slice b a.1.f2.length c] (h:=(aH (by kernel_rfl) ?_))))))))
    have h:=aN H;subst h
    exact fD [2,0,3,4,5] ⟨b,c,az,ay,aw,ar,av,au,rfl,rfl⟩
   refine id (dv rfl (cG ba 6 0 (bG p0.f4)) ?_)
   refine eu (rs:=[8,12]) (by kernel_rfl) (by decide) (bx ⟨rfl,_,rfl,(.no rfl),?_⟩ (bx ⟨rfl,_,rfl,(.no rfl),?_⟩ cO))
   ·refine id (dv rfl (ig ba 16 0) (ey 12 rfl (dv rfl (ig ba 17 0) (ey 17 rfl (gu [1] [0,2,3,4] (cu.ok d) fun b c=>?_)))))
    refine bW 18 rfl ax (h:=bW 19 rfl cg (h:=bW 20 rfl cg (h:=bW 21 rfl cz (h:=bW 22 rfl aE (h:=ey 23 rfl (cH 2 [ae a.1.f0,ae a.1.f1,.slice b a.1.f2.length c] (h:=(aH (by kernel_rfl) ?_))))))))
    have h:=aN H;subst h
    exact fD [2,0,3,4,5] ⟨b,c,az,ay,aw,ar,av,au,rfl,rfl⟩
   refine id (dv rfl (ig ba 17 0) (ey 8 rfl (dv rfl (ig ba 16 0) (ey 17 rfl (gu [1] [0,2,3,4] (cu.ok d) fun b c=>?_)))))
   refine bW 18 rfl ax (h:=bW 19 rfl cg (h:=bW 20 rfl cg (h:=bW 21 rfl cz (h:=bW 22 rfl aE (h:=ey 23 rfl (cH 2 [ae a.1.f0,ae a.1.f1,.slice b a.1.f2.length c] (h:=(aH (by kernel_rfl) ?_))))))))
   have h:=aN H;subst h
   exact fD [2,0,3,4,5] ⟨b,c,az,ay,aw,ar,av,au,rfl,rfl⟩
  ·refine id (dv rfl (ig ba 16 0) ?_)
   refine eu (rs:=[4,12,16]) (by kernel_rfl) (by decide) (bx ⟨rfl,_,rfl,(.no rfl),?_⟩ (bx ⟨rfl,_,rfl,(.no rfl),?_⟩ (bx ⟨rfl,_,rfl,(.no rfl),?_⟩ cO)))
   ·refine id (dv rfl (cG ba 0 0 [ae p0.f0.f0,ae p0.f0.f1,.slice ag p0.f0.f2.length af]) ?_)
    refine eu (rs:=[12,16]) (by kernel_rfl) (by decide) (bx ⟨rfl,_,rfl,(.no rfl),?_⟩ (bx ⟨rfl,_,rfl,(.no rfl),?_⟩ cO))
    ·refine id (dv rfl (ig ba 17 0) (ey 16 rfl (dv rfl (cG ba 6 0 (bG p0.f4)) (ey 17 rfl (gu [1] [0,2,3,4] (cu.ok d) fun b c=>?_)))))
     refine bW 18 rfl ax (h:=bW 19 rfl cg (h:=bW 20 rfl cg (h:=bW 21 rfl cz (h:=bW 22 rfl aE (h:=ey 23 rfl (cH 2 [ae a.1.f0,ae a.1.f1,.slice b a.1.f2.length c] (h:=(aH (by kernel_rfl) ?_))))))))
     have h:=aN H;subst h
     exact fD [2,0,3,4,5] ⟨b,c,az,ay,aw,ar,av,au,rfl,rfl⟩
    refine id (dv rfl (cG ba 6 0 (bG p0.f4)) (ey 12 rfl (dv rfl (ig ba 17 0) (ey 17 rfl (gu [1] [0,2,3,4] (cu.ok d) fun b c=>?_)))))
    refine bW 18 rfl ax (h:=bW 19 rfl cg (h:=bW 20 rfl cg (h:=bW 21 rfl cz (h:=bW 22 rfl aE (h:=ey 23 rfl (cH 2 [ae a.1.f0,ae a.1.f1,.slice b a.1.f2.length c] (h:=(aH (by kernel_rfl) ?_))))))))
    have h:=aN H;subst h
    exact fD [2,0,3,4,5] ⟨b,c,az,ay,aw,ar,av,au,rfl,rfl⟩
   ·refine id (dv rfl (ig ba 17 0) ?_)
    refine eu (rs:=[4,16]) (by kernel_rfl) (by decide) (bx ⟨rfl,_,rfl,(.no rfl),?_⟩ (bx ⟨rfl,_,rfl,(.no rfl),?_⟩ cO))
    ·refine id (dv rfl (cG ba 0 0 [ae p0.f0.f0,ae p0.f0.f1,.slice ag p0.f0.f2.length af]) (ey 16 rfl (dv rfl (cG ba 6 0 (bG p0.f4)) (ey 17 rfl (gu [1] [0,2,3,4] (cu.ok d) fun b c=>?_)))))
     refine bW 18 rfl ax (h:=bW 19 rfl cg (h:=bW 20 rfl cg (h:=bW 21 rfl cz (h:=bW 22 rfl aE (h:=ey 23 rfl (cH 2 [ae a.1.f0,ae a.1.f1,.slice b a.1.f2.length c] (h:=(aH (by kernel_rfl) ?_))))))))
     have h:=aN H;subst h
     exact fD [2,0,3,4,5] ⟨b,c,az,ay,aw,ar,av,au,rfl,rfl⟩
    refine id (dv rfl (cG ba 6 0 (bG p0.f4)) (ey 4 rfl (dv rfl (cG ba 0 0 [ae p0.f0.f0,ae p0.f0.f1,.slice ag p0.f0.f2.length af]) (ey 17 rfl (gu [1] [0,2,3,4] (cu.ok d) fun b c=>?_)))))
    refine bW 18 rfl ax (h:=bW 19 rfl cg (h:=bW 20 rfl cg (h:=bW 21 rfl cz (h:=bW 22 rfl aE (h:=ey 23 rfl (cH 2 [ae a.1.f0,ae a.1.f1,.slice b a.1.f2.length c] (h:=(aH (by kernel_rfl) ?_))))))))
    have h:=aN H;subst h
    exact fD [2,0,3,4,5] ⟨b,c,az,ay,aw,ar,av,au,rfl,rfl⟩
   refine id (dv rfl (cG ba 6 0 (bG p0.f4)) ?_)
   refine eu (rs:=[4,12]) (by kernel_rfl) (by decide) (bx ⟨rfl,_,rfl,(.no rfl),?_⟩ (bx ⟨rfl,_,rfl,(.no rfl),?_⟩ cO))
   ·refine id (dv rfl (cG ba 0 0 [ae p0.f0.f0,ae p0.f0.f1,.slice ag p0.f0.f2.length af]) (ey 12 rfl (dv rfl (ig ba 17 0) (ey 17 rfl (gu [1] [0,2,3,4] (cu.ok d) fun b c=>?_)))))
    refine bW 18 rfl ax (h:=bW 19 rfl cg (h:=bW 20 rfl cg (h:=bW 21 rfl cz (h:=bW 22 rfl aE (h:=ey 23 rfl (cH 2 [ae a.1.f0,ae a.1.f1,.slice b a.1.f2.length c] (h:=(aH (by kernel_rfl) ?_))))))))
    have h:=aN H;subst h
    exact fD [2,0,3,4,5] ⟨b,c,az,ay,aw,ar,av,au,rfl,rfl⟩
   refine id (dv rfl (ig ba 17 0) (ey 4 rfl (dv rfl (cG ba 0 0 [ae p0.f0.f0,ae p0.f0.f1,.slice ag p0.f0.f2.length af]) (ey 17 rfl (gu [1] [0,2,3,4] (cu.ok d) fun b c=>?_)))))
   refine bW 18 rfl ax (h:=bW 19 rfl cg (h:=bW 20 rfl cg (h:=bW 21 rfl cz (h:=bW 22 rfl aE (h:=ey 23 rfl (cH 2 [ae a.1.f0,ae a.1.f1,.slice b a.1.f2.length c] (h:=(aH (by kernel_rfl) ?_))))))))
   have h:=aN H;subst h
   exact fD [2,0,3,4,5] ⟨b,c,az,ay,aw,ar,av,au,rfl,rfl⟩
  ·refine id (dv rfl (ig ba 17 0) ?_)
   refine eu (rs:=[4,8,16]) (by kernel_rfl) (by decide) (bx ⟨rfl,_,rfl,(.no rfl),?_⟩ (bx ⟨rfl,_,rfl,(.no rfl),?_⟩ (bx ⟨rfl,_,rfl,(.no rfl),?_⟩ cO)))
   ·refine id (dv rfl (cG ba 0 0 [ae p0.f0.f0,ae p0.f0.f1,.slice ag p0.f0.f2.length af]) ?_)
    refine eu (rs:=[8,16]) (by kernel_rfl) (by decide) (bx ⟨rfl,_,rfl,(.no rfl),?_⟩ (bx ⟨rfl,_,rfl,(.no rfl),?_⟩ cO))
    ·refine id (dv rfl (ig ba 16 0) (ey 16 rfl (dv rfl (cG ba 6 0 (bG p0.f4)) (ey 17 rfl (gu [1] [0,2,3,4] (cu.ok d) fun b c=>?_)))))
     refine bW 18 rfl ax (h:=bW 19 rfl cg (h:=bW 20 rfl cg (h:=bW 21 rfl cz (h:=bW 22 rfl aE (h:=ey 23 rfl (cH 2 [ae a.1.f0,ae a.1.f1,.slice b a.1.f2.length c] (h:=(aH (by kernel_rfl) ?_))))))))
     have h:=aN H;subst h
     exact fD [2,0,3,4,5] ⟨b,c,az,ay,aw,ar,av,au,rfl,rfl⟩
    refine id (dv rfl (cG ba 6 0 (bG p0.f4)) (ey 8 rfl (dv rfl (ig ba 16 0) (ey 17 rfl (gu [1] [0,2,3,4] (cu.ok d) fun b c=>?_)))))
    refine bW 18 rfl ax (h:=bW 19 rfl cg (h:=bW 20 rfl cg (h:=bW 21 rfl cz (h:=bW 22 rfl aE (h:=ey 23 rfl (cH 2 [ae a.1.f0,ae a.1.f1,.slice b a.1.f2.length c] (h:=(aH (by kernel_rfl) ?_))))))))
    have h:=aN H;subst h
    exact fD [2,0,3,4,5] ⟨b,c,az,ay,aw,ar,av,au,rfl,rfl⟩
   ·refine id (dv rfl (ig ba 16 0) ?_)
    refine eu (rs:=[4,16]) (by kernel_rfl) (by decide) (bx ⟨rfl,_,rfl,(.no rfl),?_⟩ (bx ⟨rfl,_,rfl,(.no rfl),?_⟩ cO))
    ·refine id (dv rfl (cG ba 0 0 [ae p0.f0.f0,ae p0.f0.f1,.slice ag p0.f0.f2.length af]) (ey 16 rfl (dv rfl (cG ba 6 0 (bG p0.f4)) (ey 17 rfl (gu [1] [0,2,3,4] (cu.ok d) fun b c=>?_)))))
     refine bW 18 rfl ax (h:=bW 19 rfl cg (h:=bW 20 rfl cg (h:=bW 21 rfl cz (h:=bW 22 rfl aE (h:=ey 23 rfl (cH 2 [ae a.1.f0,ae a.1.f1,.slice b a.1.f2.length c] (h:=(aH (by kernel_rfl) ?_))))))))
     have h:=aN H;subst h
     exact fD [2,0,3,4,5] ⟨b,c,az,ay,aw,ar,av,au,rfl,rfl⟩
    refine id (dv rfl (cG ba 6 0 (bG p0.f4)) (ey 4 rfl (dv rfl (cG ba 0 0 [ae p0.f0.f0,ae p0.f0.f1,.slice ag p0.f0.f2.length af]) (ey 17 rfl (gu [1] [0,2,3,4] (cu.ok d) fun b c=>?_)))))
    refine bW 18 rfl ax (h:=bW 19 rfl cg (h:=bW 20 rfl cg (h:=bW 21 rfl cz (h:=bW 22 rfl aE (h:=ey 23 rfl (cH 2 [ae a.1.f0,ae a.1.f1,.slice b a.1.f2.length c] (h:=(aH (by kernel_rfl) ?_))))))))
    have h:=aN H;subst h
    exact fD [2,0,3,4,5] ⟨b,c,az,ay,aw,ar,av,au,rfl,rfl⟩
   refine id (dv rfl (cG ba 6 0 (bG p0.f4)) ?_)
   refine eu (rs:=[4,8]) (by kernel_rfl) (by decide) (bx ⟨rfl,_,rfl,(.no rfl),?_⟩ (bx ⟨rfl,_,rfl,(.no rfl),?_⟩ cO))
   ·refine id (dv rfl (cG ba 0 0 [ae p0.f0.f0,ae p0.f0.f1,.slice ag p0.f0.f2.length af]) (ey 8 rfl (dv rfl (ig ba 16 0) (ey 17 rfl (gu [1] [0,2,3,4] (cu.ok d) fun b c=>?_)))))
    refine bW 18 rfl ax (h:=bW 19 rfl cg (h:=bW 20 rfl cg (h:=bW 21 rfl cz (h:=bW 22 rfl aE (h:=ey 23 rfl (cH 2 [ae a.1.f0,ae a.1.f1,.slice b a.1.f2.length c] (h:=(aH (by kernel_rfl) ?_))))))))
    have h:=aN H;subst h
    exact fD [2,0,3,4,5] ⟨b,c,az,ay,aw,ar,av,au,rfl,rfl⟩
   refine id (dv rfl (ig ba 16 0) (ey 4 rfl (dv rfl (cG ba 0 0 [ae p0.f0.f0,ae p0.f0.f1,.slice ag p0.f0.f2.length af]) (ey 17 rfl (gu [1] [0,2,3,4] (cu.ok d) fun b c=>?_)))))
   refine bW 18 rfl ax (h:=bW 19 rfl cg (h:=bW 20 rfl cg (h:=bW 21 rfl cz (h:=bW 22 rfl aE (h:=ey 23 rfl (cH 2 [ae a.1.f0,ae a.1.f1,.slice b a.1.f2.length c] (h:=(aH (by kernel_rfl) ?_))))))))
   have h:=aN H;subst h
   exact fD [2,0,3,4,5] ⟨b,c,az,ay,aw,ar,av,au,rfl,rfl⟩
  refine id (dv rfl (cG ba 6 0 (bG p0.f4)) ?_)
  refine eu (rs:=[4,8,12]) (by kernel_rfl) (by decide) (bx ⟨rfl,_,rfl,(.no rfl),?_⟩ (bx ⟨rfl,_,rfl,(.no rfl),?_⟩ (bx ⟨rfl,_,rfl,(.no rfl),?_⟩ cO)))
  ·refine id (dv rfl (cG ba 0 0 [ae p0.f0.f0,ae p0.f0.f1,.slice ag p0.f0.f2.length af]) ?_)
   refine eu (rs:=[8,12]) (by kernel_rfl) (by decide) (bx ⟨rfl,_,rfl,(.no rfl),?_⟩ (bx ⟨rfl,_,rfl,(.no rfl),?_⟩ cO))
   ·refine id (dv rfl (ig ba 16 0) (ey 12 rfl (dv rfl (ig ba 17 0) (ey 17 rfl (gu [1] [0,2,3,4] (cu.ok d) fun b c=>?_)))))
    refine bW 18 rfl ax (h:=bW 19 rfl cg (h:=bW 20 rfl cg (h:=bW 21 rfl cz (h:=bW 22 rfl aE (h:=ey 23 rfl (cH 2 [ae a.1.f0,ae a.1.f1,.slice b a.1.f2.length c] (h:=(aH (by kernel_rfl) ?_))))))))
    have h:=aN H;subst h
    exact fD [2,0,3,4,5] ⟨b,c,az,ay,aw,ar,av,au,rfl,rfl⟩
   refine id (dv rfl (ig ba 17 0) (ey 8 rfl (dv rfl (ig ba 16 0) (ey 17 rfl (gu [1] [0,2,3,4] (cu.ok d) fun b c=>?_)))))
   refine bW 18 rfl ax (h:=bW 19 rfl cg (h:=bW 20 rfl cg (h:=bW 21 rfl cz (h:=bW 22 rfl aE (h:=ey 23 rfl (cH 2 [ae a.1.f0,ae a.1.f1,.slice b a.1.f2.length c] (h:=(aH (by kernel_rfl) ?_))))))))
   have h:=aN H;subst h
   exact fD [2,0,3,4,5] ⟨b,c,az,ay,aw,ar,av,au,rfl,rfl⟩
  ·refine id (dv rfl (ig ba 16 0) ?_)
   refine eu (rs:=[4,12]) (by kernel_rfl) (by decide) (bx ⟨rfl,_,rfl,(.no rfl),?_⟩ (bx ⟨rfl,_,rfl,(.no rfl),?_⟩ cO))
   ·refine id (dv rfl (cG ba 0 0 [ae p0.f0.f0,ae p0.f0.f1,.slice ag p0.f0.f2.length af]) (ey 12 rfl (dv rfl (ig ba 17 0) (ey 17 rfl (gu [1] [0,2,3,4] (cu.ok d) fun b c=>?_)))))
    refine bW 18 rfl ax (h:=bW 19 rfl cg (h:=bW 20 rfl cg (h:=bW 21 rfl cz (h:=bW 22 rfl aE (h:=ey 23 rfl (cH 2 [ae a.1.f0,ae a.1.f1,.slice b a.1.f2.length c] (h:=(aH (by kernel_rfl) ?_))))))))
    have h:=aN H;subst h
    exact fD [2,0,3,4,5] ⟨b,c,az,ay,aw,ar,av,au,rfl,rfl⟩
   refine id (dv rfl (ig ba 17 0) (ey 4 rfl (dv rfl (cG ba 0 0 [ae p0.f0.f0,ae p0.f0.f1,.slice ag p0.f0.f2.length af]) (ey 17 rfl (gu [1] [0,2,3,4] (cu.ok d) fun b c=>?_)))))
   refine bW 18 rfl ax (h:=bW 19 rfl cg (h:=bW 20 rfl cg (h:=bW 21 rfl cz (h:=bW 22 rfl aE (h:=ey 23 rfl (cH 2 [ae a.1.f0,ae a.1.f1,.slice b a.1.f2.length c] (h:=(aH (by kernel_rfl) ?_))))))))
   have h:=aN H;subst h
   exact fD [2,0,3,4,5] ⟨b,c,az,ay,aw,ar,av,au,rfl,rfl⟩
  refine id (dv rfl (ig ba 17 0) ?_)
  refine eu (rs:=[4,8]) (by kernel_rfl) (by decide) (bx ⟨rfl,_,rfl,(.no rfl),?_⟩ (bx ⟨rfl,_,rfl,(.no rfl),?_⟩ cO))
  ·refine id (dv rfl (cG ba 0 0 [ae p0.f0.f0,ae p0.f0.f1,.slice ag p0.f0.f2.length af]) (ey 8 rfl (dv rfl (ig ba 16 0) (ey 17 rfl (gu [1] [0,2,3,4] (cu.ok d) fun b c=>?_)))))
   refine bW 18 rfl ax (h:=bW 19 rfl cg (h:=bW 20 rfl cg (h:=bW 21 rfl cz (h:=bW 22 rfl aE (h:=ey 23 rfl (cH 2 [ae a.1.f0,ae a.1.f1,.slice b a.1.f2.length c] (h:=(aH (by kernel_rfl) ?_))))))))
   have h:=aN H;subst h
   exact fD [2,0,3,4,5] ⟨b,c,az,ay,aw,ar,av,au,rfl,rfl⟩
  refine id (dv rfl (ig ba 16 0) (ey 4 rfl (dv rfl (cG ba 0 0 [ae p0.f0.f0,ae p0.f0.f1,.slice ag p0.f0.f2.length af]) (ey 17 rfl (gu [1] [0,2,3,4] (cu.ok d) fun b c=>?_)))))
  refine bW 18 rfl ax (h:=bW 19 rfl cg (h:=bW 20 rfl cg (h:=bW 21 rfl cz (h:=bW 22 rfl aE (h:=ey 23 rfl (cH 2 [ae a.1.f0,ae a.1.f1,.slice b a.1.f2.length c] (h:=(aH (by kernel_rfl) ?_))))))))
  have h:=aN H;subst h
  exact fD [2,0,3,4,5] ⟨b,c,az,ay,aw,ar,av,au,rfl,rfl⟩
 refine aA rfl l (ao ?_)
 refine fk (dG 0 11) [0] (dG 1 4) fun _ _ _ _ _ sH dd pk=>?_
 refine bf 0 rfl sH ax (h:=bf 1 rfl sH cz (h:=bf 2 rfl sH aE (h:=bT 3 rfl sH (aT 0) (h:=bf 4 rfl sH ax (h:=bf 5 rfl sH cz (h:=bf 6 rfl sH aE (h:=bf 7 rfl sH aE (h:=bT 8 rfl sH (aT 0) (h:=T' 9 rfl sH (cY rfl rfl) ?_)))))))))
 refine bf 10 rfl sH (cn rfl rfl) (h:=aW dd sH (aH (by kernel_rfl) (aa ?_)))
 rcases bH H with⟨j,H⟩|⟨j,H⟩
 ·refine aB rfl j (ah (ad ax (h:=ad cz (h:=ad aE (h:=bD (aT 0) (h:=ad (bV rfl rfl) (h:=ad cz (h:=ad aE (h:=o' (cH 0 [ae (i64.wrap (p0.f1 + 1))] (h:=?_)))))))))))
  refine aj ?_
  have h:=aN H;subst h
  exact fD [0,1,2,3,4] ⟨ag,af,az,ay,aw,ar,av,au,rfl,rfl⟩
 refine aA rfl j (ap ?_)
 have h:=aN H;subst h
 exact fD [0,1,2,3,4] ⟨ag,af,az,ay,aw,ar,av,au,rfl,rfl⟩

end Go.Proofs.YtckilbegmbaeeaaGreat.Z3

/- What functions compute, and that they do: 135, 135b0, 38, 62f94x_1_, 96, 96b0. -/
import Derived.Test.YtckilbegmbaeeaaGreatZ314
namespace Go.Proofs.YtckilbegmbaeeaaGreat.Z3
open Go Go.RowKit Go.Proofs.YtckilbegmbaeeaaGreat.SL
open Go.IntKind (i64)
set_option linter.unusedVariables false
set_option maxHeartbeats 20000000
set_option maxRecDepth 100000
set_option linter.unusedSimpArgs false
attribute [local irreducible] IntKind.wrap cC dO eX gp gl lH fU cN gm rd sub bytesOf eG cL
variable {ba bJ af ay ar au k : Nat}
variable {ag az aw av : Option Addr}
def ip.f (k : Nat) (a0 : aG) (p2000 : Int) : Option (aG × Int):=(ei.f k a0).bind (fun a=>if (!a) = true then (some (((aG.mk (bF.mk 0 0 ([] : (List aZ))) 0 0 false (cA.mk 0 0 false false false false false false false false) 0 0 ([] : (List Int)) false false false false false false (dq.mk 0 0 false false (cA.mk 0 0 false false false false false false false false)) false (bF.mk 0 0 ([] : (List aZ))) ([] : (List Int))),2))) else ((lL.f a0).bind (fun b=>(kt.f k b p2000).bind (fun c=>some ((c,0))))))
theorem ip.ok {a0 : aG} {p2000 : Int} {r : aG × Int} (H : ip.f k a0 p2000 = some r) : df Tryz.prog 62 #[.agg (al a0 ag af az ay aw ar av au).toArray,.func (.func 94) #[] #[.pointer (some ⟨bJ,0,none⟩)]] (eK a0 ag af az ay aw ar av au++[aL bJ 3 [ae p2000]]) (fun v B=>∃ aP aO bA bv bq bp bB bw,v = .tuple #[.agg (al r.1 aP aO bA bv bq bp bB bw).toArray,ae r.2]∧B = (aS r.1 aP aO bA bv bq bp bB bw++[aL bJ 3 [ae p2000]])):=by
 refine ai Tryz.func62 rfl rfl ?_
 unfold ip.f at H
 refine aQ (o' (bN (h:=fun b=>o' (cy (h:=fun s=>ad aV (h:=eJ (l' (ck 5) ?_)))))))
 obtain⟨R,u,H⟩:=ac H
 refine o' (da [0,1,2,3] [0,1,2,3,4,5,6] (rM.ok u) ?_)
 refine ad (ca rfl) (h:=bC ?_)
 rcases bH H with⟨a,H⟩|⟨a,H⟩
 ·refine aC rfl a (aQ (bO (.agg (al cx none 0 none 0 none 0 none 0).toArray) dA (h:=o' (bg s 0 6 (al cx none 0 none 0 none 0 none 0) (h:=ad aV (h:=cE ?_))))))
  have h:=aN H;subst h
  exact lT [.cell 4 34,.tmp 5] ((Gh.nilBuf bE 55).trans ((Gh.nilBuf (Kd.int .i64) 3).trans ((Gh.nilBuf bE 55).trans ((Gh.nilBuf (Kd.int .i32) 21).trans (eY [7,8,9,10,4]))))) ⟨none,0,none,0,none,0,none,0,rfl,rfl⟩ ⟨cR 6,cP,trivial⟩
 refine aD rfl a (ap (aa (aQ (l' (ck 5) ?_))))
 obtain⟨y,z,H⟩:=ac H
 refine o' (dN [0,1,2,3] [0,1,2,3,4,5,6] (lL.ok z) fun D E F I J K L M=>?_)
 refine o' (bg b 0 9 (al y D E F I J K L M) (h:=cV (ad ax (h:=s' (.agg #[aK b]) dA ?_))))
 obtain⟨N,O,H⟩:=ac H
 refine o' (rn [9,0,1,2,3,8] [4,5,6,7,10] (je (vs:=[.agg #[aK b]]) (cap:=[aK bJ]) rfl Tryz.func94 zE rfl rfl) (kt.ok (ba:=b) (gV:=bJ) O) ?_)
 rintro _ _⟨c,d,j,l,m,o,p,q,rfl,rfl⟩
 refine cV (bD (ck 0) (h:=o' (bg s 0 10 (al N c d j l m o p q) (h:=ad aV (h:=cF ?_)))))
 have h:=aN H;subst h
 exact dt [.cell 4 34,.tmp 5] [1,2,3,4,5] ⟨c,d,j,l,m,o,p,q,rfl,rfl⟩ ⟨cR 10,cP,trivial⟩


def xx.f (k : Nat) (a0 : aG) (a1 : Int) : Option (aG × Int):=(ip.f k a0 a1).bind (fun a=>some ((a.1,a.2)))
theorem xx.ok {a0 : aG} {a1 : Int} {r : aG × Int} (H : xx.f k a0 a1 = some r) : df Tryz.prog 38 #[.agg (al a0 ag af az ay aw ar av au).toArray,ae a1] (eK a0 ag af az ay aw ar av au) (fun v B=>∃ aP aO bA bv bq bp bB bw,v = .tuple #[.agg (al r.1 aP aO bA bv bq bp bB bw).toArray,ae r.2]∧B = (aS r.1 aP aO bA bv bq bp bB bw)):=by
 refine ai Tryz.func38 rfl rfl ?_
 unfold xx.f at H
 refine aQ (o' (bN (h:=fun y=>o' (bN (h:=fun p=>o' (cy (h:=fun u=>ad aV (h:=cV (bD (ck 4) (h:=s' (.func (.func 94) #[] #[aK p]) (dy (us:=[aK p]) rfl) ?_))))))))))
 obtain⟨q,s,H⟩:=ac H
 refine o' (dN [0,1,2,3,5] [0,1,2,3,4,6] (ip.ok (bJ:=p) s) fun a b c d j l m o=>?_)
 refine ad cg (h:=ad cg (h:=o' (bg u 0 10 (al q.1 a b c d j l m o) (h:=ad aV (h:=cF ?_)))))
 have h:=aN H;subst h
 exact dt [.cell 4 34,.tmp 5] [0,1,2,3] ⟨a,b,c,d,j,l,m,o,rfl,rfl⟩ ⟨cR 10,cP,trivial⟩


def jb.f (p0 : bF) (a1 : Int) : Option ((Int × Int)):=lt (i64.wrap (a1 * p0.f0)) fun a=>if 0 ≤ a∧a ≤ (i64.wrap (a + p0.f0))∧(i64.wrap (a + p0.f0)) ≤ (p0.f2.length : Int)∧(i64.wrap (a + p0.f0)) ≤ (i64.wrap (a + p0.f0))∧(i64.wrap (a + p0.f0)) ≤ (p0.f2.length : Int) then (some (((0 + a : Int),((i64.wrap (a + p0.f0)) - a : Int)))) else none
theorem jb.ok {p0 : bF} {a1 : Int} {r : (Int × Int)} (H : jb.f p0 a1 = some r) : df Tryz.prog 135 #[.pointer (some ⟨ba,0,none⟩),ae a1] [aL ba 26 [ae p0.f0,ae p0.f1,.slice ag p0.f2.length af],Buf bE 55 ag af p0.f2] (fun v B=>∃ (V0_ : Option Addr) (v0_ : Nat) (_ : dZ ag V0_ 15 r.1 r.2 v0_),v = .slice V0_ r.2.toNat v0_∧B = [aL ba 26 [ae p0.f0,ae p0.f1,.slice ag p0.f2.length af],Buf bE 55 ag af p0.f2]):=by
 refine ai Tryz.func135 rfl rfl ?_
 unfold jb.f at H
 refine aQ (ad aV (h:=cV (ad ax (h:=ad ax (h:=ad cz (h:=ad aE (h:=bD (aT 0) (h:=S' (jq rfl rfl) ?_))))))))
 obtain⟨d,z,H⟩:=br H
 refine bO (ae d) (bz (v:=ae d) (congrArg (Value.int .i64) z.symm)) (h:=bC (ao (bj 1 fun D=>?_)))
 refine fk (dG 0 19) [0] [1] fun _ _ _ _ _ sH dd pk=>?_
 refine bf 0 rfl sH ax (h:=bf 1 rfl sH cz (h:=bf 2 rfl sH aE (h:=bT 3 rfl sH (aT 0) (h:=bf 4 rfl sH ax (h:=bf 5 rfl sH ax (h:=bf 6 rfl sH ax (h:=bf 7 rfl sH cz (h:=bf 8 rfl sH aE (h:=r' 9 rfl sH (aT 0) ?_)))))))))
 refine bf 10 rfl sH (bV rfl rfl) (h:=bf 11 rfl sH ax (h:=bf 12 rfl sH ax (h:=bf 13 rfl sH cz (h:=bf 14 rfl sH aE (h:=bT 15 rfl sH (aT 0) (h:=T' 16 rfl sH (bV rfl rfl) ?_))))))
 obtain⟨⟨j,o,p,s,u⟩,H⟩:=aR H
 refine t' (.slice (cL ag d (i64.wrap (d + p0.f0)) 15) ((i64.wrap (d + p0.f0)) - d).toNat ((i64.wrap (d + p0.f0)).toNat - d.toNat)) 17 rfl sH (dh (l:=0) (m:=(p0.f2.length : Int)) (a:=d) (b:=i64.wrap (d + p0.f0)) (q:=i64.wrap (d + p0.f0)) (dZ.whole (A:=ag) (sz:=15) (xs:=p0.f2) (c:=af) (by omega)) Tryz.underlying24 cl rfl rfl rfl rfl (.inr ⟨_,rfl⟩) (.inr ⟨_,rfl⟩) (.inr ⟨⟨_,rfl⟩,⟨_,rfl⟩,s,u⟩) j o p) ?_
 have y : dZ ag (cL ag d (i64.wrap (d + p0.f0)) 15) 15 (0 + d) ((i64.wrap (d + p0.f0)) - d) ((i64.wrap (d + p0.f0)).toNat - d.toNat):=dZ.sub (dZ.whole (A:=ag) (sz:=15) (xs:=p0.f2) (c:=af) (by omega)) j o p (.inr s) (Int.le_trans u ((dZ.whole (A:=ag) (sz:=15) (xs:=p0.f2) (c:=af) (by omega))).cap)
 refine kY (.slice (cL ag d (i64.wrap (d + p0.f0)) 15) ((i64.wrap (d + p0.f0)) - d).toNat ((i64.wrap (d + p0.f0)).toNat - d.toNat)) 18 rfl sH sf (h:=aW dd sH (aH (by kernel_rfl) (aa (fa ?_))))
 have h:=aN H;subst h
 exact er [0,1] ⟨cL ag d (i64.wrap (d + p0.f0)) 15,(i64.wrap (d + p0.f0)).toNat - d.toNat,y,rfl,rfl⟩


def pY.f (p0 : bF) (a1 : Int) : Option ((List aZ)):=lt (i64.wrap (a1 * p0.f0)) fun a=>if 0 ≤ a∧a ≤ (i64.wrap (a + p0.f0))∧(i64.wrap (a + p0.f0)) ≤ (p0.f2.length : Int)∧(i64.wrap (a + p0.f0)) ≤ (i64.wrap (a + p0.f0))∧(i64.wrap (a + p0.f0)) ≤ (p0.f2.length : Int) then lt (sub p0.f2 a (i64.wrap (a + p0.f0))) fun b=>(some (b)) else none
theorem pY.ok {p0 : bF} {a1 : Int} {r : (List aZ)} (H : pY.f p0 a1 = some r) : df Tryz.prog 135 #[.pointer (some ⟨ba,0,none⟩),ae a1] [aL ba 26 [ae p0.f0,ae p0.f1,.slice ag p0.f2.length af],Ro bE ag af p0.f2] (fun v B=>∃ aP aO,v = .slice aP r.length aO∧B = [Ro bE aP aO r,aL ba 26 [ae p0.f0,ae p0.f1,.slice ag p0.f2.length af]]):=by
 refine ai Tryz.func135 rfl rfl ?_
 unfold pY.f at H
 refine aQ (ad aV (h:=cV (ad ax (h:=ad ax (h:=ad cz (h:=ad aE (h:=bD (aT 0) (h:=S' (jq rfl rfl) ?_))))))))
 obtain⟨a,s,H⟩:=br H
 refine bO (ae a) (bz (v:=ae a) (congrArg (Value.int .i64) s.symm)) (h:=bC (ao ?_))
 refine fk (dG 0 19) [0,1] [1] fun _ _ _ _ _ sH dd pk=>?_
 refine bf 0 rfl sH ax (h:=bf 1 rfl sH cz (h:=bf 2 rfl sH aE (h:=bT 3 rfl sH (aT 0) (h:=bf 4 rfl sH ax (h:=bf 5 rfl sH ax (h:=bf 6 rfl sH ax (h:=bf 7 rfl sH cz (h:=bf 8 rfl sH aE (h:=r' 9 rfl sH (aT 0) ?_)))))))))
 refine bf 10 rfl sH (bV rfl rfl) (h:=bf 11 rfl sH ax (h:=bf 12 rfl sH ax (h:=bf 13 rfl sH cz (h:=bf 14 rfl sH aE (h:=bT 15 rfl sH (aT 0) (h:=T' 16 rfl sH (bV rfl rfl) ?_))))))
 obtain⟨⟨c,d,j,o,p⟩,H⟩:=aR H
 obtain⟨q,b,H⟩:=br H
 replace sH:=jI (GP.subN (k:=1) (l:=a) (h:=i64.wrap (a + p0.f0)) (m:=i64.wrap (a + p0.f0)) (sz:=15) b rfl rfl c d j (.inr o)) sH
 refine wZ 2 sH rfl rfl (bT 17 rfl sH (wx (k:=1) (l:=a) (h:=i64.wrap (a + p0.f0)) (m:=i64.wrap (a + p0.f0)) b rfl Tryz.underlying24 cl rfl rfl rfl rfl (.inr ⟨_,rfl⟩) (.inr ⟨_,rfl⟩) (.inr ⟨⟨_,rfl⟩,⟨_,rfl⟩,o,p⟩) c d j) (h:=kY (.slice (cL ag a (i64.wrap (a + p0.f0)) 15) q.length ((i64.wrap (a + p0.f0)).toNat - a.toNat)) 18 rfl sH sf (h:=aW dd sH (aH (by kernel_rfl) (aa (fa ?_))))))
 have h:=aN H;subst h
 exact er [2,0] ⟨cL ag a (i64.wrap (a + p0.f0)) 15,(i64.wrap (a + p0.f0)).toNat - a.toNat,rfl,rfl⟩


def qX.l0 (a0 : bF) (a2 : Int) (gy : bF) : Nat → Int → (List aZ) → Option ((List aZ))
  | 0,_,_=>none
  | k + 1,b,a=>if a.length = gy.f2.length then (if b < (cC a2 a0.f1) then ((jb.f (bF.mk gy.f0 gy.f1 a) b).bind (fun nv=>if (0 ≤ nv.1∧0 ≤ nv.2∧nv.1 + nv.2 ≤ (a.length : Int)) then ((pY.f a0 b).bind (fun d=>lt (bo a nv.1.toNat (d.take nv.2.toNat)) fun n41=>((dW.f k n41 nv.1 nv.2).bind (fun c=>if c.length = n41.length then (qX.l0 a0 a2 gy k (i64.wrap (b + 1)) c) else none)))) else none)) else (some a)) else none
def qX.f (k : Nat) (a0 : bF) (a1 : Int) (a2 : Int) (a3 : cA) : Option (bF × Int):=(fJ.f k a0).bind (fun h=>(if (!h) = true then (some true) else ((qH.f a1 a2).bind (fun b=>some (!b))) : Option Bool).bind (fun j=>(if j = true then (some true) else ((qf.f a3).bind (fun c=>some (!c))) : Option Bool).bind (fun d=>if d = true then (some (((bF.mk 0 0 ([] : (List aZ))),2))) else ((tC.f k a1 a2 a3).bind (fun gy=>(qX.l0 a0 a2 gy k 0 gy.f2 : Option ((List aZ))).bind (fun a=>if a.length = gy.f2.length then (some (((bF.mk gy.f0 gy.f1 a),0))) else none))))))
theorem qX.ok {a0 : bF} {a1 : Int} {a2 : Int} {a3 : cA} {r : bF × Int} (H : qX.f k a0 a1 a2 a3 = some r) : df Tryz.prog 96 #[.agg #[ae a0.f0,ae a0.f1,.slice ag a0.f2.length af],ae a1,ae a2,.agg (bG a3).toArray] [Ro bE ag af a0.f2] (fun v B=>∃ aP aO,v = .tuple #[.agg #[ae r.1.f0,ae r.1.f1,.slice aP r.1.f2.length aO],ae r.2]∧B = [Buf bE 55 aP aO r.1.f2]):=by
 refine ai Tryz.func96 rfl rfl ?_
 unfold qX.f at H
 refine aQ (o' (bN (h:=fun s=>o' (bN (h:=fun J=>o' (cy (h:=fun q=>ad aV (h:=eJ (l' (cG s 0 1 [ae a0.f0,ae a0.f1,.slice ag a0.f2.length af]) ?_)))))))))
 obtain⟨r8,O,H⟩:=ac H
 refine o' (da [0] [0,1,2,3] (zR.ok O) ?_)
 refine ad (ca rfl) (h:=S' ax ?_)
 obtain⟨q9,H,R⟩:=ac H
 refine eg 5 [(1,ae a1),(2,ae a2),(4,aK s),(7,aK J),(8,aK q),(21,.bool q9)] [aL s 26 [ae a0.f0,ae a0.f1,.slice ag a0.f2.length af],Ro bE ag af a0.f2,aL J 28 (bG a3),aL q 26 [ae 0,ae 0,.slice none 0 0]] ?_ fun junk=>?_
 ·rcases bH H with⟨d,H⟩|⟨d,H⟩
  ·refine cI 4 d (ii d ?_)
   have h:=aN H;subst h
   exact dV [1,0,2,3]
  refine bn (aX d) ax (h:=Y' (aX d) ax ?_)
  obtain⟨b5,S,H⟩:=ac H
  refine gE (aX d) (da [] [0,1,2,3] (qH.ok S) ?_)
  refine bn (aX d) (ca rfl) (h:=gL (aX d) ?_)
  have h:=aN H;subst h
  exact dV [1,0,2,3]
 replace H:=R
 refine S' ax ?_
 obtain⟨U,H,y⟩:=ac H
 refine cD 4 (St [(1,ae a1),(2,ae a2),(4,aK s),(7,aK J),(8,aK q),(26,.bool U)] [aL s 26 [ae a0.f0,ae a0.f1,.slice ag a0.f2.length af],Ro bE ag af a0.f2,aL J 28 (bG a3),aL q 26 [ae 0,ae 0,.slice none 0 0]]) ?_ ?_
 ·rcases bH H with⟨j,H⟩|⟨j,H⟩
  ·refine cI 3 j (ii j ?_)
   have h:=aN H;subst h
   exact dV [0,1,2,3]
  refine z' (aX j) (ck 2) ?_
  obtain⟨b7,Y,H⟩:=ac H
  refine gE (aX j) (da [] [0,1,2,3] (qf.ok Y) ?_)
  refine bn (aX j) (ca rfl) (h:=gL (aX j) ?_)
  have h:=aN H;subst h
  exact dV [0,1,2,3]
 rintro e ds As K
 clear H
 have H:=y
 clear y
 refine bC (SA.of_St K fun junk=>?_)
 rcases bH H with⟨z,H⟩|⟨z,H⟩
 ·refine aC rfl z (aQ (bO (.agg #[ae 0,ae 0,.slice none 0 0]) dA (h:=o' (bg q 0 3 [ae 0,ae 0,.slice none 0 0] (h:=ad aV (h:=cE ?_))))))
  have h:=aN H;subst h
  exact lT [.cell 8 26,.tmp 9] ((Gh.nilBuf bE 55).trans (eY [4])) ⟨none,0,rfl,rfl⟩ ⟨cR 3,cP,trivial⟩
 refine aD rfl z (ap (aa (aQ (ad ax (h:=ad ax (h:=l' (ck 2) ?_))))))
 obtain⟨gy,Z,H⟩:=ac H
 refine o' (gu [] [0,1,2,3] (tC.ok Z) fun b c=>?_)
 refine o' (cy (h:=fun o=>o' (bg o 0 5 [ae gy.f0,ae gy.f1,.slice b gy.f2.length c] (h:=eJ (ad ax (h:=ad aE (h:=bD (aT 1) (h:=bO (ae (cC a2 a0.f1)) (jR rfl rfl) (h:=ad ax (h:=bC ?_))))))))))
 obtain⟨u,H,D⟩:=ac H
 refine bI (St [(8,aK q),(10,aK o)] [aL q 26 [ae 0,ae 0,.slice none 0 0],aL o 26 [ae gy.f0,ae gy.f1,.slice b u.length c],Buf bE 55 b c u]) ?_ ?_
 ·refine aU (cw (fun k_ e ds As=>∃ (p : Int) (a : (List aZ)),qX.l0 a0 a2 gy k_ p a = some u∧St [(4,aK s),(8,aK q),(10,aK o),(35,ae (cC a2 a0.f1)),(36,ae p)] [aL s 26 [ae a0.f0,ae a0.f1,.slice ag a0.f2.length af],Ro bE ag af a0.f2,aL q 26 [ae 0,ae 0,.slice none 0 0],aL o 26 [ae gy.f0,ae gy.f1,.slice b a.length c],Buf bE 55 b c a] e ds As) (k:=k) ⟨_,_,H,kW [1,2,4,5,0]⟩ ?_)
  clear H
  rintro vM e ds As ⟨p,a,H,L⟩
  obtain _ | vM:=vM
  ·cases H
  rw [qX.l0] at H
  obtain⟨b0,H⟩:=aR H
  refine SA.of_St L fun junk=>aQ (ad (cn rfl rfl) (h:=bC (ao ?_)))
  rcases bH H with⟨E,H⟩|⟨E,H⟩
  ·refine aB rfl E (ap (aa (ao (aU (aQ (ad ax (h:=ad aV (h:=bC (ao (bj 4 fun b1=>ah (S' ax ?_)))))))))))
   obtain⟨nv,a4,H⟩:=ac H
   obtain⟨⟨hl36a,hl36b,hl36c⟩,H⟩:=aR H
   refine o' (mC [3,4] [0,1,2] (jb.ok (ba:=o) a4) ?_)
   rintro _ _⟨a5,a6,F,rfl,rfl⟩
   refine ad aV (h:=cV (ad ax (h:=S' ax ?_)))
   obtain⟨a7,a8,H⟩:=ac H
   refine o' (gu [2,3] [0,1,3,4] (pY.ok (ba:=s) a8) fun b8 b9=>?_)
   obtain⟨n41,I,H⟩:=br H
   have hl_n41 : n41.length = a.length:=by rw [I]; exact eM (by rw [List.length_take]; omega)
   refine o' (fY (k:=3) (l:=nv.1) (m:=nv.2) (xs:=a) (ys:=a7) n41 I F rfl Tryz.underlying116 cl rfl rfl rfl (by omega) rfl (pO.slice (Src.ro (k:=0) rfl)) ?_)
   try unfold bG
   try rewrite [← hl_n41]
   refine bC (ah (S' ax ?_))
   obtain⟨c5,a9,H⟩:=ac H
   obtain⟨N,H⟩:=aR H
   refine o' (da [3] [0,1,2,4,5] (dW.ok (o0:=nv.1) (n0:=nv.2) (A0:=b) (c0:=c) (V0:=a5) (v0:=a6) (hw0:=F) a9) ?_)
   try unfold bG
   try rewrite [← N]
   refine aj (aF (aa (ah (ad (bV rfl rfl) (h:=ad ax (h:=aj ?_))))))
   exact aa ⟨vM,Nat.lt_succ_self _,_,_,H,ed [2,4,5,3,0]⟩
  refine aA rfl E (ct (bc (bc (cr ?_))))
  have h:=aN H;subst h
  exact bM [2,3,4]
 rintro e ds As M
 clear H
 have H:=D
 clear D
 obtain⟨b3,H⟩:=aR H
 refine aa (SA.of_St M fun junk=>aQ (bD (cG o 0 1 [ae gy.f0,ae gy.f1,.slice b u.length c]) (h:=o' (bg q 0 0 [ae gy.f0,ae gy.f1,.slice b u.length c] (h:=ad aV (h:=cF ?_))))))
 have h:=aN H;subst h
 exact dt [.cell 8 26,.tmp 9] [2] ⟨b,c,rfl,rfl⟩ ⟨cR 0,cP,trivial⟩


def jA.l0 (a0 : bF) (a2 : Int) (r22 : bF) : Nat → Int → (List aZ) → Option ((List aZ))
  | 0,_,_=>none
  | k + 1,b,a=>if a.length = r22.f2.length then (if b < (cC a2 a0.f1) then ((jb.f (bF.mk r22.f0 r22.f1 a) b).bind (fun c=>if (0 ≤ c.1∧0 ≤ c.2∧c.1 + c.2 ≤ (a.length : Int)) then ((jb.f a0 b).bind (fun d=>if (0 ≤ d.1∧0 ≤ d.2∧d.1 + d.2 ≤ (a0.f2.length : Int)) then (lt (bo a c.1.toNat ((sub a0.f2 d.1 (d.1 + d.2)).take c.2.toNat)) fun n43=>((dW.f k n43 c.1 c.2).bind (fun h=>if h.length = n43.length then (jA.l0 a0 a2 r22 k (i64.wrap (b + 1)) h) else none))) else none)) else none)) else (some a)) else none
def jA.f (k : Nat) (a0 : bF) (a1 : Int) (a2 : Int) (a3 : cA) : Option (bF × Int):=(fJ.f k a0).bind (fun l=>(if (!l) = true then (some true) else ((qH.f a1 a2).bind (fun c=>some (!c))) : Option Bool).bind (fun d=>(if d = true then (some true) else ((qf.f a3).bind (fun h=>some (!h))) : Option Bool).bind (fun j=>if j = true then (some (((bF.mk 0 0 ([] : (List aZ))),2))) else ((tC.f k a1 a2 a3).bind (fun a=>(jA.l0 a0 a2 a k 0 a.f2 : Option ((List aZ))).bind (fun b=>if b.length = a.f2.length then (some (((bF.mk a.f0 a.f1 b),0))) else none))))))
theorem jA.ok {a0 : bF} {a1 : Int} {a2 : Int} {a3 : cA} {r : bF × Int} (H : jA.f k a0 a1 a2 a3 = some r) : df Tryz.prog 96 #[.agg #[ae a0.f0,ae a0.f1,.slice ag a0.f2.length af],ae a1,ae a2,.agg (bG a3).toArray] [Buf bE 55 ag af a0.f2] (fun v B=>∃ aP aO,v = .tuple #[.agg #[ae r.1.f0,ae r.1.f1,.slice aP r.1.f2.length aO],ae r.2]∧B = [Buf bE 55 aP aO r.1.f2,Buf bE 55 ag af a0.f2]):=by
 refine ai Tryz.func96 rfl rfl ?_
 unfold jA.f at H
 refine aQ (o' (bN (h:=fun u=>o' (bN (h:=fun N=>o' (cy (h:=fun s=>ad aV (h:=bC (ao (ao (bj 0 fun c6=>ah (l' (cG u 0 1 [ae a0.f0,ae a0.f1,.slice ag a0.f2.length af]) ?_))))))))))))
 obtain⟨r9,a4,H⟩:=ac H
 refine o' (da [0] [1,2,3] (fJ.ok a4) ?_)
 refine ad (ca rfl) (h:=S' ax ?_)
 obtain⟨a5,H,U⟩:=ac H
 refine eg 5 [(1,ae a1),(2,ae a2),(4,aK u),(7,aK N),(8,aK s),(21,.bool a5)] [Buf bE 55 ag af a0.f2,aL u 26 [ae a0.f0,ae a0.f1,.slice ag a0.f2.length af],aL N 28 (bG a3),aL s 26 [ae 0,ae 0,.slice none 0 0]] ?_ fun junk=>?_
 ·rcases bH H with⟨j,H⟩|⟨j,H⟩
  ·refine cI 4 j (ii j ?_)
   have h:=aN H;subst h
   exact dV [0,1,2,3]
  refine bn (aX j) ax (h:=Y' (aX j) ax ?_)
  obtain⟨c7,a6,H⟩:=ac H
  refine gE (aX j) (da [] [0,1,2,3] (qH.ok a6) ?_)
  refine bn (aX j) (ca rfl) (h:=gL (aX j) ?_)
  have h:=aN H;subst h
  exact dV [0,1,2,3]
 replace H:=U
 refine S' ax ?_
 obtain⟨a7,H,D⟩:=ac H
 refine cD 4 (St [(1,ae a1),(2,ae a2),(4,aK u),(7,aK N),(8,aK s),(26,.bool a7)] [Buf bE 55 ag af a0.f2,aL u 26 [ae a0.f0,ae a0.f1,.slice ag a0.f2.length af],aL N 28 (bG a3),aL s 26 [ae 0,ae 0,.slice none 0 0]]) ?_ ?_
 ·rcases bH H with⟨o,H⟩|⟨o,H⟩
  ·refine cI 3 o (ii o ?_)
   have h:=aN H;subst h
   exact dV [0,1,2,3]
  refine z' (aX o) (ck 2) ?_
  obtain⟨c8,a8,H⟩:=ac H
  refine gE (aX o) (da [] [0,1,2,3] (qf.ok a8) ?_)
  refine bn (aX o) (ca rfl) (h:=gL (aX o) ?_)
  have h:=aN H;subst h
  exact dV [0,1,2,3]
 rintro e ds As O
 clear H
 have H:=D
 clear D
 refine bC (SA.of_St O fun junk=>?_)
 rcases bH H with⟨E,H⟩|⟨E,H⟩
 ·refine aC rfl E (aQ (bO (.agg #[ae 0,ae 0,.slice none 0 0]) dA (h:=o' (bg s 0 3 [ae 0,ae 0,.slice none 0 0] (h:=ad aV (h:=cE ?_))))))
  have h:=aN H;subst h
  exact lT [.cell 8 26,.tmp 9] ((Gh.nilBuf bE 55).trans (eY [4,0])) ⟨none,0,rfl,rfl⟩ ⟨cR 3,cP,trivial⟩
 refine aD rfl E (ap (aa (aQ (ad ax (h:=ad ax (h:=l' (ck 2) ?_))))))
 obtain⟨b,a9,H⟩:=ac H
 refine o' (gu [] [0,1,2,3] (tC.ok a9) fun c d=>?_)
 refine o' (cy (h:=fun p=>o' (bg p 0 5 [ae b.f0,ae b.f1,.slice c b.f2.length d] (h:=eJ (ad ax (h:=ad aE (h:=bD (aT 2) (h:=bO (ae (cC a2 a0.f1)) (jR rfl rfl) (h:=ad ax (h:=bC ?_))))))))))
 obtain⟨y,H,F⟩:=ac H
 refine bI (St [(8,aK s),(10,aK p)] [Buf bE 55 ag af a0.f2,aL s 26 [ae 0,ae 0,.slice none 0 0],aL p 26 [ae b.f0,ae b.f1,.slice c y.length d],Buf bE 55 c d y]) ?_ ?_
 ·refine aU (cw (fun k_ e ds As=>∃ (q : Int) (a : (List aZ)),jA.l0 a0 a2 b k_ q a = some y∧St [(4,aK u),(8,aK s),(10,aK p),(35,ae (cC a2 a0.f1)),(36,ae q)] [Buf bE 55 ag af a0.f2,aL u 26 [ae a0.f0,ae a0.f1,.slice ag a0.f2.length af],aL s 26 [ae 0,ae 0,.slice none 0 0],aL p 26 [ae b.f0,ae b.f1,.slice c a.length d],Buf bE 55 c d a] e ds As) (k:=k) ⟨_,_,H,kW [1,2,4,5,0]⟩ ?_)
  clear H
  rintro I e ds As ⟨q,a,H,R⟩
  obtain _ | I:=I
  ·cases H
  rw [jA.l0] at H
  obtain⟨b8,H⟩:=aR H
  refine SA.of_St R fun junk=>aQ (ad (cn rfl rfl) (h:=bC (ao ?_)))
  rcases bH H with⟨J,H⟩|⟨J,H⟩
  ·refine aB rfl J (ap (aa (ao (aU (aQ (ad ax (h:=ad aV (h:=bC (ao (bj 4 fun b9=>ah (S' ax ?_)))))))))))
   obtain⟨z,b0,H⟩:=ac H
   obtain⟨⟨hl37a,hl37b,hl37c⟩,H⟩:=aR H
   refine o' (mC [3,4] [0,1,2] (jb.ok (ba:=p) b0) ?_)
   rintro _ _⟨b1,b3,K,rfl,rfl⟩
   refine ad aV (h:=cV (ad ax (h:=S' ax ?_)))
   obtain⟨L,b5,H⟩:=ac H
   obtain⟨⟨hl42a,hl42b,hl42c⟩,H⟩:=aR H
   refine o' (mC [3,2] [0,1,4] (jb.ok (ba:=u) b5) ?_)
   rintro _ _⟨c9,d0,Y,rfl,rfl⟩
   obtain⟨n43,M,H⟩:=br H
   have hl_n43 : n43.length = a.length:=by rw [M]; exact eM (by rw [List.length_take]; omega)
   refine o' (fY (k:=3) (l:=z.1) (m:=z.2) (xs:=a) (ys:=sub a0.f2 L.1 (L.1 + L.2)) n43 M K rfl Tryz.underlying116 cl rfl rfl rfl (by omega) rfl (pO.win (Src.buf (k:=1) rfl) Y rfl (by omega)) ?_)
   try unfold bG
   try rewrite [← hl_n43]
   refine bC (ah (S' ax ?_))
   obtain⟨d1,b7,H⟩:=ac H
   obtain⟨Z,H⟩:=aR H
   refine o' (da [3] [0,1,2,4] (dW.ok (o0:=z.1) (n0:=z.2) (A0:=c) (c0:=d) (V0:=b1) (v0:=b3) (hw0:=K) b7) ?_)
   try unfold bG
   try rewrite [← Z]
   refine aj (aF (aa (ah (ad (bV rfl rfl) (h:=ad ax (h:=aj ?_))))))
   exact aa ⟨I,Nat.lt_succ_self _,_,_,H,ed [2,1,4,3,0]⟩
  refine aA rfl J (ct (bc (bc (cr ?_))))
  have h:=aN H;subst h
  exact bM [0,2,3,4]
 rintro e ds As S
 clear H
 have H:=F
 clear F
 obtain⟨c5,H⟩:=aR H
 refine aa (SA.of_St S fun junk=>aQ (bD (cG p 0 2 [ae b.f0,ae b.f1,.slice c y.length d]) (h:=o' (bg s 0 1 [ae b.f0,ae b.f1,.slice c y.length d] (h:=ad aV (h:=cF ?_))))))
 have h:=aN H;subst h
 exact dt [.cell 8 26,.tmp 9] [3,0] ⟨c,d,rfl,rfl⟩ ⟨cR 1,cP,trivial⟩

end Go.Proofs.YtckilbegmbaeeaaGreat.Z3

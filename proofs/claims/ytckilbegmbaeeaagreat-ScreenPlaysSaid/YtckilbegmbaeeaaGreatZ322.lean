/- What functions compute, and that they do: 146w0. -/
import Derived.Test.YtckilbegmbaeeaaGreatZ31
namespace Go.Proofs.YtckilbegmbaeeaaGreat.Z3
open Go Go.RowKit Go.Proofs.YtckilbegmbaeeaaGreat.SL
open Go.IntKind (i64)
set_option linter.unusedVariables false
set_option maxHeartbeats 20000000
set_option maxRecDepth 100000
set_option linter.unusedSimpArgs false
attribute [local irreducible] IntKind.wrap cC dO eX gp gl lH fU cN gm rd sub bytesOf eG cL
variable {k : Nat}
def eD.l0 (l0 : (List aZ)) (o0 : Int) (n0 : Int) (n8 : (List aZ)) : Nat → Int → (List aZ) → Option ((List aZ))
  | 0,_,_=>none
  | k + 1,a,b=>if b.length = l0.length then (if a < n0 then ((if 0 ≤ a∧a < (n8.length : Int) then (if ((rd n8 a).f2) = 2 then (if (i64.wrap (a + 1)) ≥ n0 then (some true) else (if 0 ≤ (i64.wrap (a + 1))∧(i64.wrap (a + 1)) < (n8.length : Int) then (if ((rd n8 (i64.wrap (a + 1))).f2) ≠ 0 then (some true) else (if 0 ≤ (i64.wrap (a + 1))∧(i64.wrap (a + 1)) < (n8.length : Int) then (if 0 ≤ a∧a < (n8.length : Int) then (if ((rd n8 (i64.wrap (a + 1))).f3) ≠ ((rd n8 a).f3) then (some true) else (if 0 ≤ a∧a < (n8.length : Int) then (if ((rd n8 a).f2) = 0 then (if a = 0 then (some true) else (if 0 ≤ (i64.wrap (a - 1))∧(i64.wrap (a - 1)) < (n8.length : Int) then (if ((rd n8 (i64.wrap (a - 1))).f2) ≠ 2 then (some true) else (if 0 ≤ (i64.wrap (a - 1))∧(i64.wrap (a - 1)) < (n8.length : Int) then (if 0 ≤ a∧a < (n8.length : Int) then (some (decide (((rd n8 (i64.wrap (a - 1))).f3) ≠ ((rd n8 a).f3)))) else none) else none)) else none)) else (some false)) else none)) else none) else none)) else none)) else (if 0 ≤ a∧a < (n8.length : Int) then (if ((rd n8 a).f2) = 0 then (if a = 0 then (some true) else (if 0 ≤ (i64.wrap (a - 1))∧(i64.wrap (a - 1)) < (n8.length : Int) then (if ((rd n8 (i64.wrap (a - 1))).f2) ≠ 2 then (some true) else (if 0 ≤ (i64.wrap (a - 1))∧(i64.wrap (a - 1)) < (n8.length : Int) then (if 0 ≤ a∧a < (n8.length : Int) then (some (decide (((rd n8 (i64.wrap (a - 1))).f3) ≠ ((rd n8 a).f3)))) else none) else none)) else none)) else (some false)) else none)) else none : Option (Bool)).bind (fun l=>if l = true then (if 0 ≤ a∧a < (n8.length : Int) then ((pN.f ((rd n8 a).f3)).bind (fun c=>if 0 ≤ a∧a < n0 then (lt (b.set (o0 + a).toNat c) fun d=>(lt (i64.wrap (a + 1)) fun h=>eD.l0 l0 o0 n0 n8 k h d)) else none)) else none) else (lt (i64.wrap (a + 1)) fun j=>eD.l0 l0 o0 n0 n8 k j b))) else (some b)) else none
def eD.f (k : Nat) (l0 : (List aZ)) (o0 : Int) (n0 : Int) : Option ((List aZ)):=if 0 ≤ o0∧0 ≤ n0∧o0 + n0 ≤ (l0.length : Int) then (if ([] : (List aZ)).length + (sub l0 o0 (o0 + n0)).length ≤ 2932031007402 then lt (([] : (List aZ)) ++ (sub l0 o0 (o0 + n0))) fun n8=>((eD.l0 l0 o0 n0 n8 k 0 l0 : Option ((List aZ))).bind (fun a=>if a.length = l0.length then (some (a)) else none)) else none) else none
theorem eD.ok {l0 : (List aZ)} {o0 : Int} {n0 : Int} {A0 V0 : Option Addr} {c0 v0 : Nat} (hw0 : dZ A0 V0 15 o0 n0 v0) {r : (List aZ)} (H : eD.f k l0 o0 n0 = some r) : df Tryz.prog 146 #[.slice V0 n0.toNat v0] [Buf bE 55 A0 c0 l0] (fun v B=>v = .tuple #[]∧B = [Buf bE 55 A0 c0 r]):=by
 refine ai Tryz.func146 rfl rfl ?_
 unfold eD.f at H
 obtain⟨⟨d9,e0,e1⟩,H⟩:=aR H
 have hcv_hw0:=hw0.cap
 refine aQ (o' (hU (kd:=bE) (zv:=(.agg (bR lP).toArray)) (sz:=15) (cells:=[]) (xs:=([] : (List aZ))) rfl Tryz.underlying24 jX cl rfl rfl rfl (by kernel_rfl) rfl rfl (dL di (fun _ _=>rfl) (by kernel_rfl)) fun b2=>S' ax ?_))
 obtain⟨g5,H⟩:=aR H
 obtain⟨n8,d5,H⟩:=br H
 refine o' (gZ (k:=1) (A:=some ⟨b2,0,none⟩) (c:=0) (xs:=([] : (List aZ))) (ys:=sub l0 o0 (o0 + n0)) n8 d5 rfl Tryz.underlying24 nl rfl rfl rfl rfl rfl (oe.win Tryz.underlying24 (Src.buf (k:=0) rfl) hw0 rfl (by omega)) (by omega) (by omega) fun I c7=>ad aV (h:=cV (ad aV (h:=bC ?_))))
 obtain⟨t9,H,d4⟩:=ac H
 refine bI (St [] [Buf bE 55 A0 c0 t9]) ?_ ?_
 ·refine aU (cw (fun k_ e ds As=>∃ (a : Int) (J : (List aZ)),eD.l0 l0 o0 n0 n8 k_ a J = some t9∧St [(0,.slice V0 n0.toNat v0),(2,.slice I n8.length c7),(3,ae a)] [Buf bE 55 A0 c0 J,Buf bE 55 I c7 n8] e ds As) (k:=k) ⟨_,_,H,kW [0,1]⟩ ?_)
  clear H
  rintro a0 e ds As ⟨a,J,H,c6⟩
  obtain _ | a0:=a0
  ·cases H
  rw [eD.l0] at H
  obtain⟨d6,H⟩:=aR H
  refine SA.of_St c6 fun junk=>ao (aQ (ad ax (h:=ad ax (h:=bO (ae n0) (jV hw0 Tryz.underlying24 rfl) (h:=ad (cn rfl rfl) (h:=bC ?_))))))
  rcases bH H with⟨b3,H⟩|⟨b3,H⟩
  ·refine aB rfl b3 (ap (aa (ao (aU (ao ?_)))))
   obtain⟨d7,H,b4⟩:=ac H
   refine bI (St [(0,.slice V0 n0.toNat v0),(2,.slice I n8.length c7),(3,ae a),(83,.bool d7)] [Buf bE 55 A0 c0 J,Buf bE 55 I c7 n8]) ?_ ?_
   ·refine fk (dG 0 71) [1] [0] fun _ _ _ _ _ sH dd pk=>?_
    refine bf 0 rfl sH ax (h:=T' 1 rfl sH ax ?_)
    obtain⟨⟨b5,b6⟩,H⟩:=aR H
    refine bT 2 rfl sH (bK (i:=a) Tryz.underlying24 cl rfl rfl (Src.buf (k:=0) rfl) b5 b6) (h:=kY (.pointer (some ((el I (a.toNat * 15)).add 4))) 3 rfl sH (mL (el I (a.toNat * 15)) 0 4) (h:=bT 4 rfl sH (bQ (enc:=di) (i:=a) (j:=a.toNat * 15) (m:=4) (sz:=15) Tryz.underlying5 rfl rfl rfl rfl (Src.buf (k:=0) rfl) b5 b6 (fun _ _ h=>h) rfl) (h:=bf 5 rfl sH (bk rfl rfl) (h:=T' 6 rfl sH ax ?_))))
    rcases bH H with⟨b,H⟩|⟨b,H⟩
    ·refine du 7 rfl (ak b) sH ax (h:=du 8 rfl (ak b) sH (bV rfl rfl) (h:=du 9 rfl (ak b) sH ax (h:=jp (ae n0) 10 rfl (ak b) sH (jV hw0 Tryz.underlying24 rfl) (h:=du 11 rfl (ak b) sH (dI rfl rfl) (h:=ml 12 rfl (ak b) sH ax ?_)))))
     rcases bH H with⟨D,H⟩|⟨D,H⟩
     ·refine cb 13 rfl (ak D) (cb 14 rfl (ak D) (cb 15 rfl (ak D) (cb 16 rfl (ak D) (cb 17 rfl (ak D) (cb 18 rfl (ak D) (cb 19 rfl (ak D) (cU 20 rfl (ak b) sH (VR.ofV (bX rfl (ak D) rfl)) (h:=du 21 rfl (ak b) sH ax (h:=cb 22 rfl rfl ?_)))))))))
      refine cb 23 rfl rfl (cb 24 rfl rfl (cb 25 rfl rfl (cb 26 rfl rfl (cb 27 rfl rfl (cb 28 rfl rfl (cb 29 rfl rfl (cb 30 rfl rfl (cb 31 rfl rfl (cb 32 rfl rfl ?_)))))))))
      refine cb 33 rfl rfl (cU 34 rfl (ak b) sH (VR.ofV (bX rfl (rfl) rfl)) (h:=bT 35 rfl sH (VR.ofV (bX rfl (ak b) rfl)) (h:=bf 36 rfl sH ax (h:=cb 37 rfl rfl (cb 38 rfl rfl (cb 39 rfl rfl (cb 40 rfl rfl (cb 41 rfl rfl (cb 42 rfl rfl ?_)))))))))
      refine cb 43 rfl rfl (cQ 44 rfl (cQ 45 rfl (cQ 46 rfl (cQ 47 rfl (cQ 48 rfl (cQ 49 rfl (cQ 50 rfl (cQ 51 rfl (cQ 52 rfl ?_)))))))))
      refine cQ 53 rfl (cQ 54 rfl (cQ 55 rfl (cQ 56 rfl (cQ 57 rfl (cQ 58 rfl (cQ 59 rfl (cQ 60 rfl (cQ 61 rfl (cQ 62 rfl ?_)))))))))
      refine cQ 63 rfl (cQ 64 rfl (cQ 65 rfl (cQ 66 rfl (cQ 67 rfl (cQ 68 rfl (cb 69 rfl rfl (bT 70 rfl sH (VR.ofV (bX rfl (rfl) rfl)) (h:=aW dd sH (aH (by kernel_rfl) ?_)))))))))
      have h:=aN H;subst h
      exact bM [1,0]
     refine du 13 rfl (am D) sH ax (h:=du 14 rfl (am D) sH ax (h:=ml 15 rfl (am D) sH (bV rfl rfl) ?_))
     obtain⟨⟨b7,b8⟩,H⟩:=aR H
     refine cU 16 rfl (am D) sH (bK (i:=i64.wrap (a + 1)) Tryz.underlying24 cl rfl rfl (Src.buf (k:=0) rfl) b7 b8) (h:=jp (.pointer (some ((el I ((i64.wrap (a + 1)).toNat * 15)).add 4))) 17 rfl (am D) sH (mL (el I ((i64.wrap (a + 1)).toNat * 15)) 0 4) (h:=cU 18 rfl (am D) sH (bQ (enc:=di) (i:=i64.wrap (a + 1)) (j:=(i64.wrap (a + 1)).toNat * 15) (m:=4) (sz:=15) Tryz.underlying5 rfl rfl rfl rfl (Src.buf (k:=0) rfl) b7 b8 (fun _ _ h=>h) rfl) (h:=du 19 rfl (am D) sH (dK rfl rfl) (h:=cU 20 rfl (ak b) sH (VR.ofV (bY rfl (am D) rfl)) (h:=ml 21 rfl (ak b) sH ax ?_)))))
     rcases bH H with⟨d,H⟩|⟨d,H⟩
     ·refine cb 22 rfl (ak d) (cb 23 rfl (ak d) (cb 24 rfl (ak d) (cb 25 rfl (ak d) (cb 26 rfl (ak d) (cb 27 rfl (ak d) (cb 28 rfl (ak d) (cb 29 rfl (ak d) (cb 30 rfl (ak d) (cb 31 rfl (ak d) ?_)))))))))
      refine cb 32 rfl (ak d) (cb 33 rfl (ak d) (cU 34 rfl (ak b) sH (VR.ofV (bX rfl (ak d) rfl)) (h:=bT 35 rfl sH (VR.ofV (bX rfl (ak b) rfl)) (h:=bf 36 rfl sH ax (h:=cb 37 rfl rfl (cb 38 rfl rfl (cb 39 rfl rfl (cb 40 rfl rfl (cb 41 rfl rfl ?_)))))))))
      refine cb 42 rfl rfl (cb 43 rfl rfl (cQ 44 rfl (cQ 45 rfl (cQ 46 rfl (cQ 47 rfl (cQ 48 rfl (cQ 49 rfl (cQ 50 rfl (cQ 51 rfl ?_)))))))))
      refine cQ 52 rfl (cQ 53 rfl (cQ 54 rfl (cQ 55 rfl (cQ 56 rfl (cQ 57 rfl (cQ 58 rfl (cQ 59 rfl (cQ 60 rfl (cQ 61 rfl ?_)))))))))
      refine cQ 62 rfl (cQ 63 rfl (cQ 64 rfl (cQ 65 rfl (cQ 66 rfl (cQ 67 rfl (cQ 68 rfl (cb 69 rfl rfl (bT 70 rfl sH (VR.ofV (bX rfl (rfl) rfl)) (h:=aW dd sH ?_)))))))))
      refine aH (by kernel_rfl) ?_
      have h:=aN H;subst h
      exact bM [1,0]
     refine du 22 rfl (am d) sH ax (h:=du 23 rfl (am d) sH ax (h:=ml 24 rfl (am d) sH (bV rfl rfl) ?_))
     obtain⟨⟨a1,a2⟩,H⟩:=aR H
     refine cU 25 rfl (am d) sH (bK (i:=i64.wrap (a + 1)) Tryz.underlying24 cl rfl rfl (Src.buf (k:=0) rfl) a1 a2) (h:=jp (.pointer (some ((el I ((i64.wrap (a + 1)).toNat * 15)).add 5))) 26 rfl (am d) sH (mL (el I ((i64.wrap (a + 1)).toNat * 15)) 0 5) (h:=cU 27 rfl (am d) sH (cj (enc:=di) (i:=i64.wrap (a + 1)) (j:=(i64.wrap (a + 1)).toNat * 15) (m:=5) (sz:=15) (vs:=(bG ((rd n8 (i64.wrap (a + 1))).f3))) Tryz.underlying28 rfl mZ rfl rfl rfl (Src.buf (k:=0) rfl) a1 a2 (fun _ _ h=>h) rfl) (h:=du 28 rfl (am d) sH ax (h:=ml 29 rfl (am d) sH ax ?_))))
     obtain⟨⟨a3,a4⟩,H⟩:=aR H
     refine cU 30 rfl (am d) sH (bK (i:=a) Tryz.underlying24 cl rfl rfl (Src.buf (k:=0) rfl) a3 a4) (h:=jp (.pointer (some ((el I (a.toNat * 15)).add 5))) 31 rfl (am d) sH (mL (el I (a.toNat * 15)) 0 5) (h:=cU 32 rfl (am d) sH (cj (enc:=di) (i:=a) (j:=a.toNat * 15) (m:=5) (sz:=15) (vs:=(bG ((rd n8 a).f3))) Tryz.underlying28 rfl mZ rfl rfl rfl (Src.buf (k:=0) rfl) a3 a4 (fun _ _ h=>h) rfl) (h:=jp (.bool (decide (((rd n8 (i64.wrap (a + 1))).f3) ≠ ((rd n8 a).f3)))) 33 rfl (am d) sH (mO (xs:=(bG ((rd n8 (i64.wrap (a + 1))).f3))) (ys:=(bG ((rd n8 a).f3))) (r:=(((((rd n8 (i64.wrap (a + 1))).f3).f0) == (((rd n8 a).f3).f0)) && (((((rd n8 (i64.wrap (a + 1))).f3).f1) == (((rd n8 a).f3).f1)) && (((((rd n8 (i64.wrap (a + 1))).f3).f2) == (((rd n8 a).f3).f2)) && (((((rd n8 (i64.wrap (a + 1))).f3).f3) == (((rd n8 a).f3).f3)) && (((((rd n8 (i64.wrap (a + 1))).f3).f4) == (((rd n8 a).f3).f4)) && (((((rd n8 (i64.wrap (a + 1))).f3).f5) == (((rd n8 a).f3).f5)) && (((((rd n8 (i64.wrap (a + 1))).f3).f6) == (((rd n8 a).f3).f6)) && (((((rd n8 (i64.wrap (a + 1))).f3).f7) == (((rd n8 a).f3).f7)) && (((((rd n8 (i64.wrap (a + 1))).f3).f8) == (((rd n8 a).f3).f8)) && (((((rd n8 (i64.wrap (a + 1))).f3).f9) == (((rd n8 a).f3).f9)) && true))))))))))) (p:=((rd n8 (i64.wrap (a + 1))).f3) = ((rd n8 a).f3)) ng rfl rfl (by kernel_rfl) (nh (x:=((rd n8 (i64.wrap (a + 1))).f3)) (y:=((rd n8 a).f3)))) (h:=cU 34 rfl (ak b) sH (VR.ofV (bY rfl (am d) rfl)) (h:=bT 35 rfl sH (VR.ofV (bX rfl (ak b) rfl)) (h:=T' 36 rfl sH ax ?_))))))
     rcases bH H with⟨s,H⟩|⟨s,H⟩
     ·refine cb 37 rfl (ak s) (cb 38 rfl (ak s) (cb 39 rfl (ak s) (cb 40 rfl (ak s) (cb 41 rfl (ak s) (cb 42 rfl (ak s) (cb 43 rfl (ak s) (cQ 44 rfl (cQ 45 rfl (cQ 46 rfl ?_)))))))))
      refine cQ 47 rfl (cQ 48 rfl (cQ 49 rfl (cQ 50 rfl (cQ 51 rfl (cQ 52 rfl (cQ 53 rfl (cQ 54 rfl (cQ 55 rfl (cQ 56 rfl ?_)))))))))
      refine cQ 57 rfl (cQ 58 rfl (cQ 59 rfl (cQ 60 rfl (cQ 61 rfl (cQ 62 rfl (cQ 63 rfl (cQ 64 rfl (cQ 65 rfl (cQ 66 rfl ?_)))))))))
      refine cQ 67 rfl (cQ 68 rfl (cb 69 rfl (ak s) (bT 70 rfl sH (VR.ofV (bX rfl (ak s) rfl)) (h:=aW dd sH (aH (by kernel_rfl) ?_)))))
      have h:=aN H;subst h
      exact bM [1,0]
     refine du 37 rfl (am s) sH ax (h:=ml 38 rfl (am s) sH ax ?_)
     obtain⟨⟨K,L⟩,H⟩:=aR H
     refine cU 39 rfl (am s) sH (bK (i:=a) Tryz.underlying24 cl rfl rfl (Src.buf (k:=0) rfl) K L) (h:=jp (.pointer (some ((el I (a.toNat * 15)).add 4))) 40 rfl (am s) sH (mL (el I (a.toNat * 15)) 0 4) (h:=cU 41 rfl (am s) sH (bQ (enc:=di) (i:=a) (j:=a.toNat * 15) (m:=4) (sz:=15) Tryz.underlying5 rfl rfl rfl rfl (Src.buf (k:=0) rfl) K L (fun _ _ h=>h) rfl) (h:=du 42 rfl (am s) sH (bk rfl rfl) (h:=ml 43 rfl (am s) sH ax ?_))))
     rcases bH H with⟨u,H⟩|⟨u,H⟩
     ·refine du 44 rfl (ak u) sH ax (h:=du 45 rfl (ak u) sH (bk rfl rfl) (h:=ml 46 rfl (ak u) sH ax ?_))
      rcases bH H with⟨E,H⟩|⟨E,H⟩
      ·refine cb 47 rfl (ak E) (cb 48 rfl (ak E) (cb 49 rfl (ak E) (cb 50 rfl (ak E) (cb 51 rfl (ak E) (cb 52 rfl (ak E) (cb 53 rfl (ak E) (cU 54 rfl (ak u) sH (VR.ofV (bX rfl (ak E) rfl)) (h:=du 55 rfl (ak u) sH ax (h:=cb 56 rfl rfl ?_)))))))))
       refine cb 57 rfl rfl (cb 58 rfl rfl (cb 59 rfl rfl (cb 60 rfl rfl (cb 61 rfl rfl (cb 62 rfl rfl (cb 63 rfl rfl (cb 64 rfl rfl (cb 65 rfl rfl (cb 66 rfl rfl ?_)))))))))
       refine cb 67 rfl rfl (cU 68 rfl (ak u) sH (VR.ofV (bX rfl (rfl) rfl)) (h:=cU 69 rfl (am s) sH (VR.ofV (bX rfl (ak u) rfl)) (h:=bT 70 rfl sH (VR.ofV (bY rfl (am s) rfl)) (h:=aW dd sH (aH (by kernel_rfl) ?_)))))
       have h:=aN H;subst h
       exact bM [1,0]
      refine du 47 rfl (am E) sH ax (h:=du 48 rfl (am E) sH ax (h:=ml 49 rfl (am E) sH (cY rfl rfl) ?_))
      obtain⟨⟨M,N⟩,H⟩:=aR H
      refine cU 50 rfl (am E) sH (bK (i:=i64.wrap (a - 1)) Tryz.underlying24 cl rfl rfl (Src.buf (k:=0) rfl) M N) (h:=jp (.pointer (some ((el I ((i64.wrap (a - 1)).toNat * 15)).add 4))) 51 rfl (am E) sH (mL (el I ((i64.wrap (a - 1)).toNat * 15)) 0 4) (h:=cU 52 rfl (am E) sH (bQ (enc:=di) (i:=i64.wrap (a - 1)) (j:=(i64.wrap (a - 1)).toNat * 15) (m:=4) (sz:=15) Tryz.underlying5 rfl rfl rfl rfl (Src.buf (k:=0) rfl) M N (fun _ _ h=>h) rfl) (h:=du 53 rfl (am E) sH (dK rfl rfl) (h:=cU 54 rfl (ak u) sH (VR.ofV (bY rfl (am E) rfl)) (h:=ml 55 rfl (ak u) sH ax ?_)))))
      rcases bH H with⟨o,H⟩|⟨o,H⟩
      ·refine cb 56 rfl (ak o) (cb 57 rfl (ak o) (cb 58 rfl (ak o) (cb 59 rfl (ak o) (cb 60 rfl (ak o) (cb 61 rfl (ak o) (cb 62 rfl (ak o) (cb 63 rfl (ak o) (cb 64 rfl (ak o) (cb 65 rfl (ak o) ?_)))))))))
       refine cb 66 rfl (ak o) (cb 67 rfl (ak o) (cU 68 rfl (ak u) sH (VR.ofV (bX rfl (ak o) rfl)) (h:=cU 69 rfl (am s) sH (VR.ofV (bX rfl (ak u) rfl)) (h:=bT 70 rfl sH (VR.ofV (bY rfl (am s) rfl)) (h:=aW dd sH (aH (by kernel_rfl) ?_))))))
       have h:=aN H;subst h
       exact bM [1,0]
      refine du 56 rfl (am o) sH ax (h:=du 57 rfl (am o) sH ax (h:=ml 58 rfl (am o) sH (cY rfl rfl) ?_))
      obtain⟨⟨O,R⟩,H⟩:=aR H
      refine cU 59 rfl (am o) sH (bK (i:=i64.wrap (a - 1)) Tryz.underlying24 cl rfl rfl (Src.buf (k:=0) rfl) O R) (h:=jp (.pointer (some ((el I ((i64.wrap (a - 1)).toNat * 15)).add 5))) 60 rfl (am o) sH (mL (el I ((i64.wrap (a - 1)).toNat * 15)) 0 5) (h:=cU 61 rfl (am o) sH (cj (enc:=di) (i:=i64.wrap (a - 1)) (j:=(i64.wrap (a - 1)).toNat * 15) (m:=5) (sz:=15) (vs:=(bG ((rd n8 (i64.wrap (a - 1))).f3))) Tryz.underlying28 rfl mZ rfl rfl rfl (Src.buf (k:=0) rfl) O R (fun _ _ h=>h) rfl) (h:=du 62 rfl (am o) sH ax (h:=ml 63 rfl (am o) sH ax ?_))))
      obtain⟨⟨S,U⟩,H⟩:=aR H
      refine cU 64 rfl (am o) sH (bK (i:=a) Tryz.underlying24 cl rfl rfl (Src.buf (k:=0) rfl) S U) (h:=jp (.pointer (some ((el I (a.toNat * 15)).add 5))) 65 rfl (am o) sH (mL (el I (a.toNat * 15)) 0 5) (h:=cU 66 rfl (am o) sH (cj (enc:=di) (i:=a) (j:=a.toNat * 15) (m:=5) (sz:=15) (vs:=(bG ((rd n8 a).f3))) Tryz.underlying28 rfl mZ rfl rfl rfl (Src.buf (k:=0) rfl) S U (fun _ _ h=>h) rfl) (h:=jp (.bool (decide (((rd n8 (i64.wrap (a - 1))).f3) ≠ ((rd n8 a).f3)))) 67 rfl (am o) sH (mO (xs:=(bG ((rd n8 (i64.wrap (a - 1))).f3))) (ys:=(bG ((rd n8 a).f3))) (r:=(((((rd n8 (i64.wrap (a - 1))).f3).f0) == (((rd n8 a).f3).f0)) && (((((rd n8 (i64.wrap (a - 1))).f3).f1) == (((rd n8 a).f3).f1)) && (((((rd n8 (i64.wrap (a - 1))).f3).f2) == (((rd n8 a).f3).f2)) && (((((rd n8 (i64.wrap (a - 1))).f3).f3) == (((rd n8 a).f3).f3)) && (((((rd n8 (i64.wrap (a - 1))).f3).f4) == (((rd n8 a).f3).f4)) && (((((rd n8 (i64.wrap (a - 1))).f3).f5) == (((rd n8 a).f3).f5)) && (((((rd n8 (i64.wrap (a - 1))).f3).f6) == (((rd n8 a).f3).f6)) && (((((rd n8 (i64.wrap (a - 1))).f3).f7) == (((rd n8 a).f3).f7)) && (((((rd n8 (i64.wrap (a - 1))).f3).f8) == (((rd n8 a).f3).f8)) && (((((rd n8 (i64.wrap (a - 1))).f3).f9) == (((rd n8 a).f3).f9)) && true))))))))))) (p:=((rd n8 (i64.wrap (a - 1))).f3) = ((rd n8 a).f3)) ng rfl rfl (by kernel_rfl) (nh (x:=((rd n8 (i64.wrap (a - 1))).f3)) (y:=((rd n8 a).f3)))) (h:=cU 68 rfl (ak u) sH (VR.ofV (bY rfl (am o) rfl)) (h:=cU 69 rfl (am s) sH (VR.ofV (bX rfl (ak u) rfl)) (h:=bT 70 rfl sH (VR.ofV (bY rfl (am s) rfl)) (h:=aW dd sH (aH (by kernel_rfl) ?_))))))))
      have h:=aN H;subst h
      exact bM [1,0]
     refine cb 44 rfl (am u) (cb 45 rfl (am u) (cb 46 rfl (am u) (cQ 47 rfl (cQ 48 rfl (cQ 49 rfl (cQ 50 rfl (cQ 51 rfl (cQ 52 rfl (cQ 53 rfl ?_)))))))))
     refine cb 54 rfl (am u) (cb 55 rfl (am u) (cQ 56 rfl (cQ 57 rfl (cQ 58 rfl (cQ 59 rfl (cQ 60 rfl (cQ 61 rfl (cQ 62 rfl (cQ 63 rfl ?_)))))))))
     refine cQ 64 rfl (cQ 65 rfl (cQ 66 rfl (cQ 67 rfl (cb 68 rfl (am u) (cU 69 rfl (am s) sH (VR.ofV (bY rfl (am u) rfl)) (h:=bT 70 rfl sH (VR.ofV (bY rfl (am s) rfl)) (h:=aW dd sH (aH (by kernel_rfl) ?_))))))))
     have h:=aN H;subst h
     exact bM [1,0]
    refine cb 7 rfl (am b) (cb 8 rfl (am b) (cb 9 rfl (am b) (cb 10 rfl (am b) (cb 11 rfl (am b) (cb 12 rfl (am b) (cQ 13 rfl (cQ 14 rfl (cQ 15 rfl (cQ 16 rfl ?_)))))))))
    refine cQ 17 rfl (cQ 18 rfl (cQ 19 rfl (cb 20 rfl (am b) (cb 21 rfl (am b) (cQ 22 rfl (cQ 23 rfl (cQ 24 rfl (cQ 25 rfl (cQ 26 rfl ?_)))))))))
    refine cQ 27 rfl (cQ 28 rfl (cQ 29 rfl (cQ 30 rfl (cQ 31 rfl (cQ 32 rfl (cQ 33 rfl (cb 34 rfl (am b) (bT 35 rfl sH (VR.ofV (bY rfl (am b) rfl)) (h:=T' 36 rfl sH ax ?_)))))))))
    refine du 37 rfl rfl sH ax (h:=ml 38 rfl rfl sH ax ?_)
    obtain⟨⟨K,L⟩,H⟩:=aR H
    refine cU 39 rfl rfl sH (bK (i:=a) Tryz.underlying24 cl rfl rfl (Src.buf (k:=0) rfl) K L) (h:=jp (.pointer (some ((el I (a.toNat * 15)).add 4))) 40 rfl rfl sH (mL (el I (a.toNat * 15)) 0 4) (h:=cU 41 rfl rfl sH (bQ (enc:=di) (i:=a) (j:=a.toNat * 15) (m:=4) (sz:=15) Tryz.underlying5 rfl rfl rfl rfl (Src.buf (k:=0) rfl) K L (fun _ _ h=>h) rfl) (h:=du 42 rfl rfl sH (bk rfl rfl) (h:=ml 43 rfl rfl sH ax ?_))))
    rcases bH H with⟨z,H⟩|⟨z,H⟩
    ·refine du 44 rfl (ak z) sH ax (h:=du 45 rfl (ak z) sH (bk rfl rfl) (h:=ml 46 rfl (ak z) sH ax ?_))
     rcases bH H with⟨F,H⟩|⟨F,H⟩
     ·refine cb 47 rfl (ak F) (cb 48 rfl (ak F) (cb 49 rfl (ak F) (cb 50 rfl (ak F) (cb 51 rfl (ak F) (cb 52 rfl (ak F) (cb 53 rfl (ak F) (cU 54 rfl (ak z) sH (VR.ofV (bX rfl (ak F) rfl)) (h:=du 55 rfl (ak z) sH ax (h:=cb 56 rfl rfl ?_)))))))))
      refine cb 57 rfl rfl (cb 58 rfl rfl (cb 59 rfl rfl (cb 60 rfl rfl (cb 61 rfl rfl (cb 62 rfl rfl (cb 63 rfl rfl (cb 64 rfl rfl (cb 65 rfl rfl (cb 66 rfl rfl ?_)))))))))
      refine cb 67 rfl rfl (cU 68 rfl (ak z) sH (VR.ofV (bX rfl (rfl) rfl)) (h:=cU 69 rfl rfl sH (VR.ofV (bX rfl (ak z) rfl)) (h:=bT 70 rfl sH (VR.ofV (bY rfl (rfl) rfl)) (h:=aW dd sH (aH (by kernel_rfl) ?_)))))
      have h:=aN H;subst h
      exact bM [1,0]
     refine du 47 rfl (am F) sH ax (h:=du 48 rfl (am F) sH ax (h:=ml 49 rfl (am F) sH (cY rfl rfl) ?_))
     obtain⟨⟨M,N⟩,H⟩:=aR H
     refine cU 50 rfl (am F) sH (bK (i:=i64.wrap (a - 1)) Tryz.underlying24 cl rfl rfl (Src.buf (k:=0) rfl) M N) (h:=jp (.pointer (some ((el I ((i64.wrap (a - 1)).toNat * 15)).add 4))) 51 rfl (am F) sH (mL (el I ((i64.wrap (a - 1)).toNat * 15)) 0 4) (h:=cU 52 rfl (am F) sH (bQ (enc:=di) (i:=i64.wrap (a - 1)) (j:=(i64.wrap (a - 1)).toNat * 15) (m:=4) (sz:=15) Tryz.underlying5 rfl rfl rfl rfl (Src.buf (k:=0) rfl) M N (fun _ _ h=>h) rfl) (h:=du 53 rfl (am F) sH (dK rfl rfl) (h:=cU 54 rfl (ak z) sH (VR.ofV (bY rfl (am F) rfl)) (h:=ml 55 rfl (ak z) sH ax ?_)))))
     rcases bH H with⟨q,H⟩|⟨q,H⟩
     ·refine cb 56 rfl (ak q) (cb 57 rfl (ak q) (cb 58 rfl (ak q) (cb 59 rfl (ak q) (cb 60 rfl (ak q) (cb 61 rfl (ak q) (cb 62 rfl (ak q) (cb 63 rfl (ak q) (cb 64 rfl (ak q) (cb 65 rfl (ak q) ?_)))))))))
      refine cb 66 rfl (ak q) (cb 67 rfl (ak q) (cU 68 rfl (ak z) sH (VR.ofV (bX rfl (ak q) rfl)) (h:=cU 69 rfl rfl sH (VR.ofV (bX rfl (ak z) rfl)) (h:=bT 70 rfl sH (VR.ofV (bY rfl (rfl) rfl)) (h:=aW dd sH (aH (by kernel_rfl) ?_))))))
      have h:=aN H;subst h
      exact bM [1,0]
     refine du 56 rfl (am q) sH ax (h:=du 57 rfl (am q) sH ax (h:=ml 58 rfl (am q) sH (cY rfl rfl) ?_))
     obtain⟨⟨O,R⟩,H⟩:=aR H
     refine cU 59 rfl (am q) sH (bK (i:=i64.wrap (a - 1)) Tryz.underlying24 cl rfl rfl (Src.buf (k:=0) rfl) O R) (h:=jp (.pointer (some ((el I ((i64.wrap (a - 1)).toNat * 15)).add 5))) 60 rfl (am q) sH (mL (el I ((i64.wrap (a - 1)).toNat * 15)) 0 5) (h:=cU 61 rfl (am q) sH (cj (enc:=di) (i:=i64.wrap (a - 1)) (j:=(i64.wrap (a - 1)).toNat * 15) (m:=5) (sz:=15) (vs:=(bG ((rd n8 (i64.wrap (a - 1))).f3))) Tryz.underlying28 rfl mZ rfl rfl rfl (Src.buf (k:=0) rfl) O R (fun _ _ h=>h) rfl) (h:=du 62 rfl (am q) sH ax (h:=ml 63 rfl (am q) sH ax ?_))))
     obtain⟨⟨S,U⟩,H⟩:=aR H
     refine cU 64 rfl (am q) sH (bK (i:=a) Tryz.underlying24 cl rfl rfl (Src.buf (k:=0) rfl) S U) (h:=jp (.pointer (some ((el I (a.toNat * 15)).add 5))) 65 rfl (am q) sH (mL (el I (a.toNat * 15)) 0 5) (h:=cU 66 rfl (am q) sH (cj (enc:=di) (i:=a) (j:=a.toNat * 15) (m:=5) (sz:=15) (vs:=(bG ((rd n8 a).f3))) Tryz.underlying28 rfl mZ rfl rfl rfl (Src.buf (k:=0) rfl) S U (fun _ _ h=>h) rfl) (h:=jp (.bool (decide (((rd n8 (i64.wrap (a - 1))).f3) ≠ ((rd n8 a).f3)))) 67 rfl (am q) sH (mO (xs:=(bG ((rd n8 (i64.wrap (a - 1))).f3))) (ys:=(bG ((rd n8 a).f3))) (r:=(((((rd n8 (i64.wrap (a - 1))).f3).f0) == (((rd n8 a).f3).f0)) && (((((rd n8 (i64.wrap (a - 1))).f3).f1) == (((rd n8 a).f3).f1)) && (((((rd n8 (i64.wrap (a - 1))).f3).f2) == (((rd n8 a).f3).f2)) && (((((rd n8 (i64.wrap (a - 1))).f3).f3) == (((rd n8 a).f3).f3)) && (((((rd n8 (i64.wrap (a - 1))).f3).f4) == (((rd n8 a).f3).f4)) && (((((rd n8 (i64.wrap (a - 1))).f3).f5) == (((rd n8 a).f3).f5)) && (((((rd n8 (i64.wrap (a - 1))).f3).f6) == (((rd n8 a).f3).f6)) && (((((rd n8 (i64.wrap (a - 1))).f3).f7) == (((rd n8 a).f3).f7)) && (((((rd n8 (i64.wrap (a - 1))).f3).f8) == (((rd n8 a).f3).f8)) && (((((rd n8 (i64.wrap (a - 1))).f3).f9) == (((rd n8 a).f3).f9)) && true))))))))))) (p:=((rd n8 (i64.wrap (a - 1))).f3) = ((rd n8 a).f3)) ng rfl rfl (by kernel_rfl) (nh (x:=((rd n8 (i64.wrap (a - 1))).f3)) (y:=((rd n8 a).f3)))) (h:=cU 68 rfl (ak z) sH (VR.ofV (bY rfl (am q) rfl)) (h:=cU 69 rfl rfl sH (VR.ofV (bX rfl (ak z) rfl)) (h:=bT 70 rfl sH (VR.ofV (bY rfl (rfl) rfl)) (h:=aW dd sH (aH (by kernel_rfl) ?_))))))))
     have h:=aN H;subst h
     exact bM [1,0]
    refine cb 44 rfl (am z) (cb 45 rfl (am z) (cb 46 rfl (am z) (cQ 47 rfl (cQ 48 rfl (cQ 49 rfl (cQ 50 rfl (cQ 51 rfl (cQ 52 rfl (cQ 53 rfl ?_)))))))))
    refine cb 54 rfl (am z) (cb 55 rfl (am z) (cQ 56 rfl (cQ 57 rfl (cQ 58 rfl (cQ 59 rfl (cQ 60 rfl (cQ 61 rfl (cQ 62 rfl (cQ 63 rfl ?_)))))))))
    refine cQ 64 rfl (cQ 65 rfl (cQ 66 rfl (cQ 67 rfl (cb 68 rfl (am z) (cU 69 rfl rfl sH (VR.ofV (bY rfl (am z) rfl)) (h:=bT 70 rfl sH (VR.ofV (bY rfl (rfl) rfl)) (h:=aW dd sH (aH (by kernel_rfl) ?_))))))))
    have h:=aN H;subst h
    exact bM [1,0]
   rintro e ds As b0
   clear H
   have H:=b4
   clear b4
   refine aa (SA.of_St b0 fun junk=>?_)
   rcases bH H with⟨Y,H⟩|⟨Y,H⟩
   ·refine aC rfl Y (ah (ad ax (h:=ad ax (h:=ad ax (h:=S' ax ?_)))))
    obtain⟨⟨a5,a6⟩,H⟩:=aR H
    refine bD (bK (i:=a) Tryz.underlying24 cl rfl rfl (Src.buf (k:=1) rfl) a5 a6) (h:=bO (.pointer (some ((el I (a.toNat * 15)).add 5))) (mL (el I (a.toNat * 15)) 0 5) (h:=l' (cj (enc:=di) (i:=a) (j:=a.toNat * 15) (m:=5) (sz:=15) (vs:=(bG ((rd n8 a).f3))) Tryz.underlying28 rfl mZ rfl rfl rfl (Src.buf (k:=1) rfl) a5 a6 (fun _ _ h=>h) rfl) ?_))
    obtain⟨a7,c8,H⟩:=ac H
    refine o' (da [] [0,1] (pN.ok c8) ?_)
    obtain⟨⟨c9,d0⟩,H⟩:=aR H
    have d1 : 0 ≤ o0 + a:=by omega
    have d2 : o0 + a < (J.length : Int):=by omega
    refine l' (eI (l:=o0) (m:=n0) (i:=a) (sz:=15) hw0 Tryz.underlying24 cl rfl rfl (Src.buf (k:=0) rfl) c9 d0 (by omega)) ?_
    obtain⟨d3,Z,H⟩:=br H
    have hl_n4294 : d3.length = J.length:=by rw [Z]; exact List.length_set
    refine o' (iB (k:=0) (i:=o0 + a) (j:=(o0 + a).toNat * 15) (m:=0) (sz:=15) (xs:=J) (vs:=(bR a7)) a7 rfl rfl rfl rfl rfl rfl rfl rfl cl d1 d2 rfl (fun _ _ h_=>by subst h_; rfl) ?_)
    rewrite [← Z]
    try rewrite [← hl_n4294]
    refine aj (aF (aa (ah (ad ax (h:=S' (bV rfl rfl) ?_)))))
    obtain⟨a8,b9,H⟩:=br H
    refine bO (ae a8) (bz (v:=ae a8) (congrArg (Value.int .i64) b9.symm)) (h:=aj ?_)
    exact aa ⟨a0,Nat.lt_succ_self _,_,_,H,ed [0,1]⟩
   refine aD rfl Y (ap (aF (aa (ah (ad ax (h:=S' (bV rfl rfl) ?_))))))
   obtain⟨a9,c5,H⟩:=br H
   refine bO (ae a9) (bz (v:=ae a9) (congrArg (Value.int .i64) c5.symm)) (h:=aj ?_)
   exact aa ⟨a0,Nat.lt_succ_self _,_,_,H,ed [0,1]⟩
  refine aA rfl b3 (ct (bc (bc (cr ?_))))
  have h:=aN H;subst h
  exact bM [0]
 rintro e ds As b1
 clear H
 have H:=d4
 clear d4
 obtain⟨d8,H⟩:=aR H
 have h:=aN H;subst h
 exact oc b1 [Buf bE 55 A0 c0 t9] rfl (eY [0]) ⟨rfl,rfl⟩

end Go.Proofs.YtckilbegmbaeeaaGreat.Z3

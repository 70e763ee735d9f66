/- Walks. -/
import Derived.Test.YtckilbegmbaeeaaGreatZ610
namespace Go.Proofs.YtckilbegmbaeeaaGreat.Z6
open Go Go.RowKit Go.Proofs.YtckilbegmbaeeaaGreat.SL
open Go.IntKind (i64)
set_option linter.unusedVariables false
set_option maxHeartbeats 20000000
set_option maxRecDepth 100000
set_option linter.unusedSimpArgs false
attribute [local irreducible] IntKind.wrap da fk gR kN kD po ky eS kF rd sub bytesOf ib dj
variable {ag az av ax k : Nat}
variable {af ay au aw : Option Addr}
def eJ.l0 (l0 : (List aY)) (o0 : Int) (n0 : Int) (n8 : (List aY)) : Nat → Int → (List aY) → Option ((List aY))
  | 0,_,_=>none
  | k + 1,a,b=>if b.length = l0.length then (if a < n0 then ((if 0 ≤ a∧a < (n8.length : Int) then (if ((rd n8 a).f2) = 2 then (if (i64.wrap (a + 1)) ≥ n0 then (some true) else (if 0 ≤ (i64.wrap (a + 1))∧(i64.wrap (a + 1)) < (n8.length : Int) then (if ((rd n8 (i64.wrap (a + 1))).f2) ≠ 0 then (some true) else (if 0 ≤ (i64.wrap (a + 1))∧(i64.wrap (a + 1)) < (n8.length : Int) then (if 0 ≤ a∧a < (n8.length : Int) then (if ((rd n8 (i64.wrap (a + 1))).f3) ≠ ((rd n8 a).f3) then (some true) else (if 0 ≤ a∧a < (n8.length : Int) then (if ((rd n8 a).f2) = 0 then (if a = 0 then (some true) else (if 0 ≤ (i64.wrap (a - 1))∧(i64.wrap (a - 1)) < (n8.length : Int) then (if ((rd n8 (i64.wrap (a - 1))).f2) ≠ 2 then (some true) else (if 0 ≤ (i64.wrap (a - 1))∧(i64.wrap (a - 1)) < (n8.length : Int) then (if 0 ≤ a∧a < (n8.length : Int) then (some (decide (((rd n8 (i64.wrap (a - 1))).f3) ≠ ((rd n8 a).f3)))) else none) else none)) else none)) else (some false)) else none)) else none) else none)) else none)) else (if 0 ≤ a∧a < (n8.length : Int) then (if ((rd n8 a).f2) = 0 then (if a = 0 then (some true) else (if 0 ≤ (i64.wrap (a - 1))∧(i64.wrap (a - 1)) < (n8.length : Int) then (if ((rd n8 (i64.wrap (a - 1))).f2) ≠ 2 then (some true) else (if 0 ≤ (i64.wrap (a - 1))∧(i64.wrap (a - 1)) < (n8.length : Int) then (if 0 ≤ a∧a < (n8.length : Int) then (some (decide (((rd n8 (i64.wrap (a - 1))).f3) ≠ ((rd n8 a).f3)))) else none) else none)) else none)) else (some false)) else none)) else none : Option (Bool)).bind (fun l=>if l = true then (if 0 ≤ a∧a < (n8.length : Int) then ((pE.f ((rd n8 a).f3)).bind (fun j=>if 0 ≤ a∧a < n0 then (lt (b.set (o0 + a).toNat j) fun c=>(lt (i64.wrap (a + 1)) fun d=>eJ.l0 l0 o0 n0 n8 k d c)) else none)) else none) else (lt (i64.wrap (a + 1)) fun h=>eJ.l0 l0 o0 n0 n8 k h b))) else (some b)) else none
def eJ.f (k : Nat) (l0 : (List aY)) (o0 : Int) (n0 : Int) : Option ((List aY)):=if 0 ≤ o0∧0 ≤ n0∧o0 + n0 ≤ (l0.length : Int) then (if ([] : (List aY)).length + (sub l0 o0 (o0 + n0)).length ≤ 2932031007402 then lt (([] : (List aY)) ++ (sub l0 o0 (o0 + n0))) fun n8=>((eJ.l0 l0 o0 n0 n8 k 0 l0 : Option ((List aY))).bind (fun a=>if a.length = l0.length then (some (a)) else none)) else none) else none
theorem eJ.ok {l0 : (List aY)} {o0 : Int} {n0 : Int} {A0 V0 : Option Addr} {c0 v0 : Nat} (hw0 : eu A0 V0 15 o0 n0 v0) {r : (List aY)} (H : eJ.f k l0 o0 n0 = some r) : dk Tryz.prog 146 #[.slice V0 n0.toNat v0] [Buf bD 55 A0 c0 l0] (fun v B=>v = .tuple #[]∧B = [Buf bD 55 A0 c0 r]):=by
 refine aj Tryz.func146 rfl rfl ?_
 unfold eJ.f at H
 obtain⟨⟨d9,e0,e1⟩,H⟩:=aO H
 have hcv_hw0:=hw0.cap
 refine aR (o' (gE (kd:=bD) (zv:=(.agg (bV lC).toArray)) (sz:=15) (cells:=[]) (xs:=([] : (List aY))) rfl Tryz.underlying24 jD cl rfl rfl rfl (by kernel_rfl) rfl rfl (dO cZ (fun _ _=>rfl) (by kernel_rfl)) fun b2=>S' ar ?_))
 obtain⟨g5,H⟩:=aO H
 obtain⟨n8,d7,H⟩:=bj H
 refine o' (gl (k:=1) (A:=some ⟨b2,0,none⟩) (c:=0) (xs:=([] : (List aY))) (ys:=sub l0 o0 (o0 + n0)) n8 d7 rfl Tryz.underlying24 mC rfl rfl rfl rfl rfl (ng.win Tryz.underlying24 (Src.buf (k:=0) rfl) hw0 rfl (by omega)) (by omega) (by omega) fun I c7=>ad aW (h:=cP (ad aW (h:=bA ?_))))
 obtain⟨t9,H,d4⟩:=ac H
 refine bI (St [] [Buf bD 55 A0 c0 t9]) ?_ ?_
 ·refine aQ (cj (fun k_ e ds As=>∃ (a : Int) (J : (List aY)),eJ.l0 l0 o0 n0 n8 k_ a J = some t9∧St [(0,.slice V0 n0.toNat v0),(2,.slice I n8.length c7),(3,ae a)] [Buf bD 55 A0 c0 J,Buf bD 55 I c7 n8] e ds As) (k:=k) ⟨_,_,H,jV [0,1]⟩ ?_)
  clear H
  rintro a6 e ds As ⟨a,J,H,d2⟩
  obtain _ | a6:=a6
  ·cases H
  rw [eJ.l0] at H
  obtain⟨d5,H⟩:=aO H
  refine SA.of_St d2 fun junk=>ao (aR (ad ar (h:=ad ar (h:=bP (ae n0) (jR hw0 Tryz.underlying24 rfl) (h:=ad (ce rfl rfl) (h:=bA ?_))))))
  rcases bE H with⟨b8,H⟩|⟨b8,H⟩
  ·refine aC rfl b8 (ap (aa (ao (aQ (ao ?_)))))
   obtain⟨d8,H,b3⟩:=ac H
   refine bI (St [(0,.slice V0 n0.toNat v0),(2,.slice I n8.length c7),(3,ae a),(83,.bool d8)] [Buf bD 55 A0 c0 J,Buf bD 55 I c7 n8]) ?_ ?_
   ·refine fj (dt 0 71) [1] [0] fun _ _ _ _ _ sH dd pk=>?_
    refine bc 0 rfl sH ar (h:=T' 1 rfl sH ar ?_)
    obtain⟨⟨b4,b5⟩,H⟩:=aO H
    refine bQ 2 rfl sH (bu (i:=a) Tryz.underlying24 cl rfl rfl (Src.buf (k:=0) rfl) b4 b5) (h:=kV (.pointer (some ((el I (a.toNat * 15)).add 4))) 3 rfl sH (lp (el I (a.toNat * 15)) 0 4) (h:=bQ 4 rfl sH (bJ (enc:=cZ) (i:=a) (j:=a.toNat * 15) (m:=4) (sz:=15) Tryz.underlying5 rfl rfl rfl rfl (Src.buf (k:=0) rfl) b4 b5 (fun _ _ h=>h) rfl) (h:=bc 5 rfl sH (bk rfl rfl) (h:=T' 6 rfl sH ar ?_))))
    rcases bE H with⟨b,H⟩|⟨b,H⟩
    ·refine cY 7 rfl (ai b) sH ar (h:=cY 8 rfl (ai b) sH (bW rfl rfl) (h:=cY 9 rfl (ai b) sH ar (h:=iD (ae n0) 10 rfl (ai b) sH (jR hw0 Tryz.underlying24 rfl) (h:=cY 11 rfl (ai b) sH (dT rfl rfl) (h:=kX 12 rfl (ai b) sH ar ?_)))))
     rcases bE H with⟨D,H⟩|⟨D,H⟩
     ·refine bT 13 rfl (ai D) (bT 14 rfl (ai D) (bT 15 rfl (ai D) (bT 16 rfl (ai D) (bT 17 rfl (ai D) (bT 18 rfl (ai D) (bT 19 rfl (ai D) (cJ 20 rfl (ai b) sH (VR.ofV (bS rfl (ai D) rfl)) (h:=cY 21 rfl (ai b) sH ar (h:=bT 22 rfl rfl ?_)))))))))
      refine bT 23 rfl rfl (bT 24 rfl rfl (bT 25 rfl rfl (bT 26 rfl rfl (bT 27 rfl rfl (bT 28 rfl rfl (bT 29 rfl rfl (bT 30 rfl rfl (bT 31 rfl rfl (bT 32 rfl rfl ?_)))))))))
      refine bT 33 rfl rfl (cJ 34 rfl (ai b) sH (VR.ofV (bS rfl (rfl) rfl)) (h:=bQ 35 rfl sH (VR.ofV (bS rfl (ai b) rfl)) (h:=bc 36 rfl sH ar (h:=bT 37 rfl rfl (bT 38 rfl rfl (bT 39 rfl rfl (bT 40 rfl rfl (bT 41 rfl rfl (bT 42 rfl rfl ?_)))))))))
      refine bT 43 rfl rfl (cG 44 rfl (cG 45 rfl (cG 46 rfl (cG 47 rfl (cG 48 rfl (cG 49 rfl (cG 50 rfl (cG 51 rfl (cG 52 rfl ?_)))))))))
      refine cG 53 rfl (cG 54 rfl (cG 55 rfl (cG 56 rfl (cG 57 rfl (cG 58 rfl (cG 59 rfl (cG 60 rfl (cG 61 rfl (cG 62 rfl ?_)))))))))
      refine cG 63 rfl (cG 64 rfl (cG 65 rfl (cG 66 rfl (cG 67 rfl (cG 68 rfl (bT 69 rfl rfl (bQ 70 rfl sH (VR.ofV (bS rfl (rfl) rfl)) (h:=aV dd sH (aI (by kernel_rfl) ?_)))))))))
      have h:=aN H;subst h
      exact bK [1,0]
     refine cY 13 rfl (am D) sH ar (h:=cY 14 rfl (am D) sH ar (h:=kX 15 rfl (am D) sH (bW rfl rfl) ?_))
     obtain⟨⟨b6,b7⟩,H⟩:=aO H
     refine cJ 16 rfl (am D) sH (bu (i:=i64.wrap (a + 1)) Tryz.underlying24 cl rfl rfl (Src.buf (k:=0) rfl) b6 b7) (h:=iD (.pointer (some ((el I ((i64.wrap (a + 1)).toNat * 15)).add 4))) 17 rfl (am D) sH (lp (el I ((i64.wrap (a + 1)).toNat * 15)) 0 4) (h:=cJ 18 rfl (am D) sH (bJ (enc:=cZ) (i:=i64.wrap (a + 1)) (j:=(i64.wrap (a + 1)).toNat * 15) (m:=4) (sz:=15) Tryz.underlying5 rfl rfl rfl rfl (Src.buf (k:=0) rfl) b6 b7 (fun _ _ h=>h) rfl) (h:=cY 19 rfl (am D) sH (dK rfl rfl) (h:=cJ 20 rfl (ai b) sH (VR.ofV (bR rfl (am D) rfl)) (h:=kX 21 rfl (ai b) sH ar ?_)))))
     rcases bE H with⟨d,H⟩|⟨d,H⟩
     ·refine bT 22 rfl (ai d) (bT 23 rfl (ai d) (bT 24 rfl (ai d) (bT 25 rfl (ai d) (bT 26 rfl (ai d) (bT 27 rfl (ai d) (bT 28 rfl (ai d) (bT 29 rfl (ai d) (bT 30 rfl (ai d) (bT 31 rfl (ai d) ?_)))))))))
      refine bT 32 rfl (ai d) (bT 33 rfl (ai d) (cJ 34 rfl (ai b) sH (VR.ofV (bS rfl (ai d) rfl)) (h:=bQ 35 rfl sH (VR.ofV (bS rfl (ai b) rfl)) (h:=bc 36 rfl sH ar (h:=bT 37 rfl rfl (bT 38 rfl rfl (bT 39 rfl rfl (bT 40 rfl rfl (bT 41 rfl rfl ?_)))))))))
      refine bT 42 rfl rfl (bT 43 rfl rfl (cG 44 rfl (cG 45 rfl (cG 46 rfl (cG 47 rfl (cG 48 rfl (cG 49 rfl (cG 50 rfl (cG 51 rfl ?_)))))))))
      refine cG 52 rfl (cG 53 rfl (cG 54 rfl (cG 55 rfl (cG 56 rfl (cG 57 rfl (cG 58 rfl (cG 59 rfl (cG 60 rfl (cG 61 rfl ?_)))))))))
      refine cG 62 rfl (cG 63 rfl (cG 64 rfl (cG 65 rfl (cG 66 rfl (cG 67 rfl (cG 68 rfl (bT 69 rfl rfl (bQ 70 rfl sH (VR.ofV (bS rfl (rfl) rfl)) (h:=aV dd sH ?_)))))))))
      refine aI (by kernel_rfl) ?_
      have h:=aN H;subst h
      exact bK [1,0]
     refine cY 22 rfl (am d) sH ar (h:=cY 23 rfl (am d) sH ar (h:=kX 24 rfl (am d) sH (bW rfl rfl) ?_))
     obtain⟨⟨a0,a1⟩,H⟩:=aO H
     refine cJ 25 rfl (am d) sH (bu (i:=i64.wrap (a + 1)) Tryz.underlying24 cl rfl rfl (Src.buf (k:=0) rfl) a0 a1) (h:=iD (.pointer (some ((el I ((i64.wrap (a + 1)).toNat * 15)).add 5))) 26 rfl (am d) sH (lp (el I ((i64.wrap (a + 1)).toNat * 15)) 0 5) (h:=cJ 27 rfl (am d) sH (ci (enc:=cZ) (i:=i64.wrap (a + 1)) (j:=(i64.wrap (a + 1)).toNat * 15) (m:=5) (sz:=15) (vs:=(bF ((rd n8 (i64.wrap (a + 1))).f3))) Tryz.underlying28 rfl mf rfl rfl rfl (Src.buf (k:=0) rfl) a0 a1 (fun _ _ h=>h) rfl) (h:=cY 28 rfl (am d) sH ar (h:=kX 29 rfl (am d) sH ar ?_))))
     obtain⟨⟨a2,a3⟩,H⟩:=aO H
     refine cJ 30 rfl (am d) sH (bu (i:=a) Tryz.underlying24 cl rfl rfl (Src.buf (k:=0) rfl) a2 a3) (h:=iD (.pointer (some ((el I (a.toNat * 15)).add 5))) 31 rfl (am d) sH (lp (el I (a.toNat * 15)) 0 5) (h:=cJ 32 rfl (am d) sH (ci (enc:=cZ) (i:=a) (j:=a.toNat * 15) (m:=5) (sz:=15) (vs:=(bF ((rd n8 a).f3))) Tryz.underlying28 rfl mf rfl rfl rfl (Src.buf (k:=0) rfl) a2 a3 (fun _ _ h=>h) rfl) (h:=iD (.bool (decide (((rd n8 (i64.wrap (a + 1))).f3) ≠ ((rd n8 a).f3)))) 33 rfl (am d) sH (lg (xs:=(bF ((rd n8 (i64.wrap (a + 1))).f3))) (ys:=(bF ((rd n8 a).f3))) (r:=(((((rd n8 (i64.wrap (a + 1))).f3).f0) == (((rd n8 a).f3).f0)) && (((((rd n8 (i64.wrap (a + 1))).f3).f1) == (((rd n8 a).f3).f1)) && (((((rd n8 (i64.wrap (a + 1))).f3).f2) == (((rd n8 a).f3).f2)) && (((((rd n8 (i64.wrap (a + 1))).f3).f3) == (((rd n8 a).f3).f3)) && (((((rd n8 (i64.wrap (a + 1))).f3).f4) == (((rd n8 a).f3).f4)) && (((((rd n8 (i64.wrap (a + 1))).f3).f5) == (((rd n8 a).f3).f5)) && (((((rd n8 (i64.wrap (a + 1))).f3).f6) == (((rd n8 a).f3).f6)) && (((((rd n8 (i64.wrap (a + 1))).f3).f7) == (((rd n8 a).f3).f7)) && (((((rd n8 (i64.wrap (a + 1))).f3).f8) == (((rd n8 a).f3).f8)) && (((((rd n8 (i64.wrap (a + 1))).f3).f9) == (((rd n8 a).f3).f9)) && true))))))))))) (p:=((rd n8 (i64.wrap (a + 1))).f3) = ((rd n8 a).f3)) lR rfl rfl (by kernel_rfl) (lS (x:=((rd n8 (i64.wrap (a + 1))).f3)) (y:=((rd n8 a).f3)))) (h:=cJ 34 rfl (ai b) sH (VR.ofV (bR rfl (am d) rfl)) (h:=bQ 35 rfl sH (VR.ofV (bS rfl (ai b) rfl)) (h:=T' 36 rfl sH ar ?_))))))
     rcases bE H with⟨s,H⟩|⟨s,H⟩
     ·refine bT 37 rfl (ai s) (bT 38 rfl (ai s) (bT 39 rfl (ai s) (bT 40 rfl (ai s) (bT 41 rfl (ai s) (bT 42 rfl (ai s) (bT 43 rfl (ai s) (cG 44 rfl (cG 45 rfl (cG 46 rfl ?_)))))))))
      refine cG 47 rfl (cG 48 rfl (cG 49 rfl (cG 50 rfl (cG 51 rfl (cG 52 rfl (cG 53 rfl (cG 54 rfl (cG 55 rfl (cG 56 rfl ?_)))))))))
      refine cG 57 rfl (cG 58 rfl (cG 59 rfl (cG 60 rfl (cG 61 rfl (cG 62 rfl (cG 63 rfl (cG 64 rfl (cG 65 rfl (cG 66 rfl ?_)))))))))
      refine cG 67 rfl (cG 68 rfl (bT 69 rfl (ai s) (bQ 70 rfl sH (VR.ofV (bS rfl (ai s) rfl)) (h:=aV dd sH (aI (by kernel_rfl) ?_)))))
      have h:=aN H;subst h
      exact bK [1,0]
     refine cY 37 rfl (am s) sH ar (h:=kX 38 rfl (am s) sH ar ?_)
     obtain⟨⟨K,L⟩,H⟩:=aO H
     refine cJ 39 rfl (am s) sH (bu (i:=a) Tryz.underlying24 cl rfl rfl (Src.buf (k:=0) rfl) K L) (h:=iD (.pointer (some ((el I (a.toNat * 15)).add 4))) 40 rfl (am s) sH (lp (el I (a.toNat * 15)) 0 4) (h:=cJ 41 rfl (am s) sH (bJ (enc:=cZ) (i:=a) (j:=a.toNat * 15) (m:=4) (sz:=15) Tryz.underlying5 rfl rfl rfl rfl (Src.buf (k:=0) rfl) K L (fun _ _ h=>h) rfl) (h:=cY 42 rfl (am s) sH (bk rfl rfl) (h:=kX 43 rfl (am s) sH ar ?_))))
     rcases bE H with⟨u,H⟩|⟨u,H⟩
     ·refine cY 44 rfl (ai u) sH ar (h:=cY 45 rfl (ai u) sH (bk rfl rfl) (h:=kX 46 rfl (ai u) sH ar ?_))
      rcases bE H with⟨E,H⟩|⟨E,H⟩
      ·refine bT 47 rfl (ai E) (bT 48 rfl (ai E) (bT 49 rfl (ai E) (bT 50 rfl (ai E) (bT 51 rfl (ai E) (bT 52 rfl (ai E) (bT 53 rfl (ai E) (cJ 54 rfl (ai u) sH (VR.ofV (bS rfl (ai E) rfl)) (h:=cY 55 rfl (ai u) sH ar (h:=bT 56 rfl rfl ?_)))))))))
       refine bT 57 rfl rfl (bT 58 rfl rfl (bT 59 rfl rfl (bT 60 rfl rfl (bT 61 rfl rfl (bT 62 rfl rfl (bT 63 rfl rfl (bT 64 rfl rfl (bT 65 rfl rfl (bT 66 rfl rfl ?_)))))))))
       refine bT 67 rfl rfl (cJ 68 rfl (ai u) sH (VR.ofV (bS rfl (rfl) rfl)) (h:=cJ 69 rfl (am s) sH (VR.ofV (bS rfl (ai u) rfl)) (h:=bQ 70 rfl sH (VR.ofV (bR rfl (am s) rfl)) (h:=aV dd sH (aI (by kernel_rfl) ?_)))))
       have h:=aN H;subst h
       exact bK [1,0]
      refine cY 47 rfl (am E) sH ar (h:=cY 48 rfl (am E) sH ar (h:=kX 49 rfl (am E) sH (cT rfl rfl) ?_))
      obtain⟨⟨M,N⟩,H⟩:=aO H
      refine cJ 50 rfl (am E) sH (bu (i:=i64.wrap (a - 1)) Tryz.underlying24 cl rfl rfl (Src.buf (k:=0) rfl) M N) (h:=iD (.pointer (some ((el I ((i64.wrap (a - 1)).toNat * 15)).add 4))) 51 rfl (am E) sH (lp (el I ((i64.wrap (a - 1)).toNat * 15)) 0 4) (h:=cJ 52 rfl (am E) sH (bJ (enc:=cZ) (i:=i64.wrap (a - 1)) (j:=(i64.wrap (a - 1)).toNat * 15) (m:=4) (sz:=15) Tryz.underlying5 rfl rfl rfl rfl (Src.buf (k:=0) rfl) M N (fun _ _ h=>h) rfl) (h:=cY 53 rfl (am E) sH (dK rfl rfl) (h:=cJ 54 rfl (ai u) sH (VR.ofV (bR rfl (am E) rfl)) (h:=kX 55 rfl (ai u) sH ar ?_)))))
      rcases bE H with⟨o,H⟩|⟨o,H⟩
      ·refine bT 56 rfl (ai o) (bT 57 rfl (ai o) (bT 58 rfl (ai o) (bT 59 rfl (ai o) (bT 60 rfl (ai o) (bT 61 rfl (ai o) (bT 62 rfl (ai o) (bT 63 rfl (ai o) (bT 64 rfl (ai o) (bT 65 rfl (ai o) ?_)))))))))
       refine bT 66 rfl (ai o) (bT 67 rfl (ai o) (cJ 68 rfl (ai u) sH (VR.ofV (bS rfl (ai o) rfl)) (h:=cJ 69 rfl (am s) sH (VR.ofV (bS rfl (ai u) rfl)) (h:=bQ 70 rfl sH (VR.ofV (bR rfl (am s) rfl)) (h:=aV dd sH (aI (by kernel_rfl) ?_))))))
       have h:=aN H;subst h
       exact bK [1,0]
      refine cY 56 rfl (am o) sH ar (h:=cY 57 rfl (am o) sH ar (h:=kX 58 rfl (am o) sH (cT rfl rfl) ?_))
      obtain⟨⟨O,R⟩,H⟩:=aO H
      refine cJ 59 rfl (am o) sH (bu (i:=i64.wrap (a - 1)) Tryz.underlying24 cl rfl rfl (Src.buf (k:=0) rfl) O R) (h:=iD (.pointer (some ((el I ((i64.wrap (a - 1)).toNat * 15)).add 5))) 60 rfl (am o) sH (lp (el I ((i64.wrap (a - 1)).toNat * 15)) 0 5) (h:=cJ 61 rfl (am o) sH (ci (enc:=cZ) (i:=i64.wrap (a - 1)) (j:=(i64.wrap (a - 1)).toNat * 15) (m:=5) (sz:=15) (vs:=(bF ((rd n8 (i64.wrap (a - 1))).f3))) Tryz.underlying28 rfl mf rfl rfl rfl (Src.buf (k:=0) rfl) O R (fun _ _ h=>h) rfl) (h:=cY 62 rfl (am o) sH ar (h:=kX 63 rfl (am o) sH ar ?_))))
      obtain⟨⟨S,U⟩,H⟩:=aO H
      refine cJ 64 rfl (am o) sH (bu (i:=a) Tryz.underlying24 cl rfl rfl (Src.buf (k:=0) rfl) S U) (h:=iD (.pointer (some ((el I (a.toNat * 15)).add 5))) 65 rfl (am o) sH (lp (el I (a.toNat * 15)) 0 5) (h:=cJ 66 rfl (am o) sH (ci (enc:=cZ) (i:=a) (j:=a.toNat * 15) (m:=5) (sz:=15) (vs:=(bF ((rd n8 a).f3))) Tryz.underlying28 rfl mf rfl rfl rfl (Src.buf (k:=0) rfl) S U (fun _ _ h=>h) rfl) (h:=iD (.bool (decide (((rd n8 (i64.wrap (a - 1))).f3) ≠ ((rd n8 a).f3)))) 67 rfl (am o) sH (lg (xs:=(bF ((rd n8 (i64.wrap (a - 1))).f3))) (ys:=(bF ((rd n8 a).f3))) (r:=(((((rd n8 (i64.wrap (a - 1))).f3).f0) == (((rd n8 a).f3).f0)) && (((((rd n8 (i64.wrap (a - 1))).f3).f1) == (((rd n8 a).f3).f1)) && (((((rd n8 (i64.wrap (a - 1))).f3).f2) == (((rd n8 a).f3).f2)) && (((((rd n8 (i64.wrap (a - 1))).f3).f3) == (((rd n8 a).f3).f3)) && (((((rd n8 (i64.wrap (a - 1))).f3).f4) == (((rd n8 a).f3).f4)) && (((((rd n8 (i64.wrap (a - 1))).f3).f5) == (((rd n8 a).f3).f5)) && (((((rd n8 (i64.wrap (a - 1))).f3).f6) == (((rd n8 a).f3).f6)) && (((((rd n8 (i64.wrap (a - 1))).f3).f7) == (((rd n8 a).f3).f7)) && (((((rd n8 (i64.wrap (a - 1))).f3).f8) == (((rd n8 a).f3).f8)) && (((((rd n8 (i64.wrap (a - 1))).f3).f9) == (((rd n8 a).f3).f9)) && true))))))))))) (p:=((rd n8 (i64.wrap (a - 1))).f3) = ((rd n8 a).f3)) lR rfl rfl (by kernel_rfl) (lS (x:=((rd n8 (i64.wrap (a - 1))).f3)) (y:=((rd n8 a).f3)))) (h:=cJ 68 rfl (ai u) sH (VR.ofV (bR rfl (am o) rfl)) (h:=cJ 69 rfl (am s) sH (VR.ofV (bS rfl (ai u) rfl)) (h:=bQ 70 rfl sH (VR.ofV (bR rfl (am s) rfl)) (h:=aV dd sH (aI (by kernel_rfl) ?_))))))))
      have h:=aN H;subst h
      exact bK [1,0]
     refine bT 44 rfl (am u) (bT 45 rfl (am u) (bT 46 rfl (am u) (cG 47 rfl (cG 48 rfl (cG 49 rfl (cG 50 rfl (cG 51 rfl (cG 52 rfl (cG 53 rfl ?_)))))))))
     refine bT 54 rfl (am u) (bT 55 rfl (am u) (cG 56 rfl (cG 57 rfl (cG 58 rfl (cG 59 rfl (cG 60 rfl (cG 61 rfl (cG 62 rfl (cG 63 rfl ?_)))))))))
     refine cG 64 rfl (cG 65 rfl (cG 66 rfl (cG 67 rfl (bT 68 rfl (am u) (cJ 69 rfl (am s) sH (VR.ofV (bR rfl (am u) rfl)) (h:=bQ 70 rfl sH (VR.ofV (bR rfl (am s) rfl)) (h:=aV dd sH (aI (by kernel_rfl) ?_))))))))
     have h:=aN H;subst h
     exact bK [1,0]
    refine bT 7 rfl (am b) (bT 8 rfl (am b) (bT 9 rfl (am b) (bT 10 rfl (am b) (bT 11 rfl (am b) (bT 12 rfl (am b) (cG 13 rfl (cG 14 rfl (cG 15 rfl (cG 16 rfl ?_)))))))))
    refine cG 17 rfl (cG 18 rfl (cG 19 rfl (bT 20 rfl (am b) (bT 21 rfl (am b) (cG 22 rfl (cG 23 rfl (cG 24 rfl (cG 25 rfl (cG 26 rfl ?_)))))))))
    refine cG 27 rfl (cG 28 rfl (cG 29 rfl (cG 30 rfl (cG 31 rfl (cG 32 rfl (cG 33 rfl (bT 34 rfl (am b) (bQ 35 rfl sH (VR.ofV (bR rfl (am b) rfl)) (h:=T' 36 rfl sH ar ?_)))))))))
    refine cY 37 rfl rfl sH ar (h:=kX 38 rfl rfl sH ar ?_)
    obtain⟨⟨K,L⟩,H⟩:=aO H
    refine cJ 39 rfl rfl sH (bu (i:=a) Tryz.underlying24 cl rfl rfl (Src.buf (k:=0) rfl) K L) (h:=iD (.pointer (some ((el I (a.toNat * 15)).add 4))) 40 rfl rfl sH (lp (el I (a.toNat * 15)) 0 4) (h:=cJ 41 rfl rfl sH (bJ (enc:=cZ) (i:=a) (j:=a.toNat * 15) (m:=4) (sz:=15) Tryz.underlying5 rfl rfl rfl rfl (Src.buf (k:=0) rfl) K L (fun _ _ h=>h) rfl) (h:=cY 42 rfl rfl sH (bk rfl rfl) (h:=kX 43 rfl rfl sH ar ?_))))
    rcases bE H with⟨z,H⟩|⟨z,H⟩
    ·refine cY 44 rfl (ai z) sH ar (h:=cY 45 rfl (ai z) sH (bk rfl rfl) (h:=kX 46 rfl (ai z) sH ar ?_))
     rcases bE H with⟨F,H⟩|⟨F,H⟩
     ·refine bT 47 rfl (ai F) (bT 48 rfl (ai F) (bT 49 rfl (ai F) (bT 50 rfl (ai F) (bT 51 rfl (ai F) (bT 52 rfl (ai F) (bT 53 rfl (ai F) (cJ 54 rfl (ai z) sH (VR.ofV (bS rfl (ai F) rfl)) (h:=cY 55 rfl (ai z) sH ar (h:=bT 56 rfl rfl ?_)))))))))
      refine bT 57 rfl rfl (bT 58 rfl rfl (bT 59 rfl rfl (bT 60 rfl rfl (bT 61 rfl rfl (bT 62 rfl rfl (bT 63 rfl rfl (bT 64 rfl rfl (bT 65 rfl rfl (bT 66 rfl rfl ?_)))))))))
      refine bT 67 rfl rfl (cJ 68 rfl (ai z) sH (VR.ofV (bS rfl (rfl) rfl)) (h:=cJ 69 rfl rfl sH (VR.ofV (bS rfl (ai z) rfl)) (h:=bQ 70 rfl sH (VR.ofV (bR rfl (rfl) rfl)) (h:=aV dd sH (aI (by kernel_rfl) ?_)))))
      have h:=aN H;subst h
      exact bK [1,0]
     refine cY 47 rfl (am F) sH ar (h:=cY 48 rfl (am F) sH ar (h:=kX 49 rfl (am F) sH (cT rfl rfl) ?_))
     obtain⟨⟨M,N⟩,H⟩:=aO H
     refine cJ 50 rfl (am F) sH (bu (i:=i64.wrap (a - 1)) Tryz.underlying24 cl rfl rfl (Src.buf (k:=0) rfl) M N) (h:=iD (.pointer (some ((el I ((i64.wrap (a - 1)).toNat * 15)).add 4))) 51 rfl (am F) sH (lp (el I ((i64.wrap (a - 1)).toNat * 15)) 0 4) (h:=cJ 52 rfl (am F) sH (bJ (enc:=cZ) (i:=i64.wrap (a - 1)) (j:=(i64.wrap (a - 1)).toNat * 15) (m:=4) (sz:=15) Tryz.underlying5 rfl rfl rfl rfl (Src.buf (k:=0) rfl) M N (fun _ _ h=>h) rfl) (h:=cY 53 rfl (am F) sH (dK rfl rfl) (h:=cJ 54 rfl (ai z) sH (VR.ofV (bR rfl (am F) rfl)) (h:=kX 55 rfl (ai z) sH ar ?_)))))
     rcases bE H with⟨q,H⟩|⟨q,H⟩
     ·refine bT 56 rfl (ai q) (bT 57 rfl (ai q) (bT 58 rfl (ai q) (bT 59 rfl (ai q) (bT 60 rfl (ai q) (bT 61 rfl (ai q) (bT 62 rfl (ai q) (bT 63 rfl (ai q) (bT 64 rfl (ai q) (bT 65 rfl (ai q) ?_)))))))))
      refine bT 66 rfl (ai q) (bT 67 rfl (ai q) (cJ 68 rfl (ai z) sH (VR.ofV (bS rfl (ai q) rfl)) (h:=cJ 69 rfl rfl sH (VR.ofV (bS rfl (ai z) rfl)) (h:=bQ 70 rfl sH (VR.ofV (bR rfl (rfl) rfl)) (h:=aV dd sH (aI (by kernel_rfl) ?_))))))
      have h:=aN H;subst h
      exact bK [1,0]
     refine cY 56 rfl (am q) sH ar (h:=cY 57 rfl (am q) sH ar (h:=kX 58 rfl (am q) sH (cT rfl rfl) ?_))
     obtain⟨⟨O,R⟩,H⟩:=aO H
     refine cJ 59 rfl (am q) sH (bu (i:=i64.wrap (a - 1)) Tryz.underlying24 cl rfl rfl (Src.buf (k:=0) rfl) O R) (h:=iD (.pointer (some ((el I ((i64.wrap (a - 1)).toNat * 15)).add 5))) 60 rfl (am q) sH (lp (el I ((i64.wrap (a - 1)).toNat * 15)) 0 5) (h:=cJ 61 rfl (am q) sH (ci (enc:=cZ) (i:=i64.wrap (a - 1)) (j:=(i64.wrap (a - 1)).toNat * 15) (m:=5) (sz:=15) (vs:=(bF ((rd n8 (i64.wrap (a - 1))).f3))) Tryz.underlying28 rfl mf rfl rfl rfl (Src.buf (k:=0) rfl) O R (fun _ _ h=>h) rfl) (h:=cY 62 rfl (am q) sH ar (h:=kX 63 rfl (am q) sH ar ?_))))
     obtain⟨⟨S,U⟩,H⟩:=aO H
     refine cJ 64 rfl (am q) sH (bu (i:=a) Tryz.underlying24 cl rfl rfl (Src.buf (k:=0) rfl) S U) (h:=iD (.pointer (some ((el I (a.toNat * 15)).add 5))) 65 rfl (am q) sH (lp (el I (a.toNat * 15)) 0 5) (h:=cJ 66 rfl (am q) sH (ci (enc:=cZ) (i:=a) (j:=a.toNat * 15) (m:=5) (sz:=15) (vs:=(bF ((rd n8 a).f3))) Tryz.underlying28 rfl mf rfl rfl rfl (Src.buf (k:=0) rfl) S U (fun _ _ h=>h) rfl) (h:=iD (.bool (decide (((rd n8 (i64.wrap (a - 1))).f3) ≠ ((rd n8 a).f3)))) 67 rfl (am q) sH (lg (xs:=(bF ((rd n8 (i64.wrap (a - 1))).f3))) (ys:=(bF ((rd n8 a).f3))) (r:=(((((rd n8 (i64.wrap (a - 1))).f3).f0) == (((rd n8 a).f3).f0)) && (((((rd n8 (i64.wrap (a - 1))).f3).f1) == (((rd n8 a).f3).f1)) && (((((rd n8 (i64.wrap (a - 1))).f3).f2) == (((rd n8 a).f3).f2)) && (((((rd n8 (i64.wrap (a - 1))).f3).f3) == (((rd n8 a).f3).f3)) && (((((rd n8 (i64.wrap (a - 1))).f3).f4) == (((rd n8 a).f3).f4)) && (((((rd n8 (i64.wrap (a - 1))).f3).f5) == (((rd n8 a).f3).f5)) && (((((rd n8 (i64.wrap (a - 1))).f3).f6) == (((rd n8 a).f3).f6)) && (((((rd n8 (i64.wrap (a - 1))).f3).f7) == (((rd n8 a).f3).f7)) && (((((rd n8 (i64.wrap (a - 1))).f3).f8) == (((rd n8 a).f3).f8)) && (((((rd n8 (i64.wrap (a - 1))).f3).f9) == (((rd n8 a).f3).f9)) && true))))))))))) (p:=((rd n8 (i64.wrap (a - 1))).f3) = ((rd n8 a).f3)) lR rfl rfl (by kernel_rfl) (lS (x:=((rd n8 (i64.wrap (a - 1))).f3)) (y:=((rd n8 a).f3)))) (h:=cJ 68 rfl (ai z) sH (VR.ofV (bR rfl (am q) rfl)) (h:=cJ 69 rfl rfl sH (VR.ofV (bS rfl (ai z) rfl)) (h:=bQ 70 rfl sH (VR.ofV (bR rfl (rfl) rfl)) (h:=aV dd sH (aI (by kernel_rfl) ?_))))))))
     have h:=aN H;subst h
     exact bK [1,0]
    refine bT 44 rfl (am z) (bT 45 rfl (am z) (bT 46 rfl (am z) (cG 47 rfl (cG 48 rfl (cG 49 rfl (cG 50 rfl (cG 51 rfl (cG 52 rfl (cG 53 rfl ?_)))))))))
    refine bT 54 rfl (am z) (bT 55 rfl (am z) (cG 56 rfl (cG 57 rfl (cG 58 rfl (cG 59 rfl (cG 60 rfl (cG 61 rfl (cG 62 rfl (cG 63 rfl ?_)))))))))
    refine cG 64 rfl (cG 65 rfl (cG 66 rfl (cG 67 rfl (bT 68 rfl (am z) (cJ 69 rfl rfl sH (VR.ofV (bR rfl (am z) rfl)) (h:=bQ 70 rfl sH (VR.ofV (bR rfl (rfl) rfl)) (h:=aV dd sH (aI (by kernel_rfl) ?_))))))))
    have h:=aN H;subst h
    exact bK [1,0]
   rintro e ds As b0
   clear H
   have H:=b3
   clear b3
   refine aa (SA.of_St b0 fun junk=>?_)
   rcases bE H with⟨Y,H⟩|⟨Y,H⟩
   ·refine aD rfl Y (ak (ad ar (h:=ad ar (h:=ad ar (h:=S' ar ?_)))))
    obtain⟨⟨a4,a5⟩,H⟩:=aO H
    refine bp (bu (i:=a) Tryz.underlying24 cl rfl rfl (Src.buf (k:=1) rfl) a4 a5) (h:=bP (.pointer (some ((el I (a.toNat * 15)).add 5))) (lp (el I (a.toNat * 15)) 0 5) (h:=l' (ci (enc:=cZ) (i:=a) (j:=a.toNat * 15) (m:=5) (sz:=15) (vs:=(bF ((rd n8 a).f3))) Tryz.underlying28 rfl mf rfl rfl rfl (Src.buf (k:=1) rfl) a4 a5 (fun _ _ h=>h) rfl) ?_))
    obtain⟨a9,c6,H⟩:=ac H
    refine o' (dc [] [0,1] (pE.ok c6) ?_)
    obtain⟨⟨c8,c9⟩,H⟩:=aO H
    have d0 : 0 ≤ o0 + a:=by omega
    have d1 : o0 + a < (J.length : Int):=by omega
    refine l' (eN (l:=o0) (m:=n0) (i:=a) (sz:=15) hw0 Tryz.underlying24 cl rfl rfl (Src.buf (k:=0) rfl) c8 c9 (by omega)) ?_
    obtain⟨d3,Z,H⟩:=bj H
    have hl_n4294 : d3.length = J.length:=by rw [Z]; exact List.length_set
    refine o' (fW (k:=0) (i:=o0 + a) (j:=(o0 + a).toNat * 15) (m:=0) (sz:=15) (xs:=J) (vs:=(bV a9)) a9 rfl rfl rfl rfl rfl rfl rfl rfl cl d0 d1 rfl (fun _ _ h_=>by subst h_; rfl) ?_)
    rewrite [← Z]
    try rewrite [← hl_n4294]
    refine ah (aF (aa (ak (ad ar (h:=S' (bW rfl rfl) ?_)))))
    obtain⟨a7,b9,H⟩:=bj H
    refine bP (ae a7) (bo (v:=ae a7) (congrArg (Value.int .i64) b9.symm)) (h:=ah ?_)
    exact aa ⟨a6,Nat.lt_succ_self _,_,_,H,dZ [0,1]⟩
   refine aE rfl Y (ap (aF (aa (ak (ad ar (h:=S' (bW rfl rfl) ?_))))))
   obtain⟨a8,c5,H⟩:=bj H
   refine bP (ae a8) (bo (v:=ae a8) (congrArg (Value.int .i64) c5.symm)) (h:=ah ?_)
   exact aa ⟨a6,Nat.lt_succ_self _,_,_,H,dZ [0,1]⟩
  refine aB rfl b8 (cf (aX (aX (cg ?_))))
  have h:=aN H;subst h
  exact bK [0]
 rintro e ds As b1
 clear H
 have H:=d4
 clear d4
 obtain⟨d6,H⟩:=aO H
 have h:=aN H;subst h
 exact nz b1 [Buf bD 55 A0 c0 t9] rfl (eZ [0]) ⟨rfl,rfl⟩


def fx.l0 (a0 : bH) (a1 : Int) (a2 : Int) (a3 : Int) (a4 : cM) (r18 : bH) : Nat → Int → (List aY) → Option ((List aY))
  | 0,_,_=>none
  | k + 1,a,b=>if b.length = r18.f2.length then (if a < a0.f0 then ((pE.f a4).bind (fun p=>lt ((decide (a3 ≥ (i64.wrap (0 - a0.f0)))) && (decide (a3 ≤ a0.f0))) fun l=>lt (l && (decide ((i64.wrap (a - a3)) ≥ a2))) fun m=>lt (m && (decide ((i64.wrap (a - a3)) < a0.f0))) fun o=>(if o = true then ((dv.f a0 a1).bind (fun c=>if (0 ≤ c.1∧0 ≤ c.2∧c.1 + c.2 ≤ (a0.f2.length : Int)) then (if 0 ≤ (i64.wrap (a - a3))∧(i64.wrap (a - a3)) < c.2 then (some (aY.mk ((rd a0.f2 (c.1 + (i64.wrap (a - a3)))).f0) ((rd a0.f2 (c.1 + (i64.wrap (a - a3)))).f1) ((rd a0.f2 (c.1 + (i64.wrap (a - a3)))).f2) ((rd a0.f2 (c.1 + (i64.wrap (a - a3)))).f3))) else none) else none)) else (some p) : Option (aY)).bind (fun q=>(dv.f (bH.mk r18.f0 r18.f1 b) a1).bind (fun d=>if (0 ≤ d.1∧0 ≤ d.2∧d.1 + d.2 ≤ (b.length : Int)) then (if 0 ≤ a∧a < d.2 then (lt (b.set (d.1 + a).toNat q) fun h=>(lt (i64.wrap (a + 1)) fun j=>fx.l0 a0 a1 a2 a3 a4 r18 k j h)) else none) else none)))) else (some b)) else none
def fx.f (k : Nat) (a0 : bH) (a1 : Int) (a2 : Int) (a3 : Int) (a4 : cM) : Option (bH × Int):=(ip.f k a0 a4 a1).bind (fun l=>lt (l || (decide (a2 < 0))) fun h=>lt (h || (decide (a2 ≥ a0.f0))) fun j=>if j = true then (some (((bH.mk 0 0 ([] : (List aY))),2))) else ((hH.f a0).bind (fun b=>(fx.l0 a0 a1 a2 a3 a4 b k a2 b.f2 : Option ((List aY))).bind (fun c=>if c.length = b.f2.length then ((dv.f (bH.mk b.f0 b.f1 c) a1).bind (fun a=>if (0 ≤ a.1∧0 ≤ a.2∧a.1 + a.2 ≤ (c.length : Int)) then ((eJ.f k c a.1 a.2).bind (fun d=>if d.length = c.length then (some (((bH.mk b.f0 b.f1 d),0))) else none)) else none)) else none))))
theorem fx.ok {a0 : bH} {a1 : Int} {a2 : Int} {a3 : Int} {a4 : cM} {r : bH × Int} (H : fx.f k a0 a1 a2 a3 a4 = some r) : dk Tryz.prog 102 #[.agg #[ae a0.f0,ae a0.f1,.slice af a0.f2.length ag],ae a1,ae a2,ae a3,.agg (bF a4).toArray] [Buf bD 55 af ag a0.f2] (fun v B=>∃ aS aT,v = .tuple #[.agg #[ae r.1.f0,ae r.1.f1,.slice aS r.1.f2.length aT],ae r.2]∧B = [Buf bD 55 aS aT r.1.f2,Buf bD 55 af ag a0.f2]):=by
 refine aj Tryz.func102 rfl rfl ?_
 unfold fx.f at H
 refine aR (o' (bO (h:=fun u=>o' (bO (h:=fun E=>o' (cw (h:=fun s=>ad aW (h:=bA (ao (ao (bM 0 fun g8=>ak (bp (cz u 0 1 [ae a0.f0,ae a0.f1,.slice af a0.f2.length ag]) (h:=l' (cm 2) ?_)))))))))))))
 refine S' ar ?_
 obtain⟨r9,e0,H⟩:=ac H
 refine o' (dc [0] [1,2,3] (ip.ok e0) ?_)
 refine S' ar ?_
 obtain⟨d2,a6,H⟩:=bj H
 refine dy 3 [(1,ae a1),(2,ae a2),(3,ae a3),(5,aH u),(9,aH E),(10,aH s),(22,.bool d2)] [Buf bD 55 af ag a0.f2,aK u 26 [ae a0.f0,ae a0.f1,.slice af a0.f2.length ag],aK E 28 (bF a4),aK s 26 [ae 0,ae 0,.slice none 0 0]] ?_ fun junk=>?_
 ·by_cases K : r9 = true
  ·refine cu 2 K (cd K (h:=ah ?_))
   have x_:=ji a6 K;exact bK [0,1,2,3]
  refine bf (aM K) ar (h:=bf (aM K) (ce rfl rfl) (h:=ck (aM K) (h:=ah ?_)))
  have x_:=jh a6 ((aM K));exact bK [0,1,2,3]
 refine S' ar ?_
 obtain⟨f8,a7,H⟩:=bj H
 refine cK 5 (St [(1,ae a1),(2,ae a2),(3,ae a3),(5,aH u),(9,aH E),(10,aH s),(28,.bool f8)] [Buf bD 55 af ag a0.f2,aK u 26 [ae a0.f0,ae a0.f1,.slice af a0.f2.length ag],aK E 28 (bF a4),aK s 26 [ae 0,ae 0,.slice none 0 0]]) ?_ ?_
 ·by_cases F : d2 = true
  ·refine cu 4 F (cd F (h:=ah ?_))
   have x_:=ji a7 F;exact bK [0,1,2,3]
  refine bf (aM F) ar (h:=bf (aM F) aA (h:=cE (aM F) (aP 1) (h:=bf (aM F) (dT rfl rfl) (h:=ck (aM F) (h:=ah ?_)))))
  have x_:=jh a7 ((aM F));exact bK [0,1,2,3]
 rintro e ds As c8
 refine bA (SA.of_St c8 fun junk=>?_)
 rcases bE H with⟨Y,H⟩|⟨Y,H⟩
 ·refine aD rfl Y (aR (bP (.agg #[ae 0,ae 0,.slice none 0 0]) dP (h:=o' (bi s 0 3 [ae 0,ae 0,.slice none 0 0] (h:=ad aW (h:=cD ?_))))))
  have h:=aN H;subst h
  exact ma [.cell 10 26,.tmp 11] ((Gh.nilBuf bD 55).trans (eZ [4,0])) ⟨none,0,rfl,rfl⟩ ⟨cV 3,cW,trivial⟩
 refine aE rfl Y (ap (aa (aR (l' (cz u 0 1 [ae a0.f0,ae a0.f1,.slice af a0.f2.length ag]) ?_))))
 obtain⟨c,d9,H⟩:=ac H
 refine o' (gy [0] [1,2,3] (hH.ok d9) fun d o=>?_)
 refine o' (cw (h:=fun p=>o' (bi p 0 5 [ae c.f0,ae c.f1,.slice d c.f2.length o] (h:=eD (ad ar (h:=ad aW (h:=bA ?_)))))))
 obtain⟨O,H,S⟩:=ac H
 refine bI (St [(1,ae a1),(10,aH s),(12,aH p)] [Buf bD 55 af ag a0.f2,aK s 26 [ae 0,ae 0,.slice none 0 0],aK p 26 [ae c.f0,ae c.f1,.slice d O.length o],Buf bD 55 d o O]) ?_ ?_
 ·refine aQ (cj (fun k_ e ds As=>∃ (a : Int) (b : (List aY)),fx.l0 a0 a1 a2 a3 a4 c k_ a b = some O∧St [(1,ae a1),(2,ae a2),(3,ae a3),(5,aH u),(9,aH E),(10,aH s),(12,aH p),(13,ae a)] [Buf bD 55 af ag a0.f2,aK u 26 [ae a0.f0,ae a0.f1,.slice af a0.f2.length ag],aK E 28 (bF a4),aK s 26 [ae 0,ae 0,.slice none 0 0],aK p 26 [ae c.f0,ae c.f1,.slice d b.length o],Buf bD 55 d o b] e ds As) (k:=k) ⟨_,_,H,jV [1,2,3,4,5,0]⟩ ?_)
  clear H
  rintro b3 e ds As ⟨a,b,H,c9⟩
  obtain _ | b3:=b3
  ·cases H
  rw [fx.l0] at H
  obtain⟨g1,H⟩:=aO H
  refine SA.of_St c9 fun junk=>ao (aR (ad ar (h:=ad aA (h:=bp (aP 1) (h:=ad (ce rfl rfl) (h:=bA ?_))))))
  rcases bE H with⟨Z,H⟩|⟨Z,H⟩
  ·refine aC rfl Z (ap (aa (ao (aQ (aR (l' (cm 2) ?_))))))
   obtain⟨N,d6,H⟩:=ac H
   refine o' (dc [] [0,1,2,3,4,5] (pE.ok d6) ?_)
   refine o' (cw (h:=fun z=>o' (bi z 0 6 (bV N) (h:=eD (ad ar (h:=ad aA (h:=bp (aP 1) (h:=bP (ae (i64.wrap (0 - a0.f0))) (mr rfl) (h:=ad (dT rfl rfl) (h:=S' ar ?_))))))))))
   obtain⟨d3,a8,H⟩:=bj H
   refine dy 5 [(1,ae a1),(2,ae a2),(3,ae a3),(5,aH u),(9,aH E),(10,aH s),(12,aH p),(13,ae a),(14,aH z),(51,.bool d3)] [Buf bD 55 af ag a0.f2,aK u 26 [ae a0.f0,ae a0.f1,.slice af a0.f2.length ag],aK E 28 (bF a4),aK s 26 [ae 0,ae 0,.slice none 0 0],aK p 26 [ae c.f0,ae c.f1,.slice d b.length o],Buf bD 55 d o b,aK z 55 (bV N)] ?_ fun junk=>?_
   ·by_cases I : a3 ≥ (i64.wrap (0 - a0.f0))
    ·refine bf (ai I) ar (h:=bf (ai I) aA (h:=cE (ai I) (aP 1) (h:=bf (ai I) (gG rfl rfl) (h:=cd (ai I) (h:=ah ?_)))))
     have x_:=fD a8 ((ai I));exact bK [0,1,2,3,4,5,6]
    refine cu 4 (am I) (ck (am I) (h:=ah ?_))
    have x_:=fC a8 ((am I));exact bK [0,1,2,3,4,5,6]
   refine S' ar ?_
   obtain⟨d4,a9,H⟩:=bj H
   refine dy 6 [(1,ae a1),(2,ae a2),(3,ae a3),(5,aH u),(9,aH E),(10,aH s),(12,aH p),(13,ae a),(14,aH z),(58,.bool d4)] [Buf bD 55 af ag a0.f2,aK u 26 [ae a0.f0,ae a0.f1,.slice af a0.f2.length ag],aK E 28 (bF a4),aK s 26 [ae 0,ae 0,.slice none 0 0],aK p 26 [ae c.f0,ae c.f1,.slice d b.length o],Buf bD 55 d o b,aK z 55 (bV N)] ?_ fun junk=>?_
   ·by_cases D : d3 = true
    ·refine bf D ar (h:=bf D ar (h:=bf D (cT rfl rfl) (h:=bf D ar (h:=bf D (dT rfl rfl) (h:=cd D (h:=ah ?_))))))
     have x_:=fD a9 D;exact bK [0,1,2,3,4,5,6]
    refine cu 5 (aM D) (ck (aM D) (h:=ah ?_))
    have x_:=fC a9 ((aM D));exact bK [0,1,2,3,4,5,6]
   refine S' ar ?_
   obtain⟨f9,b0,H⟩:=bj H
   refine cK 7 (St [(1,ae a1),(2,ae a2),(3,ae a3),(5,aH u),(9,aH E),(10,aH s),(12,aH p),(13,ae a),(14,aH z),(66,.bool f9)] [Buf bD 55 af ag a0.f2,aK u 26 [ae a0.f0,ae a0.f1,.slice af a0.f2.length ag],aK E 28 (bF a4),aK s 26 [ae 0,ae 0,.slice none 0 0],aK p 26 [ae c.f0,ae c.f1,.slice d b.length o],Buf bD 55 d o b,aK z 55 (bV N)]) ?_ ?_
   ·by_cases y : d4 = true
    ·refine bf y ar (h:=bf y ar (h:=bf y (cT rfl rfl) (h:=bf y aA (h:=cE y (aP 1) (h:=bf y (ce rfl rfl) (h:=cd y (h:=ah ?_)))))))
     have x_:=fD b0 y;exact bK [0,1,2,3,4,5,6]
    refine cu 6 (aM y) (ck (aM y) (h:=ah ?_))
    have x_:=fC b0 ((aM y));exact bK [0,1,2,3,4,5,6]
   rintro e ds As d0
   refine bA (SA.of_St d0 fun junk=>?_)
   obtain⟨R,H,U⟩:=ac H
   refine bI (fun e ds As=>∃ (L : Nat),St [(1,ae a1),(2,ae a2),(3,ae a3),(5,aH u),(9,aH E),(10,aH s),(12,aH p),(13,ae a),(14,aH L)] [aK L 55 (bV R),Buf bD 55 af ag a0.f2,aK u 26 [ae a0.f0,ae a0.f1,.slice af a0.f2.length ag],aK E 28 (bF a4),aK s 26 [ae 0,ae 0,.slice none 0 0],aK p 26 [ae c.f0,ae c.f1,.slice d b.length o],Buf bD 55 d o b] e ds As) ?_ ?_
   ·rcases bE H with⟨a5,H⟩|⟨a5,H⟩
    ·refine aD rfl a5 (bM 5 fun g4=>ak (bp (cz u 0 1 [ae a0.f0,ae a0.f1,.slice af a0.f2.length ag]) (h:=S' ar ?_)))
     obtain⟨q,e9,H⟩:=ac H
     obtain⟨⟨hl48a,hl48b,hl48c⟩,H⟩:=aO H
     refine o' (ms [0] [1,2,3,4,5,6] (dv.ok e9) ?_)
     rintro _ _⟨g7,h0,e6,rfl,rfl⟩
     refine ad ar (h:=ad ar (h:=S' (cT rfl rfl) ?_))
     obtain⟨⟨f4,f5⟩,H⟩:=aO H
     have f6 : 0 ≤ q.1 + (i64.wrap (a - a3)):=by omega
     have f7 : q.1 + (i64.wrap (a - a3)) < (a0.f2.length : Int):=by omega
     refine bp (eN (l:=q.1) (m:=q.2) (i:=i64.wrap (a - a3)) (sz:=15) e6 Tryz.underlying24 cl rfl rfl (Src.buf (k:=0) rfl) f4 f5 (by omega)) (h:=bp (ci (enc:=cZ) (i:=q.1 + (i64.wrap (a - a3))) (j:=(q.1 + (i64.wrap (a - a3))).toNat * 15) (m:=0) (sz:=15) (vs:=(bV (aY.mk ((rd a0.f2 (q.1 + (i64.wrap (a - a3)))).f0) ((rd a0.f2 (q.1 + (i64.wrap (a - a3)))).f1) ((rd a0.f2 (q.1 + (i64.wrap (a - a3)))).f2) ((rd a0.f2 (q.1 + (i64.wrap (a - a3)))).f3)))) Tryz.underlying55 rfl cl rfl rfl rfl (Src.buf (k:=0) rfl) f6 f7 (fun _ _ h=>h) rfl) (h:=o' (bi z 0 6 (bV (aY.mk ((rd a0.f2 (q.1 + (i64.wrap (a - a3)))).f0) ((rd a0.f2 (q.1 + (i64.wrap (a - a3)))).f1) ((rd a0.f2 (q.1 + (i64.wrap (a - a3)))).f2) ((rd a0.f2 (q.1 + (i64.wrap (a - a3)))).f3))) (h:=ah ?_))))
     have h:=aN H;subst h
     exact aa ⟨z,dZ [6,0,1,2,3,4,5]⟩
    refine aE rfl a5 (ap ?_)
    have h:=aN H;subst h
    exact aa ⟨z,dZ [6,0,1,2,3,4,5]⟩
   rintro e ds As ⟨L,d1⟩
   clear H
   have H:=U
   clear U
   refine aa (SA.of_St d1 fun junk=>bM 6 fun g5=>?_)
   refine fN [0,1,3,4,5] #[[],[],[0,1],[],[],[0,1,3,4],[0,1,3,4,5]] [aK L 55 (bV R),aK p 26 [ae c.f0,ae c.f1,.slice d b.length o],Buf bD 55 d o b] jw (bU.inb (bU.thn (bU.thn (bU.inb (bU.thn (bU.thn bU.body)))))) fun I0 g9 w0 pk=>?_
   refine gZ 0 [0,5,6] rfl (cz p 0 1 [ae c.f0,ae c.f1,.slice d b.length o]) (h:=eA (ae a1) 1 [0,5,6] rfl fO (h:=eA (ae a) 3 [0,5,6] rfl fO (h:=sI 4 [0,5,6] rfl (cm 0) ?_)))
   obtain⟨J,d5,H⟩:=ac H
   obtain⟨⟨hl180a,hl180b,hl180c⟩,H⟩:=aO H
   refine eX 2 (by kernel_rfl) rfl (.no rfl) (ms [6] [0,1,2,3,4,5] (dv.ok d5) ?_)
   rintro _ _⟨g3,g6,b9,rfl,rfl⟩
   refine ⟨fun _=>⟨[1,6,0],rfl,rfl⟩,?_⟩
   obtain⟨⟨e2,e3⟩,H⟩:=aO H
   have e4 : 0 ≤ J.1 + a:=by omega
   have e5 : J.1 + a < (b.length : Int):=by omega
   refine sI 5 [1,6,0] rfl (eN (l:=J.1) (m:=J.2) (i:=a) (sz:=15) b9 Tryz.underlying24 cl rfl rfl (Src.buf (k:=2) rfl) e2 e3 (by omega)) ?_
   obtain⟨e7,M,H⟩:=bj H
   have hl_n416 : e7.length = b.length:=by rw [M]; exact List.length_set
   refine eX 6 (by kernel_rfl) rfl (.no rfl) (fW (k:=0) (i:=J.1 + a) (j:=(J.1 + a).toNat * 15) (m:=0) (sz:=15) (xs:=b) (vs:=(bV R)) R rfl rfl rfl rfl rfl rfl rfl rfl cl e4 e5 rfl (fun _ _ h_=>by subst h_; rfl) ?_)
   rewrite [← M]
   try unfold bF
   try rewrite [← hl_n416]
   refine ⟨fun h_=>absurd h_ (by decide),?_⟩
   refine aI (by kernel_rfl) (aF (aa (ak (ad ar (h:=S' (bW rfl rfl) ?_)))))
   obtain⟨b5,c7,H⟩:=bj H
   refine bP (ae b5) (bo (v:=ae b5) (congrArg (Value.int .i64) c7.symm)) (h:=ah ?_)
   exact aa ⟨b3,Nat.lt_succ_self _,_,_,H,dZ [2,3,4,5,6,0]⟩
  refine aB rfl Z (cf (aX (aX (cg ?_))))
  have h:=aN H;subst h
  exact bK [0,3,4,5]
 rintro e ds As b1
 clear H
 have H:=S
 clear S
 obtain⟨g2,H⟩:=aO H
 refine aa (SA.of_St b1 fun junk=>ao (bM 3 fun g0=>ak (bp (cz p 0 2 [ae c.f0,ae c.f1,.slice d O.length o]) (h:=S' ar ?_))))
 obtain⟨b7,d8,H⟩:=ac H
 obtain⟨⟨hl486a,hl486b,hl486c⟩,H⟩:=aO H
 refine o' (ms [3] [0,1,2] (dv.ok d8) ?_)
 rintro _ _⟨e1,e8,c5,rfl,rfl⟩
 obtain⟨b8,d7,H⟩:=ac H
 obtain⟨c6,H⟩:=aO H
 refine o' (dc [0] [1,2,3] (eJ.ok (o0:=b7.1) (n0:=b7.2) (A0:=d) (c0:=o) (V0:=e1) (v0:=e8) (hw0:=c5) d7) ?_)
 try unfold bF
 try rewrite [← c6]
 refine cP (bp (cz p 0 3 [ae c.f0,ae c.f1,.slice d b8.length o]) (h:=o' (bi s 0 2 [ae c.f0,ae c.f1,.slice d b8.length o] (h:=ad aW (h:=cC ?_)))))
 have h:=aN H;subst h
 exact du [.cell 10 26,.tmp 11] [0,1] ⟨d,o,rfl,rfl⟩ ⟨cV 2,cW,trivial⟩


def pI.f (k : Nat) (a0 : Int) (a1 : cM) : Option ((List aY)):=(qQ.f k a0).bind (fun a=>if a = 1 then (some (([(aY.mk a0 (fX.mk 0 0 0) 1 a1)] : (List aY)))) else (if a = 2 then (some (([(aY.mk a0 (fX.mk 0 0 0) 2 a1),(aY.mk 0 (fX.mk 0 0 0) 0 a1)] : (List aY)))) else (some (([] : (List aY))))))
theorem pI.ok {a0 : Int} {a1 : cM} {r : (List aY)} (H : pI.f k a0 a1 = some r) : dk Tryz.prog 104 #[aL a0,.agg (bF a1).toArray] [] (fun v B=>∃ aS aT,v = .slice aS r.length aT∧B = [Buf bD 55 aS aT r]):=by
 refine aj Tryz.func104 rfl rfl ?_
 unfold pI.f at H
 refine aR (o' (bO (h:=fun l=>ad aW (h:=eD (S' ar ?_)))))
 obtain⟨m,c,H⟩:=ac H
 refine o' (dc [] [0] (qQ.ok c) ?_)
 refine bA (aQ (aR (ad (bk rfl rfl) (h:=ad aW (h:=bA ?_)))))
 rcases bE H with⟨a,H⟩|⟨a,H⟩
 ·refine aC rfl a (aR (ad ar (h:=bp (cm 0) (h:=bP (.agg (bV (aY.mk a0 (fX.mk 0 0 0) 1 a1)).toArray) dP (h:=o' (gE (kd:=bD) (zv:=(.agg (bV lC).toArray)) (sz:=15) (cells:=(bV (aY.mk a0 (fX.mk 0 0 0) 1 a1))) (xs:=([(aY.mk a0 (fX.mk 0 0 0) 1 a1)] : (List aY))) rfl Tryz.underlying24 jD cl rfl rfl rfl (by kernel_rfl) rfl rfl (dO cZ (fun _ _=>rfl) (by kernel_rfl)) fun d=>ad aW (h:=cC (ba (aG ?_)))))))))
  have h:=aN H;subst h
  exact dX [1] ⟨some ⟨d,0,none⟩,1,rfl,rfl⟩
 refine aB rfl a (aR (ad (bk rfl rfl) (h:=ad aW (h:=bA ?_))))
 rcases bE H with⟨b,H⟩|⟨b,H⟩
 ·refine aC rfl b (aR (ad ar (h:=bp (cm 0) (h:=bP (.agg (bV (aY.mk a0 (fX.mk 0 0 0) 2 a1)).toArray) dP (h:=bp (cm 0) (h:=bP (.agg (bV (aY.mk 0 (fX.mk 0 0 0) 0 a1)).toArray) dP (h:=o' (gE (kd:=bD) (zv:=(.agg (bV lC).toArray)) (sz:=15) (cells:=(aL a0::aL 0::aL 0::aL 0::.int .u8 2::ae a1.f0::ae a1.f1::.bool a1.f2::.bool a1.f3::.bool a1.f4::.bool a1.f5::.bool a1.f6::.bool a1.f7::.bool a1.f8::.bool a1.f9::aL 0::aL 0::aL 0::aL 0::.int .u8 0::ae a1.f0::ae a1.f1::.bool a1.f2::.bool a1.f3::.bool a1.f4::.bool a1.f5::.bool a1.f6::.bool a1.f7::.bool a1.f8::.bool a1.f9::[])) (xs:=([(aY.mk a0 (fX.mk 0 0 0) 2 a1),(aY.mk 0 (fX.mk 0 0 0) 0 a1)] : (List aY))) rfl Tryz.underlying24 jD cl rfl rfl rfl (by kernel_rfl) rfl rfl (dO cZ (fun _ _=>rfl) (by kernel_rfl)) fun j=>ad aW (h:=cC (ba (aG ?_)))))))))))
  have h:=aN H;subst h
  exact dX [1] ⟨some ⟨j,0,none⟩,2,rfl,rfl⟩
 refine aB rfl b (ap (aF (aa (aR (ad aW (h:=cC ?_))))))
 have h:=aN H;subst h
 exact mi [Buf bD 55 none 0 ([] : (List aY))] rfl rfl ((Gh.nilBuf bD 55).trans (eZ [1])) ⟨none,0,rfl,rfl⟩


def eQ.l0 (l4 : (List aY)) : Nat → bH → Int → Option (Out (bH × Int) (bH))
  | 0,_,_=>none
  | k + 1,b,a=>if a < (l4.length : Int) then (if 0 ≤ a∧a < (l4.length : Int) then ((kA.f k (rd l4 a)).bind (fun c=>if (!c) = true then (some (Out.ret (((bH.mk 0 0 ([] : (List aY))),2)))) else (lt (i64.wrap (a + 1)) fun n39=>eQ.l0 l4 k b n39))) else none) else (some (Out.go b))
def eQ.f (k : Nat) (a0 : bH) (a1 : Int) (a2 : Int) (a3 : cM) (l4 : (List aY)) : Option (bH × Int):=(ip.f k a0 a3 a1).bind (fun l=>lt (l || (decide (a2 < 0))) fun h=>lt (h || (decide (a2 ≥ a0.f0))) fun j=>if j = true then (some (((bH.mk 0 0 ([] : (List aY))),2))) else ((eQ.l0 l4 k (bH.mk 0 0 ([] : (List aY))) 0 : Option (Out (bH × Int) (bH))).bind (fun m=>Out.el m (fun r_=>some r_) (fun o=>(hH.f a0).bind (fun b=>(dv.f b a1).bind (fun a=>if (0 ≤ a.1∧0 ≤ a.2∧a.1 + a.2 ≤ (b.f2.length : Int)) then (if 0 ≤ a2∧a2 ≤ a.2∧a.2 ≤ a.2 then (lt (bB b.f2 (a.1 + a2).toNat (l4.take (a.2 - a2).toNat)) fun n61=>((dv.f (bH.mk b.f0 b.f1 n61) a1).bind (fun c=>if (0 ≤ c.1∧0 ≤ c.2∧c.1 + c.2 ≤ (n61.length : Int)) then ((eJ.f k n61 c.1 c.2).bind (fun d=>if d.length = n61.length then (some (((bH.mk b.f0 b.f1 d),0))) else none)) else none))) else none) else none))))))
theorem eQ.ok {a0 : bH} {a1 : Int} {a2 : Int} {a3 : cM} {l4 : (List aY)} {A4 : Option Addr} {c4 : Nat} {r : bH × Int} (H : eQ.f k a0 a1 a2 a3 l4 = some r) : dk Tryz.prog 103 #[.agg #[ae a0.f0,ae a0.f1,.slice af a0.f2.length ag],ae a1,ae a2,.agg (bF a3).toArray,.slice A4 l4.length c4] [Buf bD 55 af ag a0.f2,Buf bD 55 A4 c4 l4] (fun v B=>∃ aS aT,v = .tuple #[.agg #[ae r.1.f0,ae r.1.f1,.slice aS r.1.f2.length aT],ae r.2]∧B = [Buf bD 55 aS aT r.1.f2,Buf bD 55 af ag a0.f2,Buf bD 55 A4 c4 l4]):=by
 refine aj Tryz.func103 rfl rfl ?_
 unfold eQ.f at H
 refine aR (o' (bO (h:=fun E=>o' (bO (h:=fun b5=>o' (cw (h:=fun O=>ad aW (h:=bA (ao (ao (bM 0 fun e6=>bM 1 fun e3=>ak (l' (cz E 0 2 [ae a0.f0,ae a0.f1,.slice af a0.f2.length ag]) ?_))))))))))))
 refine bp (cm 3) (h:=S' ar ?_)
 obtain⟨e1,d8,H⟩:=ac H
 refine o' (dc [0] [1,2,3,4] (ip.ok d8) ?_)
 refine S' ar ?_
 obtain⟨c5,a6,H⟩:=bj H
 refine dy 3 [(1,ae a1),(2,ae a2),(4,.slice A4 l4.length c4),(5,aH E),(10,aH O),(21,.bool c5)] [Buf bD 55 A4 c4 l4,Buf bD 55 af ag a0.f2,aK E 26 [ae a0.f0,ae a0.f1,.slice af a0.f2.length ag],aK O 26 [ae 0,ae 0,.slice none 0 0]] ?_ fun junk=>?_
 ·by_cases D : e1 = true
  ·refine cu 2 D (cd D (h:=ah ?_))
   have x_:=ji a6 D;exact bK [1,0,2,4]
  refine bf (aM D) ar (h:=bf (aM D) (ce rfl rfl) (h:=ck (aM D) (h:=ah ?_)))
  have x_:=jh a6 ((aM D));exact bK [1,0,2,4]
 refine S' ar ?_
 obtain⟨e0,a7,H⟩:=bj H
 refine cK 5 (St [(1,ae a1),(2,ae a2),(4,.slice A4 l4.length c4),(5,aH E),(10,aH O),(27,.bool e0)] [Buf bD 55 A4 c4 l4,Buf bD 55 af ag a0.f2,aK E 26 [ae a0.f0,ae a0.f1,.slice af a0.f2.length ag],aK O 26 [ae 0,ae 0,.slice none 0 0]]) ?_ ?_
 ·by_cases p : c5 = true
  ·refine cu 4 p (cd p (h:=ah ?_))
   have x_:=ji a7 p;exact bK [0,1,2,3]
  refine bf (aM p) ar (h:=bf (aM p) aA (h:=cE (aM p) (aP 2) (h:=bf (aM p) (dT rfl rfl) (h:=ck (aM p) (h:=ah ?_)))))
  have x_:=jh a7 ((aM p));exact bK [0,1,2,3]
 rintro e ds As a8
 refine bA (SA.of_St a8 fun junk=>?_)
 rcases bE H with⟨U,H⟩|⟨U,H⟩
 ·refine aD rfl U (aR (bP (.agg #[ae 0,ae 0,.slice none 0 0]) dP (h:=o' (bi O 0 3 [ae 0,ae 0,.slice none 0 0] (h:=ad aW (h:=cD ?_))))))
  have h:=aN H;subst h
  exact ma [.cell 10 26,.tmp 11] ((Gh.nilBuf bD 55).trans (eZ [4,1,0])) ⟨none,0,rfl,rfl⟩ ⟨cV 3,cW,trivial⟩
 refine aE rfl U (ap (aa (ao (aR (ad aW (h:=bA ?_))))))
 obtain⟨c8,H,y⟩:=ac H
 refine bI (fun e ds As=>∃ (I : bH),c8 = Out.go I∧∃ (M : Nat),∃ (R : Option Addr) (S : Nat),St [(1,ae a1),(2,ae a2),(4,.slice A4 l4.length c4),(5,aH E),(10,aH M)] [aK M 26 [ae I.f0,ae I.f1,.slice R I.f2.length S],Buf bD 55 R S I.f2,Buf bD 55 A4 c4 l4,Buf bD 55 af ag a0.f2,aK E 26 [ae a0.f0,ae a0.f1,.slice af a0.f2.length ag]] e ds As) ?_ ?_
 ·refine aQ (cj (fun k_ e ds As=>∃ (d : bH) (c : Int),∃ (F : Nat),∃ (J : Option Addr) (K : Nat),eQ.l0 l4 k_ d c = some c8∧St [(1,ae a1),(2,ae a2),(4,.slice A4 l4.length c4),(5,aH E),(10,aH F),(12,ae c)] [Buf bD 55 A4 c4 l4,Buf bD 55 af ag a0.f2,aK E 26 [ae a0.f0,ae a0.f1,.slice af a0.f2.length ag],aK F 26 [ae d.f0,ae d.f1,.slice J d.f2.length K],Buf bD 55 J K d.f2] e ds As) (k:=k) ⟨_,_,O,none,0,H,St.mk1 (cB rfl (cB rfl (cB rfl (cB rfl (cB rfl (cB rfl dS)))))) ((Gh.nilBuf bD 55).trans (eZ [0,1,2,3,4]))⟩ ?_)
  clear H
  rintro xE e ds As ⟨d,c,F,J,K,H,a9⟩
  obtain _ | xE:=xE
  ·cases H
  rw [eQ.l0] at H
  refine SA.of_St a9 fun junk=>ao (aR (ad ar (h:=ad ar (h:=bP (ae (l4.length : Int)) (cO Tryz.underlying24 rfl) (h:=ad (ce rfl rfl) (h:=bA ?_))))))
  rcases bE H with⟨Y,H⟩|⟨Y,H⟩
  ·refine aC rfl Y (ap (aa (ao (aQ (aR (ad ar (h:=S' ar ?_)))))))
   obtain⟨⟨b2,b4⟩,H⟩:=aO H
   refine bp (bu (i:=c) Tryz.underlying24 cl rfl rfl (Src.buf (k:=0) rfl) b2 b4) (h:=l' (ci (enc:=cZ) (i:=c) (j:=c.toNat * 15) (m:=0) (sz:=15) (vs:=(bV (aY.mk ((rd l4 c).f0) ((rd l4 c).f1) ((rd l4 c).f2) ((rd l4 c).f3)))) Tryz.underlying55 rfl cl rfl rfl rfl (Src.buf (k:=0) rfl) b2 b4 (fun _ _ h=>h) rfl) ?_)
   obtain⟨e7,d3,H⟩:=ac H
   refine o' (dc [] [0,1,2,3,4] (kA.ok d3) ?_)
   refine ad (bX rfl) (h:=bA ?_)
   rcases bE H with⟨Z,H⟩|⟨Z,H⟩
   ·refine aD rfl Z (aR (bP (.agg #[ae 0,ae 0,.slice none 0 0]) dP (h:=o' (bi F 0 3 [ae 0,ae 0,.slice none 0 0] (h:=ad aW (h:=cC (ba (aG (aG (ba (aG (aG ?_))))))))))))
    have h:=aN H;subst h
    have hb_:=dw y
    have hr_:=Option.some.inj hb_
    clear hb_
    subst hr_
    exact ma [.cell 10 26,.tmp 11] ((Gh.nilBuf bD 55).trans (eZ [5,1,0])) ⟨none,0,rfl,rfl⟩ ⟨cV 3,cW,trivial⟩
   refine aE rfl Z (ap (aF (aa (ak (ad ar (h:=S' (bW rfl rfl) ?_))))))
   obtain⟨n39,d2,H⟩:=bj H
   refine bP (ae n39) (bo (v:=ae n39) (congrArg (Value.int .i64) d2.symm)) (h:=ah ?_)
   exact aa ⟨xE,Nat.lt_succ_self _,_,_,F,J,K,H,dZ [0,1,2,3,4]⟩
  refine aB rfl Y (cf (aX (aX (cg ?_))))
  have h:=aN H;subst h
  exact aa ⟨d,rfl,F,J,K,dZ [3,4,0,1,2]⟩
 rintro e ds As ⟨I,ht,M,R,S,b0⟩
 clear H
 subst ht
 replace y:=fw y
 have H:=y
 clear y
 refine aa (SA.of_St b0 fun junk=>ao (bM 1 fun e4=>ak (l' (cz E 0 4 [ae a0.f0,ae a0.f1,.slice af a0.f2.length ag]) ?_)))
 obtain⟨o,d7,H⟩:=ac H
 refine o' (gy [3] [0,1,2,4] (hH.ok d7) fun s z=>?_)
 refine o' (cw (h:=fun N=>o' (bi N 0 6 [ae o.f0,ae o.f1,.slice s o.f2.length z] (h:=bA (ao (bM 0 fun e5=>ak (bp (cz N 0 6 [ae o.f0,ae o.f1,.slice s o.f2.length z]) (h:=S' ar ?_))))))))
 obtain⟨u,d6,H⟩:=ac H
 obtain⟨⟨hl54a,hl54b,hl54c⟩,H⟩:=aO H
 refine o' (ms [0] [1,2,3,4,5,6] (dv.ok d6) ?_)
 rintro _ _⟨b1,L,a4,rfl,rfl⟩
 refine S' ar ?_
 obtain⟨⟨b6,b8,b9⟩,H⟩:=aO H
 refine s' (.slice (dj b1 a2 ((L : Nat) : Int) 15) (u.2 - a2).toNat (((L : Nat) : Int).toNat - a2.toNat)) (dq (l:=u.1) (m:=u.2) (a:=a2) (b:=u.2) (q:=((L : Nat) : Int)) a4 Tryz.underlying24 cl rfl rfl rfl rfl (.inr ⟨_,rfl⟩) (.inl ⟨rfl,rfl,rfl⟩) (.inl ⟨rfl,rfl⟩) b6 b8 b9) ?_
 have c9 : eu s (dj b1 a2 ((L : Nat) : Int) 15) 15 (u.1 + a2) (u.2 - a2) (((L : Nat) : Int).toNat - a2.toNat):=eu.sub a4 b6 b8 b9 (.inl rfl) (Int.le_refl _)
 refine S' ar ?_
 obtain⟨n61,a5,H⟩:=bj H
 have hl_n61 : n61.length = o.f2.length:=by rw [a5]; exact eR (by rw [List.length_take]; omega)
 refine o' (gm (k:=0) (l:=u.1 + a2) (m:=u.2 - a2) (xs:=o.f2) (ys:=l4) n61 a5 c9 rfl Tryz.underlying24 cl rfl rfl rfl (by omega) rfl (pD.slice (Src.buf (k:=4) rfl)) ?_)
 try unfold bF
 try rewrite [← hl_n61]
 refine cP (bp (cz N 0 6 [ae o.f0,ae o.f1,.slice s n61.length z]) (h:=S' ar ?_))
 obtain⟨c6,d5,H⟩:=ac H
 obtain⟨⟨hl66a,hl66b,hl66c⟩,H⟩:=aO H
 refine o' (ms [0] [1,2,3,4,5,6] (dv.ok d5) ?_)
 rintro _ _⟨d9,e2,d0,rfl,rfl⟩
 obtain⟨c7,d4,H⟩:=ac H
 obtain⟨d1,H⟩:=aO H
 refine o' (dc [0] [1,2,3,4,5,6] (eJ.ok (o0:=c6.1) (n0:=c6.2) (A0:=s) (c0:=z) (V0:=d9) (v0:=e2) (hw0:=d0) d4) ?_)
 try unfold bF
 try rewrite [← d1]
 refine cP (bp (cz N 0 6 [ae o.f0,ae o.f1,.slice s c7.length z]) (h:=o' (bi M 0 2 [ae o.f0,ae o.f1,.slice s c7.length z] (h:=ad aW (h:=cC ?_)))))
 have h:=aN H;subst h
 exact du [.cell 10 26,.tmp 11] [0,1,4] ⟨s,z,rfl,rfl⟩ ⟨cV 2,cW,trivial⟩


def pR.f (k : Nat) (a0 : aJ) (a1 : Int) : Option (aJ × Int):=(gk.f k a0).bind (fun a=>if (!a.2) = true then (some ((a.1,2))) else ((qQ.f k a1).bind (fun d=>if d < 0 then (some ((a.1,0))) else (if d = 0 then ((lV.f k a.1 a1).bind (fun s=>some ((s,0)))) else (lt (a.1.f3 && a.1.f8) fun q=>(if q = true then ((il.f k (aJ.mk a.1.f0 a.1.f1 0 a.1.f3 a.1.f4 a.1.f5 a.1.f6 a.1.f7 a.1.f8 a.1.f9 a.1.f10 a.1.f11 a.1.f12 a.1.f13 a.1.f14 a.1.f15 a.1.f16 a.1.f17)).bind (fun u=>some u)) else (some a.1) : Option (aJ)).bind (fun h=>lt (i64.wrap (h.f0.f0 - 1)) fun n85=>lt ((decide (d = 2)) && (decide (h.f2 = n85))) fun r=>(if r = true then (lt ((!h.f8) || (decide (n85 = 0))) fun l=>if l = true then (some (Out.ret ((({ h with f3:=false }),0)))) else ((il.f k ({ h with f2:=0,f3:=false })).bind (fun m=>some (Out.go (m,(aJ.mk (bH.mk 0 0 ([] : (List aY))) 0 0 false (cM.mk 0 0 false false false false false false false false) 0 0 ([] : (List Int)) false false false false false false (dz.mk 0 0 false false (cM.mk 0 0 false false false false false false false false)) false (bH.mk 0 0 ([] : (List aY))) ([] : (List Int)))))))) else (some (Out.go (({ h with f3:=false }),(aJ.mk (bH.mk 0 0 ([] : (List aY))) 0 0 false (cM.mk 0 0 false false false false false false false false) 0 0 ([] : (List Int)) false false false false false false (dz.mk 0 0 false false (cM.mk 0 0 false false false false false false false false)) false (bH.mk 0 0 ([] : (List aY))) ([] : (List Int)))))) : Option (Out (aJ × Int) (aJ × aJ))).bind (fun y=>Out.el y (fun r_=>some r_) (fun b=>(if b.1.f10 = true then ((fx.f k b.1.f0 b.1.f1 b.1.f2 d b.1.f4).bind (fun o=>some (aJ.mk o.1 b.1.f1 b.1.f2 b.1.f3 b.1.f4 b.1.f5 b.1.f6 b.1.f7 b.1.f8 b.1.f9 b.1.f10 b.1.f11 b.1.f12 b.1.f13 b.1.f14 b.1.f15 b.1.f16 b.1.f17))) else (some b.1) : Option (aJ)).bind (fun c=>(pI.f k a1 c.f4).bind (fun p=>(eQ.f k c.f0 c.f1 c.f2 c.f4 p).bind (fun j=>if (i64.wrap (c.f2 + d)) > n85 then (some ((({ c with f0:=j.1,f2:=n85,f3:=true }),0))) else (some ((({ c with f0:=j.1,f2:=(i64.wrap (c.f2 + d)) }),0))))))))))))))

def jI.l0 (r13 : aJ × Bool) : Nat → Int → Int → Option (Int)
  | 0,_,_=>none
  | k + 1,b,a=>if a ≥ 0 then (if 0 ≤ a∧a < (r13.1.f7.length : Int) then (if (rd r13.1.f7 a) > r13.1.f2 then (if 0 ≤ a∧a < (r13.1.f7.length : Int) then (lt (rd r13.1.f7 a) fun c=>lt (i64.wrap (a - 1)) fun d=>jI.l0 r13 k c d) else none) else (lt (i64.wrap (a - 1)) fun h=>jI.l0 r13 k b h)) else none) else (some b)
def jI.f (k : Nat) (a0 : aJ) (a1 : Int) : Option (aJ × Int):=(gk.f k a0).bind (fun a=>if (!a.2) = true then (some ((a.1,2))) else (if a1 = 8 then (some (((aJ.mk a.1.f0 a.1.f1 (fk 0 (i64.wrap (a.1.f2 - 1))) false a.1.f4 a.1.f5 a.1.f6 a.1.f7 a.1.f8 a.1.f9 a.1.f10 a.1.f11 a.1.f12 a.1.f13 a.1.f14 a.1.f15 a.1.f16 a.1.f17),0))) else (if a1 = 9 then (lt (i64.wrap (a.1.f0.f0 - 1)) fun n29=>lt (i64.wrap ((a.1.f7.length : Int) - 1)) fun n30=>(jI.l0 a k n29 n30 : Option (Int)).bind (fun h=>some (((aJ.mk a.1.f0 a.1.f1 h false a.1.f4 a.1.f5 a.1.f6 a.1.f7 a.1.f8 a.1.f9 a.1.f10 a.1.f11 a.1.f12 a.1.f13 a.1.f14 a.1.f15 a.1.f16 a.1.f17),0)))) else ((if a1 = 10 then (some (decide (a1 = 10))) else (if a1 = 11 then (some (decide (a1 = 11))) else (some (decide (a1 = 12)))) : Option (Bool)).bind (fun d=>if d = true then ((il.f k a.1).bind (fun b=>some ((({ b with f3:=false }),0)))) else (if a1 = 13 then (some (((aJ.mk a.1.f0 a.1.f1 0 false a.1.f4 a.1.f5 a.1.f6 a.1.f7 a.1.f8 a.1.f9 a.1.f10 a.1.f11 a.1.f12 a.1.f13 a.1.f14 a.1.f15 a.1.f16 a.1.f17),0))) else (if a1 = 141 then (if a.1.f1 = a.1.f5 then ((cA.f k a.1.f0 a.1.f5 a.1.f6 (-1) a.1.f4).bind (fun c=>some (((aJ.mk c.1 a.1.f1 a.1.f2 false a.1.f4 a.1.f5 a.1.f6 a.1.f7 a.1.f8 a.1.f9 a.1.f10 a.1.f11 a.1.f12 a.1.f13 a.1.f14 a.1.f15 a.1.f16 a.1.f17),0)))) else (if a.1.f1 > 0 then (some (((aJ.mk a.1.f0 (i64.wrap (a.1.f1 - 1)) a.1.f2 false a.1.f4 a.1.f5 a.1.f6 a.1.f7 a.1.f8 a.1.f9 a.1.f10 a.1.f11 a.1.f12 a.1.f13 a.1.f14 a.1.f15 a.1.f16 a.1.f17),0))) else (some (((aJ.mk a.1.f0 a.1.f1 a.1.f2 false a.1.f4 a.1.f5 a.1.f6 a.1.f7 a.1.f8 a.1.f9 a.1.f10 a.1.f11 a.1.f12 a.1.f13 a.1.f14 a.1.f15 a.1.f16 a.1.f17),0))))) else (some ((a.1,0))))))))))

def kz.f (a0 : Int) (a1 : Int) (a2 : Int) (a3 : Int) : Option (Int):=if a1 > (i64.wrap (a3 - a0)) then (some (a3)) else (if a1 < (i64.wrap (a2 - a0)) then (some (a2)) else (lt (i64.wrap (a0 + a1)) fun a=>some (a)))
theorem kz.ok {a0 : Int} {a1 : Int} {a2 : Int} {a3 : Int} {r : Int} (H : kz.f a0 a1 a2 a3 = some r) : fS Tryz.prog 106 #[ae a0,ae a1,ae a2,ae a3] [] (ae r):=by
 refine aj Tryz.func106 rfl rfl ?_
 unfold kz.f at H
 refine aR (ad aW (h:=eD (ad ar (h:=ad ar (h:=ad ar (h:=ad (cT rfl rfl) (h:=ad (eK rfl rfl) (h:=bA ?_))))))))
 rcases bE H with⟨a,H⟩|⟨a,H⟩
 ·refine aC rfl a (aR (ad ar (h:=ad aW (h:=cD ?_))))
  have h:=aN H;subst h
  exact dX [] ⟨rfl,rfl⟩
 refine aB rfl a (ap (aa (ao (aR (ad ar (h:=ad ar (h:=ad ar (h:=ad (cT rfl rfl) (h:=ad (ce rfl rfl) (h:=bA ?_))))))))))
 rcases bE H with⟨h2,H⟩|⟨h2,H⟩
 ·refine aC rfl h2 (aR (ad ar (h:=ad aW (h:=cD ?_))))
  have h:=aN H;subst h
  exact dX [] ⟨rfl,rfl⟩
 refine aB rfl h2 (ap (aa (aR (ad ar (h:=ad ar (h:=S' (bW rfl rfl) ?_))))))
 obtain⟨c,b,H⟩:=bj H
 refine bP (ae c) (bo (v:=ae c) (congrArg (Value.int .i64) b.symm)) (h:=cC ?_)
 have h:=aN H;subst h
 exact dX [] ⟨rfl,rfl⟩


def pS.f (k : Nat) (a0 : aJ) (a1 : Int) (a2 : Int) : Option (aJ × Int):=(gk.f k a0).bind (fun a=>if (!a.2) = true then (some ((a.1,2))) else (lt (i64.wrap (a.1.f0.f1 - 1)) fun b=>(if a.1.f1 ≤ a.1.f6 then (some a.1.f6) else (some b) : Option (Int)).bind (fun h=>(if a.1.f1 ≥ a.1.f5 then (some a.1.f5) else (some 0) : Option (Int)).bind (fun j=>(kz.f a.1.f1 a1 j h).bind (fun c=>(kz.f a.1.f2 a2 0 (i64.wrap (a.1.f0.f0 - 1))).bind (fun d=>some (((aJ.mk a.1.f0 c d false a.1.f4 a.1.f5 a.1.f6 a.1.f7 a.1.f8 a.1.f9 a.1.f10 a.1.f11 a.1.f12 a.1.f13 a.1.f14 a.1.f15 a.1.f16 a.1.f17),0))))))))

def jW.f (k : Nat) (a0 : aJ) (a1 : Int) (a2 : Int) : Option (aJ × Int):=(gk.f k a0).bind (fun a=>if (!a.2) = true then (some ((a.1,2))) else (lt (i64.wrap (a.1.f0.f1 - 1)) fun c=>(if a.1.f9 = true then (some (a.1.f5,a.1.f6)) else (some (0,c)) : Option (Int × Int)).bind (fun b=>(kz.f b.1 a1 b.1 b.2).bind (fun d=>(kz.f 0 a2 0 (i64.wrap (a.1.f0.f0 - 1))).bind (fun h=>some (((aJ.mk a.1.f0 d h false a.1.f4 a.1.f5 a.1.f6 a.1.f7 a.1.f8 a.1.f9 a.1.f10 a.1.f11 a.1.f12 a.1.f13 a.1.f14 a.1.f15 a.1.f16 a.1.f17),0)))))))
theorem jW.ok {a0 : aJ} {a1 : Int} {a2 : Int} {r : aJ × Int} (H : jW.f k a0 a1 a2 = some r) : dk Tryz.prog 43 #[.agg (al a0 af ag ay az au av aw ax).toArray,ae a1,ae a2] (bn a0 af ag ay az au av aw ax) (fun v B=>∃ aS aT bv bx bq br bw bz,v = .tuple #[.agg (al r.1 aS aT bv bx bq br bw bz).toArray,ae r.2]∧B = (bn r.1 aS aT bv bx bq br bw bz++bn a0 af ag ay az au av aw ax)):=by
 refine aj Tryz.func43 rfl rfl ?_
 unfold jW.f at H
 refine aR (o' (bO (h:=fun N=>o' (cw (h:=fun I=>ad aW (h:=bA (ao (bM 0 fun U=>bM 1 fun O=>bM 2 fun R=>bM 3 fun S=>ak ?_))))))))
 refine l' (cm 4) ?_
 obtain⟨a,M,H⟩:=ac H
 refine o' (ed [0,1,2,3] [4,5] (gk.ok M) fun b l c m d o j p=>?_)
 refine ad ar (h:=ad cr (h:=ad cr (h:=o' (bi N 0 8 (al a.1 b l c m d o j p) (h:=ad aW (h:=eD (ad ar (h:=ad (bX rfl) (h:=bA ?_)))))))))
 rcases bE H with⟨u,H⟩|⟨u,H⟩
 ·refine aD rfl u (aR (bp (cm 8) (h:=o' (bi I 0 9 (al a.1 b l c m d o j p) (h:=ad aW (h:=cD ?_))))))
  have h:=aN H;subst h
  exact du [.cell 6 34,.tmp 7] [0,1,2,3,4,5,6,7] ⟨b,l,c,m,d,o,j,p,rfl,rfl⟩ ⟨cV 9,cW,trivial⟩
 refine aE rfl u (ap (aa (ao ?_)))
 refine fj (dt 0 6) [8] [0,1,2,3,4,5,6,7,9] fun _ _ _ _ _ sH dd pk=>?_
 refine bc 0 rfl sH aA (h:=bc 1 rfl sH aA (h:=bQ 2 rfl sH (aP 0) (h:=bc 3 rfl sH (cT rfl rfl) (h:=T' 4 rfl sH aW ?_))))
 obtain⟨z,J,H⟩:=bj H
 refine kV (ae z) 5 rfl sH (bo (v:=ae z) (congrArg (Value.int .i64) J.symm)) (h:=aV dd sH (aI (by kernel_rfl) (aa (ao (aR (ad aA (h:=bp (aP 0) (h:=bA ?_))))))))
 obtain⟨F,H,s⟩:=ac H
 refine bI (St [(1,ae a1),(2,ae a2),(3,aH N),(6,aH I),(9,ae F.1),(10,ae F.2)] (bn a0 af ag ay az au av aw ax++(aK N 34 (al a.1 b l c m d o j p)::(bn a.1 b l c m d o j p++[aK I 34 (al cy none 0 none 0 none 0 none 0)])))) ?_ ?_
 ·rcases bE H with⟨q,H⟩|⟨q,H⟩
  ·refine aD rfl q ?_
   refine fj (dt 0 6) [0] (dt 1 9) fun _ _ _ _ _ sH dd pk=>?_
   refine bc 0 rfl sH aA (h:=bQ 1 rfl sH (aP 0) (h:=bc 2 rfl sH aA (h:=bQ 3 rfl sH (aP 0) (h:=bc 4 rfl sH aW (h:=bc 5 rfl sH aW (h:=aV dd sH (aI (by kernel_rfl) ?_)))))))
   have h:=aN H;subst h
   exact bK [5,6,7,8,0,1,2,3,4,9]
  refine aE rfl q (ap ?_)
  have h:=aN H;subst h
  exact bK [5,6,7,8,0,1,2,3,4,9]
 rintro e ds As y
 clear H
 have H:=s
 clear s
 refine aa (SA.of_St y fun junk=>aR (ad ar (h:=ad ar (h:=ad ar (h:=S' ar ?_)))))
 obtain⟨D,L,H⟩:=ac H
 refine o' (dc [] [0,1,2,3,4,5,6,7,8,9] (kz.ok L) ?_)
 refine ad aA (h:=o' (cF 4 [ae D] (h:=(cP (ad ar (h:=ad aA (h:=ad aA (h:=bp (aP 4) (h:=S' (cT rfl rfl) ?_)))))))))
 obtain⟨E,K,H⟩:=ac H
 refine o' (dc [] [0,1,2,3,4,5,6,7,8,9] (kz.ok K) ?_)
 refine ad aA (h:=o' (cF 4 [ae E] (h:=(cP (ad aA (h:=o' (cF 4 [.bool false] (h:=(cP (bp (cm 4) (h:=o' (bi I 0 9 (al (aJ.mk a.1.f0 D E false a.1.f4 a.1.f5 a.1.f6 a.1.f7 a.1.f8 a.1.f9 a.1.f10 a.1.f11 a.1.f12 a.1.f13 a.1.f14 a.1.f15 a.1.f16 a.1.f17) b l c m d o j p) (h:=ad aW (h:=cC ?_))))))))))))))
 have h:=aN H;subst h
 exact du [.cell 6 34,.tmp 7] [5,6,7,8,0,1,2,3] ⟨b,l,c,m,d,o,j,p,rfl,rfl⟩ ⟨cV 9,cW,trivial⟩

end Go.Proofs.YtckilbegmbaeeaaGreat.Z6

/- Walks. -/
import Derived.Test.YtckilbegmbaeeaaGreatZ77
namespace Go.Proofs.YtckilbegmbaeeaaGreat.Z7
open Go Go.RowKit Go.Proofs.YtckilbegmbaeeaaGreat.SL
open Go.IntKind (i64)
set_option linter.unusedVariables false
set_option maxHeartbeats 20000000
set_option maxRecDepth 100000
set_option linter.unusedSimpArgs false
attribute [local irreducible] IntKind.wrap dm fE iD md lW rn lM fG ma rd sub bytesOf jD dv
variable {ag az av ax k : Nat}
variable {af ay au aw : Option Addr}
def eL.l0 (l0 : (List ba)) (o0 : Int) (n0 : Int) (n8 : (List ba)) : Nat → Int → (List ba) → Option ((List ba))
  | 0,_,_=>none
  | k + 1,a,b=>if b.length = l0.length then (if a < n0 then ((if 0 ≤ a∧a < (n8.length : Int) then (if ((rd n8 a).f2) = 2 then (if (i64.wrap (a + 1)) ≥ n0 then (some true) else (if 0 ≤ (i64.wrap (a + 1))∧(i64.wrap (a + 1)) < (n8.length : Int) then (if ((rd n8 (i64.wrap (a + 1))).f2) ≠ 0 then (some true) else (if 0 ≤ (i64.wrap (a + 1))∧(i64.wrap (a + 1)) < (n8.length : Int) then (if 0 ≤ a∧a < (n8.length : Int) then (if ((rd n8 (i64.wrap (a + 1))).f3) ≠ ((rd n8 a).f3) then (some true) else (if 0 ≤ a∧a < (n8.length : Int) then (if ((rd n8 a).f2) = 0 then (if a = 0 then (some true) else (if 0 ≤ (i64.wrap (a - 1))∧(i64.wrap (a - 1)) < (n8.length : Int) then (if ((rd n8 (i64.wrap (a - 1))).f2) ≠ 2 then (some true) else (if 0 ≤ (i64.wrap (a - 1))∧(i64.wrap (a - 1)) < (n8.length : Int) then (if 0 ≤ a∧a < (n8.length : Int) then (some (decide (((rd n8 (i64.wrap (a - 1))).f3) ≠ ((rd n8 a).f3)))) else none) else none)) else none)) else (some false)) else none)) else none) else none)) else none)) else (if 0 ≤ a∧a < (n8.length : Int) then (if ((rd n8 a).f2) = 0 then (if a = 0 then (some true) else (if 0 ≤ (i64.wrap (a - 1))∧(i64.wrap (a - 1)) < (n8.length : Int) then (if ((rd n8 (i64.wrap (a - 1))).f2) ≠ 2 then (some true) else (if 0 ≤ (i64.wrap (a - 1))∧(i64.wrap (a - 1)) < (n8.length : Int) then (if 0 ≤ a∧a < (n8.length : Int) then (some (decide (((rd n8 (i64.wrap (a - 1))).f3) ≠ ((rd n8 a).f3)))) else none) else none)) else none)) else (some false)) else none)) else none : Option (Bool)).bind (fun l=>if l = true then (if 0 ≤ a∧a < (n8.length : Int) then ((pF.f ((rd n8 a).f3)).bind (fun j=>if 0 ≤ a∧a < n0 then (lt (b.set (o0 + a).toNat j) fun c=>(lt (i64.wrap (a + 1)) fun d=>eL.l0 l0 o0 n0 n8 k d c)) else none)) else none) else (lt (i64.wrap (a + 1)) fun h=>eL.l0 l0 o0 n0 n8 k h b))) else (some b)) else none
def eL.f (k : Nat) (l0 : (List ba)) (o0 : Int) (n0 : Int) : Option ((List ba)):=if 0 ≤ o0∧0 ≤ n0∧o0 + n0 ≤ (l0.length : Int) then (if ([] : (List ba)).length + (sub l0 o0 (o0 + n0)).length ≤ 2932031007402 then lt (([] : (List ba)) ++ (sub l0 o0 (o0 + n0))) fun n8=>((eL.l0 l0 o0 n0 n8 k 0 l0 : Option ((List ba))).bind (fun a=>if a.length = l0.length then (some (a)) else none)) else none) else none
theorem eL.ok {l0 : (List ba)} {o0 : Int} {n0 : Int} {A0 V0 : Option Addr} {c0 v0 : Nat} (hw0 : ey A0 V0 15 o0 n0 v0) {r : (List ba)} (H : eL.f k l0 o0 n0 = some r) : dp Tryz.prog 146 #[.slice V0 n0.toNat v0] [Buf bI 55 A0 c0 l0] (fun v B=>v = .tuple #[]∧B = [Buf bI 55 A0 c0 r]):=by
 refine aj Tryz.func146 rfl rfl ?_
 unfold eL.f at H
 obtain⟨⟨d9,e0,e1⟩,H⟩:=aS H
 have hcv_hw0:=hw0.cap
 refine aP (o' (gD (kd:=bI) (zv:=(.agg (bW lu).toArray)) (sz:=15) (cells:=[]) (xs:=([] : (List ba))) rfl Tryz.underlying24 jF ck rfl rfl rfl (by kernel_rfl) rfl rfl (dR cZ (fun _ _=>rfl) (by kernel_rfl)) fun b2=>S' ar ?_))
 obtain⟨g5,H⟩:=aS H
 obtain⟨n8,d7,H⟩:=bi H
 refine o' (gm (k:=1) (A:=some ⟨b2,0,none⟩) (c:=0) (xs:=([] : (List ba))) (ys:=sub l0 o0 (o0 + n0)) n8 d7 rfl Tryz.underlying24 mD rfl rfl rfl rfl rfl (nk.win Tryz.underlying24 (Src.buf (k:=0) rfl) hw0 rfl (by omega)) (by omega) (by omega) fun I c7=>ad aW (h:=cR (ad aW (h:=bA ?_))))
 obtain⟨t9,H,d4⟩:=ac H
 refine bK (St [] [Buf bI 55 A0 c0 t9]) ?_ ?_
 ·refine aT (cl (fun k_ e ds As=>∃ (a : Int) (J : (List ba)),eL.l0 l0 o0 n0 n8 k_ a J = some t9∧St [(0,.slice V0 n0.toNat v0),(2,.slice I n8.length c7),(3,ae a)] [Buf bI 55 A0 c0 J,Buf bI 55 I c7 n8] e ds As) (k:=k) ⟨_,_,H,jQ [0,1]⟩ ?_)
  clear H
  rintro a6 e ds As ⟨a,J,H,d2⟩
  obtain _ | a6:=a6
  ·cases H
  rw [eL.l0] at H
  obtain⟨d5,H⟩:=aS H
  refine SA.of_St d2 fun junk=>ap (aP (ad ar (h:=ad ar (h:=bT (ae n0) (jT hw0 Tryz.underlying24 rfl) (h:=ad (cg rfl rfl) (h:=bA ?_))))))
  rcases bD H with⟨b8,H⟩|⟨b8,H⟩
  ·refine aC rfl b8 (ao (aa (ap (aT (ap ?_)))))
   obtain⟨d8,H,b3⟩:=ac H
   refine bK (St [(0,.slice V0 n0.toNat v0),(2,.slice I n8.length c7),(3,ae a),(83,.bool d8)] [Buf bI 55 A0 c0 J,Buf bI 55 I c7 n8]) ?_ ?_
   ·refine fg (dC 0 71) [1] [0] fun _ _ _ _ _ sH dd pk=>?_
    refine bf 0 rfl sH ar (h:=T' 1 rfl sH ar ?_)
    obtain⟨⟨b4,b5⟩,H⟩:=aS H
    refine bN 2 rfl sH (br (i:=a) Tryz.underlying24 ck rfl rfl (Src.buf (k:=0) rfl) b4 b5) (h:=kQ (.pointer (some ((el I (a.toNat * 15)).add 4))) 3 rfl sH (lL (el I (a.toNat * 15)) 0 4) (h:=bN 4 rfl sH (bE (enc:=cZ) (i:=a) (j:=a.toNat * 15) (m:=4) (sz:=15) Tryz.underlying5 rfl rfl rfl rfl (Src.buf (k:=0) rfl) b4 b5 (fun _ _ h=>h) rfl) (h:=bf 5 rfl sH (bk rfl rfl) (h:=T' 6 rfl sH ar ?_))))
    rcases bD H with⟨b,H⟩|⟨b,H⟩
    ·refine cU 7 rfl (ai b) sH ar (h:=cU 8 rfl (ai b) sH (bX rfl rfl) (h:=cU 9 rfl (ai b) sH ar (h:=ib (ae n0) 10 rfl (ai b) sH (jT hw0 Tryz.underlying24 rfl) (h:=cU 11 rfl (ai b) sH (dU rfl rfl) (h:=kT 12 rfl (ai b) sH ar ?_)))))
     rcases bD H with⟨D,H⟩|⟨D,H⟩
     ·refine bM 13 rfl (ai D) (bM 14 rfl (ai D) (bM 15 rfl (ai D) (bM 16 rfl (ai D) (bM 17 rfl (ai D) (bM 18 rfl (ai D) (bM 19 rfl (ai D) (cH 20 rfl (ai b) sH (VR.ofV (bR rfl (ai D) rfl)) (h:=cU 21 rfl (ai b) sH ar (h:=bM 22 rfl rfl ?_)))))))))
      refine bM 23 rfl rfl (bM 24 rfl rfl (bM 25 rfl rfl (bM 26 rfl rfl (bM 27 rfl rfl (bM 28 rfl rfl (bM 29 rfl rfl (bM 30 rfl rfl (bM 31 rfl rfl (bM 32 rfl rfl ?_)))))))))
      refine bM 33 rfl rfl (cH 34 rfl (ai b) sH (VR.ofV (bR rfl (rfl) rfl)) (h:=bN 35 rfl sH (VR.ofV (bR rfl (ai b) rfl)) (h:=bf 36 rfl sH ar (h:=bM 37 rfl rfl (bM 38 rfl rfl (bM 39 rfl rfl (bM 40 rfl rfl (bM 41 rfl rfl (bM 42 rfl rfl ?_)))))))))
      refine bM 43 rfl rfl (cK 44 rfl (cK 45 rfl (cK 46 rfl (cK 47 rfl (cK 48 rfl (cK 49 rfl (cK 50 rfl (cK 51 rfl (cK 52 rfl ?_)))))))))
      refine cK 53 rfl (cK 54 rfl (cK 55 rfl (cK 56 rfl (cK 57 rfl (cK 58 rfl (cK 59 rfl (cK 60 rfl (cK 61 rfl (cK 62 rfl ?_)))))))))
      refine cK 63 rfl (cK 64 rfl (cK 65 rfl (cK 66 rfl (cK 67 rfl (cK 68 rfl (bM 69 rfl rfl (bN 70 rfl sH (VR.ofV (bR rfl (rfl) rfl)) (h:=aV dd sH (aH (by kernel_rfl) ?_)))))))))
      have h:=aN H;subst h
      exact bH [1,0]
     refine cU 13 rfl (al D) sH ar (h:=cU 14 rfl (al D) sH ar (h:=kT 15 rfl (al D) sH (bX rfl rfl) ?_))
     obtain⟨⟨b6,b7⟩,H⟩:=aS H
     refine cH 16 rfl (al D) sH (br (i:=i64.wrap (a + 1)) Tryz.underlying24 ck rfl rfl (Src.buf (k:=0) rfl) b6 b7) (h:=ib (.pointer (some ((el I ((i64.wrap (a + 1)).toNat * 15)).add 4))) 17 rfl (al D) sH (lL (el I ((i64.wrap (a + 1)).toNat * 15)) 0 4) (h:=cH 18 rfl (al D) sH (bE (enc:=cZ) (i:=i64.wrap (a + 1)) (j:=(i64.wrap (a + 1)).toNat * 15) (m:=4) (sz:=15) Tryz.underlying5 rfl rfl rfl rfl (Src.buf (k:=0) rfl) b6 b7 (fun _ _ h=>h) rfl) (h:=cU 19 rfl (al D) sH (dt rfl rfl) (h:=cH 20 rfl (ai b) sH (VR.ofV (bL rfl (al D) rfl)) (h:=kT 21 rfl (ai b) sH ar ?_)))))
     rcases bD H with⟨d,H⟩|⟨d,H⟩
     ·refine bM 22 rfl (ai d) (bM 23 rfl (ai d) (bM 24 rfl (ai d) (bM 25 rfl (ai d) (bM 26 rfl (ai d) (bM 27 rfl (ai d) (bM 28 rfl (ai d) (bM 29 rfl (ai d) (bM 30 rfl (ai d) (bM 31 rfl (ai d) ?_)))))))))
      refine bM 32 rfl (ai d) (bM 33 rfl (ai d) (cH 34 rfl (ai b) sH (VR.ofV (bR rfl (ai d) rfl)) (h:=bN 35 rfl sH (VR.ofV (bR rfl (ai b) rfl)) (h:=bf 36 rfl sH ar (h:=bM 37 rfl rfl (bM 38 rfl rfl (bM 39 rfl rfl (bM 40 rfl rfl (bM 41 rfl rfl ?_)))))))))
      refine bM 42 rfl rfl (bM 43 rfl rfl (cK 44 rfl (cK 45 rfl (cK 46 rfl (cK 47 rfl (cK 48 rfl (cK 49 rfl (cK 50 rfl (cK 51 rfl ?_)))))))))
      refine cK 52 rfl (cK 53 rfl (cK 54 rfl (cK 55 rfl (cK 56 rfl (cK 57 rfl (cK 58 rfl (cK 59 rfl (cK 60 rfl (cK 61 rfl ?_)))))))))
      refine cK 62 rfl (cK 63 rfl (cK 64 rfl (cK 65 rfl (cK 66 rfl (cK 67 rfl (cK 68 rfl (bM 69 rfl rfl (bN 70 rfl sH (VR.ofV (bR rfl (rfl) rfl)) (h:=aV dd sH ?_)))))))))
      refine aH (by kernel_rfl) ?_
      have h:=aN H;subst h
      exact bH [1,0]
     refine cU 22 rfl (al d) sH ar (h:=cU 23 rfl (al d) sH ar (h:=kT 24 rfl (al d) sH (bX rfl rfl) ?_))
     obtain⟨⟨a0,a1⟩,H⟩:=aS H
     refine cH 25 rfl (al d) sH (br (i:=i64.wrap (a + 1)) Tryz.underlying24 ck rfl rfl (Src.buf (k:=0) rfl) a0 a1) (h:=ib (.pointer (some ((el I ((i64.wrap (a + 1)).toNat * 15)).add 5))) 26 rfl (al d) sH (lL (el I ((i64.wrap (a + 1)).toNat * 15)) 0 5) (h:=cH 27 rfl (al d) sH (cf (enc:=cZ) (i:=i64.wrap (a + 1)) (j:=(i64.wrap (a + 1)).toNat * 15) (m:=5) (sz:=15) (vs:=(bF ((rd n8 (i64.wrap (a + 1))).f3))) Tryz.underlying28 rfl mf rfl rfl rfl (Src.buf (k:=0) rfl) a0 a1 (fun _ _ h=>h) rfl) (h:=cU 28 rfl (al d) sH ar (h:=kT 29 rfl (al d) sH ar ?_))))
     obtain⟨⟨a2,a3⟩,H⟩:=aS H
     refine cH 30 rfl (al d) sH (br (i:=a) Tryz.underlying24 ck rfl rfl (Src.buf (k:=0) rfl) a2 a3) (h:=ib (.pointer (some ((el I (a.toNat * 15)).add 5))) 31 rfl (al d) sH (lL (el I (a.toNat * 15)) 0 5) (h:=cH 32 rfl (al d) sH (cf (enc:=cZ) (i:=a) (j:=a.toNat * 15) (m:=5) (sz:=15) (vs:=(bF ((rd n8 a).f3))) Tryz.underlying28 rfl mf rfl rfl rfl (Src.buf (k:=0) rfl) a2 a3 (fun _ _ h=>h) rfl) (h:=ib (.bool (decide (((rd n8 (i64.wrap (a + 1))).f3) ≠ ((rd n8 a).f3)))) 33 rfl (al d) sH (jU (xs:=(bF ((rd n8 (i64.wrap (a + 1))).f3))) (ys:=(bF ((rd n8 a).f3))) (r:=(((((rd n8 (i64.wrap (a + 1))).f3).f0) == (((rd n8 a).f3).f0)) && (((((rd n8 (i64.wrap (a + 1))).f3).f1) == (((rd n8 a).f3).f1)) && (((((rd n8 (i64.wrap (a + 1))).f3).f2) == (((rd n8 a).f3).f2)) && (((((rd n8 (i64.wrap (a + 1))).f3).f3) == (((rd n8 a).f3).f3)) && (((((rd n8 (i64.wrap (a + 1))).f3).f4) == (((rd n8 a).f3).f4)) && (((((rd n8 (i64.wrap (a + 1))).f3).f5) == (((rd n8 a).f3).f5)) && (((((rd n8 (i64.wrap (a + 1))).f3).f6) == (((rd n8 a).f3).f6)) && (((((rd n8 (i64.wrap (a + 1))).f3).f7) == (((rd n8 a).f3).f7)) && (((((rd n8 (i64.wrap (a + 1))).f3).f8) == (((rd n8 a).f3).f8)) && (((((rd n8 (i64.wrap (a + 1))).f3).f9) == (((rd n8 a).f3).f9)) && true))))))))))) (p:=((rd n8 (i64.wrap (a + 1))).f3) = ((rd n8 a).f3)) lh rfl rfl (by kernel_rfl) (lj (x:=((rd n8 (i64.wrap (a + 1))).f3)) (y:=((rd n8 a).f3)))) (h:=cH 34 rfl (ai b) sH (VR.ofV (bL rfl (al d) rfl)) (h:=bN 35 rfl sH (VR.ofV (bR rfl (ai b) rfl)) (h:=T' 36 rfl sH ar ?_))))))
     rcases bD H with⟨s,H⟩|⟨s,H⟩
     ·refine bM 37 rfl (ai s) (bM 38 rfl (ai s) (bM 39 rfl (ai s) (bM 40 rfl (ai s) (bM 41 rfl (ai s) (bM 42 rfl (ai s) (bM 43 rfl (ai s) (cK 44 rfl (cK 45 rfl (cK 46 rfl ?_)))))))))
      refine cK 47 rfl (cK 48 rfl (cK 49 rfl (cK 50 rfl (cK 51 rfl (cK 52 rfl (cK 53 rfl (cK 54 rfl (cK 55 rfl (cK 56 rfl ?_)))))))))
      refine cK 57 rfl (cK 58 rfl (cK 59 rfl (cK 60 rfl (cK 61 rfl (cK 62 rfl (cK 63 rfl (cK 64 rfl (cK 65 rfl (cK 66 rfl ?_)))))))))
      refine cK 67 rfl (cK 68 rfl (bM 69 rfl (ai s) (bN 70 rfl sH (VR.ofV (bR rfl (ai s) rfl)) (h:=aV dd sH (aH (by kernel_rfl) ?_)))))
      have h:=aN H;subst h
      exact bH [1,0]
     refine cU 37 rfl (al s) sH ar (h:=kT 38 rfl (al s) sH ar ?_)
     obtain⟨⟨K,L⟩,H⟩:=aS H
     refine cH 39 rfl (al s) sH (br (i:=a) Tryz.underlying24 ck rfl rfl (Src.buf (k:=0) rfl) K L) (h:=ib (.pointer (some ((el I (a.toNat * 15)).add 4))) 40 rfl (al s) sH (lL (el I (a.toNat * 15)) 0 4) (h:=cH 41 rfl (al s) sH (bE (enc:=cZ) (i:=a) (j:=a.toNat * 15) (m:=4) (sz:=15) Tryz.underlying5 rfl rfl rfl rfl (Src.buf (k:=0) rfl) K L (fun _ _ h=>h) rfl) (h:=cU 42 rfl (al s) sH (bk rfl rfl) (h:=kT 43 rfl (al s) sH ar ?_))))
     rcases bD H with⟨u,H⟩|⟨u,H⟩
     ·refine cU 44 rfl (ai u) sH ar (h:=cU 45 rfl (ai u) sH (bk rfl rfl) (h:=kT 46 rfl (ai u) sH ar ?_))
      rcases bD H with⟨E,H⟩|⟨E,H⟩
      ·refine bM 47 rfl (ai E) (bM 48 rfl (ai E) (bM 49 rfl (ai E) (bM 50 rfl (ai E) (bM 51 rfl (ai E) (bM 52 rfl (ai E) (bM 53 rfl (ai E) (cH 54 rfl (ai u) sH (VR.ofV (bR rfl (ai E) rfl)) (h:=cU 55 rfl (ai u) sH ar (h:=bM 56 rfl rfl ?_)))))))))
       refine bM 57 rfl rfl (bM 58 rfl rfl (bM 59 rfl rfl (bM 60 rfl rfl (bM 61 rfl rfl (bM 62 rfl rfl (bM 63 rfl rfl (bM 64 rfl rfl (bM 65 rfl rfl (bM 66 rfl rfl ?_)))))))))
       refine bM 67 rfl rfl (cH 68 rfl (ai u) sH (VR.ofV (bR rfl (rfl) rfl)) (h:=cH 69 rfl (al s) sH (VR.ofV (bR rfl (ai u) rfl)) (h:=bN 70 rfl sH (VR.ofV (bL rfl (al s) rfl)) (h:=aV dd sH (aH (by kernel_rfl) ?_)))))
       have h:=aN H;subst h
       exact bH [1,0]
      refine cU 47 rfl (al E) sH ar (h:=cU 48 rfl (al E) sH ar (h:=kT 49 rfl (al E) sH (cV rfl rfl) ?_))
      obtain⟨⟨M,N⟩,H⟩:=aS H
      refine cH 50 rfl (al E) sH (br (i:=i64.wrap (a - 1)) Tryz.underlying24 ck rfl rfl (Src.buf (k:=0) rfl) M N) (h:=ib (.pointer (some ((el I ((i64.wrap (a - 1)).toNat * 15)).add 4))) 51 rfl (al E) sH (lL (el I ((i64.wrap (a - 1)).toNat * 15)) 0 4) (h:=cH 52 rfl (al E) sH (bE (enc:=cZ) (i:=i64.wrap (a - 1)) (j:=(i64.wrap (a - 1)).toNat * 15) (m:=4) (sz:=15) Tryz.underlying5 rfl rfl rfl rfl (Src.buf (k:=0) rfl) M N (fun _ _ h=>h) rfl) (h:=cU 53 rfl (al E) sH (dt rfl rfl) (h:=cH 54 rfl (ai u) sH (VR.ofV (bL rfl (al E) rfl)) (h:=kT 55 rfl (ai u) sH ar ?_)))))
      rcases bD H with⟨o,H⟩|⟨o,H⟩
      ·refine bM 56 rfl (ai o) (bM 57 rfl (ai o) (bM 58 rfl (ai o) (bM 59 rfl (ai o) (bM 60 rfl (ai o) (bM 61 rfl (ai o) (bM 62 rfl (ai o) (bM 63 rfl (ai o) (bM 64 rfl (ai o) (bM 65 rfl (ai o) ?_)))))))))
       refine bM 66 rfl (ai o) (bM 67 rfl (ai o) (cH 68 rfl (ai u) sH (VR.ofV (bR rfl (ai o) rfl)) (h:=cH 69 rfl (al s) sH (VR.ofV (bR rfl (ai u) rfl)) (h:=bN 70 rfl sH (VR.ofV (bL rfl (al s) rfl)) (h:=aV dd sH (aH (by kernel_rfl) ?_))))))
       have h:=aN H;subst h
       exact bH [1,0]
      refine cU 56 rfl (al o) sH ar (h:=cU 57 rfl (al o) sH ar (h:=kT 58 rfl (al o) sH (cV rfl rfl) ?_))
      obtain⟨⟨O,R⟩,H⟩:=aS H
      refine cH 59 rfl (al o) sH (br (i:=i64.wrap (a - 1)) Tryz.underlying24 ck rfl rfl (Src.buf (k:=0) rfl) O R) (h:=ib (.pointer (some ((el I ((i64.wrap (a - 1)).toNat * 15)).add 5))) 60 rfl (al o) sH (lL (el I ((i64.wrap (a - 1)).toNat * 15)) 0 5) (h:=cH 61 rfl (al o) sH (cf (enc:=cZ) (i:=i64.wrap (a - 1)) (j:=(i64.wrap (a - 1)).toNat * 15) (m:=5) (sz:=15) (vs:=(bF ((rd n8 (i64.wrap (a - 1))).f3))) Tryz.underlying28 rfl mf rfl rfl rfl (Src.buf (k:=0) rfl) O R (fun _ _ h=>h) rfl) (h:=cU 62 rfl (al o) sH ar (h:=kT 63 rfl (al o) sH ar ?_))))
      obtain⟨⟨S,U⟩,H⟩:=aS H
      refine cH 64 rfl (al o) sH (br (i:=a) Tryz.underlying24 ck rfl rfl (Src.buf (k:=0) rfl) S U) (h:=ib (.pointer (some ((el I (a.toNat * 15)).add 5))) 65 rfl (al o) sH (lL (el I (a.toNat * 15)) 0 5) (h:=cH 66 rfl (al o) sH (cf (enc:=cZ) (i:=a) (j:=a.toNat * 15) (m:=5) (sz:=15) (vs:=(bF ((rd n8 a).f3))) Tryz.underlying28 rfl mf rfl rfl rfl (Src.buf (k:=0) rfl) S U (fun _ _ h=>h) rfl) (h:=ib (.bool (decide (((rd n8 (i64.wrap (a - 1))).f3) ≠ ((rd n8 a).f3)))) 67 rfl (al o) sH (jU (xs:=(bF ((rd n8 (i64.wrap (a - 1))).f3))) (ys:=(bF ((rd n8 a).f3))) (r:=(((((rd n8 (i64.wrap (a - 1))).f3).f0) == (((rd n8 a).f3).f0)) && (((((rd n8 (i64.wrap (a - 1))).f3).f1) == (((rd n8 a).f3).f1)) && (((((rd n8 (i64.wrap (a - 1))).f3).f2) == (((rd n8 a).f3).f2)) && (((((rd n8 (i64.wrap (a - 1))).f3).f3) == (((rd n8 a).f3).f3)) && (((((rd n8 (i64.wrap (a - 1))).f3).f4) == (((rd n8 a).f3).f4)) && (((((rd n8 (i64.wrap (a - 1))).f3).f5) == (((rd n8 a).f3).f5)) && (((((rd n8 (i64.wrap (a - 1))).f3).f6) == (((rd n8 a).f3).f6)) && (((((rd n8 (i64.wrap (a - 1))).f3).f7) == (((rd n8 a).f3).f7)) && (((((rd n8 (i64.wrap (a - 1))).f3).f8) == (((rd n8 a).f3).f8)) && (((((rd n8 (i64.wrap (a - 1))).f3).f9) == (((rd n8 a).f3).f9)) && true))))))))))) (p:=((rd n8 (i64.wrap (a - 1))).f3) = ((rd n8 a).f3)) lh rfl rfl (by kernel_rfl) (lj (x:=((rd n8 (i64.wrap (a - 1))).f3)) (y:=((rd n8 a).f3)))) (h:=cH 68 rfl (ai u) sH (VR.ofV (bL rfl (al o) rfl)) (h:=cH 69 rfl (al s) sH (VR.ofV (bR rfl (ai u) rfl)) (h:=bN 70 rfl sH (VR.ofV (bL rfl (al s) rfl)) (h:=aV dd sH (aH (by kernel_rfl) ?_))))))))
      have h:=aN H;subst h
      exact bH [1,0]
     refine bM 44 rfl (al u) (bM 45 rfl (al u) (bM 46 rfl (al u) (cK 47 rfl (cK 48 rfl (cK 49 rfl (cK 50 rfl (cK 51 rfl (cK 52 rfl (cK 53 rfl ?_)))))))))
     refine bM 54 rfl (al u) (bM 55 rfl (al u) (cK 56 rfl (cK 57 rfl (cK 58 rfl (cK 59 rfl (cK 60 rfl (cK 61 rfl (cK 62 rfl (cK 63 rfl ?_)))))))))
     refine cK 64 rfl (cK 65 rfl (cK 66 rfl (cK 67 rfl (bM 68 rfl (al u) (cH 69 rfl (al s) sH (VR.ofV (bL rfl (al u) rfl)) (h:=bN 70 rfl sH (VR.ofV (bL rfl (al s) rfl)) (h:=aV dd sH (aH (by kernel_rfl) ?_))))))))
     have h:=aN H;subst h
     exact bH [1,0]
    refine bM 7 rfl (al b) (bM 8 rfl (al b) (bM 9 rfl (al b) (bM 10 rfl (al b) (bM 11 rfl (al b) (bM 12 rfl (al b) (cK 13 rfl (cK 14 rfl (cK 15 rfl (cK 16 rfl ?_)))))))))
    refine cK 17 rfl (cK 18 rfl (cK 19 rfl (bM 20 rfl (al b) (bM 21 rfl (al b) (cK 22 rfl (cK 23 rfl (cK 24 rfl (cK 25 rfl (cK 26 rfl ?_)))))))))
    refine cK 27 rfl (cK 28 rfl (cK 29 rfl (cK 30 rfl (cK 31 rfl (cK 32 rfl (cK 33 rfl (bM 34 rfl (al b) (bN 35 rfl sH (VR.ofV (bL rfl (al b) rfl)) (h:=T' 36 rfl sH ar ?_)))))))))
    refine cU 37 rfl rfl sH ar (h:=kT 38 rfl rfl sH ar ?_)
    obtain⟨⟨K,L⟩,H⟩:=aS H
    refine cH 39 rfl rfl sH (br (i:=a) Tryz.underlying24 ck rfl rfl (Src.buf (k:=0) rfl) K L) (h:=ib (.pointer (some ((el I (a.toNat * 15)).add 4))) 40 rfl rfl sH (lL (el I (a.toNat * 15)) 0 4) (h:=cH 41 rfl rfl sH (bE (enc:=cZ) (i:=a) (j:=a.toNat * 15) (m:=4) (sz:=15) Tryz.underlying5 rfl rfl rfl rfl (Src.buf (k:=0) rfl) K L (fun _ _ h=>h) rfl) (h:=cU 42 rfl rfl sH (bk rfl rfl) (h:=kT 43 rfl rfl sH ar ?_))))
    rcases bD H with⟨z,H⟩|⟨z,H⟩
    ·refine cU 44 rfl (ai z) sH ar (h:=cU 45 rfl (ai z) sH (bk rfl rfl) (h:=kT 46 rfl (ai z) sH ar ?_))
     rcases bD H with⟨F,H⟩|⟨F,H⟩
     ·refine bM 47 rfl (ai F) (bM 48 rfl (ai F) (bM 49 rfl (ai F) (bM 50 rfl (ai F) (bM 51 rfl (ai F) (bM 52 rfl (ai F) (bM 53 rfl (ai F) (cH 54 rfl (ai z) sH (VR.ofV (bR rfl (ai F) rfl)) (h:=cU 55 rfl (ai z) sH ar (h:=bM 56 rfl rfl ?_)))))))))
      refine bM 57 rfl rfl (bM 58 rfl rfl (bM 59 rfl rfl (bM 60 rfl rfl (bM 61 rfl rfl (bM 62 rfl rfl (bM 63 rfl rfl (bM 64 rfl rfl (bM 65 rfl rfl (bM 66 rfl rfl ?_)))))))))
      refine bM 67 rfl rfl (cH 68 rfl (ai z) sH (VR.ofV (bR rfl (rfl) rfl)) (h:=cH 69 rfl rfl sH (VR.ofV (bR rfl (ai z) rfl)) (h:=bN 70 rfl sH (VR.ofV (bL rfl (rfl) rfl)) (h:=aV dd sH (aH (by kernel_rfl) ?_)))))
      have h:=aN H;subst h
      exact bH [1,0]
     refine cU 47 rfl (al F) sH ar (h:=cU 48 rfl (al F) sH ar (h:=kT 49 rfl (al F) sH (cV rfl rfl) ?_))
     obtain⟨⟨M,N⟩,H⟩:=aS H
     refine cH 50 rfl (al F) sH (br (i:=i64.wrap (a - 1)) Tryz.underlying24 ck rfl rfl (Src.buf (k:=0) rfl) M N) (h:=ib (.pointer (some ((el I ((i64.wrap (a - 1)).toNat * 15)).add 4))) 51 rfl (al F) sH (lL (el I ((i64.wrap (a - 1)).toNat * 15)) 0 4) (h:=cH 52 rfl (al F) sH (bE (enc:=cZ) (i:=i64.wrap (a - 1)) (j:=(i64.wrap (a - 1)).toNat * 15) (m:=4) (sz:=15) Tryz.underlying5 rfl rfl rfl rfl (Src.buf (k:=0) rfl) M N (fun _ _ h=>h) rfl) (h:=cU 53 rfl (al F) sH (dt rfl rfl) (h:=cH 54 rfl (ai z) sH (VR.ofV (bL rfl (al F) rfl)) (h:=kT 55 rfl (ai z) sH ar ?_)))))
     rcases bD H with⟨q,H⟩|⟨q,H⟩
     ·refine bM 56 rfl (ai q) (bM 57 rfl (ai q) (bM 58 rfl (ai q) (bM 59 rfl (ai q) (bM 60 rfl (ai q) (bM 61 rfl (ai q) (bM 62 rfl (ai q) (bM 63 rfl (ai q) (bM 64 rfl (ai q) (bM 65 rfl (ai q) ?_)))))))))
      refine bM 66 rfl (ai q) (bM 67 rfl (ai q) (cH 68 rfl (ai z) sH (VR.ofV (bR rfl (ai q) rfl)) (h:=cH 69 rfl rfl sH (VR.ofV (bR rfl (ai z) rfl)) (h:=bN 70 rfl sH (VR.ofV (bL rfl (rfl) rfl)) (h:=aV dd sH (aH (by kernel_rfl) ?_))))))
      have h:=aN H;subst h
      exact bH [1,0]
     refine cU 56 rfl (al q) sH ar (h:=cU 57 rfl (al q) sH ar (h:=kT 58 rfl (al q) sH (cV rfl rfl) ?_))
     obtain⟨⟨O,R⟩,H⟩:=aS H
     refine cH 59 rfl (al q) sH (br (i:=i64.wrap (a - 1)) Tryz.underlying24 ck rfl rfl (Src.buf (k:=0) rfl) O R) (h:=ib (.pointer (some ((el I ((i64.wrap (a - 1)).toNat * 15)).add 5))) 60 rfl (al q) sH (lL (el I ((i64.wrap (a - 1)).toNat * 15)) 0 5) (h:=cH 61 rfl (al q) sH (cf (enc:=cZ) (i:=i64.wrap (a - 1)) (j:=(i64.wrap (a - 1)).toNat * 15) (m:=5) (sz:=15) (vs:=(bF ((rd n8 (i64.wrap (a - 1))).f3))) Tryz.underlying28 rfl mf rfl rfl rfl (Src.buf (k:=0) rfl) O R (fun _ _ h=>h) rfl) (h:=cU 62 rfl (al q) sH ar (h:=kT 63 rfl (al q) sH ar ?_))))
     obtain⟨⟨S,U⟩,H⟩:=aS H
     refine cH 64 rfl (al q) sH (br (i:=a) Tryz.underlying24 ck rfl rfl (Src.buf (k:=0) rfl) S U) (h:=ib (.pointer (some ((el I (a.toNat * 15)).add 5))) 65 rfl (al q) sH (lL (el I (a.toNat * 15)) 0 5) (h:=cH 66 rfl (al q) sH (cf (enc:=cZ) (i:=a) (j:=a.toNat * 15) (m:=5) (sz:=15) (vs:=(bF ((rd n8 a).f3))) Tryz.underlying28 rfl mf rfl rfl rfl (Src.buf (k:=0) rfl) S U (fun _ _ h=>h) rfl) (h:=ib (.bool (decide (((rd n8 (i64.wrap (a - 1))).f3) ≠ ((rd n8 a).f3)))) 67 rfl (al q) sH (jU (xs:=(bF ((rd n8 (i64.wrap (a - 1))).f3))) (ys:=(bF ((rd n8 a).f3))) (r:=(((((rd n8 (i64.wrap (a - 1))).f3).f0) == (((rd n8 a).f3).f0)) && (((((rd n8 (i64.wrap (a - 1))).f3).f1) == (((rd n8 a).f3).f1)) && (((((rd n8 (i64.wrap (a - 1))).f3).f2) == (((rd n8 a).f3).f2)) && (((((rd n8 (i64.wrap (a - 1))).f3).f3) == (((rd n8 a).f3).f3)) && (((((rd n8 (i64.wrap (a - 1))).f3).f4) == (((rd n8 a).f3).f4)) && (((((rd n8 (i64.wrap (a - 1))).f3).f5) == (((rd n8 a).f3).f5)) && (((((rd n8 (i64.wrap (a - 1))).f3).f6) == (((rd n8 a).f3).f6)) && (((((rd n8 (i64.wrap (a - 1))).f3).f7) == (((rd n8 a).f3).f7)) && (((((rd n8 (i64.wrap (a - 1))).f3).f8) == (((rd n8 a).f3).f8)) && (((((rd n8 (i64.wrap (a - 1))).f3).f9) == (((rd n8 a).f3).f9)) && true))))))))))) (p:=((rd n8 (i64.wrap (a - 1))).f3) = ((rd n8 a).f3)) lh rfl rfl (by kernel_rfl) (lj (x:=((rd n8 (i64.wrap (a - 1))).f3)) (y:=((rd n8 a).f3)))) (h:=cH 68 rfl (ai z) sH (VR.ofV (bL rfl (al q) rfl)) (h:=cH 69 rfl rfl sH (VR.ofV (bR rfl (ai z) rfl)) (h:=bN 70 rfl sH (VR.ofV (bL rfl (rfl) rfl)) (h:=aV dd sH (aH (by kernel_rfl) ?_))))))))
     have h:=aN H;subst h
     exact bH [1,0]
    refine bM 44 rfl (al z) (bM 45 rfl (al z) (bM 46 rfl (al z) (cK 47 rfl (cK 48 rfl (cK 49 rfl (cK 50 rfl (cK 51 rfl (cK 52 rfl (cK 53 rfl ?_)))))))))
    refine bM 54 rfl (al z) (bM 55 rfl (al z) (cK 56 rfl (cK 57 rfl (cK 58 rfl (cK 59 rfl (cK 60 rfl (cK 61 rfl (cK 62 rfl (cK 63 rfl ?_)))))))))
    refine cK 64 rfl (cK 65 rfl (cK 66 rfl (cK 67 rfl (bM 68 rfl (al z) (cH 69 rfl rfl sH (VR.ofV (bL rfl (al z) rfl)) (h:=bN 70 rfl sH (VR.ofV (bL rfl (rfl) rfl)) (h:=aV dd sH (aH (by kernel_rfl) ?_))))))))
    have h:=aN H;subst h
    exact bH [1,0]
   rintro e ds As b0
   clear H
   have H:=b3
   clear b3
   refine aa (SA.of_St b0 fun junk=>?_)
   rcases bD H with⟨Y,H⟩|⟨Y,H⟩
   ·refine aD rfl Y (ak (ad ar (h:=ad ar (h:=ad ar (h:=S' ar ?_)))))
    obtain⟨⟨a4,a5⟩,H⟩:=aS H
    refine bq (br (i:=a) Tryz.underlying24 ck rfl rfl (Src.buf (k:=1) rfl) a4 a5) (h:=bT (.pointer (some ((el I (a.toNat * 15)).add 5))) (lL (el I (a.toNat * 15)) 0 5) (h:=l' (cf (enc:=cZ) (i:=a) (j:=a.toNat * 15) (m:=5) (sz:=15) (vs:=(bF ((rd n8 a).f3))) Tryz.underlying28 rfl mf rfl rfl rfl (Src.buf (k:=1) rfl) a4 a5 (fun _ _ h=>h) rfl) ?_))
    obtain⟨a9,c6,H⟩:=ac H
    refine o' (da [] [0,1] (pF.ok c6) ?_)
    obtain⟨⟨c8,c9⟩,H⟩:=aS H
    have d0 : 0 ≤ o0 + a:=by omega
    have d1 : o0 + a < (J.length : Int):=by omega
    refine l' (eQ (l:=o0) (m:=n0) (i:=a) (sz:=15) hw0 Tryz.underlying24 ck rfl rfl (Src.buf (k:=0) rfl) c8 c9 (by omega)) ?_
    obtain⟨d3,Z,H⟩:=bi H
    have hl_n4294 : d3.length = J.length:=by rw [Z]; exact List.length_set
    refine o' (iG (k:=0) (i:=o0 + a) (j:=(o0 + a).toNat * 15) (m:=0) (sz:=15) (xs:=J) (vs:=(bW a9)) a9 rfl rfl rfl rfl rfl rfl rfl rfl ck d0 d1 rfl (fun _ _ h_=>by subst h_; rfl) ?_)
    rewrite [← Z]
    try rewrite [← hl_n4294]
    refine ah (aG (aa (ak (ad ar (h:=S' (bX rfl rfl) ?_)))))
    obtain⟨a7,b9,H⟩:=bi H
    refine bT (ae a7) (bu (v:=ae a7) (congrArg (Value.int .i64) b9.symm)) (h:=ah ?_)
    exact aa ⟨a6,Nat.lt_succ_self _,_,_,H,eb [0,1]⟩
   refine aE rfl Y (ao (aG (aa (ak (ad ar (h:=S' (bX rfl rfl) ?_))))))
   obtain⟨a8,c5,H⟩:=bi H
   refine bT (ae a8) (bu (v:=ae a8) (congrArg (Value.int .i64) c5.symm)) (h:=ah ?_)
   exact aa ⟨a6,Nat.lt_succ_self _,_,_,H,eb [0,1]⟩
  refine aB rfl b8 (ci (aX (aX (cj ?_))))
  have h:=aN H;subst h
  exact bH [0]
 rintro e ds As b1
 clear H
 have H:=d4
 clear d4
 obtain⟨d6,H⟩:=aS H
 have h:=aN H;subst h
 exact nD b1 [Buf bI 55 A0 c0 t9] rfl (fk [0]) ⟨rfl,rfl⟩


def fy.l0 (a0 : bJ) (a1 : Int) (a2 : Int) (a3 : Int) (a4 : cN) (r18 : bJ) : Nat → Int → (List ba) → Option ((List ba))
  | 0,_,_=>none
  | k + 1,a,b=>if b.length = r18.f2.length then (if a < a0.f0 then ((pF.f a4).bind (fun p=>lt ((decide (a3 ≥ (i64.wrap (0 - a0.f0)))) && (decide (a3 ≤ a0.f0))) fun l=>lt (l && (decide ((i64.wrap (a - a3)) ≥ a2))) fun m=>lt (m && (decide ((i64.wrap (a - a3)) < a0.f0))) fun o=>(if o = true then ((dF.f a0 a1).bind (fun c=>if (0 ≤ c.1∧0 ≤ c.2∧c.1 + c.2 ≤ (a0.f2.length : Int)) then (if 0 ≤ (i64.wrap (a - a3))∧(i64.wrap (a - a3)) < c.2 then (some (ba.mk ((rd a0.f2 (c.1 + (i64.wrap (a - a3)))).f0) ((rd a0.f2 (c.1 + (i64.wrap (a - a3)))).f1) ((rd a0.f2 (c.1 + (i64.wrap (a - a3)))).f2) ((rd a0.f2 (c.1 + (i64.wrap (a - a3)))).f3))) else none) else none)) else (some p) : Option (ba)).bind (fun q=>(dF.f (bJ.mk r18.f0 r18.f1 b) a1).bind (fun d=>if (0 ≤ d.1∧0 ≤ d.2∧d.1 + d.2 ≤ (b.length : Int)) then (if 0 ≤ a∧a < d.2 then (lt (b.set (d.1 + a).toNat q) fun h=>(lt (i64.wrap (a + 1)) fun j=>fy.l0 a0 a1 a2 a3 a4 r18 k j h)) else none) else none)))) else (some b)) else none
def fy.f (k : Nat) (a0 : bJ) (a1 : Int) (a2 : Int) (a3 : Int) (a4 : cN) : Option (bJ × Int):=(ir.f k a0 a4 a1).bind (fun l=>lt (l || (decide (a2 < 0))) fun h=>lt (h || (decide (a2 ≥ a0.f0))) fun j=>if j = true then (some (((bJ.mk 0 0 ([] : (List ba))),2))) else ((hM.f a0).bind (fun b=>(fy.l0 a0 a1 a2 a3 a4 b k a2 b.f2 : Option ((List ba))).bind (fun c=>if c.length = b.f2.length then ((dF.f (bJ.mk b.f0 b.f1 c) a1).bind (fun a=>if (0 ≤ a.1∧0 ≤ a.2∧a.1 + a.2 ≤ (c.length : Int)) then ((eL.f k c a.1 a.2).bind (fun d=>if d.length = c.length then (some (((bJ.mk b.f0 b.f1 d),0))) else none)) else none)) else none))))
theorem fy.ok {a0 : bJ} {a1 : Int} {a2 : Int} {a3 : Int} {a4 : cN} {r : bJ × Int} (H : fy.f k a0 a1 a2 a3 a4 = some r) : dp Tryz.prog 102 #[.agg #[ae a0.f0,ae a0.f1,.slice af a0.f2.length ag],ae a1,ae a2,ae a3,.agg (bF a4).toArray] [Buf bI 55 af ag a0.f2] (fun v B=>∃ aQ aR,v = .tuple #[.agg #[ae r.1.f0,ae r.1.f1,.slice aQ r.1.f2.length aR],ae r.2]∧B = [Buf bI 55 aQ aR r.1.f2,Buf bI 55 af ag a0.f2]):=by
 refine aj Tryz.func102 rfl rfl ?_
 unfold fy.f at H
 refine aP (o' (bO (h:=fun u=>o' (bO (h:=fun E=>o' (cC (h:=fun s=>ad aW (h:=bA (ap (ap (bQ 0 fun g8=>ak (bq (cx u 0 1 [ae a0.f0,ae a0.f1,.slice af a0.f2.length ag]) (h:=l' (cm 2) ?_)))))))))))))
 refine S' ar ?_
 obtain⟨r9,e0,H⟩:=ac H
 refine o' (da [0] [1,2,3] (ir.ok e0) ?_)
 refine S' ar ?_
 obtain⟨d2,a6,H⟩:=bi H
 refine dy 3 [(1,ae a1),(2,ae a2),(3,ae a3),(5,aI u),(9,aI E),(10,aI s),(22,.bool d2)] [Buf bI 55 af ag a0.f2,aL u 26 [ae a0.f0,ae a0.f1,.slice af a0.f2.length ag],aL E 28 (bF a4),aL s 26 [ae 0,ae 0,.slice none 0 0]] ?_ fun junk=>?_
 ·by_cases K : r9 = true
  ·refine ct 2 K (bY K (h:=ah ?_))
   have x_:=ik a6 K;exact bH [0,1,2,3]
  refine aZ (aK K) ar (h:=aZ (aK K) (cg rfl rfl) (h:=ca (aK K) (h:=ah ?_)))
  have x_:=ij a6 ((aK K));exact bH [0,1,2,3]
 refine S' ar ?_
 obtain⟨f8,a7,H⟩:=bi H
 refine cI 5 (St [(1,ae a1),(2,ae a2),(3,ae a3),(5,aI u),(9,aI E),(10,aI s),(28,.bool f8)] [Buf bI 55 af ag a0.f2,aL u 26 [ae a0.f0,ae a0.f1,.slice af a0.f2.length ag],aL E 28 (bF a4),aL s 26 [ae 0,ae 0,.slice none 0 0]]) ?_ ?_
 ·by_cases F : d2 = true
  ·refine ct 4 F (bY F (h:=ah ?_))
   have x_:=ik a7 F;exact bH [0,1,2,3]
  refine aZ (aK F) ar (h:=aZ (aK F) aA (h:=cn (aK F) (aO 1) (h:=aZ (aK F) (dU rfl rfl) (h:=ca (aK F) (h:=ah ?_)))))
  have x_:=ij a7 ((aK F));exact bH [0,1,2,3]
 rintro e ds As c8
 refine bA (SA.of_St c8 fun junk=>?_)
 rcases bD H with⟨Y,H⟩|⟨Y,H⟩
 ·refine aD rfl Y (aP (bT (.agg #[ae 0,ae 0,.slice none 0 0]) dS (h:=o' (bj s 0 3 [ae 0,ae 0,.slice none 0 0] (h:=ad aW (h:=cA ?_))))))
  have h:=aN H;subst h
  exact lX [.cell 10 26,.tmp 11] ((Gh.nilBuf bI 55).trans (fk [4,0])) ⟨none,0,rfl,rfl⟩ ⟨cW 3,cX,trivial⟩
 refine aE rfl Y (ao (aa (aP (l' (cx u 0 1 [ae a0.f0,ae a0.f1,.slice af a0.f2.length ag]) ?_))))
 obtain⟨c,d9,H⟩:=ac H
 refine o' (gy [0] [1,2,3] (hM.ok d9) fun d o=>?_)
 refine o' (cC (h:=fun p=>o' (bj p 0 5 [ae c.f0,ae c.f1,.slice d c.f2.length o] (h:=eA (ad ar (h:=ad aW (h:=bA ?_)))))))
 obtain⟨O,H,S⟩:=ac H
 refine bK (St [(1,ae a1),(10,aI s),(12,aI p)] [Buf bI 55 af ag a0.f2,aL s 26 [ae 0,ae 0,.slice none 0 0],aL p 26 [ae c.f0,ae c.f1,.slice d O.length o],Buf bI 55 d o O]) ?_ ?_
 ·refine aT (cl (fun k_ e ds As=>∃ (a : Int) (b : (List ba)),fy.l0 a0 a1 a2 a3 a4 c k_ a b = some O∧St [(1,ae a1),(2,ae a2),(3,ae a3),(5,aI u),(9,aI E),(10,aI s),(12,aI p),(13,ae a)] [Buf bI 55 af ag a0.f2,aL u 26 [ae a0.f0,ae a0.f1,.slice af a0.f2.length ag],aL E 28 (bF a4),aL s 26 [ae 0,ae 0,.slice none 0 0],aL p 26 [ae c.f0,ae c.f1,.slice d b.length o],Buf bI 55 d o b] e ds As) (k:=k) ⟨_,_,H,jQ [1,2,3,4,5,0]⟩ ?_)
  clear H
  rintro b3 e ds As ⟨a,b,H,c9⟩
  obtain _ | b3:=b3
  ·cases H
  rw [fy.l0] at H
  obtain⟨g1,H⟩:=aS H
  refine SA.of_St c9 fun junk=>ap (aP (ad ar (h:=ad aA (h:=bq (aO 1) (h:=ad (cg rfl rfl) (h:=bA ?_))))))
  rcases bD H with⟨Z,H⟩|⟨Z,H⟩
  ·refine aC rfl Z (ao (aa (ap (aT (aP (l' (cm 2) ?_))))))
   obtain⟨N,d6,H⟩:=ac H
   refine o' (da [] [0,1,2,3,4,5] (pF.ok d6) ?_)
   refine o' (cC (h:=fun z=>o' (bj z 0 6 (bW N) (h:=eA (ad ar (h:=ad aA (h:=bq (aO 1) (h:=bT (ae (i64.wrap (0 - a0.f0))) (ms rfl) (h:=ad (dU rfl rfl) (h:=S' ar ?_))))))))))
   obtain⟨d3,a8,H⟩:=bi H
   refine dy 5 [(1,ae a1),(2,ae a2),(3,ae a3),(5,aI u),(9,aI E),(10,aI s),(12,aI p),(13,ae a),(14,aI z),(51,.bool d3)] [Buf bI 55 af ag a0.f2,aL u 26 [ae a0.f0,ae a0.f1,.slice af a0.f2.length ag],aL E 28 (bF a4),aL s 26 [ae 0,ae 0,.slice none 0 0],aL p 26 [ae c.f0,ae c.f1,.slice d b.length o],Buf bI 55 d o b,aL z 55 (bW N)] ?_ fun junk=>?_
   ·by_cases I : a3 ≥ (i64.wrap (0 - a0.f0))
    ·refine aZ (ai I) ar (h:=aZ (ai I) aA (h:=cn (ai I) (aO 1) (h:=aZ (ai I) (gF rfl rfl) (h:=bY (ai I) (h:=ah ?_)))))
     have x_:=fq a8 ((ai I));exact bH [0,1,2,3,4,5,6]
    refine ct 4 (al I) (ca (al I) (h:=ah ?_))
    have x_:=fp a8 ((al I));exact bH [0,1,2,3,4,5,6]
   refine S' ar ?_
   obtain⟨d4,a9,H⟩:=bi H
   refine dy 6 [(1,ae a1),(2,ae a2),(3,ae a3),(5,aI u),(9,aI E),(10,aI s),(12,aI p),(13,ae a),(14,aI z),(58,.bool d4)] [Buf bI 55 af ag a0.f2,aL u 26 [ae a0.f0,ae a0.f1,.slice af a0.f2.length ag],aL E 28 (bF a4),aL s 26 [ae 0,ae 0,.slice none 0 0],aL p 26 [ae c.f0,ae c.f1,.slice d b.length o],Buf bI 55 d o b,aL z 55 (bW N)] ?_ fun junk=>?_
   ·by_cases D : d3 = true
    ·refine aZ D ar (h:=aZ D ar (h:=aZ D (cV rfl rfl) (h:=aZ D ar (h:=aZ D (dU rfl rfl) (h:=bY D (h:=ah ?_))))))
     have x_:=fq a9 D;exact bH [0,1,2,3,4,5,6]
    refine ct 5 (aK D) (ca (aK D) (h:=ah ?_))
    have x_:=fp a9 ((aK D));exact bH [0,1,2,3,4,5,6]
   refine S' ar ?_
   obtain⟨f9,b0,H⟩:=bi H
   refine cI 7 (St [(1,ae a1),(2,ae a2),(3,ae a3),(5,aI u),(9,aI E),(10,aI s),(12,aI p),(13,ae a),(14,aI z),(66,.bool f9)] [Buf bI 55 af ag a0.f2,aL u 26 [ae a0.f0,ae a0.f1,.slice af a0.f2.length ag],aL E 28 (bF a4),aL s 26 [ae 0,ae 0,.slice none 0 0],aL p 26 [ae c.f0,ae c.f1,.slice d b.length o],Buf bI 55 d o b,aL z 55 (bW N)]) ?_ ?_
   ·by_cases y : d4 = true
    ·refine aZ y ar (h:=aZ y ar (h:=aZ y (cV rfl rfl) (h:=aZ y aA (h:=cn y (aO 1) (h:=aZ y (cg rfl rfl) (h:=bY y (h:=ah ?_)))))))
     have x_:=fq b0 y;exact bH [0,1,2,3,4,5,6]
    refine ct 6 (aK y) (ca (aK y) (h:=ah ?_))
    have x_:=fp b0 ((aK y));exact bH [0,1,2,3,4,5,6]
   rintro e ds As d0
   refine bA (SA.of_St d0 fun junk=>?_)
   obtain⟨R,H,U⟩:=ac H
   refine bK (fun e ds As=>∃ (L : Nat),St [(1,ae a1),(2,ae a2),(3,ae a3),(5,aI u),(9,aI E),(10,aI s),(12,aI p),(13,ae a),(14,aI L)] [aL L 55 (bW R),Buf bI 55 af ag a0.f2,aL u 26 [ae a0.f0,ae a0.f1,.slice af a0.f2.length ag],aL E 28 (bF a4),aL s 26 [ae 0,ae 0,.slice none 0 0],aL p 26 [ae c.f0,ae c.f1,.slice d b.length o],Buf bI 55 d o b] e ds As) ?_ ?_
   ·rcases bD H with⟨a5,H⟩|⟨a5,H⟩
    ·refine aD rfl a5 (bQ 5 fun g4=>ak (bq (cx u 0 1 [ae a0.f0,ae a0.f1,.slice af a0.f2.length ag]) (h:=S' ar ?_)))
     obtain⟨q,e9,H⟩:=ac H
     obtain⟨⟨hl48a,hl48b,hl48c⟩,H⟩:=aS H
     refine o' (mu [0] [1,2,3,4,5,6] (dF.ok e9) ?_)
     rintro _ _⟨g7,h0,e6,rfl,rfl⟩
     refine ad ar (h:=ad ar (h:=S' (cV rfl rfl) ?_))
     obtain⟨⟨f4,f5⟩,H⟩:=aS H
     have f6 : 0 ≤ q.1 + (i64.wrap (a - a3)):=by omega
     have f7 : q.1 + (i64.wrap (a - a3)) < (a0.f2.length : Int):=by omega
     refine bq (eQ (l:=q.1) (m:=q.2) (i:=i64.wrap (a - a3)) (sz:=15) e6 Tryz.underlying24 ck rfl rfl (Src.buf (k:=0) rfl) f4 f5 (by omega)) (h:=bq (cf (enc:=cZ) (i:=q.1 + (i64.wrap (a - a3))) (j:=(q.1 + (i64.wrap (a - a3))).toNat * 15) (m:=0) (sz:=15) (vs:=(bW (ba.mk ((rd a0.f2 (q.1 + (i64.wrap (a - a3)))).f0) ((rd a0.f2 (q.1 + (i64.wrap (a - a3)))).f1) ((rd a0.f2 (q.1 + (i64.wrap (a - a3)))).f2) ((rd a0.f2 (q.1 + (i64.wrap (a - a3)))).f3)))) Tryz.underlying55 rfl ck rfl rfl rfl (Src.buf (k:=0) rfl) f6 f7 (fun _ _ h=>h) rfl) (h:=o' (bj z 0 6 (bW (ba.mk ((rd a0.f2 (q.1 + (i64.wrap (a - a3)))).f0) ((rd a0.f2 (q.1 + (i64.wrap (a - a3)))).f1) ((rd a0.f2 (q.1 + (i64.wrap (a - a3)))).f2) ((rd a0.f2 (q.1 + (i64.wrap (a - a3)))).f3))) (h:=ah ?_))))
     have h:=aN H;subst h
     exact aa ⟨z,eb [6,0,1,2,3,4,5]⟩
    refine aE rfl a5 (ao ?_)
    have h:=aN H;subst h
    exact aa ⟨z,eb [6,0,1,2,3,4,5]⟩
   rintro e ds As ⟨L,d1⟩
   clear H
   have H:=U
   clear U
   refine aa (SA.of_St d1 fun junk=>bQ 6 fun g5=>?_)
   refine fO [0,1,3,4,5] #[[],[],[0,1],[],[],[0,1,3,4],[0,1,3,4,5]] [aL L 55 (bW R),aL p 26 [ae c.f0,ae c.f1,.slice d b.length o],Buf bI 55 d o b] jx (bV.inb (bV.thn (bV.thn (bV.inb (bV.thn (bV.thn bV.body)))))) fun I0 g9 w0 pk=>?_
   refine hD 0 [0,5,6] rfl (cx p 0 1 [ae c.f0,ae c.f1,.slice d b.length o]) (h:=eF (ae a1) 1 [0,5,6] rfl fP (h:=eF (ae a) 3 [0,5,6] rfl fP (h:=sK 4 [0,5,6] rfl (cm 0) ?_)))
   obtain⟨J,d5,H⟩:=ac H
   obtain⟨⟨hl180a,hl180b,hl180c⟩,H⟩:=aS H
   refine fa 2 (by kernel_rfl) rfl (.no rfl) (mu [6] [0,1,2,3,4,5] (dF.ok d5) ?_)
   rintro _ _⟨g3,g6,b9,rfl,rfl⟩
   refine ⟨fun _=>⟨[1,6,0],rfl,rfl⟩,?_⟩
   obtain⟨⟨e2,e3⟩,H⟩:=aS H
   have e4 : 0 ≤ J.1 + a:=by omega
   have e5 : J.1 + a < (b.length : Int):=by omega
   refine sK 5 [1,6,0] rfl (eQ (l:=J.1) (m:=J.2) (i:=a) (sz:=15) b9 Tryz.underlying24 ck rfl rfl (Src.buf (k:=2) rfl) e2 e3 (by omega)) ?_
   obtain⟨e7,M,H⟩:=bi H
   have hl_n416 : e7.length = b.length:=by rw [M]; exact List.length_set
   refine fa 6 (by kernel_rfl) rfl (.no rfl) (iG (k:=0) (i:=J.1 + a) (j:=(J.1 + a).toNat * 15) (m:=0) (sz:=15) (xs:=b) (vs:=(bW R)) R rfl rfl rfl rfl rfl rfl rfl rfl ck e4 e5 rfl (fun _ _ h_=>by subst h_; rfl) ?_)
   rewrite [← M]
   try unfold bF
   try rewrite [← hl_n416]
   refine ⟨fun h_=>absurd h_ (by decide),?_⟩
   refine aH (by kernel_rfl) (aG (aa (ak (ad ar (h:=S' (bX rfl rfl) ?_)))))
   obtain⟨b5,c7,H⟩:=bi H
   refine bT (ae b5) (bu (v:=ae b5) (congrArg (Value.int .i64) c7.symm)) (h:=ah ?_)
   exact aa ⟨b3,Nat.lt_succ_self _,_,_,H,eb [2,3,4,5,6,0]⟩
  refine aB rfl Z (ci (aX (aX (cj ?_))))
  have h:=aN H;subst h
  exact bH [0,3,4,5]
 rintro e ds As b1
 clear H
 have H:=S
 clear S
 obtain⟨g2,H⟩:=aS H
 refine aa (SA.of_St b1 fun junk=>ap (bQ 3 fun g0=>ak (bq (cx p 0 2 [ae c.f0,ae c.f1,.slice d O.length o]) (h:=S' ar ?_))))
 obtain⟨b7,d8,H⟩:=ac H
 obtain⟨⟨hl486a,hl486b,hl486c⟩,H⟩:=aS H
 refine o' (mu [3] [0,1,2] (dF.ok d8) ?_)
 rintro _ _⟨e1,e8,c5,rfl,rfl⟩
 obtain⟨b8,d7,H⟩:=ac H
 obtain⟨c6,H⟩:=aS H
 refine o' (da [0] [1,2,3] (eL.ok (o0:=b7.1) (n0:=b7.2) (A0:=d) (c0:=o) (V0:=e1) (v0:=e8) (hw0:=c5) d7) ?_)
 try unfold bF
 try rewrite [← c6]
 refine cR (bq (cx p 0 3 [ae c.f0,ae c.f1,.slice d b8.length o]) (h:=o' (bj s 0 2 [ae c.f0,ae c.f1,.slice d b8.length o] (h:=ad aW (h:=cD ?_)))))
 have h:=aN H;subst h
 exact dE [.cell 10 26,.tmp 11] [0,1] ⟨d,o,rfl,rfl⟩ ⟨cW 2,cX,trivial⟩


def pI.f (k : Nat) (a0 : Int) (a1 : cN) : Option ((List ba)):=(qT.f k a0).bind (fun a=>if a = 1 then (some (([(ba.mk a0 (fX.mk 0 0 0) 1 a1)] : (List ba)))) else (if a = 2 then (some (([(ba.mk a0 (fX.mk 0 0 0) 2 a1),(ba.mk 0 (fX.mk 0 0 0) 0 a1)] : (List ba)))) else (some (([] : (List ba))))))
theorem pI.ok {a0 : Int} {a1 : cN} {r : (List ba)} (H : pI.f k a0 a1 = some r) : dp Tryz.prog 104 #[aM a0,.agg (bF a1).toArray] [] (fun v B=>∃ aQ aR,v = .slice aQ r.length aR∧B = [Buf bI 55 aQ aR r]):=by
 refine aj Tryz.func104 rfl rfl ?_
 unfold pI.f at H
 refine aP (o' (bO (h:=fun l=>ad aW (h:=eA (S' ar ?_)))))
 obtain⟨m,c,H⟩:=ac H
 refine o' (da [] [0] (qT.ok c) ?_)
 refine bA (aT (aP (ad (bk rfl rfl) (h:=ad aW (h:=bA ?_)))))
 rcases bD H with⟨a,H⟩|⟨a,H⟩
 ·refine aC rfl a (aP (ad ar (h:=bq (cm 0) (h:=bT (.agg (bW (ba.mk a0 (fX.mk 0 0 0) 1 a1)).toArray) dS (h:=o' (gD (kd:=bI) (zv:=(.agg (bW lu).toArray)) (sz:=15) (cells:=(bW (ba.mk a0 (fX.mk 0 0 0) 1 a1))) (xs:=([(ba.mk a0 (fX.mk 0 0 0) 1 a1)] : (List ba))) rfl Tryz.underlying24 jF ck rfl rfl rfl (by kernel_rfl) rfl rfl (dR cZ (fun _ _=>rfl) (by kernel_rfl)) fun d=>ad aW (h:=cD (aY (aF ?_)))))))))
  have h:=aN H;subst h
  exact dJ [1] ⟨some ⟨d,0,none⟩,1,rfl,rfl⟩
 refine aB rfl a (aP (ad (bk rfl rfl) (h:=ad aW (h:=bA ?_))))
 rcases bD H with⟨b,H⟩|⟨b,H⟩
 ·refine aC rfl b (aP (ad ar (h:=bq (cm 0) (h:=bT (.agg (bW (ba.mk a0 (fX.mk 0 0 0) 2 a1)).toArray) dS (h:=bq (cm 0) (h:=bT (.agg (bW (ba.mk 0 (fX.mk 0 0 0) 0 a1)).toArray) dS (h:=o' (gD (kd:=bI) (zv:=(.agg (bW lu).toArray)) (sz:=15) (cells:=(aM a0::aM 0::aM 0::aM 0::.int .u8 2::ae a1.f0::ae a1.f1::.bool a1.f2::.bool a1.f3::.bool a1.f4::.bool a1.f5::.bool a1.f6::.bool a1.f7::.bool a1.f8::.bool a1.f9::aM 0::aM 0::aM 0::aM 0::.int .u8 0::ae a1.f0::ae a1.f1::.bool a1.f2::.bool a1.f3::.bool a1.f4::.bool a1.f5::.bool a1.f6::.bool a1.f7::.bool a1.f8::.bool a1.f9::[])) (xs:=([(ba.mk a0 (fX.mk 0 0 0) 2 a1),(ba.mk 0 (fX.mk 0 0 0) 0 a1)] : (List ba))) rfl Tryz.underlying24 jF ck rfl rfl rfl (by kernel_rfl) rfl rfl (dR cZ (fun _ _=>rfl) (by kernel_rfl)) fun j=>ad aW (h:=cD (aY (aF ?_)))))))))))
  have h:=aN H;subst h
  exact dJ [1] ⟨some ⟨j,0,none⟩,2,rfl,rfl⟩
 refine aB rfl b (ao (aG (aa (aP (ad aW (h:=cD ?_))))))
 have h:=aN H;subst h
 exact mi [Buf bI 55 none 0 ([] : (List ba))] rfl rfl ((Gh.nilBuf bI 55).trans (fk [1])) ⟨none,0,rfl,rfl⟩


def eT.l0 (l4 : (List ba)) : Nat → bJ → Int → Option (Out (bJ × Int) (bJ))
  | 0,_,_=>none
  | k + 1,b,a=>if a < (l4.length : Int) then (if 0 ≤ a∧a < (l4.length : Int) then ((kA.f k (rd l4 a)).bind (fun c=>if (!c) = true then (some (Out.ret (((bJ.mk 0 0 ([] : (List ba))),2)))) else (lt (i64.wrap (a + 1)) fun n39=>eT.l0 l4 k b n39))) else none) else (some (Out.go b))
def eT.f (k : Nat) (a0 : bJ) (a1 : Int) (a2 : Int) (a3 : cN) (l4 : (List ba)) : Option (bJ × Int):=(ir.f k a0 a3 a1).bind (fun l=>lt (l || (decide (a2 < 0))) fun h=>lt (h || (decide (a2 ≥ a0.f0))) fun j=>if j = true then (some (((bJ.mk 0 0 ([] : (List ba))),2))) else ((eT.l0 l4 k (bJ.mk 0 0 ([] : (List ba))) 0 : Option (Out (bJ × Int) (bJ))).bind (fun m=>Out.el m (fun r_=>some r_) (fun o=>(hM.f a0).bind (fun b=>(dF.f b a1).bind (fun a=>if (0 ≤ a.1∧0 ≤ a.2∧a.1 + a.2 ≤ (b.f2.length : Int)) then (if 0 ≤ a2∧a2 ≤ a.2∧a.2 ≤ a.2 then (lt (bB b.f2 (a.1 + a2).toNat (l4.take (a.2 - a2).toNat)) fun n61=>((dF.f (bJ.mk b.f0 b.f1 n61) a1).bind (fun c=>if (0 ≤ c.1∧0 ≤ c.2∧c.1 + c.2 ≤ (n61.length : Int)) then ((eL.f k n61 c.1 c.2).bind (fun d=>if d.length = n61.length then (some (((bJ.mk b.f0 b.f1 d),0))) else none)) else none))) else none) else none))))))
theorem eT.ok {a0 : bJ} {a1 : Int} {a2 : Int} {a3 : cN} {l4 : (List ba)} {A4 : Option Addr} {c4 : Nat} {r : bJ × Int} (H : eT.f k a0 a1 a2 a3 l4 = some r) : dp Tryz.prog 103 #[.agg #[ae a0.f0,ae a0.f1,.slice af a0.f2.length ag],ae a1,ae a2,.agg (bF a3).toArray,.slice A4 l4.length c4] [Buf bI 55 af ag a0.f2,Buf bI 55 A4 c4 l4] (fun v B=>∃ aQ aR,v = .tuple #[.agg #[ae r.1.f0,ae r.1.f1,.slice aQ r.1.f2.length aR],ae r.2]∧B = [Buf bI 55 aQ aR r.1.f2,Buf bI 55 af ag a0.f2,Buf bI 55 A4 c4 l4]):=by
 refine aj Tryz.func103 rfl rfl ?_
 unfold eT.f at H
 refine aP (o' (bO (h:=fun E=>o' (bO (h:=fun b5=>o' (cC (h:=fun O=>ad aW (h:=bA (ap (ap (bQ 0 fun e6=>bQ 1 fun e3=>ak (l' (cx E 0 2 [ae a0.f0,ae a0.f1,.slice af a0.f2.length ag]) ?_))))))))))))
 refine bq (cm 3) (h:=S' ar ?_)
 obtain⟨e1,d8,H⟩:=ac H
 refine o' (da [0] [1,2,3,4] (ir.ok d8) ?_)
 refine S' ar ?_
 obtain⟨c5,a6,H⟩:=bi H
 refine dy 3 [(1,ae a1),(2,ae a2),(4,.slice A4 l4.length c4),(5,aI E),(10,aI O),(21,.bool c5)] [Buf bI 55 A4 c4 l4,Buf bI 55 af ag a0.f2,aL E 26 [ae a0.f0,ae a0.f1,.slice af a0.f2.length ag],aL O 26 [ae 0,ae 0,.slice none 0 0]] ?_ fun junk=>?_
 ·by_cases D : e1 = true
  ·refine ct 2 D (bY D (h:=ah ?_))
   have x_:=ik a6 D;exact bH [1,0,2,4]
  refine aZ (aK D) ar (h:=aZ (aK D) (cg rfl rfl) (h:=ca (aK D) (h:=ah ?_)))
  have x_:=ij a6 ((aK D));exact bH [1,0,2,4]
 refine S' ar ?_
 obtain⟨e0,a7,H⟩:=bi H
 refine cI 5 (St [(1,ae a1),(2,ae a2),(4,.slice A4 l4.length c4),(5,aI E),(10,aI O),(27,.bool e0)] [Buf bI 55 A4 c4 l4,Buf bI 55 af ag a0.f2,aL E 26 [ae a0.f0,ae a0.f1,.slice af a0.f2.length ag],aL O 26 [ae 0,ae 0,.slice none 0 0]]) ?_ ?_
 ·by_cases p : c5 = true
  ·refine ct 4 p (bY p (h:=ah ?_))
   have x_:=ik a7 p;exact bH [0,1,2,3]
  refine aZ (aK p) ar (h:=aZ (aK p) aA (h:=cn (aK p) (aO 2) (h:=aZ (aK p) (dU rfl rfl) (h:=ca (aK p) (h:=ah ?_)))))
  have x_:=ij a7 ((aK p));exact bH [0,1,2,3]
 rintro e ds As a8
 refine bA (SA.of_St a8 fun junk=>?_)
 rcases bD H with⟨U,H⟩|⟨U,H⟩
 ·refine aD rfl U (aP (bT (.agg #[ae 0,ae 0,.slice none 0 0]) dS (h:=o' (bj O 0 3 [ae 0,ae 0,.slice none 0 0] (h:=ad aW (h:=cA ?_))))))
  have h:=aN H;subst h
  exact lX [.cell 10 26,.tmp 11] ((Gh.nilBuf bI 55).trans (fk [4,1,0])) ⟨none,0,rfl,rfl⟩ ⟨cW 3,cX,trivial⟩
 refine aE rfl U (ao (aa (ap (aP (ad aW (h:=bA ?_))))))
 obtain⟨c8,H,y⟩:=ac H
 refine bK (fun e ds As=>∃ (I : bJ),c8 = Out.go I∧∃ (M : Nat),∃ (R : Option Addr) (S : Nat),St [(1,ae a1),(2,ae a2),(4,.slice A4 l4.length c4),(5,aI E),(10,aI M)] [aL M 26 [ae I.f0,ae I.f1,.slice R I.f2.length S],Buf bI 55 R S I.f2,Buf bI 55 A4 c4 l4,Buf bI 55 af ag a0.f2,aL E 26 [ae a0.f0,ae a0.f1,.slice af a0.f2.length ag]] e ds As) ?_ ?_
 ·refine aT (cl (fun k_ e ds As=>∃ (d : bJ) (c : Int),∃ (F : Nat),∃ (J : Option Addr) (K : Nat),eT.l0 l4 k_ d c = some c8∧St [(1,ae a1),(2,ae a2),(4,.slice A4 l4.length c4),(5,aI E),(10,aI F),(12,ae c)] [Buf bI 55 A4 c4 l4,Buf bI 55 af ag a0.f2,aL E 26 [ae a0.f0,ae a0.f1,.slice af a0.f2.length ag],aL F 26 [ae d.f0,ae d.f1,.slice J d.f2.length K],Buf bI 55 J K d.f2] e ds As) (k:=k) ⟨_,_,O,none,0,H,St.mk1 (cO rfl (cO rfl (cO rfl (cO rfl (cO rfl (cO rfl dY)))))) ((Gh.nilBuf bI 55).trans (fk [0,1,2,3,4]))⟩ ?_)
  clear H
  rintro xS e ds As ⟨d,c,F,J,K,H,a9⟩
  obtain _ | xS:=xS
  ·cases H
  rw [eT.l0] at H
  refine SA.of_St a9 fun junk=>ap (aP (ad ar (h:=ad ar (h:=bT (ae (l4.length : Int)) (cP Tryz.underlying24 rfl) (h:=ad (cg rfl rfl) (h:=bA ?_))))))
  rcases bD H with⟨Y,H⟩|⟨Y,H⟩
  ·refine aC rfl Y (ao (aa (ap (aT (aP (ad ar (h:=S' ar ?_)))))))
   obtain⟨⟨b2,b4⟩,H⟩:=aS H
   refine bq (br (i:=c) Tryz.underlying24 ck rfl rfl (Src.buf (k:=0) rfl) b2 b4) (h:=l' (cf (enc:=cZ) (i:=c) (j:=c.toNat * 15) (m:=0) (sz:=15) (vs:=(bW (ba.mk ((rd l4 c).f0) ((rd l4 c).f1) ((rd l4 c).f2) ((rd l4 c).f3)))) Tryz.underlying55 rfl ck rfl rfl rfl (Src.buf (k:=0) rfl) b2 b4 (fun _ _ h=>h) rfl) ?_)
   obtain⟨e7,d3,H⟩:=ac H
   refine o' (da [] [0,1,2,3,4] (kA.ok d3) ?_)
   refine ad (bU rfl) (h:=bA ?_)
   rcases bD H with⟨Z,H⟩|⟨Z,H⟩
   ·refine aD rfl Z (aP (bT (.agg #[ae 0,ae 0,.slice none 0 0]) dS (h:=o' (bj F 0 3 [ae 0,ae 0,.slice none 0 0] (h:=ad aW (h:=cD (aY (aF (aF (aY (aF (aF ?_))))))))))))
    have h:=aN H;subst h
    have hb_:=dz y
    have hr_:=Option.some.inj hb_
    clear hb_
    subst hr_
    exact lX [.cell 10 26,.tmp 11] ((Gh.nilBuf bI 55).trans (fk [5,1,0])) ⟨none,0,rfl,rfl⟩ ⟨cW 3,cX,trivial⟩
   refine aE rfl Z (ao (aG (aa (ak (ad ar (h:=S' (bX rfl rfl) ?_))))))
   obtain⟨n39,d2,H⟩:=bi H
   refine bT (ae n39) (bu (v:=ae n39) (congrArg (Value.int .i64) d2.symm)) (h:=ah ?_)
   exact aa ⟨xS,Nat.lt_succ_self _,_,_,F,J,K,H,eb [0,1,2,3,4]⟩
  refine aB rfl Y (ci (aX (aX (cj ?_))))
  have h:=aN H;subst h
  exact aa ⟨d,rfl,F,J,K,eb [3,4,0,1,2]⟩
 rintro e ds As ⟨I,ht,M,R,S,b0⟩
 clear H
 subst ht
 replace y:=fi y
 have H:=y
 clear y
 refine aa (SA.of_St b0 fun junk=>ap (bQ 1 fun e4=>ak (l' (cx E 0 4 [ae a0.f0,ae a0.f1,.slice af a0.f2.length ag]) ?_)))
 obtain⟨o,d7,H⟩:=ac H
 refine o' (gy [3] [0,1,2,4] (hM.ok d7) fun s z=>?_)
 refine o' (cC (h:=fun N=>o' (bj N 0 6 [ae o.f0,ae o.f1,.slice s o.f2.length z] (h:=bA (ap (bQ 0 fun e5=>ak (bq (cx N 0 6 [ae o.f0,ae o.f1,.slice s o.f2.length z]) (h:=S' ar ?_))))))))
 obtain⟨u,d6,H⟩:=ac H
 obtain⟨⟨hl54a,hl54b,hl54c⟩,H⟩:=aS H
 refine o' (mu [0] [1,2,3,4,5,6] (dF.ok d6) ?_)
 rintro _ _⟨b1,L,a4,rfl,rfl⟩
 refine S' ar ?_
 obtain⟨⟨b6,b8,b9⟩,H⟩:=aS H
 refine s' (.slice (dv b1 a2 ((L : Nat) : Int) 15) (u.2 - a2).toNat (((L : Nat) : Int).toNat - a2.toNat)) (dA (l:=u.1) (m:=u.2) (a:=a2) (b:=u.2) (q:=((L : Nat) : Int)) a4 Tryz.underlying24 ck rfl rfl rfl rfl (.inr ⟨_,rfl⟩) (.inl ⟨rfl,rfl,rfl⟩) (.inl ⟨rfl,rfl⟩) b6 b8 b9) ?_
 have c9 : ey s (dv b1 a2 ((L : Nat) : Int) 15) 15 (u.1 + a2) (u.2 - a2) (((L : Nat) : Int).toNat - a2.toNat):=ey.sub a4 b6 b8 b9 (.inl rfl) (Int.le_refl _)
 refine S' ar ?_
 obtain⟨n61,a5,H⟩:=bi H
 have hl_n61 : n61.length = o.f2.length:=by rw [a5]; exact eU (by rw [List.length_take]; omega)
 refine o' (gn (k:=0) (l:=u.1 + a2) (m:=u.2 - a2) (xs:=o.f2) (ys:=l4) n61 a5 c9 rfl Tryz.underlying24 ck rfl rfl rfl (by omega) rfl (pE.slice (Src.buf (k:=4) rfl)) ?_)
 try unfold bF
 try rewrite [← hl_n61]
 refine cR (bq (cx N 0 6 [ae o.f0,ae o.f1,.slice s n61.length z]) (h:=S' ar ?_))
 obtain⟨c6,d5,H⟩:=ac H
 obtain⟨⟨hl66a,hl66b,hl66c⟩,H⟩:=aS H
 refine o' (mu [0] [1,2,3,4,5,6] (dF.ok d5) ?_)
 rintro _ _⟨d9,e2,d0,rfl,rfl⟩
 obtain⟨c7,d4,H⟩:=ac H
 obtain⟨d1,H⟩:=aS H
 refine o' (da [0] [1,2,3,4,5,6] (eL.ok (o0:=c6.1) (n0:=c6.2) (A0:=s) (c0:=z) (V0:=d9) (v0:=e2) (hw0:=d0) d4) ?_)
 try unfold bF
 try rewrite [← d1]
 refine cR (bq (cx N 0 6 [ae o.f0,ae o.f1,.slice s c7.length z]) (h:=o' (bj M 0 2 [ae o.f0,ae o.f1,.slice s c7.length z] (h:=ad aW (h:=cD ?_)))))
 have h:=aN H;subst h
 exact dE [.cell 10 26,.tmp 11] [0,1,4] ⟨s,z,rfl,rfl⟩ ⟨cW 2,cX,trivial⟩


def pR.f (k : Nat) (a0 : aJ) (a1 : Int) : Option (aJ × Int):=(gl.f k a0).bind (fun a=>if (!a.2) = true then (some ((a.1,2))) else ((qT.f k a1).bind (fun d=>if d < 0 then (some ((a.1,0))) else (if d = 0 then ((lR.f k a.1 a1).bind (fun s=>some ((s,0)))) else (lt (a.1.f3 && a.1.f8) fun q=>(if q = true then ((io.f k (aJ.mk a.1.f0 a.1.f1 0 a.1.f3 a.1.f4 a.1.f5 a.1.f6 a.1.f7 a.1.f8 a.1.f9 a.1.f10 a.1.f11 a.1.f12 a.1.f13 a.1.f14 a.1.f15 a.1.f16 a.1.f17)).bind (fun u=>some u)) else (some a.1) : Option (aJ)).bind (fun h=>lt (i64.wrap (h.f0.f0 - 1)) fun n85=>lt ((decide (d = 2)) && (decide (h.f2 = n85))) fun r=>(if r = true then (lt ((!h.f8) || (decide (n85 = 0))) fun l=>if l = true then (some (Out.ret ((({ h with f3:=false }),0)))) else ((io.f k ({ h with f2:=0,f3:=false })).bind (fun m=>some (Out.go (m,(aJ.mk (bJ.mk 0 0 ([] : (List ba))) 0 0 false (cN.mk 0 0 false false false false false false false false) 0 0 ([] : (List Int)) false false false false false false (dH.mk 0 0 false false (cN.mk 0 0 false false false false false false false false)) false (bJ.mk 0 0 ([] : (List ba))) ([] : (List Int)))))))) else (some (Out.go (({ h with f3:=false }),(aJ.mk (bJ.mk 0 0 ([] : (List ba))) 0 0 false (cN.mk 0 0 false false false false false false false false) 0 0 ([] : (List Int)) false false false false false false (dH.mk 0 0 false false (cN.mk 0 0 false false false false false false false false)) false (bJ.mk 0 0 ([] : (List ba))) ([] : (List Int)))))) : Option (Out (aJ × Int) (aJ × aJ))).bind (fun y=>Out.el y (fun r_=>some r_) (fun b=>(if b.1.f10 = true then ((fy.f k b.1.f0 b.1.f1 b.1.f2 d b.1.f4).bind (fun o=>some (aJ.mk o.1 b.1.f1 b.1.f2 b.1.f3 b.1.f4 b.1.f5 b.1.f6 b.1.f7 b.1.f8 b.1.f9 b.1.f10 b.1.f11 b.1.f12 b.1.f13 b.1.f14 b.1.f15 b.1.f16 b.1.f17))) else (some b.1) : Option (aJ)).bind (fun c=>(pI.f k a1 c.f4).bind (fun p=>(eT.f k c.f0 c.f1 c.f2 c.f4 p).bind (fun j=>if (i64.wrap (c.f2 + d)) > n85 then (some ((({ c with f0:=j.1,f2:=n85,f3:=true }),0))) else (some ((({ c with f0:=j.1,f2:=(i64.wrap (c.f2 + d)) }),0))))))))))))))

def jJ.l0 (r13 : aJ × Bool) : Nat → Int → Int → Option (Int)
  | 0,_,_=>none
  | k + 1,b,a=>if a ≥ 0 then (if 0 ≤ a∧a < (r13.1.f7.length : Int) then (if (rd r13.1.f7 a) > r13.1.f2 then (if 0 ≤ a∧a < (r13.1.f7.length : Int) then (lt (rd r13.1.f7 a) fun c=>lt (i64.wrap (a - 1)) fun d=>jJ.l0 r13 k c d) else none) else (lt (i64.wrap (a - 1)) fun h=>jJ.l0 r13 k b h)) else none) else (some b)
def jJ.f (k : Nat) (a0 : aJ) (a1 : Int) : Option (aJ × Int):=(gl.f k a0).bind (fun a=>if (!a.2) = true then (some ((a.1,2))) else (if a1 = 8 then (some (((aJ.mk a.1.f0 a.1.f1 (fE 0 (i64.wrap (a.1.f2 - 1))) false a.1.f4 a.1.f5 a.1.f6 a.1.f7 a.1.f8 a.1.f9 a.1.f10 a.1.f11 a.1.f12 a.1.f13 a.1.f14 a.1.f15 a.1.f16 a.1.f17),0))) else (if a1 = 9 then (lt (i64.wrap (a.1.f0.f0 - 1)) fun n29=>lt (i64.wrap ((a.1.f7.length : Int) - 1)) fun n30=>(jJ.l0 a k n29 n30 : Option (Int)).bind (fun h=>some (((aJ.mk a.1.f0 a.1.f1 h false a.1.f4 a.1.f5 a.1.f6 a.1.f7 a.1.f8 a.1.f9 a.1.f10 a.1.f11 a.1.f12 a.1.f13 a.1.f14 a.1.f15 a.1.f16 a.1.f17),0)))) else ((if a1 = 10 then (some (decide (a1 = 10))) else (if a1 = 11 then (some (decide (a1 = 11))) else (some (decide (a1 = 12)))) : Option (Bool)).bind (fun d=>if d = true then ((io.f k a.1).bind (fun b=>some ((({ b with f3:=false }),0)))) else (if a1 = 13 then (some (((aJ.mk a.1.f0 a.1.f1 0 false a.1.f4 a.1.f5 a.1.f6 a.1.f7 a.1.f8 a.1.f9 a.1.f10 a.1.f11 a.1.f12 a.1.f13 a.1.f14 a.1.f15 a.1.f16 a.1.f17),0))) else (if a1 = 141 then (if a.1.f1 = a.1.f5 then ((cG.f k a.1.f0 a.1.f5 a.1.f6 (-1) a.1.f4).bind (fun c=>some (((aJ.mk c.1 a.1.f1 a.1.f2 false a.1.f4 a.1.f5 a.1.f6 a.1.f7 a.1.f8 a.1.f9 a.1.f10 a.1.f11 a.1.f12 a.1.f13 a.1.f14 a.1.f15 a.1.f16 a.1.f17),0)))) else (if a.1.f1 > 0 then (some (((aJ.mk a.1.f0 (i64.wrap (a.1.f1 - 1)) a.1.f2 false a.1.f4 a.1.f5 a.1.f6 a.1.f7 a.1.f8 a.1.f9 a.1.f10 a.1.f11 a.1.f12 a.1.f13 a.1.f14 a.1.f15 a.1.f16 a.1.f17),0))) else (some (((aJ.mk a.1.f0 a.1.f1 a.1.f2 false a.1.f4 a.1.f5 a.1.f6 a.1.f7 a.1.f8 a.1.f9 a.1.f10 a.1.f11 a.1.f12 a.1.f13 a.1.f14 a.1.f15 a.1.f16 a.1.f17),0))))) else (some ((a.1,0))))))))))

def kz.f (a0 : Int) (a1 : Int) (a2 : Int) (a3 : Int) : Option (Int):=if a1 > (i64.wrap (a3 - a0)) then (some (a3)) else (if a1 < (i64.wrap (a2 - a0)) then (some (a2)) else (lt (i64.wrap (a0 + a1)) fun a=>some (a)))
theorem kz.ok {a0 : Int} {a1 : Int} {a2 : Int} {a3 : Int} {r : Int} (H : kz.f a0 a1 a2 a3 = some r) : fU Tryz.prog 106 #[ae a0,ae a1,ae a2,ae a3] [] (ae r):=by
 refine aj Tryz.func106 rfl rfl ?_
 unfold kz.f at H
 refine aP (ad aW (h:=eA (ad ar (h:=ad ar (h:=ad ar (h:=ad (cV rfl rfl) (h:=ad (eN rfl rfl) (h:=bA ?_))))))))
 rcases bD H with⟨a,H⟩|⟨a,H⟩
 ·refine aC rfl a (aP (ad ar (h:=ad aW (h:=cA ?_))))
  have h:=aN H;subst h
  exact dJ [] ⟨rfl,rfl⟩
 refine aB rfl a (ao (aa (ap (aP (ad ar (h:=ad ar (h:=ad ar (h:=ad (cV rfl rfl) (h:=ad (cg rfl rfl) (h:=bA ?_))))))))))
 rcases bD H with⟨h2,H⟩|⟨h2,H⟩
 ·refine aC rfl h2 (aP (ad ar (h:=ad aW (h:=cA ?_))))
  have h:=aN H;subst h
  exact dJ [] ⟨rfl,rfl⟩
 refine aB rfl h2 (ao (aa (aP (ad ar (h:=ad ar (h:=S' (bX rfl rfl) ?_))))))
 obtain⟨c,b,H⟩:=bi H
 refine bT (ae c) (bu (v:=ae c) (congrArg (Value.int .i64) b.symm)) (h:=cD ?_)
 have h:=aN H;subst h
 exact dJ [] ⟨rfl,rfl⟩


def pS.f (k : Nat) (a0 : aJ) (a1 : Int) (a2 : Int) : Option (aJ × Int):=(gl.f k a0).bind (fun a=>if (!a.2) = true then (some ((a.1,2))) else (lt (i64.wrap (a.1.f0.f1 - 1)) fun b=>(if a.1.f1 ≤ a.1.f6 then (some a.1.f6) else (some b) : Option (Int)).bind (fun h=>(if a.1.f1 ≥ a.1.f5 then (some a.1.f5) else (some 0) : Option (Int)).bind (fun j=>(kz.f a.1.f1 a1 j h).bind (fun c=>(kz.f a.1.f2 a2 0 (i64.wrap (a.1.f0.f0 - 1))).bind (fun d=>some (((aJ.mk a.1.f0 c d false a.1.f4 a.1.f5 a.1.f6 a.1.f7 a.1.f8 a.1.f9 a.1.f10 a.1.f11 a.1.f12 a.1.f13 a.1.f14 a.1.f15 a.1.f16 a.1.f17),0))))))))

def jY.f (k : Nat) (a0 : aJ) (a1 : Int) (a2 : Int) : Option (aJ × Int):=(gl.f k a0).bind (fun a=>if (!a.2) = true then (some ((a.1,2))) else (lt (i64.wrap (a.1.f0.f1 - 1)) fun c=>(if a.1.f9 = true then (some (a.1.f5,a.1.f6)) else (some (0,c)) : Option (Int × Int)).bind (fun b=>(kz.f b.1 a1 b.1 b.2).bind (fun d=>(kz.f 0 a2 0 (i64.wrap (a.1.f0.f0 - 1))).bind (fun h=>some (((aJ.mk a.1.f0 d h false a.1.f4 a.1.f5 a.1.f6 a.1.f7 a.1.f8 a.1.f9 a.1.f10 a.1.f11 a.1.f12 a.1.f13 a.1.f14 a.1.f15 a.1.f16 a.1.f17),0)))))))
theorem jY.ok {a0 : aJ} {a1 : Int} {a2 : Int} {r : aJ × Int} (H : jY.f k a0 a1 a2 = some r) : dp Tryz.prog 43 #[.agg (am a0 af ag ay az au av aw ax).toArray,ae a1,ae a2] (bn a0 af ag ay az au av aw ax) (fun v B=>∃ aQ aR bv bx bo bp bw bz,v = .tuple #[.agg (am r.1 aQ aR bv bx bo bp bw bz).toArray,ae r.2]∧B = (bn r.1 aQ aR bv bx bo bp bw bz++bn a0 af ag ay az au av aw ax)):=by
 refine aj Tryz.func43 rfl rfl ?_
 unfold jY.f at H
 refine aP (o' (bO (h:=fun N=>o' (cC (h:=fun I=>ad aW (h:=bA (ap (bQ 0 fun U=>bQ 1 fun O=>bQ 2 fun R=>bQ 3 fun S=>ak ?_))))))))
 refine l' (cm 4) ?_
 obtain⟨a,M,H⟩:=ac H
 refine o' (ef [0,1,2,3] [4,5] (gl.ok M) fun b l c m d o j p=>?_)
 refine ad ar (h:=ad cw (h:=ad cw (h:=o' (bj N 0 8 (am a.1 b l c m d o j p) (h:=ad aW (h:=eA (ad ar (h:=ad (bU rfl) (h:=bA ?_)))))))))
 rcases bD H with⟨u,H⟩|⟨u,H⟩
 ·refine aD rfl u (aP (bq (cm 8) (h:=o' (bj I 0 9 (am a.1 b l c m d o j p) (h:=ad aW (h:=cA ?_))))))
  have h:=aN H;subst h
  exact dE [.cell 6 34,.tmp 7] [0,1,2,3,4,5,6,7] ⟨b,l,c,m,d,o,j,p,rfl,rfl⟩ ⟨cW 9,cX,trivial⟩
 refine aE rfl u (ao (aa (ap ?_)))
 refine fg (dC 0 6) [8] [0,1,2,3,4,5,6,7,9] fun _ _ _ _ _ sH dd pk=>?_
 refine bf 0 rfl sH aA (h:=bf 1 rfl sH aA (h:=bN 2 rfl sH (aO 0) (h:=bf 3 rfl sH (cV rfl rfl) (h:=T' 4 rfl sH aW ?_))))
 obtain⟨z,J,H⟩:=bi H
 refine kQ (ae z) 5 rfl sH (bu (v:=ae z) (congrArg (Value.int .i64) J.symm)) (h:=aV dd sH (aH (by kernel_rfl) (aa (ap (aP (ad aA (h:=bq (aO 0) (h:=bA ?_))))))))
 obtain⟨F,H,s⟩:=ac H
 refine bK (St [(1,ae a1),(2,ae a2),(3,aI N),(6,aI I),(9,ae F.1),(10,ae F.2)] (bn a0 af ag ay az au av aw ax++(aL N 34 (am a.1 b l c m d o j p)::(bn a.1 b l c m d o j p++[aL I 34 (am cB none 0 none 0 none 0 none 0)])))) ?_ ?_
 ·rcases bD H with⟨q,H⟩|⟨q,H⟩
  ·refine aD rfl q ?_
   refine fg (dC 0 6) [0] (dC 1 9) fun _ _ _ _ _ sH dd pk=>?_
   refine bf 0 rfl sH aA (h:=bN 1 rfl sH (aO 0) (h:=bf 2 rfl sH aA (h:=bN 3 rfl sH (aO 0) (h:=bf 4 rfl sH aW (h:=bf 5 rfl sH aW (h:=aV dd sH (aH (by kernel_rfl) ?_)))))))
   have h:=aN H;subst h
   exact bH [5,6,7,8,0,1,2,3,4,9]
  refine aE rfl q (ao ?_)
  have h:=aN H;subst h
  exact bH [5,6,7,8,0,1,2,3,4,9]
 rintro e ds As y
 clear H
 have H:=s
 clear s
 refine aa (SA.of_St y fun junk=>aP (ad ar (h:=ad ar (h:=ad ar (h:=S' ar ?_)))))
 obtain⟨D,L,H⟩:=ac H
 refine o' (da [] [0,1,2,3,4,5,6,7,8,9] (kz.ok L) ?_)
 refine ad aA (h:=o' (cJ 4 [ae D] (h:=(cR (ad ar (h:=ad aA (h:=ad aA (h:=bq (aO 4) (h:=S' (cV rfl rfl) ?_)))))))))
 obtain⟨E,K,H⟩:=ac H
 refine o' (da [] [0,1,2,3,4,5,6,7,8,9] (kz.ok K) ?_)
 refine ad aA (h:=o' (cJ 4 [ae E] (h:=(cR (ad aA (h:=o' (cJ 4 [.bool false] (h:=(cR (bq (cm 4) (h:=o' (bj I 0 9 (am (aJ.mk a.1.f0 D E false a.1.f4 a.1.f5 a.1.f6 a.1.f7 a.1.f8 a.1.f9 a.1.f10 a.1.f11 a.1.f12 a.1.f13 a.1.f14 a.1.f15 a.1.f16 a.1.f17) b l c m d o j p) (h:=ad aW (h:=cD ?_))))))))))))))
 have h:=aN H;subst h
 exact dE [.cell 6 34,.tmp 7] [5,6,7,8,0,1,2,3] ⟨b,l,c,m,d,o,j,p,rfl,rfl⟩ ⟨cW 9,cX,trivial⟩


def fz.l0 (a1 : Int) (a3 : Int) (a4 : cN) (gf : bJ) : Nat → Int → (List ba) → Option ((List ba))
  | 0,_,_=>none
  | k + 1,b,a=>if a.length = gf.f2.length then (if b < a3 then ((dF.f (bJ.mk gf.f0 gf.f1 a) a1).bind (fun c=>if (0 ≤ c.1∧0 ≤ c.2∧c.1 + c.2 ≤ (a.length : Int)) then ((pF.f a4).bind (fun j=>if 0 ≤ b∧b < c.2 then (lt (a.set (c.1 + b).toNat j) fun d=>(lt (i64.wrap (b + 1)) fun h=>fz.l0 a1 a3 a4 gf k h d)) else none)) else none)) else (some a)) else none
def fz.f (k : Nat) (a0 : bJ) (a1 : Int) (a2 : Int) (a3 : Int) (a4 : cN) : Option (bJ × Int):=(ir.f k a0 a4 a1).bind (fun l=>lt (l || (decide (a2 < 0))) fun d=>lt (d || (decide (a2 > a3))) fun h=>lt (h || (decide (a3 > a0.f0))) fun j=>if j = true then (some (((bJ.mk 0 0 ([] : (List ba))),2))) else ((hM.f a0).bind (fun gf=>(fz.l0 a1 a3 a4 gf k a2 gf.f2 : Option ((List ba))).bind (fun b=>if b.length = gf.f2.length then ((dF.f (bJ.mk gf.f0 gf.f1 b) a1).bind (fun a=>if (0 ≤ a.1∧0 ≤ a.2∧a.1 + a.2 ≤ (b.length : Int)) then ((eL.f k b a.1 a.2).bind (fun c=>if c.length = b.length then (some (((bJ.mk gf.f0 gf.f1 c),0))) else none)) else none)) else none))))
theorem fz.ok {a0 : bJ} {a1 : Int} {a2 : Int} {a3 : Int} {a4 : cN} {r : bJ × Int} (H : fz.f k a0 a1 a2 a3 a4 = some r) : dp Tryz.prog 107 #[.agg #[ae a0.f0,ae a0.f1,.slice af a0.f2.length ag],ae a1,ae a2,ae a3,.agg (bF a4).toArray] [Buf bI 55 af ag a0.f2] (fun v B=>∃ aQ aR,v = .tuple #[.agg #[ae r.1.f0,ae r.1.f1,.slice aQ r.1.f2.length aR],ae r.2]∧B = [Buf bI 55 aQ aR r.1.f2,Buf bI 55 af ag a0.f2]):=by
 refine aj Tryz.func107 rfl rfl ?_
 unfold fz.f at H
 refine aP (o' (bO (h:=fun D=>o' (bO (h:=fun z=>o' (cC (h:=fun u=>ad aW (h:=bA (ap (ap (bQ 0 fun e0=>ak (bq (cx D 0 1 [ae a0.f0,ae a0.f1,.slice af a0.f2.length ag]) (h:=l' (cm 2) ?_)))))))))))))
 refine S' ar ?_
 obtain⟨r9,c5,H⟩:=ac H
 refine o' (da [0] [1,2,3] (ir.ok c5) ?_)
 refine S' ar ?_
 obtain⟨b0,L,H⟩:=bi H
 refine dy 3 [(1,ae a1),(2,ae a2),(3,ae a3),(5,aI D),(9,aI z),(10,aI u),(21,.bool b0)] [Buf bI 55 af ag a0.f2,aL D 26 [ae a0.f0,ae a0.f1,.slice af a0.f2.length ag],aL z 28 (bF a4),aL u 26 [ae 0,ae 0,.slice none 0 0]] ?_ fun junk=>?_
 ·by_cases y : r9 = true
  ·refine ct 2 y (bY y (h:=ah ?_))
   have x_:=ik L y;exact bH [0,1,2,3]
  refine aZ (aK y) ar (h:=aZ (aK y) (cg rfl rfl) (h:=ca (aK y) (h:=ah ?_)))
  have x_:=ij L ((aK y));exact bH [0,1,2,3]
 refine S' ar ?_
 obtain⟨b1,M,H⟩:=bi H
 refine dy 4 [(1,ae a1),(2,ae a2),(3,ae a3),(5,aI D),(9,aI z),(10,aI u),(26,.bool b1)] [Buf bI 55 af ag a0.f2,aL D 26 [ae a0.f0,ae a0.f1,.slice af a0.f2.length ag],aL z 28 (bF a4),aL u 26 [ae 0,ae 0,.slice none 0 0]] ?_ fun junk=>?_
 ·by_cases s : b0 = true
  ·refine ct 3 s (bY s (h:=ah ?_))
   have x_:=ik M s;exact bH [0,1,2,3]
  refine aZ (aK s) ar (h:=aZ (aK s) ar (h:=aZ (aK s) (eN rfl rfl) (h:=ca (aK s) (h:=ah ?_))))
  have x_:=ij M ((aK s));exact bH [0,1,2,3]
 refine S' ar ?_
 obtain⟨d3,N,H⟩:=bi H
 refine cI 5 (St [(1,ae a1),(2,ae a2),(3,ae a3),(5,aI D),(9,aI z),(10,aI u),(32,.bool d3)] [Buf bI 55 af ag a0.f2,aL D 26 [ae a0.f0,ae a0.f1,.slice af a0.f2.length ag],aL z 28 (bF a4),aL u 26 [ae 0,ae 0,.slice none 0 0]]) ?_ ?_
 ·by_cases p : b1 = true
  ·refine ct 4 p (bY p (h:=ah ?_))
   have x_:=ik N p;exact bH [0,1,2,3]
  refine aZ (aK p) ar (h:=aZ (aK p) aA (h:=cn (aK p) (aO 1) (h:=aZ (aK p) (eN rfl rfl) (h:=ca (aK p) (h:=ah ?_)))))
  have x_:=ij N ((aK p));exact bH [0,1,2,3]
 rintro e ds As a8
 refine bA (SA.of_St a8 fun junk=>?_)
 rcases bD H with⟨J,H⟩|⟨J,H⟩
 ·refine aD rfl J (aP (bT (.agg #[ae 0,ae 0,.slice none 0 0]) dS (h:=o' (bj u 0 3 [ae 0,ae 0,.slice none 0 0] (h:=ad aW (h:=cA ?_))))))
  have h:=aN H;subst h
  exact lX [.cell 10 26,.tmp 11] ((Gh.nilBuf bI 55).trans (fk [4,0])) ⟨none,0,rfl,rfl⟩ ⟨cW 3,cX,trivial⟩
 refine aE rfl J (ao (aa (aP (l' (cx D 0 1 [ae a0.f0,ae a0.f1,.slice af a0.f2.length ag]) ?_))))
 obtain⟨gf,b9,H⟩:=ac H
 refine o' (gy [0] [1,2,3] (hM.ok b9) fun c d=>?_)
 refine o' (cC (h:=fun o=>o' (bj o 0 5 [ae gf.f0,ae gf.f1,.slice c gf.f2.length d] (h:=eA (ad ar (h:=ad aW (h:=bA ?_)))))))
 obtain⟨F,H,I⟩:=ac H
 refine bK (St [(1,ae a1),(10,aI u),(12,aI o)] [Buf bI 55 af ag a0.f2,aL u 26 [ae 0,ae 0,.slice none 0 0],aL o 26 [ae gf.f0,ae gf.f1,.slice c F.length d],Buf bI 55 c d F]) ?_ ?_
 ·refine aT (cl (fun k_ e ds As=>∃ (b : Int) (a : (List ba)),fz.l0 a1 a3 a4 gf k_ b a = some F∧St [(1,ae a1),(3,ae a3),(9,aI z),(10,aI u),(12,aI o),(13,ae b)] [Buf bI 55 af ag a0.f2,aL z 28 (bF a4),aL u 26 [ae 0,ae 0,.slice none 0 0],aL o 26 [ae gf.f0,ae gf.f1,.slice c a.length d],Buf bI 55 c d a] e ds As) (k:=k) ⟨_,_,H,jQ [1,3,4,5,0]⟩ ?_)
  clear H
  rintro pG e ds As ⟨b,a,H,a9⟩
  obtain _ | pG:=pG
  ·cases H
  rw [fz.l0] at H
  obtain⟨d5,H⟩:=aS H
  refine SA.of_St a9 fun junk=>ap (aP (ad ar (h:=ad ar (h:=ad (cg rfl rfl) (h:=bA ?_)))))
  rcases bD H with⟨K,H⟩|⟨K,H⟩
  ·refine aC rfl K (ao (aa (ap (aT (bQ 4 fun d8=>?_)))))
   refine fO [0,1,3,4,6] #[[],[],[0,1],[],[],[0,1,4],[0,1,3,4],[0,1,3,4,6]] [aL z 28 (bF a4),aL o 26 [ae gf.f0,ae gf.f1,.slice c a.length d],Buf bI 55 c d a] jx (bV.inb (bV.thn (bV.thn (bV.inb (bV.thn (bV.thn bV.body)))))) fun I0 e1 w0 pk=>?_
   refine hD 0 [1,3,4] rfl (cx o 0 1 [ae gf.f0,ae gf.f1,.slice c a.length d]) (h:=eF (ae a1) 1 [1,3,4] rfl fP (h:=eF (ae b) 3 [1,3,4] rfl fP (h:=sK 4 [1,3,4] rfl (cm 0) ?_)))
   obtain⟨q,b3,H⟩:=ac H
   obtain⟨⟨hl156a,hl156b,hl156c⟩,H⟩:=aS H
   refine fa 2 (by kernel_rfl) rfl (.no rfl) (mu [4] [0,1,2,3] (dF.ok b3) ?_)
   rintro _ _⟨d7,d9,Z,rfl,rfl⟩
   refine ⟨fun _=>⟨[2,4,0],rfl,rfl⟩,?_⟩
   obtain⟨S,b5,H⟩:=ac H
   refine fa 5 (by kernel_rfl) rfl (.no rfl) (da [] [0,1,2,3,4] (pF.ok b5) ?_)
   refine ⟨fun _=>⟨[2,4,0],rfl,rfl⟩,?_⟩
   obtain⟨⟨c7,c8⟩,H⟩:=aS H
   have c9 : 0 ≤ q.1 + b:=by omega
   have d0 : q.1 + b < (a.length : Int):=by omega
   refine sK 6 [2,4,0] rfl (eQ (l:=q.1) (m:=q.2) (i:=b) (sz:=15) Z Tryz.underlying24 ck rfl rfl (Src.buf (k:=2) rfl) c7 c8 (by omega)) ?_
   obtain⟨d1,E,H⟩:=bi H
   have hl_n452 : d1.length = a.length:=by rw [E]; exact List.length_set
   refine fa 7 (by kernel_rfl) rfl (.no rfl) (iG (k:=0) (i:=q.1 + b) (j:=(q.1 + b).toNat * 15) (m:=0) (sz:=15) (xs:=a) (vs:=(bW S)) S rfl rfl rfl rfl rfl rfl rfl rfl ck c9 d0 rfl (fun _ _ h_=>by subst h_; rfl) ?_)
   rewrite [← E]
   try unfold bF
   try rewrite [← hl_n452]
   refine ⟨fun h_=>absurd h_ (by decide),?_⟩
   refine aH (by kernel_rfl) (aG (aa (ak (ad ar (h:=S' (bX rfl rfl) ?_)))))
   obtain⟨R,a7,H⟩:=bi H
   refine bT (ae R) (bu (v:=ae R) (congrArg (Value.int .i64) a7.symm)) (h:=ah ?_)
   exact aa ⟨pG,Nat.lt_succ_self _,_,_,H,eb [1,2,3,4,0]⟩
  refine aB rfl K (ci (aX (aX (cj ?_))))
  have h:=aN H;subst h
  exact bH [0,2,3,4]
 rintro e ds As O
 clear H
 have H:=I
 clear I
 obtain⟨d6,H⟩:=aS H
 refine aa (SA.of_St O fun junk=>ap (bQ 3 fun d4=>ak (bq (cx o 0 2 [ae gf.f0,ae gf.f1,.slice c F.length d]) (h:=S' ar ?_))))
 obtain⟨U,b8,H⟩:=ac H
 obtain⟨⟨hl521a,hl521b,hl521c⟩,H⟩:=aS H
 refine o' (mu [3] [0,1,2] (dF.ok b8) ?_)
 rintro _ _⟨c6,d2,a5,rfl,rfl⟩
 obtain⟨Y,b7,H⟩:=ac H
 obtain⟨a6,H⟩:=aS H
 refine o' (da [0] [1,2,3] (eL.ok (o0:=U.1) (n0:=U.2) (A0:=c) (c0:=d) (V0:=c6) (v0:=d2) (hw0:=a5) b7) ?_)
 try unfold bF
 try rewrite [← a6]
 refine cR (bq (cx o 0 3 [ae gf.f0,ae gf.f1,.slice c Y.length d]) (h:=o' (bj u 0 2 [ae gf.f0,ae gf.f1,.slice c Y.length d] (h:=ad aW (h:=cD ?_)))))
 have h:=aN H;subst h
 exact dE [.cell 10 26,.tmp 11] [0,1] ⟨c,d,rfl,rfl⟩ ⟨cW 2,cX,trivial⟩


def jK.l0 (a1 : Bool) (a2 : Int) : Nat → aJ → Int → Option (aJ)
  | 0,_,_=>none
  | k + 1,a,b=>if b < a.f0.f1 then ((lt ((decide (b = a.f1)) && (decide (a2 = 0))) fun u=>if u = true then (some (a.f2,a.f0.f0)) else (lt ((decide (b = a.f1)) && (decide (a2 = 1))) fun m=>if m = true then (lt (i64.wrap (a.f2 + 1)) fun j=>some (0,j)) else ((if a2 = 2 then (if a1 = true then (some true) else (some (decide (b = a.f1)))) else (some false) : Option Bool).bind (fun c=>(if c = true then (some c) else (lt (a1 && (decide (a2 = 0))) fun o=>lt (o && (decide (b > a.f1))) fun d=>if d = true then (some d) else (lt (a1 && (decide (a2 = 1))) fun p=>lt (p && (decide (b < a.f1))) fun q=>some q)) : Option (Bool)).bind (fun s=>if s = true then (some (0,a.f0.f0)) else (some (0,0)))))) : Option (Int × Int)).bind (fun h=>(fz.f k a.f0 b h.1 h.2 a.f4).bind (fun r=>lt (i64.wrap (b + 1)) fun l=>jK.l0 a1 a2 k ({ a with f0:=r.1 }) l))) else (some a)
def jK.f (k : Nat) (a0 : aJ) (a1 : Bool) (a2 : Int) : Option (aJ × Int):=(gl.f k a0).bind (fun a=>if (!a.2) = true then (some ((a.1,2))) else ((jK.l0 a1 a2 k a.1 0 : Option (aJ)).bind (fun b=>some ((({ b with f3:=false }),0)))))

def pT.f (k : Nat) (a0 : aJ) (a1 : Int) : Option (aJ × Int):=(gl.f k a0).bind (fun a=>if (!a.2) = true then (some ((a.1,2))) else (lt ((decide (a.1.f1 < a.1.f5)) || (decide (a.1.f1 > a.1.f6))) fun d=>if d = true then (some ((a.1,0))) else ((kz.f 0 (i64.wrap (0 - (fE a1 (-1000)))) (-1000) 1000).bind (fun b=>(cG.f k a.1.f0 a.1.f1 a.1.f6 b a.1.f4).bind (fun c=>some (((aJ.mk c.1 a.1.f1 0 false a.1.f4 a.1.f5 a.1.f6 a.1.f7 a.1.f8 a.1.f9 a.1.f10 a.1.f11 a.1.f12 a.1.f13 a.1.f14 a.1.f15 a.1.f16 a.1.f17),0)))))))

def pU.f (k : Nat) (a0 : aJ) (a1 : Int) : Option (aJ × Int):=(gl.f k a0).bind (fun a=>if (!a.2) = true then (some ((a.1,2))) else ((fy.f k a.1.f0 a.1.f1 a.1.f2 a1 a.1.f4).bind (fun oO=>some (((aJ.mk oO.1 a.1.f1 a.1.f2 false a.1.f4 a.1.f5 a.1.f6 a.1.f7 a.1.f8 a.1.f9 a.1.f10 a.1.f11 a.1.f12 a.1.f13 a.1.f14 a.1.f15 a.1.f16 a.1.f17),0)))))

def pV.f (k : Nat) (a0 : aJ) (a1 : Int) : Option (aJ × Int):=(gl.f k a0).bind (fun a=>if (!a.2) = true then (some ((a.1,2))) else ((cG.f k a.1.f0 a.1.f5 a.1.f6 a1 a.1.f4).bind (fun oO=>some (((aJ.mk oO.1 a.1.f1 a.1.f2 false a.1.f4 a.1.f5 a.1.f6 a.1.f7 a.1.f8 a.1.f9 a.1.f10 a.1.f11 a.1.f12 a.1.f13 a.1.f14 a.1.f15 a.1.f16 a.1.f17),0)))))

def pW.f (k : Nat) (a0 : aJ) (a1 : Int) (a2 : Int) : Option (aJ × Int):=(gl.f k a0).bind (fun a=>if (!a.2) = true then (some ((a.1,2))) else (lt ((decide (a1 < 0)) || (decide (a1 ≥ a2))) fun c=>lt (c || (decide (a2 ≥ a.1.f0.f1))) fun d=>if d = true then (some ((a.1,0))) else ((jY.f k (aJ.mk a.1.f0 a.1.f1 a.1.f2 a.1.f3 a.1.f4 a1 a2 a.1.f7 a.1.f8 a.1.f9 a.1.f10 a.1.f11 a.1.f12 a.1.f13 a.1.f14 a.1.f15 a.1.f16 a.1.f17) 0 0).bind (fun b=>some ((b.1,b.2))))))

def ji.f (k : Nat) (a0 : aJ) (a1 : Bool) : Option (aJ × Int):=(gl.f k a0).bind (fun a=>if (!a.2) = true then (some ((a.1,2))) else (if a1 = true then (some (((aJ.mk a.1.f0 a.1.f14.f0 a.1.f14.f1 a.1.f14.f2 a.1.f14.f4 a.1.f5 a.1.f6 a.1.f7 a.1.f8 a.1.f14.f3 a.1.f10 a.1.f11 a.1.f12 a.1.f13 a.1.f14 a.1.f15 a.1.f16 a.1.f17),0))) else (some (((aJ.mk a.1.f0 a.1.f1 a.1.f2 a.1.f3 a.1.f4 a.1.f5 a.1.f6 a.1.f7 a.1.f8 a.1.f9 a.1.f10 a.1.f11 a.1.f12 a.1.f13 (dH.mk a.1.f1 a.1.f2 a.1.f3 a.1.f9 a.1.f4) a.1.f15 a.1.f16 a.1.f17),0)))))
theorem ji.ok {a0 : aJ} {a1 : Bool} {r : aJ × Int} (H : ji.f k a0 a1 = some r) : dp Tryz.prog 49 #[.agg (am a0 af ag ay az au av aw ax).toArray,.bool a1] (bn a0 af ag ay az au av aw ax) (fun v B=>∃ aQ aR bv bx bo bp bw bz,v = .tuple #[.agg (am r.1 aQ aR bv bx bo bp bw bz).toArray,ae r.2]∧B = (bn r.1 aQ aR bv bx bo bp bw bz++bn a0 af ag ay az au av aw ax)):=by
 refine aj Tryz.func49 rfl rfl ?_
 unfold ji.f at H
 refine aP (o' (bO (h:=fun s=>o' (cC (h:=fun u=>ad aW (h:=bA (ap (bQ 0 fun K=>bQ 1 fun F=>bQ 2 fun I=>bQ 3 fun J=>ak ?_))))))))
 refine l' (cm 4) ?_
 obtain⟨a,D,H⟩:=ac H
 refine o' (ef [0,1,2,3] [4,5] (gl.ok D) fun b m c o d p j q=>?_)
 refine ad ar (h:=ad cw (h:=ad cw (h:=o' (bj s 0 8 (am a.1 b m c o d p j q) (h:=ad aW (h:=eA (ad ar (h:=ad (bU rfl) (h:=bA ?_)))))))))
 rcases bD H with⟨y,H⟩|⟨y,H⟩
 ·refine aD rfl y (aP (bq (cm 8) (h:=o' (bj u 0 9 (am a.1 b m c o d p j q) (h:=ad aW (h:=cA ?_))))))
  have h:=aN H;subst h
  exact dE [.cell 4 34,.tmp 5] [0,1,2,3,4,5,6,7] ⟨b,m,c,o,d,p,j,q,rfl,rfl⟩ ⟨cW 9,cX,trivial⟩
 refine aE rfl y (ao (aa (ap (aP (ad ar (h:=bA ?_))))))
 rcases bD H with⟨z,H⟩|⟨z,H⟩
 ·refine aD rfl z (aP (ad aA (h:=bq (cx s 25 8 (gM a.1.f14)) (h:=o' (cC (h:=fun E=>o' (bj E 0 10 (gM a.1.f14) (h:=bA ?_))))))))
  refine fg (0::1::2::3::4::5::6::7::8::9::10::12::14::16::18::[]) [10] (dC 0 10) fun _ _ _ _ _ sH dd pk=>?_
  refine bf 0 rfl sH aA (h:=bN 1 rfl sH (aO 0) (h:=bf 2 rfl sH aA (h:=bN 3 rfl sH (aO 0) (h:=bf 4 rfl sH aA (h:=bN 5 rfl sH (aO 0) (h:=bf 6 rfl sH aA (h:=bN 7 rfl sH (aO 0) (h:=bf 8 rfl sH aA (h:=r' 9 rfl sH (cx E 4 0 (bF a.1.f14.f4)) ?_)))))))))
  refine bf 10 rfl sH aA (h:=dT 11 rfl dd (cJ 8 [ae a.1.f14.f0] (h:=(bf 12 rfl sH aA (h:=dT 13 rfl dd (cJ 8 [ae a.1.f14.f1] (h:=(bf 14 rfl sH aA (h:=dT 15 rfl dd (cJ 8 [.bool a.1.f14.f2] (h:=(bf 16 rfl sH aA (h:=dT 17 rfl dd (cJ 8 [.bool a.1.f14.f3] (h:=(bf 18 rfl sH aA (h:=dT 19 rfl dd (cJ 8 (bF a.1.f14.f4) (h:=?_)))))))))))))))))))
  refine aV dd sH (aH (by kernel_rfl) (aa (SA.of_St (l:=[(2,aI s),(4,aI u)]) (B:=(bn a0 af ag ay az au av aw ax++(aL s 34 (am (aJ.mk a.1.f0 a.1.f14.f0 a.1.f14.f1 a.1.f14.f2 a.1.f14.f4 a.1.f5 a.1.f6 a.1.f7 a.1.f8 a.1.f14.f3 a.1.f10 a.1.f11 a.1.f12 a.1.f13 a.1.f14 a.1.f15 a.1.f16 a.1.f17) b m c o d p j q)::(bn a.1 b m c o d p j q++[aL u 34 (am cB none 0 none 0 none 0 none 0)])))) (St.mk1 (cO rfl (cO rfl dY)) (Gh.sel [5,6,7,8,9,1,2,3,4,10] (by kernel_rfl) (by kernel_rfl))) fun junk=>aP (bq (cm 4) (h:=o' (bj u 0 9 (am (aJ.mk a.1.f0 a.1.f14.f0 a.1.f14.f1 a.1.f14.f2 a.1.f14.f4 a.1.f5 a.1.f6 a.1.f7 a.1.f8 a.1.f14.f3 a.1.f10 a.1.f11 a.1.f12 a.1.f13 a.1.f14 a.1.f15 a.1.f16 a.1.f17) b m c o d p j q) (h:=ad aW (h:=cD ?_))))))))
  have h:=aN H;subst h
  exact dE [.cell 4 34,.tmp 5] [5,6,7,8,0,1,2,3] ⟨b,m,c,o,d,p,j,q,rfl,rfl⟩ ⟨cW 9,cX,trivial⟩
 refine aE rfl z (ak (ad aA (h:=bq (aO 8) (h:=ad aA (h:=bq (aO 8) (h:=ad aA (h:=bq (aO 8) (h:=ad aA (h:=l' (aO 8) ?_)))))))))
 refine ad aA (h:=bq (cx s 6 8 (bF a.1.f4)) (h:=bT (.agg (gM (dH.mk a.1.f1 a.1.f2 a.1.f3 a.1.f9 a.1.f4)).toArray) dS (h:=ad aA (h:=o' (cJ 8 (gM (dH.mk a.1.f1 a.1.f2 a.1.f3 a.1.f9 a.1.f4)) (h:=(bA (SA.of_St (l:=[(2,aI s),(4,aI u)]) (B:=(bn a0 af ag ay az au av aw ax++(aL s 34 (am (aJ.mk a.1.f0 a.1.f1 a.1.f2 a.1.f3 a.1.f4 a.1.f5 a.1.f6 a.1.f7 a.1.f8 a.1.f9 a.1.f10 a.1.f11 a.1.f12 a.1.f13 (dH.mk a.1.f1 a.1.f2 a.1.f3 a.1.f9 a.1.f4) a.1.f15 a.1.f16 a.1.f17) b m c o d p j q)::(bn a.1 b m c o d p j q++[aL u 34 (am cB none 0 none 0 none 0 none 0)])))) (St.mk1 (cO rfl (cO rfl dY)) (Gh.sel [4,5,6,7,8,0,1,2,3,9] (by kernel_rfl) (by kernel_rfl))) fun junk=>aP (bq (cm 4) (h:=o' (uF u 0 9 (am (aJ.mk a.1.f0 a.1.f1 a.1.f2 a.1.f3 a.1.f4 a.1.f5 a.1.f6 a.1.f7 a.1.f8 a.1.f9 a.1.f10 a.1.f11 a.1.f12 a.1.f13 (dH.mk a.1.f1 a.1.f2 a.1.f3 a.1.f9 a.1.f4) a.1.f15 a.1.f16 a.1.f17) b m c o d p j q) ?_)))))))))))
 refine ad aW (h:=cD ?_)
 have h:=aN H;subst h
 exact dE [.cell 4 34,.tmp 5] [5,6,7,8,0,1,2,3] ⟨b,m,c,o,d,p,j,q,rfl,rfl⟩ ⟨cW 9,cX,trivial⟩


def fA.l0 (a0 : aJ) (r13 : bJ × Int) : Nat → Int → (List ba) → Option ((List ba))
  | 0,_,_=>none
  | k + 1,b,a=>if a.length = r13.1.f2.length then (if b < (a.length : Int) then ((pF.f a0.f4).bind (fun h=>if 0 ≤ b∧b < (a.length : Int) then (lt (a.set b.toNat h) fun c=>(lt (i64.wrap (b + 1)) fun d=>fA.l0 a0 r13 k d c)) else none)) else (some a)) else none
def fA.f (k : Nat) (a0 : aJ) (a1 : Bool) : Option (Nat × aJ):=lt (a1 && (!a0.f15)) fun d=>if d = true then ((pQ.f k a0.f0.f0 a0.f0.f1 a0.f4).bind (fun a=>(fA.l0 a0 a k 0 a.1.f2 : Option ((List ba))).bind (fun b=>if b.length = a.1.f2.length then (some ((0,({ a0 with f0:=(bJ.mk a.1.f0 a.1.f1 b),f15:=true,f16:=a0.f0 })))) else none))) else (lt ((!a1) && a0.f15) fun c=>if c = true then (some ((1,({ a0 with f0:=a0.f16,f15:=false,f16:=(bJ.mk 0 0 ([] : (List ba))) })))) else (some ((2,a0))))
theorem fA.ok {a0 : aJ} {a1 : Bool} {r : Nat × aJ} (H : fA.f k a0 a1 = some r) : dp Tryz.prog 108 #[.agg (am a0 af ag ay az au av aw ax).toArray,.bool a1] (bn a0 af ag ay az au av aw ax) (fun v B=>(r.1 = 0∧∃ aQ aR,v = .agg (am (aJ.mk r.2.f0 r.2.f1 r.2.f2 r.2.f3 r.2.f4 r.2.f5 r.2.f6 a0.f7 r.2.f8 r.2.f9 r.2.f10 r.2.f11 r.2.f12 r.2.f13 r.2.f14 r.2.f15 (bJ.mk r.2.f16.f0 r.2.f16.f1 a0.f0.f2) a0.f17) aQ aR ay az af ag aw ax).toArray∧B = (Buf bI 55 aQ aR r.2.f0.f2::bn a0 af ag ay az au av aw ax)) ∨ (r.1 = 1∧∃ bo bp,v = .agg (am (aJ.mk (bJ.mk r.2.f0.f0 r.2.f0.f1 a0.f16.f2) r.2.f1 r.2.f2 r.2.f3 r.2.f4 r.2.f5 r.2.f6 a0.f7 r.2.f8 r.2.f9 r.2.f10 r.2.f11 r.2.f12 r.2.f13 r.2.f14 r.2.f15 r.2.f16 a0.f17) au av ay az bo bp aw ax).toArray∧B = (Buf bI 55 bo bp r.2.f16.f2::bn a0 af ag ay az au av aw ax)) ∨ (r.1 = 2∧v = .agg (am (aJ.mk (bJ.mk r.2.f0.f0 r.2.f0.f1 a0.f0.f2) r.2.f1 r.2.f2 r.2.f3 r.2.f4 r.2.f5 r.2.f6 a0.f7 r.2.f8 r.2.f9 r.2.f10 r.2.f11 r.2.f12 r.2.f13 r.2.f14 r.2.f15 (bJ.mk r.2.f16.f0 r.2.f16.f1 a0.f16.f2) a0.f17) af ag ay az au av aw ax).toArray∧B = (bn a0 af ag ay az au av aw ax))):=by
 refine aj Tryz.func108 rfl rfl ?_
 unfold fA.f at H
 refine aP (o' (bO (h:=fun q=>o' (cC (h:=fun s=>eA (ad ar (h:=S' ar ?_)))))))
 obtain⟨q9,Z,H⟩:=bi H
 refine cI 4 (St [(1,.bool a1),(2,aI q),(4,aI s),(11,.bool q9)] (bn a0 af ag ay az au av aw ax++[aL q 34 (am a0 af ag ay az au av aw ax),aL s 34 (am cB none 0 none 0 none 0 none 0)])) ?_ ?_
 ·by_cases p : a1 = true
  ·refine aZ p aA (h:=cn p (aO 4) (h:=aZ p (bU rfl) (h:=bY p (h:=ah ?_))))
   have x_:=fq Z p;exact bH [0,1,2,3,4,5]
  refine ct 3 (aK p) (ca (aK p) (h:=ah ?_))
  have x_:=fp Z ((aK p));exact bH [0,1,2,3,4,5]
 rintro e ds As U
 refine bA (SA.of_St U fun junk=>?_)
 rcases bD H with⟨J,H⟩|⟨J,H⟩
 ·refine aD rfl J (aP (ad aA (h:=bq (cx q 0 4 [ae a0.f0.f0,ae a0.f0.f1,.slice af a0.f0.f2.length ag]) (h:=ad aA (h:=o' (cJ 4 [ae a0.f0.f0,ae a0.f0.f1,.slice af a0.f0.f2.length ag] (h:=(ad aA (h:=o' (cJ 4 [.bool true] (h:=(cR (S' aA ?_)))))))))))))
  refine ad aA (h:=bq (aO 4) (h:=ad aA (h:=ad aA (h:=bq (aO 4) (h:=ad aA (h:=l' (cx q 6 4 (bF a0.f4)) ?_))))))
  obtain⟨b,a3,H⟩:=ac H
  refine o' (gy [] [0,1,2,3,4,5] (pQ.ok a3) fun l o=>?_)
  refine ad ar (h:=ad cw (h:=ad cw (h:=ad aA (h:=o' (cJ 5 [ae b.1.f0,ae b.1.f1,.slice l b.1.f2.length o] (h:=(cR (ad aW (h:=bA ?_)))))))))
  obtain⟨u,H,E⟩:=ac H
  refine bK (St [(2,aI q),(4,aI s)] (bn a0 af ag ay az au av aw ax++[aL q 34 (am ({ a0 with f0:=(bJ.mk b.1.f0 b.1.f1 u),f15:=true,f16:=a0.f0 }) l o ay az af ag aw ax),Buf bI 55 l o u,aL s 34 (am cB none 0 none 0 none 0 none 0)])) ?_ ?_
  ·refine aT (cl (fun k_ e ds As=>∃ (c : Int) (a : (List ba)),fA.l0 a0 b k_ c a = some u∧St [(2,aI q),(4,aI s),(5,ae c)] (bn a0 af ag ay az au av aw ax++[aL q 34 (am ({ a0 with f0:=(bJ.mk b.1.f0 b.1.f1 a),f15:=true,f16:=a0.f0 }) l o ay az af ag aw ax),Buf bI 55 l o a,aL s 34 (am cB none 0 none 0 none 0 none 0)]) e ds As) (k:=k) ⟨_,_,H,jQ [1,2,3,4,5,0,6]⟩ ?_)
   clear H
   rintro N e ds As ⟨c,a,H,Y⟩
   obtain _ | N:=N
   ·cases H
   rw [fA.l0] at H
   obtain⟨a6,H⟩:=aS H
   refine SA.of_St Y fun junk=>ap (aP (ad ar (h:=ad aA (h:=ad aA (h:=bq (aO 4) (h:=bT (ae (a.length : Int)) (cP Tryz.underlying24 rfl) (h:=ad (cg rfl rfl) (h:=bA ?_))))))))
   rcases bD H with⟨K,H⟩|⟨K,H⟩
   ·refine aC rfl K (ao (aa (ap (aT ?_))))
    refine fg [0,1,2,3,4,5,7] [4,5] [0,1,2,3,6] fun _ _ _ _ _ sH dd pk=>?_
    refine bf 0 rfl sH aA (h:=bf 1 rfl sH aA (h:=bN 2 rfl sH (aO 0) (h:=bf 3 rfl sH ar (h:=bf 4 rfl sH aA (h:=r' 5 rfl sH (cx q 6 0 (bF a0.f4)) ?_)))))
    obtain⟨R,a2,H⟩:=ac H
    refine dT 6 rfl dd (da [] [0,1,2,3,4] (pF.ok a2) ?_)
    obtain⟨⟨F,I⟩,H⟩:=aS H
    refine bN 7 rfl sH (br (i:=c) Tryz.underlying24 ck rfl rfl (Src.buf (k:=1) rfl) F I) (h:=aV dd sH ?_)
    obtain⟨a4,z,H⟩:=bi H
    have hl_n501 : a4.length = a.length:=by rw [z]; exact List.length_set
    refine eG 8 rfl (iG (k:=1) (i:=c) (j:=c.toNat * 15) (m:=0) (sz:=15) (xs:=a) (vs:=(bW R)) R rfl rfl rfl rfl rfl rfl rfl rfl ck F I rfl (fun _ _ h_=>by subst h_; rfl) ?_)
    rewrite [← z]
    try unfold cQ
    try unfold eD
    try unfold am
    try rewrite [← hl_n501]
    refine aH (by kernel_rfl) (aG (aa (ak (ad ar (h:=S' (bX rfl rfl) ?_)))))
    obtain⟨O,S,H⟩:=bi H
    refine bT (ae O) (bu (v:=ae O) (congrArg (Value.int .i64) S.symm)) (h:=ah ?_)
    exact aa ⟨N,Nat.lt_succ_self _,_,_,H,eb [2,3,4,5,0,1,6]⟩
   refine aB rfl K (ci (aX (aX (cj ?_))))
   have h:=aN H;subst h
   exact bH [0,1,2,3,4,5,6]
  rintro e ds As L
  clear H
  have H:=E
  clear E
  obtain⟨a7,H⟩:=aS H
  refine aa (SA.of_St L fun junk=>aP (bq (cm 4) (h:=o' (bj s 0 6 (am ({ a0 with f0:=(bJ.mk b.1.f0 b.1.f1 u),f15:=true,f16:=a0.f0 }) l o ay az af ag aw ax) (h:=cD ?_)))))
  have h:=aN H;subst h
  exact gi (rs:=[.cell 4 34]) (vs:=[.agg (am ({ a0 with f0:=(bJ.mk b.1.f0 b.1.f1 u),f15:=true,f16:=a0.f0 }) l o ay az af ag aw ax).toArray]) (Buf bI 55 l o u::bn a0 af ag ay az au av aw ax) rfl ⟨RV.cell (k:=6) rfl rfl Tryz.underlying34 rfl rH,trivial⟩ rfl (fk [5,0,1,2,3]) (.inl ⟨rfl,l,o,rfl,rfl⟩)
 refine aE rfl J (aP (ad ar (h:=ad (bU rfl) (h:=S' ar ?_))))
 obtain⟨a5,D,H⟩:=bi H
 refine cI 3 (St [(2,aI q),(4,aI s),(50,.bool a5)] (bn a0 af ag ay az au av aw ax++[aL q 34 (am a0 af ag ay az au av aw ax),aL s 34 (am cB none 0 none 0 none 0 none 0)])) ?_ ?_
 ·by_cases d : (!a1) = true
  ·refine aZ d aA (h:=cn d (aO 4) (h:=bY d (h:=ah ?_)))
   have x_:=fq D d;exact bH [0,1,2,3,4,5]
  refine ct 2 (aK d) (ca (aK d) (h:=ah ?_))
  have x_:=fp D ((aK d));exact bH [0,1,2,3,4,5]
 rintro e ds As M
 refine bA (SA.of_St M fun junk=>?_)
 rcases bD H with⟨y,H⟩|⟨y,H⟩
 ·refine aD rfl y (ak (ad aA (h:=bq (cx q 40 4 [ae a0.f16.f0,ae a0.f16.f1,.slice au a0.f16.f2.length av]) (h:=bT (.agg #[ae 0,ae 0,.slice none 0 0]) dS (h:=ad aA (h:=o' (cJ 4 [ae a0.f16.f0,ae a0.f16.f1,.slice au a0.f16.f2.length av] (h:=(ad aA (h:=o' (cJ 4 [ae 0,ae 0,.slice none 0 0] (h:=(S' aA ?_)))))))))))))
  refine o' (cJ 4 [.bool false] (h:=(cR (bq (cm 4) (h:=o' (bj s 0 5 (am ({ a0 with f0:=a0.f16,f15:=false,f16:=pB }) au av ay az none 0 aw ax) (h:=cD ?_)))))))
  have h:=aN H;subst h
  exact gi (rs:=[.cell 4 34]) (vs:=[.agg (am ({ a0 with f0:=a0.f16,f15:=false,f16:=pB }) au av ay az none 0 aw ax).toArray]) (Buf bI 55 none 0 ([] : (List ba))::bn a0 af ag ay az au av aw ax) rfl ⟨RV.cell (k:=5) rfl rfl Tryz.underlying34 rfl rH,trivial⟩ rfl ((Gh.nilBuf bI 55).trans (fk [6,0,1,2,3])) (.inr (.inl ⟨rfl,none,0,rfl,rfl⟩))
 refine aE rfl y (ao (aa (aP (bq (cm 4) (h:=o' (bj s 0 5 (am a0 af ag ay az au av aw ax) (h:=cD ?_)))))))
 have h:=aN H;subst h
 exact gi (rs:=[.cell 4 34]) (vs:=[.agg (am a0 af ag ay az au av aw ax).toArray]) (bn a0 af ag ay az au av aw ax) rfl ⟨RV.cell (k:=5) rfl rfl Tryz.underlying34 rfl rH,trivial⟩ rfl (fk [0,1,2,3]) (.inr (.inr (⟨rfl,rfl,rfl⟩)))


def pX.f (k : Nat) (a0 : aJ) (a1 : Bool) (a2 : Int) (a3 : Bool) : Option (aJ × Int):=(gl.f k a0).bind (fun a=>if (!a.2) = true then (some ((a.1,2))) else (if (!a1) = true then (if a2 = 4 then (some (((aJ.mk a.1.f0 a.1.f1 a.1.f2 a.1.f3 a.1.f4 a.1.f5 a.1.f6 a.1.f7 a.1.f8 a.1.f9 a3 a.1.f11 a.1.f12 a.1.f13 a.1.f14 a.1.f15 a.1.f16 a.1.f17),0))) else (some ((a.1,0)))) else (if a2 = 1 then (some (((aJ.mk a.1.f0 a.1.f1 a.1.f2 a.1.f3 a.1.f4 a.1.f5 a.1.f6 a.1.f7 a.1.f8 a.1.f9 a.1.f10 a3 a.1.f12 a.1.f13 a.1.f14 a.1.f15 a.1.f16 a.1.f17),0))) else (if a2 = 6 then ((jY.f k (aJ.mk a.1.f0 a.1.f1 a.1.f2 a.1.f3 a.1.f4 a.1.f5 a.1.f6 a.1.f7 a.1.f8 a3 a.1.f10 a.1.f11 a.1.f12 a.1.f13 a.1.f14 a.1.f15 a.1.f16 a.1.f17) 0 0).bind (fun o=>some ((o.1,o.2)))) else (if a2 = 7 then (some (((aJ.mk a.1.f0 a.1.f1 a.1.f2 a.1.f3 a.1.f4 a.1.f5 a.1.f6 a.1.f7 a3 a.1.f9 a.1.f10 a.1.f11 a.1.f12 a.1.f13 a.1.f14 a.1.f15 a.1.f16 a.1.f17),0))) else (if a2 = 25 then (some (((aJ.mk a.1.f0 a.1.f1 a.1.f2 a.1.f3 a.1.f4 a.1.f5 a.1.f6 a.1.f7 a.1.f8 a.1.f9 a.1.f10 a.1.f11 a.1.f12 a3 a.1.f14 a.1.f15 a.1.f16 a.1.f17),0))) else (if a2 = 2004 then (some (((aJ.mk a.1.f0 a.1.f1 a.1.f2 a.1.f3 a.1.f4 a.1.f5 a.1.f6 a.1.f7 a.1.f8 a.1.f9 a.1.f10 a.1.f11 a3 a.1.f13 a.1.f14 a.1.f15 a.1.f16 a.1.f17),0))) else ((if a2 = 47 then (some (decide (a2 = 47))) else (some (decide (a2 = 1047))) : Option (Bool)).bind (fun p=>if p = true then ((fA.f k a.1 a3).bind (fun d=>if d.1 = 0 then (some (((aJ.mk d.2.f0 d.2.f1 d.2.f2 d.2.f3 d.2.f4 d.2.f5 d.2.f6 a.1.f7 d.2.f8 d.2.f9 d.2.f10 d.2.f11 d.2.f12 d.2.f13 d.2.f14 d.2.f15 (bJ.mk d.2.f16.f0 d.2.f16.f1 a.1.f0.f2) a.1.f17),0))) else (if d.1 = 1 then (some (((aJ.mk (bJ.mk d.2.f0.f0 d.2.f0.f1 a.1.f16.f2) d.2.f1 d.2.f2 d.2.f3 d.2.f4 d.2.f5 d.2.f6 a.1.f7 d.2.f8 d.2.f9 d.2.f10 d.2.f11 d.2.f12 d.2.f13 d.2.f14 d.2.f15 d.2.f16 a.1.f17),0))) else (if d.1 = 2 then (some (((aJ.mk (bJ.mk d.2.f0.f0 d.2.f0.f1 a.1.f0.f2) d.2.f1 d.2.f2 d.2.f3 d.2.f4 d.2.f5 d.2.f6 a.1.f7 d.2.f8 d.2.f9 d.2.f10 d.2.f11 d.2.f12 d.2.f13 d.2.f14 d.2.f15 (bJ.mk d.2.f16.f0 d.2.f16.f1 a.1.f16.f2) a.1.f17),0))) else (none))))) else (if a2 = 1049 then (if a3 = true then ((ji.f k a.1 false).bind (fun h=>(fA.f k h.1 true).bind (fun b=>if b.1 = 0 then (some (((aJ.mk b.2.f0 b.2.f1 b.2.f2 b.2.f3 b.2.f4 b.2.f5 b.2.f6 h.1.f7 b.2.f8 b.2.f9 b.2.f10 b.2.f11 b.2.f12 b.2.f13 b.2.f14 b.2.f15 (bJ.mk b.2.f16.f0 b.2.f16.f1 h.1.f0.f2) h.1.f17),0))) else (if b.1 = 1 then (some (((aJ.mk (bJ.mk b.2.f0.f0 b.2.f0.f1 h.1.f16.f2) b.2.f1 b.2.f2 b.2.f3 b.2.f4 b.2.f5 b.2.f6 h.1.f7 b.2.f8 b.2.f9 b.2.f10 b.2.f11 b.2.f12 b.2.f13 b.2.f14 b.2.f15 b.2.f16 h.1.f17),0))) else (if b.1 = 2 then (some (((aJ.mk (bJ.mk b.2.f0.f0 b.2.f0.f1 h.1.f0.f2) b.2.f1 b.2.f2 b.2.f3 b.2.f4 b.2.f5 b.2.f6 h.1.f7 b.2.f8 b.2.f9 b.2.f10 b.2.f11 b.2.f12 b.2.f13 b.2.f14 b.2.f15 (bJ.mk b.2.f16.f0 b.2.f16.f1 h.1.f16.f2) h.1.f17),0))) else (none)))))) else (if a.1.f15 = true then ((fA.f k a.1 false).bind (fun c=>if c.1 = 0 then ((ji.f k (aJ.mk c.2.f0 c.2.f1 c.2.f2 c.2.f3 c.2.f4 c.2.f5 c.2.f6 a.1.f7 c.2.f8 c.2.f9 c.2.f10 c.2.f11 c.2.f12 c.2.f13 c.2.f14 c.2.f15 (bJ.mk c.2.f16.f0 c.2.f16.f1 a.1.f0.f2) a.1.f17) true).bind (fun j=>some ((j.1,j.2)))) else (if c.1 = 1 then ((ji.f k (aJ.mk (bJ.mk c.2.f0.f0 c.2.f0.f1 a.1.f16.f2) c.2.f1 c.2.f2 c.2.f3 c.2.f4 c.2.f5 c.2.f6 a.1.f7 c.2.f8 c.2.f9 c.2.f10 c.2.f11 c.2.f12 c.2.f13 c.2.f14 c.2.f15 c.2.f16 a.1.f17) true).bind (fun l=>some ((l.1,l.2)))) else (if c.1 = 2 then ((ji.f k (aJ.mk (bJ.mk c.2.f0.f0 c.2.f0.f1 a.1.f0.f2) c.2.f1 c.2.f2 c.2.f3 c.2.f4 c.2.f5 c.2.f6 a.1.f7 c.2.f8 c.2.f9 c.2.f10 c.2.f11 c.2.f12 c.2.f13 c.2.f14 c.2.f15 (bJ.mk c.2.f16.f0 c.2.f16.f1 a.1.f16.f2) a.1.f17) true).bind (fun m=>some ((m.1,m.2)))) else (none))))) else (some ((a.1,0))))) else (some ((a.1,0)))))))))))))

def fW.l1 (r13 : aJ × Bool) (x8_34 : Int) : Nat → Bool → Int → Option (Bool)
  | 0,_,_=>none
  | k + 1,b,a=>if a < (r13.1.f7.length : Int) then ((if b = true then (some true) else (if 0 ≤ a∧a < (r13.1.f7.length : Int) then (some (decide ((rd r13.1.f7 a) = x8_34))) else none) : Option Bool).bind (fun c=>lt (i64.wrap (a + 1)) fun n51=>fW.l1 r13 x8_34 k c n51)) else (some b)
def fW.l0 (a1 : Int) (r13 : aJ × Bool) : Nat → (List Int) → Int → Option ((List Int))
  | 0,_,_=>none
  | k + 1,b,a=>if a < r13.1.f0.f0 then ((fW.l1 r13 a k false 0 : Option (Bool)).bind (fun h=>(if a1 = 2 then (some true) else (if a1 = 1 then (some (decide (a = r13.1.f2))) else (some false)) : Option Bool).bind (fun c=>(if c = true then (some false) else (some h) : Option (Bool)).bind (fun j=>lt ((decide (a1 = 0)) && (decide (a = r13.1.f2))) fun d=>(if d = true then (some true) else (some j) : Option (Bool)).bind (fun l=>if l = true then (if b.length + ([a] : (List Int)).length ≤ 17592186044416 then lt (b ++ ([a] : (List Int))) fun n73=>(lt (i64.wrap (a + 1)) fun n74=>fW.l0 a1 r13 k n73 n74) else none) else (lt (i64.wrap (a + 1)) fun n75=>fW.l0 a1 r13 k b n75)))))) else (some b)
def fW.f (k : Nat) (a0 : aJ) (a1 : Int) : Option (aJ × Int):=(gl.f k a0).bind (fun a=>if (!a.2) = true then (some ((a.1,2))) else (lt ((decide (a1 < 0)) || (decide (a1 > 2))) fun b=>if b = true then (some ((a.1,0))) else ((fW.l0 a1 a k ([]) 0 : Option ((List Int))).bind (fun c=>some (((aJ.mk a.1.f0 a.1.f1 a.1.f2 a.1.f3 a.1.f4 a.1.f5 a.1.f6 c a.1.f8 a.1.f9 a.1.f10 a.1.f11 a.1.f12 a.1.f13 a.1.f14 a.1.f15 a.1.f16 a.1.f17),0))))))

def pY.f (k : Nat) (a0 : aJ) (a1 : Int) : Option (aJ × Int):=(gl.f k a0).bind (fun a=>if (!a.2) = true then (some ((a.1,2))) else ((kz.f a.1.f2 (fE 0 a1) a.1.f2 a.1.f0.f0).bind (fun c=>(fz.f k a.1.f0 a.1.f1 a.1.f2 c a.1.f4).bind (fun b=>some (((aJ.mk b.1 a.1.f1 a.1.f2 false a.1.f4 a.1.f5 a.1.f6 a.1.f7 a.1.f8 a.1.f9 a.1.f10 a.1.f11 a.1.f12 a.1.f13 a.1.f14 a.1.f15 a.1.f16 a.1.f17),0))))))
end Go.Proofs.YtckilbegmbaeeaaGreat.Z7

/- Walks. -/
import Derived.Test.YtckilbegmbaeeaaGreatZ79
namespace Go.Proofs.YtckilbegmbaeeaaGreat.Z7
open Go Go.RowKit Go.Proofs.YtckilbegmbaeeaaGreat.SL
open Go.IntKind (i64)
set_option linter.unusedVariables false
set_option maxHeartbeats 20000000
set_option maxRecDepth 100000
set_option linter.unusedSimpArgs false
attribute [local irreducible] IntKind.wrap dm fE iD md lW rn lM fG ma rd sub bytesOf jD dv
variable {ag az av ax k : Nat}
variable {af ay au aw : Option Addr}
theorem Ep.ok {a0 : aJ} {a1 : Int} {r : aJ × Int} (H : jJ.f k a0 a1 = some r) : dp Tryz.prog 41 #[.agg (am a0 af ag ay az au av aw ax).toArray,aM a1] (co a0 af ag ay az au av aw ax) (fun v B=>∃ aQ aR bv bx bo bp bw bz,v = .tuple #[.agg (am r.1 aQ aR bv bx bo bp bw bz).toArray,ae r.2]∧B = (bn r.1 aQ aR bv bx bo bp bw bz)):=by
 refine aj Tryz.func41 rfl rfl ?_
 unfold jJ.f at H
 refine aP (o' (bO (h:=fun D=>o' (cC (h:=fun z=>ad aW (h:=cR (l' (cm 4) ?_)))))))
 obtain⟨a,d7,H⟩:=ac H
 refine o' (ef [0,1,2,3] [0,1,2,3,4,5] (rO.ok d7) fun s u b o c p d q=>?_)
 refine ad ar (h:=ad cw (h:=ad cw (h:=o' (bj D 0 8 (am a.1 s u b o c p d q) (h:=ad aW (h:=eA (ad ar (h:=ad (bU rfl) (h:=bA ?_)))))))))
 rcases bD H with⟨b6,H⟩|⟨b6,H⟩
 ·refine aD rfl b6 (aP (bq (cm 8) (h:=o' (bj z 0 9 (am a.1 s u b o c p d q) (h:=ad aW (h:=cA ?_))))))
  have h:=aN H;subst h
  exact dE [.cell 4 34,.tmp 5] [0,1,2,3] ⟨s,u,b,o,c,p,d,q,rfl,rfl⟩ ⟨cW 9,cX,trivial⟩
 refine aE rfl b6 (ao (aa (ap (aP (ad ar (h:=bA (aT (aP (ad (bk rfl rfl) (h:=ad aW (h:=bA ?_)))))))))))
 rcases bD H with⟨b8,H⟩|⟨b8,H⟩
 ·refine aC rfl b8 (ak (ad aA (h:=bq (aO 8) (h:=ad (cV rfl rfl) (h:=bT (ae (fE 0 (i64.wrap (a.1.f2 - 1)))) (nN rfl rfl) (h:=ad aA (h:=o' (cJ 8 [ae (fE 0 (i64.wrap (a.1.f2 - 1)))] (h:=(ah (aG (aa (aP (S' aA ?_))))))))))))))
  refine o' (cJ 8 [.bool false] (h:=(cR (bq (cm 8) (h:=o' (bj z 0 9 (am (aJ.mk a.1.f0 a.1.f1 (fE 0 (i64.wrap (a.1.f2 - 1))) false a.1.f4 a.1.f5 a.1.f6 a.1.f7 a.1.f8 a.1.f9 a.1.f10 a.1.f11 a.1.f12 a.1.f13 a.1.f14 a.1.f15 a.1.f16 a.1.f17) s u b o c p d q) (h:=ad aW (h:=cD ?_))))))))
  have h:=aN H;subst h
  exact dE [.cell 4 34,.tmp 5] [0,1,2,3] ⟨s,u,b,o,c,p,d,q,rfl,rfl⟩ ⟨cW 9,cX,trivial⟩
 refine aB rfl b8 (aP (ad (bk rfl rfl) (h:=ad aW (h:=bA ?_))))
 rcases bD H with⟨b9,H⟩|⟨b9,H⟩
 ·refine aC rfl b9 (aP (ad aA (h:=ad aA (h:=bq (aO 8) (h:=S' (cV rfl rfl) ?_)))))
  obtain⟨n25,d8,H⟩:=bi H
  refine bT (ae n25) (bu (v:=ae n25) (congrArg (Value.int .i64) d8.symm)) (h:=eA (ad aA (h:=bq (aO 8) (h:=bT (ae (a.1.f7.length : Int)) (cP Tryz.underlying29 rfl) (h:=S' (cV rfl rfl) ?_)))))
  obtain⟨n26,d9,H⟩:=bi H
  refine bT (ae n26) (bu (v:=ae n26) (congrArg (Value.int .i64) d9.symm)) (h:=bA (SA.of_St (l:=[(2,aI D),(4,aI z),(7,ae n25),(8,ae n26)]) (B:=(aL D 34 (am a.1 s u b o c p d q)::(bn a.1 s u b o c p d q++[aL z 34 (am cB none 0 none 0 none 0 none 0)]))) (St.mk1 (cO rfl (cO rfl (cO rfl (cO rfl dY)))) (Gh.sel [8,0,1,2,3,9] (by kernel_rfl) (by kernel_rfl))) fun junk=>?_))
  obtain⟨Z,H,a6⟩:=ac H
  refine bK (St [(2,aI D),(4,aI z),(7,ae Z)] (aL D 34 (am a.1 s u b o c p d q)::(bn a.1 s u b o c p d q++[aL z 34 (am cB none 0 none 0 none 0 none 0)]))) ?_ ?_
  ·refine aT (cl (fun k_ e ds As=>∃ (J : Int) (y : Int),jJ.l0 a k_ J y = some Z∧St [(2,aI D),(4,aI z),(7,ae J),(8,ae y)] (aL D 34 (am a.1 s u b o c p d q)::(bn a.1 s u b o c p d q++[aL z 34 (am cB none 0 none 0 none 0 none 0)])) e ds As) (k:=k) ⟨_,_,H,jQ [0,1,2,3,4,5]⟩ ?_)
   clear H
   rintro pG e ds As ⟨J,y,H,d4⟩
   obtain _ | pG:=pG
   ·cases H
   rw [jJ.l0] at H
   refine SA.of_St d4 fun junk=>ap (aP (ad ar (h:=ad (dU rfl rfl) (h:=bA ?_))))
   rcases bD H with⟨c5,H⟩|⟨c5,H⟩
   ·refine aC rfl c5 (ao (aa (ap (aT (ap ?_)))))
    refine fg (dC 0 8) [0,2] [1,3,4,5] fun _ _ _ _ _ sH dd pk=>?_
    refine bf 0 rfl sH aA (h:=bN 1 rfl sH (aO 0) (h:=T' 2 rfl sH ar ?_))
    obtain⟨⟨b1,b2⟩,H⟩:=aS H
    refine bN 3 rfl sH (br (i:=y) Tryz.underlying29 jm rfl rfl (Src.buf (k:=1) rfl) b1 b2) (h:=bN 4 rfl sH (bE (enc:=(fun x_ : Int=>[Value.int .i64 x_])) (i:=y) (j:=y.toNat * 1) (m:=0) (sz:=1) Tryz.underlying3 rfl rfl rfl rfl (Src.buf (k:=1) rfl) b1 b2 (fun _ _ h=>h) rfl) (h:=bf 5 rfl sH aA (h:=bN 6 rfl sH (aO 0) (h:=bf 7 rfl sH (eN rfl rfl) (h:=aV dd sH (aH (by kernel_rfl) (aa ?_)))))))
    rcases bD H with⟨K,H⟩|⟨K,H⟩
    ·refine aC rfl K (ak (ad aA (h:=bq (aO 0) (h:=S' ar ?_))))
     obtain⟨⟨b3,b4⟩,H⟩:=aS H
     refine bq (br (i:=y) Tryz.underlying29 jm rfl rfl (Src.buf (k:=1) rfl) b3 b4) (h:=l' (bE (enc:=(fun x_ : Int=>[Value.int .i64 x_])) (i:=y) (j:=y.toNat * 1) (m:=0) (sz:=1) Tryz.underlying3 rfl rfl rfl rfl (Src.buf (k:=1) rfl) b3 b4 (fun _ _ h=>h) rfl) ?_)
     obtain⟨c8,d1,H⟩:=bi H
     refine bT (ae c8) (bu (v:=ae c8) (congrArg (Value.int .i64) d1.symm)) (h:=ah (aG (aa (ak (ad ar (h:=S' (cV rfl rfl) ?_))))))
     obtain⟨c9,d2,H⟩:=bi H
     refine bT (ae c9) (bu (v:=ae c9) (congrArg (Value.int .i64) d2.symm)) (h:=ah ?_)
     exact aa ⟨pG,Nat.lt_succ_self _,_,_,H,eb [0,2,1,3,4,5]⟩
    refine aB rfl K (ao (aG (aa (ak (ad ar (h:=S' (cV rfl rfl) ?_))))))
    obtain⟨d0,d3,H⟩:=bi H
    refine bT (ae d0) (bu (v:=ae d0) (congrArg (Value.int .i64) d3.symm)) (h:=ah ?_)
    exact aa ⟨pG,Nat.lt_succ_self _,_,_,H,eb [0,2,1,3,4,5]⟩
   refine aB rfl c5 (ci (aX (aX (cj ?_))))
   have h:=aN H;subst h
   exact bH [0,1,2,3,4,5]
  rintro e ds As c6
  clear H
  have H:=a6
  clear a6
  refine aa (SA.of_St c6 fun junk=>ak (ad ar (h:=ad aA (h:=o' (cJ 0 [ae Z] (h:=(ah (aG (aa (aP (ad aA (h:=o' (cJ 0 [.bool false] (h:=(cR ?_)))))))))))))))
  refine bq (cm 0) (h:=o' (bj z 0 5 (am (aJ.mk a.1.f0 a.1.f1 Z false a.1.f4 a.1.f5 a.1.f6 a.1.f7 a.1.f8 a.1.f9 a.1.f10 a.1.f11 a.1.f12 a.1.f13 a.1.f14 a.1.f15 a.1.f16 a.1.f17) s u b o c p d q) (h:=ad aW (h:=cD ?_))))
  have h:=aN H;subst h
  exact dE [.cell 4 34,.tmp 5] [1,2,3,4] ⟨s,u,b,o,c,p,d,q,rfl,rfl⟩ ⟨cW 5,cX,trivial⟩
 refine aB rfl b9 (ap (aP (ad (bk rfl rfl) (h:=ad aW (h:=bA ?_)))))
 obtain⟨e1,H,Y⟩:=ac H
 refine bK (St [(2,aI D),(4,aI z),(17,aM a1),(55,.bool e1)] (aL D 34 (am a.1 s u b o c p d q)::(bn a.1 s u b o c p d q++[aL z 34 (am cB none 0 none 0 none 0 none 0)]))) ?_ ?_
 ·rcases bD H with⟨L,H⟩|⟨L,H⟩
  ·refine aC rfl L (ao ?_)
   have h:=aN H;subst h
   exact bH [8,0,1,2,3,9]
  refine aB rfl L (aP (ad (bk rfl rfl) (h:=ad aW (h:=bA ?_))))
  rcases bD H with⟨M,H⟩|⟨M,H⟩
  ·refine aC rfl M (ao ?_)
   have h:=aN H;subst h
   exact bH [8,0,1,2,3,9]
  refine aB rfl M (ak (ad (bk rfl rfl) (h:=ad aW (h:=ah ?_))))
  have h:=aN H;subst h
  exact bH [8,0,1,2,3,9]
 rintro e ds As c7
 clear H
 have H:=Y
 clear Y
 refine aa (SA.of_St c7 fun junk=>?_)
 rcases bD H with⟨N,H⟩|⟨N,H⟩
 ·refine aD rfl N (bQ 1 fun e2=>bQ 2 fun e3=>bQ 3 fun e4=>bQ 4 fun e5=>ak ?_)
  obtain⟨e0,d5,H⟩:=ac H
  refine o' (ef [0,1,2,3,4] [5] (io.ok (bg:=D) d5) fun a2 a7 a3 a8 a4 a9 a5 b0=>?_)
  refine ah (aG (aa (aP (ad aA (h:=o' (cJ 0 [.bool false] (h:=(cR (bq (cm 0) (h:=o' (bj z 0 5 (am ({ e0 with f3:=false }) a2 a7 a3 a8 a4 a9 a5 b0) (h:=ad aW (h:=cD ?_)))))))))))))
  have h:=aN H;subst h
  exact dE [.cell 4 34,.tmp 5] [1,2,3,4] ⟨a2,a7,a3,a8,a4,a9,a5,b0,rfl,rfl⟩ ⟨cW 5,cX,trivial⟩
 refine aE rfl N (aP (ad (bk rfl rfl) (h:=ad aW (h:=bA ?_))))
 rcases bD H with⟨O,H⟩|⟨O,H⟩
 ·refine aC rfl O (ak (ad aA (h:=o' (cJ 0 [ae 0] (h:=(ah (aG (aa (aP (ad aA (h:=o' (cJ 0 [.bool false] (h:=(cR (bq (cm 0) (h:=o' (uF z 0 5 (am (aJ.mk a.1.f0 a.1.f1 0 false a.1.f4 a.1.f5 a.1.f6 a.1.f7 a.1.f8 a.1.f9 a.1.f10 a.1.f11 a.1.f12 a.1.f13 a.1.f14 a.1.f15 a.1.f16 a.1.f17) s u b o c p d q) ?_)))))))))))))))))
  refine ad aW (h:=cD ?_)
  have h:=aN H;subst h
  exact dE [.cell 4 34,.tmp 5] [1,2,3,4] ⟨s,u,b,o,c,p,d,q,rfl,rfl⟩ ⟨cW 5,cX,trivial⟩
 refine aB rfl O (aP (ad (bk rfl rfl) (h:=ad aW (h:=bA ?_))))
 rcases bD H with⟨R,H⟩|⟨R,H⟩
 ·refine aC rfl R (aP (ad aA (h:=bq (aO 0) (h:=ad aA (h:=bq (aO 0) (h:=ad (bk rfl rfl) (h:=bA ?_)))))))
  rcases bD H with⟨S,H⟩|⟨S,H⟩
  ·refine aC rfl S (bQ 1 fun e6=>bQ 2 fun e7=>bQ 3 fun e8=>bQ 4 fun e9=>ak (ad aA (h:=bq (cx D 0 0 [ae a.1.f0.f0,ae a.1.f0.f1,.slice s a.1.f0.f2.length u]) (h:=ad aA (h:=l' (aO 0) ?_)))))
   refine ad aA (h:=bq (aO 0) (h:=ad aA (h:=l' (cx D 6 0 (bF a.1.f4)) ?_)))
   obtain⟨E,d6,H⟩:=ac H
   refine o' (gy [1] [0,2,3,4,5] (cG.ok d6) fun F I=>?_)
   refine ad ar (h:=ad cw (h:=ad cw (h:=ad aA (h:=o' (cJ 2 [ae E.1.f0,ae E.1.f1,.slice F E.1.f2.length I] (h:=(ah (aG (aa (aP (ad aA (h:=o' (cJ 2 [.bool false] (h:=(bA (SA.of_St (l:=[(2,aI D),(4,aI z)]) (B:=[aL D 34 (am (aJ.mk E.1 a.1.f1 a.1.f2 false a.1.f4 a.1.f5 a.1.f6 a.1.f7 a.1.f8 a.1.f9 a.1.f10 a.1.f11 a.1.f12 a.1.f13 a.1.f14 a.1.f15 a.1.f16 a.1.f17) F I b o c p d q),Buf bI 55 F I E.1.f2,gL 3 b o a.1.f7,Buf bI 55 c p a.1.f16.f2,lZ 21 d q a.1.f17,aL z 34 (am cB none 0 none 0 none 0 none 0)]) (St.mk1 (cO rfl (cO rfl dY)) (Gh.sel [2,0,3,4,5,6] (by kernel_rfl) (by kernel_rfl))) fun junk=>?_))))))))))))))))
   refine aP (bq (cm 0) (h:=o' (bj z 0 5 (am (aJ.mk E.1 a.1.f1 a.1.f2 false a.1.f4 a.1.f5 a.1.f6 a.1.f7 a.1.f8 a.1.f9 a.1.f10 a.1.f11 a.1.f12 a.1.f13 a.1.f14 a.1.f15 a.1.f16 a.1.f17) F I b o c p d q) (h:=ad aW (h:=cD ?_)))))
   have h:=aN H;subst h
   exact dE [.cell 4 34,.tmp 5] [1,2,3,4] ⟨F,I,b,o,c,p,d,q,rfl,rfl⟩ ⟨cW 5,cX,trivial⟩
  refine aB rfl S (aP (ad aA (h:=bq (aO 0) (h:=ad (eN rfl rfl) (h:=bA ?_)))))
  rcases bD H with⟨U,H⟩|⟨U,H⟩
  ·refine aC rfl U (ak (ad aA (h:=bq (aO 0) (h:=ad (cV rfl rfl) (h:=ad aA (h:=o' (cJ 0 [ae (i64.wrap (a.1.f1 - 1))] (h:=(ah (aG (aa (aP (ad aA (h:=o' (cJ 0 [.bool false] (h:=?_))))))))))))))))
   refine cR (bq (cm 0) (h:=o' (bj z 0 5 (am (aJ.mk a.1.f0 (i64.wrap (a.1.f1 - 1)) a.1.f2 false a.1.f4 a.1.f5 a.1.f6 a.1.f7 a.1.f8 a.1.f9 a.1.f10 a.1.f11 a.1.f12 a.1.f13 a.1.f14 a.1.f15 a.1.f16 a.1.f17) s u b o c p d q) (h:=ad aW (h:=cD ?_)))))
   have h:=aN H;subst h
   exact dE [.cell 4 34,.tmp 5] [1,2,3,4] ⟨s,u,b,o,c,p,d,q,rfl,rfl⟩ ⟨cW 5,cX,trivial⟩
  refine aB rfl U (ao (aG (aa (aP (ad aA (h:=o' (cJ 0 [.bool false] (h:=(cR (bq (cm 0) (h:=o' (bj z 0 5 (am (aJ.mk a.1.f0 a.1.f1 a.1.f2 false a.1.f4 a.1.f5 a.1.f6 a.1.f7 a.1.f8 a.1.f9 a.1.f10 a.1.f11 a.1.f12 a.1.f13 a.1.f14 a.1.f15 a.1.f16 a.1.f17) s u b o c p d q) (h:=ad aW (h:=cD ?_))))))))))))))
  have h:=aN H;subst h
  exact dE [.cell 4 34,.tmp 5] [1,2,3,4] ⟨s,u,b,o,c,p,d,q,rfl,rfl⟩ ⟨cW 5,cX,trivial⟩
 refine aB rfl R (aP (bq (cm 0) (h:=o' (bj z 0 5 (am a.1 s u b o c p d q) (h:=ad aW (h:=cD (aY (aF ?_))))))))
 have h:=aN H;subst h
 exact dE [.cell 4 34,.tmp 5] [1,2,3,4] ⟨s,u,b,o,c,p,d,q,rfl,rfl⟩ ⟨cW 5,cX,trivial⟩


theorem Er.ok {a0 : aJ} {a1 : Int} {a2 : Int} {r : aJ × Int} (H : pS.f k a0 a1 a2 = some r) : dp Tryz.prog 42 #[.agg (am a0 af ag ay az au av aw ax).toArray,ae a1,ae a2] (co a0 af ag ay az au av aw ax) (fun v B=>∃ aQ aR bv bx bo bp bw bz,v = .tuple #[.agg (am r.1 aQ aR bv bx bo bp bw bz).toArray,ae r.2]∧B = (bn r.1 aQ aR bv bx bo bp bw bz)):=by
 refine aj Tryz.func42 rfl rfl ?_
 unfold pS.f at H
 refine aP (o' (bO (h:=fun u=>o' (cC (h:=fun s=>ad aW (h:=cR (l' (cm 4) ?_)))))))
 obtain⟨a,U,H⟩:=ac H
 refine o' (ef [0,1,2,3] [0,1,2,3,4,5] (rO.ok U) fun b m c o d p j q=>?_)
 refine ad ar (h:=ad cw (h:=ad cw (h:=o' (bj u 0 8 (am a.1 b m c o d p j q) (h:=ad aW (h:=eA (ad ar (h:=ad (bU rfl) (h:=bA ?_)))))))))
 rcases bD H with⟨I,H⟩|⟨I,H⟩
 ·refine aD rfl I (aP (bq (cm 8) (h:=o' (bj s 0 9 (am a.1 b m c o d p j q) (h:=ad aW (h:=cA ?_))))))
  have h:=aN H;subst h
  exact dE [.cell 6 34,.tmp 7] [0,1,2,3] ⟨b,m,c,o,d,p,j,q,rfl,rfl⟩ ⟨cW 9,cX,trivial⟩
 refine aE rfl I (ao (aa (ap ?_)))
 refine fg (dC 0 6) (dC 4 5) [0,1,2,3,4,5,6,7,9] fun _ _ _ _ _ sH dd pk=>?_
 refine bf 0 rfl sH aA (h:=bf 1 rfl sH aA (h:=bN 2 rfl sH (aO 4) (h:=bf 3 rfl sH (cV rfl rfl) (h:=T' 4 rfl sH aW ?_))))
 obtain⟨D,O,H⟩:=bi H
 refine kQ (ae D) 5 rfl sH (bu (v:=ae D) (congrArg (Value.int .i64) O.symm)) (h:=aV dd sH (aH (by kernel_rfl) (aa (SA.of_St (l:=[(1,ae a1),(2,ae a2),(3,aI u),(6,aI s),(9,ae 0),(10,ae D)]) (B:=(aL u 34 (am a.1 b m c o d p j q)::(bn a.1 b m c o d p j q++[aL s 34 (am cB none 0 none 0 none 0 none 0)]))) (St.mk1 (cO rfl (cO rfl (cO rfl (cO rfl (cO rfl (cO rfl dY)))))) (Gh.sel [4,5,6,7,8,13] (by kernel_rfl) (by kernel_rfl))) fun junk=>ap (aP (ad aA (h:=bq (aO 0) (h:=ad aA (h:=l' (aO 0) ?_)))))))))
 refine ad (gF rfl rfl) (h:=bA ?_)
 obtain⟨N,H,E⟩:=ac H
 refine bK (St [(1,ae a1),(2,ae a2),(3,aI u),(6,aI s),(9,ae 0),(10,ae N)] (aL u 34 (am a.1 b m c o d p j q)::(bn a.1 b m c o d p j q++[aL s 34 (am cB none 0 none 0 none 0 none 0)]))) ?_ ?_
 ·rcases bD H with⟨y,H⟩|⟨y,H⟩
  ·refine aC rfl y (ak (ad aA (h:=bq (aO 0) (h:=ad aW (h:=ah ?_)))))
   have h:=aN H;subst h
   exact bH [0,1,2,3,4,5]
  refine aB rfl y (ao ?_)
  have h:=aN H;subst h
  exact bH [0,1,2,3,4,5]
 rintro e ds As J
 clear H
 have H:=E
 clear E
 refine aa (SA.of_St J fun junk=>ap (aP (ad aA (h:=bq (aO 0) (h:=ad aA (h:=bq (aO 0) (h:=ad (dU rfl rfl) (h:=bA ?_))))))))
 obtain⟨Y,H,F⟩:=ac H
 refine bK (St [(1,ae a1),(2,ae a2),(3,aI u),(6,aI s),(9,ae Y),(10,ae N)] (aL u 34 (am a.1 b m c o d p j q)::(bn a.1 b m c o d p j q++[aL s 34 (am cB none 0 none 0 none 0 none 0)]))) ?_ ?_
 ·rcases bD H with⟨z,H⟩|⟨z,H⟩
  ·refine aC rfl z (ak (ad aA (h:=bq (aO 0) (h:=ad aW (h:=ah ?_)))))
   have h:=aN H;subst h
   exact bH [0,1,2,3,4,5]
  refine aB rfl z (ao ?_)
  have h:=aN H;subst h
  exact bH [0,1,2,3,4,5]
 rintro e ds As K
 clear H
 have H:=F
 clear F
 refine aa (SA.of_St K fun junk=>aP (ad aA (h:=bq (aO 0) (h:=ad ar (h:=ad ar (h:=S' ar ?_))))))
 obtain⟨L,S,H⟩:=ac H
 refine o' (da [] [0,1,2,3,4,5] (kz.ok S) ?_)
 refine ad aA (h:=o' (cJ 0 [ae L] (h:=(cR (ad aA (h:=bq (aO 0) (h:=ad ar (h:=ad aA (h:=ad aA (h:=bq (aO 0) (h:=S' (cV rfl rfl) ?_)))))))))))
 obtain⟨M,R,H⟩:=ac H
 refine o' (da [] [0,1,2,3,4,5] (kz.ok R) ?_)
 refine ad aA (h:=o' (cJ 0 [ae M] (h:=(cR (ad aA (h:=o' (cJ 0 [.bool false] (h:=(cR (bq (cm 0) (h:=o' (bj s 0 5 (am (aJ.mk a.1.f0 L M false a.1.f4 a.1.f5 a.1.f6 a.1.f7 a.1.f8 a.1.f9 a.1.f10 a.1.f11 a.1.f12 a.1.f13 a.1.f14 a.1.f15 a.1.f16 a.1.f17) b m c o d p j q) (h:=ad aW (h:=cD ?_))))))))))))))
 have h:=aN H;subst h
 exact dE [.cell 6 34,.tmp 7] [1,2,3,4] ⟨b,m,c,o,d,p,j,q,rfl,rfl⟩ ⟨cW 5,cX,trivial⟩


theorem Es.ok {a0 : aJ} {a1 : Int} {a2 : Int} {r : aJ × Int} (H : jY.f k a0 a1 a2 = some r) : dp Tryz.prog 43 #[.agg (am a0 af ag ay az au av aw ax).toArray,ae a1,ae a2] (co a0 af ag ay az au av aw ax) (fun v B=>∃ aQ aR bv bx bo bp bw bz,v = .tuple #[.agg (am r.1 aQ aR bv bx bo bp bw bz).toArray,ae r.2]∧B = (bn r.1 aQ aR bv bx bo bp bw bz)):=by
 refine aj Tryz.func43 rfl rfl ?_
 unfold jY.f at H
 refine aP (o' (bO (h:=fun D=>o' (cC (h:=fun z=>ad aW (h:=cR (l' (cm 4) ?_)))))))
 obtain⟨a,O,H⟩:=ac H
 refine o' (ef [0,1,2,3] [0,1,2,3,4,5] (rO.ok O) fun b m c o d p j q=>?_)
 refine ad ar (h:=ad cw (h:=ad cw (h:=o' (bj D 0 8 (am a.1 b m c o d p j q) (h:=ad aW (h:=eA (ad ar (h:=ad (bU rfl) (h:=bA ?_)))))))))
 rcases bD H with⟨E,H⟩|⟨E,H⟩
 ·refine aD rfl E (aP (bq (cm 8) (h:=o' (bj z 0 9 (am a.1 b m c o d p j q) (h:=ad aW (h:=cA ?_))))))
  have h:=aN H;subst h
  exact dE [.cell 6 34,.tmp 7] [0,1,2,3] ⟨b,m,c,o,d,p,j,q,rfl,rfl⟩ ⟨cW 9,cX,trivial⟩
 refine aE rfl E (ao (aa (ap ?_)))
 refine fg (dC 0 6) (dC 4 5) [0,1,2,3,4,5,6,7,9] fun _ _ _ _ _ sH dd pk=>?_
 refine bf 0 rfl sH aA (h:=bf 1 rfl sH aA (h:=bN 2 rfl sH (aO 4) (h:=bf 3 rfl sH (cV rfl rfl) (h:=T' 4 rfl sH aW ?_))))
 obtain⟨u,L,H⟩:=bi H
 refine kQ (ae u) 5 rfl sH (bu (v:=ae u) (congrArg (Value.int .i64) L.symm)) (h:=aV dd sH (aH (by kernel_rfl) (aa (SA.of_St (l:=[(1,ae a1),(2,ae a2),(3,aI D),(6,aI z),(9,ae 0),(10,ae u)]) (B:=(aL D 34 (am a.1 b m c o d p j q)::(bn a.1 b m c o d p j q++[aL z 34 (am cB none 0 none 0 none 0 none 0)]))) (St.mk1 (cO rfl (cO rfl (cO rfl (cO rfl (cO rfl (cO rfl dY)))))) (Gh.sel [4,5,6,7,8,13] (by kernel_rfl) (by kernel_rfl))) fun junk=>ap (aP (ad aA (h:=bq (aO 0) (h:=bA ?_))))))))
 obtain⟨K,H,y⟩:=ac H
 refine bK (St [(1,ae a1),(2,ae a2),(3,aI D),(6,aI z),(9,ae K.1),(10,ae K.2)] (aL D 34 (am a.1 b m c o d p j q)::(bn a.1 b m c o d p j q++[aL z 34 (am cB none 0 none 0 none 0 none 0)]))) ?_ ?_
 ·rcases bD H with⟨s,H⟩|⟨s,H⟩
  ·refine aD rfl s ?_
   refine fg (dC 0 6) [0] (dC 1 5) fun _ _ _ _ _ sH dd pk=>?_
   refine bf 0 rfl sH aA (h:=bN 1 rfl sH (aO 0) (h:=bf 2 rfl sH aA (h:=bN 3 rfl sH (aO 0) (h:=bf 4 rfl sH aW (h:=bf 5 rfl sH aW (h:=aV dd sH (aH (by kernel_rfl) ?_)))))))
   have h:=aN H;subst h
   exact bH [0,1,2,3,4,5]
  refine aE rfl s (ao ?_)
  have h:=aN H;subst h
  exact bH [0,1,2,3,4,5]
 rintro e ds As F
 clear H
 have H:=y
 clear y
 refine aa (SA.of_St F fun junk=>aP (ad ar (h:=ad ar (h:=ad ar (h:=S' ar ?_)))))
 obtain⟨I,N,H⟩:=ac H
 refine o' (da [] [0,1,2,3,4,5] (kz.ok N) ?_)
 refine ad aA (h:=o' (cJ 0 [ae I] (h:=(cR (ad ar (h:=ad aA (h:=ad aA (h:=bq (aO 0) (h:=S' (cV rfl rfl) ?_)))))))))
 obtain⟨J,M,H⟩:=ac H
 refine o' (da [] [0,1,2,3,4,5] (kz.ok M) ?_)
 refine ad aA (h:=o' (cJ 0 [ae J] (h:=(cR (ad aA (h:=o' (cJ 0 [.bool false] (h:=(cR (bq (cm 0) (h:=o' (bj z 0 5 (am (aJ.mk a.1.f0 I J false a.1.f4 a.1.f5 a.1.f6 a.1.f7 a.1.f8 a.1.f9 a.1.f10 a.1.f11 a.1.f12 a.1.f13 a.1.f14 a.1.f15 a.1.f16 a.1.f17) b m c o d p j q) (h:=ad aW (h:=cD ?_))))))))))))))
 have h:=aN H;subst h
 exact dE [.cell 6 34,.tmp 7] [1,2,3,4] ⟨b,m,c,o,d,p,j,q,rfl,rfl⟩ ⟨cW 5,cX,trivial⟩


theorem Et.ok {a0 : aJ} {a1 : Bool} {a2 : Int} {r : aJ × Int} (H : jK.f k a0 a1 a2 = some r) : dp Tryz.prog 44 #[.agg (am a0 af ag ay az au av aw ax).toArray,.bool a1,ae a2] (co a0 af ag ay az au av aw ax) (fun v B=>∃ aQ aR bv bx bo bp bw bz,v = .tuple #[.agg (am r.1 aQ aR bv bx bo bp bw bz).toArray,ae r.2]∧B = (bn r.1 aQ aR bv bx bo bp bw bz)):=by
 refine aj Tryz.func44 rfl rfl ?_
 unfold jK.f at H
 refine aP (o' (bO (h:=fun b5=>o' (cC (h:=fun u=>ad aW (h:=cR (l' (cm 4) ?_)))))))
 obtain⟨r9,f7,H⟩:=ac H
 refine o' (ef [0,1,2,3] [0,1,2,3,4,5] (rO.ok f7) fun a7 b2 a8 b3 a9 b4 b0 b6=>?_)
 refine ad ar (h:=ad cw (h:=ad cw (h:=o' (bj b5 0 8 (am r9.1 a7 b2 a8 b3 a9 b4 b0 b6) (h:=ad aW (h:=eA (ad ar (h:=ad (bU rfl) (h:=bA ?_)))))))))
 rcases bD H with⟨d4,H⟩|⟨d4,H⟩
 ·refine aD rfl d4 (aP (bq (cm 8) (h:=o' (bj u 0 9 (am r9.1 a7 b2 a8 b3 a9 b4 b0 b6) (h:=ad aW (h:=cA ?_))))))
  have h:=aN H;subst h
  exact dE [.cell 6 34,.tmp 7] [0,1,2,3] ⟨a7,b2,a8,b3,a9,b4,b0,b6,rfl,rfl⟩ ⟨cW 9,cX,trivial⟩
 refine aE rfl d4 (ao (aa (ap (aP (ad aW (h:=bA ?_))))))
 obtain⟨c8,H,d0⟩:=ac H
 refine bK (fun e ds As=>∃ (d2 : Nat),∃ (L : Option Addr) (R : Nat),∃ (M : Option Addr) (S : Nat),∃ (N : Option Addr) (U : Nat),∃ (O : Option Addr) (Y : Nat),St [(3,aI d2),(6,aI u)] (aL d2 34 (am c8 L R M S N U O Y)::(bn c8 L R M S N U O Y++[aL u 34 (am cB none 0 none 0 none 0 none 0)])) e ds As) ?_ ?_
 ·refine aT (cl (fun k_ e ds As=>∃ (a : aJ) (c : Int),∃ (b : Nat),∃ (d : Option Addr) (o : Nat),∃ (j : Option Addr) (p : Nat),∃ (l : Option Addr) (q : Nat),∃ (m : Option Addr) (s : Nat),jK.l0 a1 a2 k_ a c = some c8∧St [(1,.bool a1),(2,ae a2),(3,aI b),(6,aI u),(9,ae c)] (aL b 34 (am a d o j p l q m s)::(bn a d o j p l q m s++[aL u 34 (am cB none 0 none 0 none 0 none 0)])) e ds As) (k:=k) ⟨_,_,b5,a7,b2,a8,b3,a9,b4,b0,b6,H,jQ [8,0,1,2,3,9]⟩ ?_)
  clear H
  rintro e1 e ds As ⟨a,c,b,d,o,j,p,l,q,m,s,H,e9⟩
  obtain _ | e1:=e1
  ·cases H
  rw [jK.l0] at H
  refine SA.of_St e9 fun junk=>ap (aP (ad ar (h:=ad aA (h:=ad aA (h:=bq (aO 0) (h:=ad (cg rfl rfl) (h:=bA ?_)))))))
  rcases bD H with⟨d5,H⟩|⟨d5,H⟩
  ·refine aC rfl d5 (ao (aa (ap (aT (aP (ad aW (h:=ad aW (h:=bA (ap ?_)))))))))
   obtain⟨f5,H,d1⟩:=ac H
   refine bK (St [(1,.bool a1),(2,ae a2),(3,aI b),(6,aI u),(9,ae c),(10,ae f5.1),(11,ae f5.2)] (aL b 34 (am a d o j p l q m s)::(bn a d o j p l q m s++[aL u 34 (am cB none 0 none 0 none 0 none 0)]))) ?_ ?_
   ·refine aT (aP (ad ar (h:=ad aA (h:=bq (aO 0) (h:=ad (bk rfl rfl) (h:=S' ar ?_))))))
    obtain⟨g3,d7,H⟩:=bi H
    refine dy 3 [(1,.bool a1),(2,ae a2),(3,aI b),(6,aI u),(9,ae c),(10,ae 0),(11,ae 0),(35,.bool g3)] (aL b 34 (am a d o j p l q m s)::(bn a d o j p l q m s++[aL u 34 (am cB none 0 none 0 none 0 none 0)])) ?_ fun junk=>?_
    ·by_cases K : c = a.f1
     ·refine aZ (ai K) ar (h:=aZ (ai K) (bk rfl rfl) (h:=bY (ai K) (h:=ah ?_)))
      have x_:=fq d7 ((ai K));exact bH [0,1,2,3,4,5]
     refine ct 2 (al K) (ca (al K) (h:=ah ?_))
     have x_:=fp d7 ((al K));exact bH [0,1,2,3,4,5]
    refine ad aW (h:=bA ?_)
    rcases bD H with⟨d6,H⟩|⟨d6,H⟩
    ·refine aD rfl d6 ?_
     refine fg (dC 0 7) [0] (dC 1 5) fun _ _ _ _ _ sH dd pk=>?_
     refine bf 0 rfl sH aA (h:=bN 1 rfl sH (aO 0) (h:=bf 2 rfl sH aA (h:=bf 3 rfl sH aA (h:=bN 4 rfl sH (aO 0) (h:=bf 5 rfl sH aW (h:=bf 6 rfl sH aW (h:=aV dd sH (aH (by kernel_rfl) (aG ?_)))))))))
     have h:=aN H;subst h
     exact bH [0,1,2,3,4,5]
    refine aE rfl d6 (aP (ad ar (h:=ad aA (h:=bq (aO 0) (h:=ad (bk rfl rfl) (h:=S' ar ?_))))))
    obtain⟨f8,b8,H⟩:=bi H
    refine dy 3 [(1,.bool a1),(2,ae a2),(3,aI b),(6,aI u),(9,ae c),(10,ae 0),(11,ae 0),(49,.bool f8)] (aL b 34 (am a d o j p l q m s)::(bn a d o j p l q m s++[aL u 34 (am cB none 0 none 0 none 0 none 0)])) ?_ fun junk=>?_
    ·by_cases F : c = a.f1
     ·refine aZ (ai F) ar (h:=aZ (ai F) (bk rfl rfl) (h:=bY (ai F) (h:=ah ?_)))
      have x_:=fq b8 ((ai F));exact bH [0,1,2,3,4,5]
     refine ct 2 (al F) (ca (al F) (h:=ah ?_))
     have x_:=fp b8 ((al F));exact bH [0,1,2,3,4,5]
    refine ad aW (h:=bA ?_)
    rcases bD H with⟨Z,H⟩|⟨Z,H⟩
    ·refine aD rfl Z (ak (ad aA (h:=bq (aO 0) (h:=S' (bX rfl rfl) ?_))))
     obtain⟨e2,e7,H⟩:=bi H
     refine bT (ae e2) (bu (v:=ae e2) (congrArg (Value.int .i64) e7.symm)) (h:=ah (aG ?_))
     have h:=aN H;subst h
     exact bH [0,1,2,3,4,5]
    refine aE rfl Z (ap (aP (ad ar (h:=ad (bk rfl rfl) (h:=S' ar ?_)))))
    obtain⟨f9,H,e6⟩:=ac H
    refine dy 8 [(1,.bool a1),(2,ae a2),(3,aI b),(6,aI u),(9,ae c),(10,ae 0),(11,ae 0),(64,.bool f9)] (aL b 34 (am a d o j p l q m s)::(bn a d o j p l q m s++[aL u 34 (am cB none 0 none 0 none 0 none 0)])) ?_ fun junk=>?_
    ·rcases bD H with⟨y,H⟩|⟨y,H⟩
     ·refine aZ (ai y) ar (h:=Y' (ai y) ar ?_)
      rcases bD H with⟨E,H⟩|⟨E,H⟩
      ·refine ct 4 E (fR (ai y) (dB rfl (bR rfl (E) rfl) (gJ (ai y) ?_)))
       have h:=aN H;subst h
       exact dQ [0,1,2,3,4,5]
      refine aZ (aK E) ar (h:=aZ (aK E) aA (h:=cn (aK E) (aO 0) (h:=aZ (aK E) (bk rfl rfl) (h:=fR (ai y) (dB rfl (bL rfl (aK E) rfl) (gJ (ai y) ?_))))))
      have h:=aN H;subst h
      exact dQ [0,1,2,3,4,5]
     refine ct 2 (al y) (fY (fY (fY (fY (ct 1 (al y) (fZ (al y) ?_))))))
     have h:=aN H;subst h
     exact dQ [0,1,2,3,4,5]
    replace H:=e6
    refine ad aW (h:=bA ?_)
    obtain⟨g2,H,b1⟩:=ac H
    refine bK (St [(1,.bool a1),(2,ae a2),(3,aI b),(6,aI u),(9,ae c),(10,ae 0),(11,ae 0),(53,.bool g2)] (aL b 34 (am a d o j p l q m s)::(bn a d o j p l q m s++[aL u 34 (am cB none 0 none 0 none 0 none 0)]))) ?_ ?_
    ·rcases bD H with⟨a3,H⟩|⟨a3,H⟩
     ·refine aD rfl a3 (ao ?_)
      have h:=aN H;subst h
      exact bH [0,1,2,3,4,5]
     refine aE rfl a3 (aP (ad ar (h:=S' ar ?_)))
     obtain⟨e4,b9,H⟩:=bi H
     refine dy 3 [(1,.bool a1),(2,ae a2),(3,aI b),(6,aI u),(9,ae c),(10,ae 0),(11,ae 0),(69,.bool e4)] (aL b 34 (am a d o j p l q m s)::(bn a d o j p l q m s++[aL u 34 (am cB none 0 none 0 none 0 none 0)])) ?_ fun junk=>?_
     ·by_cases I : a1 = true
      ·refine aZ I ar (h:=aZ I (bk rfl rfl) (h:=bY I (h:=ah ?_)))
       have x_:=fq b9 I;exact bH [0,1,2,3,4,5]
      refine ct 2 (aK I) (ca (aK I) (h:=ah ?_))
      have x_:=fp b9 ((aK I));exact bH [0,1,2,3,4,5]
     refine S' ar ?_
     obtain⟨g0,c5,H⟩:=bi H
     refine dy 5 [(1,.bool a1),(2,ae a2),(3,aI b),(6,aI u),(9,ae c),(10,ae 0),(11,ae 0),(75,.bool g0)] (aL b 34 (am a d o j p l q m s)::(bn a d o j p l q m s++[aL u 34 (am cB none 0 none 0 none 0 none 0)])) ?_ fun junk=>?_
     ·by_cases z : e4 = true
      ·refine aZ z ar (h:=aZ z aA (h:=cn z (aO 0) (h:=aZ z (eN rfl rfl) (h:=bY z (h:=ah ?_)))))
       have x_:=fq c5 z;exact bH [0,1,2,3,4,5]
      refine ct 4 (aK z) (ca (aK z) (h:=ah ?_))
      have x_:=fp c5 ((aK z));exact bH [0,1,2,3,4,5]
     refine ad aW (h:=bA ?_)
     rcases bD H with⟨a4,H⟩|⟨a4,H⟩
     ·refine aD rfl a4 (ao ?_)
      have h:=aN H;subst h
      exact bH [0,1,2,3,4,5]
     refine aE rfl a4 (ak (ad ar (h:=S' ar ?_)))
     obtain⟨e5,c6,H⟩:=bi H
     refine dy 3 [(1,.bool a1),(2,ae a2),(3,aI b),(6,aI u),(9,ae c),(10,ae 0),(11,ae 0),(80,.bool e5)] (aL b 34 (am a d o j p l q m s)::(bn a d o j p l q m s++[aL u 34 (am cB none 0 none 0 none 0 none 0)])) ?_ fun junk=>?_
     ·by_cases J : a1 = true
      ·refine aZ J ar (h:=aZ J (bk rfl rfl) (h:=bY J (h:=ah ?_)))
       have x_:=fq c6 J;exact bH [0,1,2,3,4,5]
      refine ct 2 (aK J) (ca (aK J) (h:=ah ?_))
      have x_:=fp c6 ((aK J));exact bH [0,1,2,3,4,5]
     refine S' ar ?_
     obtain⟨g1,c7,H⟩:=bi H
     refine dy 5 [(1,.bool a1),(2,ae a2),(3,aI b),(6,aI u),(9,ae c),(10,ae 0),(11,ae 0),(86,.bool g1)] (aL b 34 (am a d o j p l q m s)::(bn a d o j p l q m s++[aL u 34 (am cB none 0 none 0 none 0 none 0)])) ?_ fun junk=>?_
     ·by_cases D : e5 = true
      ·refine aZ D ar (h:=aZ D aA (h:=cn D (aO 0) (h:=aZ D (cg rfl rfl) (h:=bY D (h:=ah ?_)))))
       have x_:=fq c7 D;exact bH [0,1,2,3,4,5]
      refine ct 4 (aK D) (ca (aK D) (h:=ah ?_))
      have x_:=fp c7 ((aK D));exact bH [0,1,2,3,4,5]
     refine ad aW (h:=ah ?_)
     have h:=aN H;subst h
     exact bH [0,1,2,3,4,5]
    rintro e ds As d8
    clear H
    have H:=b1
    clear b1
    refine aa (SA.of_St d8 fun junk=>?_)
    rcases bD H with⟨a5,H⟩|⟨a5,H⟩
    ·refine aD rfl a5 (ak (ad aA (h:=ad aA (h:=bq (aO 0) (h:=ad aW (h:=ah (aG ?_)))))))
     have h:=aN H;subst h
     exact bH [0,1,2,3,4,5]
    refine aE rfl a5 (ao (aG ?_))
    have h:=aN H;subst h
    exact bH [0,1,2,3,4,5]
   rintro e ds As d9
   clear H
   have H:=d1
   clear d1
   refine aa (SA.of_St d9 fun junk=>bQ 1 fun g4=>bQ 2 fun g5=>bQ 3 fun g6=>bQ 4 fun g7=>ak (ad aA (h:=bq (cx b 0 0 [ae a.f0.f0,ae a.f0.f1,.slice d a.f0.f2.length o]) (h:=S' ar ?_))))
   refine ad ar (h:=ad ar (h:=ad aA (h:=l' (cx b 6 0 (bF a.f4)) ?_)))
   obtain⟨a6,f6,H⟩:=ac H
   refine o' (gy [1] [0,2,3,4,5] (fz.ok f6) fun c9 d3=>?_)
   refine ad ar (h:=ad cw (h:=ad cw (h:=ad aA (h:=o' (cJ 2 [ae a6.1.f0,ae a6.1.f1,.slice c9 a6.1.f2.length d3] (h:=(ah (aG (aa (ak (ad ar (h:=S' (bX rfl rfl) ?_))))))))))))
   obtain⟨e3,e8,H⟩:=bi H
   refine bT (ae e3) (bu (v:=ae e3) (congrArg (Value.int .i64) e8.symm)) (h:=ah ?_)
   exact aa ⟨e1,Nat.lt_succ_self _,_,_,b,c9,d3,j,p,l,q,m,s,H,eb [2,0,3,4,5,6]⟩
  refine aB rfl d5 (ci (aX (aX (cj ?_))))
  have h:=aN H;subst h
  exact aa ⟨b,d,o,j,p,l,q,m,s,eb [0,1,2,3,4,5]⟩
 rintro e ds As ⟨d2,L,R,M,S,N,U,O,Y,e0⟩
 clear H
 have H:=d0
 clear d0
 refine aa (SA.of_St e0 fun junk=>aP (ad aA (h:=o' (cJ 0 [.bool false] (h:=(cR (bq (cm 0) (h:=o' (bj u 0 5 (am ({ c8 with f3:=false }) L R M S N U O Y) (h:=ad aW (h:=cD ?_)))))))))))
 have h:=aN H;subst h
 exact dE [.cell 6 34,.tmp 7] [1,2,3,4] ⟨L,R,M,S,N,U,O,Y,rfl,rfl⟩ ⟨cW 5,cX,trivial⟩


theorem Eu.ok {a0 : aJ} {a1 : Int} {r : aJ × Int} (H : pT.f k a0 a1 = some r) : dp Tryz.prog 45 #[.agg (am a0 af ag ay az au av aw ax).toArray,ae a1] (co a0 af ag ay az au av aw ax) (fun v B=>∃ aQ aR bv bx bo bp bw bz,v = .tuple #[.agg (am r.1 aQ aR bv bx bo bp bw bz).toArray,ae r.2]∧B = (bn r.1 aQ aR bv bx bo bp bw bz)):=by
 refine aj Tryz.func45 rfl rfl ?_
 unfold pT.f at H
 refine aP (o' (bO (h:=fun z=>o' (cC (h:=fun D=>ad aW (h:=cR (l' (cm 4) ?_)))))))
 obtain⟨a,J,H⟩:=ac H
 refine o' (ef [0,1,2,3] [0,1,2,3,4,5] (rO.ok J) fun u y j o l p m q=>?_)
 refine ad ar (h:=ad cw (h:=ad cw (h:=o' (bj z 0 8 (am a.1 u y j o l p m q) (h:=ad aW (h:=eA (ad ar (h:=ad (bU rfl) (h:=bA ?_)))))))))
 rcases bD H with⟨E,H⟩|⟨E,H⟩
 ·refine aD rfl E (aP (bq (cm 8) (h:=o' (bj D 0 9 (am a.1 u y j o l p m q) (h:=ad aW (h:=cA ?_))))))
  have h:=aN H;subst h
  exact dE [.cell 4 34,.tmp 5] [0,1,2,3] ⟨u,y,j,o,l,p,m,q,rfl,rfl⟩ ⟨cW 9,cX,trivial⟩
 refine aE rfl E (ao (aa (ap (aP (ad aA (h:=bq (aO 8) (h:=ad aA (h:=bq (aO 8) (h:=ad (cg rfl rfl) (h:=S' ar ?_))))))))))
 obtain⟨N,I,H⟩:=bi H
 refine cI 6 (St [(1,ae a1),(2,aI z),(4,aI D),(26,.bool N)] (aL z 34 (am a.1 u y j o l p m q)::(bn a.1 u y j o l p m q++[aL D 34 (am cB none 0 none 0 none 0 none 0)]))) ?_ ?_
 ·by_cases s : a.1.f1 < a.1.f5
  ·refine ct 5 (ai s) (bY (ai s) (h:=ah ?_))
   have x_:=ik I ((ai s));exact bH [8,0,1,2,3,9]
  refine aZ (al s) aA (h:=cn (al s) (aO 8) (h:=aZ (al s) aA (h:=cn (al s) (aO 8) (h:=aZ (al s) (eN rfl rfl) (h:=ca (al s) (h:=ah ?_))))))
  have x_:=ij I ((al s));exact bH [8,0,1,2,3,9]
 rintro e ds As K
 refine bA (SA.of_St K fun junk=>?_)
 rcases bD H with⟨F,H⟩|⟨F,H⟩
 ·refine aD rfl F (aP (bq (cm 0) (h:=o' (bj D 0 5 (am a.1 u y j o l p m q) (h:=ad aW (h:=cA ?_))))))
  have h:=aN H;subst h
  exact dE [.cell 4 34,.tmp 5] [1,2,3,4] ⟨u,y,j,o,l,p,m,q,rfl,rfl⟩ ⟨cW 5,cX,trivial⟩
 refine aE rfl F (ao (aa (ap (bQ 1 fun O=>bQ 2 fun R=>bQ 3 fun S=>bQ 4 fun U=>?_))))
 refine fg [0,1,2,3,4,5,6,7,8,10,11,13] [0] (dC 1 5) fun _ _ _ _ _ sH dd pk=>?_
 refine bf 0 rfl sH aA (h:=bN 1 rfl sH (cx z 0 0 [ae a.1.f0.f0,ae a.1.f0.f1,.slice u a.1.f0.f2.length y]) (h:=bf 2 rfl sH aA (h:=bN 3 rfl sH (aO 0) (h:=bf 4 rfl sH aA (h:=bN 5 rfl sH (aO 0) (h:=bf 6 rfl sH ar (h:=kQ (ae (fE a1 (-1000))) 7 rfl sH (nN rfl rfl) (h:=kQ (ae (i64.wrap (0 - (fE a1 (-1000))))) 8 rfl sH (ms rfl) (h:=T' 10 rfl sH aA ?_)))))))))
 refine r' 11 rfl sH (cx z 6 0 (bF a.1.f4)) ?_
 obtain⟨Y,L,H⟩:=ac H
 refine dT 9 rfl dd (da [] [0,1,2,3,4] (kz.ok L) ?_)
 obtain⟨b,M,H⟩:=ac H
 refine dT 12 rfl dd (gy [0] [1,2,3,4] (cG.ok M) fun c d=>?_)
 refine T' 13 rfl sH ar ?_
 refine iF (rs:=[14,15]) dd (by kernel_rfl) (by decide) (bG ⟨_,rfl,(.no rfl),?_⟩ (bG ⟨_,rfl,(.no rfl),?_⟩ dl))
 ·refine id (dB (v:=.agg #[ae b.1.f0,ae b.1.f1,.slice c b.1.f2.length d]) rfl cw ?_)
  refine iF (rs:=[15,16]) dd (by kernel_rfl) (by decide) (bG ⟨_,rfl,(.no rfl),?_⟩ (bG ⟨_,rfl,(.no rfl),?_⟩ dl))
  ·refine id (dB (v:=ae b.2) rfl cw (dT 16 rfl dd (dB (v:=aI z) rfl (kw z 0 0) (aV dd sH (eG 17 rfl (cJ 0 [ae b.1.f0,ae b.1.f1,.slice c b.1.f2.length d] (h:=(aH (by kernel_rfl) (aa (aP (ad aA (h:=o' (cJ 0 [ae 0] (h:=(ad aA (h:=o' (cJ 0 [.bool false] (h:=?_))))))))))))))))))
   refine cR (bq (cm 0) (h:=o' (bj D 0 6 (am (aJ.mk b.1 a.1.f1 0 false a.1.f4 a.1.f5 a.1.f6 a.1.f7 a.1.f8 a.1.f9 a.1.f10 a.1.f11 a.1.f12 a.1.f13 a.1.f14 a.1.f15 a.1.f16 a.1.f17) c d j o l p m q) (h:=ad aW (h:=cD ?_)))))
   have h:=aN H;subst h
   exact dE [.cell 4 34,.tmp 5] [1,3,4,5] ⟨c,d,j,o,l,p,m,q,rfl,rfl⟩ ⟨cW 6,cX,trivial⟩
  refine id (dB (v:=aI z) rfl (kw z 0 0) (aV dd sH ?_))
  refine eK (rs:=[15,17]) (by kernel_rfl) (by decide) (bG ⟨rfl,_,rfl,(.no rfl),?_⟩ (bG ⟨rfl,_,rfl,(.no rfl),?_⟩ dl))
  ·refine id (dB (v:=ae b.2) rfl cw (eG 17 rfl (cJ 0 [ae b.1.f0,ae b.1.f1,.slice c b.1.f2.length d] (h:=(aH (by kernel_rfl) (aa (aP (ad aA (h:=o' (cJ 0 [ae 0] (h:=(ad aA (h:=o' (cJ 0 [.bool false] (h:=(cR (l' (cm 0) ?_)))))))))))))))))
   refine o' (bj D 0 6 (am (aJ.mk b.1 a.1.f1 0 false a.1.f4 a.1.f5 a.1.f6 a.1.f7 a.1.f8 a.1.f9 a.1.f10 a.1.f11 a.1.f12 a.1.f13 a.1.f14 a.1.f15 a.1.f16 a.1.f17) c d j o l p m q) (h:=ad aW (h:=cD ?_)))
   have h:=aN H;subst h
   exact dE [.cell 4 34,.tmp 5] [1,3,4,5] ⟨c,d,j,o,l,p,m,q,rfl,rfl⟩ ⟨cW 6,cX,trivial⟩
  refine id (cJ 0 [ae b.1.f0,ae b.1.f1,.slice c b.1.f2.length d] (h:=(eG 15 rfl (dB (v:=ae b.2) rfl cw (aH (by kernel_rfl) (aa (aP (ad aA (h:=o' (cJ 0 [ae 0] (h:=(ad aA (h:=o' (cJ 0 [.bool false] (h:=(cR (l' (cm 0) ?_)))))))))))))))))
  refine o' (bj D 0 6 (am (aJ.mk b.1 a.1.f1 0 false a.1.f4 a.1.f5 a.1.f6 a.1.f7 a.1.f8 a.1.f9 a.1.f10 a.1.f11 a.1.f12 a.1.f13 a.1.f14 a.1.f15 a.1.f16 a.1.f17) c d j o l p m q) (h:=ad aW (h:=cD ?_)))
  have h:=aN H;subst h
  exact dE [.cell 4 34,.tmp 5] [1,3,4,5] ⟨c,d,j,o,l,p,m,q,rfl,rfl⟩ ⟨cW 6,cX,trivial⟩
 refine id (dB (v:=ae b.2) rfl cw (dT 14 rfl dd (dB (v:=.agg #[ae b.1.f0,ae b.1.f1,.slice c b.1.f2.length d]) rfl cw (dT 16 rfl dd (dB (v:=aI z) rfl (kw z 0 0) (aV dd sH (eG 17 rfl (cJ 0 [ae b.1.f0,ae b.1.f1,.slice c b.1.f2.length d] (h:=(aH (by kernel_rfl) (aa (aP (ad aA (h:=o' (cJ 0 [ae 0] (h:=(S' aA ?_)))))))))))))))))
 refine o' (cJ 0 [.bool false] (h:=(cR (bq (cm 0) (h:=o' (bj D 0 6 (am (aJ.mk b.1 a.1.f1 0 false a.1.f4 a.1.f5 a.1.f6 a.1.f7 a.1.f8 a.1.f9 a.1.f10 a.1.f11 a.1.f12 a.1.f13 a.1.f14 a.1.f15 a.1.f16 a.1.f17) c d j o l p m q) (h:=ad aW (h:=cD ?_))))))))
 have h:=aN H;subst h
 exact dE [.cell 4 34,.tmp 5] [1,3,4,5] ⟨c,d,j,o,l,p,m,q,rfl,rfl⟩ ⟨cW 6,cX,trivial⟩


theorem Ev.ok {a0 : aJ} {a1 : Int} {r : aJ × Int} (H : pU.f k a0 a1 = some r) : dp Tryz.prog 46 #[.agg (am a0 af ag ay az au av aw ax).toArray,ae a1] (co a0 af ag ay az au av aw ax) (fun v B=>∃ aQ aR bv bx bo bp bw bz,v = .tuple #[.agg (am r.1 aQ aR bv bx bo bp bw bz).toArray,ae r.2]∧B = (bn r.1 aQ aR bv bx bo bp bw bz)):=by
 refine aj Tryz.func46 rfl rfl ?_
 unfold pU.f at H
 refine aP (o' (bO (h:=fun z=>o' (cC (h:=fun E=>ad aW (h:=cR (l' (cm 4) ?_)))))))
 obtain⟨a,I,H⟩:=ac H
 refine o' (ef [0,1,2,3] [0,1,2,3,4,5] (rO.ok I) fun u y b j c m d o=>?_)
 refine ad ar (h:=ad cw (h:=ad cw (h:=o' (bj z 0 8 (am a.1 u y b j c m d o) (h:=ad aW (h:=eA (ad ar (h:=ad (bU rfl) (h:=bA ?_)))))))))
 rcases bD H with⟨D,H⟩|⟨D,H⟩
 ·refine aD rfl D (aP (bq (cm 8) (h:=o' (bj E 0 9 (am a.1 u y b j c m d o) (h:=ad aW (h:=cA ?_))))))
  have h:=aN H;subst h
  exact dE [.cell 4 34,.tmp 5] [0,1,2,3] ⟨u,y,b,j,c,m,d,o,rfl,rfl⟩ ⟨cW 9,cX,trivial⟩
 refine aE rfl D (ao (aa (ap (bQ 0 fun J=>bQ 1 fun K=>bQ 2 fun L=>bQ 3 fun M=>ak (ad aA (h:=bq (cx z 0 8 [ae a.1.f0.f0,ae a.1.f0.f1,.slice u a.1.f0.f2.length y]) (h:=S' aA ?_)))))))
 refine bq (aO 8) (h:=ad aA (h:=bq (aO 8) (h:=ad ar (h:=ad aA (h:=l' (cx z 6 8 (bF a.1.f4)) ?_)))))
 obtain⟨p,F,H⟩:=ac H
 refine o' (gy [0] [1,2,3,4,5,6,7,8,9] (fy.ok F) fun q s=>?_)
 refine ad ar (h:=ad cw (h:=ad cw (h:=ad aA (h:=o' (cJ 9 [ae p.1.f0,ae p.1.f1,.slice q p.1.f2.length s] (h:=(bA (SA.of_St (l:=[(2,aI z),(4,aI E)]) (B:=[aL z 34 (am (aJ.mk p.1 a.1.f1 a.1.f2 a.1.f3 a.1.f4 a.1.f5 a.1.f6 a.1.f7 a.1.f8 a.1.f9 a.1.f10 a.1.f11 a.1.f12 a.1.f13 a.1.f14 a.1.f15 a.1.f16 a.1.f17) q s b j c m d o),Buf bI 55 q s p.1.f2,gL 3 b j a.1.f7,Buf bI 55 c m a.1.f16.f2,lZ 21 d o a.1.f17,aL E 34 (am cB none 0 none 0 none 0 none 0)]) (St.mk1 (cO rfl (cO rfl dY)) (Gh.sel [9,0,2,3,4,10] (by kernel_rfl) (by kernel_rfl))) fun junk=>aP (ad aA (h:=o' (cJ 0 [.bool false] (h:=?_))))))))))))
 refine cR (bq (cm 0) (h:=o' (bj E 0 5 (am (aJ.mk p.1 a.1.f1 a.1.f2 false a.1.f4 a.1.f5 a.1.f6 a.1.f7 a.1.f8 a.1.f9 a.1.f10 a.1.f11 a.1.f12 a.1.f13 a.1.f14 a.1.f15 a.1.f16 a.1.f17) q s b j c m d o) (h:=ad aW (h:=cD ?_)))))
 have h:=aN H;subst h
 exact dE [.cell 4 34,.tmp 5] [1,2,3,4] ⟨q,s,b,j,c,m,d,o,rfl,rfl⟩ ⟨cW 5,cX,trivial⟩


theorem Ew.ok {a0 : aJ} {a1 : Int} {r : aJ × Int} (H : pV.f k a0 a1 = some r) : dp Tryz.prog 47 #[.agg (am a0 af ag ay az au av aw ax).toArray,ae a1] (co a0 af ag ay az au av aw ax) (fun v B=>∃ aQ aR bv bx bo bp bw bz,v = .tuple #[.agg (am r.1 aQ aR bv bx bo bp bw bz).toArray,ae r.2]∧B = (bn r.1 aQ aR bv bx bo bp bw bz)):=by
 refine aj Tryz.func47 rfl rfl ?_
 unfold pV.f at H
 refine aP (o' (bO (h:=fun z=>o' (cC (h:=fun E=>ad aW (h:=cR (l' (cm 4) ?_)))))))
 obtain⟨a,I,H⟩:=ac H
 refine o' (ef [0,1,2,3] [0,1,2,3,4,5] (rO.ok I) fun u y b j c m d o=>?_)
 refine ad ar (h:=ad cw (h:=ad cw (h:=o' (bj z 0 8 (am a.1 u y b j c m d o) (h:=ad aW (h:=eA (ad ar (h:=ad (bU rfl) (h:=bA ?_)))))))))
 rcases bD H with⟨D,H⟩|⟨D,H⟩
 ·refine aD rfl D (aP (bq (cm 8) (h:=o' (bj E 0 9 (am a.1 u y b j c m d o) (h:=ad aW (h:=cA ?_))))))
  have h:=aN H;subst h
  exact dE [.cell 4 34,.tmp 5] [0,1,2,3] ⟨u,y,b,j,c,m,d,o,rfl,rfl⟩ ⟨cW 9,cX,trivial⟩
 refine aE rfl D (ao (aa (ap (bQ 0 fun J=>bQ 1 fun K=>bQ 2 fun L=>bQ 3 fun M=>ak (ad aA (h:=bq (cx z 0 8 [ae a.1.f0.f0,ae a.1.f0.f1,.slice u a.1.f0.f2.length y]) (h:=S' aA ?_)))))))
 refine bq (aO 8) (h:=ad aA (h:=bq (aO 8) (h:=ad ar (h:=ad aA (h:=l' (cx z 6 8 (bF a.1.f4)) ?_)))))
 obtain⟨p,F,H⟩:=ac H
 refine o' (gy [0] [1,2,3,4,5,6,7,8,9] (cG.ok F) fun q s=>?_)
 refine ad ar (h:=ad cw (h:=ad cw (h:=ad aA (h:=o' (cJ 9 [ae p.1.f0,ae p.1.f1,.slice q p.1.f2.length s] (h:=(bA (SA.of_St (l:=[(2,aI z),(4,aI E)]) (B:=[aL z 34 (am (aJ.mk p.1 a.1.f1 a.1.f2 a.1.f3 a.1.f4 a.1.f5 a.1.f6 a.1.f7 a.1.f8 a.1.f9 a.1.f10 a.1.f11 a.1.f12 a.1.f13 a.1.f14 a.1.f15 a.1.f16 a.1.f17) q s b j c m d o),Buf bI 55 q s p.1.f2,gL 3 b j a.1.f7,Buf bI 55 c m a.1.f16.f2,lZ 21 d o a.1.f17,aL E 34 (am cB none 0 none 0 none 0 none 0)]) (St.mk1 (cO rfl (cO rfl dY)) (Gh.sel [9,0,2,3,4,10] (by kernel_rfl) (by kernel_rfl))) fun junk=>aP (ad aA (h:=o' (cJ 0 [.bool false] (h:=?_))))))))))))
 refine cR (bq (cm 0) (h:=o' (bj E 0 5 (am (aJ.mk p.1 a.1.f1 a.1.f2 false a.1.f4 a.1.f5 a.1.f6 a.1.f7 a.1.f8 a.1.f9 a.1.f10 a.1.f11 a.1.f12 a.1.f13 a.1.f14 a.1.f15 a.1.f16 a.1.f17) q s b j c m d o) (h:=ad aW (h:=cD ?_)))))
 have h:=aN H;subst h
 exact dE [.cell 4 34,.tmp 5] [1,2,3,4] ⟨q,s,b,j,c,m,d,o,rfl,rfl⟩ ⟨cW 5,cX,trivial⟩


theorem Ex.ok {a0 : aJ} {a1 : Int} {a2 : Int} {r : aJ × Int} (H : pW.f k a0 a1 a2 = some r) : dp Tryz.prog 48 #[.agg (am a0 af ag ay az au av aw ax).toArray,ae a1,ae a2] (co a0 af ag ay az au av aw ax) (fun v B=>∃ aQ aR bv bx bo bp bw bz,v = .tuple #[.agg (am r.1 aQ aR bv bx bo bp bw bz).toArray,ae r.2]∧B = (bn r.1 aQ aR bv bx bo bp bw bz)):=by
 refine aj Tryz.func48 rfl rfl ?_
 unfold pW.f at H
 refine aP (o' (bO (h:=fun y=>o' (cC (h:=fun s=>ad aW (h:=cR (l' (cm 4) ?_)))))))
 obtain⟨u,Z,H⟩:=ac H
 refine o' (ef [0,1,2,3] [0,1,2,3,4,5] (rO.ok Z) fun b l c m d o j p=>?_)
 refine ad ar (h:=ad cw (h:=ad cw (h:=o' (bj y 0 8 (am u.1 b l c m d o j p) (h:=ad aW (h:=eA (ad ar (h:=ad (bU rfl) (h:=bA ?_)))))))))
 rcases bD H with⟨z,H⟩|⟨z,H⟩
 ·refine aD rfl z (aP (bq (cm 8) (h:=o' (bj s 0 9 (am u.1 b l c m d o j p) (h:=ad aW (h:=cA ?_))))))
  have h:=aN H;subst h
  exact dE [.cell 6 34,.tmp 7] [0,1,2,3] ⟨b,l,c,m,d,o,j,p,rfl,rfl⟩ ⟨cW 9,cX,trivial⟩
 refine aE rfl z (ao (aa (ap (aP (ad ar (h:=ad (cg rfl rfl) (h:=S' ar ?_)))))))
 obtain⟨U,E,H⟩:=bi H
 refine dy 4 [(1,ae a1),(2,ae a2),(3,aI y),(6,aI s),(23,.bool U)] (aL y 34 (am u.1 b l c m d o j p)::(bn u.1 b l c m d o j p++[aL s 34 (am cB none 0 none 0 none 0 none 0)])) ?_ fun junk=>?_
 ·by_cases q : a1 < 0
  ·refine ct 3 (ai q) (bY (ai q) (h:=ah ?_))
   have x_:=ik E ((ai q));exact bH [8,0,1,2,3,9]
  refine aZ (al q) ar (h:=aZ (al q) ar (h:=aZ (al q) (dU rfl rfl) (h:=ca (al q) (h:=ah ?_))))
  have x_:=ij E ((al q));exact bH [8,0,1,2,3,9]
 refine S' ar ?_
 obtain⟨a3,F,H⟩:=bi H
 refine cI 6 (St [(1,ae a1),(2,ae a2),(3,aI y),(6,aI s),(30,.bool a3)] (aL y 34 (am u.1 b l c m d o j p)::(bn u.1 b l c m d o j p++[aL s 34 (am cB none 0 none 0 none 0 none 0)]))) ?_ ?_
 ·by_cases a : U = true
  ·refine ct 5 a (bY a (h:=ah ?_))
   have x_:=ik F a;exact bH [0,1,2,3,4,5]
  refine aZ (aK a) ar (h:=aZ (aK a) aA (h:=aZ (aK a) aA (h:=cn (aK a) (aO 0) (h:=aZ (aK a) (dU rfl rfl) (h:=ca (aK a) (h:=ah ?_))))))
  have x_:=ij F ((aK a));exact bH [0,1,2,3,4,5]
 rintro e ds As I
 refine bA (SA.of_St I fun junk=>?_)
 rcases bD H with⟨D,H⟩|⟨D,H⟩
 ·refine aD rfl D (aP (bq (cm 0) (h:=o' (bj s 0 5 (am u.1 b l c m d o j p) (h:=ad aW (h:=cA ?_))))))
  have h:=aN H;subst h
  exact dE [.cell 6 34,.tmp 7] [1,2,3,4] ⟨b,l,c,m,d,o,j,p,rfl,rfl⟩ ⟨cW 5,cX,trivial⟩
 refine aE rfl D (ao (aa (aP (ad ar (h:=ad ar (h:=ad aA (h:=o' (cJ 0 [ae a1] (h:=(ad aA (h:=o' (cJ 0 [ae a2] (h:=(bA (ap (bQ 1 fun a5=>?_))))))))))))))))
 refine bQ 2 fun a6=>bQ 3 fun a7=>bQ 4 fun a8=>ak (l' (cm 0) ?_)
 obtain⟨a4,Y,H⟩:=ac H
 refine o' (ef [1,2,3,4] [0,5] (jY.ok Y) fun J N K O L R M S=>?_)
 refine ad cw (h:=ad cw (h:=o' (bj s 0 9 (am a4.1 J N K O L R M S) (h:=ad aW (h:=cD ?_)))))
 have h:=aN H;subst h
 exact dE [.cell 6 34,.tmp 7] [0,1,2,3] ⟨J,N,K,O,L,R,M,S,rfl,rfl⟩ ⟨cW 9,cX,trivial⟩


theorem Ey.ok {a0 : aJ} {a1 : Bool} {r : aJ × Int} (H : ji.f k a0 a1 = some r) : dp Tryz.prog 49 #[.agg (am a0 af ag ay az au av aw ax).toArray,.bool a1] (co a0 af ag ay az au av aw ax) (fun v B=>∃ aQ aR bv bx bo bp bw bz,v = .tuple #[.agg (am r.1 aQ aR bv bx bo bp bw bz).toArray,ae r.2]∧B = (bn r.1 aQ aR bv bx bo bp bw bz)):=by
 refine aj Tryz.func49 rfl rfl ?_
 unfold ji.f at H
 refine aP (o' (bO (h:=fun s=>o' (cC (h:=fun u=>ad aW (h:=cR (l' (cm 4) ?_)))))))
 obtain⟨a,D,H⟩:=ac H
 refine o' (ef [0,1,2,3] [0,1,2,3,4,5] (rO.ok D) fun b m c o d p j q=>?_)
 refine ad ar (h:=ad cw (h:=ad cw (h:=o' (bj s 0 8 (am a.1 b m c o d p j q) (h:=ad aW (h:=eA (ad ar (h:=ad (bU rfl) (h:=bA ?_)))))))))
 rcases bD H with⟨y,H⟩|⟨y,H⟩
 ·refine aD rfl y (aP (bq (cm 8) (h:=o' (bj u 0 9 (am a.1 b m c o d p j q) (h:=ad aW (h:=cA ?_))))))
  have h:=aN H;subst h
  exact dE [.cell 4 34,.tmp 5] [0,1,2,3] ⟨b,m,c,o,d,p,j,q,rfl,rfl⟩ ⟨cW 9,cX,trivial⟩
 refine aE rfl y (ao (aa (ap (aP (ad ar (h:=bA ?_))))))
 rcases bD H with⟨z,H⟩|⟨z,H⟩
 ·refine aD rfl z (aP (ad aA (h:=bq (cx s 25 8 (gM a.1.f14)) (h:=o' (cC (h:=fun E=>o' (bj E 0 10 (gM a.1.f14) (h:=bA ?_))))))))
  refine fg (0::1::2::3::4::5::6::7::8::9::10::12::14::16::18::[]) [4,5,6,7,10] (dC 0 10) fun _ _ _ _ _ sH dd pk=>?_
  refine bf 0 rfl sH aA (h:=bN 1 rfl sH (aO 4) (h:=bf 2 rfl sH aA (h:=bN 3 rfl sH (aO 4) (h:=bf 4 rfl sH aA (h:=bN 5 rfl sH (aO 4) (h:=bf 6 rfl sH aA (h:=bN 7 rfl sH (aO 4) (h:=bf 8 rfl sH aA (h:=r' 9 rfl sH (cx E 4 4 (bF a.1.f14.f4)) ?_)))))))))
  refine bf 10 rfl sH aA (h:=dT 11 rfl dd (cJ 8 [ae a.1.f14.f0] (h:=(bf 12 rfl sH aA (h:=dT 13 rfl dd (cJ 8 [ae a.1.f14.f1] (h:=(bf 14 rfl sH aA (h:=dT 15 rfl dd (cJ 8 [.bool a.1.f14.f2] (h:=(bf 16 rfl sH aA (h:=dT 17 rfl dd (cJ 8 [.bool a.1.f14.f3] (h:=(bf 18 rfl sH aA (h:=dT 19 rfl dd (cJ 8 (bF a.1.f14.f4) (h:=?_)))))))))))))))))))
  refine aV dd sH (aH (by kernel_rfl) (aa (SA.of_St (l:=[(2,aI s),(4,aI u)]) (B:=(aL s 34 (am (aJ.mk a.1.f0 a.1.f14.f0 a.1.f14.f1 a.1.f14.f2 a.1.f14.f4 a.1.f5 a.1.f6 a.1.f7 a.1.f8 a.1.f14.f3 a.1.f10 a.1.f11 a.1.f12 a.1.f13 a.1.f14 a.1.f15 a.1.f16 a.1.f17) b m c o d p j q)::(bn a.1 b m c o d p j q++[aL u 34 (am cB none 0 none 0 none 0 none 0)]))) (St.mk1 (cO rfl (cO rfl dY)) (Gh.sel [13,5,6,7,8,14] (by kernel_rfl) (by kernel_rfl))) fun junk=>aP (bq (cm 0) (h:=o' (bj u 0 5 (am (aJ.mk a.1.f0 a.1.f14.f0 a.1.f14.f1 a.1.f14.f2 a.1.f14.f4 a.1.f5 a.1.f6 a.1.f7 a.1.f8 a.1.f14.f3 a.1.f10 a.1.f11 a.1.f12 a.1.f13 a.1.f14 a.1.f15 a.1.f16 a.1.f17) b m c o d p j q) (h:=ad aW (h:=cD ?_))))))))
  have h:=aN H;subst h
  exact dE [.cell 4 34,.tmp 5] [1,2,3,4] ⟨b,m,c,o,d,p,j,q,rfl,rfl⟩ ⟨cW 5,cX,trivial⟩
 refine aE rfl z (ak (ad aA (h:=bq (aO 8) (h:=ad aA (h:=bq (aO 8) (h:=ad aA (h:=bq (aO 8) (h:=ad aA (h:=l' (aO 8) ?_)))))))))
 refine ad aA (h:=bq (cx s 6 8 (bF a.1.f4)) (h:=bT (.agg (gM (dH.mk a.1.f1 a.1.f2 a.1.f3 a.1.f9 a.1.f4)).toArray) dS (h:=ad aA (h:=o' (cJ 8 (gM (dH.mk a.1.f1 a.1.f2 a.1.f3 a.1.f9 a.1.f4)) (h:=(bA (SA.of_St (l:=[(2,aI s),(4,aI u)]) (B:=(aL s 34 (am (aJ.mk a.1.f0 a.1.f1 a.1.f2 a.1.f3 a.1.f4 a.1.f5 a.1.f6 a.1.f7 a.1.f8 a.1.f9 a.1.f10 a.1.f11 a.1.f12 a.1.f13 (dH.mk a.1.f1 a.1.f2 a.1.f3 a.1.f9 a.1.f4) a.1.f15 a.1.f16 a.1.f17) b m c o d p j q)::(bn a.1 b m c o d p j q++[aL u 34 (am cB none 0 none 0 none 0 none 0)]))) (St.mk1 (cO rfl (cO rfl dY)) (Gh.sel [8,0,1,2,3,9] (by kernel_rfl) (by kernel_rfl))) fun junk=>aP (bq (cm 0) (h:=o' (uF u 0 5 (am (aJ.mk a.1.f0 a.1.f1 a.1.f2 a.1.f3 a.1.f4 a.1.f5 a.1.f6 a.1.f7 a.1.f8 a.1.f9 a.1.f10 a.1.f11 a.1.f12 a.1.f13 (dH.mk a.1.f1 a.1.f2 a.1.f3 a.1.f9 a.1.f4) a.1.f15 a.1.f16 a.1.f17) b m c o d p j q) ?_)))))))))))
 refine ad aW (h:=cD ?_)
 have h:=aN H;subst h
 exact dE [.cell 4 34,.tmp 5] [1,2,3,4] ⟨b,m,c,o,d,p,j,q,rfl,rfl⟩ ⟨cW 5,cX,trivial⟩


theorem Ez.ok {a0 : aJ} {a1 : Bool} {a2 : Int} {a3 : Bool} {r : aJ × Int} (H : pX.f k a0 a1 a2 a3 = some r) : dp Tryz.prog 50 #[.agg (am a0 af ag ay az au av aw ax).toArray,.bool a1,ae a2,.bool a3] (co a0 af ag ay az au av aw ax) (fun v B=>∃ aQ aR bv bx bo bp bw bz,v = .tuple #[.agg (am r.1 aQ aR bv bx bo bp bw bz).toArray,ae r.2]∧B = (bn r.1 aQ aR bv bx bo bp bw bz)):=by
 refine aj Tryz.func50 rfl rfl ?_
 unfold pX.f at H
 refine aP (o' (bO (h:=fun S=>o' (cC (h:=fun y=>ad aW (h:=cR (l' (cm 4) ?_)))))))
 obtain⟨a,i0,H⟩:=ac H
 refine o' (ef [0,1,2,3] [0,1,2,3,4,5] (rO.ok i0) fun p s d m q u j o=>?_)
 refine ad ar (h:=ad cw (h:=ad cw (h:=o' (bj S 0 8 (am a.1 p s d m q u j o) (h:=ad aW (h:=eA (ad ar (h:=ad (bU rfl) (h:=bA ?_)))))))))
 rcases bD H with⟨d8,H⟩|⟨d8,H⟩
 ·refine aD rfl d8 (aP (bq (cm 8) (h:=o' (bj y 0 9 (am a.1 p s d m q u j o) (h:=ad aW (h:=cA ?_))))))
  have h:=aN H;subst h
  exact dE [.cell 8 34,.tmp 9] [0,1,2,3] ⟨p,s,d,m,q,u,j,o,rfl,rfl⟩ ⟨cW 9,cX,trivial⟩
 refine aE rfl d8 (ao (aa (ap (aP (ad ar (h:=ad (bU rfl) (h:=bA ?_)))))))
 rcases bD H with⟨d9,H⟩|⟨d9,H⟩
 ·refine aD rfl d9 (ap (aP (ad ar (h:=ad (bk rfl rfl) (h:=bA ?_)))))
  rcases bD H with⟨e0,H⟩|⟨e0,H⟩
  ·refine aC rfl e0 (ak (ad ar (h:=ad aA (h:=o' (cJ 8 [.bool a3] (h:=(cR (bq (cm 8) (h:=o' (bj y 0 9 (am (aJ.mk a.1.f0 a.1.f1 a.1.f2 a.1.f3 a.1.f4 a.1.f5 a.1.f6 a.1.f7 a.1.f8 a.1.f9 a3 a.1.f11 a.1.f12 a.1.f13 a.1.f14 a.1.f15 a.1.f16 a.1.f17) p s d m q u j o) (h:=ad aW (h:=cA ?_))))))))))))
   have h:=aN H;subst h
   exact dE [.cell 8 34,.tmp 9] [0,1,2,3] ⟨p,s,d,m,q,u,j,o,rfl,rfl⟩ ⟨cW 9,cX,trivial⟩
  refine aB rfl e0 (ao (aa (aP (bq (cm 8) (h:=o' (bj y 0 9 (am a.1 p s d m q u j o) (h:=ad aW (h:=cA ?_))))))))
  have h:=aN H;subst h
  exact dE [.cell 8 34,.tmp 9] [0,1,2,3] ⟨p,s,d,m,q,u,j,o,rfl,rfl⟩ ⟨cW 9,cX,trivial⟩
 refine aE rfl d9 (ao (aa (ap (aP (ad ar (h:=bA (aT (aP (ad (bk rfl rfl) (h:=ad aW (h:=bA ?_)))))))))))
 rcases bD H with⟨e1,H⟩|⟨e1,H⟩
 ·refine aC rfl e1 (ak (ad ar (h:=ad aA (h:=o' (cJ 8 [.bool a3] (h:=(ah (aG (aa (aP (bq (cm 8) (h:=o' (bj y 0 9 (am (aJ.mk a.1.f0 a.1.f1 a.1.f2 a.1.f3 a.1.f4 a.1.f5 a.1.f6 a.1.f7 a.1.f8 a.1.f9 a.1.f10 a3 a.1.f12 a.1.f13 a.1.f14 a.1.f15 a.1.f16 a.1.f17) p s d m q u j o) (h:=ad aW (h:=cD ?_)))))))))))))))
  have h:=aN H;subst h
  exact dE [.cell 8 34,.tmp 9] [0,1,2,3] ⟨p,s,d,m,q,u,j,o,rfl,rfl⟩ ⟨cW 9,cX,trivial⟩
 refine aB rfl e1 (aP (ad (bk rfl rfl) (h:=ad aW (h:=bA ?_))))
 rcases bD H with⟨e2,H⟩|⟨e2,H⟩
 ·refine aC rfl e2 (aP (ad ar (h:=ad aA (h:=o' (cJ 8 [.bool a3] (h:=(bA (ap (bQ 0 fun k0=>bQ 1 fun k1=>bQ 2 fun k2=>bQ 3 fun k3=>?_)))))))))
  refine ak (l' (cm 8) ?_)
  obtain⟨oO,i4,H⟩:=ac H
  refine o' (ef [0,1,2,3] [4,5,6,7,8,9] (jY.ok i4) fun g1 g7 g2 g8 g3 g9 g4 h0=>?_)
  refine ad cw (h:=ad cw (h:=o' (bj y 0 13 (am oO.1 g1 g7 g2 g8 g3 g9 g4 h0) (h:=ad aW (h:=cD (aY (aF ?_)))))))
  have h:=aN H;subst h
  exact dE [.cell 8 34,.tmp 9] [0,1,2,3] ⟨g1,g7,g2,g8,g3,g9,g4,h0,rfl,rfl⟩ ⟨cW 13,cX,trivial⟩
 refine aB rfl e2 (aP (ad (bk rfl rfl) (h:=ad aW (h:=bA ?_))))
 rcases bD H with⟨e3,H⟩|⟨e3,H⟩
 ·refine aC rfl e3 (ak (ad ar (h:=ad aA (h:=o' (cJ 8 [.bool a3] (h:=(ah (aG (aa (aP (bq (cm 8) (h:=o' (bj y 0 9 (am (aJ.mk a.1.f0 a.1.f1 a.1.f2 a.1.f3 a.1.f4 a.1.f5 a.1.f6 a.1.f7 a3 a.1.f9 a.1.f10 a.1.f11 a.1.f12 a.1.f13 a.1.f14 a.1.f15 a.1.f16 a.1.f17) p s d m q u j o) (h:=ad aW (h:=cD ?_)))))))))))))))
  have h:=aN H;subst h
  exact dE [.cell 8 34,.tmp 9] [0,1,2,3] ⟨p,s,d,m,q,u,j,o,rfl,rfl⟩ ⟨cW 9,cX,trivial⟩
 refine aB rfl e3 (aP (ad (bk rfl rfl) (h:=ad aW (h:=bA ?_))))
 rcases bD H with⟨e4,H⟩|⟨e4,H⟩
 ·refine aC rfl e4 (ak (ad ar (h:=ad aA (h:=o' (cJ 8 [.bool a3] (h:=(ah (aG (aa (SA.of_St (l:=[(4,aI S),(8,aI y)]) (B:=(aL S 34 (am (aJ.mk a.1.f0 a.1.f1 a.1.f2 a.1.f3 a.1.f4 a.1.f5 a.1.f6 a.1.f7 a.1.f8 a.1.f9 a.1.f10 a.1.f11 a.1.f12 a3 a.1.f14 a.1.f15 a.1.f16 a.1.f17) p s d m q u j o)::(bn a.1 p s d m q u j o++[aL y 34 (am cB none 0 none 0 none 0 none 0)]))) (St.mk1 (cO rfl (cO rfl dY)) (Gh.sel [8,0,1,2,3,9] (by kernel_rfl) (by kernel_rfl))) fun junk=>aP (bq (cm 0) (h:=o' (uF y 0 5 (am (aJ.mk a.1.f0 a.1.f1 a.1.f2 a.1.f3 a.1.f4 a.1.f5 a.1.f6 a.1.f7 a.1.f8 a.1.f9 a.1.f10 a.1.f11 a.1.f12 a3 a.1.f14 a.1.f15 a.1.f16 a.1.f17) p s d m q u j o) ?_)))))))))))))
  refine ad aW (h:=cD ?_)
  have h:=aN H;subst h
  exact dE [.cell 8 34,.tmp 9] [1,2,3,4] ⟨p,s,d,m,q,u,j,o,rfl,rfl⟩ ⟨cW 5,cX,trivial⟩
 refine aB rfl e4 (aP (ad (bk rfl rfl) (h:=ad aW (h:=bA (SA.of_St (l:=[(3,.bool a3),(4,aI S),(8,aI y),(26,ae a2),(47,.bool (decide (a2 = 2004)))]) (B:=(aL S 34 (am a.1 p s d m q u j o)::(bn a.1 p s d m q u j o++[aL y 34 (am cB none 0 none 0 none 0 none 0)]))) (St.mk1 (cO rfl (cO rfl (cO rfl (cO rfl (cO rfl dY))))) (Gh.sel [8,0,1,2,3,9] (by kernel_rfl) (by kernel_rfl))) fun junk=>?_)))))
 rcases bD H with⟨e5,H⟩|⟨e5,H⟩
 ·refine aC rfl e5 (ak (ad ar (h:=ad aA (h:=o' (cJ 0 [.bool a3] (h:=(ah (aG (aa (aP (bq (cm 0) (h:=o' (bj y 0 5 (am (aJ.mk a.1.f0 a.1.f1 a.1.f2 a.1.f3 a.1.f4 a.1.f5 a.1.f6 a.1.f7 a.1.f8 a.1.f9 a.1.f10 a.1.f11 a3 a.1.f13 a.1.f14 a.1.f15 a.1.f16 a.1.f17) p s d m q u j o) (h:=ad aW (h:=cD ?_)))))))))))))))
  have h:=aN H;subst h
  exact dE [.cell 8 34,.tmp 9] [1,2,3,4] ⟨p,s,d,m,q,u,j,o,rfl,rfl⟩ ⟨cW 5,cX,trivial⟩
 refine aB rfl e5 (ap (aP (ad (bk rfl rfl) (h:=ad aW (h:=bA ?_)))))
 obtain⟨i6,H,b8⟩:=ac H
 refine bK (St [(3,.bool a3),(4,aI S),(8,aI y),(26,ae a2),(51,.bool i6)] (aL S 34 (am a.1 p s d m q u j o)::(bn a.1 p s d m q u j o++[aL y 34 (am cB none 0 none 0 none 0 none 0)]))) ?_ ?_
 ·rcases bD H with⟨e6,H⟩|⟨e6,H⟩
  ·refine aC rfl e6 (ao ?_)
   have h:=aN H;subst h
   exact bH [0,1,2,3,4,5]
  refine aB rfl e6 (ak (ad (bk rfl rfl) (h:=ad aW (h:=ah ?_))))
  have h:=aN H;subst h
  exact bH [0,1,2,3,4,5]
 rintro e ds As g0
 clear H
 have H:=b8
 clear b8
 refine aa (SA.of_St g0 fun junk=>?_)
 rcases bD H with⟨e7,H⟩|⟨e7,H⟩
 ·refine aD rfl e7 (ap (bQ 1 fun k4=>bQ 2 fun k5=>bQ 3 fun k6=>bQ 4 fun k7=>ak (bq (cm 0) (h:=S' ar ?_))))
  obtain⟨c,i5,H⟩:=ac H
  refine o' (mu [1,2,3,4] [0,5] (fA.ok i5) ?_)
  rintro _ _ (⟨F,g5,h1,rfl,rfl⟩ | ⟨F,g6,h3,rfl,rfl⟩ | ⟨F,rfl,rfl⟩)
  ·replace H:=ll F H
   refine o' (bj y 0 6 (am (aJ.mk c.2.f0 c.2.f1 c.2.f2 c.2.f3 c.2.f4 c.2.f5 c.2.f6 a.1.f7 c.2.f8 c.2.f9 c.2.f10 c.2.f11 c.2.f12 c.2.f13 c.2.f14 c.2.f15 (bJ.mk c.2.f16.f0 c.2.f16.f1 a.1.f0.f2) a.1.f17) g5 h1 d m p s j o) (h:=ad aW (h:=cD (aY (aF ?_)))))
   have h:=aN H;subst h
   exact dE [.cell 8 34,.tmp 9] [0,2,1,4] ⟨g5,h1,d,m,p,s,j,o,rfl,rfl⟩ ⟨cW 6,cX,trivial⟩
  ·replace H:=lk (by rw [F]; decide) H
   replace H:=ll F H
   refine o' (bj y 0 6 (am (aJ.mk (bJ.mk c.2.f0.f0 c.2.f0.f1 a.1.f16.f2) c.2.f1 c.2.f2 c.2.f3 c.2.f4 c.2.f5 c.2.f6 a.1.f7 c.2.f8 c.2.f9 c.2.f10 c.2.f11 c.2.f12 c.2.f13 c.2.f14 c.2.f15 c.2.f16 a.1.f17) q u d m g6 h3 j o) (h:=ad aW (h:=cD (aY (aF ?_)))))
   have h:=aN H;subst h
   exact dE [.cell 8 34,.tmp 9] [3,2,0,4] ⟨q,u,d,m,g6,h3,j,o,rfl,rfl⟩ ⟨cW 6,cX,trivial⟩
  replace H:=lk (by rw [F]; decide) H
  replace H:=lk (by rw [F]; decide) H
  replace H:=ll F H
  refine o' (bj y 0 5 (am (aJ.mk (bJ.mk c.2.f0.f0 c.2.f0.f1 a.1.f0.f2) c.2.f1 c.2.f2 c.2.f3 c.2.f4 c.2.f5 c.2.f6 a.1.f7 c.2.f8 c.2.f9 c.2.f10 c.2.f11 c.2.f12 c.2.f13 c.2.f14 c.2.f15 (bJ.mk c.2.f16.f0 c.2.f16.f1 a.1.f16.f2) a.1.f17) p s d m q u j o) (h:=ad aW (h:=cD (aY (aF ?_)))))
  have h:=aN H;subst h
  exact dE [.cell 8 34,.tmp 9] [0,1,2,3] ⟨p,s,d,m,q,u,j,o,rfl,rfl⟩ ⟨cW 5,cX,trivial⟩
 refine aE rfl e7 (aP (ad (bk rfl rfl) (h:=ad aW (h:=bA ?_))))
 rcases bD H with⟨e8,H⟩|⟨e8,H⟩
 ·refine aC rfl e8 (ap (aP (ad ar (h:=bA ?_))))
  rcases bD H with⟨e9,H⟩|⟨e9,H⟩
  ·refine aD rfl e9 (ap (bQ 1 fun k8=>bQ 2 fun k9=>bQ 3 fun l0=>bQ 4 fun i7=>ak (l' (cm 0) ?_)))
   obtain⟨z,h5,H⟩:=ac H
   refine o' (ef [1,2,3,4] [0,5] (ji.ok h5) fun M O I K N R J L=>?_)
   refine ad ar (h:=ad cw (h:=ad cw (h:=o' (bj S 0 8 (am z.1 M O I K N R J L) (h:=bA (ap (bQ 0 fun i8=>bQ 1 fun i9=>bQ 2 fun j0=>bQ 3 fun j1=>ak ?_)))))))
   refine l' (cm 8) ?_
   obtain⟨b,h4,H⟩:=ac H
   refine o' (mu [0,1,2,3] [4,5,6,7,8,9] (fA.ok h4) ?_)
   rintro _ _ (⟨D,Y,b9,rfl,rfl⟩ | ⟨D,Z,c5,rfl,rfl⟩ | ⟨D,rfl,rfl⟩)
   ·replace H:=ll D H
    refine o' (bj y 0 10 (am (aJ.mk b.2.f0 b.2.f1 b.2.f2 b.2.f3 b.2.f4 b.2.f5 b.2.f6 z.1.f7 b.2.f8 b.2.f9 b.2.f10 b.2.f11 b.2.f12 b.2.f13 b.2.f14 b.2.f15 (bJ.mk b.2.f16.f0 b.2.f16.f1 z.1.f0.f2) z.1.f17) Y b9 I K M O J L) (h:=ad aW (h:=cA (aY (aF ?_)))))
    have h:=aN H;subst h
    exact dE [.cell 8 34,.tmp 9] [0,2,1,4] ⟨Y,b9,I,K,M,O,J,L,rfl,rfl⟩ ⟨cW 10,cX,trivial⟩
   ·replace H:=lk (by rw [D]; decide) H
    replace H:=ll D H
    refine o' (bj y 0 10 (am (aJ.mk (bJ.mk b.2.f0.f0 b.2.f0.f1 z.1.f16.f2) b.2.f1 b.2.f2 b.2.f3 b.2.f4 b.2.f5 b.2.f6 z.1.f7 b.2.f8 b.2.f9 b.2.f10 b.2.f11 b.2.f12 b.2.f13 b.2.f14 b.2.f15 b.2.f16 z.1.f17) N R I K Z c5 J L) (h:=ad aW (h:=cA (aY (aF ?_)))))
    have h:=aN H;subst h
    exact dE [.cell 8 34,.tmp 9] [3,2,0,4] ⟨N,R,I,K,Z,c5,J,L,rfl,rfl⟩ ⟨cW 10,cX,trivial⟩
   replace H:=lk (by rw [D]; decide) H
   replace H:=lk (by rw [D]; decide) H
   replace H:=ll D H
   refine o' (bj y 0 9 (am (aJ.mk (bJ.mk b.2.f0.f0 b.2.f0.f1 z.1.f0.f2) b.2.f1 b.2.f2 b.2.f3 b.2.f4 b.2.f5 b.2.f6 z.1.f7 b.2.f8 b.2.f9 b.2.f10 b.2.f11 b.2.f12 b.2.f13 b.2.f14 b.2.f15 (bJ.mk b.2.f16.f0 b.2.f16.f1 z.1.f16.f2) z.1.f17) M O I K N R J L) (h:=ad aW (h:=cA (aY (aF ?_)))))
   have h:=aN H;subst h
   exact dE [.cell 8 34,.tmp 9] [0,1,2,3] ⟨M,O,I,K,N,R,J,L,rfl,rfl⟩ ⟨cW 9,cX,trivial⟩
  refine aE rfl e9 (ao (aa (aP (ad aA (h:=bq (aO 0) (h:=bA ?_))))))
  rcases bD H with⟨U,H⟩|⟨U,H⟩
  ·refine aD rfl U (ap (bQ 1 fun j2=>bQ 2 fun j3=>bQ 3 fun j4=>bQ 4 fun j5=>ak (l' (cm 0) ?_)))
   obtain⟨l1,h9,H⟩:=ac H
   refine o' (mu [1,2,3,4] [0,5] (fA.ok h9) ?_)
   rintro _ _ (⟨E,j6,j8,rfl,rfl⟩ | ⟨E,j7,j9,rfl,rfl⟩ | ⟨E,rfl,rfl⟩)
   ·replace H:=ll E H
    obtain⟨i1,h6,H⟩:=ac H
    refine o' (ef [0,2,1,4] [3,5,6] (ji.ok h6) fun a4 c6 a5 c7 a6 c8 a7 c9=>?_)
    refine ad cw (h:=ad cw (h:=o' (bj y 0 10 (am i1.1 a4 c6 a5 c7 a6 c8 a7 c9) (h:=ad aW (h:=cD (aY (aF ?_)))))))
    have h:=aN H;subst h
    exact dE [.cell 8 34,.tmp 9] [0,1,2,3] ⟨a4,c6,a5,c7,a6,c8,a7,c9,rfl,rfl⟩ ⟨cW 10,cX,trivial⟩
   ·replace H:=lk (by rw [E]; decide) H
    replace H:=ll E H
    obtain⟨i2,h7,H⟩:=ac H
    refine o' (ef [3,2,0,4] [1,5,6] (ji.ok h7) fun a8 d0 a9 d1 b0 d2 b1 d3=>?_)
    refine ad cw (h:=ad cw (h:=o' (bj y 0 10 (am i2.1 a8 d0 a9 d1 b0 d2 b1 d3) (h:=ad aW (h:=cD (aY (aF ?_)))))))
    have h:=aN H;subst h
    exact dE [.cell 8 34,.tmp 9] [0,1,2,3] ⟨a8,d0,a9,d1,b0,d2,b1,d3,rfl,rfl⟩ ⟨cW 10,cX,trivial⟩
   replace H:=lk (by rw [E]; decide) H
   replace H:=lk (by rw [E]; decide) H
   replace H:=ll E H
   obtain⟨i3,h8,H⟩:=ac H
   refine o' (ef [0,1,2,3] [4,5] (ji.ok h8) fun b2 d4 b3 d5 b4 d6 b6 d7=>?_)
   refine ad cw (h:=ad cw (h:=o' (bj y 0 9 (am i3.1 b2 d4 b3 d5 b4 d6 b6 d7) (h:=ad aW (h:=cD (aY (aF ?_)))))))
   have h:=aN H;subst h
   exact dE [.cell 8 34,.tmp 9] [0,1,2,3] ⟨b2,d4,b3,d5,b4,d6,b6,d7,rfl,rfl⟩ ⟨cW 9,cX,trivial⟩
  refine aE rfl U (ao (aG (aa (aP (bq (cm 0) (h:=o' (bj y 0 5 (am a.1 p s d m q u j o) (h:=ad aW (h:=cD ?_)))))))))
  have h:=aN H;subst h
  exact dE [.cell 8 34,.tmp 9] [1,2,3,4] ⟨p,s,d,m,q,u,j,o,rfl,rfl⟩ ⟨cW 5,cX,trivial⟩
 refine aB rfl e8 (ao (aG (aa (aP (bq (cm 0) (h:=o' (bj y 0 5 (am a.1 p s d m q u j o) (h:=ad aW (h:=cD ?_)))))))))
 have h:=aN H;subst h
 exact dE [.cell 8 34,.tmp 9] [1,2,3,4] ⟨p,s,d,m,q,u,j,o,rfl,rfl⟩ ⟨cW 5,cX,trivial⟩

end Go.Proofs.YtckilbegmbaeeaaGreat.Z7

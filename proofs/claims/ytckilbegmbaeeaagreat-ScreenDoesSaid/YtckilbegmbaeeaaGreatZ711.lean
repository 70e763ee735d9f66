/- Walks. -/
import Derived.Test.YtckilbegmbaeeaaGreatZ710
namespace Go.Proofs.YtckilbegmbaeeaaGreat.Z7
open Go Go.RowKit Go.Proofs.YtckilbegmbaeeaaGreat.SL
open Go.IntKind (i64)
set_option linter.unusedVariables false
set_option maxHeartbeats 20000000
set_option maxRecDepth 100000
set_option linter.unusedSimpArgs false
attribute [local irreducible] IntKind.wrap dm fE iD md lW rn lM fG ma rd sub bytesOf jD dv
variable {ag az av ax cF di dc dj k : Nat}
variable {af ay au aw cE df db dh : Option Addr}
theorem EA.ok {a0 : aJ} {a1 : Int} {r : aJ × Int} (H : fW.f k a0 a1 = some r) : dp Tryz.prog 51 #[.agg (am a0 af ag ay az au av aw ax).toArray,ae a1] (co a0 af ag ay az au av aw ax) (fun v B=>∃ aQ aR bv bx bo bp bw bz,v = .tuple #[.agg (am r.1 aQ aR bv bx bo bp bw bz).toArray,ae r.2]∧B = (bn r.1 aQ aR bv bx bo bp bw bz)):=by
 refine aj Tryz.func51 rfl rfl ?_
 unfold fW.f at H
 refine aP (o' (bO (h:=fun J=>o' (cC (h:=fun F=>ad aW (h:=cR (l' (cm 4) ?_)))))))
 obtain⟨b,e3,H⟩:=ac H
 refine o' (ef [0,1,2,3] [0,1,2,3,4,5] (rO.ok e3) fun d p u y l q o s=>?_)
 refine ad ar (h:=ad cw (h:=ad cw (h:=o' (bj J 0 8 (am b.1 d p u y l q o s) (h:=ad aW (h:=eA (ad ar (h:=ad (bU rfl) (h:=bA ?_)))))))))
 rcases bD H with⟨a7,H⟩|⟨a7,H⟩
 ·refine aD rfl a7 (aP (bq (cm 8) (h:=o' (bj F 0 9 (am b.1 d p u y l q o s) (h:=ad aW (h:=cA ?_))))))
  have h:=aN H;subst h
  exact dE [.cell 4 34,.tmp 5] [0,1,2,3] ⟨d,p,u,y,l,q,o,s,rfl,rfl⟩ ⟨cW 9,cX,trivial⟩
 refine aE rfl a7 (ao (aa (ap (aP (ad ar (h:=ad (cg rfl rfl) (h:=S' ar ?_)))))))
 obtain⟨e5,b4,H⟩:=bi H
 refine cI 3 (St [(1,ae a1),(2,aI J),(4,aI F),(24,.bool e5)] (aL J 34 (am b.1 d p u y l q o s)::(bn b.1 d p u y l q o s++[aL F 34 (am cB none 0 none 0 none 0 none 0)]))) ?_ ?_
 ·by_cases O : a1 < 0
  ·refine ct 2 (ai O) (bY (ai O) (h:=ah ?_))
   have x_:=ik b4 ((ai O));exact bH [8,0,1,2,3,9]
  refine aZ (al O) ar (h:=aZ (al O) (eN rfl rfl) (h:=ca (al O) (h:=ah ?_)))
  have x_:=ij b4 ((al O));exact bH [8,0,1,2,3,9]
 rintro e ds As c5
 refine bA (SA.of_St c5 fun junk=>?_)
 rcases bD H with⟨a8,H⟩|⟨a8,H⟩
 ·refine aD rfl a8 (aP (bq (cm 0) (h:=o' (bj F 0 5 (am b.1 d p u y l q o s) (h:=ad aW (h:=cA ?_))))))
  have h:=aN H;subst h
  exact dE [.cell 4 34,.tmp 5] [1,2,3,4] ⟨d,p,u,y,l,q,o,s,rfl,rfl⟩ ⟨cW 5,cX,trivial⟩
 refine aE rfl a8 (ao (aa (aP (ad aW (h:=eA (ad aW (h:=bA ?_)))))))
 obtain⟨Z,H,a3⟩:=ac H
 refine bK (fun e ds As=>∃ (R : Option Addr) (S : Nat),St [(2,aI J),(4,aI F),(7,.slice R Z.length S)] (gL 3 R S Z::(aL J 34 (am b.1 d p u y l q o s)::(bn b.1 d p u y l q o s++[aL F 34 (am cB none 0 none 0 none 0 none 0)]))) e ds As) ?_ ?_
 ·refine aT (cl (fun k_ e ds As=>∃ (a : (List Int)) (z : Int),∃ (D : Option Addr) (E : Nat),fW.l0 a1 b k_ a z = some Z∧St [(1,ae a1),(2,aI J),(4,aI F),(7,.slice D a.length E),(8,ae z)] (aL J 34 (am b.1 d p u y l q o s)::(bn b.1 d p u y l q o s++[aL F 34 (am cB none 0 none 0 none 0 none 0),gL 3 D E a])) e ds As) (k:=k) ⟨_,_,none,0,H,St.mk1 (cO rfl (cO rfl (cO rfl (cO rfl (cO rfl dY))))) ((Gh.nilBuf (Kd.int .i64) 3).trans (fk [0,1,2,3,4,5,6]))⟩ ?_)
  clear H
  rintro Y e ds As ⟨a,z,D,E,H,c6⟩
  obtain _ | Y:=Y
  ·cases H
  rw [fW.l0] at H
  refine SA.of_St c6 fun junk=>ap (aP (ad ar (h:=ad aA (h:=ad aA (h:=bq (aO 0) (h:=ad (cg rfl rfl) (h:=bA ?_)))))))
  rcases bD H with⟨a9,H⟩|⟨a9,H⟩
  ·refine aC rfl a9 (ao (aa (ap (aT (aP (ad aW (h:=eA (ad aW (h:=bA ?_)))))))))
   obtain⟨b9,H,a4⟩:=ac H
   refine bK (St [(1,ae a1),(2,aI J),(4,aI F),(7,.slice D a.length E),(8,ae z),(9,.bool b9)] (aL J 34 (am b.1 d p u y l q o s)::(bn b.1 d p u y l q o s++[aL F 34 (am cB none 0 none 0 none 0 none 0),gL 3 D E a]))) ?_ ?_
   ·refine aT (cl (fun k_ e ds As=>∃ (U : Bool) (I : Int),fW.l1 b z k_ U I = some b9∧St [(1,ae a1),(2,aI J),(4,aI F),(7,.slice D a.length E),(8,ae z),(9,.bool U),(10,ae I)] (aL J 34 (am b.1 d p u y l q o s)::(bn b.1 d p u y l q o s++[aL F 34 (am cB none 0 none 0 none 0 none 0),gL 3 D E a])) e ds As) (k:=Y) ⟨_,_,H,jQ [0,1,2,3,4,5,6]⟩ ?_)
    clear H
    rintro b8 e ds As ⟨U,I,H,c7⟩
    obtain _ | b8:=b8
    ·cases H
    rw [fW.l1] at H
    refine SA.of_St c7 fun junk=>ap (aP (ad ar (h:=ad aA (h:=bq (aO 0) (h:=bT (ae (b.1.f7.length : Int)) (cP Tryz.underlying29 rfl) (h:=ad (cg rfl rfl) (h:=bA ?_)))))))
    rcases bD H with⟨b0,H⟩|⟨b0,H⟩
    ·refine aC rfl b0 (ao (aa (ap (aT (ak (ad ar (h:=S' ar ?_)))))))
     obtain⟨e6,H,d7⟩:=ac H
     refine dy 8 [(1,ae a1),(2,aI J),(4,aI F),(7,.slice D a.length E),(8,ae z),(10,ae I),(49,.bool e6)] (aL J 34 (am b.1 d p u y l q o s)::(bn b.1 d p u y l q o s++[aL F 34 (am cB none 0 none 0 none 0 none 0),gL 3 D E a])) ?_ fun junk=>?_
     ·rcases bD H with⟨K,H⟩|⟨K,H⟩
      ·refine ct 7 K (gJ K ?_)
       have h:=aN H;subst h
       exact dQ [0,1,2,3,4,5,6]
      refine aZ (aK K) aA (h:=cn (aK K) (aO 0) (h:=Y' (aK K) ar ?_))
      obtain⟨⟨d4,d5⟩,H⟩:=aS H
      refine cn (aK K) (br (i:=I) Tryz.underlying29 jm rfl rfl (Src.buf (k:=2) rfl) d4 d5) (h:=cn (aK K) (bE (enc:=(fun x_ : Int=>[Value.int .i64 x_])) (i:=I) (j:=I.toNat * 1) (m:=0) (sz:=1) Tryz.underlying3 rfl rfl rfl rfl (Src.buf (k:=2) rfl) d4 d5 (fun _ _ h=>h) rfl) (h:=aZ (aK K) ar (h:=aZ (aK K) (bk rfl rfl) (h:=fZ (aK K) ?_))))
      have h:=aN H;subst h
      exact dQ [0,1,2,3,4,5,6]
     replace H:=d7
     refine ad aW (h:=ah (aG (aa (ak (ad ar (h:=S' (bX rfl rfl) ?_))))))
     obtain⟨n47,d8,H⟩:=bi H
     refine bT (ae n47) (bu (v:=ae n47) (congrArg (Value.int .i64) d8.symm)) (h:=ah ?_)
     exact aa ⟨b8,Nat.lt_succ_self _,_,_,H,eb [0,1,2,3,4,5,6]⟩
    refine aB rfl b0 (ci (aX (aX (cj ?_))))
    have h:=aN H;subst h
    exact bH [0,1,2,3,4,5,6]
   rintro e ds As c8
   clear H
   have H:=a4
   clear a4
   refine aa (SA.of_St c8 fun junk=>ap (aP (ad ar (h:=ad (bk rfl rfl) (h:=S' ar ?_)))))
   obtain⟨e7,H,a2⟩:=ac H
   refine cI 9 (St [(1,ae a1),(2,aI J),(4,aI F),(7,.slice D a.length E),(8,ae z),(9,.bool b9),(61,.bool e7)] (aL J 34 (am b.1 d p u y l q o s)::(bn b.1 d p u y l q o s++[aL F 34 (am cB none 0 none 0 none 0 none 0),gL 3 D E a]))) ?_ ?_
   ·rcases bD H with⟨L,H⟩|⟨L,H⟩
    ·refine ct 3 (ai L) (fY (fY (fY (fY (ct 1 (ai L) (gJ (ai L) ?_))))))
     have h:=aN H;subst h
     exact dQ [0,1,2,3,4,5,6]
    refine aZ (al L) ar (h:=aZ (al L) (bk rfl rfl) (h:=Y' (al L) ar ?_))
    rcases bD H with⟨N,H⟩|⟨N,H⟩
    ·refine aZ (ai N) ar (h:=aZ (ai N) aA (h:=cn (ai N) (aO 0) (h:=aZ (ai N) (bk rfl rfl) (h:=fR (al L) (dB rfl (bR rfl (ai N) rfl) (fZ (al L) ?_))))))
     have h:=aN H;subst h
     exact dQ [0,1,2,3,4,5,6]
    refine ct 4 (al N) (fR (al L) (dB rfl (bL rfl (al N) rfl) (fZ (al L) ?_)))
    have h:=aN H;subst h
    exact dQ [0,1,2,3,4,5,6]
   rintro e ds As c9
   clear H
   have H:=a2
   clear a2
   refine bA (SA.of_St c9 fun junk=>?_)
   obtain⟨d6,H,a5⟩:=ac H
   refine bK (St [(1,ae a1),(2,aI J),(4,aI F),(7,.slice D a.length E),(8,ae z),(9,.bool d6)] (aL J 34 (am b.1 d p u y l q o s)::(bn b.1 d p u y l q o s++[aL F 34 (am cB none 0 none 0 none 0 none 0),gL 3 D E a]))) ?_ ?_
   ·rcases bD H with⟨b1,H⟩|⟨b1,H⟩
    ·refine aD rfl b1 (ak (ad aW (h:=ah ?_)))
     have h:=aN H;subst h
     exact bH [0,1,2,3,4,5,6]
    refine aE rfl b1 (ao ?_)
    have h:=aN H;subst h
    exact bH [0,1,2,3,4,5,6]
   rintro e ds As d0
   clear H
   have H:=a5
   clear a5
   refine aa (SA.of_St d0 fun junk=>ap (aP (ad ar (h:=ad (bk rfl rfl) (h:=S' ar ?_)))))
   obtain⟨e8,b6,H⟩:=bi H
   refine cI 5 (St [(1,ae a1),(2,aI J),(4,aI F),(7,.slice D a.length E),(8,ae z),(9,.bool d6),(69,.bool e8)] (aL J 34 (am b.1 d p u y l q o s)::(bn b.1 d p u y l q o s++[aL F 34 (am cB none 0 none 0 none 0 none 0),gL 3 D E a]))) ?_ ?_
   ·by_cases M : a1 = 0
    ·refine aZ (ai M) ar (h:=aZ (ai M) aA (h:=cn (ai M) (aO 0) (h:=aZ (ai M) (bk rfl rfl) (h:=bY (ai M) (h:=ah ?_)))))
     have x_:=fq b6 ((ai M));exact bH [0,1,2,3,4,5,6]
    refine ct 4 (al M) (ca (al M) (h:=ah ?_))
    have x_:=fp b6 ((al M));exact bH [0,1,2,3,4,5,6]
   rintro e ds As d1
   refine bA (SA.of_St d1 fun junk=>?_)
   obtain⟨e9,H,a6⟩:=ac H
   refine bK (St [(1,ae a1),(2,aI J),(4,aI F),(7,.slice D a.length E),(8,ae z),(9,.bool e9)] (aL J 34 (am b.1 d p u y l q o s)::(bn b.1 d p u y l q o s++[aL F 34 (am cB none 0 none 0 none 0 none 0),gL 3 D E a]))) ?_ ?_
   ·rcases bD H with⟨b2,H⟩|⟨b2,H⟩
    ·refine aD rfl b2 (ak (ad aW (h:=ah ?_)))
     have h:=aN H;subst h
     exact bH [0,1,2,3,4,5,6]
    refine aE rfl b2 (ao ?_)
    have h:=aN H;subst h
    exact bH [0,1,2,3,4,5,6]
   rintro e ds As d2
   clear H
   have H:=a6
   clear a6
   refine aa (SA.of_St d2 fun junk=>aP (ad ar (h:=bA ?_)))
   rcases bD H with⟨b3,H⟩|⟨b3,H⟩
   ·refine aD rfl b3 (ak (ad ar (h:=ad ar (h:=o' (gD (kd:=(Kd.int .i64)) (zv:=(ae 0)) (sz:=1) (cells:=[ae z]) (xs:=([z] : (List Int))) rfl Tryz.underlying29 nu jm rfl rfl rfl (by kernel_rfl) rfl rfl (dR (fun x_ : Int=>[Value.int .i64 x_]) (fun _ _=>rfl) (by kernel_rfl)) fun g0=>?_)))))
    obtain⟨g1,H⟩:=aS H
    obtain⟨n69,d9,H⟩:=bi H
    refine o' (gm (k:=6) (A:=D) (c:=E) (xs:=a) (ys:=([z] : (List Int))) n69 d9 rfl Tryz.underlying29 pg rfl rfl rfl rfl rfl (nk.slice Tryz.underlying29 (Src.buf (k:=7) rfl)) (by omega) (by omega) fun e2 e4=>ad aW (h:=ah (aG (aa (ak (ad ar (h:=S' (bX rfl rfl) ?_)))))))
    obtain⟨n70,e0,H⟩:=bi H
    refine bT (ae n70) (bu (v:=ae n70) (congrArg (Value.int .i64) e0.symm)) (h:=ah ?_)
    exact aa ⟨Y,Nat.lt_succ_self _,_,_,e2,e4,H,eb [0,1,2,3,4,5,6]⟩
   refine aE rfl b3 (ao (aG (aa (ak (ad ar (h:=S' (bX rfl rfl) ?_))))))
   obtain⟨n71,e1,H⟩:=bi H
   refine bT (ae n71) (bu (v:=ae n71) (congrArg (Value.int .i64) e1.symm)) (h:=ah ?_)
   exact aa ⟨Y,Nat.lt_succ_self _,_,_,D,E,H,eb [0,1,2,3,4,5,6]⟩
  refine aB rfl a9 (ci (aX (aX (cj ?_))))
  have h:=aN H;subst h
  exact aa ⟨D,E,eb [6,0,1,2,3,4,5]⟩
 rintro e ds As ⟨R,S,d3⟩
 clear H
 have H:=a3
 clear a3
 refine aa (SA.of_St d3 fun junk=>aP (ad ar (h:=ad aA (h:=o' (cJ 1 [.slice R Z.length S] (h:=(cR (bq (cm 1) (h:=o' (bj F 0 6 (am (aJ.mk b.1.f0 b.1.f1 b.1.f2 b.1.f3 b.1.f4 b.1.f5 b.1.f6 Z b.1.f8 b.1.f9 b.1.f10 b.1.f11 b.1.f12 b.1.f13 b.1.f14 b.1.f15 b.1.f16 b.1.f17) d p R S l q o s) (h:=S' aW ?_)))))))))))
 refine cD ?_
 have h:=aN H;subst h
 exact dE [.cell 4 34,.tmp 5] [2,0,4,5] ⟨d,p,R,S,l,q,o,s,rfl,rfl⟩ ⟨cW 6,cX,trivial⟩


theorem EB.ok {a0 : aJ} {a1 : Int} {r : aJ × Int} (H : pY.f k a0 a1 = some r) : dp Tryz.prog 52 #[.agg (am a0 af ag ay az au av aw ax).toArray,ae a1] (co a0 af ag ay az au av aw ax) (fun v B=>∃ aQ aR bv bx bo bp bw bz,v = .tuple #[.agg (am r.1 aQ aR bv bx bo bp bw bz).toArray,ae r.2]∧B = (bn r.1 aQ aR bv bx bo bp bw bz)):=by
 refine aj Tryz.func52 rfl rfl ?_
 unfold pY.f at H
 refine aP (o' (bO (h:=fun u=>o' (cC (h:=fun y=>ad aW (h:=cR (l' (cm 4) ?_)))))))
 obtain⟨a,I,H⟩:=ac H
 refine o' (ef [0,1,2,3] [0,1,2,3,4,5] (rO.ok I) fun z D j p m q o s=>?_)
 refine ad ar (h:=ad cw (h:=ad cw (h:=o' (bj u 0 8 (am a.1 z D j p m q o s) (h:=ad aW (h:=eA (ad ar (h:=ad (bU rfl) (h:=bA ?_)))))))))
 rcases bD H with⟨E,H⟩|⟨E,H⟩
 ·refine aD rfl E (aP (bq (cm 8) (h:=o' (bj y 0 9 (am a.1 z D j p m q o s) (h:=ad aW (h:=cA ?_))))))
  have h:=aN H;subst h
  exact dE [.cell 4 34,.tmp 5] [0,1,2,3] ⟨z,D,j,p,m,q,o,s,rfl,rfl⟩ ⟨cW 9,cX,trivial⟩
 refine aE rfl E (ao (aa (ap (bQ 0 fun K=>bQ 1 fun L=>bQ 2 fun M=>bQ 3 fun N=>?_))))
 refine fg (0::1::2::3::4::5::6::7::8::9::10::11::12::13::14::16::17::19::[]) (dC 4 5) [0,1,2,3,4,5,6,7,9] fun _ _ _ _ _ sH dd pk=>?_
 refine bf 0 rfl sH aA (h:=bN 1 rfl sH (cx u 0 4 [ae a.1.f0.f0,ae a.1.f0.f1,.slice z a.1.f0.f2.length D]) (h:=bf 2 rfl sH aA (h:=bN 3 rfl sH (aO 4) (h:=bf 4 rfl sH aA (h:=bN 5 rfl sH (aO 4) (h:=bf 6 rfl sH aA (h:=bN 7 rfl sH (aO 4) (h:=bf 8 rfl sH ar (h:=t' (ae (fE 0 a1)) 9 rfl sH (nN rfl rfl) ?_)))))))))
 refine bf 10 rfl sH aA (h:=bN 11 rfl sH (aO 4) (h:=bf 12 rfl sH aA (h:=bf 13 rfl sH aA (h:=bN 14 rfl sH (aO 4) (h:=bf 16 rfl sH aA (h:=r' 17 rfl sH (cx u 6 4 (bF a.1.f4)) ?_))))))
 obtain⟨O,J,H⟩:=ac H
 refine dT 15 rfl dd (da [] [0,1,2,3,4,5,6,7,8] (kz.ok J) ?_)
 obtain⟨b,F,H⟩:=ac H
 refine dT 18 rfl dd (gy [0] [1,2,3,4,5,6,7,8] (fz.ok F) fun c d=>?_)
 refine T' 19 rfl sH ar ?_
 refine iF (rs:=[20,21]) dd (by kernel_rfl) (by decide) (bG ⟨_,rfl,(.no rfl),?_⟩ (bG ⟨_,rfl,(.no rfl),?_⟩ dl))
 ·refine id (dB (v:=.agg #[ae b.1.f0,ae b.1.f1,.slice c b.1.f2.length d]) rfl cw ?_)
  refine iF (rs:=[21,22]) dd (by kernel_rfl) (by decide) (bG ⟨_,rfl,(.no rfl),?_⟩ (bG ⟨_,rfl,(.no rfl),?_⟩ dl))
  ·refine id (dB (v:=ae b.2) rfl cw (dT 22 rfl dd (dB (v:=aI u) rfl (kw u 0 0) (aV dd sH (eG 23 rfl (cJ 4 [ae b.1.f0,ae b.1.f1,.slice c b.1.f2.length d] (h:=(aH (by kernel_rfl) (aa (SA.of_St (l:=[(2,aI u),(4,aI y)]) (B:=[aL u 34 (am (aJ.mk b.1 a.1.f1 a.1.f2 a.1.f3 a.1.f4 a.1.f5 a.1.f6 a.1.f7 a.1.f8 a.1.f9 a.1.f10 a.1.f11 a.1.f12 a.1.f13 a.1.f14 a.1.f15 a.1.f16 a.1.f17) c d j p m q o s),Buf bI 55 c d b.1.f2,gL 3 j p a.1.f7,Buf bI 55 m q a.1.f16.f2,lZ 21 o s a.1.f17,aL y 34 (am cB none 0 none 0 none 0 none 0)]) (St.mk1 (cO rfl (cO rfl dY)) (Gh.sel [4,5,7,8,9,14] (by kernel_rfl) (by kernel_rfl))) fun junk=>aP (ad aA (h:=o' (cJ 0 [.bool false] (h:=?_))))))))))))))
   refine cR (bq (cm 0) (h:=o' (bj y 0 5 (am (aJ.mk b.1 a.1.f1 a.1.f2 false a.1.f4 a.1.f5 a.1.f6 a.1.f7 a.1.f8 a.1.f9 a.1.f10 a.1.f11 a.1.f12 a.1.f13 a.1.f14 a.1.f15 a.1.f16 a.1.f17) c d j p m q o s) (h:=ad aW (h:=cD ?_)))))
   have h:=aN H;subst h
   exact dE [.cell 4 34,.tmp 5] [1,2,3,4] ⟨c,d,j,p,m,q,o,s,rfl,rfl⟩ ⟨cW 5,cX,trivial⟩
  refine id (dB (v:=aI u) rfl (kw u 0 0) (aV dd sH ?_))
  refine eK (rs:=[21,23]) (by kernel_rfl) (by decide) (bG ⟨rfl,_,rfl,(.no rfl),?_⟩ (bG ⟨rfl,_,rfl,(.no rfl),?_⟩ dl))
  ·refine id (dB (v:=ae b.2) rfl cw (eG 23 rfl (cJ 4 [ae b.1.f0,ae b.1.f1,.slice c b.1.f2.length d] (h:=(aH (by kernel_rfl) (aa (SA.of_St (l:=[(2,aI u),(4,aI y)]) (B:=[aL u 34 (am (aJ.mk b.1 a.1.f1 a.1.f2 a.1.f3 a.1.f4 a.1.f5 a.1.f6 a.1.f7 a.1.f8 a.1.f9 a.1.f10 a.1.f11 a.1.f12 a.1.f13 a.1.f14 a.1.f15 a.1.f16 a.1.f17) c d j p m q o s),Buf bI 55 c d b.1.f2,gL 3 j p a.1.f7,Buf bI 55 m q a.1.f16.f2,lZ 21 o s a.1.f17,aL y 34 (am cB none 0 none 0 none 0 none 0)]) (St.mk1 (cO rfl (cO rfl dY)) (Gh.sel [4,5,7,8,9,14] (by kernel_rfl) (by kernel_rfl))) fun junk=>aP (ad aA (h:=o' (cJ 0 [.bool false] (h:=(cR (l' (cm 0) ?_)))))))))))))
   refine o' (bj y 0 5 (am (aJ.mk b.1 a.1.f1 a.1.f2 false a.1.f4 a.1.f5 a.1.f6 a.1.f7 a.1.f8 a.1.f9 a.1.f10 a.1.f11 a.1.f12 a.1.f13 a.1.f14 a.1.f15 a.1.f16 a.1.f17) c d j p m q o s) (h:=ad aW (h:=cD ?_)))
   have h:=aN H;subst h
   exact dE [.cell 4 34,.tmp 5] [1,2,3,4] ⟨c,d,j,p,m,q,o,s,rfl,rfl⟩ ⟨cW 5,cX,trivial⟩
  refine id (cJ 4 [ae b.1.f0,ae b.1.f1,.slice c b.1.f2.length d] (h:=(eG 21 rfl (dB (v:=ae b.2) rfl cw (aH (by kernel_rfl) (aa (SA.of_St (l:=[(2,aI u),(4,aI y)]) (B:=[aL u 34 (am (aJ.mk b.1 a.1.f1 a.1.f2 a.1.f3 a.1.f4 a.1.f5 a.1.f6 a.1.f7 a.1.f8 a.1.f9 a.1.f10 a.1.f11 a.1.f12 a.1.f13 a.1.f14 a.1.f15 a.1.f16 a.1.f17) c d j p m q o s),Buf bI 55 c d b.1.f2,gL 3 j p a.1.f7,Buf bI 55 m q a.1.f16.f2,lZ 21 o s a.1.f17,aL y 34 (am cB none 0 none 0 none 0 none 0)]) (St.mk1 (cO rfl (cO rfl dY)) (Gh.sel [4,5,7,8,9,14] (by kernel_rfl) (by kernel_rfl))) fun junk=>aP (ad aA (h:=o' (cJ 0 [.bool false] (h:=(cR (l' (cm 0) ?_)))))))))))))
  refine o' (bj y 0 5 (am (aJ.mk b.1 a.1.f1 a.1.f2 false a.1.f4 a.1.f5 a.1.f6 a.1.f7 a.1.f8 a.1.f9 a.1.f10 a.1.f11 a.1.f12 a.1.f13 a.1.f14 a.1.f15 a.1.f16 a.1.f17) c d j p m q o s) (h:=ad aW (h:=cD ?_)))
  have h:=aN H;subst h
  exact dE [.cell 4 34,.tmp 5] [1,2,3,4] ⟨c,d,j,p,m,q,o,s,rfl,rfl⟩ ⟨cW 5,cX,trivial⟩
 refine id (dB (v:=ae b.2) rfl cw (dT 20 rfl dd (dB (v:=.agg #[ae b.1.f0,ae b.1.f1,.slice c b.1.f2.length d]) rfl cw (dT 22 rfl dd (dB (v:=aI u) rfl (kw u 0 0) (aV dd sH (eG 23 rfl (cJ 4 [ae b.1.f0,ae b.1.f1,.slice c b.1.f2.length d] (h:=(aH (by kernel_rfl) (aa (SA.of_St (l:=[(2,aI u),(4,aI y)]) (B:=[aL u 34 (am (aJ.mk b.1 a.1.f1 a.1.f2 a.1.f3 a.1.f4 a.1.f5 a.1.f6 a.1.f7 a.1.f8 a.1.f9 a.1.f10 a.1.f11 a.1.f12 a.1.f13 a.1.f14 a.1.f15 a.1.f16 a.1.f17) c d j p m q o s),Buf bI 55 c d b.1.f2,gL 3 j p a.1.f7,Buf bI 55 m q a.1.f16.f2,lZ 21 o s a.1.f17,aL y 34 (am cB none 0 none 0 none 0 none 0)]) (St.mk1 (cO rfl (cO rfl dY)) (Gh.sel [4,5,7,8,9,14] (by kernel_rfl) (by kernel_rfl))) fun junk=>aP (S' aA ?_)))))))))))))
 refine o' (cJ 0 [.bool false] (h:=(cR (bq (cm 0) (h:=o' (bj y 0 5 (am (aJ.mk b.1 a.1.f1 a.1.f2 false a.1.f4 a.1.f5 a.1.f6 a.1.f7 a.1.f8 a.1.f9 a.1.f10 a.1.f11 a.1.f12 a.1.f13 a.1.f14 a.1.f15 a.1.f16 a.1.f17) c d j p m q o s) (h:=ad aW (h:=cD ?_))))))))
 have h:=aN H;subst h
 exact dE [.cell 4 34,.tmp 5] [1,2,3,4] ⟨c,d,j,p,m,q,o,s,rfl,rfl⟩ ⟨cW 5,cX,trivial⟩


theorem EC.ok {a0 : aJ} {a1 : Int} {a2 : Int} {r : aJ × Int} (H : pZ.f k a0 a1 a2 = some r) : dp Tryz.prog 53 #[.agg (am a0 af ag ay az au av aw ax).toArray,ae a1,ae a2] (co a0 af ag ay az au av aw ax) (fun v B=>∃ aQ aR bv bx bo bp bw bz,v = .tuple #[.agg (am r.1 aQ aR bv bx bo bp bw bz).toArray,ae r.2]∧B = (bn r.1 aQ aR bv bx bo bp bw bz)):=by
 refine aj Tryz.func53 rfl rfl ?_
 unfold pZ.f at H
 refine aP (o' (bO (h:=fun L=>o' (cC (h:=fun M=>ad aW (h:=cR (l' (cm 4) ?_)))))))
 obtain⟨c,b4,H⟩:=ac H
 refine o' (ef [0,1,2,3] [0,1,2,3,4,5] (rO.ok b4) fun J K d u j y m z=>?_)
 refine ad ar (h:=ad cw (h:=ad cw (h:=o' (bj L 0 8 (am c.1 J K d u j y m z) (h:=ad aW (h:=eA (ad ar (h:=ad (bU rfl) (h:=bA ?_)))))))))
 rcases bD H with⟨a3,H⟩|⟨a3,H⟩
 ·refine aD rfl a3 (aP (bq (cm 8) (h:=o' (bj M 0 9 (am c.1 J K d u j y m z) (h:=ad aW (h:=cA ?_))))))
  have h:=aN H;subst h
  exact dE [.cell 6 34,.tmp 7] [0,1,2,3] ⟨J,K,d,u,j,y,m,z,rfl,rfl⟩ ⟨cW 9,cX,trivial⟩
 refine aE rfl a3 (ao (aa (ap (bQ 0 fun b6=>bQ 1 fun b8=>bQ 2 fun b9=>bQ 3 fun c5=>ak (ad aA (h:=bq (cx L 0 8 [ae c.1.f0.f0,ae c.1.f0.f1,.slice J c.1.f0.f2.length K]) (h:=S' ar ?_)))))))
 refine ad ar (h:=ad aA (h:=l' (cx L 6 8 (bF c.1.f4)) ?_))
 obtain⟨b,b3,H⟩:=ac H
 refine o' (gy [0] [1,2,3,4,5,6,7,8,9] (fS.ok b3) fun o D=>?_)
 refine ad ar (h:=ad cw (h:=ad cw (h:=o' (cC (h:=fun S=>o' (bj S 0 11 [ae b.1.f0,ae b.1.f1,.slice o b.1.f2.length D] (h:=ad aW (h:=bA (SA.of_St (l:=[(1,ae a1),(2,ae a2),(3,aI L),(6,aI M),(9,aI S),(10,ae b.2)]) (B:=(aL L 34 (am c.1 J K d u j y m z)::(bn c.1 J K d u j y m z++[aL M 34 (am cB none 0 none 0 none 0 none 0),aL S 26 [ae b.1.f0,ae b.1.f1,.slice o b.1.f2.length D],Buf bI 55 o D b.1.f2]))) (St.mk1 (cO rfl (cO rfl (cO rfl (cO rfl (cO rfl (cO rfl dY)))))) (Gh.sel [9,1,2,3,4,10,11,0] (by kernel_rfl) (by kernel_rfl))) fun junk=>ap (aP (S' ar ?_)))))))))))
 refine ad (dt rfl rfl) (h:=bA ?_)
 rcases bD H with⟨a4,H⟩|⟨a4,H⟩
 ·refine aC rfl a4 (aP (bT (.agg (am cB none 0 none 0 none 0 none 0).toArray) dS (h:=ad ar (h:=o' (bj M 0 5 (am cB none 0 none 0 none 0 none 0) (h:=ad aW (h:=cA ?_)))))))
  have h:=aN H;subst h
  exact lX [.cell 6 34,.tmp 7] ((Gh.nilBuf bI 55).trans ((Gh.nilBuf (Kd.int .i64) 3).trans ((Gh.nilBuf bI 55).trans ((Gh.nilBuf (Kd.int .i32) 21).trans (fk [8,9,10,11]))))) ⟨none,0,none,0,none,0,none,0,rfl,rfl⟩ ⟨cW 5,cX,trivial⟩
 refine aB rfl a4 (ao (aa (aP (bq (cx S 0 6 [ae b.1.f0,ae b.1.f1,.slice o b.1.f2.length D]) (h:=ad aA (h:=o' (cJ 0 [ae b.1.f0,ae b.1.f1,.slice o b.1.f2.length D] (h:=(eA (ad aA (h:=bq (aO 0) (h:=bA ?_))))))))))))
 obtain⟨a,H,Y⟩:=ac H
 refine bK (fun e ds As=>∃ (O : Nat),∃ (p : Option Addr) (E : Nat),∃ (N : Option Addr) (R : Nat),∃ (q : Option Addr) (F : Nat),∃ (s : Option Addr) (I : Nat),St [(1,ae a1),(2,ae a2),(3,aI O),(6,aI M)] (aL O 34 (am a p E N R q F s I)::(bn a p E N R q F s I++[aL M 34 (am cB none 0 none 0 none 0 none 0)])) e ds As) ?_ ?_
 ·rcases bD H with⟨a5,H⟩|⟨a5,H⟩
  ·refine aD rfl a5 (bQ 7 fun c6=>ak (ad aA (h:=bq (cx L 40 0 [ae c.1.f16.f0,ae c.1.f16.f1,.slice j c.1.f16.f2.length y]) (h:=ad ar (h:=ad ar (h:=ad aA (h:=l' (cx L 6 0 (bF c.1.f4)) ?_)))))))
   obtain⟨a6,b1,H⟩:=ac H
   refine o' (gy [3] [0,1,2,4,5,6,7] (fS.ok b1) fun a8 a9=>?_)
   refine ad ar (h:=ad cw (h:=ad cw (h:=ad aA (h:=o' (cJ 2 [ae a6.1.f0,ae a6.1.f1,.slice a8 a6.1.f2.length a9] (h:=(ah ?_)))))))
   have h:=aN H;subst h
   exact aa ⟨L,o,D,d,u,a8,a9,m,z,eb [2,8,4,0,5,6]⟩
  refine aE rfl a5 (ao ?_)
  have h:=aN H;subst h
  exact aa ⟨L,o,D,d,u,j,y,m,z,eb [0,7,2,3,4,5]⟩
 rintro e ds As ⟨O,p,E,N,R,q,F,s,I,a7⟩
 clear H
 have H:=Y
 clear Y
 refine aa (SA.of_St a7 fun junk=>aP (ad aA (h:=bq (aO 0) (h:=ad ar (h:=ad (cV rfl rfl) (h:=bT (ae (dm a.f1 (i64.wrap (a2 - 1)))) (jL rfl rfl) (h:=ad aA (h:=l' (aO 0) ?_))))))))
 refine ad ar (h:=ad (cV rfl rfl) (h:=bT (ae (dm a.f2 (i64.wrap (a1 - 1)))) (jL rfl rfl) (h:=ad aA (h:=o' (cJ 0 [ae (dm a.f1 (i64.wrap (a2 - 1)))] (h:=(ad aA (h:=o' (cJ 0 [ae (dm a.f2 (i64.wrap (a1 - 1)))] (h:=(ad aA (h:=o' (cJ 0 [.bool false] (h:=(cR ?_)))))))))))))))
 refine ad aA (h:=ad aA (h:=bq (aO 0) (h:=ad ar (h:=ad (cV rfl rfl) (h:=bT (ae (dm a.f14.f0 (i64.wrap (a2 - 1)))) (jL rfl rfl) (h:=ad aA (h:=ad aA (h:=bq (aO 0) (h:=S' ar ?_)))))))))
 refine ad (cV rfl rfl) (h:=bT (ae (dm a.f14.f1 (i64.wrap (a1 - 1)))) (jL rfl rfl) (h:=ad aA (h:=ad aA (h:=o' (cJ 0 [ae (dm a.f14.f0 (i64.wrap (a2 - 1)))] (h:=(ad aA (h:=ad aA (h:=o' (cJ 0 [ae (dm a.f14.f1 (i64.wrap (a1 - 1)))] (h:=(ad aA (h:=S' aA ?_)))))))))))))
 refine o' (cJ 0 [.bool false] (h:=(bA (SA.of_St (l:=[(1,ae a1),(2,ae a2),(3,aI O),(6,aI M)]) (B:=(aL O 34 (am ({ a with f1:=(dm a.f1 (i64.wrap (a2 - 1))),f2:=(dm a.f2 (i64.wrap (a1 - 1))),f3:=false,f14:=(dH.mk (dm a.f14.f0 (i64.wrap (a2 - 1))) (dm a.f14.f1 (i64.wrap (a1 - 1))) false a.f14.f3 a.f14.f4) }) p E N R q F s I)::(bn a p E N R q F s I++[aL M 34 (am cB none 0 none 0 none 0 none 0)]))) (St.mk1 (cO rfl (cO rfl (cO rfl (cO rfl dY)))) (Gh.sel [0,1,2,3,4,5] (by kernel_rfl) (by kernel_rfl))) fun junk=>aP (ad ar (h:=ad (cV rfl rfl) (h:=S' ar ?_)))))))
 obtain⟨b0,b2,H⟩:=ac H
 refine o' (gy [] [0,1,2,3,4,5] (qE.ok b2) fun U Z=>?_)
 refine ad aA (h:=o' (cJ 1 [ae 0] (h:=(ad aA (h:=o' (cJ 1 [ae (i64.wrap (a2 - 1))] (h:=(ad aA (h:=o' (cJ 1 [.slice U b0.length Z] (h:=(cR (bq (cm 1) (h:=o' (bj M 0 6 (am ({ a with f1:=(dm a.f1 (i64.wrap (a2 - 1))),f2:=(dm a.f2 (i64.wrap (a1 - 1))),f3:=false,f5:=0,f6:=(i64.wrap (a2 - 1)),f7:=b0,f14:=(dH.mk (dm a.f14.f0 (i64.wrap (a2 - 1))) (dm a.f14.f1 (i64.wrap (a1 - 1))) false a.f14.f3 a.f14.f4) }) p E U Z q F s I) (h:=S' aW ?_))))))))))))))))
 refine cD ?_
 have h:=aN H;subst h
 exact dE [.cell 6 34,.tmp 7] [2,0,4,5] ⟨p,E,U,Z,q,F,s,I,rfl,rfl⟩ ⟨cW 6,cX,trivial⟩


theorem Em.ok {a0 : aJ} {a1 : qI} {r : aJ × Int} (H : pN.f k a0 a1 = some r) : dp Tryz.prog 13 #[.agg (am a0 af ag ay az au av aw ax).toArray,.agg #[.int .u8 a1.f0,ae a1.f1,ae a1.f2,.bool a1.f3]] (co a0 af ag ay az au av aw ax) (fun v B=>∃ aQ aR bv bx bo bp bw bz,v = .tuple #[.agg (am r.1 aQ aR bv bx bo bp bw bz).toArray,ae r.2]∧B = (bn r.1 aQ aR bv bx bo bp bw bz)):=by
 refine aj Tryz.func13 rfl rfl ?_
 unfold pN.f at H
 refine aP (o' (bO (h:=fun b5=>o' (bO (h:=fun b7=>o' (cC (h:=fun a=>ad aW (h:=eA (ad aA (h:=bq (aO 5) (h:=bA (aT (aP (S' (bk rfl rfl) ?_))))))))))))))
 refine ad aW (h:=bA ?_)
 rcases bD H with⟨f8,H⟩|⟨f8,H⟩
 ·refine aC rfl f8 (aP (bq (cm 4) (h:=ad aA (h:=bq (aO 5) (h:=s' (aM (IntKind.i32.wrap (a1.f1))) (jS (T:=3) (by kernel_rfl) Tryz.underlying21 rfl) ?_)))))
  obtain⟨o1,n0,H⟩:=ac H
  refine o' (ef [0,1,2,3] [0,1,2,3,4,5,6] (Eo.ok n0) fun g4 i9 g5 j0 g6 j1 g7 j2=>?_)
  refine ad cw (h:=ad cw (h:=o' (bj a 0 10 (am o1.1 g4 i9 g5 j0 g6 j1 g7 j2) (h:=ad aW (h:=cD (aY (aF ?_)))))))
  have h:=aN H;subst h
  exact dE [.cell 4 34,.tmp 5] [0,1,2,3] ⟨g4,i9,g5,j0,g6,j1,g7,j2,rfl,rfl⟩ ⟨cW 10,cX,trivial⟩
 refine aB rfl f8 (aP (ad (bk rfl rfl) (h:=ad aW (h:=bA ?_))))
 rcases bD H with⟨f9,H⟩|⟨f9,H⟩
 ·refine aC rfl f9 (aP (bq (cm 4) (h:=ad aA (h:=bq (aO 5) (h:=s' (aM (IntKind.i32.wrap (a1.f1))) (jS (T:=3) (by kernel_rfl) Tryz.underlying21 rfl) ?_)))))
  obtain⟨o2,n1,H⟩:=ac H
  refine o' (ef [0,1,2,3] [0,1,2,3,4,5,6] (Ep.ok n1) fun g8 j3 g9 j4 h0 j5 h1 j6=>?_)
  refine ad cw (h:=ad cw (h:=o' (bj a 0 10 (am o2.1 g8 j3 g9 j4 h0 j5 h1 j6) (h:=ad aW (h:=cD (aY (aF ?_)))))))
  have h:=aN H;subst h
  exact dE [.cell 4 34,.tmp 5] [0,1,2,3] ⟨g8,j3,g9,j4,h0,j5,h1,j6,rfl,rfl⟩ ⟨cW 10,cX,trivial⟩
 refine aB rfl f9 (aP (ad (bk rfl rfl) (h:=ad aW (h:=bA ?_))))
 rcases bD H with⟨g0,H⟩|⟨g0,H⟩
 ·refine aC rfl g0 (aP (bq (cm 4) (h:=ad aA (h:=bq (aO 5) (h:=ad aA (h:=l' (aO 5) ?_))))))
  obtain⟨o3,n2,H⟩:=ac H
  refine o' (ef [0,1,2,3] [0,1,2,3,4,5,6] (Er.ok n2) fun h3 j7 h4 j8 h5 j9 h6 k0=>?_)
  refine ad cw (h:=ad cw (h:=o' (bj a 0 10 (am o3.1 h3 j7 h4 j8 h5 j9 h6 k0) (h:=ad aW (h:=cD (aY (aF ?_)))))))
  have h:=aN H;subst h
  exact dE [.cell 4 34,.tmp 5] [0,1,2,3] ⟨h3,j7,h4,j8,h5,j9,h6,k0,rfl,rfl⟩ ⟨cW 10,cX,trivial⟩
 refine aB rfl g0 (aP (ad (bk rfl rfl) (h:=ad aW (h:=bA ?_))))
 rcases bD H with⟨g1,H⟩|⟨g1,H⟩
 ·refine aC rfl g1 (aP (bq (cm 4) (h:=ad aA (h:=bq (aO 5) (h:=ad aA (h:=l' (aO 5) ?_))))))
  obtain⟨o4,n3,H⟩:=ac H
  refine o' (ef [0,1,2,3] [0,1,2,3,4,5,6] (Es.ok n3) fun h7 k1 h8 k2 h9 k3 i0 k4=>?_)
  refine ad cw (h:=ad cw (h:=o' (bj a 0 10 (am o4.1 h7 k1 h8 k2 h9 k3 i0 k4) (h:=ad aW (h:=cD (aY (aF ?_)))))))
  have h:=aN H;subst h
  exact dE [.cell 4 34,.tmp 5] [0,1,2,3] ⟨h7,k1,h8,k2,h9,k3,i0,k4,rfl,rfl⟩ ⟨cW 10,cX,trivial⟩
 refine aB rfl g1 (aP (ad (bk rfl rfl) (h:=ad aW (h:=bA ?_))))
 rcases bD H with⟨g2,H⟩|⟨g2,H⟩
 ·refine aC rfl g2 (aP (bq (cm 4) (h:=ad aA (h:=bq (aO 5) (h:=ad aA (h:=l' (aO 5) ?_))))))
  obtain⟨o5,o0,H⟩:=ac H
  refine o' (ef [0,1,2,3] [0,1,2,3,4,5,6] (Et.ok o0) fun i1 k5 i2 k6 i3 k7 i4 k8=>?_)
  refine ad cw (h:=ad cw (h:=o' (bj a 0 10 (am o5.1 i1 k5 i2 k6 i3 k7 i4 k8) (h:=ad aW (h:=cD (aY (aF ?_)))))))
  have h:=aN H;subst h
  exact dE [.cell 4 34,.tmp 5] [0,1,2,3] ⟨i1,k5,i2,k6,i3,k7,i4,k8,rfl,rfl⟩ ⟨cW 10,cX,trivial⟩
 refine aB rfl g2 (aP (ad (bk rfl rfl) (h:=ad aW (h:=bA ?_))))
 rcases bD H with⟨g3,H⟩|⟨g3,H⟩
 ·refine aC rfl g3 (aP (bq (cm 4) (h:=ad aA (h:=l' (aO 5) ?_))))
  obtain⟨o6,l3,H⟩:=ac H
  refine o' (ef [0,1,2,3] [0,1,2,3,4,5,6] (Eu.ok l3) fun i5 k9 i6 l0 i7 l1 i8 l2=>?_)
  refine ad cw (h:=ad cw (h:=o' (bj a 0 10 (am o6.1 i5 k9 i6 l0 i7 l1 i8 l2) (h:=ad aW (h:=cD (aY (aF ?_)))))))
  have h:=aN H;subst h
  exact dE [.cell 4 34,.tmp 5] [0,1,2,3] ⟨i5,k9,i6,l0,i7,l1,i8,l2,rfl,rfl⟩ ⟨cW 10,cX,trivial⟩
 refine aB rfl g3 (aP (ad (bk rfl rfl) (h:=ad aW (h:=bA ?_))))
 rcases bD H with⟨b,H⟩|⟨b,H⟩
 ·refine aC rfl b (aP (bq (cm 4) (h:=ad aA (h:=l' (aO 5) ?_))))
  obtain⟨m2,l4,H⟩:=ac H
  refine o' (ef [0,1,2,3] [0,1,2,3,4,5,6] (Ev.ok l4) fun q b4 s b6 u b8 y c5=>?_)
  refine ad cw (h:=ad cw (h:=o' (bj a 0 10 (am m2.1 q b4 s b6 u b8 y c5) (h:=ad aW (h:=cD (aY (aF ?_)))))))
  have h:=aN H;subst h
  exact dE [.cell 4 34,.tmp 5] [0,1,2,3] ⟨q,b4,s,b6,u,b8,y,c5,rfl,rfl⟩ ⟨cW 10,cX,trivial⟩
 refine aB rfl b (aP (ad (bk rfl rfl) (h:=ad aW (h:=bA ?_))))
 rcases bD H with⟨c,H⟩|⟨c,H⟩
 ·refine aC rfl c (aP (bq (cm 4) (h:=ad aA (h:=l' (aO 5) ?_))))
  obtain⟨m3,l5,H⟩:=ac H
  refine o' (ef [0,1,2,3] [0,1,2,3,4,5,6] (Ew.ok l5) fun z c6 D c7 E c8 F c9=>?_)
  refine ad cw (h:=ad cw (h:=o' (bj a 0 10 (am m3.1 z c6 D c7 E c8 F c9) (h:=ad aW (h:=cD (aY (aF ?_)))))))
  have h:=aN H;subst h
  exact dE [.cell 4 34,.tmp 5] [0,1,2,3] ⟨z,c6,D,c7,E,c8,F,c9,rfl,rfl⟩ ⟨cW 10,cX,trivial⟩
 refine aB rfl c (aP (ad (bk rfl rfl) (h:=ad aW (h:=bA ?_))))
 rcases bD H with⟨d,H⟩|⟨d,H⟩
 ·refine aC rfl d (aP (bq (cm 4) (h:=ad aA (h:=bq (aO 5) (h:=ad aA (h:=l' (aO 5) ?_))))))
  obtain⟨m4,l6,H⟩:=ac H
  refine o' (ef [0,1,2,3] [0,1,2,3,4,5,6] (Ex.ok l6) fun I d0 J d1 K d2 L d3=>?_)
  refine ad cw (h:=ad cw (h:=o' (bj a 0 10 (am m4.1 I d0 J d1 K d2 L d3) (h:=ad aW (h:=cD (aY (aF ?_)))))))
  have h:=aN H;subst h
  exact dE [.cell 4 34,.tmp 5] [0,1,2,3] ⟨I,d0,J,d1,K,d2,L,d3,rfl,rfl⟩ ⟨cW 10,cX,trivial⟩
 refine aB rfl d (aP (ad (bk rfl rfl) (h:=ad aW (h:=bA (SA.of_St (l:=[(2,aI b5),(3,aI b7),(4,aI a),(7,.int .u8 a1.f0),(90,.bool (decide (a1.f0 = 9)))]) (B:=(aL b5 34 (am a0 af ag ay az au av aw ax)::(co a0 af ag ay az au av aw ax++[aL b7 44 [.int .u8 a1.f0,ae a1.f1,ae a1.f2,.bool a1.f3],aL a 34 (am cB none 0 none 0 none 0 none 0)]))) (St.mk1 (cO rfl (cO rfl (cO rfl (cO rfl (cO rfl dY))))) (Gh.sel [4,0,1,2,3,5,6] (by kernel_rfl) (by kernel_rfl))) fun junk=>?_)))))
 rcases bD H with⟨j,H⟩|⟨j,H⟩
 ·refine aC rfl j (aP (bq (cm 0) (h:=ad aA (h:=l' (aO 5) ?_))))
  obtain⟨m5,l7,H⟩:=ac H
  refine o' (ef [1,2,3,4] [0,1,2,3,4,5,6] (Ey.ok l7) fun M d4 N d5 O d6 R d7=>?_)
  refine ad cw (h:=ad cw (h:=o' (bj a 0 10 (am m5.1 M d4 N d5 O d6 R d7) (h:=ad aW (h:=cD (aY (aF ?_)))))))
  have h:=aN H;subst h
  exact dE [.cell 4 34,.tmp 5] [0,1,2,3] ⟨M,d4,N,d5,O,d6,R,d7,rfl,rfl⟩ ⟨cW 10,cX,trivial⟩
 refine aB rfl j (aP (ad (bk rfl rfl) (h:=ad aW (h:=bA ?_))))
 rcases bD H with⟨m,H⟩|⟨m,H⟩
 ·refine aC rfl m (aP (bq (cm 0) (h:=ad aA (h:=bq (aO 5) (h:=ad aA (h:=bq (aO 5) (h:=ad aA (h:=bq (aO 5) (h:=S' (eN rfl rfl) ?_)))))))))
  obtain⟨m6,l8,H⟩:=ac H
  refine o' (ef [1,2,3,4] [0,1,2,3,4,5,6] (Ez.ok l8) fun S d8 U d9 Y e0 Z e1=>?_)
  refine ad cw (h:=ad cw (h:=o' (bj a 0 10 (am m6.1 S d8 U d9 Y e0 Z e1) (h:=ad aW (h:=cD (aY (aF ?_)))))))
  have h:=aN H;subst h
  exact dE [.cell 4 34,.tmp 5] [0,1,2,3] ⟨S,d8,U,d9,Y,e0,Z,e1,rfl,rfl⟩ ⟨cW 10,cX,trivial⟩
 refine aB rfl m (aP (ad (bk rfl rfl) (h:=ad aW (h:=bA ?_))))
 rcases bD H with⟨o,H⟩|⟨o,H⟩
 ·refine aC rfl o (aP (bq (cm 0) (h:=ad aA (h:=l' (aO 5) ?_))))
  obtain⟨m7,l9,H⟩:=ac H
  refine o' (ef [1,2,3,4] [0,1,2,3,4,5,6] (EA.ok l9) fun a2 e2 a3 e3 a4 e4 a5 e5=>?_)
  refine ad cw (h:=ad cw (h:=o' (bj a 0 10 (am m7.1 a2 e2 a3 e3 a4 e4 a5 e5) (h:=ad aW (h:=cD (aY (aF ?_)))))))
  have h:=aN H;subst h
  exact dE [.cell 4 34,.tmp 5] [0,1,2,3] ⟨a2,e2,a3,e3,a4,e4,a5,e5,rfl,rfl⟩ ⟨cW 10,cX,trivial⟩
 refine aB rfl o (aP (ad (bk rfl rfl) (h:=ad aW (h:=bA ?_))))
 rcases bD H with⟨p,H⟩|⟨p,H⟩
 ·refine aC rfl p (aP (bq (cm 0) (h:=ad aA (h:=l' (aO 5) ?_))))
  obtain⟨m8,m0,H⟩:=ac H
  refine o' (ef [1,2,3,4] [0,1,2,3,4,5,6] (EB.ok m0) fun a6 e6 a7 e7 a8 e8 a9 e9=>?_)
  refine ad cw (h:=ad cw (h:=o' (bj a 0 10 (am m8.1 a6 e6 a7 e7 a8 e8 a9 e9) (h:=ad aW (h:=cD (aY (aF ?_)))))))
  have h:=aN H;subst h
  exact dE [.cell 4 34,.tmp 5] [0,1,2,3] ⟨a6,e6,a7,e7,a8,e8,a9,e9,rfl,rfl⟩ ⟨cW 10,cX,trivial⟩
 refine aB rfl p (ao (aG (aa (aP (bq (cm 0) (h:=ad aA (h:=bq (aO 5) (h:=ad aA (h:=l' (aO 5) ?_)))))))))
 obtain⟨m9,m1,H⟩:=ac H
 refine o' (ef [1,2,3,4] [0,1,2,3,4,5,6] (EC.ok m1) fun b0 f4 b1 f5 b2 f6 b3 f7=>?_)
 refine ad cw (h:=ad cw (h:=o' (bj a 0 10 (am m9.1 b0 f4 b1 f5 b2 f6 b3 f7) (h:=ad aW (h:=cD ?_)))))
 have h:=aN H;subst h
 exact dE [.cell 4 34,.tmp 5] [0,1,2,3] ⟨b0,f4,b1,f5,b2,f6,b3,f7,rfl,rfl⟩ ⟨cW 10,cX,trivial⟩


theorem BP.ok {a0 : bJ} {a1 : bJ} {r : Bool} (H : en.f k a0 a1 = some r) : dp Tryz.prog 18 #[.agg #[ae a0.f0,ae a0.f1,.slice af a0.f2.length ag],.agg #[ae a1.f0,ae a1.f1,.slice cE a1.f2.length cF]] [Ro bI af ag a0.f2,Ro bI cE cF a1.f2] (fun v B=>v = .bool r∧B = []):=by
 refine aj Tryz.func18 rfl rfl ?_
 unfold en.f at H
 refine aP (o' (bO (h:=fun o=>o' (bO (h:=fun q=>ad aW (h:=eA (ad aA (h:=bq (aO 2) (h:=ad aA (h:=bq (aO 3) (h:=S' (dt rfl rfl) ?_)))))))))))
 refine S' ar ?_
 obtain⟨Z,R,H⟩:=bi H
 refine dy 6 [(2,aI o),(3,aI q),(17,.bool Z)] [aL o 26 [ae a0.f0,ae a0.f1,.slice af a0.f2.length ag],Ro bI af ag a0.f2,aL q 26 [ae a1.f0,ae a1.f1,.slice cE a1.f2.length cF],Ro bI cE cF a1.f2] ?_ fun junk=>?_
 ·by_cases d : a0.f0 ≠ a1.f0
  ·refine ct 5 (ai d) (bY (ai d) (h:=ah ?_))
   have x_:=ik R ((ai d));exact bH [2,0,3,1]
  refine aZ (al d) aA (h:=cn (al d) (aO 2) (h:=aZ (al d) aA (h:=cn (al d) (aO 3) (h:=aZ (al d) (dt rfl rfl) (h:=ca (al d) (h:=ah ?_))))))
  have x_:=ij R ((al d));exact bH [2,0,3,1]
 refine S' ar ?_
 obtain⟨Y,I,H⟩:=bi H
 refine cI 8 (St [(2,aI o),(3,aI q),(26,.bool Y)] [aL o 26 [ae a0.f0,ae a0.f1,.slice af a0.f2.length ag],Ro bI af ag a0.f2,aL q 26 [ae a1.f0,ae a1.f1,.slice cE a1.f2.length cF],Ro bI cE cF a1.f2]) ?_ ?_
 ·by_cases b : Z = true
  ·refine ct 7 b (bY b (h:=ah ?_))
   have x_:=ik I b;exact bH [0,1,2,3]
  refine aZ (aK b) aA (h:=cn (aK b) (aO 0) (h:=gS (aK b) (ae (a0.f2.length : Int)) (cP Tryz.underlying24 rfl) (h:=aZ (aK b) aA (h:=cn (aK b) (aO 2) (h:=gS (aK b) (ae (a1.f2.length : Int)) (cP Tryz.underlying24 rfl) (h:=aZ (aK b) (dt rfl rfl) (h:=ca (aK b) (h:=ah ?_))))))))
  have x_:=ij I ((aK b));exact bH [0,1,2,3]
 rintro e ds As N
 refine bA (SA.of_St N fun junk=>?_)
 rcases bD H with⟨E,H⟩|⟨E,H⟩
 ·refine aD rfl E (aP (ad aW (h:=cA ?_)))
  have h:=aN H;subst h
  exact dJ [] ⟨rfl,rfl⟩
 refine aE rfl E (ao (aa (ap (aP (ad aW (h:=bA ?_))))))
 obtain⟨U,H,c⟩:=ac H
 refine bK (fun e ds As=>∃ (S : Unit),U = Out.go S∧St [] [] e ds As) ?_ ?_
 ·refine aT (cl (fun k_ e ds As=>∃ (a : Int),en.l0 a0 a1 k_ a = some U∧St [(2,aI o),(3,aI q),(5,ae a)] [aL o 26 [ae a0.f0,ae a0.f1,.slice af a0.f2.length ag],Ro bI af ag a0.f2,aL q 26 [ae a1.f0,ae a1.f1,.slice cE a1.f2.length cF],Ro bI cE cF a1.f2] e ds As) (k:=k) ⟨_,H,jQ [0,1,2,3]⟩ ?_)
  clear H
  rintro K e ds As ⟨a,H,O⟩
  obtain _ | K:=K
  ·cases H
  rw [en.l0] at H
  refine SA.of_St O fun junk=>ap (aP (ad ar (h:=ad aA (h:=bq (aO 0) (h:=bT (ae (a0.f2.length : Int)) (cP Tryz.underlying24 rfl) (h:=ad (cg rfl rfl) (h:=bA ?_)))))))
  rcases bD H with⟨F,H⟩|⟨F,H⟩
  ·refine aC rfl F (ao (aa (ap (aT (ap ?_)))))
   refine fg (dC 0 11) (dC 0 4) [1,3] fun _ _ _ _ _ sH dd pk=>?_
   refine bf 0 rfl sH aA (h:=bN 1 rfl sH (aO 0) (h:=T' 2 rfl sH ar ?_))
   obtain⟨⟨s,u⟩,H⟩:=aS H
   refine bN 3 rfl sH (br (i:=a) Tryz.underlying24 ck rfl rfl (Src.ro (k:=1) rfl) s u) (h:=bN 4 rfl sH (cf (enc:=cZ) (i:=a) (j:=a.toNat * 15) (m:=0) (sz:=15) (vs:=(bW (ba.mk ((rd a0.f2 a).f0) ((rd a0.f2 a).f1) ((rd a0.f2 a).f2) ((rd a0.f2 a).f3)))) Tryz.underlying55 rfl ck rfl rfl rfl (Src.ro (k:=1) rfl) s u (fun _ _ h=>h) rfl) (h:=bf 5 rfl sH aA (h:=bN 6 rfl sH (aO 2) (h:=T' 7 rfl sH ar ?_))))
   obtain⟨⟨z,D⟩,H⟩:=aS H
   refine bN 8 rfl sH (br (i:=a) Tryz.underlying24 ck rfl rfl (Src.ro (k:=3) rfl) z D) (h:=bN 9 rfl sH (cf (enc:=cZ) (i:=a) (j:=a.toNat * 15) (m:=0) (sz:=15) (vs:=(bW (ba.mk ((rd a1.f2 a).f0) ((rd a1.f2 a).f1) ((rd a1.f2 a).f2) ((rd a1.f2 a).f3)))) Tryz.underlying55 rfl ck rfl rfl rfl (Src.ro (k:=3) rfl) z D (fun _ _ h=>h) rfl) (h:=kQ (.bool (decide ((rd a0.f2 a) ≠ (rd a1.f2 a)))) 10 rfl sH (jU (xs:=(bW (ba.mk ((rd a0.f2 a).f0) ((rd a0.f2 a).f1) ((rd a0.f2 a).f2) ((rd a0.f2 a).f3)))) (ys:=(bW (ba.mk ((rd a1.f2 a).f0) ((rd a1.f2 a).f1) ((rd a1.f2 a).f2) ((rd a1.f2 a).f3)))) (r:=((((rd a0.f2 a).f0) == ((rd a1.f2 a).f0)) && ((((((rd a0.f2 a).f1).f0) == (((rd a1.f2 a).f1).f0)) && (((((rd a0.f2 a).f1).f1) == (((rd a1.f2 a).f1).f1)) && (((((rd a0.f2 a).f1).f2) == (((rd a1.f2 a).f1).f2)) && true))) && ((((rd a0.f2 a).f2) == ((rd a1.f2 a).f2)) && ((((((rd a0.f2 a).f3).f0) == (((rd a1.f2 a).f3).f0)) && (((((rd a0.f2 a).f3).f1) == (((rd a1.f2 a).f3).f1)) && (((((rd a0.f2 a).f3).f2) == (((rd a1.f2 a).f3).f2)) && (((((rd a0.f2 a).f3).f3) == (((rd a1.f2 a).f3).f3)) && (((((rd a0.f2 a).f3).f4) == (((rd a1.f2 a).f3).f4)) && (((((rd a0.f2 a).f3).f5) == (((rd a1.f2 a).f3).f5)) && (((((rd a0.f2 a).f3).f6) == (((rd a1.f2 a).f3).f6)) && (((((rd a0.f2 a).f3).f7) == (((rd a1.f2 a).f3).f7)) && (((((rd a0.f2 a).f3).f8) == (((rd a1.f2 a).f3).f8)) && (((((rd a0.f2 a).f3).f9) == (((rd a1.f2 a).f3).f9)) && true)))))))))) && true))))) (p:=(rd a0.f2 a) = (rd a1.f2 a)) tC rfl rfl (by kernel_rfl) (tE (x:=rd a0.f2 a) (y:=rd a1.f2 a))) (h:=aV dd sH (aH (by kernel_rfl) (aa ?_)))))
   rcases bD H with⟨l,H⟩|⟨l,H⟩
   ·refine aC rfl l (aP (ad aW (h:=cD (aY (aF (aF (aY (aF (aF ?_)))))))))
    have h:=aN H;subst h
    have hb_:=dz c
    have hr_:=Option.some.inj hb_
    clear hb_
    subst hr_
    exact dJ [] ⟨rfl,rfl⟩
   refine aB rfl l (ao (aG (aa (ak (ad ar (h:=S' (bX rfl rfl) ?_))))))
   obtain⟨L,M,H⟩:=bi H
   refine bT (ae L) (bu (v:=ae L) (congrArg (Value.int .i64) M.symm)) (h:=ah ?_)
   exact aa ⟨K,Nat.lt_succ_self _,_,H,eb [0,1,2,3]⟩
  refine aB rfl F (ci (aX (aX (cj ?_))))
  have h:=aN H;subst h
  exact aa ⟨(),rfl,eb []⟩
 rintro e ds As ⟨S,ht,J⟩
 clear H
 subst ht
 replace c:=fi c
 have H:=c
 clear c
 refine aa (SA.of_St J fun junk=>aP (ad aW (h:=cD ?_)))
 have h:=aN H;subst h
 exact dJ [] ⟨rfl,rfl⟩


theorem El.ok {a0 : aJ} {a1 : aJ} {r : Bool} (H : de.f k a0 a1 = some r) : dp Tryz.prog 10 #[.agg (am a0 af ag ay az au av aw ax).toArray,.agg (am a1 cE cF df di db dc dh dj).toArray] (co a0 af ag ay az au av aw ax++co a1 cE cF df di db dc dh dj) (fun v B=>v = .bool r∧B = []):=by
 refine aj Tryz.func10 rfl rfl ?_
 unfold de.f at H
 refine aP (o' (bO (h:=fun b=>o' (bO (h:=fun a=>ad aW (h:=eA (ad aA (h:=bq (cx b 0 8 [ae a0.f0.f0,ae a0.f0.f1,.slice af a0.f0.f2.length ag]) (h:=ad aA (h:=l' (cx a 0 9 [ae a1.f0.f0,ae a1.f0.f1,.slice cE a1.f0.f2.length cF]) ?_))))))))))
 obtain⟨h8,g5,H⟩:=ac H
 refine o' (da [0,4] [0,1,2,3,4,5,6,7,8,9] (BP.ok g5) ?_)
 refine ad (bU rfl) (h:=S' ar ?_)
 obtain⟨h0,H,h5⟩:=ac H
 refine dy 7 [(2,aI b),(3,aI a),(20,.bool h0)] (aL b 34 (am a0 af ag ay az au av aw ax)::(co a0 af ag ay az au av aw ax++(eD a a1 cE cF df di db dc dh dj))) ?_ fun junk=>?_
 ·rcases bD H with⟨R,H⟩|⟨R,H⟩
  ·refine ct 6 R (gJ R ?_)
   have h:=aN H;subst h
   exact dQ [8,0,1,2,3,9,4,5,6,7]
  refine aZ (aK R) aA (h:=cn (aK R) (cx b 40 8 [ae a0.f16.f0,ae a0.f16.f1,.slice au a0.f16.f2.length av]) (h:=aZ (aK R) aA (h:=z' (aK R) (cx a 40 9 [ae a1.f16.f0,ae a1.f16.f1,.slice db a1.f16.f2.length dc]) ?_)))
  obtain⟨h9,h6,H⟩:=ac H
  refine fR (aK R) (da [2,6] [0,1,2,3,4,5,6,7,8,9] (BP.ok h6) ?_)
  refine aZ (aK R) (bU rfl) (h:=fZ (aK R) ?_)
  have h:=aN H;subst h
  exact dQ [8,0,1,2,3,9,4,5,6,7]
 replace H:=h5
 refine S' ar ?_
 obtain⟨h1,e8,H⟩:=bi H
 refine dy 8 [(2,aI b),(3,aI a),(29,.bool h1)] (aL b 34 (am a0 af ag ay az au av aw ax)::(co a0 af ag ay az au av aw ax++(eD a a1 cE cF df di db dc dh dj))) ?_ fun junk=>?_
 ·by_cases N : h0 = true
  ·refine ct 7 N (bY N (h:=ah ?_))
   have x_:=ik e8 N;exact bH [0,1,2,3,4,5,6,7,8,9]
  refine aZ (aK N) aA (h:=cn (aK N) (aO 0) (h:=gS (aK N) (ae (a0.f7.length : Int)) (cP Tryz.underlying29 rfl) (h:=aZ (aK N) aA (h:=cn (aK N) (aO 5) (h:=gS (aK N) (ae (a1.f7.length : Int)) (cP Tryz.underlying29 rfl) (h:=aZ (aK N) (dt rfl rfl) (h:=ca (aK N) (h:=ah ?_))))))))
  have x_:=ij e8 ((aK N));exact bH [0,1,2,3,4,5,6,7,8,9]
 refine S' ar ?_
 obtain⟨h7,e9,H⟩:=bi H
 refine cI 8 (St [(2,aI b),(3,aI a),(38,.bool h7)] (aL b 34 (am a0 af ag ay az au av aw ax)::(co a0 af ag ay az au av aw ax++(eD a a1 cE cF df di db dc dh dj)))) ?_ ?_
 ·by_cases O : h1 = true
  ·refine ct 7 O (bY O (h:=ah ?_))
   have x_:=ik e9 O;exact bH [0,1,2,3,4,5,6,7,8,9]
  refine aZ (aK O) aA (h:=cn (aK O) (aO 0) (h:=gS (aK O) (ae (a0.f17.length : Int)) (cP Tryz.underlying32 rfl) (h:=aZ (aK O) aA (h:=cn (aK O) (aO 5) (h:=gS (aK O) (ae (a1.f17.length : Int)) (cP Tryz.underlying32 rfl) (h:=aZ (aK O) (dt rfl rfl) (h:=ca (aK O) (h:=ah ?_))))))))
  have x_:=ij e9 ((aK O));exact bH [0,1,2,3,4,5,6,7,8,9]
 rintro e ds As g7
 refine bA (SA.of_St g7 fun junk=>?_)
 rcases bD H with⟨e5,H⟩|⟨e5,H⟩
 ·refine aD rfl e5 (aP (ad aW (h:=cA ?_)))
  have h:=aN H;subst h
  exact dJ [] ⟨rfl,rfl⟩
 refine aE rfl e5 (ao (aa (ap (aP (ad aW (h:=bA ?_))))))
 obtain⟨h4,H,U⟩:=ac H
 refine bK (fun e ds As=>∃ (h3 : Unit),h4 = Out.go h3∧St [(2,aI b),(3,aI a)] (aL b 34 (am a0 af ag ay az au av aw ax)::(co a0 af ag ay az au av aw ax++(eD a a1 cE cF df di db dc dh dj))) e ds As) ?_ ?_
 ·refine aT (cl (fun k_ e ds As=>∃ (d : Int),de.l0 a0 a1 k_ d = some h4∧St [(2,aI b),(3,aI a),(5,ae d)] (aL b 34 (am a0 af ag ay az au av aw ax)::(co a0 af ag ay az au av aw ax++(eD a a1 cE cF df di db dc dh dj))) e ds As) (k:=k) ⟨_,H,jQ [0,1,2,3,4,5,6,7,8,9]⟩ ?_)
  clear H
  rintro pG e ds As ⟨d,H,g8⟩
  obtain _ | pG:=pG
  ·cases H
  rw [de.l0] at H
  refine SA.of_St g8 fun junk=>ap (aP (ad ar (h:=ad aA (h:=bq (aO 0) (h:=bT (ae (a0.f7.length : Int)) (cP Tryz.underlying29 rfl) (h:=ad (cg rfl rfl) (h:=bA ?_)))))))
  rcases bD H with⟨e6,H⟩|⟨e6,H⟩
  ·refine aC rfl e6 (ao (aa (ap (aT (ap ?_)))))
   refine fg (dC 0 11) (dC 0 10) [1,2,3,4,6,7,8,9] fun _ _ _ _ _ sH dd pk=>?_
   refine bf 0 rfl sH aA (h:=bN 1 rfl sH (aO 0) (h:=T' 2 rfl sH ar ?_))
   obtain⟨⟨d9,e0⟩,H⟩:=aS H
   refine bN 3 rfl sH (br (i:=d) Tryz.underlying29 jm rfl rfl (Src.ro (k:=2) rfl) d9 e0) (h:=bN 4 rfl sH (bE (enc:=(fun x_ : Int=>[Value.int .i64 x_])) (i:=d) (j:=d.toNat * 1) (m:=0) (sz:=1) Tryz.underlying3 rfl rfl rfl rfl (Src.ro (k:=2) rfl) d9 e0 (fun _ _ h=>h) rfl) (h:=bf 5 rfl sH aA (h:=bN 6 rfl sH (aO 5) (h:=T' 7 rfl sH ar ?_))))
   obtain⟨⟨e1,e2⟩,H⟩:=aS H
   refine bN 8 rfl sH (br (i:=d) Tryz.underlying29 jm rfl rfl (Src.ro (k:=7) rfl) e1 e2) (h:=bN 9 rfl sH (bE (enc:=(fun x_ : Int=>[Value.int .i64 x_])) (i:=d) (j:=d.toNat * 1) (m:=0) (sz:=1) Tryz.underlying3 rfl rfl rfl rfl (Src.ro (k:=7) rfl) e1 e2 (fun _ _ h=>h) rfl) (h:=bf 10 rfl sH (dt rfl rfl) (h:=aV dd sH (aH (by kernel_rfl) (aa (SA.of_St (l:=[(2,aI b),(3,aI a),(5,ae d),(56,.bool (decide ((rd a0.f7 d) ≠ (rd a1.f7 d))))]) (B:=(aL b 34 (am a0 af ag ay az au av aw ax)::(co a0 af ag ay az au av aw ax++(eD a a1 cE cF df di db dc dh dj)))) (St.mk1 (cO rfl (cO rfl (cO rfl (cO rfl dY)))) (Gh.sel [0,1,2,3,4,5,6,7,8,9] (by kernel_rfl) (by kernel_rfl))) fun junk=>?_))))))
   rcases bD H with⟨b4,H⟩|⟨b4,H⟩
   ·refine aC rfl b4 (aP (ad aW (h:=cD (aY (aF (aF (aY (aF (aF ?_)))))))))
    have h:=aN H;subst h
    have hb_:=dz U
    have hr_:=Option.some.inj hb_
    clear hb_
    subst hr_
    exact dJ [] ⟨rfl,rfl⟩
   refine aB rfl b4 (ao (aG (aa (ak (ad ar (h:=S' (bX rfl rfl) ?_))))))
   obtain⟨g2,g6,H⟩:=bi H
   refine bT (ae g2) (bu (v:=ae g2) (congrArg (Value.int .i64) g6.symm)) (h:=ah ?_)
   exact aa ⟨pG,Nat.lt_succ_self _,_,H,eb [0,1,2,3,4,5,6,7,8,9]⟩
  refine aB rfl e6 (ci (aX (aX (cj ?_))))
  have h:=aN H;subst h
  exact aa ⟨(),rfl,eb [0,1,2,3,4,5,6,7,8,9]⟩
 rintro e ds As ⟨h3,ht,g0⟩
 clear H
 subst ht
 replace U:=fi U
 have H:=U
 clear U
 refine aa (SA.of_St g0 fun junk=>ap (aP (ad aW (h:=bA ?_))))
 obtain⟨g4,H,S⟩:=ac H
 refine bK (fun e ds As=>∃ (g3 : Unit),g4 = Out.go g3∧St [(2,aI b),(3,aI a)] (aL b 34 (am a0 af ag ay az au av aw ax)::(co a0 af ag ay az au av aw ax++(eD a a1 cE cF df di db dc dh dj))) e ds As) ?_ ?_
 ·refine aT (cl (fun k_ e ds As=>∃ (c : Int),de.l1 a0 a1 k_ c = some g4∧St [(2,aI b),(3,aI a),(6,ae c)] (aL b 34 (am a0 af ag ay az au av aw ax)::(co a0 af ag ay az au av aw ax++(eD a a1 cE cF df di db dc dh dj))) e ds As) (k:=k) ⟨_,H,jQ [0,1,2,3,4,5,6,7,8,9]⟩ ?_)
  clear H
  rintro b6 e ds As ⟨c,H,g1⟩
  obtain _ | b6:=b6
  ·cases H
  rw [de.l1] at H
  refine SA.of_St g1 fun junk=>ap (aP (ad ar (h:=ad aA (h:=bq (aO 0) (h:=bT (ae (a0.f17.length : Int)) (cP Tryz.underlying32 rfl) (h:=ad (cg rfl rfl) (h:=bA ?_)))))))
  rcases bD H with⟨b5,H⟩|⟨b5,H⟩
  ·refine aC rfl b5 (ao (aa (ap (aT (ap ?_)))))
   refine fg (dC 0 11) (dC 0 10) [1,2,3,4,6,7,8,9] fun _ _ _ _ _ sH dd pk=>?_
   refine bf 0 rfl sH aA (h:=bN 1 rfl sH (aO 0) (h:=T' 2 rfl sH ar ?_))
   obtain⟨⟨e3,e4⟩,H⟩:=aS H
   refine bN 3 rfl sH (br (i:=c) Tryz.underlying32 jg rfl rfl (Src.ro (k:=4) rfl) e3 e4) (h:=bN 4 rfl sH (bE (enc:=(fun x_ : Int=>[Value.int .i32 x_])) (i:=c) (j:=c.toNat * 1) (m:=0) (sz:=1) Tryz.underlying21 rfl rfl rfl rfl (Src.ro (k:=4) rfl) e3 e4 (fun _ _ h=>h) rfl) (h:=bf 5 rfl sH aA (h:=bN 6 rfl sH (aO 5) (h:=T' 7 rfl sH ar ?_))))
   obtain⟨⟨b7,b8⟩,H⟩:=aS H
   refine bN 8 rfl sH (br (i:=c) Tryz.underlying32 jg rfl rfl (Src.ro (k:=9) rfl) b7 b8) (h:=bN 9 rfl sH (bE (enc:=(fun x_ : Int=>[Value.int .i32 x_])) (i:=c) (j:=c.toNat * 1) (m:=0) (sz:=1) Tryz.underlying21 rfl rfl rfl rfl (Src.ro (k:=9) rfl) b7 b8 (fun _ _ h=>h) rfl) (h:=bf 10 rfl sH (dt rfl rfl) (h:=aV dd sH (aH (by kernel_rfl) (aa (SA.of_St (l:=[(2,aI b),(3,aI a),(6,ae c),(74,.bool (decide ((rd a0.f17 c) ≠ (rd a1.f17 c))))]) (B:=(aL b 34 (am a0 af ag ay az au av aw ax)::(co a0 af ag ay az au av aw ax++(eD a a1 cE cF df di db dc dh dj)))) (St.mk1 (cO rfl (cO rfl (cO rfl (cO rfl dY)))) (Gh.sel [0,1,2,3,4,5,6,7,8,9] (by kernel_rfl) (by kernel_rfl))) fun junk=>?_))))))
   rcases bD H with⟨Y,H⟩|⟨Y,H⟩
   ·refine aC rfl Y (aP (ad aW (h:=cD (aY (aF (aF (aY (aF (aF ?_)))))))))
    have h:=aN H;subst h
    have hb_:=dz S
    have hr_:=Option.some.inj hb_
    clear hb_
    subst hr_
    exact dJ [] ⟨rfl,rfl⟩
   refine aB rfl Y (ao (aG (aa (ak (ad ar (h:=S' (bX rfl rfl) ?_))))))
   obtain⟨c5,e7,H⟩:=bi H
   refine bT (ae c5) (bu (v:=ae c5) (congrArg (Value.int .i64) e7.symm)) (h:=ah ?_)
   exact aa ⟨b6,Nat.lt_succ_self _,_,H,eb [0,1,2,3,4,5,6,7,8,9]⟩
  refine aB rfl b5 (ci (aX (aX (cj ?_))))
  have h:=aN H;subst h
  exact aa ⟨(),rfl,eb [0,1,2,3,4,5,6,7,8,9]⟩
 rintro e ds As ⟨g3,ht,d8⟩
 clear H
 subst ht
 replace S:=fi S
 have H:=S
 clear S
 refine aa (SA.of_St d8 fun junk=>aP (ad aA (h:=bq (aO 0) (h:=ad aA (h:=bq (aO 5) (h:=ad (bk rfl rfl) (h:=S' ar ?_)))))))
 obtain⟨c6,Z,H⟩:=bi H
 refine dy 6 [(2,aI b),(3,aI a),(86,.bool c6)] (aL b 34 (am a0 af ag ay az au av aw ax)::(co a0 af ag ay az au av aw ax++(eD a a1 cE cF df di db dc dh dj))) ?_ fun junk=>?_
 ·by_cases o : a0.f1 = a1.f1
  ·refine aZ (ai o) aA (h:=cn (ai o) (aO 0) (h:=aZ (ai o) aA (h:=cn (ai o) (aO 5) (h:=aZ (ai o) (bk rfl rfl) (h:=bY (ai o) (h:=ah ?_))))))
   have x_:=fq Z ((ai o));exact bH [0,1,2,3,4,5,6,7,8,9]
  refine ct 5 (al o) (ca (al o) (h:=ah ?_))
  have x_:=fp Z ((al o));exact bH [0,1,2,3,4,5,6,7,8,9]
 refine S' ar ?_
 obtain⟨c7,a2,H⟩:=bi H
 refine dy 6 [(2,aI b),(3,aI a),(93,.bool c7)] (aL b 34 (am a0 af ag ay az au av aw ax)::(co a0 af ag ay az au av aw ax++(eD a a1 cE cF df di db dc dh dj))) ?_ fun junk=>?_
 ·by_cases q : c6 = true
  ·refine aZ q aA (h:=cn q (aO 0) (h:=aZ q aA (h:=cn q (aO 5) (h:=gS q (.bool (decide (a0.f3 = a1.f3))) (eV Tryz.underlying4 rfl rfl) (h:=bY q (h:=ah ?_))))))
   have x_:=fq a2 q;exact bH [0,1,2,3,4,5,6,7,8,9]
  refine ct 5 (aK q) (ca (aK q) (h:=ah ?_))
  have x_:=fp a2 ((aK q));exact bH [0,1,2,3,4,5,6,7,8,9]
 refine S' ar ?_
 obtain⟨c8,a3,H⟩:=bi H
 refine dy 6 [(2,aI b),(3,aI a),(100,.bool c8)] (aL b 34 (am a0 af ag ay az au av aw ax)::(co a0 af ag ay az au av aw ax++(eD a a1 cE cF df di db dc dh dj))) ?_ fun junk=>?_
 ·by_cases s : c7 = true
  ·refine aZ s aA (h:=cn s (cx b 6 0 (bF a0.f4)) (h:=aZ s aA (h:=cn s (cx a 6 5 (bF a1.f4)) (h:=gS s (.bool (decide (a0.f4 = a1.f4))) (kC (xs:=(bF a0.f4)) (ys:=(bF a1.f4)) (r:=((a0.f4.f0 == a1.f4.f0) && ((a0.f4.f1 == a1.f4.f1) && ((a0.f4.f2 == a1.f4.f2) && ((a0.f4.f3 == a1.f4.f3) && ((a0.f4.f4 == a1.f4.f4) && ((a0.f4.f5 == a1.f4.f5) && ((a0.f4.f6 == a1.f4.f6) && ((a0.f4.f7 == a1.f4.f7) && ((a0.f4.f8 == a1.f4.f8) && ((a0.f4.f9 == a1.f4.f9) && true))))))))))) (p:=a0.f4 = a1.f4) lh rfl rfl (by kernel_rfl) (lj (x:=a0.f4) (y:=a1.f4))) (h:=bY s (h:=ah ?_))))))
   have x_:=fq a3 s;exact bH [0,1,2,3,4,5,6,7,8,9]
  refine ct 5 (aK s) (ca (aK s) (h:=ah ?_))
  have x_:=fp a3 ((aK s));exact bH [0,1,2,3,4,5,6,7,8,9]
 refine S' ar ?_
 obtain⟨c9,a4,H⟩:=bi H
 refine dy 6 [(2,aI b),(3,aI a),(107,.bool c9)] (aL b 34 (am a0 af ag ay az au av aw ax)::(co a0 af ag ay az au av aw ax++(eD a a1 cE cF df di db dc dh dj))) ?_ fun junk=>?_
 ·by_cases u : c8 = true
  ·refine aZ u aA (h:=cn u (aO 0) (h:=aZ u aA (h:=cn u (aO 5) (h:=aZ u (bk rfl rfl) (h:=bY u (h:=ah ?_))))))
   have x_:=fq a4 u;exact bH [0,1,2,3,4,5,6,7,8,9]
  refine ct 5 (aK u) (ca (aK u) (h:=ah ?_))
  have x_:=fp a4 ((aK u));exact bH [0,1,2,3,4,5,6,7,8,9]
 refine S' ar ?_
 obtain⟨d0,a5,H⟩:=bi H
 refine dy 6 [(2,aI b),(3,aI a),(114,.bool d0)] (aL b 34 (am a0 af ag ay az au av aw ax)::(co a0 af ag ay az au av aw ax++(eD a a1 cE cF df di db dc dh dj))) ?_ fun junk=>?_
 ·by_cases z : c9 = true
  ·refine aZ z aA (h:=cn z (aO 0) (h:=aZ z aA (h:=cn z (aO 5) (h:=aZ z (bk rfl rfl) (h:=bY z (h:=ah ?_))))))
   have x_:=fq a5 z;exact bH [0,1,2,3,4,5,6,7,8,9]
  refine ct 5 (aK z) (ca (aK z) (h:=ah ?_))
  have x_:=fp a5 ((aK z));exact bH [0,1,2,3,4,5,6,7,8,9]
 refine S' ar ?_
 obtain⟨d1,a6,H⟩:=bi H
 refine dy 6 [(2,aI b),(3,aI a),(121,.bool d1)] (aL b 34 (am a0 af ag ay az au av aw ax)::(co a0 af ag ay az au av aw ax++(eD a a1 cE cF df di db dc dh dj))) ?_ fun junk=>?_
 ·by_cases D : d0 = true
  ·refine aZ D aA (h:=cn D (aO 0) (h:=aZ D aA (h:=cn D (aO 5) (h:=gS D (.bool (decide (a0.f8 = a1.f8))) (eV Tryz.underlying4 rfl rfl) (h:=bY D (h:=ah ?_))))))
   have x_:=fq a6 D;exact bH [0,1,2,3,4,5,6,7,8,9]
  refine ct 5 (aK D) (ca (aK D) (h:=ah ?_))
  have x_:=fp a6 ((aK D));exact bH [0,1,2,3,4,5,6,7,8,9]
 refine S' ar ?_
 obtain⟨d2,a7,H⟩:=bi H
 refine dy 6 [(2,aI b),(3,aI a),(128,.bool d2)] (aL b 34 (am a0 af ag ay az au av aw ax)::(co a0 af ag ay az au av aw ax++(eD a a1 cE cF df di db dc dh dj))) ?_ fun junk=>?_
 ·by_cases E : d1 = true
  ·refine aZ E aA (h:=cn E (aO 0) (h:=aZ E aA (h:=cn E (aO 5) (h:=gS E (.bool (decide (a0.f9 = a1.f9))) (eV Tryz.underlying4 rfl rfl) (h:=bY E (h:=ah ?_))))))
   have x_:=fq a7 E;exact bH [0,1,2,3,4,5,6,7,8,9]
  refine ct 5 (aK E) (ca (aK E) (h:=ah ?_))
  have x_:=fp a7 ((aK E));exact bH [0,1,2,3,4,5,6,7,8,9]
 refine S' ar ?_
 obtain⟨d3,a8,H⟩:=bi H
 refine dy 6 [(2,aI b),(3,aI a),(135,.bool d3)] (aL b 34 (am a0 af ag ay az au av aw ax)::(co a0 af ag ay az au av aw ax++(eD a a1 cE cF df di db dc dh dj))) ?_ fun junk=>?_
 ·by_cases F : d2 = true
  ·refine aZ F aA (h:=cn F (aO 0) (h:=aZ F aA (h:=cn F (aO 5) (h:=gS F (.bool (decide (a0.f10 = a1.f10))) (eV Tryz.underlying4 rfl rfl) (h:=bY F (h:=ah ?_))))))
   have x_:=fq a8 F;exact bH [0,1,2,3,4,5,6,7,8,9]
  refine ct 5 (aK F) (ca (aK F) (h:=ah ?_))
  have x_:=fp a8 ((aK F));exact bH [0,1,2,3,4,5,6,7,8,9]
 refine S' ar ?_
 obtain⟨d4,a9,H⟩:=bi H
 refine dy 6 [(2,aI b),(3,aI a),(142,.bool d4)] (aL b 34 (am a0 af ag ay az au av aw ax)::(co a0 af ag ay az au av aw ax++(eD a a1 cE cF df di db dc dh dj))) ?_ fun junk=>?_
 ·by_cases I : d3 = true
  ·refine aZ I aA (h:=cn I (aO 0) (h:=aZ I aA (h:=cn I (aO 5) (h:=gS I (.bool (decide (a0.f11 = a1.f11))) (eV Tryz.underlying4 rfl rfl) (h:=bY I (h:=ah ?_))))))
   have x_:=fq a9 I;exact bH [0,1,2,3,4,5,6,7,8,9]
  refine ct 5 (aK I) (ca (aK I) (h:=ah ?_))
  have x_:=fp a9 ((aK I));exact bH [0,1,2,3,4,5,6,7,8,9]
 refine S' ar ?_
 obtain⟨d5,b0,H⟩:=bi H
 refine dy 6 [(2,aI b),(3,aI a),(149,.bool d5)] (aL b 34 (am a0 af ag ay az au av aw ax)::(co a0 af ag ay az au av aw ax++(eD a a1 cE cF df di db dc dh dj))) ?_ fun junk=>?_
 ·by_cases J : d4 = true
  ·refine aZ J aA (h:=cn J (aO 0) (h:=aZ J aA (h:=cn J (aO 5) (h:=gS J (.bool (decide (a0.f12 = a1.f12))) (eV Tryz.underlying4 rfl rfl) (h:=bY J (h:=ah ?_))))))
   have x_:=fq b0 J;exact bH [0,1,2,3,4,5,6,7,8,9]
  refine ct 5 (aK J) (ca (aK J) (h:=ah ?_))
  have x_:=fp b0 ((aK J));exact bH [0,1,2,3,4,5,6,7,8,9]
 refine S' ar ?_
 obtain⟨d6,b1,H⟩:=bi H
 refine dy 6 [(2,aI b),(3,aI a),(156,.bool d6)] (aL b 34 (am a0 af ag ay az au av aw ax)::(co a0 af ag ay az au av aw ax++(eD a a1 cE cF df di db dc dh dj))) ?_ fun junk=>?_
 ·by_cases K : d5 = true
  ·refine aZ K aA (h:=cn K (aO 0) (h:=aZ K aA (h:=cn K (aO 5) (h:=gS K (.bool (decide (a0.f13 = a1.f13))) (eV Tryz.underlying4 rfl rfl) (h:=bY K (h:=ah ?_))))))
   have x_:=fq b1 K;exact bH [0,1,2,3,4,5,6,7,8,9]
  refine ct 5 (aK K) (ca (aK K) (h:=ah ?_))
  have x_:=fp b1 ((aK K));exact bH [0,1,2,3,4,5,6,7,8,9]
 refine S' ar ?_
 obtain⟨d7,b2,H⟩:=bi H
 refine dy 6 [(2,aI b),(3,aI a),(163,.bool d7)] (aL b 34 (am a0 af ag ay az au av aw ax)::(co a0 af ag ay az au av aw ax++(eD a a1 cE cF df di db dc dh dj))) ?_ fun junk=>?_
 ·by_cases L : d6 = true
  ·refine aZ L aA (h:=cn L (cx b 25 0 (gM a0.f14)) (h:=aZ L aA (h:=cn L (cx a 25 5 (gM a1.f14)) (h:=gS L (.bool (decide (a0.f14 = a1.f14))) (kC (xs:=(gM a0.f14)) (ys:=(gM a1.f14)) (r:=((a0.f14.f0 == a1.f14.f0) && ((a0.f14.f1 == a1.f14.f1) && ((a0.f14.f2 == a1.f14.f2) && ((a0.f14.f3 == a1.f14.f3) && (((a0.f14.f4.f0 == a1.f14.f4.f0) && ((a0.f14.f4.f1 == a1.f14.f4.f1) && ((a0.f14.f4.f2 == a1.f14.f4.f2) && ((a0.f14.f4.f3 == a1.f14.f4.f3) && ((a0.f14.f4.f4 == a1.f14.f4.f4) && ((a0.f14.f4.f5 == a1.f14.f4.f5) && ((a0.f14.f4.f6 == a1.f14.f4.f6) && ((a0.f14.f4.f7 == a1.f14.f4.f7) && ((a0.f14.f4.f8 == a1.f14.f4.f8) && ((a0.f14.f4.f9 == a1.f14.f4.f9) && true)))))))))) && true)))))) (p:=a0.f14 = a1.f14) tB rfl rfl (by kernel_rfl) (tD (x:=a0.f14) (y:=a1.f14))) (h:=bY L (h:=ah ?_))))))
   have x_:=fq b2 L;exact bH [0,1,2,3,4,5,6,7,8,9]
  refine ct 5 (aK L) (ca (aK L) (h:=ah ?_))
  have x_:=fp b2 ((aK L));exact bH [0,1,2,3,4,5,6,7,8,9]
 refine S' ar ?_
 obtain⟨g9,b3,H⟩:=bi H
 refine dy 6 [(170,.bool g9)] [] ?_ fun junk=>?_
 ·by_cases M : d7 = true
  ·refine aZ M aA (h:=cn M (aO 0) (h:=aZ M aA (h:=cn M (aO 5) (h:=gS M (.bool (decide (a0.f15 = a1.f15))) (eV Tryz.underlying4 rfl rfl) (h:=bY M (h:=ah ?_))))))
   have x_:=fq b3 M;exact bH []
  refine ct 5 (aK M) (ca (aK M) (h:=ah ?_))
  have x_:=fp b3 ((aK M));exact bH []
 refine ad aW (h:=cD ?_)
 have h:=aN H;subst h
 exact dJ [] ⟨rfl,rfl⟩


def qF.l0 (l0 : (List Int)) (l1 : (List Int)) : Nat → Int → Option (Out (Bool) (Unit))
  | 0,_=>none
  | k + 1,a=>if a < (l0.length : Int) then (if 0 ≤ a∧a < (l0.length : Int) then (if 0 ≤ a∧a < (l1.length : Int) then (if (rd l0 a) ≠ (rd l1 a) then (some (Out.ret (false))) else (qF.l0 l0 l1 k (i64.wrap (a + 1)))) else none) else none) else (some (Out.go ()))
def qF.f (k : Nat) (l0 : (List Int)) (l1 : (List Int)) : Option (Bool):=if (l0.length : Int) ≠ (l1.length : Int) then (some (false)) else ((qF.l0 l0 l1 k 0 : Option (Out (Bool) (Unit))).bind (fun a=>Out.el a (fun r_=>some r_) (fun b=>some (true))))
theorem qF.ok {l0 : (List Int)} {l1 : (List Int)} {A0 : Option Addr} {c0 : Nat} {A1 : Option Addr} {c1 : Nat} {r : Bool} (H : qF.f k l0 l1 = some r) : dp Tryz.prog 66 #[.slice A0 l0.length c0,.slice A1 l1.length c1] [wm A0 c0 l0,wm A1 c1 l1] (fun v B=>v = .bool r∧B = []):=by
 refine aj Tryz.func66 rfl rfl ?_
 unfold qF.f at H
 refine aP (ad aW (h:=eA (ad ar (h:=bT (ae (l0.length : Int)) (cP Tryz.underlying29 rfl) (h:=ad ar (h:=bT (ae (l1.length : Int)) (cP Tryz.underlying29 rfl) (h:=ad (dt rfl rfl) (h:=bA ?_))))))))
 rcases bD H with⟨s,H⟩|⟨s,H⟩
 ·refine aC rfl s (aP (ad aW (h:=cA ?_)))
  have h:=aN H;subst h
  exact dJ [] ⟨rfl,rfl⟩
 refine aB rfl s (ao (aa (ap (aP (ad ar (h:=bT (ae (l0.length : Int)) (cP Tryz.underlying29 rfl) (h:=ad ar (h:=bA ?_))))))))
 obtain⟨E,H,b⟩:=ac H
 refine bK (fun e ds As=>∃ (D : Unit),E = Out.go D∧St [] [] e ds As) ?_ ?_
 ·refine aT (cl (fun k_ e ds As=>∃ (a : Int),qF.l0 l0 l1 k_ a = some E∧St [(0,.slice A0 l0.length c0),(1,.slice A1 l1.length c1),(12,ae (l0.length : Int)),(13,ae a)] [wm A0 c0 l0,wm A1 c1 l1] e ds As) (k:=k) ⟨_,H,jQ [0,1]⟩ ?_)
  clear H
  rintro z e ds As ⟨a,H,y⟩
  obtain _ | z:=z
  ·cases H
  rw [qF.l0] at H
  refine SA.of_St y fun junk=>aP (ad (cg rfl rfl) (h:=bA (ap ?_)))
  rcases bD H with⟨u,H⟩|⟨u,H⟩
  ·refine aC rfl u (ao (aa (ap (aT (aP (ad ar (h:=ad aW (h:=bA (ap ?_)))))))))
   refine fg (dC 0 9) [0,1] [0,1] fun _ _ _ _ _ sH dd pk=>?_
   refine bf 0 rfl sH ar (h:=T' 1 rfl sH ar ?_)
   obtain⟨⟨d,l⟩,H⟩:=aS H
   refine bN 2 rfl sH (br (i:=a) Tryz.underlying29 jm rfl rfl (Src.ro (k:=0) rfl) d l) (h:=bN 3 rfl sH (bE (enc:=(fun x_ : Int=>[Value.int .i64 x_])) (i:=a) (j:=a.toNat * 1) (m:=0) (sz:=1) Tryz.underlying3 rfl rfl rfl rfl (Src.ro (k:=0) rfl) d l (fun _ _ h=>h) rfl) (h:=bf 4 rfl sH ar (h:=T' 5 rfl sH ar ?_)))
   obtain⟨⟨o,p⟩,H⟩:=aS H
   refine bN 6 rfl sH (br (i:=a) Tryz.underlying29 jm rfl rfl (Src.ro (k:=1) rfl) o p) (h:=bN 7 rfl sH (bE (enc:=(fun x_ : Int=>[Value.int .i64 x_])) (i:=a) (j:=a.toNat * 1) (m:=0) (sz:=1) Tryz.underlying3 rfl rfl rfl rfl (Src.ro (k:=1) rfl) o p (fun _ _ h=>h) rfl) (h:=bf 8 rfl sH (dt rfl rfl) (h:=aV dd sH (aH (by kernel_rfl) (aa ?_)))))
   rcases bD H with⟨c,H⟩|⟨c,H⟩
   ·refine aC rfl c (aP (ad aW (h:=cD (aY (aF (aF (aY (aF (aF ?_)))))))))
    have h:=aN H;subst h
    have hb_:=dz b
    have hr_:=Option.some.inj hb_
    clear hb_
    subst hr_
    exact dJ [] ⟨rfl,rfl⟩
   refine aB rfl c (ao (aG (aa (ak (ad (bX rfl rfl) (h:=ad ar (h:=ah ?_)))))))
   exact aa ⟨z,Nat.lt_succ_self _,_,H,eb [0,1]⟩
  refine aB rfl u (ci (aX (aX (cj ?_))))
  have h:=aN H;subst h
  exact aa ⟨(),rfl,eb []⟩
 rintro e ds As ⟨D,ht,q⟩
 clear H
 subst ht
 replace b:=fi b
 have H:=b
 clear b
 refine aa (SA.of_St q fun junk=>aP (ad aW (h:=cD ?_)))
 have h:=aN H;subst h
 exact dJ [] ⟨rfl,rfl⟩


def qG.l0 (l0 : (List Int)) (l1 : (List Int)) : Nat → Int → Option (Out (Bool) (Unit))
  | 0,_=>none
  | k + 1,a=>if a < (l0.length : Int) then (if 0 ≤ a∧a < (l0.length : Int) then (if 0 ≤ a∧a < (l1.length : Int) then (if (rd l0 a) ≠ (rd l1 a) then (some (Out.ret (false))) else (qG.l0 l0 l1 k (i64.wrap (a + 1)))) else none) else none) else (some (Out.go ()))
def qG.f (k : Nat) (l0 : (List Int)) (l1 : (List Int)) : Option (Bool):=if (l0.length : Int) ≠ (l1.length : Int) then (some (false)) else ((qG.l0 l0 l1 k 0 : Option (Out (Bool) (Unit))).bind (fun a=>Out.el a (fun r_=>some r_) (fun b=>some (true))))
theorem qG.ok {l0 : (List Int)} {l1 : (List Int)} {A0 : Option Addr} {c0 : Nat} {A1 : Option Addr} {c1 : Nat} {r : Bool} (H : qG.f k l0 l1 = some r) : dp Tryz.prog 67 #[.slice A0 l0.length c0,.slice A1 l1.length c1] [sT A0 c0 l0,sT A1 c1 l1] (fun v B=>v = .bool r∧B = []):=by
 refine aj Tryz.func67 rfl rfl ?_
 unfold qG.f at H
 refine aP (ad aW (h:=eA (ad ar (h:=bT (ae (l0.length : Int)) (cP Tryz.underlying32 rfl) (h:=ad ar (h:=bT (ae (l1.length : Int)) (cP Tryz.underlying32 rfl) (h:=ad (dt rfl rfl) (h:=bA ?_))))))))
 rcases bD H with⟨s,H⟩|⟨s,H⟩
 ·refine aC rfl s (aP (ad aW (h:=cA ?_)))
  have h:=aN H;subst h
  exact dJ [] ⟨rfl,rfl⟩
 refine aB rfl s (ao (aa (ap (aP (ad ar (h:=bT (ae (l0.length : Int)) (cP Tryz.underlying32 rfl) (h:=ad ar (h:=bA ?_))))))))
 obtain⟨E,H,b⟩:=ac H
 refine bK (fun e ds As=>∃ (D : Unit),E = Out.go D∧St [] [] e ds As) ?_ ?_
 ·refine aT (cl (fun k_ e ds As=>∃ (a : Int),qG.l0 l0 l1 k_ a = some E∧St [(0,.slice A0 l0.length c0),(1,.slice A1 l1.length c1),(12,ae (l0.length : Int)),(13,ae a)] [sT A0 c0 l0,sT A1 c1 l1] e ds As) (k:=k) ⟨_,H,jQ [0,1]⟩ ?_)
  clear H
  rintro z e ds As ⟨a,H,y⟩
  obtain _ | z:=z
  ·cases H
  rw [qG.l0] at H
  refine SA.of_St y fun junk=>aP (ad (cg rfl rfl) (h:=bA (ap ?_)))
  rcases bD H with⟨u,H⟩|⟨u,H⟩
  ·refine aC rfl u (ao (aa (ap (aT (aP (ad ar (h:=ad aW (h:=bA (ap ?_)))))))))
   refine fg (dC 0 9) [0,1] [0,1] fun _ _ _ _ _ sH dd pk=>?_
   refine bf 0 rfl sH ar (h:=T' 1 rfl sH ar ?_)
   obtain⟨⟨d,l⟩,H⟩:=aS H
   refine bN 2 rfl sH (br (i:=a) Tryz.underlying32 jg rfl rfl (Src.ro (k:=0) rfl) d l) (h:=bN 3 rfl sH (bE (enc:=(fun x_ : Int=>[Value.int .i32 x_])) (i:=a) (j:=a.toNat * 1) (m:=0) (sz:=1) Tryz.underlying21 rfl rfl rfl rfl (Src.ro (k:=0) rfl) d l (fun _ _ h=>h) rfl) (h:=bf 4 rfl sH ar (h:=T' 5 rfl sH ar ?_)))
   obtain⟨⟨o,p⟩,H⟩:=aS H
   refine bN 6 rfl sH (br (i:=a) Tryz.underlying32 jg rfl rfl (Src.ro (k:=1) rfl) o p) (h:=bN 7 rfl sH (bE (enc:=(fun x_ : Int=>[Value.int .i32 x_])) (i:=a) (j:=a.toNat * 1) (m:=0) (sz:=1) Tryz.underlying21 rfl rfl rfl rfl (Src.ro (k:=1) rfl) o p (fun _ _ h=>h) rfl) (h:=bf 8 rfl sH (dt rfl rfl) (h:=aV dd sH (aH (by kernel_rfl) (aa ?_)))))
   rcases bD H with⟨c,H⟩|⟨c,H⟩
   ·refine aC rfl c (aP (ad aW (h:=cD (aY (aF (aF (aY (aF (aF ?_)))))))))
    have h:=aN H;subst h
    have hb_:=dz b
    have hr_:=Option.some.inj hb_
    clear hb_
    subst hr_
    exact dJ [] ⟨rfl,rfl⟩
   refine aB rfl c (ao (aG (aa (ak (ad (bX rfl rfl) (h:=ad ar (h:=ah ?_)))))))
   exact aa ⟨z,Nat.lt_succ_self _,_,H,eb [0,1]⟩
  refine aB rfl u (ci (aX (aX (cj ?_))))
  have h:=aN H;subst h
  exact aa ⟨(),rfl,eb []⟩
 rintro e ds As ⟨D,ht,q⟩
 clear H
 subst ht
 replace b:=fi b
 have H:=b
 clear b
 refine aa (SA.of_St q fun junk=>aP (ad aW (h:=cD ?_)))
 have h:=aN H;subst h
 exact dJ [] ⟨rfl,rfl⟩

end Go.Proofs.YtckilbegmbaeeaaGreat.Z7

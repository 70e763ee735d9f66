/- Walks. -/
import Derived.Test.YtckilbegmbaeeaaGreatZ78
namespace Go.Proofs.YtckilbegmbaeeaaGreat.Z7
open Go Go.RowKit Go.Proofs.YtckilbegmbaeeaaGreat.SL
open Go.IntKind (i64)
set_option linter.unusedVariables false
set_option maxHeartbeats 20000000
set_option maxRecDepth 100000
set_option linter.unusedSimpArgs false
attribute [local irreducible] IntKind.wrap dm fE iD md lW rn lM fG ma rd sub bytesOf jD dv
variable {ag az av ax k : Nat}
variable {af ay au aw : Option Addr}
def fS.l0 (a0 : bJ) (a2 : Int) (r12 : bJ × Int) : Nat → Int → (List ba) → Option ((List ba))
  | 0,_,_=>none
  | k + 1,b,a=>if a.length = r12.1.f2.length then (if b < (dm a2 a0.f1) then ((dF.f (bJ.mk r12.1.f0 r12.1.f1 a) b).bind (fun d=>if (0 ≤ d.1∧0 ≤ d.2∧d.1 + d.2 ≤ (a.length : Int)) then ((dF.f a0 b).bind (fun c=>if (0 ≤ c.1∧0 ≤ c.2∧c.1 + c.2 ≤ (a0.f2.length : Int)) then (lt (bB a d.1.toNat ((sub a0.f2 c.1 (c.1 + c.2)).take d.2.toNat)) fun j=>((dF.f (bJ.mk r12.1.f0 r12.1.f1 j) b).bind (fun h=>if (0 ≤ h.1∧0 ≤ h.2∧h.1 + h.2 ≤ (j.length : Int)) then ((eL.f k j h.1 h.2).bind (fun l=>if l.length = j.length then (lt (i64.wrap (b + 1)) fun m=>fS.l0 a0 a2 r12 k m l) else none)) else none))) else none)) else none)) else (some a)) else none
def fS.f (k : Nat) (a0 : bJ) (a1 : Int) (a2 : Int) (a3 : cN) : Option (bJ × Int):=(fB.f k a0).bind (fun c=>if (!c) = true then (some (((bJ.mk 0 0 ([] : (List ba))),2))) else ((pQ.f k a1 a2 a3).bind (fun a=>if a.2 ≠ 0 then (some (((bJ.mk 0 0 ([] : (List ba))),a.2))) else ((fS.l0 a0 a2 a k 0 a.1.f2 : Option ((List ba))).bind (fun b=>if b.length = a.1.f2.length then (some (((bJ.mk a.1.f0 a.1.f1 b),0))) else none)))))
theorem fS.ok {a0 : bJ} {a1 : Int} {a2 : Int} {a3 : cN} {r : bJ × Int} (H : fS.f k a0 a1 a2 a3 = some r) : dp Tryz.prog 109 #[.agg #[ae a0.f0,ae a0.f1,.slice af a0.f2.length ag],ae a1,ae a2,.agg (bF a3).toArray] [Buf bI 55 af ag a0.f2] (fun v B=>∃ aQ aR,v = .tuple #[.agg #[ae r.1.f0,ae r.1.f1,.slice aQ r.1.f2.length aR],ae r.2]∧B = [Buf bI 55 aQ aR r.1.f2,Buf bI 55 af ag a0.f2]):=by
 refine aj Tryz.func109 rfl rfl ?_
 unfold fS.f at H
 refine aP (o' (bO (h:=fun N=>o' (bO (h:=fun b4=>o' (cC (h:=fun q=>ad aW (h:=bA (ap (ap (bQ 0 fun c8=>ak (l' (cx N 0 1 [ae a0.f0,ae a0.f1,.slice af a0.f2.length ag]) ?_))))))))))))
 obtain⟨r9,a9,H⟩:=ac H
 refine o' (da [0] [1,2,3] (fB.ok a9) ?_)
 refine ad (bU rfl) (h:=bA ?_)
 rcases bD H with⟨D,H⟩|⟨D,H⟩
 ·refine aD rfl D (aP (bT (.agg #[ae 0,ae 0,.slice none 0 0]) dS (h:=o' (bj q 0 3 [ae 0,ae 0,.slice none 0 0] (h:=ad aW (h:=cA ?_))))))
  have h:=aN H;subst h
  exact lX [.cell 8 26,.tmp 9] ((Gh.nilBuf bI 55).trans (fk [4,0])) ⟨none,0,rfl,rfl⟩ ⟨cW 3,cX,trivial⟩
 refine aE rfl D (ao (aa (aP (ad ar (h:=ad ar (h:=l' (cm 2) ?_))))))
 obtain⟨b,a8,H⟩:=ac H
 refine o' (gy [] [0,1,2,3] (pQ.ok a8) fun c d=>?_)
 refine ad ar (h:=ad cw (h:=ad cw (h:=o' (cC (h:=fun j=>o' (bj j 0 5 [ae b.1.f0,ae b.1.f1,.slice c b.1.f2.length d] (h:=ad aW (h:=eA (ad ar (h:=ad (dt rfl rfl) (h:=bA ?_)))))))))))
 rcases bD H with⟨E,H⟩|⟨E,H⟩
 ·refine aC rfl E (aP (bT (.agg #[ae 0,ae 0,.slice none 0 0]) dS (h:=ad ar (h:=o' (bj q 0 4 [ae 0,ae 0,.slice none 0 0] (h:=ad aW (h:=cA ?_)))))))
  have h:=aN H;subst h
  exact lX [.cell 8 26,.tmp 9] ((Gh.nilBuf bI 55).trans (fk [6,1])) ⟨none,0,rfl,rfl⟩ ⟨cW 4,cX,trivial⟩
 refine aB rfl E (ao (aa (ap (aP (ad aW (h:=bA ?_))))))
 obtain⟨p,H,z⟩:=ac H
 refine bK (St [(8,aI q),(10,aI j)] [Buf bI 55 af ag a0.f2,aL q 26 [ae 0,ae 0,.slice none 0 0],aL j 26 [ae b.1.f0,ae b.1.f1,.slice c p.length d],Buf bI 55 c d p]) ?_ ?_
 ·refine aT (cl (fun k_ e ds As=>∃ (o : Int) (a : (List ba)),fS.l0 a0 a2 b k_ o a = some p∧St [(2,ae a2),(4,aI N),(8,aI q),(10,aI j),(12,ae o)] [Buf bI 55 af ag a0.f2,aL N 26 [ae a0.f0,ae a0.f1,.slice af a0.f2.length ag],aL q 26 [ae 0,ae 0,.slice none 0 0],aL j 26 [ae b.1.f0,ae b.1.f1,.slice c a.length d],Buf bI 55 c d a] e ds As) (k:=k) ⟨_,_,H,jQ [1,2,4,5,0]⟩ ?_)
  clear H
  rintro J e ds As ⟨o,a,H,Z⟩
  obtain _ | J:=J
  ·cases H
  rw [fS.l0] at H
  obtain⟨b3,H⟩:=aS H
  refine SA.of_St Z fun junk=>ap (aP (ad ar (h:=ad ar (h:=ad aA (h:=bq (aO 1) (h:=bT (ae (dm a2 a0.f1)) (jL rfl rfl) (h:=ad (cg rfl rfl) (h:=bA ?_))))))))
  rcases bD H with⟨F,H⟩|⟨F,H⟩
  ·refine aC rfl F (ao (aa (ap (aT (ap (bQ 4 fun b9=>?_))))))
   refine fg [0,1,3,4] [1,3] [0,2,4] fun _ _ _ _ _ sH dd pk=>?_
   refine bN 0 rfl sH (cx j 0 1 [ae b.1.f0,ae b.1.f1,.slice c a.length d]) (h:=bf 1 rfl sH ar (h:=bN 3 rfl sH (cx N 0 0 [ae a0.f0,ae a0.f1,.slice af a0.f2.length ag]) (h:=T' 4 rfl sH ar ?_)))
   obtain⟨L,a4,H⟩:=ac H
   obtain⟨⟨hl149a,hl149b,hl149c⟩,H⟩:=aS H
   refine dT 2 rfl dd (mu [2] [0,1] (dF.ok a4) ?_)
   rintro _ _⟨b7,c6,O,rfl,rfl⟩
   obtain⟨u,a5,H⟩:=ac H
   obtain⟨⟨hl329a,hl329b,hl329c⟩,H⟩:=aS H
   refine dT 5 rfl dd (mu [1] [0,2] (dF.ok a5) ?_)
   rintro _ _⟨b8,c7,R,rfl,rfl⟩
   obtain⟨s,y,H⟩:=bi H
   have hl_n385 : s.length = a.length:=by rw [y]; exact eU (by rw [List.length_take]; omega)
   refine dT 6 rfl dd (gn (k:=1) (l:=L.1) (m:=L.2) (xs:=a) (ys:=sub a0.f2 u.1 (u.1 + u.2)) s y O rfl Tryz.underlying24 ck rfl rfl rfl (by omega) rfl (pE.win (Src.buf (k:=0) rfl) R rfl (by omega)) ?_)
   try unfold bF
   try rewrite [← hl_n385]
   try unfold bF at sH
   try rewrite [← hl_n385] at sH
   refine aV dd sH (aH (by kernel_rfl) (aa (ak (bq (cx j 0 1 [ae b.1.f0,ae b.1.f1,.slice c s.length d]) (h:=S' ar ?_)))))
   obtain⟨M,a7,H⟩:=ac H
   obtain⟨⟨hl450a,hl450b,hl450c⟩,H⟩:=aS H
   refine o' (mu [3] [0,1,2,4] (dF.ok a7) ?_)
   rintro _ _⟨b0,b1,S,rfl,rfl⟩
   obtain⟨c5,a6,H⟩:=ac H
   obtain⟨U,H⟩:=aS H
   refine o' (da [0] [1,2,3,4] (eL.ok (o0:=M.1) (n0:=M.2) (A0:=c) (c0:=d) (V0:=b0) (v0:=b1) (hw0:=S) a6) ?_)
   try unfold bF
   try rewrite [← U]
   refine ah (aG (aa (ak (ad ar (h:=S' (bX rfl rfl) ?_)))))
   obtain⟨K,Y,H⟩:=bi H
   refine bT (ae K) (bu (v:=ae K) (congrArg (Value.int .i64) Y.symm)) (h:=ah ?_)
   exact aa ⟨J,Nat.lt_succ_self _,_,_,H,eb [3,1,4,2,0]⟩
  refine aB rfl F (ci (aX (aX (cj ?_))))
  have h:=aN H;subst h
  exact bH [0,2,3,4]
 rintro e ds As I
 clear H
 have H:=z
 clear z
 obtain⟨b5,H⟩:=aS H
 refine aa (SA.of_St I fun junk=>aP (bq (cx j 0 2 [ae b.1.f0,ae b.1.f1,.slice c p.length d]) (h:=o' (bj q 0 1 [ae b.1.f0,ae b.1.f1,.slice c p.length d] (h:=ad aW (h:=cD ?_))))))
 have h:=aN H;subst h
 exact dE [.cell 8 26,.tmp 9] [3,0] ⟨c,d,rfl,rfl⟩ ⟨cW 1,cX,trivial⟩


def pZ.f (k : Nat) (a0 : aJ) (a1 : Int) (a2 : Int) : Option (aJ × Int):=(gl.f k a0).bind (fun a=>if (!a.2) = true then (some ((a.1,2))) else ((fS.f k a.1.f0 a1 a2 a.1.f4).bind (fun oO=>if oO.2 ≠ 0 then (some (((aJ.mk (bJ.mk 0 0 ([] : (List ba))) 0 0 false (cN.mk 0 0 false false false false false false false false) 0 0 ([] : (List Int)) false false false false false false (dH.mk 0 0 false false (cN.mk 0 0 false false false false false false false false)) false (bJ.mk 0 0 ([] : (List ba))) ([] : (List Int))),oO.2))) else ((if a.1.f15 = true then ((fS.f k a.1.f16 a1 a2 a.1.f4).bind (fun c=>some (aJ.mk oO.1 a.1.f1 a.1.f2 a.1.f3 a.1.f4 a.1.f5 a.1.f6 a.1.f7 a.1.f8 a.1.f9 a.1.f10 a.1.f11 a.1.f12 a.1.f13 a.1.f14 a.1.f15 c.1 a.1.f17))) else (some (aJ.mk oO.1 a.1.f1 a.1.f2 a.1.f3 a.1.f4 a.1.f5 a.1.f6 a.1.f7 a.1.f8 a.1.f9 a.1.f10 a.1.f11 a.1.f12 a.1.f13 a.1.f14 a.1.f15 a.1.f16 a.1.f17)) : Option (aJ)).bind (fun b=>(qE.f k a1).bind (fun d=>some ((({ b with f1:=(dm b.f1 (i64.wrap (a2 - 1))),f2:=(dm b.f2 (i64.wrap (a1 - 1))),f3:=false,f5:=0,f6:=(i64.wrap (a2 - 1)),f7:=d,f14:=(dH.mk (dm b.f14.f0 (i64.wrap (a2 - 1))) (dm b.f14.f1 (i64.wrap (a1 - 1))) false b.f14.f3 b.f14.f4) }),0))))))))

def pN.f (k : Nat) (a0 : aJ) (a1 : qI) : Option (aJ × Int):=if a1.f0 = 0 then ((pR.f k a0 (IntKind.i32.wrap (a1.f1))).bind (fun p=>some ((p.1,p.2)))) else (if a1.f0 = 1 then ((jJ.f k a0 (IntKind.i32.wrap (a1.f1))).bind (fun q=>some ((q.1,q.2)))) else (if a1.f0 = 2 then ((pS.f k a0 a1.f1 a1.f2).bind (fun r=>some ((r.1,r.2)))) else (if a1.f0 = 3 then ((jY.f k a0 a1.f1 a1.f2).bind (fun s=>some ((s.1,s.2)))) else (if a1.f0 = 4 then ((jK.f k a0 a1.f3 a1.f1).bind (fun u=>some ((u.1,u.2)))) else (if a1.f0 = 5 then ((pT.f k a0 a1.f1).bind (fun a=>some ((a.1,a.2)))) else (if a1.f0 = 6 then ((pU.f k a0 a1.f1).bind (fun b=>some ((b.1,b.2)))) else (if a1.f0 = 7 then ((pV.f k a0 a1.f1).bind (fun c=>some ((c.1,c.2)))) else (if a1.f0 = 8 then ((pW.f k a0 a1.f1 a1.f2).bind (fun d=>some ((d.1,d.2)))) else (if a1.f0 = 9 then ((ji.f k a0 a1.f3).bind (fun h=>some ((h.1,h.2)))) else (if a1.f0 = 10 then ((pX.f k a0 a1.f3 a1.f1 (decide (a1.f2 > 0))).bind (fun j=>some ((j.1,j.2)))) else (if a1.f0 = 11 then ((fW.f k a0 a1.f1).bind (fun l=>some ((l.1,l.2)))) else (if a1.f0 = 12 then ((pY.f k a0 a1.f1).bind (fun m=>some ((m.1,m.2)))) else ((pZ.f k a0 a1.f1 a1.f2).bind (fun o=>some ((o.1,o.2))))))))))))))))

def tf.l0 : Nat → aJ → Int → Int → Option (aJ × Int)
  | 0,_,_,_=>none
  | k + 1,b,c,a=>lt ((decide (a ≤ 100)) && (decide (c = 0))) fun h=>if h = true then ((uO.f k b a).bind (fun d=>lt (IntKind.i32.wrap (a + 1)) fun n62=>tf.l0 k d.1 d.2 n62)) else (some (b,c))
def tf.f (k : Nat)  : Option (Bool):=(F8.f k 3 2).bind (fun o=>(tf.l0 k o.1 o.2 97 : Option (aJ × Int)).bind (fun a=>lt ((decide (a.2 = 0)) && (decide (a.1.f1 = 1))) fun b=>lt (b && (decide (a.1.f2 = 1))) fun c=>lt (c && (decide ((a.1.f0.f2.length : Int) = 6))) fun d=>(if d = true then (if 0 ≤ (2 : Int)∧(2 : Int) < (a.1.f0.f2.length : Int) then (some (decide (((rd a.1.f0.f2 (2 : Int)).f0) = 99))) else none) else (some false) : Option Bool).bind (fun h=>(if h = true then (if 0 ≤ (3 : Int)∧(3 : Int) < (a.1.f0.f2.length : Int) then (some (decide (((rd a.1.f0.f2 (3 : Int)).f0) = 100))) else none) else (some false) : Option Bool).bind (fun j=>lt (j && a.1.f8) fun l=>lt (l && a.1.f13) fun m=>some (m)))))
theorem tf.ok  {r : Bool} (H : tf.f k  = some r) : fU Tryz.prog 14 #[] [] (.bool r):=by
 refine aj Tryz.func14 rfl rfl ?_
 unfold tf.f at H
 refine aP (ad aW (h:=cR ?_))
 obtain⟨r1,e4,H⟩:=ac H
 refine o' (ef [] [] (F8.ok e4) fun A2 c3 A5 c6 A8 c9 b4 c5=>?_)
 refine ad ar (h:=ad cw (h:=ad cw (h:=o' (cC (h:=fun b9=>o' (bj b9 0 4 (am r1.1 A2 c3 A5 c6 A8 c9 b4 c5) (h:=ad aW (h:=eA (ad aW (h:=bA ?_))))))))))
 obtain⟨l,H,a2⟩:=ac H
 refine bK (fun e ds As=>∃ (a : Nat),∃ (b : Option Addr) (z : Nat),∃ (q : Option Addr) (B : Nat),∃ (s : Option Addr) (D : Nat),∃ (u : Option Addr) (E : Nat),St [(1,aI a),(2,ae l.2)] (cQ a l.1 b z q B s D u E) e ds As) ?_ ?_
 ·refine aT (cl (fun k_ e ds As=>∃ (J : aJ) (K : Int) (p : Int),∃ (y : Nat),∃ (O : Option Addr) (Y : Nat),∃ (R : Option Addr) (Z : Nat),∃ (S : Option Addr) (a0 : Nat),∃ (U : Option Addr) (a1 : Nat),tf.l0 k_ J K p = some l∧St [(1,aI y),(2,ae K),(3,aM p)] (cQ y J O Y R Z S a0 U a1) e ds As) (k:=k) ⟨_,_,_,b9,A2,c3,A5,c6,A8,c9,b4,c5,H,jQ [4,0,1,2,3]⟩ ?_)
  clear H
  rintro b0 e ds As ⟨J,K,p,y,O,Y,R,Z,S,a0,U,a1,H,b1⟩
  obtain _ | b0:=b0
  ·cases H
  rw [tf.l0] at H
  refine SA.of_St b1 fun junk=>ap (aP (ad ar (h:=ad (gF rfl rfl) (h:=S' ar ?_))))
  obtain⟨e5,a4,H⟩:=bi H
  refine cI 3 (St [(1,aI y),(2,ae K),(3,aM p),(13,.bool e5)] (cQ y J O Y R Z S a0 U a1)) ?_ ?_
  ·by_cases L : p ≤ 100
   ·refine aZ (ai L) ar (h:=aZ (ai L) (bk rfl rfl) (h:=bY (ai L) (h:=ah ?_)))
    have x_:=fq a4 ((ai L));exact bH [0,1,2,3,4]
   refine ct 2 (al L) (ca (al L) (h:=ah ?_))
   have x_:=fp a4 ((al L));exact bH [0,1,2,3,4]
  rintro e ds As b2
  refine bA (SA.of_St b2 fun junk=>?_)
  rcases bD H with⟨a3,H⟩|⟨a3,H⟩
  ·refine aD rfl a3 (ao (aa (ap (aT (ak (bq (cm 0) (h:=S' ar ?_)))))))
   obtain⟨e9,e3,H⟩:=ac H
   refine o' (OA.ghost (Gh.freeze (k:=1) rfl) (OA.ghost (Gh.freeze (k:=2) rfl) (OA.ghost (Gh.freeze (k:=3) rfl) (OA.ghost (Gh.freeze (k:=4) rfl) (ef [1,2,3,4] [0,1,2,3,4] (uO.ok e3) fun b5 c7 b6 c8 b7 d0 b8 d1=>?_)))))
   refine ad ar (h:=ad cw (h:=ad cw (h:=o' (bj y 0 4 (am e9.1 b5 c7 b6 c8 b7 d0 b8 d1) (h:=ad aW (h:=ah (aG (aa (ak (ad ar (h:=S' (bX rfl rfl) ?_)))))))))))
   obtain⟨n62,e2,H⟩:=bi H
   refine bT (aM n62) (bu (v:=aM n62) (congrArg (Value.int .i32) e2.symm)) (h:=ah ?_)
   exact aa ⟨b0,Nat.lt_succ_self _,_,_,_,y,b5,c7,b6,c8,b7,d0,b8,d1,H,eb [4,0,1,2,3]⟩
  refine aE rfl a3 (ci (aX (aX (cj ?_))))
  have h:=aN H;subst h
  exact aa ⟨y,O,Y,R,Z,S,a0,U,a1,eb [0,1,2,3,4]⟩
 rintro e ds As ⟨a,b,z,q,B,s,D,u,E,b3⟩
 clear H
 have H:=a2
 clear a2
 refine aa (SA.of_St b3 fun junk=>aP (ad ar (h:=ad (bk rfl rfl) (h:=S' ar ?_))))
 obtain⟨d6,a5,H⟩:=bi H
 refine dy 4 [(1,aI a),(28,.bool d6)] (cQ a l.1 b z q B s D u E) ?_ fun junk=>?_
 ·by_cases F : l.2 = 0
  ·refine aZ (ai F) aA (h:=cn (ai F) (aO 0) (h:=aZ (ai F) (bk rfl rfl) (h:=bY (ai F) (h:=ah ?_))))
   have x_:=fq a5 ((ai F));exact bH [0,1,2,3,4]
  refine ct 3 (al F) (ca (al F) (h:=ah ?_))
  have x_:=fp a5 ((al F));exact bH [0,1,2,3,4]
 refine S' ar ?_
 obtain⟨d7,a6,H⟩:=bi H
 refine dy 4 [(1,aI a),(33,.bool d7)] (cQ a l.1 b z q B s D u E) ?_ fun junk=>?_
 ·by_cases I : d6 = true
  ·refine aZ I aA (h:=cn I (aO 0) (h:=aZ I (bk rfl rfl) (h:=bY I (h:=ah ?_))))
   have x_:=fq a6 I;exact bH [0,1,2,3,4]
  refine ct 3 (aK I) (ca (aK I) (h:=ah ?_))
  have x_:=fp a6 ((aK I));exact bH [0,1,2,3,4]
 refine S' ar ?_
 obtain⟨e6,a7,H⟩:=bi H
 refine dy 6 [(1,aI a),(40,.bool e6)] (cQ a l.1 b z q B s D u E) ?_ fun junk=>?_
 ·by_cases o : d7 = true
  ·refine aZ o aA (h:=aZ o aA (h:=cn o (aO 0) (h:=gS o (ae (l.1.f0.f2.length : Int)) (cP Tryz.underlying24 rfl) (h:=aZ o (bk rfl rfl) (h:=bY o (h:=ah ?_))))))
   have x_:=fq a7 o;exact bH [0,1,2,3,4]
  refine ct 5 (aK o) (ca (aK o) (h:=ah ?_))
  have x_:=fp a7 ((aK o));exact bH [0,1,2,3,4]
 refine S' ar ?_
 obtain⟨e7,H,e0⟩:=ac H
 refine dy 8 [(1,aI a),(49,.bool e7)] (cQ a l.1 b z q B s D u E) ?_ fun junk=>?_
 ·rcases bD H with⟨c,H⟩|⟨c,H⟩
  ·refine aZ c aA (h:=aZ c aA (h:=z' c (aO 0) ?_))
   obtain⟨⟨d2,d3⟩,H⟩:=aS H
   refine cn c (br (i:=(2 : Int)) Tryz.underlying24 ck rfl rfl (Src.buf (k:=1) rfl) d2 d3) (h:=gS c (.pointer (some ((el b ((2 : Int).toNat * 15)).add 0))) (lL (el b ((2 : Int).toNat * 15)) 0 0) (h:=cn c (bE (enc:=cZ) (i:=(2 : Int)) (j:=(2 : Int).toNat * 15) (m:=0) (sz:=15) Tryz.underlying21 rfl rfl rfl rfl (Src.buf (k:=1) rfl) d2 d3 (fun _ _ h=>h) rfl) (h:=aZ c (bk rfl rfl) (h:=gJ c ?_))))
   have h:=aN H;subst h
   exact dQ [0,1,2,3,4]
  refine ct 7 (aK c) (fZ (aK c) ?_)
  have h:=aN H;subst h
  exact dQ [0,1,2,3,4]
 replace H:=e0
 refine S' ar ?_
 obtain⟨d8,H,e1⟩:=ac H
 refine dy 8 [(1,aI a),(58,.bool d8)] (cQ a l.1 b z q B s D u E) ?_ fun junk=>?_
 ·rcases bD H with⟨d,H⟩|⟨d,H⟩
  ·refine aZ d aA (h:=aZ d aA (h:=z' d (aO 0) ?_))
   obtain⟨⟨d4,d5⟩,H⟩:=aS H
   refine cn d (br (i:=(3 : Int)) Tryz.underlying24 ck rfl rfl (Src.buf (k:=1) rfl) d4 d5) (h:=gS d (.pointer (some ((el b ((3 : Int).toNat * 15)).add 0))) (lL (el b ((3 : Int).toNat * 15)) 0 0) (h:=cn d (bE (enc:=cZ) (i:=(3 : Int)) (j:=(3 : Int).toNat * 15) (m:=0) (sz:=15) Tryz.underlying21 rfl rfl rfl rfl (Src.buf (k:=1) rfl) d4 d5 (fun _ _ h=>h) rfl) (h:=aZ d (bk rfl rfl) (h:=gJ d ?_))))
   have h:=aN H;subst h
   exact dQ [0,1,2,3,4]
  refine ct 7 (aK d) (fZ (aK d) ?_)
  have h:=aN H;subst h
  exact dQ [0,1,2,3,4]
 replace H:=e1
 refine S' ar ?_
 obtain⟨d9,a8,H⟩:=bi H
 refine dy 3 [(1,aI a),(62,.bool d9)] (cQ a l.1 b z q B s D u E) ?_ fun junk=>?_
 ·by_cases M : d8 = true
  ·refine aZ M aA (h:=cn M (aO 0) (h:=bY M (h:=ah ?_)))
   have x_:=fq a8 M;exact bH [0,1,2,3,4]
  refine ct 2 (aK M) (ca (aK M) (h:=ah ?_))
  have x_:=fp a8 ((aK M));exact bH [0,1,2,3,4]
 refine S' ar ?_
 obtain⟨e8,a9,H⟩:=bi H
 refine dy 3 [(66,.bool e8)] [] ?_ fun junk=>?_
 ·by_cases N : d9 = true
  ·refine aZ N aA (h:=cn N (aO 0) (h:=bY N (h:=ah ?_)))
   have x_:=fq a9 N;exact bH []
  refine ct 2 (aK N) (ca (aK N) (h:=ah ?_))
  have x_:=fp a9 ((aK N));exact bH []
 refine ad aW (h:=cD ?_)
 have h:=aN H;subst h
 exact dJ [] ⟨rfl,rfl⟩


theorem BQ.ok {a0 : bJ} {r : Bool} (H : fB.f k a0 = some r) : dp Tryz.prog 54 #[.agg #[ae a0.f0,ae a0.f1,.slice af a0.f2.length ag]] [Ro bI af ag a0.f2] (fun v B=>v = .bool r∧B = []):=by
 refine aj Tryz.func54 rfl rfl ?_
 unfold fB.f at H
 refine aP (o' (bO (h:=fun s=>ad aW (h:=eA (ad aA (h:=l' (aO 1) ?_))))))
 obtain⟨r4,a8,H⟩:=ac H
 refine o' (da [] [0,1] (oW.ok a8) ?_)
 refine ad (bU rfl) (h:=S' ar ?_)
 obtain⟨q5,H,c7⟩:=ac H
 refine dy 5 [(1,aI s),(14,.bool q5)] [aL s 26 [ae a0.f0,ae a0.f1,.slice af a0.f2.length ag],Ro bI af ag a0.f2] ?_ fun junk=>?_
 ·rcases bD H with⟨E,H⟩|⟨E,H⟩
  ·refine ct 4 E (gJ E ?_)
   have h:=aN H;subst h
   exact dQ [1,0]
  refine aZ (aK E) aA (h:=z' (aK E) (aO 1) ?_)
  obtain⟨r7,C8,H⟩:=ac H
  refine fR (aK E) (da [] [0,1] (oW.ok C8) ?_)
  refine aZ (aK E) (bU rfl) (h:=fZ (aK E) ?_)
  have h:=aN H;subst h
  exact dQ [1,0]
 replace H:=c7
 refine S' ar ?_
 obtain⟨c9,a5,H⟩:=bi H
 refine cI 10 (St [(1,aI s),(25,.bool c9)] [aL s 26 [ae a0.f0,ae a0.f1,.slice af a0.f2.length ag],Ro bI af ag a0.f2]) ?_ ?_
 ·by_cases l : q5 = true
  ·refine ct 9 l (bY l (h:=ah ?_))
   have x_:=ik a5 l;exact bH [0,1]
  refine aZ (aK l) aA (h:=cn (aK l) (aO 0) (h:=gS (aK l) (ae (a0.f2.length : Int)) (cP Tryz.underlying24 rfl) (h:=aZ (aK l) aA (h:=cn (aK l) (aO 0) (h:=aZ (aK l) aA (h:=cn (aK l) (aO 0) (h:=aZ (aK l) (jt rfl rfl) (h:=aZ (aK l) (dt rfl rfl) (h:=fZ (aK l) ?_)))))))))
  refine ah ?_
  have x_:=ij a5 ((aK l));exact bH [0,1]
 rintro e ds As b0
 refine bA (SA.of_St b0 fun junk=>?_)
 rcases bD H with⟨a1,H⟩|⟨a1,H⟩
 ·refine aD rfl a1 (aP (ad aW (h:=cA ?_)))
  have h:=aN H;subst h
  exact dJ [] ⟨rfl,rfl⟩
 refine aE rfl a1 (ao (aa (ap (aP (ad aW (h:=bA ?_))))))
 obtain⟨c5,H,q⟩:=ac H
 refine bK (fun e ds As=>∃ (b9 : Unit),c5 = Out.go b9∧St [] [] e ds As) ?_ ?_
 ·refine aT (cl (fun k_ e ds As=>∃ (a : Int),fB.l0 a0 k_ a = some c5∧St [(1,aI s),(3,ae a)] [aL s 26 [ae a0.f0,ae a0.f1,.slice af a0.f2.length ag],Ro bI af ag a0.f2] e ds As) (k:=k) ⟨_,H,jQ [0,1]⟩ ?_)
  clear H
  rintro a6 e ds As ⟨a,H,b1⟩
  obtain _ | a6:=a6
  ·cases H
  rw [fB.l0] at H
  refine SA.of_St b1 fun junk=>ap (aP (ad ar (h:=ad aA (h:=bq (aO 0) (h:=bT (ae (a0.f2.length : Int)) (cP Tryz.underlying24 rfl) (h:=ad (cg rfl rfl) (h:=bA ?_)))))))
  rcases bD H with⟨a2,H⟩|⟨a2,H⟩
  ·refine aC rfl a2 (ao (aa (ap (aT (ap (aP (ad aA (h:=bq (aO 0) (h:=S' ar ?_)))))))))
   obtain⟨⟨b4,b5⟩,H⟩:=aS H
   refine bq (br (i:=a) Tryz.underlying24 ck rfl rfl (Src.ro (k:=1) rfl) b4 b5) (h:=l' (cf (enc:=cZ) (i:=a) (j:=a.toNat * 15) (m:=0) (sz:=15) (vs:=(bW (ba.mk ((rd a0.f2 a).f0) ((rd a0.f2 a).f1) ((rd a0.f2 a).f2) ((rd a0.f2 a).f3)))) Tryz.underlying55 rfl ck rfl rfl rfl (Src.ro (k:=1) rfl) b4 b5 (fun _ _ h=>h) rfl) ?_)
   obtain⟨gf,a7,H⟩:=ac H
   refine o' (da [] [0,1] (kA.ok a7) ?_)
   refine ad (bU rfl) (h:=bA ?_)
   rcases bD H with⟨a3,H⟩|⟨a3,H⟩
   ·refine aD rfl a3 (aP (ad aW (h:=cA (aY (aF (aF (aY (aF (aF ?_)))))))))
    have h:=aN H;subst h
    have hb_:=dz q
    have hr_:=Option.some.inj hb_
    clear hb_
    subst hr_
    exact dJ [] ⟨rfl,rfl⟩
   refine aE rfl a3 (ao (aa (aP (ad ar (h:=ad aA (h:=l' (aO 0) ?_))))))
   obtain⟨c8,H⟩:=aS H
   refine bT (ae (a.tmod a0.f0)) (nj rfl rfl c8) (h:=ad (eN rfl rfl) (h:=S' ar ?_))
   obtain⟨b8,H,c6⟩:=ac H
   refine dy 9 [(1,aI s),(3,ae a),(54,.bool b8)] [aL s 26 [ae a0.f0,ae a0.f1,.slice af a0.f2.length ag],Ro bI af ag a0.f2] ?_ fun junk=>?_
   ·rcases bD H with⟨o,H⟩|⟨o,H⟩
    ·refine aZ (ai o) aA (h:=cn (ai o) (aO 0) (h:=aZ (ai o) ar (h:=Y' (ai o) (cV rfl rfl) ?_)))
     obtain⟨⟨b6,b7⟩,H⟩:=aS H
     refine cn (ai o) (br (i:=i64.wrap (a - 1)) Tryz.underlying24 ck rfl rfl (Src.ro (k:=1) rfl) b6 b7) (h:=gS (ai o) (.pointer (some ((el af ((i64.wrap (a - 1)).toNat * 15)).add 4))) (lL (el af ((i64.wrap (a - 1)).toNat * 15)) 0 4) (h:=cn (ai o) (bE (enc:=cZ) (i:=i64.wrap (a - 1)) (j:=(i64.wrap (a - 1)).toNat * 15) (m:=4) (sz:=15) Tryz.underlying5 rfl rfl rfl rfl (Src.ro (k:=1) rfl) b6 b7 (fun _ _ h=>h) rfl) (h:=aZ (ai o) (bk rfl rfl) (h:=gJ (ai o) ?_))))
     have h:=aN H;subst h
     exact dQ [0,1]
    refine ct 8 (al o) (fZ (al o) ?_)
    have h:=aN H;subst h
    exact dQ [0,1]
   replace H:=c6
   refine ad aW (h:=bA (ap (ap ?_)))
   obtain⟨d0,H,R⟩:=ac H
   refine bK (St [(1,aI s),(3,ae a),(82,.bool d0)] [aL s 26 [ae a0.f0,ae a0.f1,.slice af a0.f2.length ag],Ro bI af ag a0.f2]) ?_ ?_
   ·refine fg (dC 0 28) [0,1] [1] fun _ _ _ _ _ sH dd pk=>?_
    refine bf 0 rfl sH aA (h:=bN 1 rfl sH (aO 0) (h:=T' 2 rfl sH ar ?_))
    obtain⟨⟨S,U⟩,H⟩:=aS H
    refine bN 3 rfl sH (br (i:=a) Tryz.underlying24 ck rfl rfl (Src.ro (k:=1) rfl) S U) (h:=kQ (.pointer (some ((el af (a.toNat * 15)).add 4))) 4 rfl sH (lL (el af (a.toNat * 15)) 0 4) (h:=bN 5 rfl sH (bE (enc:=cZ) (i:=a) (j:=a.toNat * 15) (m:=4) (sz:=15) Tryz.underlying5 rfl rfl rfl rfl (Src.ro (k:=1) rfl) S U (fun _ _ h=>h) rfl) (h:=bf 6 rfl sH (bk rfl rfl) (h:=bf 7 rfl sH ar (h:=kQ (.bool (decide ((decide (((rd a0.f2 a).f2) = 0)) ≠ b8))) 8 rfl sH (mR Tryz.underlying4 rfl rfl) (h:=T' 9 rfl sH ar ?_))))))
    rcases bD H with⟨d,H⟩|⟨d,H⟩
    ·refine bM 10 rfl (ai d) (bM 11 rfl (ai d) (cK 12 rfl (cK 13 rfl (cK 14 rfl (cK 15 rfl (cK 16 rfl (cK 17 rfl (cK 18 rfl (cK 19 rfl ?_)))))))))
     refine cK 20 rfl (cK 21 rfl (cK 22 rfl (cK 23 rfl (cK 24 rfl (cK 25 rfl (bM 26 rfl (ai d) (bN 27 rfl sH (VR.ofV (bR rfl (ai d) rfl)) (h:=aV dd sH (aH (by kernel_rfl) ?_)))))))))
     have h:=aN H;subst h
     exact bH [0,1]
    refine cU 10 rfl (al d) sH ar (h:=kT 11 rfl (al d) sH ar ?_)
    rcases bD H with⟨b,H⟩|⟨b,H⟩
    ·refine cU 12 rfl b sH aA (h:=cH 13 rfl b sH (aO 0) (h:=kT 14 rfl b sH ar ?_))
     obtain⟨⟨Y,Z⟩,H⟩:=aS H
     refine cH 15 rfl b sH (br (i:=a) Tryz.underlying24 ck rfl rfl (Src.ro (k:=1) rfl) Y Z) (h:=ib (.pointer (some ((el af (a.toNat * 15)).add 5))) 16 rfl b sH (lL (el af (a.toNat * 15)) 0 5) (h:=cH 17 rfl b sH (cf (enc:=cZ) (i:=a) (j:=a.toNat * 15) (m:=5) (sz:=15) (vs:=(bF ((rd a0.f2 a).f3))) Tryz.underlying28 rfl mf rfl rfl rfl (Src.ro (k:=1) rfl) Y Z (fun _ _ h=>h) rfl) (h:=cU 18 rfl b sH aA (h:=cH 19 rfl b sH (aO 0) (h:=cU 20 rfl b sH ar (h:=kT 21 rfl b sH (cV rfl rfl) ?_))))))
     obtain⟨⟨F,I⟩,H⟩:=aS H
     refine cH 22 rfl b sH (br (i:=i64.wrap (a - 1)) Tryz.underlying24 ck rfl rfl (Src.ro (k:=1) rfl) F I) (h:=ib (.pointer (some ((el af ((i64.wrap (a - 1)).toNat * 15)).add 5))) 23 rfl b sH (lL (el af ((i64.wrap (a - 1)).toNat * 15)) 0 5) (h:=cH 24 rfl b sH (cf (enc:=cZ) (i:=i64.wrap (a - 1)) (j:=(i64.wrap (a - 1)).toNat * 15) (m:=5) (sz:=15) (vs:=(bF ((rd a0.f2 (i64.wrap (a - 1))).f3))) Tryz.underlying28 rfl mf rfl rfl rfl (Src.ro (k:=1) rfl) F I (fun _ _ h=>h) rfl) (h:=ib (.bool (decide (((rd a0.f2 a).f3) ≠ ((rd a0.f2 (i64.wrap (a - 1))).f3)))) 25 rfl b sH (jU (xs:=(bF ((rd a0.f2 a).f3))) (ys:=(bF ((rd a0.f2 (i64.wrap (a - 1))).f3))) (r:=(((((rd a0.f2 a).f3).f0) == (((rd a0.f2 (i64.wrap (a - 1))).f3).f0)) && (((((rd a0.f2 a).f3).f1) == (((rd a0.f2 (i64.wrap (a - 1))).f3).f1)) && (((((rd a0.f2 a).f3).f2) == (((rd a0.f2 (i64.wrap (a - 1))).f3).f2)) && (((((rd a0.f2 a).f3).f3) == (((rd a0.f2 (i64.wrap (a - 1))).f3).f3)) && (((((rd a0.f2 a).f3).f4) == (((rd a0.f2 (i64.wrap (a - 1))).f3).f4)) && (((((rd a0.f2 a).f3).f5) == (((rd a0.f2 (i64.wrap (a - 1))).f3).f5)) && (((((rd a0.f2 a).f3).f6) == (((rd a0.f2 (i64.wrap (a - 1))).f3).f6)) && (((((rd a0.f2 a).f3).f7) == (((rd a0.f2 (i64.wrap (a - 1))).f3).f7)) && (((((rd a0.f2 a).f3).f8) == (((rd a0.f2 (i64.wrap (a - 1))).f3).f8)) && (((((rd a0.f2 a).f3).f9) == (((rd a0.f2 (i64.wrap (a - 1))).f3).f9)) && true))))))))))) (p:=((rd a0.f2 a).f3) = ((rd a0.f2 (i64.wrap (a - 1))).f3)) lh rfl rfl (by kernel_rfl) (lj (x:=((rd a0.f2 a).f3)) (y:=((rd a0.f2 (i64.wrap (a - 1))).f3)))) (h:=cH 26 rfl (al d) sH (VR.ofV (bR rfl (b) rfl)) (h:=bN 27 rfl sH (VR.ofV (bL rfl (al d) rfl)) (h:=aV dd sH (aH (by kernel_rfl) ?_)))))))
     have h:=aN H;subst h
     exact bH [0,1]
    refine bM 12 rfl (aK b) (bM 13 rfl (aK b) (bM 14 rfl (aK b) (bM 15 rfl (aK b) (bM 16 rfl (aK b) (bM 17 rfl (aK b) (bM 18 rfl (aK b) (bM 19 rfl (aK b) (bM 20 rfl (aK b) (bM 21 rfl (aK b) ?_)))))))))
    refine bM 22 rfl (aK b) (bM 23 rfl (aK b) (bM 24 rfl (aK b) (bM 25 rfl (aK b) (cH 26 rfl (al d) sH (VR.ofV (bL rfl (aK b) rfl)) (h:=bN 27 rfl sH (VR.ofV (bL rfl (al d) rfl)) (h:=aV dd sH (aH (by kernel_rfl) ?_)))))))
    have h:=aN H;subst h
    exact bH [0,1]
   rintro e ds As M
   clear H
   have H:=R
   clear R
   refine aa (SA.of_St M fun junk=>?_)
   rcases bD H with⟨u,H⟩|⟨u,H⟩
   ·refine aD rfl u (aP (ad aW (h:=cA (aY (aF (aF (aY (aF (aF ?_)))))))))
    have h:=aN H;subst h
    have hb_:=dz q
    have hr_:=Option.some.inj hb_
    clear hb_
    subst hr_
    exact dJ [] ⟨rfl,rfl⟩
   refine aE rfl u (ao (aa (ap ?_)))
   obtain⟨b3,H,D⟩:=ac H
   refine bK (St [(1,aI s),(3,ae a),(99,.bool b3)] [aL s 26 [ae a0.f0,ae a0.f1,.slice af a0.f2.length ag],Ro bI af ag a0.f2]) ?_ ?_
   ·refine fg (dC 0 17) [0,1] [1] fun _ _ _ _ _ sH dd pk=>?_
    refine bf 0 rfl sH aA (h:=bN 1 rfl sH (aO 0) (h:=T' 2 rfl sH ar ?_))
    obtain⟨⟨J,K⟩,H⟩:=aS H
    refine bN 3 rfl sH (br (i:=a) Tryz.underlying24 ck rfl rfl (Src.ro (k:=1) rfl) J K) (h:=kQ (.pointer (some ((el af (a.toNat * 15)).add 4))) 4 rfl sH (lL (el af (a.toNat * 15)) 0 4) (h:=bN 5 rfl sH (bE (enc:=cZ) (i:=a) (j:=a.toNat * 15) (m:=4) (sz:=15) Tryz.underlying5 rfl rfl rfl rfl (Src.ro (k:=1) rfl) J K (fun _ _ h=>h) rfl) (h:=bf 6 rfl sH (bk rfl rfl) (h:=T' 7 rfl sH ar ?_))))
    rcases bD H with⟨c,H⟩|⟨c,H⟩
    ·refine cU 8 rfl (ai c) sH ar (h:=cU 9 rfl (ai c) sH aA (h:=xT 10 rfl (ai c) sH (aO 0) ?_))
     obtain⟨a9,H⟩:=aS H
     refine ib (ae (a.tmod a0.f0)) 11 rfl (ai c) sH (nj rfl rfl a9) (h:=cU 12 rfl (ai c) sH aA (h:=cH 13 rfl (ai c) sH (aO 0) (h:=cU 14 rfl (ai c) sH (cV rfl rfl) (h:=cU 15 rfl (ai c) sH (bk rfl rfl) (h:=bN 16 rfl sH (VR.ofV (bR rfl (ai c) rfl)) (h:=aV dd sH (aH (by kernel_rfl) ?_)))))))
     have h:=aN H;subst h
     exact bH [0,1]
    refine bM 8 rfl (al c) (bM 9 rfl (al c) (bM 10 rfl (al c) (bM 11 rfl (al c) (bM 12 rfl (al c) (bM 13 rfl (al c) (bM 14 rfl (al c) (bM 15 rfl (al c) (bN 16 rfl sH (VR.ofV (bL rfl (al c) rfl)) (h:=aV dd sH ?_)))))))))
    refine aH (by kernel_rfl) ?_
    have h:=aN H;subst h
    exact bH [0,1]
   rintro e ds As N
   clear H
   have H:=D
   clear D
   refine aa (SA.of_St N fun junk=>?_)
   rcases bD H with⟨z,H⟩|⟨z,H⟩
   ·refine aD rfl z (aP (ad aW (h:=cD (aY (aF (aF (aY (aF (aF ?_)))))))))
    have h:=aN H;subst h
    have hb_:=dz q
    have hr_:=Option.some.inj hb_
    clear hb_
    subst hr_
    exact dJ [] ⟨rfl,rfl⟩
   refine aE rfl z (ao (aG (aa (ak (ad ar (h:=S' (bX rfl rfl) ?_))))))
   obtain⟨L,a4,H⟩:=bi H
   refine bT (ae L) (bu (v:=ae L) (congrArg (Value.int .i64) a4.symm)) (h:=ah ?_)
   exact aa ⟨a6,Nat.lt_succ_self _,_,H,eb [0,1]⟩
  refine aB rfl a2 (ci (aX (aX (cj ?_))))
  have h:=aN H;subst h
  exact aa ⟨(),rfl,eb []⟩
 rintro e ds As ⟨b9,ht,O⟩
 clear H
 subst ht
 replace q:=fi q
 have H:=q
 clear q
 refine aa (SA.of_St O fun junk=>aP (ad aW (h:=cD ?_)))
 have h:=aN H;subst h
 exact dJ [] ⟨rfl,rfl⟩


theorem BR.ok {a0 : bJ} {a1 : Int} {a2 : Int} {a3 : Bool} {r : Bool} (H : kX.f a0 a1 a2 a3 = some r) : dp Tryz.prog 55 #[.agg #[ae a0.f0,ae a0.f1,.slice af a0.f2.length ag],ae a1,ae a2,.bool a3] [Ro bI af ag a0.f2] (fun v B=>v = .bool r∧B = []):=by
 refine aj Tryz.func55 rfl rfl ?_
 unfold kX.f at H
 refine aP (o' (bO (h:=fun l=>ad aW (h:=cR (ad ar (h:=ad (dU rfl rfl) (h:=S' ar ?_)))))))
 obtain⟨y,o,H⟩:=bi H
 refine dy 5 [(2,ae a2),(3,.bool a3),(4,aI l),(16,.bool y)] [aL l 26 [ae a0.f0,ae a0.f1,.slice af a0.f2.length ag],Ro bI af ag a0.f2] ?_ fun junk=>?_
 ·by_cases d : a1 ≥ 0
  ·refine aZ (ai d) ar (h:=aZ (ai d) aA (h:=cn (ai d) (aO 1) (h:=aZ (ai d) (cg rfl rfl) (h:=bY (ai d) (h:=ah ?_)))))
   have x_:=fq o ((ai d));exact bH [1,0]
  refine ct 4 (al d) (ca (al d) (h:=ah ?_))
  have x_:=fp o ((al d));exact bH [1,0]
 refine S' ar ?_
 obtain⟨z,p,H⟩:=bi H
 refine dy 3 [(2,ae a2),(3,.bool a3),(4,aI l),(20,.bool z)] [aL l 26 [ae a0.f0,ae a0.f1,.slice af a0.f2.length ag],Ro bI af ag a0.f2] ?_ fun junk=>?_
 ·by_cases j : y = true
  ·refine aZ j ar (h:=aZ j (dU rfl rfl) (h:=bY j (h:=ah ?_)))
   have x_:=fq p j;exact bH [0,1]
  refine ct 2 (aK j) (ca (aK j) (h:=ah ?_))
  have x_:=fp p ((aK j));exact bH [0,1]
 refine S' ar ?_
 obtain⟨s,m,H⟩:=bi H
 refine dy 5 [(2,ae a2),(3,.bool a3),(4,aI l),(26,.bool s)] [aL l 26 [ae a0.f0,ae a0.f1,.slice af a0.f2.length ag],Ro bI af ag a0.f2] ?_ fun junk=>?_
 ·by_cases b : z = true
  ·refine aZ b ar (h:=aZ b aA (h:=cn b (aO 0) (h:=aZ b (cg rfl rfl) (h:=bY b (h:=ah ?_)))))
   have x_:=fq m b;exact bH [0,1]
  refine ct 4 (aK b) (ca (aK b) (h:=ah ?_))
  have x_:=fp m ((aK b));exact bH [0,1]
 refine S' ar ?_
 obtain⟨u,H,q⟩:=ac H
 refine dy 10 [(37,.bool u)] [] ?_ fun junk=>?_
 ·rcases bD H with⟨a,H⟩|⟨a,H⟩
  ·refine aZ a ar (h:=aZ a (bU rfl) (h:=Y' a ar ?_))
   rcases bD H with⟨c,H⟩|⟨c,H⟩
   ·refine ct 5 c (fR a (dB rfl (bR rfl (c) rfl) (gJ a ?_)))
    have h:=aN H;subst h
    exact dQ []
   refine aZ (aK c) ar (h:=aZ (aK c) aA (h:=cn (aK c) (aO 0) (h:=aZ (aK c) (cV rfl rfl) (h:=aZ (aK c) (bk rfl rfl) (h:=fR a (dB rfl (bL rfl (aK c) rfl) (gJ a ?_)))))))
   have h:=aN H;subst h
   exact dQ []
  refine ct 3 (aK a) (fY (fY (fY (fY (fY (ct 1 (aK a) (fZ (aK a) ?_)))))))
  have h:=aN H;subst h
  exact dQ []
 replace H:=q
 refine ad aW (h:=cD ?_)
 have h:=aN H;subst h
 exact dJ [] ⟨rfl,rfl⟩


theorem BO.ok {a0 : aJ} {r : Bool} (H : fc.f k a0 = some r) : dp Tryz.prog 15 #[.agg (am a0 af ag ay az au av aw ax).toArray] (co a0 af ag ay az au av aw ax) (fun v B=>v = .bool r∧B = []):=by
 refine aj Tryz.func15 rfl rfl ?_
 unfold fc.f at H
 refine aP (o' (bO (h:=fun l=>ad aW (h:=cR (ad aA (h:=bq (cx l 0 4 [ae a0.f0.f0,ae a0.f0.f1,.slice af a0.f0.f2.length ag]) (h:=o' (cC (h:=fun o=>o' (bj o 0 5 [ae a0.f0.f0,ae a0.f0.f1,.slice af a0.f0.f2.length ag] (h:=eA (l' (cx o 0 5 [ae a0.f0.f0,ae a0.f0.f1,.slice af a0.f0.f2.length ag]) ?_))))))))))))
 obtain⟨r9,e2,H⟩:=ac H
 refine o' (da [0] [0,1,2,3,4,5] (BQ.ok e2) ?_)
 refine ad (bU rfl) (h:=S' ar ?_)
 obtain⟨g5,H,f8⟩:=ac H
 refine dy 10 [(1,aI l),(3,aI o),(21,.bool g5)] (aL l 34 (am a0 af ag ay az au av aw ax)::(co a0 af ag ay az au av aw ax++[aL o 26 [ae a0.f0.f0,ae a0.f0.f1,.slice af a0.f0.f2.length ag]])) ?_ fun junk=>?_
 ·rcases bD H with⟨D,H⟩|⟨D,H⟩
  ·refine ct 9 D (gJ D ?_)
   have h:=aN H;subst h
   exact dQ [4,0,1,2,3,5]
  refine cn (aK D) (cx o 0 5 [ae a0.f0.f0,ae a0.f0.f1,.slice af a0.f0.f2.length ag]) (h:=aZ (aK D) aA (h:=cn (aK D) (aO 4) (h:=aZ (aK D) aA (h:=cn (aK D) (aO 4) (h:=aZ (aK D) aA (h:=z' (aK D) (aO 4) ?_))))))
  obtain⟨h0,g1,H⟩:=ac H
  refine fR (aK D) (da [0] [0,1,2,3,4,5] (BR.ok g1) ?_)
  refine aZ (aK D) (bU rfl) (h:=fZ (aK D) ?_)
  have h:=aN H;subst h
  exact dQ [4,0,1,2,3,5]
 replace H:=f8
 refine S' ar ?_
 obtain⟨e8,H,f9⟩:=ac H
 refine dy 13 [(1,aI l),(3,aI o),(35,.bool e8)] (aL l 34 (am a0 af ag ay az au av aw ax)::(co a0 af ag ay az au av aw ax++[aL o 26 [ae a0.f0.f0,ae a0.f0.f1,.slice af a0.f0.f2.length ag]])) ?_ fun junk=>?_
 ·rcases bD H with⟨u,H⟩|⟨u,H⟩
  ·refine ct 12 u (gJ u ?_)
   have h:=aN H;subst h
   exact dQ [0,1,2,3,4,5]
  refine cn (aK u) (cx o 0 5 [ae a0.f0.f0,ae a0.f0.f1,.slice af a0.f0.f2.length ag]) (h:=aZ (aK u) aA (h:=aZ (aK u) aA (h:=cn (aK u) (aO 0) (h:=aZ (aK u) aA (h:=aZ (aK u) aA (h:=cn (aK u) (aO 0) (h:=aZ (aK u) aA (h:=aZ (aK u) aA (h:=z' (aK u) (aO 0) ?_)))))))))
  obtain⟨h1,g2,H⟩:=ac H
  refine fR (aK u) (da [1] [0,1,2,3,4,5] (BR.ok g2) ?_)
  refine aZ (aK u) (bU rfl) (h:=fZ (aK u) ?_)
  have h:=aN H;subst h
  exact dQ [0,1,2,3,4,5]
 replace H:=f9
 refine S' ar ?_
 obtain⟨e9,d7,H⟩:=bi H
 refine dy 4 [(1,aI l),(3,aI o),(40,.bool e9)] (aL l 34 (am a0 af ag ay az au av aw ax)::(co a0 af ag ay az au av aw ax++[aL o 26 [ae a0.f0.f0,ae a0.f0.f1,.slice af a0.f0.f2.length ag]])) ?_ fun junk=>?_
 ·by_cases K : e8 = true
  ·refine ct 3 K (bY K (h:=ah ?_))
   have x_:=ik d7 K;exact bH [0,1,2,3,4,5]
  refine aZ (aK K) aA (h:=cn (aK K) (aO 0) (h:=aZ (aK K) (cg rfl rfl) (h:=ca (aK K) (h:=ah ?_))))
  have x_:=ij d7 ((aK K));exact bH [0,1,2,3,4,5]
 refine S' ar ?_
 obtain⟨f3,d8,H⟩:=bi H
 refine dy 6 [(1,aI l),(3,aI o),(47,.bool f3)] (aL l 34 (am a0 af ag ay az au av aw ax)::(co a0 af ag ay az au av aw ax++[aL o 26 [ae a0.f0.f0,ae a0.f0.f1,.slice af a0.f0.f2.length ag]])) ?_ fun junk=>?_
 ·by_cases F : e9 = true
  ·refine ct 5 F (bY F (h:=ah ?_))
   have x_:=ik d8 F;exact bH [0,1,2,3,4,5]
  refine aZ (aK F) aA (h:=cn (aK F) (aO 0) (h:=aZ (aK F) aA (h:=cn (aK F) (aO 0) (h:=aZ (aK F) (eN rfl rfl) (h:=ca (aK F) (h:=ah ?_))))))
  have x_:=ij d8 ((aK F));exact bH [0,1,2,3,4,5]
 refine S' ar ?_
 obtain⟨g6,d9,H⟩:=bi H
 refine dy 6 [(1,aI l),(3,aI o),(54,.bool g6)] (aL l 34 (am a0 af ag ay az au av aw ax)::(co a0 af ag ay az au av aw ax++[aL o 26 [ae a0.f0.f0,ae a0.f0.f1,.slice af a0.f0.f2.length ag]])) ?_ fun junk=>?_
 ·by_cases I : f3 = true
  ·refine ct 5 I (bY I (h:=ah ?_))
   have x_:=ik d9 I;exact bH [0,1,2,3,4,5]
  refine aZ (aK I) aA (h:=cn (aK I) (aO 0) (h:=aZ (aK I) aA (h:=cn (aK I) (aO 5) (h:=aZ (aK I) (dU rfl rfl) (h:=ca (aK I) (h:=ah ?_))))))
  have x_:=ij d9 ((aK I));exact bH [0,1,2,3,4,5]
 refine S' ar ?_
 obtain⟨g7,H,g0⟩:=ac H
 refine dy 5 [(1,aI l),(3,aI o),(60,.bool g7)] (aL l 34 (am a0 af ag ay az au av aw ax)::(co a0 af ag ay az au av aw ax++[aL o 26 [ae a0.f0.f0,ae a0.f0.f1,.slice af a0.f0.f2.length ag]])) ?_ fun junk=>?_
 ·rcases bD H with⟨L,H⟩|⟨L,H⟩
  ·refine ct 4 L (gJ L ?_)
   have h:=aN H;subst h
   exact dQ [0,1,2,3,4,5]
  refine aZ (aK L) aA (h:=z' (aK L) (cx l 6 0 (bF a0.f4)) ?_)
  obtain⟨oO,g3,H⟩:=ac H
  refine fR (aK L) (da [] [0,1,2,3,4,5] (qa.ok g3) ?_)
  refine aZ (aK L) (bU rfl) (h:=fZ (aK L) ?_)
  have h:=aN H;subst h
  exact dQ [0,1,2,3,4,5]
 replace H:=g0
 refine S' ar ?_
 obtain⟨g8,H,c7⟩:=ac H
 refine cI 6 (St [(1,aI l),(3,aI o),(67,.bool g8)] (aL l 34 (am a0 af ag ay az au av aw ax)::(co a0 af ag ay az au av aw ax++[aL o 26 [ae a0.f0.f0,ae a0.f0.f1,.slice af a0.f0.f2.length ag]]))) ?_ ?_
 ·rcases bD H with⟨J,H⟩|⟨J,H⟩
  ·refine ct 5 J (gJ J ?_)
   have h:=aN H;subst h
   exact dQ [0,1,2,3,4,5]
  refine aZ (aK J) aA (h:=aZ (aK J) aA (h:=z' (aK J) (cx l 29 0 (bF a0.f14.f4)) ?_))
  obtain⟨h3,g4,H⟩:=ac H
  refine fR (aK J) (da [] [0,1,2,3,4,5] (qa.ok g4) ?_)
  refine aZ (aK J) (bU rfl) (h:=fZ (aK J) ?_)
  have h:=aN H;subst h
  exact dQ [0,1,2,3,4,5]
 rintro e ds As e3
 clear H
 have H:=c7
 clear c7
 refine bA (SA.of_St e3 fun junk=>?_)
 rcases bD H with⟨d3,H⟩|⟨d3,H⟩
 ·refine aD rfl d3 (aP (ad aW (h:=cA ?_)))
  have h:=aN H;subst h
  exact dJ [] ⟨rfl,rfl⟩
 refine aE rfl d3 (ao (aa (ap (aP (ad aW (h:=bA ?_))))))
 obtain⟨f6,H,M⟩:=ac H
 refine bK (fun e ds As=>∃ (f5 : Unit),f6 = Out.go f5∧St [(1,aI l),(3,aI o)] (aL l 34 (am a0 af ag ay az au av aw ax)::(co a0 af ag ay az au av aw ax++[aL o 26 [ae a0.f0.f0,ae a0.f0.f1,.slice af a0.f0.f2.length ag]])) e ds As) ?_ ?_
 ·refine aT (cl (fun k_ e ds As=>∃ (c : Int),fc.l0 a0 k_ c = some f6∧St [(1,aI l),(3,aI o),(4,ae c)] (aL l 34 (am a0 af ag ay az au av aw ax)::(co a0 af ag ay az au av aw ax++[aL o 26 [ae a0.f0.f0,ae a0.f0.f1,.slice af a0.f0.f2.length ag]])) e ds As) (k:=k) ⟨_,H,jQ [0,1,2,3,4,5]⟩ ?_)
  clear H
  rintro e0 e ds As ⟨c,H,e4⟩
  obtain _ | e0:=e0
  ·cases H
  rw [fc.l0] at H
  refine SA.of_St e4 fun junk=>ap (aP (ad ar (h:=ad aA (h:=bq (aO 0) (h:=bT (ae (a0.f7.length : Int)) (cP Tryz.underlying29 rfl) (h:=ad (cg rfl rfl) (h:=bA ?_)))))))
  rcases bD H with⟨d4,H⟩|⟨d4,H⟩
  ·refine aC rfl d4 (ao (aa (ap (aT (ap ?_)))))
   obtain⟨g9,H,c8⟩:=ac H
   refine bK (St [(1,aI l),(3,aI o),(4,ae c),(108,.bool g9)] (aL l 34 (am a0 af ag ay az au av aw ax)::(co a0 af ag ay az au av aw ax++[aL o 26 [ae a0.f0.f0,ae a0.f0.f1,.slice af a0.f0.f2.length ag]]))) ?_ ?_
   ·refine fg (dC 0 34) (dC 0 6) (dC 1 4) fun _ _ _ _ _ sH dd pk=>?_
    refine bf 0 rfl sH aA (h:=bN 1 rfl sH (aO 0) (h:=T' 2 rfl sH ar ?_))
    obtain⟨⟨c9,d0⟩,H⟩:=aS H
    refine bN 3 rfl sH (br (i:=c) Tryz.underlying29 jm rfl rfl (Src.ro (k:=2) rfl) c9 d0) (h:=bN 4 rfl sH (bE (enc:=(fun x_ : Int=>[Value.int .i64 x_])) (i:=c) (j:=c.toNat * 1) (m:=0) (sz:=1) Tryz.underlying3 rfl rfl rfl rfl (Src.ro (k:=2) rfl) c9 d0 (fun _ _ h=>h) rfl) (h:=bf 5 rfl sH (cg rfl rfl) (h:=T' 6 rfl sH ar ?_)))
    rcases bD H with⟨b,H⟩|⟨b,H⟩
    ·refine bM 7 rfl (ai b) (bM 8 rfl (ai b) (bM 9 rfl (ai b) (bM 10 rfl (ai b) (bM 11 rfl (ai b) (bM 12 rfl (ai b) (bM 13 rfl (ai b) (bM 14 rfl (ai b) (bN 15 rfl sH (VR.ofV (bR rfl (ai b) rfl)) (h:=T' 16 rfl sH ar ?_)))))))))
     refine bM 17 rfl rfl (bM 18 rfl rfl (bM 19 rfl rfl (cK 20 rfl (cK 21 rfl (cK 22 rfl (cK 23 rfl (cK 24 rfl (cK 25 rfl (cK 26 rfl ?_)))))))))
     refine cK 27 rfl (cK 28 rfl (cK 29 rfl (cK 30 rfl (cK 31 rfl (bM 32 rfl rfl (bN 33 rfl sH (VR.ofV (bR rfl (rfl) rfl)) (h:=aV dd sH (aH (by kernel_rfl) ?_))))))))
     have h:=aN H;subst h
     exact bH [0,1,2,3,4,5]
    refine cU 7 rfl (al b) sH aA (h:=cH 8 rfl (al b) sH (aO 0) (h:=kT 9 rfl (al b) sH ar ?_))
    obtain⟨⟨d1,d2⟩,H⟩:=aS H
    refine cH 10 rfl (al b) sH (br (i:=c) Tryz.underlying29 jm rfl rfl (Src.ro (k:=2) rfl) d1 d2) (h:=cH 11 rfl (al b) sH (bE (enc:=(fun x_ : Int=>[Value.int .i64 x_])) (i:=c) (j:=c.toNat * 1) (m:=0) (sz:=1) Tryz.underlying3 rfl rfl rfl rfl (Src.ro (k:=2) rfl) d1 d2 (fun _ _ h=>h) rfl) (h:=cU 12 rfl (al b) sH aA (h:=cH 13 rfl (al b) sH (aO 5) (h:=cU 14 rfl (al b) sH (dU rfl rfl) (h:=bN 15 rfl sH (VR.ofV (bL rfl (al b) rfl)) (h:=T' 16 rfl sH ar ?_))))))
    rcases bD H with⟨d,H⟩|⟨d,H⟩
    ·refine bM 17 rfl (ai d) (bM 18 rfl (ai d) (bM 19 rfl (ai d) (cK 20 rfl (cK 21 rfl (cK 22 rfl (cK 23 rfl (cK 24 rfl (cK 25 rfl (cK 26 rfl ?_)))))))))
     refine cK 27 rfl (cK 28 rfl (cK 29 rfl (cK 30 rfl (cK 31 rfl (bM 32 rfl (ai d) (bN 33 rfl sH (VR.ofV (bR rfl (ai d) rfl)) (h:=aV dd sH (aH (by kernel_rfl) ?_))))))))
     have h:=aN H;subst h
     exact bH [0,1,2,3,4,5]
    refine cU 17 rfl (al d) sH ar (h:=cU 18 rfl (al d) sH (eN rfl rfl) (h:=kT 19 rfl (al d) sH ar ?_))
    rcases bD H with⟨a,H⟩|⟨a,H⟩
    ·refine cU 20 rfl (ai a) sH aA (h:=cH 21 rfl (ai a) sH (aO 0) (h:=kT 22 rfl (ai a) sH ar ?_))
     obtain⟨⟨a4,a5⟩,H⟩:=aS H
     refine cH 23 rfl (ai a) sH (br (i:=c) Tryz.underlying29 jm rfl rfl (Src.ro (k:=2) rfl) a4 a5) (h:=cH 24 rfl (ai a) sH (bE (enc:=(fun x_ : Int=>[Value.int .i64 x_])) (i:=c) (j:=c.toNat * 1) (m:=0) (sz:=1) Tryz.underlying3 rfl rfl rfl rfl (Src.ro (k:=2) rfl) a4 a5 (fun _ _ h=>h) rfl) (h:=cU 25 rfl (ai a) sH aA (h:=cH 26 rfl (ai a) sH (aO 0) (h:=cU 27 rfl (ai a) sH ar (h:=kT 28 rfl (ai a) sH (cV rfl rfl) ?_)))))
     obtain⟨⟨a6,a7⟩,H⟩:=aS H
     refine cH 29 rfl (ai a) sH (br (i:=i64.wrap (c - 1)) Tryz.underlying29 jm rfl rfl (Src.ro (k:=2) rfl) a6 a7) (h:=cH 30 rfl (ai a) sH (bE (enc:=(fun x_ : Int=>[Value.int .i64 x_])) (i:=i64.wrap (c - 1)) (j:=(i64.wrap (c - 1)).toNat * 1) (m:=0) (sz:=1) Tryz.underlying3 rfl rfl rfl rfl (Src.ro (k:=2) rfl) a6 a7 (fun _ _ h=>h) rfl) (h:=cU 31 rfl (ai a) sH (gF rfl rfl) (h:=cH 32 rfl (al d) sH (VR.ofV (bR rfl (ai a) rfl)) (h:=bN 33 rfl sH (VR.ofV (bL rfl (al d) rfl)) (h:=aV dd sH (aH (by kernel_rfl) ?_))))))
     have h:=aN H;subst h
     exact bH [0,1,2,3,4,5]
    refine bM 20 rfl (al a) (bM 21 rfl (al a) (bM 22 rfl (al a) (bM 23 rfl (al a) (bM 24 rfl (al a) (bM 25 rfl (al a) (bM 26 rfl (al a) (bM 27 rfl (al a) (bM 28 rfl (al a) (bM 29 rfl (al a) ?_)))))))))
    refine bM 30 rfl (al a) (bM 31 rfl (al a) (cH 32 rfl (al d) sH (VR.ofV (bL rfl (al a) rfl)) (h:=bN 33 rfl sH (VR.ofV (bL rfl (al d) rfl)) (h:=aV dd sH (aH (by kernel_rfl) ?_)))))
    have h:=aN H;subst h
    exact bH [0,1,2,3,4,5]
   rintro e ds As b8
   clear H
   have H:=c8
   clear c8
   refine aa (SA.of_St b8 fun junk=>?_)
   rcases bD H with⟨N,H⟩|⟨N,H⟩
   ·refine aD rfl N (aP (ad aW (h:=cD (aY (aF (aF (aY (aF (aF ?_)))))))))
    have h:=aN H;subst h
    have hb_:=dz M
    have hr_:=Option.some.inj hb_
    clear hb_
    subst hr_
    exact dJ [] ⟨rfl,rfl⟩
   refine aE rfl N (ao (aG (aa (ak (ad ar (h:=S' (bX rfl rfl) ?_))))))
   obtain⟨b0,d5,H⟩:=bi H
   refine bT (ae b0) (bu (v:=ae b0) (congrArg (Value.int .i64) d5.symm)) (h:=ah ?_)
   exact aa ⟨e0,Nat.lt_succ_self _,_,H,eb [0,1,2,3,4,5]⟩
  refine aB rfl d4 (ci (aX (aX (cj ?_))))
  have h:=aN H;subst h
  exact aa ⟨(),rfl,eb [0,1,2,3,4,5]⟩
 rintro e ds As ⟨f5,ht,b9⟩
 clear H
 subst ht
 replace M:=fi M
 have H:=M
 clear M
 refine aa (SA.of_St b9 fun junk=>ap (aP (ad aA (h:=bq (aO 0) (h:=bT (ae (a0.f17.length : Int)) (cP Tryz.underlying32 rfl) (h:=ad (eN rfl rfl) (h:=bA ?_)))))))
 rcases bD H with⟨O,H⟩|⟨O,H⟩
 ·refine aC rfl O (aP (ad aW (h:=cA ?_)))
  have h:=aN H;subst h
  exact dJ [] ⟨rfl,rfl⟩
 refine aB rfl O (ao (aa (ap (aP (ad aW (h:=bA ?_))))))
 obtain⟨b6,H,E⟩:=ac H
 refine bK (fun e ds As=>∃ (b4 : Unit),b6 = Out.go b4∧St [(1,aI l),(3,aI o)] (aL l 34 (am a0 af ag ay az au av aw ax)::(co a0 af ag ay az au av aw ax++[aL o 26 [ae a0.f0.f0,ae a0.f0.f1,.slice af a0.f0.f2.length ag]])) e ds As) ?_ ?_
 ·refine aT (cl (fun k_ e ds As=>∃ (z : Int),fc.l1 a0 k_ z = some b6∧St [(1,aI l),(3,aI o),(5,ae z)] (aL l 34 (am a0 af ag ay az au av aw ax)::(co a0 af ag ay az au av aw ax++[aL o 26 [ae a0.f0.f0,ae a0.f0.f1,.slice af a0.f0.f2.length ag]])) e ds As) (k:=k) ⟨_,H,jQ [0,1,2,3,4,5]⟩ ?_)
  clear H
  rintro Y e ds As ⟨z,H,c5⟩
  obtain _ | Y:=Y
  ·cases H
  rw [fc.l1] at H
  refine SA.of_St c5 fun junk=>ap (aP (ad ar (h:=ad aA (h:=bq (aO 0) (h:=bT (ae (a0.f17.length : Int)) (cP Tryz.underlying32 rfl) (h:=ad (cg rfl rfl) (h:=bA ?_)))))))
  rcases bD H with⟨R,H⟩|⟨R,H⟩
  ·refine aC rfl R (ao (aa (ap (aT (aP (ad aA (h:=bq (aO 0) (h:=S' ar ?_))))))))
   obtain⟨⟨a8,a9⟩,H⟩:=aS H
   refine bq (br (i:=z) Tryz.underlying32 jg rfl rfl (Src.ro (k:=4) rfl) a8 a9) (h:=bq (bE (enc:=(fun x_ : Int=>[Value.int .i32 x_])) (i:=z) (j:=z.toNat * 1) (m:=0) (sz:=1) Tryz.underlying21 rfl rfl rfl rfl (Src.ro (k:=4) rfl) a8 a9 (fun _ _ h=>h) rfl) (h:=ad (cg rfl rfl) (h:=bA ?_)))
   rcases bD H with⟨S,H⟩|⟨S,H⟩
   ·refine aC rfl S (aP (ad aW (h:=cD (aY (aF (aF (aY (aF (aF ?_)))))))))
    have h:=aN H;subst h
    have hb_:=dz E
    have hr_:=Option.some.inj hb_
    clear hb_
    subst hr_
    exact dJ [] ⟨rfl,rfl⟩
   refine aB rfl S (ao (aG (aa (ak (ad ar (h:=S' (bX rfl rfl) ?_))))))
   obtain⟨b1,d6,H⟩:=bi H
   refine bT (ae b1) (bu (v:=ae b1) (congrArg (Value.int .i64) d6.symm)) (h:=ah ?_)
   exact aa ⟨Y,Nat.lt_succ_self _,_,H,eb [0,1,2,3,4,5]⟩
  refine aB rfl R (ci (aX (aX (cj ?_))))
  have h:=aN H;subst h
  exact aa ⟨(),rfl,eb [0,1,2,3,4,5]⟩
 rintro e ds As ⟨b4,ht,c6⟩
 clear H
 subst ht
 replace E:=fi E
 have H:=E
 clear E
 refine aa (SA.of_St c6 fun junk=>ap (aP (ad aA (h:=bq (aO 0) (h:=bA ?_)))))
 rcases bD H with⟨U,H⟩|⟨U,H⟩
 ·refine aD rfl U (aP (ad aA (h:=l' (cx l 40 0 [ae a0.f16.f0,ae a0.f16.f1,.slice au a0.f16.f2.length av]) ?_)))
  obtain⟨e7,e1,H⟩:=ac H
  refine o' (da [3] [0,1,2,3,4,5] (BQ.ok e1) ?_)
  refine S' ar ?_
  obtain⟨b2,Z,H⟩:=bi H
  refine dy 7 [(1,aI l),(3,aI o),(138,.bool b2)] (aL l 34 (am a0 af ag ay az au av aw ax)::(co a0 af ag ay az au av aw ax++[aL o 26 [ae a0.f0.f0,ae a0.f0.f1,.slice af a0.f0.f2.length ag]])) ?_ fun junk=>?_
  ·by_cases p : e7 = true
   ·refine aZ p aA (h:=aZ p aA (h:=cn p (aO 0) (h:=aZ p aA (h:=cn p (aO 5) (h:=aZ p (bk rfl rfl) (h:=bY p (h:=ah ?_)))))))
    have x_:=fq Z p;exact bH [0,1,2,3,4,5]
   refine ct 6 (aK p) (ca (aK p) (h:=ah ?_))
   have x_:=fp Z ((aK p));exact bH [0,1,2,3,4,5]
  refine S' ar ?_
  obtain⟨e5,a1,H⟩:=bi H
  refine dy 7 [(146,.bool e5)] [] ?_ fun junk=>?_
  ·by_cases q : b2 = true
   ·refine aZ q aA (h:=aZ q aA (h:=cn q (aO 0) (h:=aZ q aA (h:=cn q (aO 5) (h:=aZ q (bk rfl rfl) (h:=bY q (h:=ah ?_)))))))
    have x_:=fq a1 q;exact bH []
   refine ct 6 (aK q) (ca (aK q) (h:=ah ?_))
   have x_:=fp a1 ((aK q));exact bH []
  refine ad aW (h:=cA ?_)
  have h:=aN H;subst h
  exact dJ [] ⟨rfl,rfl⟩
 refine aE rfl U (ao (aa (aP (ad aA (h:=ad aA (h:=bq (aO 0) (h:=ad (bk rfl rfl) (h:=S' ar ?_))))))))
 obtain⟨b3,a2,H⟩:=bi H
 refine dy 5 [(1,aI l),(156,.bool b3)] (eD l a0 af ag ay az au av aw ax) ?_ fun junk=>?_
 ·by_cases y : a0.f16.f0 = 0
  ·refine aZ (ai y) aA (h:=aZ (ai y) aA (h:=cn (ai y) (aO 0) (h:=aZ (ai y) (bk rfl rfl) (h:=bY (ai y) (h:=ah ?_)))))
   have x_:=fq a2 ((ai y));exact bH [0,1,2,3,4]
  refine ct 4 (al y) (ca (al y) (h:=ah ?_))
  have x_:=fp a2 ((al y));exact bH [0,1,2,3,4]
 refine S' ar ?_
 obtain⟨e6,a3,H⟩:=bi H
 refine dy 6 [(163,.bool e6)] [] ?_ fun junk=>?_
 ·by_cases s : b3 = true
  ·refine aZ s aA (h:=aZ s aA (h:=cn s (aO 0) (h:=gS s (ae (a0.f16.f2.length : Int)) (cP Tryz.underlying24 rfl) (h:=aZ s (bk rfl rfl) (h:=bY s (h:=ah ?_))))))
   have x_:=fq a3 s;exact bH []
  refine ct 5 (aK s) (ca (aK s) (h:=ah ?_))
  have x_:=fp a3 ((aK s));exact bH []
 refine ad aW (h:=cD ?_)
 have h:=aN H;subst h
 exact dJ [] ⟨rfl,rfl⟩


theorem BS.ok {a0 : bJ} {r : bJ} (H : hM.f a0 = some r) : dp Tryz.prog 65 #[.agg #[ae a0.f0,ae a0.f1,.slice af a0.f2.length ag]] [Ro bI af ag a0.f2] (fun v B=>∃ aQ aR,v = .agg #[ae r.f0,ae r.f1,.slice aQ r.f2.length aR]∧B = [Buf bI 55 aQ aR r.f2]):=by
 refine aj Tryz.func65 rfl rfl ?_
 unfold hM.f at H
 refine aP (o' (bO (h:=fun j=>o' (cC (h:=fun l=>cR (o' (gD (kd:=bI) (zv:=(.agg (bW lu).toArray)) (sz:=15) (cells:=[]) (xs:=([] : (List ba))) rfl Tryz.underlying24 jF ck rfl rfl rfl (by kernel_rfl) rfl rfl (dR cZ (fun _ _=>rfl) (by kernel_rfl)) fun m=>ad aA (h:=l' (aO 1) ?_))))))))
 obtain⟨o,H⟩:=aS H
 obtain⟨n12,d,H⟩:=bi H
 refine o' (gm (k:=3) (A:=some ⟨m,0,none⟩) (c:=0) (xs:=([] : (List ba))) (ys:=a0.f2) n12 d rfl Tryz.underlying24 mD rfl rfl rfl rfl rfl (nk.slice Tryz.underlying24 (Src.ro (k:=0) rfl)) (by omega) (by omega) fun a b=>ad aA (h:=o' (cJ 1 [.slice a n12.length b] (h:=(cR (bq (cx j 0 1 [ae a0.f0,ae a0.f1,.slice a n12.length b]) (h:=o' (bj l 0 2 [ae a0.f0,ae a0.f1,.slice a n12.length b] (h:=cD ?_)))))))))
 have h:=aN H;subst h
 exact gi (rs:=[.cell 2 26]) (vs:=[.agg #[ae a0.f0,ae a0.f1,.slice a n12.length b]]) [Buf bI 55 a b n12] rfl ⟨RV.cell (k:=2) rfl rfl Tryz.underlying26 rfl uA,trivial⟩ rfl (fk [3]) ⟨a,b,rfl,rfl⟩


theorem En.ok {a0 : aJ} {r : aJ} (H : lN.f a0 = some r) : dp Tryz.prog 19 #[.agg (am a0 af ag ay az au av aw ax).toArray] (co a0 af ag ay az au av aw ax) (fun v B=>∃ aQ aR bv bx bo bp bw bz,v = .agg (am r aQ aR bv bx bo bp bw bz).toArray∧B = (bn r aQ aR bv bx bo bp bw bz)):=by
 refine aj Tryz.func19 rfl rfl ?_
 unfold lN.f at H
 refine aP (o' (bO (h:=fun D=>o' (cC (h:=fun M=>bA (ap ?_))))))
 refine fg [0,1,3,4,6] (dC 0 5) [0,1,2,3,5] fun _ _ _ _ _ sH dd pk=>?_
 refine bf 0 rfl sH aA (h:=bN 1 rfl sH (cx D 0 4 [ae a0.f0.f0,ae a0.f0.f1,.slice af a0.f0.f2.length ag]) (h:=bf 3 rfl sH aA (h:=r' 4 rfl sH (cx D 40 4 [ae a0.f16.f0,ae a0.f16.f1,.slice au a0.f16.f2.length av]) ?_)))
 obtain⟨a,I,H⟩:=ac H
 refine dT 2 rfl dd (gy [0] [0,1,2,3,4] (BS.ok I) fun d o=>?_)
 refine T' 6 rfl sH aA ?_
 obtain⟨b,J,H⟩:=ac H
 refine dT 5 rfl dd (gy [3] [0,1,2,3,4,5] (BS.ok J) fun j p=>?_)
 refine aV dd sH (eG 7 rfl (cJ 4 [ae a.f0,ae a.f1,.slice d a.f2.length o] (h:=(cd 8 rfl aA (h:=eG 9 rfl (cJ 4 [ae b.f0,ae b.f1,.slice j b.f2.length p] (h:=(aH (by kernel_rfl) (aa (aP (o' (gD (kd:=(Kd.int .i64)) (zv:=(ae 0)) (sz:=1) (cells:=[]) (xs:=([] : (List Int))) rfl Tryz.underlying29 nu jm rfl rfl rfl (by kernel_rfl) rfl rfl (dR (fun x_ : Int=>[Value.int .i64 x_]) (fun _ _=>rfl) (by kernel_rfl)) fun K=>ad aA (h:=l' (aO 4) ?_)))))))))))))
 obtain⟨N,H⟩:=aS H
 obtain⟨s,E,H⟩:=bi H
 refine o' (gm (k:=12) (A:=some ⟨K,0,none⟩) (c:=0) (xs:=([] : (List Int))) (ys:=a0.f7) s E rfl Tryz.underlying29 pg rfl rfl rfl rfl rfl (nk.slice Tryz.underlying29 (Src.ro (k:=1) rfl)) (by omega) (by omega) fun m q=>ad aA (h:=o' (cJ 4 [.slice m s.length q] (h:=(bA (SA.of_St (l:=[(1,aI D),(2,aI M)]) (B:=[aL D 34 (am ({ a0 with f0:=a,f7:=s,f16:=b }) d o m q j p aw ax),Buf bI 55 d o a.f2,gL 3 m q s,Buf bI 55 j p b.f2,sT aw ax a0.f17,aL M 34 (am cB none 0 none 0 none 0 none 0)]) (St.mk1 (cO rfl (cO rfl dY)) (Gh.sel [4,6,12,5,3,11] (by kernel_rfl) (by kernel_rfl))) fun junk=>aP (o' (gD (kd:=(Kd.int .i32)) (zv:=(aM 0)) (sz:=1) (cells:=[]) (xs:=([] : (List Int))) rfl Tryz.underlying32 rL jg rfl rfl rfl (by kernel_rfl) rfl rfl (dR (fun x_ : Int=>[Value.int .i32 x_]) (fun _ _=>rfl) (by kernel_rfl)) fun L=>ad aA (h:=l' (aO 0) ?_)))))))))
 obtain⟨O,H⟩:=aS H
 obtain⟨z,F,H⟩:=bi H
 refine o' (gm (k:=6) (A:=some ⟨L,0,none⟩) (c:=0) (xs:=([] : (List Int))) (ys:=a0.f17) z F rfl Tryz.underlying32 tN rfl rfl rfl rfl rfl (nk.slice Tryz.underlying32 (Src.ro (k:=4) rfl)) (by omega) (by omega) fun u y=>ad aA (h:=o' (cJ 0 [.slice u z.length y] (h:=(cR (bq (cm 0) (h:=o' (bj M 0 5 (am ({ a0 with f0:=a,f7:=s,f16:=b,f17:=z }) d o m q j p u y) (h:=cD ?_)))))))))
 have h:=aN H;subst h
 exact gi (rs:=[.cell 2 34]) (vs:=[.agg (am ({ a0 with f0:=a,f7:=s,f16:=b,f17:=z }) d o m q j p u y).toArray]) [Buf bI 55 d o a.f2,gL 3 m q s,Buf bI 55 j p b.f2,lZ 21 u y z] rfl ⟨RV.cell (k:=5) rfl rfl Tryz.underlying34 rfl rH,trivial⟩ rfl (fk [1,2,3,6]) ⟨d,o,m,q,j,p,u,y,rfl,rfl⟩


theorem rO.ok {a0 : aJ} {r : aJ × Bool} (H : gl.f k a0 = some r) : dp Tryz.prog 98 #[.agg (am a0 af ag ay az au av aw ax).toArray] (co a0 af ag ay az au av aw ax) (fun v B=>∃ aQ aR bv bx bo bp bw bz,v = .tuple #[.agg (am r.1 aQ aR bv bx bo bp bw bz).toArray,.bool r.2]∧B = (bn r.1 aQ aR bv bx bo bp bw bz)):=by
 refine aj Tryz.func98 rfl rfl ?_
 unfold gl.f at H
 refine aP (o' (bO (h:=fun z=>o' (cC (h:=fun u=>ad aW (h:=eA (l' (cm 4) ?_)))))))
 obtain⟨D,s,H⟩:=ac H
 refine o' (da [0,1,2,3] [0,1,2,3,4,5] (BO.ok s) ?_)
 refine ad (bU rfl) (h:=bA ?_)
 rcases bD H with⟨a,H⟩|⟨a,H⟩
 ·refine aD rfl a (aP (bT (.agg (am cB none 0 none 0 none 0 none 0).toArray) dS (h:=o' (bj u 0 5 (am cB none 0 none 0 none 0 none 0) (h:=ad aW (h:=cA ?_))))))
  have h:=aN H;subst h
  exact lX [.cell 2 34,.tmp 3] ((Gh.nilBuf bI 55).trans ((Gh.nilBuf (Kd.int .i64) 3).trans ((Gh.nilBuf bI 55).trans ((Gh.nilBuf (Kd.int .i32) 21).trans (fk [6,7,8,9]))))) ⟨none,0,none,0,none,0,none,0,rfl,rfl⟩ ⟨cW 5,cX,trivial⟩
 refine aE rfl a (ao (aa (aP (l' (cm 4) ?_))))
 obtain⟨y,q,H⟩:=ac H
 refine o' (ef [0,1,2,3] [0,1,2,3,4,5] (En.ok q) fun b l c m d o j p=>?_)
 refine o' (bj u 0 9 (am y b l c m d o j p) (h:=ad aW (h:=cD ?_)))
 have h:=aN H;subst h
 exact dE [.cell 2 34,.tmp 3] [0,1,2,3] ⟨b,l,c,m,d,o,j,p,rfl,rfl⟩ ⟨cW 9,cX,trivial⟩


theorem Eo.ok {a0 : aJ} {a1 : Int} {r : aJ × Int} (H : pR.f k a0 a1 = some r) : dp Tryz.prog 40 #[.agg (am a0 af ag ay az au av aw ax).toArray,aM a1] (co a0 af ag ay az au av aw ax) (fun v B=>∃ aQ aR bv bx bo bp bw bz,v = .tuple #[.agg (am r.1 aQ aR bv bx bo bp bw bz).toArray,ae r.2]∧B = (bn r.1 aQ aR bv bx bo bp bw bz)):=by
 refine aj Tryz.func40 rfl rfl ?_
 unfold pR.f at H
 refine aP (o' (bO (h:=fun b5=>o' (cC (h:=fun b7=>ad aW (h:=cR (l' (cm 4) ?_)))))))
 obtain⟨r9,g3,H⟩:=ac H
 refine o' (ef [0,1,2,3] [0,1,2,3,4,5] (rO.ok g3) fun a9 b3 b0 b4 b1 b6 b2 b8=>?_)
 refine ad ar (h:=ad cw (h:=ad cw (h:=o' (bj b5 0 8 (am r9.1 a9 b3 b0 b4 b1 b6 b2 b8) (h:=ad aW (h:=eA (ad ar (h:=ad (bU rfl) (h:=bA ?_)))))))))
 rcases bD H with⟨e6,H⟩|⟨e6,H⟩
 ·refine aD rfl e6 (aP (bq (cm 8) (h:=o' (bj b7 0 9 (am r9.1 a9 b3 b0 b4 b1 b6 b2 b8) (h:=ad aW (h:=cA ?_))))))
  have h:=aN H;subst h
  exact dE [.cell 4 34,.tmp 5] [0,1,2,3] ⟨a9,b3,b0,b4,b1,b6,b2,b8,rfl,rfl⟩ ⟨cW 9,cX,trivial⟩
 refine aE rfl e6 (ao (aa (aP (S' ar ?_))))
 obtain⟨D,g2,H⟩:=ac H
 refine o' (da [] [0,1,2,3,4,5,6,7,8,9] (qT.ok g2) ?_)
 refine ad aW (h:=eA (ad ar (h:=ad (cg rfl rfl) (h:=bA ?_))))
 rcases bD H with⟨e7,H⟩|⟨e7,H⟩
 ·refine aC rfl e7 (aP (bq (cm 8) (h:=o' (bj b7 0 9 (am r9.1 a9 b3 b0 b4 b1 b6 b2 b8) (h:=ad aW (h:=cA ?_))))))
  have h:=aN H;subst h
  exact dE [.cell 4 34,.tmp 5] [0,1,2,3] ⟨a9,b3,b0,b4,b1,b6,b2,b8,rfl,rfl⟩ ⟨cW 9,cX,trivial⟩
 refine aB rfl e7 (ao (aa (ap (aP (ad ar (h:=ad (bk rfl rfl) (h:=bA ?_)))))))
 rcases bD H with⟨e8,H⟩|⟨e8,H⟩
 ·refine aC rfl e8 (ap (bQ 0 fun m6=>bQ 1 fun m7=>bQ 2 fun m8=>bQ 3 fun m9=>ak (S' ar ?_)))
  obtain⟨ou,j7,H⟩:=ac H
  refine o' (ef [8,0,1,2,3] [4,5,6,7,9] (lR.ok (bg:=b5) j7) fun g7 h1 g8 h3 g9 h4 h0 h5=>?_)
  refine cR (bq (cm 0) (h:=o' (bj b7 0 9 (am ou g7 h1 g8 h3 g9 h4 h0 h5) (h:=ad aW (h:=cA ?_)))))
  have h:=aN H;subst h
  exact dE [.cell 4 34,.tmp 5] [1,2,3,4] ⟨g7,h1,g8,h3,g9,h4,h0,h5,rfl,rfl⟩ ⟨cW 9,cX,trivial⟩
 refine aB rfl e8 (ao (aa (ap (aP (ad aA (h:=bq (aO 8) (h:=S' ar ?_)))))))
 obtain⟨k3,f5,H⟩:=bi H
 refine cI 3 (St [(1,aM a1),(2,aI b5),(4,aI b7),(7,ae D),(32,.bool k3)] (aL b5 34 (am r9.1 a9 b3 b0 b4 b1 b6 b2 b8)::(bn r9.1 a9 b3 b0 b4 b1 b6 b2 b8++[aL b7 34 (am cB none 0 none 0 none 0 none 0)]))) ?_ ?_
 ·by_cases c6 : r9.1.f3 = true
  ·refine aZ c6 aA (h:=cn c6 (aO 8) (h:=bY c6 (h:=ah ?_)))
   have x_:=fq f5 c6;exact bH [8,0,1,2,3,9]
  refine ct 2 (aK c6) (ca (aK c6) (h:=ah ?_))
  have x_:=fp f5 ((aK c6));exact bH [8,0,1,2,3,9]
 rintro e ds As g4
 refine bA (SA.of_St g4 fun junk=>?_)
 obtain⟨a8,H,e4⟩:=ac H
 refine bK (fun e ds As=>∃ (L : Nat),∃ (F : Option Addr) (M : Nat),∃ (I : Option Addr) (N : Nat),∃ (J : Option Addr) (O : Nat),∃ (K : Option Addr) (R : Nat),St [(1,aM a1),(2,aI L),(4,aI b7),(7,ae D)] (aL L 34 (am a8 F M I N J O K R)::(bn a8 F M I N J O K R++[aL b7 34 (am cB none 0 none 0 none 0 none 0)])) e ds As) ?_ ?_
 ·rcases bD H with⟨e9,H⟩|⟨e9,H⟩
  ·refine aD rfl e9 (aP (ad aA (h:=o' (cJ 0 [ae 0] (h:=(bA (bQ 1 fun n0=>bQ 2 fun n1=>bQ 3 fun n2=>bQ 4 fun n3=>ak ?_)))))))
   obtain⟨o1,j8,H⟩:=ac H
   refine o' (ef [0,1,2,3,4] [5] (io.ok (bg:=b5) j8) fun j3 j9 j4 k0 j5 k1 j6 k2=>?_)
   refine ah ?_
   have h:=aN H;subst h
   exact aa ⟨b5,j3,j9,j4,k0,j5,k1,j6,k2,eb [0,1,2,3,4,5]⟩
  refine aE rfl e9 (ao ?_)
  have h:=aN H;subst h
  exact aa ⟨b5,a9,b3,b0,b4,b1,b6,b2,b8,eb [0,1,2,3,4,5]⟩
 rintro e ds As ⟨L,F,M,I,N,J,O,K,R,g5⟩
 clear H
 have H:=e4
 clear e4
 refine aa (SA.of_St g5 fun junk=>aP (ad aA (h:=o' (cJ 0 [.bool false] (h:=(cR (ad aA (h:=ad aA (h:=bq (aO 0) (h:=S' (cV rfl rfl) ?_))))))))))
 obtain⟨n81,j0,H⟩:=bi H
 refine bT (ae n81) (bu (v:=ae n81) (congrArg (Value.int .i64) j0.symm)) (h:=eA (ad ar (h:=ad (bk rfl rfl) (h:=S' ar ?_))))
 obtain⟨k4,f6,H⟩:=bi H
 refine cI 5 (St [(1,aM a1),(2,aI L),(4,aI b7),(7,ae D),(8,ae n81),(47,.bool k4)] (aL L 34 (am ({ a8 with f3:=false }) F M I N J O K R)::(bn a8 F M I N J O K R++[aL b7 34 (am cB none 0 none 0 none 0 none 0)]))) ?_ ?_
 ·by_cases a7 : D = 2
  ·refine aZ (ai a7) aA (h:=cn (ai a7) (aO 0) (h:=aZ (ai a7) ar (h:=aZ (ai a7) (bk rfl rfl) (h:=bY (ai a7) (h:=ah ?_)))))
   have x_:=fq f6 ((ai a7));exact bH [0,1,2,3,4,5]
  refine ct 4 (al a7) (ca (al a7) (h:=ah ?_))
  have x_:=fp f6 ((al a7));exact bH [0,1,2,3,4,5]
 rintro e ds As g6
 refine bA (SA.of_St g6 fun junk=>?_)
 obtain⟨k5,H,b9⟩:=ac H
 refine bK (fun e ds As=>∃ (E : aJ × aJ),k5 = Out.go E∧∃ (c5 : Nat),∃ (c9 : Option Addr) (d3 : Nat),∃ (d0 : Option Addr) (d4 : Nat),∃ (d1 : Option Addr) (d5 : Nat),∃ (d2 : Option Addr) (d6 : Nat),∃ (u : Nat),∃ (S : Option Addr) (a2 : Nat),∃ (U : Option Addr) (a3 : Nat),∃ (Y : Option Addr) (a4 : Nat),∃ (Z : Option Addr) (a5 : Nat),St [(1,aM a1),(2,aI c5),(4,aI u),(7,ae D),(8,ae n81)] (aL c5 34 (am E.1 c9 d3 d0 d4 d1 d5 d2 d6)::(bn E.1 c9 d3 d0 d4 d1 d5 d2 d6++(cQ u E.2 S a2 U a3 Y a4 Z a5))) e ds As) ?_ ?_
 ·rcases bD H with⟨d7,H⟩|⟨d7,H⟩
  ·refine aD rfl d7 (ap (aP (ad aA (h:=bq (aO 0) (h:=ad (bU rfl) (h:=S' ar ?_))))))
   obtain⟨j1,e2,H⟩:=bi H
   refine cI 3 (St [(1,aM a1),(2,aI L),(4,aI b7),(7,ae D),(8,ae n81),(54,.bool j1)] (aL L 34 (am ({ a8 with f3:=false }) F M I N J O K R)::(bn a8 F M I N J O K R++[aL b7 34 (am cB none 0 none 0 none 0 none 0)]))) ?_ ?_
   ·by_cases a6 : (!a8.f8) = true
    ·refine ct 2 a6 (bY a6 (h:=ah ?_))
     have x_:=ik e2 a6;exact bH [0,1,2,3,4,5]
    refine aZ (aK a6) ar (h:=aZ (aK a6) (bk rfl rfl) (h:=ca (aK a6) (h:=ah ?_)))
    have x_:=ij e2 ((aK a6));exact bH [0,1,2,3,4,5]
   rintro e ds As f9
   refine bA (SA.of_St f9 fun junk=>?_)
   rcases bD H with⟨d8,H⟩|⟨d8,H⟩
   ·refine aD rfl d8 (aP (bq (cm 0) (h:=o' (bj b7 0 5 (am ({ a8 with f3:=false }) F M I N J O K R) (h:=ad aW (h:=cA (aF (aF ?_))))))))
    have h:=aN H;subst h
    have hb_:=dz b9
    have hr_:=Option.some.inj hb_
    clear hb_
    subst hr_
    exact dE [.cell 4 34,.tmp 5] [1,2,3,4] ⟨F,M,I,N,J,O,K,R,rfl,rfl⟩ ⟨cW 5,cX,trivial⟩
   refine aE rfl d8 (ao (aa (aP (ad aA (h:=o' (cJ 0 [ae 0] (h:=(bA (bQ 1 fun k6=>bQ 2 fun k7=>bQ 3 fun k8=>bQ 4 fun k9=>ak ?_)))))))))
   obtain⟨j2,i1,H⟩:=ac H
   refine o' (ef [0,1,2,3,4] [5] (io.ok (bg:=L) i1) fun h6 i5 h7 i6 h8 i7 h9 i8=>?_)
   refine ah ?_
   have h:=aN H;subst h
   exact aa ⟨(j2,cB),rfl,L,h6,i5,h7,i6,h8,i7,h9,i8,b7,none,0,none,0,none,0,none,0,St.mk1 (cO rfl (cO rfl (cO rfl (cO rfl (cO rfl dY))))) ((Gh.nilBuf bI 55).trans ((Gh.nilBuf (Kd.int .i64) 3).trans ((Gh.nilBuf bI 55).trans ((Gh.nilBuf (Kd.int .i32) 21).trans (fk [0,1,2,3,4,5,6,7,8,9])))))⟩
  refine aE rfl d7 (ao ?_)
  have h:=aN H;subst h
  exact aa ⟨(({ a8 with f3:=false }),cB),rfl,L,F,M,I,N,J,O,K,R,b7,none,0,none,0,none,0,none,0,St.mk1 (cO rfl (cO rfl (cO rfl (cO rfl (cO rfl dY))))) ((Gh.nilBuf bI 55).trans ((Gh.nilBuf (Kd.int .i64) 3).trans ((Gh.nilBuf bI 55).trans ((Gh.nilBuf (Kd.int .i32) 21).trans (fk [0,1,2,3,4,5,6,7,8,9])))))⟩
 rintro e ds As ⟨E,ht,c5,c9,d3,d0,d4,d1,d5,d2,d6,u,S,a2,U,a3,Y,a4,Z,a5,g0⟩
 clear H
 subst ht
 replace b9:=fi b9
 have H:=b9
 clear b9
 refine aa (SA.of_St g0 fun junk=>ap (aP (ad aA (h:=bq (aO 0) (h:=bA ?_)))))
 obtain⟨a,H,e1⟩:=ac H
 refine bK (fun e ds As=>∃ (y : Nat),∃ (c7 : Option Addr) (c8 : Nat),∃ (j : Option Addr) (p : Nat),∃ (m : Option Addr) (q : Nat),∃ (o : Option Addr) (s : Nat),St [(1,aM a1),(2,aI y),(4,aI u),(7,ae D),(8,ae n81)] (aL y 34 (am a c7 c8 j p m q o s)::(bn a c7 c8 j p m q o s++(cQ u E.2 S a2 U a3 Y a4 Z a5))) e ds As) ?_ ?_
 ·rcases bD H with⟨d9,H⟩|⟨d9,H⟩
  ·refine aD rfl d9 (bQ 1 fun l0=>bQ 2 fun l1=>bQ 3 fun l2=>bQ 4 fun l3=>bQ 6 fun l4=>bQ 7 fun l5=>bQ 8 fun l6=>bQ 9 fun l7=>ak ?_)
   refine ad aA (h:=bq (cx c5 0 0 [ae E.1.f0.f0,ae E.1.f0.f1,.slice c9 E.1.f0.f2.length d3]) (h:=ad aA (h:=bq (aO 0) (h:=ad aA (h:=bq (aO 0) (h:=ad ar (h:=ad aA (h:=l' (cx c5 6 0 (bF E.1.f4)) ?_))))))))
   obtain⟨e0,i2,H⟩:=ac H
   refine o' (gy [1] [0,2,3,4,5,6,7,8,9] (fy.ok i2) fun e3 e5=>?_)
   refine ad ar (h:=ad cw (h:=ad cw (h:=ad aA (h:=o' (cJ 2 [ae e0.1.f0,ae e0.1.f1,.slice e3 e0.1.f2.length e5] (h:=(ah ?_)))))))
   have h:=aN H;subst h
   exact aa ⟨c5,e3,e5,d0,d4,d1,d5,d2,d6,eb [2,0,3,4,5,6,7,8,9,10]⟩
  refine aE rfl d9 (ao ?_)
  have h:=aN H;subst h
  exact aa ⟨c5,c9,d3,d0,d4,d1,d5,d2,d6,eb [0,1,2,3,4,5,6,7,8,9]⟩
 rintro e ds As ⟨y,c7,c8,j,p,m,q,o,s,g1⟩
 clear H
 have H:=e1
 clear e1
 refine aa (SA.of_St g1 fun junk=>ap (bQ 1 fun l8=>bQ 2 fun l9=>bQ 3 fun m0=>bQ 4 fun m1=>bQ 6 fun m2=>bQ 7 fun m3=>bQ 8 fun m4=>?_))
 refine bQ 9 fun m5=>?_
 refine fg [0,1,2,3,4,5,6,7,8,9,10,13] [0] (dC 1 9) fun _ _ _ _ _ sH dd pk=>?_
 refine bf 0 rfl sH aA (h:=bN 1 rfl sH (cx y 0 0 [ae a.f0.f0,ae a.f0.f1,.slice c7 a.f0.f2.length c8]) (h:=bf 2 rfl sH aA (h:=bN 3 rfl sH (aO 0) (h:=bf 4 rfl sH aA (h:=bN 5 rfl sH (aO 0) (h:=bf 6 rfl sH aA (h:=bN 7 rfl sH (cx y 6 0 (bF a.f4)) (h:=bf 8 rfl sH ar (h:=T' 9 rfl sH aA ?_)))))))))
 refine r' 10 rfl sH (cx y 6 0 (bF a.f4)) ?_
 obtain⟨o0,i3,H⟩:=ac H
 refine dT 11 rfl dd (gy [] [0,1,2,3,4,5,6,7,8] (pI.ok i3) fun i0 i9=>?_)
 obtain⟨b,i4,H⟩:=ac H
 refine dT 12 rfl dd (gy [1,0] [2,3,4,5,6,7,8,9] (eT.ok (A4:=i0) (c4:=i9) i4) fun c d=>?_)
 refine T' 13 rfl sH ar ?_
 refine iF (rs:=[14,15]) dd (by kernel_rfl) (by decide) (bG ⟨_,rfl,(.no rfl),?_⟩ (bG ⟨_,rfl,(.no rfl),?_⟩ dl))
 ·refine id (dB (v:=.agg #[ae b.1.f0,ae b.1.f1,.slice c b.1.f2.length d]) rfl cw ?_)
  refine iF (rs:=[15,16]) dd (by kernel_rfl) (by decide) (bG ⟨_,rfl,(.no rfl),?_⟩ (bG ⟨_,rfl,(.no rfl),?_⟩ dl))
  ·refine id (dB (v:=ae b.2) rfl cw (dT 16 rfl dd (dB (v:=aI y) rfl (kw y 0 0) (aV dd sH (eG 17 rfl (cJ 0 [ae b.1.f0,ae b.1.f1,.slice c b.1.f2.length d] (h:=(aH (by kernel_rfl) (aa (aP (ad aA (h:=bq (aO 0) (h:=ad ar (h:=S' (bX rfl rfl) ?_))))))))))))))
   refine ad aA (h:=o' (cJ 0 [ae (i64.wrap (a.f2 + D))] (h:=(eA (ad aA (h:=bq (aO 0) (h:=ad ar (h:=ad (eN rfl rfl) (h:=bA (SA.of_St (l:=[(2,aI y),(4,aI u),(8,ae n81),(99,.bool (decide ((i64.wrap (a.f2 + D)) > n81)))]) (B:=(aL y 34 (am ({ a with f0:=b.1,f2:=(i64.wrap (a.f2 + D)) }) c d j p m q o s)::Buf bI 55 c d b.1.f2::gL 3 j p a.f7::Buf bI 55 m q a.f16.f2::lZ 21 o s a.f17::cQ u E.2 S a2 U a3 Y a4 Z a5)) (St.mk1 (cO rfl (cO rfl (cO rfl (cO rfl dY)))) (Gh.sel [0,1,4,5,6,7,8,9,10,11] (by kernel_rfl) (by kernel_rfl))) fun junk=>?_))))))))))
   rcases bD H with⟨z,H⟩|⟨z,H⟩
   ·refine aC rfl z (ak (ad ar (h:=ad aA (h:=o' (cJ 0 [ae n81] (h:=(ad aA (h:=o' (cJ 0 [.bool true] (h:=(cR (bq (cm 0) (h:=o' (uF u 0 5 (am ({ a with f0:=b.1,f2:=n81,f3:=true }) c d j p m q o s) ?_))))))))))))))
    refine ad aW (h:=cD ?_)
    have h:=aN H;subst h
    exact dE [.cell 4 34,.tmp 5] [1,2,3,4] ⟨c,d,j,p,m,q,o,s,rfl,rfl⟩ ⟨cW 5,cX,trivial⟩
   refine aB rfl z (ao (aa (aP (bq (cm 0) (h:=o' (bj u 0 5 (am ({ a with f0:=b.1,f2:=(i64.wrap (a.f2 + D)) }) c d j p m q o s) (h:=ad aW (h:=cD ?_))))))))
   have h:=aN H;subst h
   exact dE [.cell 4 34,.tmp 5] [1,2,3,4] ⟨c,d,j,p,m,q,o,s,rfl,rfl⟩ ⟨cW 5,cX,trivial⟩
  refine id (dB (v:=aI y) rfl (kw y 0 0) (aV dd sH ?_))
  refine eK (rs:=[15,17]) (by kernel_rfl) (by decide) (bG ⟨rfl,_,rfl,(.no rfl),?_⟩ (bG ⟨rfl,_,rfl,(.no rfl),?_⟩ dl))
  ·refine id (dB (v:=ae b.2) rfl cw (eG 17 rfl (cJ 0 [ae b.1.f0,ae b.1.f1,.slice c b.1.f2.length d] (h:=(aH (by kernel_rfl) (aa (aP (ad aA (h:=bq (aO 0) (h:=ad ar (h:=ad (bX rfl rfl) (h:=ad aA (h:=o' (cJ 0 [ae (i64.wrap (a.f2 + D))] (h:=?_)))))))))))))))
   refine eA (ad aA (h:=bq (aO 0) (h:=ad ar (h:=ad (eN rfl rfl) (h:=bA (SA.of_St (l:=[(2,aI y),(4,aI u),(8,ae n81),(99,.bool (decide ((i64.wrap (a.f2 + D)) > n81)))]) (B:=(aL y 34 (am ({ a with f0:=b.1,f2:=(i64.wrap (a.f2 + D)) }) c d j p m q o s)::Buf bI 55 c d b.1.f2::gL 3 j p a.f7::Buf bI 55 m q a.f16.f2::lZ 21 o s a.f17::cQ u E.2 S a2 U a3 Y a4 Z a5)) (St.mk1 (cO rfl (cO rfl (cO rfl (cO rfl dY)))) (Gh.sel [0,1,4,5,6,7,8,9,10,11] (by kernel_rfl) (by kernel_rfl))) fun junk=>?_))))))
   rcases bD H with⟨z,H⟩|⟨z,H⟩
   ·refine aC rfl z (ak (ad ar (h:=ad aA (h:=o' (cJ 0 [ae n81] (h:=(ad aA (h:=o' (cJ 0 [.bool true] (h:=(cR (bq (cm 0) (h:=o' (uF u 0 5 (am ({ a with f0:=b.1,f2:=n81,f3:=true }) c d j p m q o s) ?_))))))))))))))
    refine ad aW (h:=cD ?_)
    have h:=aN H;subst h
    exact dE [.cell 4 34,.tmp 5] [1,2,3,4] ⟨c,d,j,p,m,q,o,s,rfl,rfl⟩ ⟨cW 5,cX,trivial⟩
   refine aB rfl z (ao (aa (aP (bq (cm 0) (h:=o' (bj u 0 5 (am ({ a with f0:=b.1,f2:=(i64.wrap (a.f2 + D)) }) c d j p m q o s) (h:=ad aW (h:=cD ?_))))))))
   have h:=aN H;subst h
   exact dE [.cell 4 34,.tmp 5] [1,2,3,4] ⟨c,d,j,p,m,q,o,s,rfl,rfl⟩ ⟨cW 5,cX,trivial⟩
  refine id (cJ 0 [ae b.1.f0,ae b.1.f1,.slice c b.1.f2.length d] (h:=(eG 15 rfl (dB (v:=ae b.2) rfl cw (aH (by kernel_rfl) (aa (aP (ad aA (h:=bq (aO 0) (h:=ad ar (h:=ad (bX rfl rfl) (h:=ad aA (h:=o' (cJ 0 [ae (i64.wrap (a.f2 + D))] (h:=?_)))))))))))))))
  refine eA (ad aA (h:=bq (aO 0) (h:=ad ar (h:=ad (eN rfl rfl) (h:=bA (SA.of_St (l:=[(2,aI y),(4,aI u),(8,ae n81),(99,.bool (decide ((i64.wrap (a.f2 + D)) > n81)))]) (B:=(aL y 34 (am ({ a with f0:=b.1,f2:=(i64.wrap (a.f2 + D)) }) c d j p m q o s)::Buf bI 55 c d b.1.f2::gL 3 j p a.f7::Buf bI 55 m q a.f16.f2::lZ 21 o s a.f17::cQ u E.2 S a2 U a3 Y a4 Z a5)) (St.mk1 (cO rfl (cO rfl (cO rfl (cO rfl dY)))) (Gh.sel [0,1,4,5,6,7,8,9,10,11] (by kernel_rfl) (by kernel_rfl))) fun junk=>?_))))))
  rcases bD H with⟨z,H⟩|⟨z,H⟩
  ·refine aC rfl z (ak (ad ar (h:=ad aA (h:=o' (cJ 0 [ae n81] (h:=(ad aA (h:=o' (cJ 0 [.bool true] (h:=(cR (bq (cm 0) (h:=o' (uF u 0 5 (am ({ a with f0:=b.1,f2:=n81,f3:=true }) c d j p m q o s) ?_))))))))))))))
   refine ad aW (h:=cD ?_)
   have h:=aN H;subst h
   exact dE [.cell 4 34,.tmp 5] [1,2,3,4] ⟨c,d,j,p,m,q,o,s,rfl,rfl⟩ ⟨cW 5,cX,trivial⟩
  refine aB rfl z (ao (aa (aP (bq (cm 0) (h:=o' (bj u 0 5 (am ({ a with f0:=b.1,f2:=(i64.wrap (a.f2 + D)) }) c d j p m q o s) (h:=ad aW (h:=cD ?_))))))))
  have h:=aN H;subst h
  exact dE [.cell 4 34,.tmp 5] [1,2,3,4] ⟨c,d,j,p,m,q,o,s,rfl,rfl⟩ ⟨cW 5,cX,trivial⟩
 refine id (dB (v:=ae b.2) rfl cw (dT 14 rfl dd (dB (v:=.agg #[ae b.1.f0,ae b.1.f1,.slice c b.1.f2.length d]) rfl cw (dT 16 rfl dd (dB (v:=aI y) rfl (kw y 0 0) (aV dd sH (eG 17 rfl (cJ 0 [ae b.1.f0,ae b.1.f1,.slice c b.1.f2.length d] (h:=(aH (by kernel_rfl) (aa (aP (ad aA (h:=bq (aO 0) (h:=S' ar ?_)))))))))))))))
 refine ad (bX rfl rfl) (h:=ad aA (h:=o' (cJ 0 [ae (i64.wrap (a.f2 + D))] (h:=(eA (ad aA (h:=bq (aO 0) (h:=ad ar (h:=ad (eN rfl rfl) (h:=bA (SA.of_St (l:=[(2,aI y),(4,aI u),(8,ae n81),(99,.bool (decide ((i64.wrap (a.f2 + D)) > n81)))]) (B:=(aL y 34 (am ({ a with f0:=b.1,f2:=(i64.wrap (a.f2 + D)) }) c d j p m q o s)::Buf bI 55 c d b.1.f2::gL 3 j p a.f7::Buf bI 55 m q a.f16.f2::lZ 21 o s a.f17::cQ u E.2 S a2 U a3 Y a4 Z a5)) (St.mk1 (cO rfl (cO rfl (cO rfl (cO rfl dY)))) (Gh.sel [0,1,4,5,6,7,8,9,10,11] (by kernel_rfl) (by kernel_rfl))) fun junk=>?_)))))))))))
 rcases bD H with⟨z,H⟩|⟨z,H⟩
 ·refine aC rfl z (ak (ad ar (h:=ad aA (h:=o' (cJ 0 [ae n81] (h:=(ad aA (h:=o' (cJ 0 [.bool true] (h:=(cR (bq (cm 0) (h:=o' (uF u 0 5 (am ({ a with f0:=b.1,f2:=n81,f3:=true }) c d j p m q o s) ?_))))))))))))))
  refine ad aW (h:=cD ?_)
  have h:=aN H;subst h
  exact dE [.cell 4 34,.tmp 5] [1,2,3,4] ⟨c,d,j,p,m,q,o,s,rfl,rfl⟩ ⟨cW 5,cX,trivial⟩
 refine aB rfl z (ao (aa (aP (bq (cm 0) (h:=o' (bj u 0 5 (am ({ a with f0:=b.1,f2:=(i64.wrap (a.f2 + D)) }) c d j p m q o s) (h:=ad aW (h:=cD ?_))))))))
 have h:=aN H;subst h
 exact dE [.cell 4 34,.tmp 5] [1,2,3,4] ⟨c,d,j,p,m,q,o,s,rfl,rfl⟩ ⟨cW 5,cX,trivial⟩

end Go.Proofs.YtckilbegmbaeeaaGreat.Z7

/- Walks. -/
import Derived.Test.YtckilbegmbaeeaaGreatZ67
namespace Go.Proofs.YtckilbegmbaeeaaGreat.Z6
open Go Go.RowKit Go.Proofs.YtckilbegmbaeeaaGreat.SL
open Go.IntKind (i64)
set_option linter.unusedVariables false
set_option maxHeartbeats 20000000
set_option maxRecDepth 100000
set_option linter.unusedSimpArgs false
attribute [local irreducible] IntKind.wrap da fk gR kN kD po ky eS kF rd sub bytesOf ib dj
variable {ag az av ax k : Nat}
variable {af ay au aw : Option Addr}
def js.l0 (a0 : bH) (a2 : Int) (r22 : bH) : Nat → Int → (List aY) → Option ((List aY))
  | 0,_,_=>none
  | k + 1,b,a=>if a.length = r22.f2.length then (if b < (da a2 a0.f1) then ((jc.f (bH.mk r22.f0 r22.f1 a) b).bind (fun c=>if (0 ≤ c.1∧0 ≤ c.2∧c.1 + c.2 ≤ (a.length : Int)) then ((jc.f a0 b).bind (fun d=>if (0 ≤ d.1∧0 ≤ d.2∧d.1 + d.2 ≤ (a0.f2.length : Int)) then (lt (bB a c.1.toNat ((sub a0.f2 d.1 (d.1 + d.2)).take c.2.toNat)) fun n43=>((ei.f k n43 c.1 c.2).bind (fun h=>if h.length = n43.length then (js.l0 a0 a2 r22 k (i64.wrap (b + 1)) h) else none))) else none)) else none)) else (some a)) else none
def js.f (k : Nat) (a0 : bH) (a1 : Int) (a2 : Int) (a3 : cM) : Option (bH × Int):=(fL.f k a0).bind (fun l=>(if (!l) = true then (some true) else ((qF.f a1 a2).bind (fun h=>some (!h))) : Option Bool).bind (fun c=>(if c = true then (some true) else ((qb.f a3).bind (fun j=>some (!j))) : Option Bool).bind (fun d=>if d = true then (some (((bH.mk 0 0 ([] : (List aY))),2))) else ((ta.f k a1 a2 a3).bind (fun a=>(js.l0 a0 a2 a k 0 a.f2 : Option ((List aY))).bind (fun b=>if b.length = a.f2.length then (some (((bH.mk a.f0 a.f1 b),0))) else none))))))
theorem js.ok {a0 : bH} {a1 : Int} {a2 : Int} {a3 : cM} {r : bH × Int} (H : js.f k a0 a1 a2 a3 = some r) : dk Tryz.prog 96 #[.agg #[ae a0.f0,ae a0.f1,.slice af a0.f2.length ag],ae a1,ae a2,.agg (bF a3).toArray] [Buf bD 55 af ag a0.f2] (fun v B=>∃ aS aT,v = .tuple #[.agg #[ae r.1.f0,ae r.1.f1,.slice aS r.1.f2.length aT],ae r.2]∧B = [Buf bD 55 aS aT r.1.f2,Buf bD 55 af ag a0.f2]):=by
 refine aj Tryz.func96 rfl rfl ?_
 unfold js.f at H
 refine aR (o' (bO (h:=fun u=>o' (bO (h:=fun N=>o' (cw (h:=fun s=>ad aW (h:=bA (ao (ao (bM 0 fun c7=>ak (l' (cz u 0 1 [ae a0.f0,ae a0.f1,.slice af a0.f2.length ag]) ?_))))))))))))
 obtain⟨r9,b0,H⟩:=ac H
 refine o' (dc [0] [1,2,3] (fL.ok b0) ?_)
 refine ad (bX rfl) (h:=S' ar ?_)
 obtain⟨b3,H,U⟩:=ac H
 refine dy 5 [(1,ae a1),(2,ae a2),(4,aH u),(7,aH N),(8,aH s),(21,.bool b3)] [Buf bD 55 af ag a0.f2,aK u 26 [ae a0.f0,ae a0.f1,.slice af a0.f2.length ag],aK N 28 (bF a3),aK s 26 [ae 0,ae 0,.slice none 0 0]] ?_ fun junk=>?_
 ·rcases bE H with⟨j,H⟩|⟨j,H⟩
  ·refine cu 4 j (gN j ?_)
   have h:=aN H;subst h
   exact dL [0,1,2,3]
  refine bf (aM j) ar (h:=Y' (aM j) ar ?_)
  obtain⟨c8,a4,H⟩:=ac H
  refine fT (aM j) (dc [] [0,1,2,3] (qF.ok a4) ?_)
  refine bf (aM j) (bX rfl) (h:=fZ (aM j) ?_)
  have h:=aN H;subst h
  exact dL [0,1,2,3]
 replace H:=U
 refine S' ar ?_
 obtain⟨b5,H,D⟩:=ac H
 refine cK 4 (St [(1,ae a1),(2,ae a2),(4,aH u),(7,aH N),(8,aH s),(26,.bool b5)] [Buf bD 55 af ag a0.f2,aK u 26 [ae a0.f0,ae a0.f1,.slice af a0.f2.length ag],aK N 28 (bF a3),aK s 26 [ae 0,ae 0,.slice none 0 0]]) ?_ ?_
 ·rcases bE H with⟨p,H⟩|⟨p,H⟩
  ·refine cu 3 p (gN p ?_)
   have h:=aN H;subst h
   exact dL [0,1,2,3]
  refine z' (aM p) (cm 2) ?_
  obtain⟨c9,a5,H⟩:=ac H
  refine fT (aM p) (dc [] [0,1,2,3] (qb.ok a5) ?_)
  refine bf (aM p) (bX rfl) (h:=fZ (aM p) ?_)
  have h:=aN H;subst h
  exact dL [0,1,2,3]
 rintro e ds As O
 clear H
 have H:=D
 clear D
 refine bA (SA.of_St O fun junk=>?_)
 rcases bE H with⟨F,H⟩|⟨F,H⟩
 ·refine aD rfl F (aR (bP (.agg #[ae 0,ae 0,.slice none 0 0]) dP (h:=o' (bi s 0 3 [ae 0,ae 0,.slice none 0 0] (h:=ad aW (h:=cD ?_))))))
  have h:=aN H;subst h
  exact ma [.cell 8 26,.tmp 9] ((Gh.nilBuf bD 55).trans (eZ [4,0])) ⟨none,0,rfl,rfl⟩ ⟨cV 3,cW,trivial⟩
 refine aE rfl F (ap (aa (aR (ad ar (h:=ad ar (h:=l' (cm 2) ?_))))))
 obtain⟨b,a9,H⟩:=ac H
 refine o' (gy [] [0,1,2,3] (ta.ok a9) fun c d=>?_)
 refine o' (cw (h:=fun o=>o' (bi o 0 5 [ae b.f0,ae b.f1,.slice c b.f2.length d] (h:=eD (ad ar (h:=ad aA (h:=bp (aP 2) (h:=bP (ae (da a2 a0.f1)) (jK rfl rfl) (h:=ad ar (h:=bA ?_))))))))))
 obtain⟨y,H,E⟩:=ac H
 refine bI (St [(8,aH s),(10,aH o)] [Buf bD 55 af ag a0.f2,aK s 26 [ae 0,ae 0,.slice none 0 0],aK o 26 [ae b.f0,ae b.f1,.slice c y.length d],Buf bD 55 c d y]) ?_ ?_
 ·refine aQ (cj (fun k_ e ds As=>∃ (q : Int) (a : (List aY)),js.l0 a0 a2 b k_ q a = some y∧St [(4,aH u),(8,aH s),(10,aH o),(35,ae (da a2 a0.f1)),(36,ae q)] [Buf bD 55 af ag a0.f2,aK u 26 [ae a0.f0,ae a0.f1,.slice af a0.f2.length ag],aK s 26 [ae 0,ae 0,.slice none 0 0],aK o 26 [ae b.f0,ae b.f1,.slice c a.length d],Buf bD 55 c d a] e ds As) (k:=k) ⟨_,_,H,jV [1,2,4,5,0]⟩ ?_)
  clear H
  rintro L e ds As ⟨q,a,H,R⟩
  obtain _ | L:=L
  ·cases H
  rw [js.l0] at H
  obtain⟨b9,H⟩:=aO H
  refine SA.of_St R fun junk=>aR (ad (ce rfl rfl) (h:=bA (ao ?_)))
  rcases bE H with⟨I,H⟩|⟨I,H⟩
  ·refine aC rfl I (ap (aa (ao (aQ (aR (ad ar (h:=ad aW (h:=bA (ao (bM 4 fun b8=>ak (S' ar ?_)))))))))))
   obtain⟨z,a8,H⟩:=ac H
   obtain⟨⟨hl37a,hl37b,hl37c⟩,H⟩:=aO H
   refine o' (ms [3,4] [0,1,2] (jc.ok (bg:=o) a8) ?_)
   rintro _ _⟨b1,b7,J,rfl,rfl⟩
   refine ad aW (h:=cP (ad ar (h:=S' ar ?_)))
   obtain⟨M,a7,H⟩:=ac H
   obtain⟨⟨hl42a,hl42b,hl42c⟩,H⟩:=aO H
   refine o' (ms [3,2] [0,1,4] (jc.ok (bg:=u) a7) ?_)
   rintro _ _⟨c6,d1,Y,rfl,rfl⟩
   obtain⟨n43,K,H⟩:=bj H
   have hl_n43 : n43.length = a.length:=by rw [K]; exact eR (by rw [List.length_take]; omega)
   refine o' (gm (k:=3) (l:=z.1) (m:=z.2) (xs:=a) (ys:=sub a0.f2 M.1 (M.1 + M.2)) n43 K J rfl Tryz.underlying116 cl rfl rfl rfl (by omega) rfl (pD.win (Src.buf (k:=1) rfl) Y rfl (by omega)) ?_)
   try unfold bF
   try rewrite [← hl_n43]
   refine bA (ak (S' ar ?_))
   obtain⟨d0,a6,H⟩:=ac H
   obtain⟨Z,H⟩:=aO H
   refine o' (dc [3] [0,1,2,4] (ei.ok (o0:=z.1) (n0:=z.2) (A0:=c) (c0:=d) (V0:=b1) (v0:=b7) (hw0:=J) a6) ?_)
   try unfold bF
   try rewrite [← Z]
   refine ah (aF (aa (ak (ad (bW rfl rfl) (h:=ad ar (h:=ah ?_))))))
   exact aa ⟨L,Nat.lt_succ_self _,_,_,H,dZ [2,1,4,3,0]⟩
  refine aB rfl I (cf (aX (aX (cg ?_))))
  have h:=aN H;subst h
  exact bK [0,2,3,4]
 rintro e ds As S
 clear H
 have H:=E
 clear E
 obtain⟨c5,H⟩:=aO H
 refine aa (SA.of_St S fun junk=>aR (bp (cz o 0 2 [ae b.f0,ae b.f1,.slice c y.length d]) (h:=o' (bi s 0 1 [ae b.f0,ae b.f1,.slice c y.length d] (h:=ad aW (h:=cC ?_))))))
 have h:=aN H;subst h
 exact du [.cell 8 26,.tmp 9] [3,0] ⟨c,d,rfl,rfl⟩ ⟨cV 1,cW,trivial⟩


def wt.f (k : Nat) (a0 : aJ) (a1 : Int) (a2 : Int) : Option (aJ × Int):=(eF.f k a0).bind (fun l=>if (!l) = true then (some (((aJ.mk (bH.mk 0 0 ([] : (List aY))) 0 0 false (cM.mk 0 0 false false false false false false false false) 0 0 ([] : (List Int)) false false false false false false (dz.mk 0 0 false false (cM.mk 0 0 false false false false false false false false)) false (bH.mk 0 0 ([] : (List aY))) ([] : (List Int))),2))) else ((qP.f k a0.f0 a1 a2 a0.f4).bind (fun c=>if c.2 ≠ 0 then (some (((aJ.mk (bH.mk 0 0 ([] : (List aY))) 0 0 false (cM.mk 0 0 false false false false false false false false) 0 0 ([] : (List Int)) false false false false false false (dz.mk 0 0 false false (cM.mk 0 0 false false false false false false false false)) false (bH.mk 0 0 ([] : (List aY))) ([] : (List Int))),c.2))) else ((lE.f a0).bind (fun b=>(if b.f15 = true then ((js.f k b.f16 a1 a2 b.f4).bind (fun d=>if d.2 ≠ 0 then (some (Out.ret (((aJ.mk (bH.mk 0 0 ([] : (List aY))) 0 0 false (cM.mk 0 0 false false false false false false false false) 0 0 ([] : (List Int)) false false false false false false (dz.mk 0 0 false false (cM.mk 0 0 false false false false false false false false)) false (bH.mk 0 0 ([] : (List aY))) ([] : (List Int))),d.2)))) else (some (Out.go (({ b with f16:=d.1 }),(aJ.mk (bH.mk 0 0 ([] : (List aY))) 0 0 false (cM.mk 0 0 false false false false false false false false) 0 0 ([] : (List Int)) false false false false false false (dz.mk 0 0 false false (cM.mk 0 0 false false false false false false false false)) false (bH.mk 0 0 ([] : (List aY))) ([] : (List Int)))))))) else (some (Out.go (b,(aJ.mk (bH.mk 0 0 ([] : (List aY))) 0 0 false (cM.mk 0 0 false false false false false false false false) 0 0 ([] : (List Int)) false false false false false false (dz.mk 0 0 false false (cM.mk 0 0 false false false false false false false false)) false (bH.mk 0 0 ([] : (List aY))) ([] : (List Int)))))) : Option (Out (aJ × Int) (aJ × aJ))).bind (fun j=>Out.el j (fun r_=>some r_) (fun a=>(oA.f k a1).bind (fun h=>some (((aJ.mk c.1 (da a.1.f1 (i64.wrap (a2 - 1))) (da a.1.f2 (i64.wrap (a1 - 1))) false a.1.f4 0 (i64.wrap (a2 - 1)) h a.1.f8 a.1.f9 a.1.f10 a.1.f11 a.1.f12 a.1.f13 (dz.mk (da a.1.f14.f0 (i64.wrap (a2 - 1))) (da a.1.f14.f1 (i64.wrap (a1 - 1))) false a.1.f14.f3 a.1.f14.f4) a.1.f15 a.1.f16 a.1.f17),0))))))))))
theorem wt.ok {a0 : aJ} {a1 : Int} {a2 : Int} {r : aJ × Int} (H : wt.f k a0 a1 a2 = some r) : dk Tryz.prog 39 #[.agg (al a0 af ag ay az au av aw ax).toArray,ae a1,ae a2] (cH a0 af ag ay az au av aw ax) (fun v B=>∃ aS aT bv bx bq br bw bz,v = .tuple #[.agg (al r.1 aS aT bv bx bq br bw bz).toArray,ae r.2]∧B = (bn r.1 aS aT bv bx bq br bw bz)):=by
 refine aj Tryz.func39 rfl rfl ?_
 unfold wt.f at H
 refine aR (o' (bO (h:=fun z=>o' (cw (h:=fun S=>ad aW (h:=eD (l' (cm 4) ?_)))))))
 obtain⟨r9,d2,H⟩:=ac H
 refine o' (dc [0,1,2,3] [0,1,2,3,4,5] (rJ.ok d2) ?_)
 refine ad (bX rfl) (h:=bA ?_)
 rcases bE H with⟨b3,H⟩|⟨b3,H⟩
 ·refine aD rfl b3 (aR (bP (.agg (al cy none 0 none 0 none 0 none 0).toArray) dP (h:=o' (bi S 0 5 (al cy none 0 none 0 none 0 none 0) (h:=ad aW (h:=cD ?_))))))
  have h:=aN H;subst h
  exact ma [.cell 6 34,.tmp 7] ((Gh.nilBuf bD 55).trans ((Gh.nilBuf (Kd.int .i64) 3).trans ((Gh.nilBuf bD 55).trans ((Gh.nilBuf (Kd.int .i32) 21).trans (eZ [6,7,8,9]))))) ⟨none,0,none,0,none,0,none,0,rfl,rfl⟩ ⟨cV 5,cW,trivial⟩
 refine aE rfl b3 (ap (aa (aR (ad aA (h:=bp (cz z 0 4 [ae a0.f0.f0,ae a0.f0.f1,.slice af a0.f0.f2.length ag]) (h:=ad ar (h:=ad ar (h:=ad aA (h:=l' (cz z 6 4 (bF a0.f4)) ?_)))))))))
 obtain⟨b,d1,H⟩:=ac H
 refine o' (gy [0] [0,1,2,3,4,5] (qP.ok d1) fun c d=>?_)
 refine ad ar (h:=ad cr (h:=ad cr (h:=o' (cw (h:=fun u=>o' (bi u 0 7 [ae b.1.f0,ae b.1.f1,.slice c b.1.f2.length d] (h:=ad aW (h:=eD (ad ar (h:=ad (dK rfl rfl) (h:=bA ?_)))))))))))
 rcases bE H with⟨b4,H⟩|⟨b4,H⟩
 ·refine aC rfl b4 (aR (bP (.agg (al cy none 0 none 0 none 0 none 0).toArray) dP (h:=ad ar (h:=o' (bi S 0 6 (al cy none 0 none 0 none 0 none 0) (h:=ad aW (h:=cD ?_)))))))
  have h:=aN H;subst h
  exact ma [.cell 6 34,.tmp 7] ((Gh.nilBuf bD 55).trans ((Gh.nilBuf (Kd.int .i64) 3).trans ((Gh.nilBuf bD 55).trans ((Gh.nilBuf (Kd.int .i32) 21).trans (eZ [8,9,10,11]))))) ⟨none,0,none,0,none,0,none,0,rfl,rfl⟩ ⟨cV 6,cW,trivial⟩
 refine aB rfl b4 (ap (aa (aR (l' (cm 5) ?_))))
 obtain⟨j,d0,H⟩:=ac H
 refine o' (ed [1,2,3,4] [0,1,2,3,4,5,6,7] (lE.ok d0) fun D L E M F N I O=>?_)
 refine o' (bi z 0 9 (al j D L E M F N I O) (h:=eD (ad aA (h:=bp (aP 9) (h:=bA (SA.of_St (l:=[(1,ae a1),(2,ae a2),(3,aH z),(6,aH S),(8,aH u),(31,.bool j.f15)]) (B:=(aK z 34 (al j D L E M F N I O)::(bn j D L E M F N I O++[aK S 34 (al cy none 0 none 0 none 0 none 0),aK u 26 [ae b.1.f0,ae b.1.f1,.slice c b.1.f2.length d],Buf bD 55 c d b.1.f2]))) (St.mk1 (cB rfl (cB rfl (cB rfl (cB rfl (cB rfl (cB rfl dS)))))) (Gh.sel [9,0,1,2,3,10,11,4] (by kernel_rfl) (by kernel_rfl))) fun junk=>?_))))))
 obtain⟨d3,H,p⟩:=ac H
 refine bI (fun e ds As=>∃ (a : aJ × aJ),d3 = Out.go a∧∃ (K : Nat),∃ (a9 : Option Addr) (b1 : Nat),∃ (J : Option Addr) (R : Nat),∃ (m : Option Addr) (q : Nat),∃ (o : Option Addr) (s : Nat),∃ (y : Nat),∃ (U : Option Addr) (a4 : Nat),∃ (Y : Option Addr) (a5 : Nat),∃ (Z : Option Addr) (a6 : Nat),∃ (a3 : Option Addr) (a7 : Nat),St [(1,ae a1),(2,ae a2),(3,aH K),(6,aH y),(8,aH u)] (aK K 34 (al a.1 a9 b1 J R m q o s)::(bn a.1 a9 b1 J R m q o s++(aK y 34 (al a.2 U a4 Y a5 Z a6 a3 a7)::(bn a.2 U a4 Y a5 Z a6 a3 a7++[aK u 26 [ae b.1.f0,ae b.1.f1,.slice c b.1.f2.length d],Buf bD 55 c d b.1.f2])))) e ds As) ?_ ?_
 ·rcases bE H with⟨b6,H⟩|⟨b6,H⟩
  ·refine aD rfl b6 (ao (bM 1 fun d4=>bM 2 fun d5=>bM 3 fun d6=>bM 4 fun d7=>bM 7 fun d8=>ak (ad aA (h:=l' (cz z 40 0 [ae j.f16.f0,ae j.f16.f1,.slice F j.f16.f2.length N]) ?_))))
   refine ad ar (h:=ad ar (h:=ad aA (h:=l' (cz z 6 0 (bF j.f4)) ?_)))
   obtain⟨a8,c8,H⟩:=ac H
   refine o' (gy [3] [0,1,2,4,5,6,7] (js.ok c8) fun c5 c6=>?_)
   refine ad ar (h:=ad cr (h:=ad cr (h:=ad aA (h:=o' (cF 2 [ae a8.1.f0,ae a8.1.f1,.slice c5 a8.1.f2.length c6] (h:=(ad aW (h:=cP (ad ar (h:=ad (dK rfl rfl) (h:=bA ?_)))))))))))
   rcases bE H with⟨b8,H⟩|⟨b8,H⟩
   ·refine aC rfl b8 (aR (bP (.agg (al cy none 0 none 0 none 0 none 0).toArray) dP (h:=ad ar (h:=o' (bi S 0 6 (al cy none 0 none 0 none 0 none 0) (h:=ad aW (h:=cD (aG ?_))))))))
    have h:=aN H;subst h
    have hb_:=dw p
    have hr_:=Option.some.inj hb_
    clear hb_
    subst hr_
    exact ma [.cell 6 34,.tmp 7] ((Gh.nilBuf bD 55).trans ((Gh.nilBuf (Kd.int .i64) 3).trans ((Gh.nilBuf bD 55).trans ((Gh.nilBuf (Kd.int .i32) 21).trans (eZ [9,10,11,12]))))) ⟨none,0,none,0,none,0,none,0,rfl,rfl⟩ ⟨cV 6,cW,trivial⟩
   refine aB rfl b8 (ap ?_)
   have h:=aN H;subst h
   exact aa ⟨(({ j with f16:=a8.1 }),cy),rfl,z,D,L,E,M,c5,c6,I,O,S,none,0,none,0,none,0,none,0,St.mk1 (cB rfl (cB rfl (cB rfl (cB rfl (cB rfl dS))))) ((Gh.nilBuf bD 55).trans ((Gh.nilBuf (Kd.int .i64) 3).trans ((Gh.nilBuf bD 55).trans ((Gh.nilBuf (Kd.int .i32) 21).trans (eZ [2,3,4,0,5,6,9,10,11,12,7,8])))))⟩
  refine aE rfl b6 (ap ?_)
  have h:=aN H;subst h
  exact aa ⟨(j,cy),rfl,z,D,L,E,M,F,N,I,O,S,none,0,none,0,none,0,none,0,St.mk1 (cB rfl (cB rfl (cB rfl (cB rfl (cB rfl dS))))) ((Gh.nilBuf bD 55).trans ((Gh.nilBuf (Kd.int .i64) 3).trans ((Gh.nilBuf bD 55).trans ((Gh.nilBuf (Kd.int .i32) 21).trans (eZ [0,1,2,3,4,5,8,9,10,11,6,7])))))⟩
 rintro e ds As ⟨a,ht,K,a9,b1,J,R,m,q,o,s,y,U,a4,Y,a5,Z,a6,a3,a7,b9⟩
 clear H
 subst ht
 replace p:=fw p
 have H:=p
 clear p
 refine aa (SA.of_St b9 fun junk=>aR (bp (cz u 0 10 [ae b.1.f0,ae b.1.f1,.slice c b.1.f2.length d]) (h:=ad aA (h:=o' (cF 0 [ae b.1.f0,ae b.1.f1,.slice c b.1.f2.length d] (h:=(cP (ad aA (h:=bp (aP 0) (h:=S' ar ?_))))))))))
 refine ad (cT rfl rfl) (h:=bP (ae (da a.1.f1 (i64.wrap (a2 - 1)))) (jK rfl rfl) (h:=ad aA (h:=bp (aP 0) (h:=ad ar (h:=ad (cT rfl rfl) (h:=bP (ae (da a.1.f2 (i64.wrap (a1 - 1)))) (jK rfl rfl) (h:=ad aA (h:=o' (cF 0 [ae (da a.1.f1 (i64.wrap (a2 - 1)))] (h:=(S' aA ?_)))))))))))
 refine o' (cF 0 [ae (da a.1.f2 (i64.wrap (a1 - 1)))] (h:=(ad aA (h:=o' (cF 0 [.bool false] (h:=(cP (ad aA (h:=ad aA (h:=bp (aP 0) (h:=ad ar (h:=ad (cT rfl rfl) (h:=s' (ae (da a.1.f14.f0 (i64.wrap (a2 - 1)))) (jK rfl rfl) ?_)))))))))))))
 refine ad aA (h:=ad aA (h:=bp (aP 0) (h:=ad ar (h:=ad (cT rfl rfl) (h:=bP (ae (da a.1.f14.f1 (i64.wrap (a1 - 1)))) (jK rfl rfl) (h:=ad aA (h:=ad aA (h:=o' (cF 0 [ae (da a.1.f14.f0 (i64.wrap (a2 - 1)))] (h:=(S' aA ?_)))))))))))
 refine ad aA (h:=o' (cF 0 [ae (da a.1.f14.f1 (i64.wrap (a1 - 1)))] (h:=(ad aA (h:=ad aA (h:=o' (cF 0 [.bool false] (h:=(bA (SA.of_St (l:=[(1,ae a1),(2,ae a2),(3,aH K),(6,aH y)]) (B:=(aK K 34 (al (aJ.mk b.1 (da a.1.f1 (i64.wrap (a2 - 1))) (da a.1.f2 (i64.wrap (a1 - 1))) false a.1.f4 a.1.f5 a.1.f6 a.1.f7 a.1.f8 a.1.f9 a.1.f10 a.1.f11 a.1.f12 a.1.f13 (dz.mk (da a.1.f14.f0 (i64.wrap (a2 - 1))) (da a.1.f14.f1 (i64.wrap (a1 - 1))) false a.1.f14.f3 a.1.f14.f4) a.1.f15 a.1.f16 a.1.f17) c d J R m q o s)::Buf bD 55 c d b.1.f2::gf 3 J R a.1.f7::Buf bD 55 m q a.1.f16.f2::kU 21 o s a.1.f17::cN y a.2 U a4 Y a5 Z a6 a3 a7)) (St.mk1 (cB rfl (cB rfl (cB rfl (cB rfl dS)))) (Gh.sel [0,11,2,3,4,5,6,7,8,9] (by kernel_rfl) (by kernel_rfl))) fun junk=>aR (ad ar (h:=S' (cT rfl rfl) ?_))))))))))))
 refine S' ar ?_
 obtain⟨c7,c9,H⟩:=ac H
 refine o' (gy [] [0,1,2,3,4,5,6,7,8,9] (oA.ok c9) fun b0 b2=>?_)
 refine ad aA (h:=o' (cF 1 [ae 0] (h:=(ad aA (h:=o' (cF 1 [ae (i64.wrap (a2 - 1))] (h:=(ad aA (h:=o' (cF 1 [.slice b0 c7.length b2] (h:=(cP (bp (cm 1) (h:=o' (bi y 0 6 (al (aJ.mk b.1 (da a.1.f1 (i64.wrap (a2 - 1))) (da a.1.f2 (i64.wrap (a1 - 1))) false a.1.f4 0 (i64.wrap (a2 - 1)) c7 a.1.f8 a.1.f9 a.1.f10 a.1.f11 a.1.f12 a.1.f13 (dz.mk (da a.1.f14.f0 (i64.wrap (a2 - 1))) (da a.1.f14.f1 (i64.wrap (a1 - 1))) false a.1.f14.f3 a.1.f14.f4) a.1.f15 a.1.f16 a.1.f17) c d b0 b2 m q o s) (h:=S' aW ?_))))))))))))))))
 refine cC ?_
 have h:=aN H;subst h
 exact du [.cell 6 34,.tmp 7] [2,0,4,5] ⟨c,d,b0,b2,m,q,o,s,rfl,rfl⟩ ⟨cV 6,cW,trivial⟩


def uG.f (k : Nat) (a0 : aJ) (a1 : qG) : Option (aJ × Int):=if a1.f0 = 0 then ((uH.f k a0 (IntKind.i32.wrap (a1.f1))).bind (fun o=>some ((o.1,o.2)))) else (if a1.f0 = 1 then ((we.f k a0 (IntKind.i32.wrap (a1.f1))).bind (fun p=>some ((p.1,p.2)))) else (if a1.f0 = 2 then ((wg.f k a0 a1.f1 a1.f2).bind (fun q=>some ((q.1,q.2)))) else (if a1.f0 = 3 then ((wh.f k a0 a1.f1 a1.f2).bind (fun r=>some ((r.1,r.2)))) else (if a1.f0 = 4 then ((wi.f k a0 a1.f3 a1.f1).bind (fun s=>some ((s.1,s.2)))) else (if a1.f0 = 5 then ((wj.f k a0 a1.f1).bind (fun u=>some ((u.1,u.2)))) else (if a1.f0 = 6 then ((wk.f k a0 a1.f1).bind (fun a=>some ((a.1,a.2)))) else (if a1.f0 = 7 then ((wm.f k a0 a1.f1).bind (fun b=>some ((b.1,b.2)))) else (if a1.f0 = 8 then ((wn.f k a0 a1.f1 a1.f2).bind (fun c=>some ((c.1,c.2)))) else (if a1.f0 = 9 then ((wb.f k a0 a1.f3).bind (fun d=>some ((d.1,d.2)))) else (if a1.f0 = 10 then ((wo.f k a0 a1.f3 a1.f1 (decide (a1.f2 > 0))).bind (fun h=>some ((h.1,h.2)))) else (if a1.f0 = 11 then ((wq.f k a0 a1.f1).bind (fun j=>some ((j.1,j.2)))) else (if a1.f0 = 12 then ((ws.f k a0 a1.f1).bind (fun l=>some ((l.1,l.2)))) else ((wt.f k a0 a1.f1 a1.f2).bind (fun m=>some ((m.1,m.2))))))))))))))))
theorem uG.ok {a0 : aJ} {a1 : qG} {r : aJ × Int} (H : uG.f k a0 a1 = some r) : dk Tryz.prog 12 #[.agg (al a0 af ag ay az au av aw ax).toArray,.agg #[.int .u8 a1.f0,ae a1.f1,ae a1.f2,.bool a1.f3]] (cH a0 af ag ay az au av aw ax) (fun v B=>∃ aS aT bv bx bq br bw bz,v = .tuple #[.agg (al r.1 aS aT bv bx bq br bw bz).toArray,ae r.2]∧B = (bn r.1 aS aT bv bx bq br bw bz)):=by
 refine aj Tryz.func12 rfl rfl ?_
 unfold uG.f at H
 refine aR (o' (bO (h:=fun b5=>o' (bO (h:=fun b7=>o' (cw (h:=fun a=>ad aW (h:=eD (ad aA (h:=bp (aP 5) (h:=bA (aQ (aR (S' (bk rfl rfl) ?_))))))))))))))
 refine ad aW (h:=bA ?_)
 rcases bE H with⟨f8,H⟩|⟨f8,H⟩
 ·refine aC rfl f8 (aR (bp (cm 4) (h:=ad aA (h:=bp (aP 5) (h:=s' (aL (IntKind.i32.wrap (a1.f1))) (jQ (T:=3) (by kernel_rfl) Tryz.underlying21 rfl) ?_)))))
  obtain⟨o1,n0,H⟩:=ac H
  refine o' (ed [0,1,2,3] [0,1,2,3,4,5,6] (uH.ok n0) fun g4 i9 g5 j0 g6 j1 g7 j2=>?_)
  refine ad cr (h:=ad cr (h:=o' (bi a 0 10 (al o1.1 g4 i9 g5 j0 g6 j1 g7 j2) (h:=ad aW (h:=cC (ba (aG ?_)))))))
  have h:=aN H;subst h
  exact du [.cell 4 34,.tmp 5] [0,1,2,3] ⟨g4,i9,g5,j0,g6,j1,g7,j2,rfl,rfl⟩ ⟨cV 10,cW,trivial⟩
 refine aB rfl f8 (aR (ad (bk rfl rfl) (h:=ad aW (h:=bA ?_))))
 rcases bE H with⟨f9,H⟩|⟨f9,H⟩
 ·refine aC rfl f9 (aR (bp (cm 4) (h:=ad aA (h:=bp (aP 5) (h:=s' (aL (IntKind.i32.wrap (a1.f1))) (jQ (T:=3) (by kernel_rfl) Tryz.underlying21 rfl) ?_)))))
  obtain⟨o2,n1,H⟩:=ac H
  refine o' (ed [0,1,2,3] [0,1,2,3,4,5,6] (we.ok n1) fun g8 j3 g9 j4 h0 j5 h1 j6=>?_)
  refine ad cr (h:=ad cr (h:=o' (bi a 0 10 (al o2.1 g8 j3 g9 j4 h0 j5 h1 j6) (h:=ad aW (h:=cC (ba (aG ?_)))))))
  have h:=aN H;subst h
  exact du [.cell 4 34,.tmp 5] [0,1,2,3] ⟨g8,j3,g9,j4,h0,j5,h1,j6,rfl,rfl⟩ ⟨cV 10,cW,trivial⟩
 refine aB rfl f9 (aR (ad (bk rfl rfl) (h:=ad aW (h:=bA ?_))))
 rcases bE H with⟨g0,H⟩|⟨g0,H⟩
 ·refine aC rfl g0 (aR (bp (cm 4) (h:=ad aA (h:=bp (aP 5) (h:=ad aA (h:=l' (aP 5) ?_))))))
  obtain⟨o3,n2,H⟩:=ac H
  refine o' (ed [0,1,2,3] [0,1,2,3,4,5,6] (wg.ok n2) fun h3 j7 h4 j8 h5 j9 h6 k0=>?_)
  refine ad cr (h:=ad cr (h:=o' (bi a 0 10 (al o3.1 h3 j7 h4 j8 h5 j9 h6 k0) (h:=ad aW (h:=cC (ba (aG ?_)))))))
  have h:=aN H;subst h
  exact du [.cell 4 34,.tmp 5] [0,1,2,3] ⟨h3,j7,h4,j8,h5,j9,h6,k0,rfl,rfl⟩ ⟨cV 10,cW,trivial⟩
 refine aB rfl g0 (aR (ad (bk rfl rfl) (h:=ad aW (h:=bA ?_))))
 rcases bE H with⟨g1,H⟩|⟨g1,H⟩
 ·refine aC rfl g1 (aR (bp (cm 4) (h:=ad aA (h:=bp (aP 5) (h:=ad aA (h:=l' (aP 5) ?_))))))
  obtain⟨o4,n3,H⟩:=ac H
  refine o' (ed [0,1,2,3] [0,1,2,3,4,5,6] (wh.ok n3) fun h7 k1 h8 k2 h9 k3 i0 k4=>?_)
  refine ad cr (h:=ad cr (h:=o' (bi a 0 10 (al o4.1 h7 k1 h8 k2 h9 k3 i0 k4) (h:=ad aW (h:=cC (ba (aG ?_)))))))
  have h:=aN H;subst h
  exact du [.cell 4 34,.tmp 5] [0,1,2,3] ⟨h7,k1,h8,k2,h9,k3,i0,k4,rfl,rfl⟩ ⟨cV 10,cW,trivial⟩
 refine aB rfl g1 (aR (ad (bk rfl rfl) (h:=ad aW (h:=bA ?_))))
 rcases bE H with⟨g2,H⟩|⟨g2,H⟩
 ·refine aC rfl g2 (aR (bp (cm 4) (h:=ad aA (h:=bp (aP 5) (h:=ad aA (h:=l' (aP 5) ?_))))))
  obtain⟨o5,o0,H⟩:=ac H
  refine o' (ed [0,1,2,3] [0,1,2,3,4,5,6] (wi.ok o0) fun i1 k5 i2 k6 i3 k7 i4 k8=>?_)
  refine ad cr (h:=ad cr (h:=o' (bi a 0 10 (al o5.1 i1 k5 i2 k6 i3 k7 i4 k8) (h:=ad aW (h:=cC (ba (aG ?_)))))))
  have h:=aN H;subst h
  exact du [.cell 4 34,.tmp 5] [0,1,2,3] ⟨i1,k5,i2,k6,i3,k7,i4,k8,rfl,rfl⟩ ⟨cV 10,cW,trivial⟩
 refine aB rfl g2 (aR (ad (bk rfl rfl) (h:=ad aW (h:=bA ?_))))
 rcases bE H with⟨g3,H⟩|⟨g3,H⟩
 ·refine aC rfl g3 (aR (bp (cm 4) (h:=ad aA (h:=l' (aP 5) ?_))))
  obtain⟨o6,l3,H⟩:=ac H
  refine o' (ed [0,1,2,3] [0,1,2,3,4,5,6] (wj.ok l3) fun i5 k9 i6 l0 i7 l1 i8 l2=>?_)
  refine ad cr (h:=ad cr (h:=o' (bi a 0 10 (al o6.1 i5 k9 i6 l0 i7 l1 i8 l2) (h:=ad aW (h:=cC (ba (aG ?_)))))))
  have h:=aN H;subst h
  exact du [.cell 4 34,.tmp 5] [0,1,2,3] ⟨i5,k9,i6,l0,i7,l1,i8,l2,rfl,rfl⟩ ⟨cV 10,cW,trivial⟩
 refine aB rfl g3 (aR (ad (bk rfl rfl) (h:=ad aW (h:=bA ?_))))
 rcases bE H with⟨b,H⟩|⟨b,H⟩
 ·refine aC rfl b (aR (bp (cm 4) (h:=ad aA (h:=l' (aP 5) ?_))))
  obtain⟨m2,l4,H⟩:=ac H
  refine o' (ed [0,1,2,3] [0,1,2,3,4,5,6] (wk.ok l4) fun q b4 s b6 u b8 y c5=>?_)
  refine ad cr (h:=ad cr (h:=o' (bi a 0 10 (al m2.1 q b4 s b6 u b8 y c5) (h:=ad aW (h:=cC (ba (aG ?_)))))))
  have h:=aN H;subst h
  exact du [.cell 4 34,.tmp 5] [0,1,2,3] ⟨q,b4,s,b6,u,b8,y,c5,rfl,rfl⟩ ⟨cV 10,cW,trivial⟩
 refine aB rfl b (aR (ad (bk rfl rfl) (h:=ad aW (h:=bA ?_))))
 rcases bE H with⟨c,H⟩|⟨c,H⟩
 ·refine aC rfl c (aR (bp (cm 4) (h:=ad aA (h:=l' (aP 5) ?_))))
  obtain⟨m3,l5,H⟩:=ac H
  refine o' (ed [0,1,2,3] [0,1,2,3,4,5,6] (wm.ok l5) fun z c6 D c7 E c8 F c9=>?_)
  refine ad cr (h:=ad cr (h:=o' (bi a 0 10 (al m3.1 z c6 D c7 E c8 F c9) (h:=ad aW (h:=cC (ba (aG ?_)))))))
  have h:=aN H;subst h
  exact du [.cell 4 34,.tmp 5] [0,1,2,3] ⟨z,c6,D,c7,E,c8,F,c9,rfl,rfl⟩ ⟨cV 10,cW,trivial⟩
 refine aB rfl c (aR (ad (bk rfl rfl) (h:=ad aW (h:=bA ?_))))
 rcases bE H with⟨d,H⟩|⟨d,H⟩
 ·refine aC rfl d (aR (bp (cm 4) (h:=ad aA (h:=bp (aP 5) (h:=ad aA (h:=l' (aP 5) ?_))))))
  obtain⟨m4,l6,H⟩:=ac H
  refine o' (ed [0,1,2,3] [0,1,2,3,4,5,6] (wn.ok l6) fun I d0 J d1 K d2 L d3=>?_)
  refine ad cr (h:=ad cr (h:=o' (bi a 0 10 (al m4.1 I d0 J d1 K d2 L d3) (h:=ad aW (h:=cC (ba (aG ?_)))))))
  have h:=aN H;subst h
  exact du [.cell 4 34,.tmp 5] [0,1,2,3] ⟨I,d0,J,d1,K,d2,L,d3,rfl,rfl⟩ ⟨cV 10,cW,trivial⟩
 refine aB rfl d (aR (ad (bk rfl rfl) (h:=ad aW (h:=bA (SA.of_St (l:=[(2,aH b5),(3,aH b7),(4,aH a),(7,.int .u8 a1.f0),(90,.bool (decide (a1.f0 = 9)))]) (B:=(aK b5 34 (al a0 af ag ay az au av aw ax)::(cH a0 af ag ay az au av aw ax++[aK b7 44 [.int .u8 a1.f0,ae a1.f1,ae a1.f2,.bool a1.f3],aK a 34 (al cy none 0 none 0 none 0 none 0)]))) (St.mk1 (cB rfl (cB rfl (cB rfl (cB rfl (cB rfl dS))))) (Gh.sel [4,0,1,2,3,5,6] (by kernel_rfl) (by kernel_rfl))) fun junk=>?_)))))
 rcases bE H with⟨j,H⟩|⟨j,H⟩
 ·refine aC rfl j (aR (bp (cm 0) (h:=ad aA (h:=l' (aP 5) ?_))))
  obtain⟨m5,l7,H⟩:=ac H
  refine o' (ed [1,2,3,4] [0,1,2,3,4,5,6] (wb.ok l7) fun M d4 N d5 O d6 R d7=>?_)
  refine ad cr (h:=ad cr (h:=o' (bi a 0 10 (al m5.1 M d4 N d5 O d6 R d7) (h:=ad aW (h:=cC (ba (aG ?_)))))))
  have h:=aN H;subst h
  exact du [.cell 4 34,.tmp 5] [0,1,2,3] ⟨M,d4,N,d5,O,d6,R,d7,rfl,rfl⟩ ⟨cV 10,cW,trivial⟩
 refine aB rfl j (aR (ad (bk rfl rfl) (h:=ad aW (h:=bA ?_))))
 rcases bE H with⟨m,H⟩|⟨m,H⟩
 ·refine aC rfl m (aR (bp (cm 0) (h:=ad aA (h:=bp (aP 5) (h:=ad aA (h:=bp (aP 5) (h:=ad aA (h:=bp (aP 5) (h:=S' (eK rfl rfl) ?_)))))))))
  obtain⟨m6,l8,H⟩:=ac H
  refine o' (ed [1,2,3,4] [0,1,2,3,4,5,6] (wo.ok l8) fun S d8 U d9 Y e0 Z e1=>?_)
  refine ad cr (h:=ad cr (h:=o' (bi a 0 10 (al m6.1 S d8 U d9 Y e0 Z e1) (h:=ad aW (h:=cC (ba (aG ?_)))))))
  have h:=aN H;subst h
  exact du [.cell 4 34,.tmp 5] [0,1,2,3] ⟨S,d8,U,d9,Y,e0,Z,e1,rfl,rfl⟩ ⟨cV 10,cW,trivial⟩
 refine aB rfl m (aR (ad (bk rfl rfl) (h:=ad aW (h:=bA ?_))))
 rcases bE H with⟨o,H⟩|⟨o,H⟩
 ·refine aC rfl o (aR (bp (cm 0) (h:=ad aA (h:=l' (aP 5) ?_))))
  obtain⟨m7,l9,H⟩:=ac H
  refine o' (ed [1,2,3,4] [0,1,2,3,4,5,6] (wq.ok l9) fun a2 e2 a3 e3 a4 e4 a5 e5=>?_)
  refine ad cr (h:=ad cr (h:=o' (bi a 0 10 (al m7.1 a2 e2 a3 e3 a4 e4 a5 e5) (h:=ad aW (h:=cC (ba (aG ?_)))))))
  have h:=aN H;subst h
  exact du [.cell 4 34,.tmp 5] [0,1,2,3] ⟨a2,e2,a3,e3,a4,e4,a5,e5,rfl,rfl⟩ ⟨cV 10,cW,trivial⟩
 refine aB rfl o (aR (ad (bk rfl rfl) (h:=ad aW (h:=bA ?_))))
 rcases bE H with⟨p,H⟩|⟨p,H⟩
 ·refine aC rfl p (aR (bp (cm 0) (h:=ad aA (h:=l' (aP 5) ?_))))
  obtain⟨m8,m0,H⟩:=ac H
  refine o' (ed [1,2,3,4] [0,1,2,3,4,5,6] (ws.ok m0) fun a6 e6 a7 e7 a8 e8 a9 e9=>?_)
  refine ad cr (h:=ad cr (h:=o' (bi a 0 10 (al m8.1 a6 e6 a7 e7 a8 e8 a9 e9) (h:=ad aW (h:=cC (ba (aG ?_)))))))
  have h:=aN H;subst h
  exact du [.cell 4 34,.tmp 5] [0,1,2,3] ⟨a6,e6,a7,e7,a8,e8,a9,e9,rfl,rfl⟩ ⟨cV 10,cW,trivial⟩
 refine aB rfl p (ap (aF (aa (aR (bp (cm 0) (h:=ad aA (h:=bp (aP 5) (h:=ad aA (h:=l' (aP 5) ?_)))))))))
 obtain⟨m9,m1,H⟩:=ac H
 refine o' (ed [1,2,3,4] [0,1,2,3,4,5,6] (wt.ok m1) fun b0 f4 b1 f5 b2 f6 b3 f7=>?_)
 refine ad cr (h:=ad cr (h:=o' (bi a 0 10 (al m9.1 b0 f4 b1 f5 b2 f6 b3 f7) (h:=ad aW (h:=cC ?_)))))
 have h:=aN H;subst h
 exact du [.cell 4 34,.tmp 5] [0,1,2,3] ⟨b0,f4,b1,f5,b2,f6,b3,f7,rfl,rfl⟩ ⟨cV 10,cW,trivial⟩


def qJ.f  : Option ((List bY)):=some ((((bY.mk 768 879)::(bY.mk 1155 1161)::(bY.mk 1425 1469)::(bY.mk 1471 1471)::(bY.mk 1473 1474)::(bY.mk 1552 1562)::(bY.mk 1611 1631)::(bY.mk 1750 1756)::(bY.mk 2304 2306)::(bY.mk 2364 2364)::(bY.mk 2369 2376)::(bY.mk 2381 2381)::(bY.mk 3633 3633)::(bY.mk 3636 3642)::(bY.mk 6832 6911)::(bY.mk 7616 7679)::(bY.mk 8203 8207)::(bY.mk 8234 8238)::(bY.mk 8288 8292)::(bY.mk 8400 8447)::(bY.mk 12330 12333)::(bY.mk 12441 12442)::(bY.mk 65024 65039)::(bY.mk 65056 65071)::(bY.mk 65279 65279)::(bY.mk 917760 917999)::[]) : (List bY)))
theorem qJ.ok  {r : (List bY)} (H : qJ.f  = some r) : dk Tryz.prog 141 #[] [] (fun v B=>∃ aS aT,v = .slice aS r.length aT∧B = [Buf qn 151 aS aT r]):=by
 refine aj Tryz.func141 rfl rfl ?_
 unfold qJ.f at H
 refine aR (ad aW (h:=cP (bP (.agg #[aL 768,aL 879]) dP (h:=bP (.agg #[aL 1155,aL 1161]) dP (h:=bP (.agg #[aL 1425,aL 1469]) dP (h:=bP (.agg #[aL 1471,aL 1471]) dP (h:=bP (.agg #[aL 1473,aL 1474]) dP (h:=bP (.agg #[aL 1552,aL 1562]) dP (h:=s' (.agg #[aL 1611,aL 1631]) dP ?_)))))))))
 refine bP (.agg #[aL 1750,aL 1756]) dP (h:=bP (.agg #[aL 2304,aL 2306]) dP (h:=bP (.agg #[aL 2364,aL 2364]) dP (h:=bP (.agg #[aL 2369,aL 2376]) dP (h:=bP (.agg #[aL 2381,aL 2381]) dP (h:=bP (.agg #[aL 3633,aL 3633]) dP (h:=bP (.agg #[aL 3636,aL 3642]) dP (h:=bP (.agg #[aL 6832,aL 6911]) dP (h:=bP (.agg #[aL 7616,aL 7679]) dP (h:=s' (.agg #[aL 8203,aL 8207]) dP ?_)))))))))
 refine bP (.agg #[aL 8234,aL 8238]) dP (h:=bP (.agg #[aL 8288,aL 8292]) dP (h:=bP (.agg #[aL 8400,aL 8447]) dP (h:=bP (.agg #[aL 12330,aL 12333]) dP (h:=bP (.agg #[aL 12441,aL 12442]) dP (h:=bP (.agg #[aL 65024,aL 65039]) dP (h:=bP (.agg #[aL 65056,aL 65071]) dP (h:=bP (.agg #[aL 65279,aL 65279]) dP (h:=bP (.agg #[aL 917760,aL 917999]) dP (h:=o' (gE (kd:=qn) (zv:=(.agg #[aL 0,aL 0])) (sz:=2) (cells:=(aL 768::aL 879::aL 1155::aL 1161::aL 1425::aL 1469::aL 1471::aL 1471::aL 1473::aL 1474::aL 1552::aL 1562::aL 1611::aL 1631::aL 1750::aL 1756::aL 2304::aL 2306::aL 2364::aL 2364::aL 2369::aL 2376::aL 2381::aL 2381::aL 3633::aL 3633::aL 3636::aL 3642::aL 6832::aL 6911::aL 7616::aL 7679::aL 8203::aL 8207::aL 8234::aL 8238::aL 8288::aL 8292::aL 8400::aL 8447::aL 12330::aL 12333::aL 12441::aL 12442::aL 65024::aL 65039::aL 65056::aL 65071::aL 65279::aL 65279::aL 917760::aL 917999::[])) (xs:=(((bY.mk 768 879)::(bY.mk 1155 1161)::(bY.mk 1425 1469)::(bY.mk 1471 1471)::(bY.mk 1473 1474)::(bY.mk 1552 1562)::(bY.mk 1611 1631)::(bY.mk 1750 1756)::(bY.mk 2304 2306)::(bY.mk 2364 2364)::(bY.mk 2369 2376)::(bY.mk 2381 2381)::(bY.mk 3633 3633)::(bY.mk 3636 3642)::(bY.mk 6832 6911)::(bY.mk 7616 7679)::(bY.mk 8203 8207)::(bY.mk 8234 8238)::(bY.mk 8288 8292)::(bY.mk 8400 8447)::(bY.mk 12330 12333)::(bY.mk 12441 12442)::(bY.mk 65024 65039)::(bY.mk 65056 65071)::(bY.mk 65279 65279)::(bY.mk 917760 917999)::[]) : (List bY))) rfl Tryz.underlying132 pB sq rfl rfl rfl (by kernel_rfl) rfl rfl (dO mR (fun _ _=>rfl) (by kernel_rfl)) fun a=>?_))))))))))
 refine ad aW (h:=cC ?_)
 have h:=aN H;subst h
 exact dX [0] ⟨some ⟨a,0,none⟩,26,rfl,rfl⟩


def gj.l0 (l0 : (List bY)) (a1 : Int) : Nat → Int → Option (Out (Bool) (Unit))
  | 0,_=>none
  | k + 1,a=>if a < (l0.length : Int) then (if 0 ≤ a∧a < (l0.length : Int) then ((if a1 ≥ ((rd l0 a).f0) then (if 0 ≤ a∧a < (l0.length : Int) then (some (decide (a1 ≤ ((rd l0 a).f1)))) else none) else (some false) : Option Bool).bind (fun b=>if b = true then (some (Out.ret (true))) else (lt (i64.wrap (a + 1)) fun n15=>gj.l0 l0 a1 k n15))) else none) else (some (Out.go ()))
def gj.f (k : Nat) (l0 : (List bY)) (a1 : Int) : Option (Bool):=(gj.l0 l0 a1 k 0 : Option (Out (Bool) (Unit))).bind (fun a=>Out.el a (fun r_=>some r_) (fun b=>some (false)))
theorem gj.ok {l0 : (List bY)} {a1 : Int} {A0 : Option Addr} {c0 : Nat} {r : Bool} (H : gj.f k l0 a1 = some r) : fS Tryz.prog 140 #[.slice A0 l0.length c0,aL a1] [Buf qn 151 A0 c0 l0] (.bool r):=by
 refine aj Tryz.func140 rfl rfl ?_
 unfold gj.f at H
 refine aR (ad aW (h:=eD (ad aW (h:=bA ?_))))
 obtain⟨I,H,c⟩:=ac H
 refine bI (fun e ds As=>∃ (F : Unit),I = Out.go F∧St [] [Buf qn 151 A0 c0 l0] e ds As) ?_ ?_
 ·refine aQ (cj (fun k_ e ds As=>∃ (a : Int),gj.l0 l0 a1 k_ a = some I∧St [(0,.slice A0 l0.length c0),(1,aL a1),(5,ae a)] [Buf qn 151 A0 c0 l0] e ds As) (k:=k) ⟨_,H,jV [0]⟩ ?_)
  clear H
  rintro B e ds As ⟨a,H,z⟩
  obtain _ | B:=B
  ·cases H
  rw [gj.l0] at H
  refine SA.of_St z fun junk=>ao (aR (ad ar (h:=ad ar (h:=bP (ae (l0.length : Int)) (cO Tryz.underlying132 rfl) (h:=ad (ce rfl rfl) (h:=bA ?_))))))
  rcases bE H with⟨u,H⟩|⟨u,H⟩
  ·refine aC rfl u (ap (aa (ao (aQ (aR (ad ar (h:=ad ar (h:=S' ar ?_))))))))
   obtain⟨⟨D,E⟩,H⟩:=aO H
   refine bp (bu (i:=a) Tryz.underlying132 sq rfl rfl (Src.buf (k:=0) rfl) D E) (h:=bP (.pointer (some ((el A0 (a.toNat * 2)).add 0))) (lp (el A0 (a.toNat * 2)) 0 0) (h:=bp (bJ (enc:=mR) (i:=a) (j:=a.toNat * 2) (m:=0) (sz:=2) Tryz.underlying21 rfl rfl rfl rfl (Src.buf (k:=0) rfl) D E (fun _ _ h=>h) rfl) (h:=ad (dT rfl rfl) (h:=S' ar ?_))))
   obtain⟨J,H,p⟩:=ac H
   refine cK 8 (St [(0,.slice A0 l0.length c0),(1,aL a1),(5,ae a),(27,.bool J)] [Buf qn 151 A0 c0 l0]) ?_ ?_
   ·rcases bE H with⟨b,H⟩|⟨b,H⟩
    ·refine bf (ai b) ar (h:=bf (ai b) ar (h:=Y' (ai b) ar ?_))
     obtain⟨⟨q,s⟩,H⟩:=aO H
     refine cE (ai b) (bu (i:=a) Tryz.underlying132 sq rfl rfl (Src.buf (k:=0) rfl) q s) (h:=iI (ai b) (.pointer (some ((el A0 (a.toNat * 2)).add 1))) (lp (el A0 (a.toNat * 2)) 0 1) (h:=cE (ai b) (bJ (enc:=mR) (i:=a) (j:=a.toNat * 2) (m:=1) (sz:=2) Tryz.underlying21 rfl rfl rfl rfl (Src.buf (k:=0) rfl) q s (fun _ _ h=>h) rfl) (h:=bf (ai b) (gG rfl rfl) (h:=gN (ai b) ?_))))
     have h:=aN H;subst h
     exact dL [0]
    refine cu 7 (am b) (fZ (am b) ?_)
    have h:=aN H;subst h
    exact dL [0]
   rintro e ds As l
   clear H
   have H:=p
   clear p
   refine bA (SA.of_St l fun junk=>?_)
   rcases bE H with⟨d,H⟩|⟨d,H⟩
   ·refine aD rfl d (aR (ad aW (h:=cC (ba (aG (aG (ba (aG (aG ?_)))))))))
    have h:=aN H;subst h
    have hb_:=dw c
    have hr_:=Option.some.inj hb_
    clear hb_
    subst hr_
    exact dX [0] ⟨rfl,rfl⟩
   refine aE rfl d (ap (aF (aa (ak (ad ar (h:=S' (bW rfl rfl) ?_))))))
   obtain⟨n15,y,H⟩:=bj H
   refine bP (ae n15) (bo (v:=ae n15) (congrArg (Value.int .i64) y.symm)) (h:=ah ?_)
   exact aa ⟨B,Nat.lt_succ_self _,_,H,dZ [0]⟩
  refine aB rfl u (cf (aX (aX (cg ?_))))
  have h:=aN H;subst h
  exact aa ⟨(),rfl,dZ [0]⟩
 rintro e ds As ⟨F,ht,o⟩
 clear H
 subst ht
 replace c:=fw c
 have H:=c
 clear c
 refine aa (SA.of_St o fun junk=>aR (ad aW (h:=cC ?_)))
 have h:=aN H;subst h
 exact dX [0] ⟨rfl,rfl⟩


def qK.f  : Option ((List bY)):=some ((((bY.mk 4352 4447)::(bY.mk 8986 8987)::(bY.mk 9001 9002)::(bY.mk 9193 9196)::(bY.mk 9725 9726)::(bY.mk 9748 9749)::(bY.mk 9800 9811)::(bY.mk 9889 9889)::(bY.mk 9917 9918)::(bY.mk 9989 9989)::(bY.mk 10024 10024)::(bY.mk 10060 10060)::(bY.mk 10067 10069)::(bY.mk 10133 10135)::(bY.mk 11035 11036)::(bY.mk 11088 11088)::(bY.mk 11904 12350)::(bY.mk 12353 13311)::(bY.mk 13312 19903)::(bY.mk 19968 40959)::(bY.mk 40960 42191)::(bY.mk 44032 55203)::(bY.mk 63744 64255)::(bY.mk 65072 65135)::(bY.mk 65281 65376)::(bY.mk 65504 65510)::(bY.mk 127744 127776)::(bY.mk 127789 127797)::(bY.mk 127799 127868)::(bY.mk 128000 128062)::(bY.mk 128064 128064)::(bY.mk 128066 128252)::(bY.mk 128512 128591)::(bY.mk 128640 128709)::(bY.mk 129280 129535)::(bY.mk 131072 196605)::(bY.mk 196608 262141)::[]) : (List bY)))
theorem qK.ok  {r : (List bY)} (H : qK.f  = some r) : dk Tryz.prog 142 #[] [] (fun v B=>∃ aS aT,v = .slice aS r.length aT∧B = [Buf qn 151 aS aT r]):=by
 refine aj Tryz.func142 rfl rfl ?_
 unfold qK.f at H
 refine aR (ad aW (h:=cP (bP (.agg #[aL 4352,aL 4447]) dP (h:=bP (.agg #[aL 8986,aL 8987]) dP (h:=bP (.agg #[aL 9001,aL 9002]) dP (h:=bP (.agg #[aL 9193,aL 9196]) dP (h:=bP (.agg #[aL 9725,aL 9726]) dP (h:=bP (.agg #[aL 9748,aL 9749]) dP (h:=s' (.agg #[aL 9800,aL 9811]) dP ?_)))))))))
 refine bP (.agg #[aL 9889,aL 9889]) dP (h:=bP (.agg #[aL 9917,aL 9918]) dP (h:=bP (.agg #[aL 9989,aL 9989]) dP (h:=bP (.agg #[aL 10024,aL 10024]) dP (h:=bP (.agg #[aL 10060,aL 10060]) dP (h:=bP (.agg #[aL 10067,aL 10069]) dP (h:=bP (.agg #[aL 10133,aL 10135]) dP (h:=bP (.agg #[aL 11035,aL 11036]) dP (h:=bP (.agg #[aL 11088,aL 11088]) dP (h:=s' (.agg #[aL 11904,aL 12350]) dP ?_)))))))))
 refine bP (.agg #[aL 12353,aL 13311]) dP (h:=bP (.agg #[aL 13312,aL 19903]) dP (h:=bP (.agg #[aL 19968,aL 40959]) dP (h:=bP (.agg #[aL 40960,aL 42191]) dP (h:=bP (.agg #[aL 44032,aL 55203]) dP (h:=bP (.agg #[aL 63744,aL 64255]) dP (h:=bP (.agg #[aL 65072,aL 65135]) dP (h:=bP (.agg #[aL 65281,aL 65376]) dP (h:=bP (.agg #[aL 65504,aL 65510]) dP (h:=s' (.agg #[aL 127744,aL 127776]) dP ?_)))))))))
 refine bP (.agg #[aL 127789,aL 127797]) dP (h:=bP (.agg #[aL 127799,aL 127868]) dP (h:=bP (.agg #[aL 128000,aL 128062]) dP (h:=bP (.agg #[aL 128064,aL 128064]) dP (h:=bP (.agg #[aL 128066,aL 128252]) dP (h:=bP (.agg #[aL 128512,aL 128591]) dP (h:=bP (.agg #[aL 128640,aL 128709]) dP (h:=bP (.agg #[aL 129280,aL 129535]) dP (h:=bP (.agg #[aL 131072,aL 196605]) dP (h:=s' (.agg #[aL 196608,aL 262141]) dP ?_)))))))))
 refine o' (gE (kd:=qn) (zv:=(.agg #[aL 0,aL 0])) (sz:=2) (cells:=(aL 4352::aL 4447::aL 8986::aL 8987::aL 9001::aL 9002::aL 9193::aL 9196::aL 9725::aL 9726::aL 9748::aL 9749::aL 9800::aL 9811::aL 9889::aL 9889::aL 9917::aL 9918::aL 9989::aL 9989::aL 10024::aL 10024::aL 10060::aL 10060::aL 10067::aL 10069::aL 10133::aL 10135::aL 11035::aL 11036::aL 11088::aL 11088::aL 11904::aL 12350::aL 12353::aL 13311::aL 13312::aL 19903::aL 19968::aL 40959::aL 40960::aL 42191::aL 44032::aL 55203::aL 63744::aL 64255::aL 65072::aL 65135::aL 65281::aL 65376::aL 65504::aL 65510::aL 127744::aL 127776::aL 127789::aL 127797::aL 127799::aL 127868::aL 128000::aL 128062::aL 128064::aL 128064::aL 128066::aL 128252::aL 128512::aL 128591::aL 128640::aL 128709::aL 129280::aL 129535::aL 131072::aL 196605::aL 196608::aL 262141::[])) (xs:=(((bY.mk 4352 4447)::(bY.mk 8986 8987)::(bY.mk 9001 9002)::(bY.mk 9193 9196)::(bY.mk 9725 9726)::(bY.mk 9748 9749)::(bY.mk 9800 9811)::(bY.mk 9889 9889)::(bY.mk 9917 9918)::(bY.mk 9989 9989)::(bY.mk 10024 10024)::(bY.mk 10060 10060)::(bY.mk 10067 10069)::(bY.mk 10133 10135)::(bY.mk 11035 11036)::(bY.mk 11088 11088)::(bY.mk 11904 12350)::(bY.mk 12353 13311)::(bY.mk 13312 19903)::(bY.mk 19968 40959)::(bY.mk 40960 42191)::(bY.mk 44032 55203)::(bY.mk 63744 64255)::(bY.mk 65072 65135)::(bY.mk 65281 65376)::(bY.mk 65504 65510)::(bY.mk 127744 127776)::(bY.mk 127789 127797)::(bY.mk 127799 127868)::(bY.mk 128000 128062)::(bY.mk 128064 128064)::(bY.mk 128066 128252)::(bY.mk 128512 128591)::(bY.mk 128640 128709)::(bY.mk 129280 129535)::(bY.mk 131072 196605)::(bY.mk 196608 262141)::[]) : (List bY))) rfl Tryz.underlying132 pB sq rfl rfl rfl (by kernel_rfl) rfl rfl (dO mR (fun _ _=>rfl) (by kernel_rfl)) fun a=>ad aW (h:=cC ?_))
 have h:=aN H;subst h
 exact dX [0] ⟨some ⟨a,0,none⟩,37,rfl,rfl⟩


def qQ.f (k : Nat) (a0 : Int) : Option (Int):=(if a0 < 32 then (some true) else (if a0 ≥ 127 then (some (decide (a0 ≤ 159))) else (some false)) : Option Bool).bind (fun d=>lt (d || (decide (a0 > 1114111))) fun h=>(if h = true then (some true) else (if a0 ≥ 55296 then (some (decide (a0 ≤ 57343))) else (some false)) : Option Bool).bind (fun j=>if j = true then (some ((-1))) else ((qJ.f ).bind (fun a=>(gj.f k a a0).bind (fun b=>if b = true then (some (0)) else ((qK.f ).bind (fun xk=>(gj.f k xk a0).bind (fun c=>if c = true then (some (2)) else (some (1))))))))))
theorem qQ.ok {a0 : Int} {r : Int} (H : qQ.f k a0 = some r) : fS Tryz.prog 99 #[aL a0] [] (ae r):=by
 refine aj Tryz.func99 rfl rfl ?_
 unfold qQ.f at H
 refine aR (ad aW (h:=eD (ad ar (h:=ad (ce rfl rfl) (h:=S' ar ?_)))))
 obtain⟨J,H,y⟩:=ac H
 refine dy 7 [(0,aL a0),(12,.bool J)] [] ?_ fun junk=>?_
 ·rcases bE H with⟨h2,H⟩|⟨h2,H⟩
  ·refine cu 3 (ai h2) (fY (fY (cu 1 (ai h2) (gN (ai h2) ?_))))
   have h:=aN H;subst h
   exact dL []
  refine bf (am h2) ar (h:=bf (am h2) (dT rfl rfl) (h:=Y' (am h2) ar ?_))
  rcases bE H with⟨d,H⟩|⟨d,H⟩
  ·refine bf (ai d) ar (h:=bf (ai d) (gG rfl rfl) (h:=fT (am h2) (dr rfl (bS rfl (ai d) rfl) (fZ (am h2) ?_))))
   have h:=aN H;subst h
   exact dL []
  refine cu 2 (am d) (fT (am h2) (dr rfl (bR rfl (am d) rfl) (fZ (am h2) ?_)))
  have h:=aN H;subst h
  exact dL []
 replace H:=y
 refine S' ar ?_
 obtain⟨L,q,H⟩:=bj H
 refine dy 3 [(0,aL a0),(16,.bool L)] [] ?_ fun junk=>?_
 ·by_cases c : J = true
  ·refine cu 2 c (cd c (h:=ah ?_))
   have x_:=ji q c;exact bK []
  refine bf (aM c) ar (h:=bf (aM c) (eK rfl rfl) (h:=ck (aM c) (h:=ah ?_)))
  have x_:=jh q ((aM c));exact bK []
 refine S' ar ?_
 obtain⟨M,H,p⟩:=ac H
 refine cK 7 (St [(0,aL a0),(24,.bool M)] []) ?_ ?_
 ·rcases bE H with⟨a,H⟩|⟨a,H⟩
  ·refine cu 3 a (fY (fY (cu 1 a (gN a ?_))))
   have h:=aN H;subst h
   exact dL []
  refine bf (aM a) ar (h:=bf (aM a) (dT rfl rfl) (h:=Y' (aM a) ar ?_))
  rcases bE H with⟨b,H⟩|⟨b,H⟩
  ·refine bf (ai b) ar (h:=bf (ai b) (gG rfl rfl) (h:=fT (aM a) (dr rfl (bS rfl (ai b) rfl) (fZ (aM a) ?_))))
   have h:=aN H;subst h
   exact dL []
  refine cu 2 (am b) (fT (aM a) (dr rfl (bR rfl (am b) rfl) (fZ (aM a) ?_)))
  have h:=aN H;subst h
  exact dL []
 rintro e ds As o
 clear H
 have H:=p
 clear p
 refine bA (SA.of_St o fun junk=>?_)
 rcases bE H with⟨j,H⟩|⟨j,H⟩
 ·refine aD rfl j (aR (ad aW (h:=cD ?_)))
  have h:=aN H;subst h
  exact dX [] ⟨rfl,rfl⟩
 refine aE rfl j (ap (aa (ao (aR ?_))))
 obtain⟨N,E,H⟩:=ac H
 refine o' (gy [] [] (qJ.ok E) fun s F=>?_)
 refine S' ar ?_
 obtain⟨O,D,H⟩:=ac H
 refine o' (dc [0] [] (gj.ok (A0:=s) (c0:=F) D) ?_)
 refine bA ?_
 rcases bE H with⟨l,H⟩|⟨l,H⟩
 ·refine aD rfl l (aR (ad aW (h:=cD ?_)))
  have h:=aN H;subst h
  exact dX [] ⟨rfl,rfl⟩
 refine aE rfl l (ap (aa (ao (ao (bM 0 fun K=>ak ?_)))))
 obtain⟨xk,B,H⟩:=ac H
 refine o' (gy [] [0] (qK.ok B) fun u I=>?_)
 refine S' ar ?_
 obtain⟨R,z,H⟩:=ac H
 refine o' (dc [0] [1] (gj.ok (A0:=u) (c0:=I) z) ?_)
 refine bA ?_
 rcases bE H with⟨m,H⟩|⟨m,H⟩
 ·refine aD rfl m (aR (ad aW (h:=cD ?_)))
  have h:=aN H;subst h
  exact dX [] ⟨rfl,rfl⟩
 refine aE rfl m (ap (aa (aR (ad aW (h:=cC ?_)))))
 have h:=aN H;subst h
 exact dX [] ⟨rfl,rfl⟩


def kA.l0 (a0 : aY) : Nat → Int → Option (Out (Bool) (Unit))
  | 0,_=>none
  | k + 1,a=>if a < 3 then (if 0 ≤ a∧a < (3 : Int) then (if (rd ([a0.f1.f0,a0.f1.f1,a0.f1.f2] : List Int) a) = 0 then ((if (i64.wrap (a + 1)) < 3 then (if 0 ≤ (i64.wrap (a + 1))∧(i64.wrap (a + 1)) < (3 : Int) then (some (decide ((rd ([a0.f1.f0,a0.f1.f1,a0.f1.f2] : List Int) (i64.wrap (a + 1))) ≠ 0))) else none) else (some false) : Option Bool).bind (fun d=>if d = true then (some (Out.ret (false))) else (lt (i64.wrap (a + 1)) fun b=>kA.l0 a0 k b))) else (if 0 ≤ a∧a < (3 : Int) then ((qQ.f k (rd ([a0.f1.f0,a0.f1.f1,a0.f1.f2] : List Int) a)).bind (fun h=>if h ≠ 0 then (some (Out.ret (false))) else (lt (i64.wrap (a + 1)) fun c=>kA.l0 a0 k c))) else none)) else none) else (some (Out.go ()))
def kA.f (k : Nat) (a0 : aY) : Option (Bool):=(qa.f a0.f3).bind (fun d=>if (!d) = true then (some (false)) else (if a0.f2 = 0 then (lt ((decide (a0.f0 = 0)) && (decide (a0.f1 = (fX.mk 0 0 0)))) fun c=>some (c)) else ((if a0.f2 > 2 then (some true) else ((qQ.f k a0.f0).bind (fun a=>some (decide (a ≠ (i64.wrap (a0.f2)))))) : Option (Bool)).bind (fun j=>if j = true then (some (false)) else ((kA.l0 a0 k 0 : Option (Out (Bool) (Unit))).bind (fun b=>Out.el b (fun r_=>some r_) (fun h=>some (true))))))))
theorem kA.ok {a0 : aY} {r : Bool} (H : kA.f k a0 = some r) : fS Tryz.prog 110 #[.agg (bV a0).toArray] [] (.bool r):=by
 refine aj Tryz.func110 rfl rfl ?_
 unfold kA.f at H
 refine aR (o' (bO (h:=fun j=>ad aW (h:=eD (ad aA (h:=l' (cz j 5 0 (bF a0.f3)) ?_))))))
 obtain⟨r3,b3,H⟩:=ac H
 refine o' (dc [] [0] (qa.ok b3) ?_)
 refine ad (bX rfl) (h:=bA ?_)
 rcases bE H with⟨h4,H⟩|⟨h4,H⟩
 ·refine aD rfl h4 (aR (ad aW (h:=cD ?_)))
  have h:=aN H;subst h
  exact dX [] ⟨rfl,rfl⟩
 refine aE rfl h4 (ap (aa (ao (aR (ad aA (h:=bp (aP 0) (h:=ad (bk rfl rfl) (h:=bA ?_))))))))
 rcases bE H with⟨h5,H⟩|⟨h5,H⟩
 ·refine aC rfl h5 (aR (ad aA (h:=bp (aP 0) (h:=ad (bk rfl rfl) (h:=S' ar ?_)))))
  obtain⟨q6,a9,H⟩:=bj H
  refine dy 5 [(19,.bool q6)] [] ?_ fun junk=>?_
  ·by_cases s : a0.f0 = 0
   ·refine bf (ai s) aA (h:=cE (ai s) (cz j 1 0 [aL a0.f1.f0,aL a0.f1.f1,aL a0.f1.f2]) (h:=iI (ai s) (.agg #[aL 0,aL 0,aL 0]) gH (h:=iI (ai s) (.bool (decide (a0.f1 = (fX.mk 0 0 0)))) (kC (xs:=[aL a0.f1.f0,aL a0.f1.f1,aL a0.f1.f2]) (ys:=[aL 0,aL 0,aL 0]) (r:=((a0.f1.f0 == 0) && ((a0.f1.f1 == 0) && ((a0.f1.f2 == 0) && true)))) (p:=a0.f1 = (fX.mk 0 0 0)) vO rfl rfl (by kernel_rfl) (vQ (x:=a0.f1) (y:=(fX.mk 0 0 0)))) (h:=cd (ai s) (h:=ah ?_)))))
    have x_:=fD a9 ((ai s));exact bK []
   refine cu 4 (am s) (ck (am s) (h:=ah ?_))
   have x_:=fC a9 ((am s));exact bK []
  refine ad aW (h:=cD ?_)
  have h:=aN H;subst h
  exact dX [] ⟨rfl,rfl⟩
 refine aB rfl h5 (ap (aa (ao (ao ?_))))
 obtain⟨t9,H,a8⟩:=ac H
 refine bI (St [(1,aH j),(31,.bool t9)] [aK j 55 (bV a0)]) ?_ ?_
 ·refine fj (dt 0 12) [0] [] fun _ _ _ _ _ sH dd pk=>?_
  refine bc 0 rfl sH aA (h:=bQ 1 rfl sH (aP 0) (h:=bc 2 rfl sH (eK rfl rfl) (h:=T' 3 rfl sH ar ?_)))
  rcases bE H with⟨c,H⟩|⟨c,H⟩
  ·refine bT 4 rfl (ai c) (bT 5 rfl (ai c) (bT 6 rfl (ai c) (bT 7 rfl (ai c) (bT 8 rfl (ai c) (bT 9 rfl (ai c) (bT 10 rfl (ai c) (bQ 11 rfl sH (VR.ofV (bS rfl (ai c) rfl)) (h:=aV dd sH (aI (by kernel_rfl) ?_)))))))))
   have h:=aN H;subst h
   exact bK [0]
  refine cY 4 rfl (am c) sH aA (h:=cJ 5 rfl (am c) sH (aP 0) (h:=cY 7 rfl (am c) sH aA (h:=cJ 8 rfl (am c) sH (aP 0) (h:=By (ae (i64.wrap (a0.f2))) 9 rfl (am c) sH (jQ (T:=5) (by kernel_rfl) Tryz.underlying3 rfl) ?_))))
  obtain⟨b5,b0,H⟩:=ac H
  refine BP 6 rfl dd (am c) (dc [] [] (qQ.ok b0) ?_)
  refine cY 10 rfl (am c) sH (dK rfl rfl) (h:=bQ 11 rfl sH (VR.ofV (bR rfl (am c) rfl)) (h:=aV dd sH (aI (by kernel_rfl) ?_)))
  have h:=aN H;subst h
  exact bK [0]
 rintro e ds As U
 clear H
 have H:=a8
 clear a8
 refine aa (SA.of_St U fun junk=>?_)
 rcases bE H with⟨z,H⟩|⟨z,H⟩
 ·refine aD rfl z (aR (ad aW (h:=cD ?_)))
  have h:=aN H;subst h
  exact dX [] ⟨rfl,rfl⟩
 refine aE rfl z (ap (aa (ao (aR (ad aW (h:=bA ?_))))))
 obtain⟨a5,H,l⟩:=ac H
 refine bI (fun e ds As=>∃ (a4 : Unit),a5 = Out.go a4∧St [] [] e ds As) ?_ ?_
 ·refine aQ (cj (fun k_ e ds As=>∃ (a : Int),kA.l0 a0 k_ a = some a5∧St [(1,aH j),(3,ae a)] [aK j 55 (bV a0)] e ds As) (k:=k) ⟨_,H,jV [0]⟩ ?_)
  clear H
  rintro u e ds As ⟨a,H,Y⟩
  obtain _ | u:=u
  ·cases H
  rw [kA.l0] at H
  refine SA.of_St Y fun junk=>ao (aR (ad ar (h:=ad (ce rfl rfl) (h:=bA ?_))))
  rcases bE H with⟨D,H⟩|⟨D,H⟩
  ·refine aC rfl D (ap (aa (ao (aQ (aR (ad ar (h:=S' aA ?_)))))))
   obtain⟨⟨K,L⟩,H⟩:=aO H
   refine s' (.pointer (some ((⟨j,0,none⟩ : Addr).add (1 + a.toNat * 1 + 0)))) (gn (B:=⟨j,0,none⟩) (m:=1) (o:=1 + a.toNat * 1 + 0) Tryz.underlying53 iB rfl rfl K L rfl) ?_
   refine l' (gX (b:=j) (m:=1 + a.toNat * 1 + 0) (k:=0) (v:=aL (rd ([a0.f1.f0,a0.f1.f1,a0.f1.f2] : List Int) a)) Tryz.underlying21 rfl rfl rfl (oY (q:=0) (kd:=(Kd.int .i32)) (m0:=1) (N:=3) (sz:=1) (xs:=([a0.f1.f0,a0.f1.f1,a0.f1.f2] : List Int)) (i:=a) (dO (fun x_ : Int=>[Value.int .i32 x_]) (fun _ _=>rfl) (by kernel_rfl) _) rfl rfl K L (fun _ h_=>by rw [h_]; rfl))) ?_
   refine ad (bk rfl rfl) (h:=bA ?_)
   rcases bE H with⟨E,H⟩|⟨E,H⟩
   ·refine aC rfl E (aR (ad ar (h:=ad (bW rfl rfl) (h:=ad (ce rfl rfl) (h:=S' ar ?_)))))
    obtain⟨b4,H,J⟩:=ac H
    refine cK 7 (St [(1,aH j),(3,ae a),(51,.bool b4)] [aK j 55 (bV a0)]) ?_ ?_
    ·rcases bE H with⟨d,H⟩|⟨d,H⟩
     ·refine bf (ai d) ar (h:=bf (ai d) (bW rfl rfl) (h:=Y' (ai d) aA ?_))
      obtain⟨⟨M,O⟩,H⟩:=aO H
      refine y' (ai d) (.pointer (some ((⟨j,0,none⟩ : Addr).add (1 + (i64.wrap (a + 1)).toNat * 1 + 0)))) (gn (B:=⟨j,0,none⟩) (m:=1) (o:=1 + (i64.wrap (a + 1)).toNat * 1 + 0) Tryz.underlying53 iB rfl rfl M O rfl) ?_
      refine z' (ai d) (gX (b:=j) (m:=1 + (i64.wrap (a + 1)).toNat * 1 + 0) (k:=0) (v:=aL (rd ([a0.f1.f0,a0.f1.f1,a0.f1.f2] : List Int) (i64.wrap (a + 1)))) Tryz.underlying21 rfl rfl rfl (oY (q:=0) (kd:=(Kd.int .i32)) (m0:=1) (N:=3) (sz:=1) (xs:=([a0.f1.f0,a0.f1.f1,a0.f1.f2] : List Int)) (i:=i64.wrap (a + 1)) (dO (fun x_ : Int=>[Value.int .i32 x_]) (fun _ _=>rfl) (by kernel_rfl) _) rfl rfl M O (fun _ h_=>by rw [h_]; rfl))) ?_
      refine bf (ai d) (dK rfl rfl) (h:=gN (ai d) ?_)
      have h:=aN H;subst h
      exact dL [0]
     refine cu 6 (am d) (fZ (am d) ?_)
     have h:=aN H;subst h
     exact dL [0]
    rintro e ds As Z
    clear H
    have H:=J
    clear J
    refine bA (SA.of_St Z fun junk=>?_)
    rcases bE H with⟨F,H⟩|⟨F,H⟩
    ·refine aD rfl F (aR (ad aW (h:=cC (ba (aG (aG (ba (aG (aG ?_)))))))))
     have h:=aN H;subst h
     have hb_:=dw l
     have hr_:=Option.some.inj hb_
     clear hb_
     subst hr_
     exact dX [] ⟨rfl,rfl⟩
    refine aE rfl F (ap (aF (aa (ak (ad ar (h:=S' (bW rfl rfl) ?_))))))
    obtain⟨a2,a6,H⟩:=bj H
    refine bP (ae a2) (bo (v:=ae a2) (congrArg (Value.int .i64) a6.symm)) (h:=ah ?_)
    exact aa ⟨u,Nat.lt_succ_self _,_,H,dZ [0]⟩
   refine aB rfl E (aR (ad ar (h:=S' aA ?_)))
   obtain⟨⟨R,S⟩,H⟩:=aO H
   refine s' (.pointer (some ((⟨j,0,none⟩ : Addr).add (1 + a.toNat * 1 + 0)))) (gn (B:=⟨j,0,none⟩) (m:=1) (o:=1 + a.toNat * 1 + 0) Tryz.underlying53 iB rfl rfl R S rfl) ?_
   refine l' (gX (b:=j) (m:=1 + a.toNat * 1 + 0) (k:=0) (v:=aL (rd ([a0.f1.f0,a0.f1.f1,a0.f1.f2] : List Int) a)) Tryz.underlying21 rfl rfl rfl (oY (q:=0) (kd:=(Kd.int .i32)) (m0:=1) (N:=3) (sz:=1) (xs:=([a0.f1.f0,a0.f1.f1,a0.f1.f2] : List Int)) (i:=a) (dO (fun x_ : Int=>[Value.int .i32 x_]) (fun _ _=>rfl) (by kernel_rfl) _) rfl rfl R S (fun _ h_=>by rw [h_]; rfl))) ?_
   obtain⟨b6,b2,H⟩:=ac H
   refine o' (dc [] [0] (qQ.ok b2) ?_)
   refine ad (dK rfl rfl) (h:=bA ?_)
   rcases bE H with⟨I,H⟩|⟨I,H⟩
   ·refine aC rfl I (aR (ad aW (h:=cC (ba (aG (aG (ba (aG (aG ?_)))))))))
    have h:=aN H;subst h
    have hb_:=dw l
    have hr_:=Option.some.inj hb_
    clear hb_
    subst hr_
    exact dX [] ⟨rfl,rfl⟩
   refine aB rfl I (ap (aF (aa (ak (ad ar (h:=S' (bW rfl rfl) ?_))))))
   obtain⟨a3,a7,H⟩:=bj H
   refine bP (ae a3) (bo (v:=ae a3) (congrArg (Value.int .i64) a7.symm)) (h:=ah ?_)
   exact aa ⟨u,Nat.lt_succ_self _,_,H,dZ [0]⟩
  refine aB rfl D (cf (aX (aX (cg ?_))))
  have h:=aN H;subst h
  exact aa ⟨(),rfl,dZ []⟩
 rintro e ds As ⟨a4,ht,a1⟩
 clear H
 subst ht
 replace l:=fw l
 have H:=l
 clear l
 refine aa (SA.of_St a1 fun junk=>aR (ad aW (h:=cC ?_)))
 have h:=aN H;subst h
 exact dX [] ⟨rfl,rfl⟩

end Go.Proofs.YtckilbegmbaeeaaGreat.Z6

/- Walks. -/
import Derived.Test.YtckilbegmbaeeaaGreatZ611
namespace Go.Proofs.YtckilbegmbaeeaaGreat.Z6
open Go Go.RowKit Go.Proofs.YtckilbegmbaeeaaGreat.SL
open Go.IntKind (i64)
set_option linter.unusedVariables false
set_option maxHeartbeats 20000000
set_option maxRecDepth 100000
set_option linter.unusedSimpArgs false
attribute [local irreducible] IntKind.wrap da fk gR kN kD po ky eS kF rd sub bytesOf ib dj
variable {ag az av ax k : Nat}
variable {af ay au aw : Option Addr}
def fy.l0 (a1 : Int) (a3 : Int) (a4 : cM) (gB : bH) : Nat → Int → (List aY) → Option ((List aY))
  | 0,_,_=>none
  | k + 1,b,a=>if a.length = gB.f2.length then (if b < a3 then ((dv.f (bH.mk gB.f0 gB.f1 a) a1).bind (fun c=>if (0 ≤ c.1∧0 ≤ c.2∧c.1 + c.2 ≤ (a.length : Int)) then ((pE.f a4).bind (fun j=>if 0 ≤ b∧b < c.2 then (lt (a.set (c.1 + b).toNat j) fun d=>(lt (i64.wrap (b + 1)) fun h=>fy.l0 a1 a3 a4 gB k h d)) else none)) else none)) else (some a)) else none
def fy.f (k : Nat) (a0 : bH) (a1 : Int) (a2 : Int) (a3 : Int) (a4 : cM) : Option (bH × Int):=(ip.f k a0 a4 a1).bind (fun l=>lt (l || (decide (a2 < 0))) fun d=>lt (d || (decide (a2 > a3))) fun h=>lt (h || (decide (a3 > a0.f0))) fun j=>if j = true then (some (((bH.mk 0 0 ([] : (List aY))),2))) else ((hH.f a0).bind (fun gB=>(fy.l0 a1 a3 a4 gB k a2 gB.f2 : Option ((List aY))).bind (fun b=>if b.length = gB.f2.length then ((dv.f (bH.mk gB.f0 gB.f1 b) a1).bind (fun a=>if (0 ≤ a.1∧0 ≤ a.2∧a.1 + a.2 ≤ (b.length : Int)) then ((eJ.f k b a.1 a.2).bind (fun c=>if c.length = b.length then (some (((bH.mk gB.f0 gB.f1 c),0))) else none)) else none)) else none))))
theorem fy.ok {a0 : bH} {a1 : Int} {a2 : Int} {a3 : Int} {a4 : cM} {r : bH × Int} (H : fy.f k a0 a1 a2 a3 a4 = some r) : dk Tryz.prog 107 #[.agg #[ae a0.f0,ae a0.f1,.slice af a0.f2.length ag],ae a1,ae a2,ae a3,.agg (bF a4).toArray] [Buf bD 55 af ag a0.f2] (fun v B=>∃ aS aT,v = .tuple #[.agg #[ae r.1.f0,ae r.1.f1,.slice aS r.1.f2.length aT],ae r.2]∧B = [Buf bD 55 aS aT r.1.f2,Buf bD 55 af ag a0.f2]):=by
 refine aj Tryz.func107 rfl rfl ?_
 unfold fy.f at H
 refine aR (o' (bO (h:=fun D=>o' (bO (h:=fun z=>o' (cw (h:=fun u=>ad aW (h:=bA (ao (ao (bM 0 fun e0=>ak (bp (cz D 0 1 [ae a0.f0,ae a0.f1,.slice af a0.f2.length ag]) (h:=l' (cm 2) ?_)))))))))))))
 refine S' ar ?_
 obtain⟨r9,c5,H⟩:=ac H
 refine o' (dc [0] [1,2,3] (ip.ok c5) ?_)
 refine S' ar ?_
 obtain⟨b0,L,H⟩:=bj H
 refine dy 3 [(1,ae a1),(2,ae a2),(3,ae a3),(5,aH D),(9,aH z),(10,aH u),(21,.bool b0)] [Buf bD 55 af ag a0.f2,aK D 26 [ae a0.f0,ae a0.f1,.slice af a0.f2.length ag],aK z 28 (bF a4),aK u 26 [ae 0,ae 0,.slice none 0 0]] ?_ fun junk=>?_
 ·by_cases y : r9 = true
  ·refine cu 2 y (cd y (h:=ah ?_))
   have x_:=ji L y;exact bK [0,1,2,3]
  refine bf (aM y) ar (h:=bf (aM y) (ce rfl rfl) (h:=ck (aM y) (h:=ah ?_)))
  have x_:=jh L ((aM y));exact bK [0,1,2,3]
 refine S' ar ?_
 obtain⟨b1,M,H⟩:=bj H
 refine dy 4 [(1,ae a1),(2,ae a2),(3,ae a3),(5,aH D),(9,aH z),(10,aH u),(26,.bool b1)] [Buf bD 55 af ag a0.f2,aK D 26 [ae a0.f0,ae a0.f1,.slice af a0.f2.length ag],aK z 28 (bF a4),aK u 26 [ae 0,ae 0,.slice none 0 0]] ?_ fun junk=>?_
 ·by_cases s : b0 = true
  ·refine cu 3 s (cd s (h:=ah ?_))
   have x_:=ji M s;exact bK [0,1,2,3]
  refine bf (aM s) ar (h:=bf (aM s) ar (h:=bf (aM s) (eK rfl rfl) (h:=ck (aM s) (h:=ah ?_))))
  have x_:=jh M ((aM s));exact bK [0,1,2,3]
 refine S' ar ?_
 obtain⟨d3,N,H⟩:=bj H
 refine cK 5 (St [(1,ae a1),(2,ae a2),(3,ae a3),(5,aH D),(9,aH z),(10,aH u),(32,.bool d3)] [Buf bD 55 af ag a0.f2,aK D 26 [ae a0.f0,ae a0.f1,.slice af a0.f2.length ag],aK z 28 (bF a4),aK u 26 [ae 0,ae 0,.slice none 0 0]]) ?_ ?_
 ·by_cases p : b1 = true
  ·refine cu 4 p (cd p (h:=ah ?_))
   have x_:=ji N p;exact bK [0,1,2,3]
  refine bf (aM p) ar (h:=bf (aM p) aA (h:=cE (aM p) (aP 1) (h:=bf (aM p) (eK rfl rfl) (h:=ck (aM p) (h:=ah ?_)))))
  have x_:=jh N ((aM p));exact bK [0,1,2,3]
 rintro e ds As a8
 refine bA (SA.of_St a8 fun junk=>?_)
 rcases bE H with⟨J,H⟩|⟨J,H⟩
 ·refine aD rfl J (aR (bP (.agg #[ae 0,ae 0,.slice none 0 0]) dP (h:=o' (bi u 0 3 [ae 0,ae 0,.slice none 0 0] (h:=ad aW (h:=cD ?_))))))
  have h:=aN H;subst h
  exact ma [.cell 10 26,.tmp 11] ((Gh.nilBuf bD 55).trans (eZ [4,0])) ⟨none,0,rfl,rfl⟩ ⟨cV 3,cW,trivial⟩
 refine aE rfl J (ap (aa (aR (l' (cz D 0 1 [ae a0.f0,ae a0.f1,.slice af a0.f2.length ag]) ?_))))
 obtain⟨gB,b9,H⟩:=ac H
 refine o' (gy [0] [1,2,3] (hH.ok b9) fun c d=>?_)
 refine o' (cw (h:=fun o=>o' (bi o 0 5 [ae gB.f0,ae gB.f1,.slice c gB.f2.length d] (h:=eD (ad ar (h:=ad aW (h:=bA ?_)))))))
 obtain⟨F,H,I⟩:=ac H
 refine bI (St [(1,ae a1),(10,aH u),(12,aH o)] [Buf bD 55 af ag a0.f2,aK u 26 [ae 0,ae 0,.slice none 0 0],aK o 26 [ae gB.f0,ae gB.f1,.slice c F.length d],Buf bD 55 c d F]) ?_ ?_
 ·refine aQ (cj (fun k_ e ds As=>∃ (b : Int) (a : (List aY)),fy.l0 a1 a3 a4 gB k_ b a = some F∧St [(1,ae a1),(3,ae a3),(9,aH z),(10,aH u),(12,aH o),(13,ae b)] [Buf bD 55 af ag a0.f2,aK z 28 (bF a4),aK u 26 [ae 0,ae 0,.slice none 0 0],aK o 26 [ae gB.f0,ae gB.f1,.slice c a.length d],Buf bD 55 c d a] e ds As) (k:=k) ⟨_,_,H,jV [1,3,4,5,0]⟩ ?_)
  clear H
  rintro pF e ds As ⟨b,a,H,a9⟩
  obtain _ | pF:=pF
  ·cases H
  rw [fy.l0] at H
  obtain⟨d5,H⟩:=aO H
  refine SA.of_St a9 fun junk=>ao (aR (ad ar (h:=ad ar (h:=ad (ce rfl rfl) (h:=bA ?_)))))
  rcases bE H with⟨K,H⟩|⟨K,H⟩
  ·refine aC rfl K (ap (aa (ao (aQ (bM 4 fun d8=>?_)))))
   refine fN [0,1,3,4,6] #[[],[],[0,1],[],[],[0,1,4],[0,1,3,4],[0,1,3,4,6]] [aK z 28 (bF a4),aK o 26 [ae gB.f0,ae gB.f1,.slice c a.length d],Buf bD 55 c d a] jw (bU.inb (bU.thn (bU.thn (bU.inb (bU.thn (bU.thn bU.body)))))) fun I0 e1 w0 pk=>?_
   refine gZ 0 [1,3,4] rfl (cz o 0 1 [ae gB.f0,ae gB.f1,.slice c a.length d]) (h:=eA (ae a1) 1 [1,3,4] rfl fO (h:=eA (ae b) 3 [1,3,4] rfl fO (h:=sI 4 [1,3,4] rfl (cm 0) ?_)))
   obtain⟨q,b3,H⟩:=ac H
   obtain⟨⟨hl156a,hl156b,hl156c⟩,H⟩:=aO H
   refine eX 2 (by kernel_rfl) rfl (.no rfl) (ms [4] [0,1,2,3] (dv.ok b3) ?_)
   rintro _ _⟨d7,d9,Z,rfl,rfl⟩
   refine ⟨fun _=>⟨[2,4,0],rfl,rfl⟩,?_⟩
   obtain⟨S,b5,H⟩:=ac H
   refine eX 5 (by kernel_rfl) rfl (.no rfl) (dc [] [0,1,2,3,4] (pE.ok b5) ?_)
   refine ⟨fun _=>⟨[2,4,0],rfl,rfl⟩,?_⟩
   obtain⟨⟨c7,c8⟩,H⟩:=aO H
   have c9 : 0 ≤ q.1 + b:=by omega
   have d0 : q.1 + b < (a.length : Int):=by omega
   refine sI 6 [2,4,0] rfl (eN (l:=q.1) (m:=q.2) (i:=b) (sz:=15) Z Tryz.underlying24 cl rfl rfl (Src.buf (k:=2) rfl) c7 c8 (by omega)) ?_
   obtain⟨d1,E,H⟩:=bj H
   have hl_n452 : d1.length = a.length:=by rw [E]; exact List.length_set
   refine eX 7 (by kernel_rfl) rfl (.no rfl) (fW (k:=0) (i:=q.1 + b) (j:=(q.1 + b).toNat * 15) (m:=0) (sz:=15) (xs:=a) (vs:=(bV S)) S rfl rfl rfl rfl rfl rfl rfl rfl cl c9 d0 rfl (fun _ _ h_=>by subst h_; rfl) ?_)
   rewrite [← E]
   try unfold bF
   try rewrite [← hl_n452]
   refine ⟨fun h_=>absurd h_ (by decide),?_⟩
   refine aI (by kernel_rfl) (aF (aa (ak (ad ar (h:=S' (bW rfl rfl) ?_)))))
   obtain⟨R,a7,H⟩:=bj H
   refine bP (ae R) (bo (v:=ae R) (congrArg (Value.int .i64) a7.symm)) (h:=ah ?_)
   exact aa ⟨pF,Nat.lt_succ_self _,_,_,H,dZ [1,2,3,4,0]⟩
  refine aB rfl K (cf (aX (aX (cg ?_))))
  have h:=aN H;subst h
  exact bK [0,2,3,4]
 rintro e ds As O
 clear H
 have H:=I
 clear I
 obtain⟨d6,H⟩:=aO H
 refine aa (SA.of_St O fun junk=>ao (bM 3 fun d4=>ak (bp (cz o 0 2 [ae gB.f0,ae gB.f1,.slice c F.length d]) (h:=S' ar ?_))))
 obtain⟨U,b8,H⟩:=ac H
 obtain⟨⟨hl521a,hl521b,hl521c⟩,H⟩:=aO H
 refine o' (ms [3] [0,1,2] (dv.ok b8) ?_)
 rintro _ _⟨c6,d2,a5,rfl,rfl⟩
 obtain⟨Y,b7,H⟩:=ac H
 obtain⟨a6,H⟩:=aO H
 refine o' (dc [0] [1,2,3] (eJ.ok (o0:=U.1) (n0:=U.2) (A0:=c) (c0:=d) (V0:=c6) (v0:=d2) (hw0:=a5) b7) ?_)
 try unfold bF
 try rewrite [← a6]
 refine cP (bp (cz o 0 3 [ae gB.f0,ae gB.f1,.slice c Y.length d]) (h:=o' (bi u 0 2 [ae gB.f0,ae gB.f1,.slice c Y.length d] (h:=ad aW (h:=cC ?_)))))
 have h:=aN H;subst h
 exact du [.cell 10 26,.tmp 11] [0,1] ⟨c,d,rfl,rfl⟩ ⟨cV 2,cW,trivial⟩


def jJ.l0 (a1 : Bool) (a2 : Int) : Nat → aJ → Int → Option (aJ)
  | 0,_,_=>none
  | k + 1,a,b=>if b < a.f0.f1 then ((lt ((decide (b = a.f1)) && (decide (a2 = 0))) fun u=>if u = true then (some (a.f2,a.f0.f0)) else (lt ((decide (b = a.f1)) && (decide (a2 = 1))) fun m=>if m = true then (lt (i64.wrap (a.f2 + 1)) fun j=>some (0,j)) else ((if a2 = 2 then (if a1 = true then (some true) else (some (decide (b = a.f1)))) else (some false) : Option Bool).bind (fun c=>(if c = true then (some c) else (lt (a1 && (decide (a2 = 0))) fun o=>lt (o && (decide (b > a.f1))) fun d=>if d = true then (some d) else (lt (a1 && (decide (a2 = 1))) fun p=>lt (p && (decide (b < a.f1))) fun q=>some q)) : Option (Bool)).bind (fun s=>if s = true then (some (0,a.f0.f0)) else (some (0,0)))))) : Option (Int × Int)).bind (fun h=>(fy.f k a.f0 b h.1 h.2 a.f4).bind (fun r=>lt (i64.wrap (b + 1)) fun l=>jJ.l0 a1 a2 k ({ a with f0:=r.1 }) l))) else (some a)
def jJ.f (k : Nat) (a0 : aJ) (a1 : Bool) (a2 : Int) : Option (aJ × Int):=(gk.f k a0).bind (fun a=>if (!a.2) = true then (some ((a.1,2))) else ((jJ.l0 a1 a2 k a.1 0 : Option (aJ)).bind (fun b=>some ((({ b with f3:=false }),0)))))

def pT.f (k : Nat) (a0 : aJ) (a1 : Int) : Option (aJ × Int):=(gk.f k a0).bind (fun a=>if (!a.2) = true then (some ((a.1,2))) else (lt ((decide (a.1.f1 < a.1.f5)) || (decide (a.1.f1 > a.1.f6))) fun d=>if d = true then (some ((a.1,0))) else ((kz.f 0 (i64.wrap (0 - (fk a1 (-1000)))) (-1000) 1000).bind (fun b=>(cA.f k a.1.f0 a.1.f1 a.1.f6 b a.1.f4).bind (fun c=>some (((aJ.mk c.1 a.1.f1 0 false a.1.f4 a.1.f5 a.1.f6 a.1.f7 a.1.f8 a.1.f9 a.1.f10 a.1.f11 a.1.f12 a.1.f13 a.1.f14 a.1.f15 a.1.f16 a.1.f17),0)))))))

def pU.f (k : Nat) (a0 : aJ) (a1 : Int) : Option (aJ × Int):=(gk.f k a0).bind (fun a=>if (!a.2) = true then (some ((a.1,2))) else ((fx.f k a.1.f0 a.1.f1 a.1.f2 a1 a.1.f4).bind (fun oL=>some (((aJ.mk oL.1 a.1.f1 a.1.f2 false a.1.f4 a.1.f5 a.1.f6 a.1.f7 a.1.f8 a.1.f9 a.1.f10 a.1.f11 a.1.f12 a.1.f13 a.1.f14 a.1.f15 a.1.f16 a.1.f17),0)))))

def pV.f (k : Nat) (a0 : aJ) (a1 : Int) : Option (aJ × Int):=(gk.f k a0).bind (fun a=>if (!a.2) = true then (some ((a.1,2))) else ((cA.f k a.1.f0 a.1.f5 a.1.f6 a1 a.1.f4).bind (fun oL=>some (((aJ.mk oL.1 a.1.f1 a.1.f2 false a.1.f4 a.1.f5 a.1.f6 a.1.f7 a.1.f8 a.1.f9 a.1.f10 a.1.f11 a.1.f12 a.1.f13 a.1.f14 a.1.f15 a.1.f16 a.1.f17),0)))))

def pW.f (k : Nat) (a0 : aJ) (a1 : Int) (a2 : Int) : Option (aJ × Int):=(gk.f k a0).bind (fun a=>if (!a.2) = true then (some ((a.1,2))) else (lt ((decide (a1 < 0)) || (decide (a1 ≥ a2))) fun c=>lt (c || (decide (a2 ≥ a.1.f0.f1))) fun d=>if d = true then (some ((a.1,0))) else ((jW.f k (aJ.mk a.1.f0 a.1.f1 a.1.f2 a.1.f3 a.1.f4 a1 a2 a.1.f7 a.1.f8 a.1.f9 a.1.f10 a.1.f11 a.1.f12 a.1.f13 a.1.f14 a.1.f15 a.1.f16 a.1.f17) 0 0).bind (fun b=>some ((b.1,b.2))))))

def jf.f (k : Nat) (a0 : aJ) (a1 : Bool) : Option (aJ × Int):=(gk.f k a0).bind (fun a=>if (!a.2) = true then (some ((a.1,2))) else (if a1 = true then (some (((aJ.mk a.1.f0 a.1.f14.f0 a.1.f14.f1 a.1.f14.f2 a.1.f14.f4 a.1.f5 a.1.f6 a.1.f7 a.1.f8 a.1.f14.f3 a.1.f10 a.1.f11 a.1.f12 a.1.f13 a.1.f14 a.1.f15 a.1.f16 a.1.f17),0))) else (some (((aJ.mk a.1.f0 a.1.f1 a.1.f2 a.1.f3 a.1.f4 a.1.f5 a.1.f6 a.1.f7 a.1.f8 a.1.f9 a.1.f10 a.1.f11 a.1.f12 a.1.f13 (dz.mk a.1.f1 a.1.f2 a.1.f3 a.1.f9 a.1.f4) a.1.f15 a.1.f16 a.1.f17),0)))))
theorem jf.ok {a0 : aJ} {a1 : Bool} {r : aJ × Int} (H : jf.f k a0 a1 = some r) : dk Tryz.prog 49 #[.agg (al a0 af ag ay az au av aw ax).toArray,.bool a1] (bn a0 af ag ay az au av aw ax) (fun v B=>∃ aS aT bv bx bq br bw bz,v = .tuple #[.agg (al r.1 aS aT bv bx bq br bw bz).toArray,ae r.2]∧B = (bn r.1 aS aT bv bx bq br bw bz++bn a0 af ag ay az au av aw ax)):=by
 refine aj Tryz.func49 rfl rfl ?_
 unfold jf.f at H
 refine aR (o' (bO (h:=fun s=>o' (cw (h:=fun u=>ad aW (h:=bA (ao (bM 0 fun K=>bM 1 fun F=>bM 2 fun I=>bM 3 fun J=>ak ?_))))))))
 refine l' (cm 4) ?_
 obtain⟨a,D,H⟩:=ac H
 refine o' (ed [0,1,2,3] [4,5] (gk.ok D) fun b m c o d p j q=>?_)
 refine ad ar (h:=ad cr (h:=ad cr (h:=o' (bi s 0 8 (al a.1 b m c o d p j q) (h:=ad aW (h:=eD (ad ar (h:=ad (bX rfl) (h:=bA ?_)))))))))
 rcases bE H with⟨y,H⟩|⟨y,H⟩
 ·refine aD rfl y (aR (bp (cm 8) (h:=o' (bi u 0 9 (al a.1 b m c o d p j q) (h:=ad aW (h:=cD ?_))))))
  have h:=aN H;subst h
  exact du [.cell 4 34,.tmp 5] [0,1,2,3,4,5,6,7] ⟨b,m,c,o,d,p,j,q,rfl,rfl⟩ ⟨cV 9,cW,trivial⟩
 refine aE rfl y (ap (aa (ao (aR (ad ar (h:=bA ?_))))))
 rcases bE H with⟨z,H⟩|⟨z,H⟩
 ·refine aD rfl z (aR (ad aA (h:=bp (cz s 25 8 (ii a.1.f14)) (h:=o' (cw (h:=fun E=>o' (bi E 0 10 (ii a.1.f14) (h:=bA ?_))))))))
  refine fj (0::1::2::3::4::5::6::7::8::9::10::12::14::16::18::[]) [10] (dt 0 10) fun _ _ _ _ _ sH dd pk=>?_
  refine bc 0 rfl sH aA (h:=bQ 1 rfl sH (aP 0) (h:=bc 2 rfl sH aA (h:=bQ 3 rfl sH (aP 0) (h:=bc 4 rfl sH aA (h:=bQ 5 rfl sH (aP 0) (h:=bc 6 rfl sH aA (h:=bQ 7 rfl sH (aP 0) (h:=bc 8 rfl sH aA (h:=r' 9 rfl sH (cz E 4 0 (bF a.1.f14.f4)) ?_)))))))))
  refine bc 10 rfl sH aA (h:=dU 11 rfl dd (cF 8 [ae a.1.f14.f0] (h:=(bc 12 rfl sH aA (h:=dU 13 rfl dd (cF 8 [ae a.1.f14.f1] (h:=(bc 14 rfl sH aA (h:=dU 15 rfl dd (cF 8 [.bool a.1.f14.f2] (h:=(bc 16 rfl sH aA (h:=dU 17 rfl dd (cF 8 [.bool a.1.f14.f3] (h:=(bc 18 rfl sH aA (h:=dU 19 rfl dd (cF 8 (bF a.1.f14.f4) (h:=?_)))))))))))))))))))
  refine aV dd sH (aI (by kernel_rfl) (aa (SA.of_St (l:=[(2,aH s),(4,aH u)]) (B:=(bn a0 af ag ay az au av aw ax++(aK s 34 (al (aJ.mk a.1.f0 a.1.f14.f0 a.1.f14.f1 a.1.f14.f2 a.1.f14.f4 a.1.f5 a.1.f6 a.1.f7 a.1.f8 a.1.f14.f3 a.1.f10 a.1.f11 a.1.f12 a.1.f13 a.1.f14 a.1.f15 a.1.f16 a.1.f17) b m c o d p j q)::(bn a.1 b m c o d p j q++[aK u 34 (al cy none 0 none 0 none 0 none 0)])))) (St.mk1 (cB rfl (cB rfl dS)) (Gh.sel [5,6,7,8,9,1,2,3,4,10] (by kernel_rfl) (by kernel_rfl))) fun junk=>aR (bp (cm 4) (h:=o' (bi u 0 9 (al (aJ.mk a.1.f0 a.1.f14.f0 a.1.f14.f1 a.1.f14.f2 a.1.f14.f4 a.1.f5 a.1.f6 a.1.f7 a.1.f8 a.1.f14.f3 a.1.f10 a.1.f11 a.1.f12 a.1.f13 a.1.f14 a.1.f15 a.1.f16 a.1.f17) b m c o d p j q) (h:=ad aW (h:=cC ?_))))))))
  have h:=aN H;subst h
  exact du [.cell 4 34,.tmp 5] [5,6,7,8,0,1,2,3] ⟨b,m,c,o,d,p,j,q,rfl,rfl⟩ ⟨cV 9,cW,trivial⟩
 refine aE rfl z (ak (ad aA (h:=bp (aP 8) (h:=ad aA (h:=bp (aP 8) (h:=ad aA (h:=bp (aP 8) (h:=ad aA (h:=l' (aP 8) ?_)))))))))
 refine ad aA (h:=bp (cz s 6 8 (bF a.1.f4)) (h:=bP (.agg (ii (dz.mk a.1.f1 a.1.f2 a.1.f3 a.1.f9 a.1.f4)).toArray) dP (h:=ad aA (h:=o' (cF 8 (ii (dz.mk a.1.f1 a.1.f2 a.1.f3 a.1.f9 a.1.f4)) (h:=(bA (SA.of_St (l:=[(2,aH s),(4,aH u)]) (B:=(bn a0 af ag ay az au av aw ax++(aK s 34 (al (aJ.mk a.1.f0 a.1.f1 a.1.f2 a.1.f3 a.1.f4 a.1.f5 a.1.f6 a.1.f7 a.1.f8 a.1.f9 a.1.f10 a.1.f11 a.1.f12 a.1.f13 (dz.mk a.1.f1 a.1.f2 a.1.f3 a.1.f9 a.1.f4) a.1.f15 a.1.f16 a.1.f17) b m c o d p j q)::(bn a.1 b m c o d p j q++[aK u 34 (al cy none 0 none 0 none 0 none 0)])))) (St.mk1 (cB rfl (cB rfl dS)) (Gh.sel [4,5,6,7,8,0,1,2,3,9] (by kernel_rfl) (by kernel_rfl))) fun junk=>aR (bp (cm 4) (h:=o' (uB u 0 9 (al (aJ.mk a.1.f0 a.1.f1 a.1.f2 a.1.f3 a.1.f4 a.1.f5 a.1.f6 a.1.f7 a.1.f8 a.1.f9 a.1.f10 a.1.f11 a.1.f12 a.1.f13 (dz.mk a.1.f1 a.1.f2 a.1.f3 a.1.f9 a.1.f4) a.1.f15 a.1.f16 a.1.f17) b m c o d p j q) ?_)))))))))))
 refine ad aW (h:=cC ?_)
 have h:=aN H;subst h
 exact du [.cell 4 34,.tmp 5] [5,6,7,8,0,1,2,3] ⟨b,m,c,o,d,p,j,q,rfl,rfl⟩ ⟨cV 9,cW,trivial⟩


def fz.l0 (a0 : aJ) (r13 : bH × Int) : Nat → Int → (List aY) → Option ((List aY))
  | 0,_,_=>none
  | k + 1,b,a=>if a.length = r13.1.f2.length then (if b < (a.length : Int) then ((pE.f a0.f4).bind (fun h=>if 0 ≤ b∧b < (a.length : Int) then (lt (a.set b.toNat h) fun c=>(lt (i64.wrap (b + 1)) fun d=>fz.l0 a0 r13 k d c)) else none)) else (some a)) else none
def fz.f (k : Nat) (a0 : aJ) (a1 : Bool) : Option (Nat × aJ):=lt (a1 && (!a0.f15)) fun d=>if d = true then ((pQ.f k a0.f0.f0 a0.f0.f1 a0.f4).bind (fun a=>(fz.l0 a0 a k 0 a.1.f2 : Option ((List aY))).bind (fun b=>if b.length = a.1.f2.length then (some ((0,({ a0 with f0:=(bH.mk a.1.f0 a.1.f1 b),f15:=true,f16:=a0.f0 })))) else none))) else (lt ((!a1) && a0.f15) fun c=>if c = true then (some ((1,({ a0 with f0:=a0.f16,f15:=false,f16:=(bH.mk 0 0 ([] : (List aY))) })))) else (some ((2,a0))))
theorem fz.ok {a0 : aJ} {a1 : Bool} {r : Nat × aJ} (H : fz.f k a0 a1 = some r) : dk Tryz.prog 108 #[.agg (al a0 af ag ay az au av aw ax).toArray,.bool a1] (bn a0 af ag ay az au av aw ax) (fun v B=>(r.1 = 0∧∃ aS aT,v = .agg (al (aJ.mk r.2.f0 r.2.f1 r.2.f2 r.2.f3 r.2.f4 r.2.f5 r.2.f6 a0.f7 r.2.f8 r.2.f9 r.2.f10 r.2.f11 r.2.f12 r.2.f13 r.2.f14 r.2.f15 (bH.mk r.2.f16.f0 r.2.f16.f1 a0.f0.f2) a0.f17) aS aT ay az af ag aw ax).toArray∧B = (Buf bD 55 aS aT r.2.f0.f2::bn a0 af ag ay az au av aw ax)) ∨ (r.1 = 1∧∃ bq br,v = .agg (al (aJ.mk (bH.mk r.2.f0.f0 r.2.f0.f1 a0.f16.f2) r.2.f1 r.2.f2 r.2.f3 r.2.f4 r.2.f5 r.2.f6 a0.f7 r.2.f8 r.2.f9 r.2.f10 r.2.f11 r.2.f12 r.2.f13 r.2.f14 r.2.f15 r.2.f16 a0.f17) au av ay az bq br aw ax).toArray∧B = (Buf bD 55 bq br r.2.f16.f2::bn a0 af ag ay az au av aw ax)) ∨ (r.1 = 2∧v = .agg (al (aJ.mk (bH.mk r.2.f0.f0 r.2.f0.f1 a0.f0.f2) r.2.f1 r.2.f2 r.2.f3 r.2.f4 r.2.f5 r.2.f6 a0.f7 r.2.f8 r.2.f9 r.2.f10 r.2.f11 r.2.f12 r.2.f13 r.2.f14 r.2.f15 (bH.mk r.2.f16.f0 r.2.f16.f1 a0.f16.f2) a0.f17) af ag ay az au av aw ax).toArray∧B = (bn a0 af ag ay az au av aw ax))):=by
 refine aj Tryz.func108 rfl rfl ?_
 unfold fz.f at H
 refine aR (o' (bO (h:=fun q=>o' (cw (h:=fun s=>eD (ad ar (h:=S' ar ?_)))))))
 obtain⟨q9,Z,H⟩:=bj H
 refine cK 4 (St [(1,.bool a1),(2,aH q),(4,aH s),(11,.bool q9)] (bn a0 af ag ay az au av aw ax++[aK q 34 (al a0 af ag ay az au av aw ax),aK s 34 (al cy none 0 none 0 none 0 none 0)])) ?_ ?_
 ·by_cases p : a1 = true
  ·refine bf p aA (h:=cE p (aP 4) (h:=bf p (bX rfl) (h:=cd p (h:=ah ?_))))
   have x_:=fD Z p;exact bK [0,1,2,3,4,5]
  refine cu 3 (aM p) (ck (aM p) (h:=ah ?_))
  have x_:=fC Z ((aM p));exact bK [0,1,2,3,4,5]
 rintro e ds As U
 refine bA (SA.of_St U fun junk=>?_)
 rcases bE H with⟨J,H⟩|⟨J,H⟩
 ·refine aD rfl J (aR (ad aA (h:=bp (cz q 0 4 [ae a0.f0.f0,ae a0.f0.f1,.slice af a0.f0.f2.length ag]) (h:=ad aA (h:=o' (cF 4 [ae a0.f0.f0,ae a0.f0.f1,.slice af a0.f0.f2.length ag] (h:=(ad aA (h:=o' (cF 4 [.bool true] (h:=(cP (S' aA ?_)))))))))))))
  refine ad aA (h:=bp (aP 4) (h:=ad aA (h:=ad aA (h:=bp (aP 4) (h:=ad aA (h:=l' (cz q 6 4 (bF a0.f4)) ?_))))))
  obtain⟨b,a3,H⟩:=ac H
  refine o' (gy [] [0,1,2,3,4,5] (pQ.ok a3) fun l o=>?_)
  refine ad ar (h:=ad cr (h:=ad cr (h:=ad aA (h:=o' (cF 5 [ae b.1.f0,ae b.1.f1,.slice l b.1.f2.length o] (h:=(cP (ad aW (h:=bA ?_)))))))))
  obtain⟨u,H,E⟩:=ac H
  refine bI (St [(2,aH q),(4,aH s)] (bn a0 af ag ay az au av aw ax++[aK q 34 (al ({ a0 with f0:=(bH.mk b.1.f0 b.1.f1 u),f15:=true,f16:=a0.f0 }) l o ay az af ag aw ax),Buf bD 55 l o u,aK s 34 (al cy none 0 none 0 none 0 none 0)])) ?_ ?_
  ·refine aQ (cj (fun k_ e ds As=>∃ (c : Int) (a : (List aY)),fz.l0 a0 b k_ c a = some u∧St [(2,aH q),(4,aH s),(5,ae c)] (bn a0 af ag ay az au av aw ax++[aK q 34 (al ({ a0 with f0:=(bH.mk b.1.f0 b.1.f1 a),f15:=true,f16:=a0.f0 }) l o ay az af ag aw ax),Buf bD 55 l o a,aK s 34 (al cy none 0 none 0 none 0 none 0)]) e ds As) (k:=k) ⟨_,_,H,jV [1,2,3,4,5,0,6]⟩ ?_)
   clear H
   rintro N e ds As ⟨c,a,H,Y⟩
   obtain _ | N:=N
   ·cases H
   rw [fz.l0] at H
   obtain⟨a6,H⟩:=aO H
   refine SA.of_St Y fun junk=>ao (aR (ad ar (h:=ad aA (h:=ad aA (h:=bp (aP 4) (h:=bP (ae (a.length : Int)) (cO Tryz.underlying24 rfl) (h:=ad (ce rfl rfl) (h:=bA ?_))))))))
   rcases bE H with⟨K,H⟩|⟨K,H⟩
   ·refine aC rfl K (ap (aa (ao (aQ ?_))))
    refine fj [0,1,2,3,4,5,7] [4,5] [0,1,2,3,6] fun _ _ _ _ _ sH dd pk=>?_
    refine bc 0 rfl sH aA (h:=bc 1 rfl sH aA (h:=bQ 2 rfl sH (aP 0) (h:=bc 3 rfl sH ar (h:=bc 4 rfl sH aA (h:=r' 5 rfl sH (cz q 6 0 (bF a0.f4)) ?_)))))
    obtain⟨R,a2,H⟩:=ac H
    refine dU 6 rfl dd (dc [] [0,1,2,3,4] (pE.ok a2) ?_)
    obtain⟨⟨F,I⟩,H⟩:=aO H
    refine bQ 7 rfl sH (bu (i:=c) Tryz.underlying24 cl rfl rfl (Src.buf (k:=1) rfl) F I) (h:=aV dd sH ?_)
    obtain⟨a4,z,H⟩:=bj H
    have hl_n501 : a4.length = a.length:=by rw [z]; exact List.length_set
    refine eC 8 rfl (fW (k:=1) (i:=c) (j:=c.toNat * 15) (m:=0) (sz:=15) (xs:=a) (vs:=(bV R)) R rfl rfl rfl rfl rfl rfl rfl rfl cl F I rfl (fun _ _ h_=>by subst h_; rfl) ?_)
    rewrite [← z]
    try unfold cN
    try unfold fc
    try unfold al
    try rewrite [← hl_n501]
    refine aI (by kernel_rfl) (aF (aa (ak (ad ar (h:=S' (bW rfl rfl) ?_)))))
    obtain⟨O,S,H⟩:=bj H
    refine bP (ae O) (bo (v:=ae O) (congrArg (Value.int .i64) S.symm)) (h:=ah ?_)
    exact aa ⟨N,Nat.lt_succ_self _,_,_,H,dZ [2,3,4,5,0,1,6]⟩
   refine aB rfl K (cf (aX (aX (cg ?_))))
   have h:=aN H;subst h
   exact bK [0,1,2,3,4,5,6]
  rintro e ds As L
  clear H
  have H:=E
  clear E
  obtain⟨a7,H⟩:=aO H
  refine aa (SA.of_St L fun junk=>aR (bp (cm 4) (h:=o' (bi s 0 6 (al ({ a0 with f0:=(bH.mk b.1.f0 b.1.f1 u),f15:=true,f16:=a0.f0 }) l o ay az af ag aw ax) (h:=cC ?_)))))
  have h:=aN H;subst h
  exact gi (rs:=[.cell 4 34]) (vs:=[.agg (al ({ a0 with f0:=(bH.mk b.1.f0 b.1.f1 u),f15:=true,f16:=a0.f0 }) l o ay az af ag aw ax).toArray]) (Buf bD 55 l o u::bn a0 af ag ay az au av aw ax) rfl ⟨RV.cell (k:=6) rfl rfl Tryz.underlying34 rfl rC,trivial⟩ rfl (eZ [5,0,1,2,3]) (.inl ⟨rfl,l,o,rfl,rfl⟩)
 refine aE rfl J (aR (ad ar (h:=ad (bX rfl) (h:=S' ar ?_))))
 obtain⟨a5,D,H⟩:=bj H
 refine cK 3 (St [(2,aH q),(4,aH s),(50,.bool a5)] (bn a0 af ag ay az au av aw ax++[aK q 34 (al a0 af ag ay az au av aw ax),aK s 34 (al cy none 0 none 0 none 0 none 0)])) ?_ ?_
 ·by_cases d : (!a1) = true
  ·refine bf d aA (h:=cE d (aP 4) (h:=cd d (h:=ah ?_)))
   have x_:=fD D d;exact bK [0,1,2,3,4,5]
  refine cu 2 (aM d) (ck (aM d) (h:=ah ?_))
  have x_:=fC D ((aM d));exact bK [0,1,2,3,4,5]
 rintro e ds As M
 refine bA (SA.of_St M fun junk=>?_)
 rcases bE H with⟨y,H⟩|⟨y,H⟩
 ·refine aD rfl y (ak (ad aA (h:=bp (cz q 40 4 [ae a0.f16.f0,ae a0.f16.f1,.slice au a0.f16.f2.length av]) (h:=bP (.agg #[ae 0,ae 0,.slice none 0 0]) dP (h:=ad aA (h:=o' (cF 4 [ae a0.f16.f0,ae a0.f16.f1,.slice au a0.f16.f2.length av] (h:=(ad aA (h:=o' (cF 4 [ae 0,ae 0,.slice none 0 0] (h:=(S' aA ?_)))))))))))))
  refine o' (cF 4 [.bool false] (h:=(cP (bp (cm 4) (h:=o' (bi s 0 5 (al ({ a0 with f0:=a0.f16,f15:=false,f16:=pz }) au av ay az none 0 aw ax) (h:=cC ?_)))))))
  have h:=aN H;subst h
  exact gi (rs:=[.cell 4 34]) (vs:=[.agg (al ({ a0 with f0:=a0.f16,f15:=false,f16:=pz }) au av ay az none 0 aw ax).toArray]) (Buf bD 55 none 0 ([] : (List aY))::bn a0 af ag ay az au av aw ax) rfl ⟨RV.cell (k:=5) rfl rfl Tryz.underlying34 rfl rC,trivial⟩ rfl ((Gh.nilBuf bD 55).trans (eZ [6,0,1,2,3])) (.inr (.inl ⟨rfl,none,0,rfl,rfl⟩))
 refine aE rfl y (ap (aa (aR (bp (cm 4) (h:=o' (bi s 0 5 (al a0 af ag ay az au av aw ax) (h:=cC ?_)))))))
 have h:=aN H;subst h
 exact gi (rs:=[.cell 4 34]) (vs:=[.agg (al a0 af ag ay az au av aw ax).toArray]) (bn a0 af ag ay az au av aw ax) rfl ⟨RV.cell (k:=5) rfl rfl Tryz.underlying34 rfl rC,trivial⟩ rfl (eZ [0,1,2,3]) (.inr (.inr (⟨rfl,rfl,rfl⟩)))


def pX.f (k : Nat) (a0 : aJ) (a1 : Bool) (a2 : Int) (a3 : Bool) : Option (aJ × Int):=(gk.f k a0).bind (fun a=>if (!a.2) = true then (some ((a.1,2))) else (if (!a1) = true then (if a2 = 4 then (some (((aJ.mk a.1.f0 a.1.f1 a.1.f2 a.1.f3 a.1.f4 a.1.f5 a.1.f6 a.1.f7 a.1.f8 a.1.f9 a3 a.1.f11 a.1.f12 a.1.f13 a.1.f14 a.1.f15 a.1.f16 a.1.f17),0))) else (some ((a.1,0)))) else (if a2 = 1 then (some (((aJ.mk a.1.f0 a.1.f1 a.1.f2 a.1.f3 a.1.f4 a.1.f5 a.1.f6 a.1.f7 a.1.f8 a.1.f9 a.1.f10 a3 a.1.f12 a.1.f13 a.1.f14 a.1.f15 a.1.f16 a.1.f17),0))) else (if a2 = 6 then ((jW.f k (aJ.mk a.1.f0 a.1.f1 a.1.f2 a.1.f3 a.1.f4 a.1.f5 a.1.f6 a.1.f7 a.1.f8 a3 a.1.f10 a.1.f11 a.1.f12 a.1.f13 a.1.f14 a.1.f15 a.1.f16 a.1.f17) 0 0).bind (fun o=>some ((o.1,o.2)))) else (if a2 = 7 then (some (((aJ.mk a.1.f0 a.1.f1 a.1.f2 a.1.f3 a.1.f4 a.1.f5 a.1.f6 a.1.f7 a3 a.1.f9 a.1.f10 a.1.f11 a.1.f12 a.1.f13 a.1.f14 a.1.f15 a.1.f16 a.1.f17),0))) else (if a2 = 25 then (some (((aJ.mk a.1.f0 a.1.f1 a.1.f2 a.1.f3 a.1.f4 a.1.f5 a.1.f6 a.1.f7 a.1.f8 a.1.f9 a.1.f10 a.1.f11 a.1.f12 a3 a.1.f14 a.1.f15 a.1.f16 a.1.f17),0))) else (if a2 = 2004 then (some (((aJ.mk a.1.f0 a.1.f1 a.1.f2 a.1.f3 a.1.f4 a.1.f5 a.1.f6 a.1.f7 a.1.f8 a.1.f9 a.1.f10 a.1.f11 a3 a.1.f13 a.1.f14 a.1.f15 a.1.f16 a.1.f17),0))) else ((if a2 = 47 then (some (decide (a2 = 47))) else (some (decide (a2 = 1047))) : Option (Bool)).bind (fun p=>if p = true then ((fz.f k a.1 a3).bind (fun d=>if d.1 = 0 then (some (((aJ.mk d.2.f0 d.2.f1 d.2.f2 d.2.f3 d.2.f4 d.2.f5 d.2.f6 a.1.f7 d.2.f8 d.2.f9 d.2.f10 d.2.f11 d.2.f12 d.2.f13 d.2.f14 d.2.f15 (bH.mk d.2.f16.f0 d.2.f16.f1 a.1.f0.f2) a.1.f17),0))) else (if d.1 = 1 then (some (((aJ.mk (bH.mk d.2.f0.f0 d.2.f0.f1 a.1.f16.f2) d.2.f1 d.2.f2 d.2.f3 d.2.f4 d.2.f5 d.2.f6 a.1.f7 d.2.f8 d.2.f9 d.2.f10 d.2.f11 d.2.f12 d.2.f13 d.2.f14 d.2.f15 d.2.f16 a.1.f17),0))) else (if d.1 = 2 then (some (((aJ.mk (bH.mk d.2.f0.f0 d.2.f0.f1 a.1.f0.f2) d.2.f1 d.2.f2 d.2.f3 d.2.f4 d.2.f5 d.2.f6 a.1.f7 d.2.f8 d.2.f9 d.2.f10 d.2.f11 d.2.f12 d.2.f13 d.2.f14 d.2.f15 (bH.mk d.2.f16.f0 d.2.f16.f1 a.1.f16.f2) a.1.f17),0))) else (none))))) else (if a2 = 1049 then (if a3 = true then ((jf.f k a.1 false).bind (fun h=>(fz.f k h.1 true).bind (fun b=>if b.1 = 0 then (some (((aJ.mk b.2.f0 b.2.f1 b.2.f2 b.2.f3 b.2.f4 b.2.f5 b.2.f6 h.1.f7 b.2.f8 b.2.f9 b.2.f10 b.2.f11 b.2.f12 b.2.f13 b.2.f14 b.2.f15 (bH.mk b.2.f16.f0 b.2.f16.f1 h.1.f0.f2) h.1.f17),0))) else (if b.1 = 1 then (some (((aJ.mk (bH.mk b.2.f0.f0 b.2.f0.f1 h.1.f16.f2) b.2.f1 b.2.f2 b.2.f3 b.2.f4 b.2.f5 b.2.f6 h.1.f7 b.2.f8 b.2.f9 b.2.f10 b.2.f11 b.2.f12 b.2.f13 b.2.f14 b.2.f15 b.2.f16 h.1.f17),0))) else (if b.1 = 2 then (some (((aJ.mk (bH.mk b.2.f0.f0 b.2.f0.f1 h.1.f0.f2) b.2.f1 b.2.f2 b.2.f3 b.2.f4 b.2.f5 b.2.f6 h.1.f7 b.2.f8 b.2.f9 b.2.f10 b.2.f11 b.2.f12 b.2.f13 b.2.f14 b.2.f15 (bH.mk b.2.f16.f0 b.2.f16.f1 h.1.f16.f2) h.1.f17),0))) else (none)))))) else (if a.1.f15 = true then ((fz.f k a.1 false).bind (fun c=>if c.1 = 0 then ((jf.f k (aJ.mk c.2.f0 c.2.f1 c.2.f2 c.2.f3 c.2.f4 c.2.f5 c.2.f6 a.1.f7 c.2.f8 c.2.f9 c.2.f10 c.2.f11 c.2.f12 c.2.f13 c.2.f14 c.2.f15 (bH.mk c.2.f16.f0 c.2.f16.f1 a.1.f0.f2) a.1.f17) true).bind (fun j=>some ((j.1,j.2)))) else (if c.1 = 1 then ((jf.f k (aJ.mk (bH.mk c.2.f0.f0 c.2.f0.f1 a.1.f16.f2) c.2.f1 c.2.f2 c.2.f3 c.2.f4 c.2.f5 c.2.f6 a.1.f7 c.2.f8 c.2.f9 c.2.f10 c.2.f11 c.2.f12 c.2.f13 c.2.f14 c.2.f15 c.2.f16 a.1.f17) true).bind (fun l=>some ((l.1,l.2)))) else (if c.1 = 2 then ((jf.f k (aJ.mk (bH.mk c.2.f0.f0 c.2.f0.f1 a.1.f0.f2) c.2.f1 c.2.f2 c.2.f3 c.2.f4 c.2.f5 c.2.f6 a.1.f7 c.2.f8 c.2.f9 c.2.f10 c.2.f11 c.2.f12 c.2.f13 c.2.f14 c.2.f15 (bH.mk c.2.f16.f0 c.2.f16.f1 a.1.f16.f2) a.1.f17) true).bind (fun m=>some ((m.1,m.2)))) else (none))))) else (some ((a.1,0))))) else (some ((a.1,0)))))))))))))

def fV.l1 (r13 : aJ × Bool) (x8_34 : Int) : Nat → Bool → Int → Option (Bool)
  | 0,_,_=>none
  | k + 1,b,a=>if a < (r13.1.f7.length : Int) then ((if b = true then (some true) else (if 0 ≤ a∧a < (r13.1.f7.length : Int) then (some (decide ((rd r13.1.f7 a) = x8_34))) else none) : Option Bool).bind (fun c=>lt (i64.wrap (a + 1)) fun n51=>fV.l1 r13 x8_34 k c n51)) else (some b)
def fV.l0 (a1 : Int) (r13 : aJ × Bool) : Nat → (List Int) → Int → Option ((List Int))
  | 0,_,_=>none
  | k + 1,b,a=>if a < r13.1.f0.f0 then ((fV.l1 r13 a k false 0 : Option (Bool)).bind (fun h=>(if a1 = 2 then (some true) else (if a1 = 1 then (some (decide (a = r13.1.f2))) else (some false)) : Option Bool).bind (fun c=>(if c = true then (some false) else (some h) : Option (Bool)).bind (fun j=>lt ((decide (a1 = 0)) && (decide (a = r13.1.f2))) fun d=>(if d = true then (some true) else (some j) : Option (Bool)).bind (fun l=>if l = true then (if b.length + ([a] : (List Int)).length ≤ 17592186044416 then lt (b ++ ([a] : (List Int))) fun n73=>(lt (i64.wrap (a + 1)) fun n74=>fV.l0 a1 r13 k n73 n74) else none) else (lt (i64.wrap (a + 1)) fun n75=>fV.l0 a1 r13 k b n75)))))) else (some b)
def fV.f (k : Nat) (a0 : aJ) (a1 : Int) : Option (aJ × Int):=(gk.f k a0).bind (fun a=>if (!a.2) = true then (some ((a.1,2))) else (lt ((decide (a1 < 0)) || (decide (a1 > 2))) fun b=>if b = true then (some ((a.1,0))) else ((fV.l0 a1 a k ([]) 0 : Option ((List Int))).bind (fun c=>some (((aJ.mk a.1.f0 a.1.f1 a.1.f2 a.1.f3 a.1.f4 a.1.f5 a.1.f6 c a.1.f8 a.1.f9 a.1.f10 a.1.f11 a.1.f12 a.1.f13 a.1.f14 a.1.f15 a.1.f16 a.1.f17),0))))))

def pY.f (k : Nat) (a0 : aJ) (a1 : Int) : Option (aJ × Int):=(gk.f k a0).bind (fun a=>if (!a.2) = true then (some ((a.1,2))) else ((kz.f a.1.f2 (fk 0 a1) a.1.f2 a.1.f0.f0).bind (fun c=>(fy.f k a.1.f0 a.1.f1 a.1.f2 c a.1.f4).bind (fun b=>some (((aJ.mk b.1 a.1.f1 a.1.f2 false a.1.f4 a.1.f5 a.1.f6 a.1.f7 a.1.f8 a.1.f9 a.1.f10 a.1.f11 a.1.f12 a.1.f13 a.1.f14 a.1.f15 a.1.f16 a.1.f17),0))))))

def fQ.l0 (a0 : bH) (a2 : Int) (r12 : bH × Int) : Nat → Int → (List aY) → Option ((List aY))
  | 0,_,_=>none
  | k + 1,b,a=>if a.length = r12.1.f2.length then (if b < (da a2 a0.f1) then ((dv.f (bH.mk r12.1.f0 r12.1.f1 a) b).bind (fun d=>if (0 ≤ d.1∧0 ≤ d.2∧d.1 + d.2 ≤ (a.length : Int)) then ((dv.f a0 b).bind (fun c=>if (0 ≤ c.1∧0 ≤ c.2∧c.1 + c.2 ≤ (a0.f2.length : Int)) then (lt (bB a d.1.toNat ((sub a0.f2 c.1 (c.1 + c.2)).take d.2.toNat)) fun j=>((dv.f (bH.mk r12.1.f0 r12.1.f1 j) b).bind (fun h=>if (0 ≤ h.1∧0 ≤ h.2∧h.1 + h.2 ≤ (j.length : Int)) then ((eJ.f k j h.1 h.2).bind (fun l=>if l.length = j.length then (lt (i64.wrap (b + 1)) fun m=>fQ.l0 a0 a2 r12 k m l) else none)) else none))) else none)) else none)) else (some a)) else none
def fQ.f (k : Nat) (a0 : bH) (a1 : Int) (a2 : Int) (a3 : cM) : Option (bH × Int):=(fA.f k a0).bind (fun c=>if (!c) = true then (some (((bH.mk 0 0 ([] : (List aY))),2))) else ((pQ.f k a1 a2 a3).bind (fun a=>if a.2 ≠ 0 then (some (((bH.mk 0 0 ([] : (List aY))),a.2))) else ((fQ.l0 a0 a2 a k 0 a.1.f2 : Option ((List aY))).bind (fun b=>if b.length = a.1.f2.length then (some (((bH.mk a.1.f0 a.1.f1 b),0))) else none)))))
theorem fQ.ok {a0 : bH} {a1 : Int} {a2 : Int} {a3 : cM} {r : bH × Int} (H : fQ.f k a0 a1 a2 a3 = some r) : dk Tryz.prog 109 #[.agg #[ae a0.f0,ae a0.f1,.slice af a0.f2.length ag],ae a1,ae a2,.agg (bF a3).toArray] [Buf bD 55 af ag a0.f2] (fun v B=>∃ aS aT,v = .tuple #[.agg #[ae r.1.f0,ae r.1.f1,.slice aS r.1.f2.length aT],ae r.2]∧B = [Buf bD 55 aS aT r.1.f2,Buf bD 55 af ag a0.f2]):=by
 refine aj Tryz.func109 rfl rfl ?_
 unfold fQ.f at H
 refine aR (o' (bO (h:=fun N=>o' (bO (h:=fun b4=>o' (cw (h:=fun q=>ad aW (h:=bA (ao (ao (bM 0 fun c8=>ak (l' (cz N 0 1 [ae a0.f0,ae a0.f1,.slice af a0.f2.length ag]) ?_))))))))))))
 obtain⟨r9,a9,H⟩:=ac H
 refine o' (dc [0] [1,2,3] (fA.ok a9) ?_)
 refine ad (bX rfl) (h:=bA ?_)
 rcases bE H with⟨D,H⟩|⟨D,H⟩
 ·refine aD rfl D (aR (bP (.agg #[ae 0,ae 0,.slice none 0 0]) dP (h:=o' (bi q 0 3 [ae 0,ae 0,.slice none 0 0] (h:=ad aW (h:=cD ?_))))))
  have h:=aN H;subst h
  exact ma [.cell 8 26,.tmp 9] ((Gh.nilBuf bD 55).trans (eZ [4,0])) ⟨none,0,rfl,rfl⟩ ⟨cV 3,cW,trivial⟩
 refine aE rfl D (ap (aa (aR (ad ar (h:=ad ar (h:=l' (cm 2) ?_))))))
 obtain⟨b,a8,H⟩:=ac H
 refine o' (gy [] [0,1,2,3] (pQ.ok a8) fun c d=>?_)
 refine ad ar (h:=ad cr (h:=ad cr (h:=o' (cw (h:=fun j=>o' (bi j 0 5 [ae b.1.f0,ae b.1.f1,.slice c b.1.f2.length d] (h:=ad aW (h:=eD (ad ar (h:=ad (dK rfl rfl) (h:=bA ?_)))))))))))
 rcases bE H with⟨E,H⟩|⟨E,H⟩
 ·refine aC rfl E (aR (bP (.agg #[ae 0,ae 0,.slice none 0 0]) dP (h:=ad ar (h:=o' (bi q 0 4 [ae 0,ae 0,.slice none 0 0] (h:=ad aW (h:=cD ?_)))))))
  have h:=aN H;subst h
  exact ma [.cell 8 26,.tmp 9] ((Gh.nilBuf bD 55).trans (eZ [6,1])) ⟨none,0,rfl,rfl⟩ ⟨cV 4,cW,trivial⟩
 refine aB rfl E (ap (aa (ao (aR (ad aW (h:=bA ?_))))))
 obtain⟨p,H,z⟩:=ac H
 refine bI (St [(8,aH q),(10,aH j)] [Buf bD 55 af ag a0.f2,aK q 26 [ae 0,ae 0,.slice none 0 0],aK j 26 [ae b.1.f0,ae b.1.f1,.slice c p.length d],Buf bD 55 c d p]) ?_ ?_
 ·refine aQ (cj (fun k_ e ds As=>∃ (o : Int) (a : (List aY)),fQ.l0 a0 a2 b k_ o a = some p∧St [(2,ae a2),(4,aH N),(8,aH q),(10,aH j),(12,ae o)] [Buf bD 55 af ag a0.f2,aK N 26 [ae a0.f0,ae a0.f1,.slice af a0.f2.length ag],aK q 26 [ae 0,ae 0,.slice none 0 0],aK j 26 [ae b.1.f0,ae b.1.f1,.slice c a.length d],Buf bD 55 c d a] e ds As) (k:=k) ⟨_,_,H,jV [1,2,4,5,0]⟩ ?_)
  clear H
  rintro J e ds As ⟨o,a,H,Z⟩
  obtain _ | J:=J
  ·cases H
  rw [fQ.l0] at H
  obtain⟨b3,H⟩:=aO H
  refine SA.of_St Z fun junk=>ao (aR (ad ar (h:=ad ar (h:=ad aA (h:=bp (aP 1) (h:=bP (ae (da a2 a0.f1)) (jK rfl rfl) (h:=ad (ce rfl rfl) (h:=bA ?_))))))))
  rcases bE H with⟨F,H⟩|⟨F,H⟩
  ·refine aC rfl F (ap (aa (ao (aQ (ao (bM 4 fun b9=>?_))))))
   refine fj [0,1,3,4] [1,3] [0,2,4] fun _ _ _ _ _ sH dd pk=>?_
   refine bQ 0 rfl sH (cz j 0 1 [ae b.1.f0,ae b.1.f1,.slice c a.length d]) (h:=bc 1 rfl sH ar (h:=bQ 3 rfl sH (cz N 0 0 [ae a0.f0,ae a0.f1,.slice af a0.f2.length ag]) (h:=T' 4 rfl sH ar ?_)))
   obtain⟨L,a4,H⟩:=ac H
   obtain⟨⟨hl149a,hl149b,hl149c⟩,H⟩:=aO H
   refine dU 2 rfl dd (ms [2] [0,1] (dv.ok a4) ?_)
   rintro _ _⟨b7,c6,O,rfl,rfl⟩
   obtain⟨u,a5,H⟩:=ac H
   obtain⟨⟨hl329a,hl329b,hl329c⟩,H⟩:=aO H
   refine dU 5 rfl dd (ms [1] [0,2] (dv.ok a5) ?_)
   rintro _ _⟨b8,c7,R,rfl,rfl⟩
   obtain⟨s,y,H⟩:=bj H
   have hl_n385 : s.length = a.length:=by rw [y]; exact eR (by rw [List.length_take]; omega)
   refine dU 6 rfl dd (gm (k:=1) (l:=L.1) (m:=L.2) (xs:=a) (ys:=sub a0.f2 u.1 (u.1 + u.2)) s y O rfl Tryz.underlying24 cl rfl rfl rfl (by omega) rfl (pD.win (Src.buf (k:=0) rfl) R rfl (by omega)) ?_)
   try unfold bF
   try rewrite [← hl_n385]
   try unfold bF at sH
   try rewrite [← hl_n385] at sH
   refine aV dd sH (aI (by kernel_rfl) (aa (ak (bp (cz j 0 1 [ae b.1.f0,ae b.1.f1,.slice c s.length d]) (h:=S' ar ?_)))))
   obtain⟨M,a7,H⟩:=ac H
   obtain⟨⟨hl450a,hl450b,hl450c⟩,H⟩:=aO H
   refine o' (ms [3] [0,1,2,4] (dv.ok a7) ?_)
   rintro _ _⟨b0,b1,S,rfl,rfl⟩
   obtain⟨c5,a6,H⟩:=ac H
   obtain⟨U,H⟩:=aO H
   refine o' (dc [0] [1,2,3,4] (eJ.ok (o0:=M.1) (n0:=M.2) (A0:=c) (c0:=d) (V0:=b0) (v0:=b1) (hw0:=S) a6) ?_)
   try unfold bF
   try rewrite [← U]
   refine ah (aF (aa (ak (ad ar (h:=S' (bW rfl rfl) ?_)))))
   obtain⟨K,Y,H⟩:=bj H
   refine bP (ae K) (bo (v:=ae K) (congrArg (Value.int .i64) Y.symm)) (h:=ah ?_)
   exact aa ⟨J,Nat.lt_succ_self _,_,_,H,dZ [3,1,4,2,0]⟩
  refine aB rfl F (cf (aX (aX (cg ?_))))
  have h:=aN H;subst h
  exact bK [0,2,3,4]
 rintro e ds As I
 clear H
 have H:=z
 clear z
 obtain⟨b5,H⟩:=aO H
 refine aa (SA.of_St I fun junk=>aR (bp (cz j 0 2 [ae b.1.f0,ae b.1.f1,.slice c p.length d]) (h:=o' (bi q 0 1 [ae b.1.f0,ae b.1.f1,.slice c p.length d] (h:=ad aW (h:=cC ?_))))))
 have h:=aN H;subst h
 exact du [.cell 8 26,.tmp 9] [3,0] ⟨c,d,rfl,rfl⟩ ⟨cV 1,cW,trivial⟩


def pZ.f (k : Nat) (a0 : aJ) (a1 : Int) (a2 : Int) : Option (aJ × Int):=(gk.f k a0).bind (fun a=>if (!a.2) = true then (some ((a.1,2))) else ((fQ.f k a.1.f0 a1 a2 a.1.f4).bind (fun oL=>if oL.2 ≠ 0 then (some (((aJ.mk (bH.mk 0 0 ([] : (List aY))) 0 0 false (cM.mk 0 0 false false false false false false false false) 0 0 ([] : (List Int)) false false false false false false (dz.mk 0 0 false false (cM.mk 0 0 false false false false false false false false)) false (bH.mk 0 0 ([] : (List aY))) ([] : (List Int))),oL.2))) else ((if a.1.f15 = true then ((fQ.f k a.1.f16 a1 a2 a.1.f4).bind (fun c=>some (aJ.mk oL.1 a.1.f1 a.1.f2 a.1.f3 a.1.f4 a.1.f5 a.1.f6 a.1.f7 a.1.f8 a.1.f9 a.1.f10 a.1.f11 a.1.f12 a.1.f13 a.1.f14 a.1.f15 c.1 a.1.f17))) else (some (aJ.mk oL.1 a.1.f1 a.1.f2 a.1.f3 a.1.f4 a.1.f5 a.1.f6 a.1.f7 a.1.f8 a.1.f9 a.1.f10 a.1.f11 a.1.f12 a.1.f13 a.1.f14 a.1.f15 a.1.f16 a.1.f17)) : Option (aJ)).bind (fun b=>(qE.f k a1).bind (fun d=>some ((({ b with f1:=(da b.f1 (i64.wrap (a2 - 1))),f2:=(da b.f2 (i64.wrap (a1 - 1))),f3:=false,f5:=0,f6:=(i64.wrap (a2 - 1)),f7:=d,f14:=(dz.mk (da b.f14.f0 (i64.wrap (a2 - 1))) (da b.f14.f1 (i64.wrap (a1 - 1))) false b.f14.f3 b.f14.f4) }),0))))))))

def pN.f (k : Nat) (a0 : aJ) (a1 : qG) : Option (aJ × Int):=if a1.f0 = 0 then ((pR.f k a0 (IntKind.i32.wrap (a1.f1))).bind (fun p=>some ((p.1,p.2)))) else (if a1.f0 = 1 then ((jI.f k a0 (IntKind.i32.wrap (a1.f1))).bind (fun q=>some ((q.1,q.2)))) else (if a1.f0 = 2 then ((pS.f k a0 a1.f1 a1.f2).bind (fun r=>some ((r.1,r.2)))) else (if a1.f0 = 3 then ((jW.f k a0 a1.f1 a1.f2).bind (fun s=>some ((s.1,s.2)))) else (if a1.f0 = 4 then ((jJ.f k a0 a1.f3 a1.f1).bind (fun u=>some ((u.1,u.2)))) else (if a1.f0 = 5 then ((pT.f k a0 a1.f1).bind (fun a=>some ((a.1,a.2)))) else (if a1.f0 = 6 then ((pU.f k a0 a1.f1).bind (fun b=>some ((b.1,b.2)))) else (if a1.f0 = 7 then ((pV.f k a0 a1.f1).bind (fun c=>some ((c.1,c.2)))) else (if a1.f0 = 8 then ((pW.f k a0 a1.f1 a1.f2).bind (fun d=>some ((d.1,d.2)))) else (if a1.f0 = 9 then ((jf.f k a0 a1.f3).bind (fun h=>some ((h.1,h.2)))) else (if a1.f0 = 10 then ((pX.f k a0 a1.f3 a1.f1 (decide (a1.f2 > 0))).bind (fun j=>some ((j.1,j.2)))) else (if a1.f0 = 11 then ((fV.f k a0 a1.f1).bind (fun l=>some ((l.1,l.2)))) else (if a1.f0 = 12 then ((pY.f k a0 a1.f1).bind (fun m=>some ((m.1,m.2)))) else ((pZ.f k a0 a1.f1 a1.f2).bind (fun o=>some ((o.1,o.2))))))))))))))))

def sZ.l0 : Nat → aJ → Int → Int → Option (aJ × Int)
  | 0,_,_,_=>none
  | k + 1,b,c,a=>lt ((decide (a ≤ 100)) && (decide (c = 0))) fun h=>if h = true then ((uH.f k b a).bind (fun d=>lt (IntKind.i32.wrap (a + 1)) fun n62=>sZ.l0 k d.1 d.2 n62)) else (some (b,c))
def sZ.f (k : Nat)  : Option (Bool):=(F8.f k 3 2).bind (fun o=>(sZ.l0 k o.1 o.2 97 : Option (aJ × Int)).bind (fun a=>lt ((decide (a.2 = 0)) && (decide (a.1.f1 = 1))) fun b=>lt (b && (decide (a.1.f2 = 1))) fun c=>lt (c && (decide ((a.1.f0.f2.length : Int) = 6))) fun d=>(if d = true then (if 0 ≤ (2 : Int)∧(2 : Int) < (a.1.f0.f2.length : Int) then (some (decide (((rd a.1.f0.f2 (2 : Int)).f0) = 99))) else none) else (some false) : Option Bool).bind (fun h=>(if h = true then (if 0 ≤ (3 : Int)∧(3 : Int) < (a.1.f0.f2.length : Int) then (some (decide (((rd a.1.f0.f2 (3 : Int)).f0) = 100))) else none) else (some false) : Option Bool).bind (fun j=>lt (j && a.1.f8) fun l=>lt (l && a.1.f13) fun m=>some (m)))))
theorem sZ.ok  {r : Bool} (H : sZ.f k  = some r) : fS Tryz.prog 14 #[] [] (.bool r):=by
 refine aj Tryz.func14 rfl rfl ?_
 unfold sZ.f at H
 refine aR (ad aW (h:=cP ?_))
 obtain⟨r1,e4,H⟩:=ac H
 refine o' (ed [] [] (F8.ok e4) fun A2 c3 A5 c6 A8 c9 b4 c5=>?_)
 refine ad ar (h:=ad cr (h:=ad cr (h:=o' (cw (h:=fun b9=>o' (bi b9 0 4 (al r1.1 A2 c3 A5 c6 A8 c9 b4 c5) (h:=ad aW (h:=eD (ad aW (h:=bA ?_))))))))))
 obtain⟨l,H,a2⟩:=ac H
 refine bI (fun e ds As=>∃ (a : Nat),∃ (b : Option Addr) (z : Nat),∃ (q : Option Addr) (B : Nat),∃ (s : Option Addr) (D : Nat),∃ (u : Option Addr) (E : Nat),St [(1,aH a),(2,ae l.2)] (cN a l.1 b z q B s D u E) e ds As) ?_ ?_
 ·refine aQ (cj (fun k_ e ds As=>∃ (J : aJ) (K : Int) (p : Int),∃ (y : Nat),∃ (O : Option Addr) (Y : Nat),∃ (R : Option Addr) (Z : Nat),∃ (S : Option Addr) (a0 : Nat),∃ (U : Option Addr) (a1 : Nat),sZ.l0 k_ J K p = some l∧St [(1,aH y),(2,ae K),(3,aL p)] (cN y J O Y R Z S a0 U a1) e ds As) (k:=k) ⟨_,_,_,b9,A2,c3,A5,c6,A8,c9,b4,c5,H,jV [4,0,1,2,3]⟩ ?_)
  clear H
  rintro b0 e ds As ⟨J,K,p,y,O,Y,R,Z,S,a0,U,a1,H,b1⟩
  obtain _ | b0:=b0
  ·cases H
  rw [sZ.l0] at H
  refine SA.of_St b1 fun junk=>ao (aR (ad ar (h:=ad (gG rfl rfl) (h:=S' ar ?_))))
  obtain⟨e5,a4,H⟩:=bj H
  refine cK 3 (St [(1,aH y),(2,ae K),(3,aL p),(13,.bool e5)] (cN y J O Y R Z S a0 U a1)) ?_ ?_
  ·by_cases L : p ≤ 100
   ·refine bf (ai L) ar (h:=bf (ai L) (bk rfl rfl) (h:=cd (ai L) (h:=ah ?_)))
    have x_:=fD a4 ((ai L));exact bK [0,1,2,3,4]
   refine cu 2 (am L) (ck (am L) (h:=ah ?_))
   have x_:=fC a4 ((am L));exact bK [0,1,2,3,4]
  rintro e ds As b2
  refine bA (SA.of_St b2 fun junk=>?_)
  rcases bE H with⟨a3,H⟩|⟨a3,H⟩
  ·refine aD rfl a3 (ap (aa (ao (aQ (ak (bp (cm 0) (h:=S' ar ?_)))))))
   obtain⟨e9,e3,H⟩:=ac H
   refine o' (OA.ghost (Gh.freeze (k:=1) rfl) (OA.ghost (Gh.freeze (k:=2) rfl) (OA.ghost (Gh.freeze (k:=3) rfl) (OA.ghost (Gh.freeze (k:=4) rfl) (ed [1,2,3,4] [0,1,2,3,4] (uH.ok e3) fun b5 c7 b6 c8 b7 d0 b8 d1=>?_)))))
   refine ad ar (h:=ad cr (h:=ad cr (h:=o' (bi y 0 4 (al e9.1 b5 c7 b6 c8 b7 d0 b8 d1) (h:=ad aW (h:=ah (aF (aa (ak (ad ar (h:=S' (bW rfl rfl) ?_)))))))))))
   obtain⟨n62,e2,H⟩:=bj H
   refine bP (aL n62) (bo (v:=aL n62) (congrArg (Value.int .i32) e2.symm)) (h:=ah ?_)
   exact aa ⟨b0,Nat.lt_succ_self _,_,_,_,y,b5,c7,b6,c8,b7,d0,b8,d1,H,dZ [4,0,1,2,3]⟩
  refine aE rfl a3 (cf (aX (aX (cg ?_))))
  have h:=aN H;subst h
  exact aa ⟨y,O,Y,R,Z,S,a0,U,a1,dZ [0,1,2,3,4]⟩
 rintro e ds As ⟨a,b,z,q,B,s,D,u,E,b3⟩
 clear H
 have H:=a2
 clear a2
 refine aa (SA.of_St b3 fun junk=>aR (ad ar (h:=ad (bk rfl rfl) (h:=S' ar ?_))))
 obtain⟨d6,a5,H⟩:=bj H
 refine dy 4 [(1,aH a),(28,.bool d6)] (cN a l.1 b z q B s D u E) ?_ fun junk=>?_
 ·by_cases F : l.2 = 0
  ·refine bf (ai F) aA (h:=cE (ai F) (aP 0) (h:=bf (ai F) (bk rfl rfl) (h:=cd (ai F) (h:=ah ?_))))
   have x_:=fD a5 ((ai F));exact bK [0,1,2,3,4]
  refine cu 3 (am F) (ck (am F) (h:=ah ?_))
  have x_:=fC a5 ((am F));exact bK [0,1,2,3,4]
 refine S' ar ?_
 obtain⟨d7,a6,H⟩:=bj H
 refine dy 4 [(1,aH a),(33,.bool d7)] (cN a l.1 b z q B s D u E) ?_ fun junk=>?_
 ·by_cases I : d6 = true
  ·refine bf I aA (h:=cE I (aP 0) (h:=bf I (bk rfl rfl) (h:=cd I (h:=ah ?_))))
   have x_:=fD a6 I;exact bK [0,1,2,3,4]
  refine cu 3 (aM I) (ck (aM I) (h:=ah ?_))
  have x_:=fC a6 ((aM I));exact bK [0,1,2,3,4]
 refine S' ar ?_
 obtain⟨e6,a7,H⟩:=bj H
 refine dy 6 [(1,aH a),(40,.bool e6)] (cN a l.1 b z q B s D u E) ?_ fun junk=>?_
 ·by_cases o : d7 = true
  ·refine bf o aA (h:=bf o aA (h:=cE o (aP 0) (h:=iI o (ae (l.1.f0.f2.length : Int)) (cO Tryz.underlying24 rfl) (h:=bf o (bk rfl rfl) (h:=cd o (h:=ah ?_))))))
   have x_:=fD a7 o;exact bK [0,1,2,3,4]
  refine cu 5 (aM o) (ck (aM o) (h:=ah ?_))
  have x_:=fC a7 ((aM o));exact bK [0,1,2,3,4]
 refine S' ar ?_
 obtain⟨e7,H,e0⟩:=ac H
 refine dy 8 [(1,aH a),(49,.bool e7)] (cN a l.1 b z q B s D u E) ?_ fun junk=>?_
 ·rcases bE H with⟨c,H⟩|⟨c,H⟩
  ·refine bf c aA (h:=bf c aA (h:=z' c (aP 0) ?_))
   obtain⟨⟨d2,d3⟩,H⟩:=aO H
   refine cE c (bu (i:=(2 : Int)) Tryz.underlying24 cl rfl rfl (Src.buf (k:=1) rfl) d2 d3) (h:=iI c (.pointer (some ((el b ((2 : Int).toNat * 15)).add 0))) (lp (el b ((2 : Int).toNat * 15)) 0 0) (h:=cE c (bJ (enc:=cZ) (i:=(2 : Int)) (j:=(2 : Int).toNat * 15) (m:=0) (sz:=15) Tryz.underlying21 rfl rfl rfl rfl (Src.buf (k:=1) rfl) d2 d3 (fun _ _ h=>h) rfl) (h:=bf c (bk rfl rfl) (h:=gN c ?_))))
   have h:=aN H;subst h
   exact dL [0,1,2,3,4]
  refine cu 7 (aM c) (fZ (aM c) ?_)
  have h:=aN H;subst h
  exact dL [0,1,2,3,4]
 replace H:=e0
 refine S' ar ?_
 obtain⟨d8,H,e1⟩:=ac H
 refine dy 8 [(1,aH a),(58,.bool d8)] (cN a l.1 b z q B s D u E) ?_ fun junk=>?_
 ·rcases bE H with⟨d,H⟩|⟨d,H⟩
  ·refine bf d aA (h:=bf d aA (h:=z' d (aP 0) ?_))
   obtain⟨⟨d4,d5⟩,H⟩:=aO H
   refine cE d (bu (i:=(3 : Int)) Tryz.underlying24 cl rfl rfl (Src.buf (k:=1) rfl) d4 d5) (h:=iI d (.pointer (some ((el b ((3 : Int).toNat * 15)).add 0))) (lp (el b ((3 : Int).toNat * 15)) 0 0) (h:=cE d (bJ (enc:=cZ) (i:=(3 : Int)) (j:=(3 : Int).toNat * 15) (m:=0) (sz:=15) Tryz.underlying21 rfl rfl rfl rfl (Src.buf (k:=1) rfl) d4 d5 (fun _ _ h=>h) rfl) (h:=bf d (bk rfl rfl) (h:=gN d ?_))))
   have h:=aN H;subst h
   exact dL [0,1,2,3,4]
  refine cu 7 (aM d) (fZ (aM d) ?_)
  have h:=aN H;subst h
  exact dL [0,1,2,3,4]
 replace H:=e1
 refine S' ar ?_
 obtain⟨d9,a8,H⟩:=bj H
 refine dy 3 [(1,aH a),(62,.bool d9)] (cN a l.1 b z q B s D u E) ?_ fun junk=>?_
 ·by_cases M : d8 = true
  ·refine bf M aA (h:=cE M (aP 0) (h:=cd M (h:=ah ?_)))
   have x_:=fD a8 M;exact bK [0,1,2,3,4]
  refine cu 2 (aM M) (ck (aM M) (h:=ah ?_))
  have x_:=fC a8 ((aM M));exact bK [0,1,2,3,4]
 refine S' ar ?_
 obtain⟨e8,a9,H⟩:=bj H
 refine dy 3 [(66,.bool e8)] [] ?_ fun junk=>?_
 ·by_cases N : d9 = true
  ·refine bf N aA (h:=cE N (aP 0) (h:=cd N (h:=ah ?_)))
   have x_:=fD a9 N;exact bK []
  refine cu 2 (aM N) (ck (aM N) (h:=ah ?_))
  have x_:=fC a9 ((aM N));exact bK []
 refine ad aW (h:=cC ?_)
 have h:=aN H;subst h
 exact dX [] ⟨rfl,rfl⟩


theorem BC.ok {a0 : bH} {r : Bool} (H : fA.f k a0 = some r) : dk Tryz.prog 54 #[.agg #[ae a0.f0,ae a0.f1,.slice af a0.f2.length ag]] [Ro bD af ag a0.f2] (fun v B=>v = .bool r∧B = []):=by
 refine aj Tryz.func54 rfl rfl ?_
 unfold fA.f at H
 refine aR (o' (bO (h:=fun s=>ad aW (h:=eD (ad aA (h:=l' (aP 1) ?_))))))
 obtain⟨r4,a8,H⟩:=ac H
 refine o' (dc [] [0,1] (oU.ok a8) ?_)
 refine ad (bX rfl) (h:=S' ar ?_)
 obtain⟨q5,H,c7⟩:=ac H
 refine dy 5 [(1,aH s),(14,.bool q5)] [aK s 26 [ae a0.f0,ae a0.f1,.slice af a0.f2.length ag],Ro bD af ag a0.f2] ?_ fun junk=>?_
 ·rcases bE H with⟨E,H⟩|⟨E,H⟩
  ·refine cu 4 E (gN E ?_)
   have h:=aN H;subst h
   exact dL [1,0]
  refine bf (aM E) aA (h:=z' (aM E) (aP 1) ?_)
  obtain⟨r7,C8,H⟩:=ac H
  refine fT (aM E) (dc [] [0,1] (oU.ok C8) ?_)
  refine bf (aM E) (bX rfl) (h:=fZ (aM E) ?_)
  have h:=aN H;subst h
  exact dL [1,0]
 replace H:=c7
 refine S' ar ?_
 obtain⟨c9,a5,H⟩:=bj H
 refine cK 10 (St [(1,aH s),(25,.bool c9)] [aK s 26 [ae a0.f0,ae a0.f1,.slice af a0.f2.length ag],Ro bD af ag a0.f2]) ?_ ?_
 ·by_cases l : q5 = true
  ·refine cu 9 l (cd l (h:=ah ?_))
   have x_:=ji a5 l;exact bK [0,1]
  refine bf (aM l) aA (h:=cE (aM l) (aP 0) (h:=iI (aM l) (ae (a0.f2.length : Int)) (cO Tryz.underlying24 rfl) (h:=bf (aM l) aA (h:=cE (aM l) (aP 0) (h:=bf (aM l) aA (h:=cE (aM l) (aP 0) (h:=bf (aM l) (jt rfl rfl) (h:=bf (aM l) (dK rfl rfl) (h:=fZ (aM l) ?_)))))))))
  refine ah ?_
  have x_:=jh a5 ((aM l));exact bK [0,1]
 rintro e ds As b0
 refine bA (SA.of_St b0 fun junk=>?_)
 rcases bE H with⟨a1,H⟩|⟨a1,H⟩
 ·refine aD rfl a1 (aR (ad aW (h:=cD ?_)))
  have h:=aN H;subst h
  exact dX [] ⟨rfl,rfl⟩
 refine aE rfl a1 (ap (aa (ao (aR (ad aW (h:=bA ?_))))))
 obtain⟨c5,H,q⟩:=ac H
 refine bI (fun e ds As=>∃ (b9 : Unit),c5 = Out.go b9∧St [] [] e ds As) ?_ ?_
 ·refine aQ (cj (fun k_ e ds As=>∃ (a : Int),fA.l0 a0 k_ a = some c5∧St [(1,aH s),(3,ae a)] [aK s 26 [ae a0.f0,ae a0.f1,.slice af a0.f2.length ag],Ro bD af ag a0.f2] e ds As) (k:=k) ⟨_,H,jV [0,1]⟩ ?_)
  clear H
  rintro a6 e ds As ⟨a,H,b1⟩
  obtain _ | a6:=a6
  ·cases H
  rw [fA.l0] at H
  refine SA.of_St b1 fun junk=>ao (aR (ad ar (h:=ad aA (h:=bp (aP 0) (h:=bP (ae (a0.f2.length : Int)) (cO Tryz.underlying24 rfl) (h:=ad (ce rfl rfl) (h:=bA ?_)))))))
  rcases bE H with⟨a2,H⟩|⟨a2,H⟩
  ·refine aC rfl a2 (ap (aa (ao (aQ (ao (aR (ad aA (h:=bp (aP 0) (h:=S' ar ?_)))))))))
   obtain⟨⟨b4,b5⟩,H⟩:=aO H
   refine bp (bu (i:=a) Tryz.underlying24 cl rfl rfl (Src.ro (k:=1) rfl) b4 b5) (h:=l' (ci (enc:=cZ) (i:=a) (j:=a.toNat * 15) (m:=0) (sz:=15) (vs:=(bV (aY.mk ((rd a0.f2 a).f0) ((rd a0.f2 a).f1) ((rd a0.f2 a).f2) ((rd a0.f2 a).f3)))) Tryz.underlying55 rfl cl rfl rfl rfl (Src.ro (k:=1) rfl) b4 b5 (fun _ _ h=>h) rfl) ?_)
   obtain⟨gB,a7,H⟩:=ac H
   refine o' (dc [] [0,1] (kA.ok a7) ?_)
   refine ad (bX rfl) (h:=bA ?_)
   rcases bE H with⟨a3,H⟩|⟨a3,H⟩
   ·refine aD rfl a3 (aR (ad aW (h:=cD (ba (aG (aG (ba (aG (aG ?_)))))))))
    have h:=aN H;subst h
    have hb_:=dw q
    have hr_:=Option.some.inj hb_
    clear hb_
    subst hr_
    exact dX [] ⟨rfl,rfl⟩
   refine aE rfl a3 (ap (aa (aR (ad ar (h:=ad aA (h:=l' (aP 0) ?_))))))
   obtain⟨c8,H⟩:=aO H
   refine bP (ae (a.tmod a0.f0)) (nf rfl rfl c8) (h:=ad (eK rfl rfl) (h:=S' ar ?_))
   obtain⟨b8,H,c6⟩:=ac H
   refine dy 9 [(1,aH s),(3,ae a),(54,.bool b8)] [aK s 26 [ae a0.f0,ae a0.f1,.slice af a0.f2.length ag],Ro bD af ag a0.f2] ?_ fun junk=>?_
   ·rcases bE H with⟨o,H⟩|⟨o,H⟩
    ·refine bf (ai o) aA (h:=cE (ai o) (aP 0) (h:=bf (ai o) ar (h:=Y' (ai o) (cT rfl rfl) ?_)))
     obtain⟨⟨b6,b7⟩,H⟩:=aO H
     refine cE (ai o) (bu (i:=i64.wrap (a - 1)) Tryz.underlying24 cl rfl rfl (Src.ro (k:=1) rfl) b6 b7) (h:=iI (ai o) (.pointer (some ((el af ((i64.wrap (a - 1)).toNat * 15)).add 4))) (lp (el af ((i64.wrap (a - 1)).toNat * 15)) 0 4) (h:=cE (ai o) (bJ (enc:=cZ) (i:=i64.wrap (a - 1)) (j:=(i64.wrap (a - 1)).toNat * 15) (m:=4) (sz:=15) Tryz.underlying5 rfl rfl rfl rfl (Src.ro (k:=1) rfl) b6 b7 (fun _ _ h=>h) rfl) (h:=bf (ai o) (bk rfl rfl) (h:=gN (ai o) ?_))))
     have h:=aN H;subst h
     exact dL [0,1]
    refine cu 8 (am o) (fZ (am o) ?_)
    have h:=aN H;subst h
    exact dL [0,1]
   replace H:=c6
   refine ad aW (h:=bA (ao (ao ?_)))
   obtain⟨d0,H,R⟩:=ac H
   refine bI (St [(1,aH s),(3,ae a),(82,.bool d0)] [aK s 26 [ae a0.f0,ae a0.f1,.slice af a0.f2.length ag],Ro bD af ag a0.f2]) ?_ ?_
   ·refine fj (dt 0 28) [0,1] [1] fun _ _ _ _ _ sH dd pk=>?_
    refine bc 0 rfl sH aA (h:=bQ 1 rfl sH (aP 0) (h:=T' 2 rfl sH ar ?_))
    obtain⟨⟨S,U⟩,H⟩:=aO H
    refine bQ 3 rfl sH (bu (i:=a) Tryz.underlying24 cl rfl rfl (Src.ro (k:=1) rfl) S U) (h:=kV (.pointer (some ((el af (a.toNat * 15)).add 4))) 4 rfl sH (lp (el af (a.toNat * 15)) 0 4) (h:=bQ 5 rfl sH (bJ (enc:=cZ) (i:=a) (j:=a.toNat * 15) (m:=4) (sz:=15) Tryz.underlying5 rfl rfl rfl rfl (Src.ro (k:=1) rfl) S U (fun _ _ h=>h) rfl) (h:=bc 6 rfl sH (bk rfl rfl) (h:=bc 7 rfl sH ar (h:=kV (.bool (decide ((decide (((rd a0.f2 a).f2) = 0)) ≠ b8))) 8 rfl sH (oX Tryz.underlying4 rfl rfl) (h:=T' 9 rfl sH ar ?_))))))
    rcases bE H with⟨d,H⟩|⟨d,H⟩
    ·refine bT 10 rfl (ai d) (bT 11 rfl (ai d) (cG 12 rfl (cG 13 rfl (cG 14 rfl (cG 15 rfl (cG 16 rfl (cG 17 rfl (cG 18 rfl (cG 19 rfl ?_)))))))))
     refine cG 20 rfl (cG 21 rfl (cG 22 rfl (cG 23 rfl (cG 24 rfl (cG 25 rfl (bT 26 rfl (ai d) (bQ 27 rfl sH (VR.ofV (bS rfl (ai d) rfl)) (h:=aV dd sH (aI (by kernel_rfl) ?_)))))))))
     have h:=aN H;subst h
     exact bK [0,1]
    refine cY 10 rfl (am d) sH ar (h:=kX 11 rfl (am d) sH ar ?_)
    rcases bE H with⟨b,H⟩|⟨b,H⟩
    ·refine cY 12 rfl b sH aA (h:=cJ 13 rfl b sH (aP 0) (h:=kX 14 rfl b sH ar ?_))
     obtain⟨⟨Y,Z⟩,H⟩:=aO H
     refine cJ 15 rfl b sH (bu (i:=a) Tryz.underlying24 cl rfl rfl (Src.ro (k:=1) rfl) Y Z) (h:=iD (.pointer (some ((el af (a.toNat * 15)).add 5))) 16 rfl b sH (lp (el af (a.toNat * 15)) 0 5) (h:=cJ 17 rfl b sH (ci (enc:=cZ) (i:=a) (j:=a.toNat * 15) (m:=5) (sz:=15) (vs:=(bF ((rd a0.f2 a).f3))) Tryz.underlying28 rfl mf rfl rfl rfl (Src.ro (k:=1) rfl) Y Z (fun _ _ h=>h) rfl) (h:=cY 18 rfl b sH aA (h:=cJ 19 rfl b sH (aP 0) (h:=cY 20 rfl b sH ar (h:=kX 21 rfl b sH (cT rfl rfl) ?_))))))
     obtain⟨⟨F,I⟩,H⟩:=aO H
     refine cJ 22 rfl b sH (bu (i:=i64.wrap (a - 1)) Tryz.underlying24 cl rfl rfl (Src.ro (k:=1) rfl) F I) (h:=iD (.pointer (some ((el af ((i64.wrap (a - 1)).toNat * 15)).add 5))) 23 rfl b sH (lp (el af ((i64.wrap (a - 1)).toNat * 15)) 0 5) (h:=cJ 24 rfl b sH (ci (enc:=cZ) (i:=i64.wrap (a - 1)) (j:=(i64.wrap (a - 1)).toNat * 15) (m:=5) (sz:=15) (vs:=(bF ((rd a0.f2 (i64.wrap (a - 1))).f3))) Tryz.underlying28 rfl mf rfl rfl rfl (Src.ro (k:=1) rfl) F I (fun _ _ h=>h) rfl) (h:=iD (.bool (decide (((rd a0.f2 a).f3) ≠ ((rd a0.f2 (i64.wrap (a - 1))).f3)))) 25 rfl b sH (lg (xs:=(bF ((rd a0.f2 a).f3))) (ys:=(bF ((rd a0.f2 (i64.wrap (a - 1))).f3))) (r:=(((((rd a0.f2 a).f3).f0) == (((rd a0.f2 (i64.wrap (a - 1))).f3).f0)) && (((((rd a0.f2 a).f3).f1) == (((rd a0.f2 (i64.wrap (a - 1))).f3).f1)) && (((((rd a0.f2 a).f3).f2) == (((rd a0.f2 (i64.wrap (a - 1))).f3).f2)) && (((((rd a0.f2 a).f3).f3) == (((rd a0.f2 (i64.wrap (a - 1))).f3).f3)) && (((((rd a0.f2 a).f3).f4) == (((rd a0.f2 (i64.wrap (a - 1))).f3).f4)) && (((((rd a0.f2 a).f3).f5) == (((rd a0.f2 (i64.wrap (a - 1))).f3).f5)) && (((((rd a0.f2 a).f3).f6) == (((rd a0.f2 (i64.wrap (a - 1))).f3).f6)) && (((((rd a0.f2 a).f3).f7) == (((rd a0.f2 (i64.wrap (a - 1))).f3).f7)) && (((((rd a0.f2 a).f3).f8) == (((rd a0.f2 (i64.wrap (a - 1))).f3).f8)) && (((((rd a0.f2 a).f3).f9) == (((rd a0.f2 (i64.wrap (a - 1))).f3).f9)) && true))))))))))) (p:=((rd a0.f2 a).f3) = ((rd a0.f2 (i64.wrap (a - 1))).f3)) lR rfl rfl (by kernel_rfl) (lS (x:=((rd a0.f2 a).f3)) (y:=((rd a0.f2 (i64.wrap (a - 1))).f3)))) (h:=cJ 26 rfl (am d) sH (VR.ofV (bS rfl (b) rfl)) (h:=bQ 27 rfl sH (VR.ofV (bR rfl (am d) rfl)) (h:=aV dd sH (aI (by kernel_rfl) ?_)))))))
     have h:=aN H;subst h
     exact bK [0,1]
    refine bT 12 rfl (aM b) (bT 13 rfl (aM b) (bT 14 rfl (aM b) (bT 15 rfl (aM b) (bT 16 rfl (aM b) (bT 17 rfl (aM b) (bT 18 rfl (aM b) (bT 19 rfl (aM b) (bT 20 rfl (aM b) (bT 21 rfl (aM b) ?_)))))))))
    refine bT 22 rfl (aM b) (bT 23 rfl (aM b) (bT 24 rfl (aM b) (bT 25 rfl (aM b) (cJ 26 rfl (am d) sH (VR.ofV (bR rfl (aM b) rfl)) (h:=bQ 27 rfl sH (VR.ofV (bR rfl (am d) rfl)) (h:=aV dd sH (aI (by kernel_rfl) ?_)))))))
    have h:=aN H;subst h
    exact bK [0,1]
   rintro e ds As M
   clear H
   have H:=R
   clear R
   refine aa (SA.of_St M fun junk=>?_)
   rcases bE H with⟨u,H⟩|⟨u,H⟩
   ·refine aD rfl u (aR (ad aW (h:=cD (ba (aG (aG (ba (aG (aG ?_)))))))))
    have h:=aN H;subst h
    have hb_:=dw q
    have hr_:=Option.some.inj hb_
    clear hb_
    subst hr_
    exact dX [] ⟨rfl,rfl⟩
   refine aE rfl u (ap (aa (ao ?_)))
   obtain⟨b3,H,D⟩:=ac H
   refine bI (St [(1,aH s),(3,ae a),(99,.bool b3)] [aK s 26 [ae a0.f0,ae a0.f1,.slice af a0.f2.length ag],Ro bD af ag a0.f2]) ?_ ?_
   ·refine fj (dt 0 17) [0,1] [1] fun _ _ _ _ _ sH dd pk=>?_
    refine bc 0 rfl sH aA (h:=bQ 1 rfl sH (aP 0) (h:=T' 2 rfl sH ar ?_))
    obtain⟨⟨J,K⟩,H⟩:=aO H
    refine bQ 3 rfl sH (bu (i:=a) Tryz.underlying24 cl rfl rfl (Src.ro (k:=1) rfl) J K) (h:=kV (.pointer (some ((el af (a.toNat * 15)).add 4))) 4 rfl sH (lp (el af (a.toNat * 15)) 0 4) (h:=bQ 5 rfl sH (bJ (enc:=cZ) (i:=a) (j:=a.toNat * 15) (m:=4) (sz:=15) Tryz.underlying5 rfl rfl rfl rfl (Src.ro (k:=1) rfl) J K (fun _ _ h=>h) rfl) (h:=bc 6 rfl sH (bk rfl rfl) (h:=T' 7 rfl sH ar ?_))))
    rcases bE H with⟨c,H⟩|⟨c,H⟩
    ·refine cY 8 rfl (ai c) sH ar (h:=cY 9 rfl (ai c) sH aA (h:=zG 10 rfl (ai c) sH (aP 0) ?_))
     obtain⟨a9,H⟩:=aO H
     refine iD (ae (a.tmod a0.f0)) 11 rfl (ai c) sH (nf rfl rfl a9) (h:=cY 12 rfl (ai c) sH aA (h:=cJ 13 rfl (ai c) sH (aP 0) (h:=cY 14 rfl (ai c) sH (cT rfl rfl) (h:=cY 15 rfl (ai c) sH (bk rfl rfl) (h:=bQ 16 rfl sH (VR.ofV (bS rfl (ai c) rfl)) (h:=aV dd sH (aI (by kernel_rfl) ?_)))))))
     have h:=aN H;subst h
     exact bK [0,1]
    refine bT 8 rfl (am c) (bT 9 rfl (am c) (bT 10 rfl (am c) (bT 11 rfl (am c) (bT 12 rfl (am c) (bT 13 rfl (am c) (bT 14 rfl (am c) (bT 15 rfl (am c) (bQ 16 rfl sH (VR.ofV (bR rfl (am c) rfl)) (h:=aV dd sH ?_)))))))))
    refine aI (by kernel_rfl) ?_
    have h:=aN H;subst h
    exact bK [0,1]
   rintro e ds As N
   clear H
   have H:=D
   clear D
   refine aa (SA.of_St N fun junk=>?_)
   rcases bE H with⟨z,H⟩|⟨z,H⟩
   ·refine aD rfl z (aR (ad aW (h:=cC (ba (aG (aG (ba (aG (aG ?_)))))))))
    have h:=aN H;subst h
    have hb_:=dw q
    have hr_:=Option.some.inj hb_
    clear hb_
    subst hr_
    exact dX [] ⟨rfl,rfl⟩
   refine aE rfl z (ap (aF (aa (ak (ad ar (h:=S' (bW rfl rfl) ?_))))))
   obtain⟨L,a4,H⟩:=bj H
   refine bP (ae L) (bo (v:=ae L) (congrArg (Value.int .i64) a4.symm)) (h:=ah ?_)
   exact aa ⟨a6,Nat.lt_succ_self _,_,H,dZ [0,1]⟩
  refine aB rfl a2 (cf (aX (aX (cg ?_))))
  have h:=aN H;subst h
  exact aa ⟨(),rfl,dZ []⟩
 rintro e ds As ⟨b9,ht,O⟩
 clear H
 subst ht
 replace q:=fw q
 have H:=q
 clear q
 refine aa (SA.of_St O fun junk=>aR (ad aW (h:=cC ?_)))
 have h:=aN H;subst h
 exact dX [] ⟨rfl,rfl⟩


theorem BD.ok {a0 : bH} {a1 : Int} {a2 : Int} {a3 : Bool} {r : Bool} (H : lf.f a0 a1 a2 a3 = some r) : dk Tryz.prog 55 #[.agg #[ae a0.f0,ae a0.f1,.slice af a0.f2.length ag],ae a1,ae a2,.bool a3] [Ro bD af ag a0.f2] (fun v B=>v = .bool r∧B = []):=by
 refine aj Tryz.func55 rfl rfl ?_
 unfold lf.f at H
 refine aR (o' (bO (h:=fun l=>ad aW (h:=cP (ad ar (h:=ad (dT rfl rfl) (h:=S' ar ?_)))))))
 obtain⟨y,o,H⟩:=bj H
 refine dy 5 [(2,ae a2),(3,.bool a3),(4,aH l),(16,.bool y)] [aK l 26 [ae a0.f0,ae a0.f1,.slice af a0.f2.length ag],Ro bD af ag a0.f2] ?_ fun junk=>?_
 ·by_cases d : a1 ≥ 0
  ·refine bf (ai d) ar (h:=bf (ai d) aA (h:=cE (ai d) (aP 1) (h:=bf (ai d) (ce rfl rfl) (h:=cd (ai d) (h:=ah ?_)))))
   have x_:=fD o ((ai d));exact bK [1,0]
  refine cu 4 (am d) (ck (am d) (h:=ah ?_))
  have x_:=fC o ((am d));exact bK [1,0]
 refine S' ar ?_
 obtain⟨z,p,H⟩:=bj H
 refine dy 3 [(2,ae a2),(3,.bool a3),(4,aH l),(20,.bool z)] [aK l 26 [ae a0.f0,ae a0.f1,.slice af a0.f2.length ag],Ro bD af ag a0.f2] ?_ fun junk=>?_
 ·by_cases j : y = true
  ·refine bf j ar (h:=bf j (dT rfl rfl) (h:=cd j (h:=ah ?_)))
   have x_:=fD p j;exact bK [0,1]
  refine cu 2 (aM j) (ck (aM j) (h:=ah ?_))
  have x_:=fC p ((aM j));exact bK [0,1]
 refine S' ar ?_
 obtain⟨s,m,H⟩:=bj H
 refine dy 5 [(2,ae a2),(3,.bool a3),(4,aH l),(26,.bool s)] [aK l 26 [ae a0.f0,ae a0.f1,.slice af a0.f2.length ag],Ro bD af ag a0.f2] ?_ fun junk=>?_
 ·by_cases b : z = true
  ·refine bf b ar (h:=bf b aA (h:=cE b (aP 0) (h:=bf b (ce rfl rfl) (h:=cd b (h:=ah ?_)))))
   have x_:=fD m b;exact bK [0,1]
  refine cu 4 (aM b) (ck (aM b) (h:=ah ?_))
  have x_:=fC m ((aM b));exact bK [0,1]
 refine S' ar ?_
 obtain⟨u,H,q⟩:=ac H
 refine dy 10 [(37,.bool u)] [] ?_ fun junk=>?_
 ·rcases bE H with⟨a,H⟩|⟨a,H⟩
  ·refine bf a ar (h:=bf a (bX rfl) (h:=Y' a ar ?_))
   rcases bE H with⟨c,H⟩|⟨c,H⟩
   ·refine cu 5 c (fT a (dr rfl (bS rfl (c) rfl) (gN a ?_)))
    have h:=aN H;subst h
    exact dL []
   refine bf (aM c) ar (h:=bf (aM c) aA (h:=cE (aM c) (aP 0) (h:=bf (aM c) (cT rfl rfl) (h:=bf (aM c) (bk rfl rfl) (h:=fT a (dr rfl (bR rfl (aM c) rfl) (gN a ?_)))))))
   have h:=aN H;subst h
   exact dL []
  refine cu 3 (aM a) (fY (fY (fY (fY (fY (cu 1 (aM a) (fZ (aM a) ?_)))))))
  have h:=aN H;subst h
  exact dL []
 replace H:=q
 refine ad aW (h:=cC ?_)
 have h:=aN H;subst h
 exact dX [] ⟨rfl,rfl⟩

end Go.Proofs.YtckilbegmbaeeaaGreat.Z6

/- Walks. -/
import Derived.Test.YtckilbegmbaeeaaGreatZ69
namespace Go.Proofs.YtckilbegmbaeeaaGreat.Z6
open Go Go.RowKit Go.Proofs.YtckilbegmbaeeaaGreat.SL
open Go.IntKind (i64)
set_option linter.unusedVariables false
set_option maxHeartbeats 20000000
set_option maxRecDepth 100000
set_option linter.unusedSimpArgs false
attribute [local irreducible] IntKind.wrap da fk gR kN kD po ky eS kF rd sub bytesOf ib dj
variable {bg ag az av ax k : Nat}
variable {af ay au aw : Option Addr}
def cA.l1 (a0 : bH) (a1 : Int) (a2 : Int) (a3 : Int) (a4 : cM) (r18 : bH) (x13_24 : Int) (z12_2_24 : (List aY)) : Nat → Int → (List aY) → Option ((List aY))
  | 0,_,_=>none
  | k + 1,a,b=>if b.length = z12_2_24.length then (if a < a0.f0 then ((pE.f a4).bind (fun nr=>lt ((decide (a3 ≥ (i64.wrap (0 - a0.f1)))) && (decide (a3 ≤ a0.f1))) fun l=>lt (l && (decide ((i64.wrap (x13_24 + a3)) ≥ a1))) fun m=>lt (m && (decide ((i64.wrap (x13_24 + a3)) ≤ a2))) fun o=>(if o = true then ((dv.f a0 (i64.wrap (x13_24 + a3))).bind (fun c=>if (0 ≤ c.1∧0 ≤ c.2∧c.1 + c.2 ≤ (a0.f2.length : Int)) then (if 0 ≤ a∧a < c.2 then (some (aY.mk ((rd a0.f2 (c.1 + a)).f0) ((rd a0.f2 (c.1 + a)).f1) ((rd a0.f2 (c.1 + a)).f2) ((rd a0.f2 (c.1 + a)).f3))) else none) else none)) else (some nr) : Option (aY)).bind (fun p=>(dv.f (bH.mk r18.f0 r18.f1 b) x13_24).bind (fun d=>if (0 ≤ d.1∧0 ≤ d.2∧d.1 + d.2 ≤ (b.length : Int)) then (if 0 ≤ a∧a < d.2 then (lt (b.set (d.1 + a).toNat p) fun h=>(lt (i64.wrap (a + 1)) fun j=>cA.l1 a0 a1 a2 a3 a4 r18 x13_24 z12_2_24 k j h)) else none) else none)))) else (some b)) else none
def cA.l0 (a0 : bH) (a1 : Int) (a2 : Int) (a3 : Int) (a4 : cM) (r18 : bH) : Nat → Int → (List aY) → Option ((List aY))
  | 0,_,_=>none
  | k + 1,b,a=>if a.length = r18.f2.length then (if b ≤ a2 then ((cA.l1 a0 a1 a2 a3 a4 r18 b a k 0 a : Option ((List aY))).bind (fun c=>if c.length = a.length then (lt (i64.wrap (b + 1)) fun d=>cA.l0 a0 a1 a2 a3 a4 r18 k d c) else none)) else (some a)) else none
def cA.f (k : Nat) (a0 : bH) (a1 : Int) (a2 : Int) (a3 : Int) (a4 : cM) : Option (bH × Int):=(ip.f k a0 a4 a1).bind (fun h=>lt (h || (decide (a2 < a1))) fun c=>lt (c || (decide (a2 ≥ a0.f1))) fun d=>if d = true then (some (((bH.mk 0 0 ([] : (List aY))),2))) else ((hH.f a0).bind (fun a=>(cA.l0 a0 a1 a2 a3 a4 a k a1 a.f2 : Option ((List aY))).bind (fun b=>if b.length = a.f2.length then (some (((bH.mk a.f0 a.f1 b),0))) else none))))
theorem cA.ok {a0 : bH} {a1 : Int} {a2 : Int} {a3 : Int} {a4 : cM} {r : bH × Int} (H : cA.f k a0 a1 a2 a3 a4 = some r) : dk Tryz.prog 105 #[.agg #[ae a0.f0,ae a0.f1,.slice af a0.f2.length ag],ae a1,ae a2,ae a3,.agg (bF a4).toArray] [Buf bD 55 af ag a0.f2] (fun v B=>∃ aS aT,v = .tuple #[.agg #[ae r.1.f0,ae r.1.f1,.slice aS r.1.f2.length aT],ae r.2]∧B = [Buf bD 55 aS aT r.1.f2,Buf bD 55 af ag a0.f2]):=by
 refine aj Tryz.func105 rfl rfl ?_
 unfold cA.f at H
 refine aR (o' (bO (h:=fun z=>o' (bO (h:=fun D=>o' (cw (h:=fun u=>ad aW (h:=bA (ao (ao (bM 0 fun h0=>ak (bp (cz z 0 1 [ae a0.f0,ae a0.f1,.slice af a0.f2.length ag]) (h:=l' (cm 2) ?_)))))))))))))
 refine S' ar ?_
 obtain⟨r9,e3,H⟩:=ac H
 refine o' (dc [0] [1,2,3] (ip.ok e3) ?_)
 refine S' ar ?_
 obtain⟨d7,b0,H⟩:=bj H
 refine dy 4 [(1,ae a1),(2,ae a2),(3,ae a3),(5,aH z),(9,aH D),(10,aH u),(24,.bool d7)] [Buf bD 55 af ag a0.f2,aK z 26 [ae a0.f0,ae a0.f1,.slice af a0.f2.length ag],aK D 28 (bF a4),aK u 26 [ae 0,ae 0,.slice none 0 0]] ?_ fun junk=>?_
 ·by_cases M : r9 = true
  ·refine cu 3 M (cd M (h:=ah ?_))
   have x_:=ji b0 M;exact bK [0,1,2,3]
  refine bf (aM M) ar (h:=bf (aM M) ar (h:=bf (aM M) (ce rfl rfl) (h:=ck (aM M) (h:=ah ?_))))
  have x_:=jh b0 ((aM M));exact bK [0,1,2,3]
 refine S' ar ?_
 obtain⟨f9,b1,H⟩:=bj H
 refine cK 5 (St [(1,ae a1),(2,ae a2),(3,ae a3),(5,aH z),(9,aH D),(10,aH u),(30,.bool f9)] [Buf bD 55 af ag a0.f2,aK z 26 [ae a0.f0,ae a0.f1,.slice af a0.f2.length ag],aK D 28 (bF a4),aK u 26 [ae 0,ae 0,.slice none 0 0]]) ?_ ?_
 ·by_cases J : d7 = true
  ·refine cu 4 J (cd J (h:=ah ?_))
   have x_:=ji b1 J;exact bK [0,1,2,3]
  refine bf (aM J) ar (h:=bf (aM J) aA (h:=cE (aM J) (aP 1) (h:=bf (aM J) (dT rfl rfl) (h:=ck (aM J) (h:=ah ?_)))))
  have x_:=jh b1 ((aM J));exact bK [0,1,2,3]
 rintro e ds As d2
 refine bA (SA.of_St d2 fun junk=>?_)
 rcases bE H with⟨a6,H⟩|⟨a6,H⟩
 ·refine aD rfl a6 (aR (bP (.agg #[ae 0,ae 0,.slice none 0 0]) dP (h:=o' (bi u 0 3 [ae 0,ae 0,.slice none 0 0] (h:=ad aW (h:=cD ?_))))))
  have h:=aN H;subst h
  exact ma [.cell 10 26,.tmp 11] ((Gh.nilBuf bD 55).trans (eZ [4,0])) ⟨none,0,rfl,rfl⟩ ⟨cV 3,cW,trivial⟩
 refine aE rfl a6 (ap (aa (aR (l' (cz z 0 1 [ae a0.f0,ae a0.f1,.slice af a0.f2.length ag]) ?_))))
 obtain⟨c,e2,H⟩:=ac H
 refine o' (gy [0] [1,2,3] (hH.ok e2) fun d o=>?_)
 refine o' (cw (h:=fun q=>o' (bi q 0 5 [ae c.f0,ae c.f1,.slice d c.f2.length o] (h:=eD (ad ar (h:=ad aW (h:=bA ?_)))))))
 obtain⟨N,H,Y⟩:=ac H
 refine bI (St [(10,aH u),(12,aH q)] [Buf bD 55 af ag a0.f2,aK u 26 [ae 0,ae 0,.slice none 0 0],aK q 26 [ae c.f0,ae c.f1,.slice d N.length o],Buf bD 55 d o N]) ?_ ?_
 ·refine aQ (cj (fun k_ e ds As=>∃ (p : Int) (s : (List aY)),cA.l0 a0 a1 a2 a3 a4 c k_ p s = some N∧St [(1,ae a1),(2,ae a2),(3,ae a3),(5,aH z),(9,aH D),(10,aH u),(12,aH q),(13,ae p)] [Buf bD 55 af ag a0.f2,aK z 26 [ae a0.f0,ae a0.f1,.slice af a0.f2.length ag],aK D 28 (bF a4),aK u 26 [ae 0,ae 0,.slice none 0 0],aK q 26 [ae c.f0,ae c.f1,.slice d s.length o],Buf bD 55 d o s] e ds As) (k:=k) ⟨_,_,H,jV [1,2,3,4,5,0]⟩ ?_)
  clear H
  rintro S e ds As ⟨p,s,H,d3⟩
  obtain _ | S:=S
  ·cases H
  rw [cA.l0] at H
  obtain⟨g3,H⟩:=aO H
  refine SA.of_St d3 fun junk=>ao (aR (ad ar (h:=ad ar (h:=ad (gG rfl rfl) (h:=bA ?_)))))
  rcases bE H with⟨a7,H⟩|⟨a7,H⟩
  ·refine aC rfl a7 (ap (aa (ao (aQ (aR (ad aW (h:=bA ?_)))))))
   obtain⟨c8,H,Z⟩:=ac H
   refine bI (St [(1,ae a1),(2,ae a2),(3,ae a3),(5,aH z),(9,aH D),(10,aH u),(12,aH q),(13,ae p)] [Buf bD 55 af ag a0.f2,aK z 26 [ae a0.f0,ae a0.f1,.slice af a0.f2.length ag],aK D 28 (bF a4),aK u 26 [ae 0,ae 0,.slice none 0 0],aK q 26 [ae c.f0,ae c.f1,.slice d c8.length o],Buf bD 55 d o c8]) ?_ ?_
   ·refine aQ (cj (fun k_ e ds As=>∃ (a : Int) (b : (List aY)),cA.l1 a0 a1 a2 a3 a4 c p s k_ a b = some c8∧St [(1,ae a1),(2,ae a2),(3,ae a3),(5,aH z),(9,aH D),(10,aH u),(12,aH q),(13,ae p),(14,ae a)] [Buf bD 55 af ag a0.f2,aK z 26 [ae a0.f0,ae a0.f1,.slice af a0.f2.length ag],aK D 28 (bF a4),aK u 26 [ae 0,ae 0,.slice none 0 0],aK q 26 [ae c.f0,ae c.f1,.slice d b.length o],Buf bD 55 d o b] e ds As) (k:=S) ⟨_,_,H,jV [0,1,2,3,4,5]⟩ ?_)
    clear H
    rintro c5 e ds As ⟨a,b,H,d4⟩
    obtain _ | c5:=c5
    ·cases H
    rw [cA.l1] at H
    obtain⟨g1,H⟩:=aO H
    refine SA.of_St d4 fun junk=>ao (aR (ad ar (h:=ad aA (h:=bp (aP 1) (h:=ad (ce rfl rfl) (h:=bA ?_))))))
    rcases bE H with⟨a8,H⟩|⟨a8,H⟩
    ·refine aC rfl a8 (ap (aa (ao (aQ (aR (l' (cm 2) ?_))))))
     obtain⟨nr,e1,H⟩:=ac H
     refine o' (dc [] [0,1,2,3,4,5] (pE.ok e1) ?_)
     refine o' (cw (h:=fun E=>o' (bi E 0 6 (bV nr) (h:=eD (ad ar (h:=ad aA (h:=bp (aP 1) (h:=bP (ae (i64.wrap (0 - a0.f1))) (mr rfl) (h:=ad (dT rfl rfl) (h:=S' ar ?_))))))))))
     obtain⟨d8,b3,H⟩:=bj H
     refine dy 5 [(1,ae a1),(2,ae a2),(3,ae a3),(5,aH z),(9,aH D),(10,aH u),(12,aH q),(13,ae p),(14,ae a),(15,aH E),(58,.bool d8)] [Buf bD 55 af ag a0.f2,aK z 26 [ae a0.f0,ae a0.f1,.slice af a0.f2.length ag],aK D 28 (bF a4),aK u 26 [ae 0,ae 0,.slice none 0 0],aK q 26 [ae c.f0,ae c.f1,.slice d b.length o],Buf bD 55 d o b,aK E 55 (bV nr)] ?_ fun junk=>?_
     ·by_cases K : a3 ≥ (i64.wrap (0 - a0.f1))
      ·refine bf (ai K) ar (h:=bf (ai K) aA (h:=cE (ai K) (aP 1) (h:=bf (ai K) (gG rfl rfl) (h:=cd (ai K) (h:=ah ?_)))))
       have x_:=fD b3 ((ai K));exact bK [0,1,2,3,4,5,6]
      refine cu 4 (am K) (ck (am K) (h:=ah ?_))
      have x_:=fC b3 ((am K));exact bK [0,1,2,3,4,5,6]
     refine S' ar ?_
     obtain⟨d9,b5,H⟩:=bj H
     refine dy 6 [(1,ae a1),(2,ae a2),(3,ae a3),(5,aH z),(9,aH D),(10,aH u),(12,aH q),(13,ae p),(14,ae a),(15,aH E),(65,.bool d9)] [Buf bD 55 af ag a0.f2,aK z 26 [ae a0.f0,ae a0.f1,.slice af a0.f2.length ag],aK D 28 (bF a4),aK u 26 [ae 0,ae 0,.slice none 0 0],aK q 26 [ae c.f0,ae c.f1,.slice d b.length o],Buf bD 55 d o b,aK E 55 (bV nr)] ?_ fun junk=>?_
     ·by_cases F : d8 = true
      ·refine bf F ar (h:=bf F ar (h:=bf F (bW rfl rfl) (h:=bf F ar (h:=bf F (dT rfl rfl) (h:=cd F (h:=ah ?_))))))
       have x_:=fD b5 F;exact bK [0,1,2,3,4,5,6]
      refine cu 5 (aM F) (ck (aM F) (h:=ah ?_))
      have x_:=fC b5 ((aM F));exact bK [0,1,2,3,4,5,6]
     refine S' ar ?_
     obtain⟨g0,b7,H⟩:=bj H
     refine cK 6 (St [(1,ae a1),(2,ae a2),(3,ae a3),(5,aH z),(9,aH D),(10,aH u),(12,aH q),(13,ae p),(14,ae a),(15,aH E),(72,.bool g0)] [Buf bD 55 af ag a0.f2,aK z 26 [ae a0.f0,ae a0.f1,.slice af a0.f2.length ag],aK D 28 (bF a4),aK u 26 [ae 0,ae 0,.slice none 0 0],aK q 26 [ae c.f0,ae c.f1,.slice d b.length o],Buf bD 55 d o b,aK E 55 (bV nr)]) ?_ ?_
     ·by_cases I : d9 = true
      ·refine bf I ar (h:=bf I ar (h:=bf I (bW rfl rfl) (h:=bf I ar (h:=bf I (gG rfl rfl) (h:=cd I (h:=ah ?_))))))
       have x_:=fD b7 I;exact bK [0,1,2,3,4,5,6]
      refine cu 5 (aM I) (ck (aM I) (h:=ah ?_))
      have x_:=fC b7 ((aM I));exact bK [0,1,2,3,4,5,6]
     rintro e ds As d5
     refine bA (SA.of_St d5 fun junk=>?_)
     obtain⟨U,H,a5⟩:=ac H
     refine bI (fun e ds As=>∃ (O : Nat),St [(1,ae a1),(2,ae a2),(3,ae a3),(5,aH z),(9,aH D),(10,aH u),(12,aH q),(13,ae p),(14,ae a),(15,aH O)] [aK O 55 (bV U),Buf bD 55 af ag a0.f2,aK z 26 [ae a0.f0,ae a0.f1,.slice af a0.f2.length ag],aK D 28 (bF a4),aK u 26 [ae 0,ae 0,.slice none 0 0],aK q 26 [ae c.f0,ae c.f1,.slice d b.length o],Buf bD 55 d o b] e ds As) ?_ ?_
     ·rcases bE H with⟨a9,H⟩|⟨a9,H⟩
      ·refine aD rfl a9 (bM 5 fun g6=>ak (bp (cz z 0 1 [ae a0.f0,ae a0.f1,.slice af a0.f2.length ag]) (h:=ad ar (h:=ad ar (h:=S' (bW rfl rfl) ?_)))))
       obtain⟨y,f4,H⟩:=ac H
       obtain⟨⟨hl52a,hl52b,hl52c⟩,H⟩:=aO H
       refine o' (ms [0] [1,2,3,4,5,6] (dv.ok f4) ?_)
       rintro _ _⟨g9,h3,e8,rfl,rfl⟩
       refine S' ar ?_
       obtain⟨⟨f5,f6⟩,H⟩:=aO H
       have f7 : 0 ≤ y.1 + a:=by omega
       have f8 : y.1 + a < (a0.f2.length : Int):=by omega
       refine bp (eN (l:=y.1) (m:=y.2) (i:=a) (sz:=15) e8 Tryz.underlying24 cl rfl rfl (Src.buf (k:=0) rfl) f5 f6 (by omega)) (h:=bp (ci (enc:=cZ) (i:=y.1 + a) (j:=(y.1 + a).toNat * 15) (m:=0) (sz:=15) (vs:=(bV (aY.mk ((rd a0.f2 (y.1 + a)).f0) ((rd a0.f2 (y.1 + a)).f1) ((rd a0.f2 (y.1 + a)).f2) ((rd a0.f2 (y.1 + a)).f3)))) Tryz.underlying55 rfl cl rfl rfl rfl (Src.buf (k:=0) rfl) f7 f8 (fun _ _ h=>h) rfl) (h:=o' (bi E 0 6 (bV (aY.mk ((rd a0.f2 (y.1 + a)).f0) ((rd a0.f2 (y.1 + a)).f1) ((rd a0.f2 (y.1 + a)).f2) ((rd a0.f2 (y.1 + a)).f3))) (h:=ah ?_))))
       have h:=aN H;subst h
       exact aa ⟨E,dZ [6,0,1,2,3,4,5]⟩
      refine aE rfl a9 (ap ?_)
      have h:=aN H;subst h
      exact aa ⟨E,dZ [6,0,1,2,3,4,5]⟩
     rintro e ds As ⟨O,d6⟩
     clear H
     have H:=a5
     clear a5
     refine aa (SA.of_St d6 fun junk=>bM 6 fun g7=>?_)
     refine fN [0,1,3,4,5] #[[],[],[0,1],[],[],[0,1,3,4],[0,1,3,4,5]] [aK O 55 (bV U),aK q 26 [ae c.f0,ae c.f1,.slice d b.length o],Buf bD 55 d o b] jw (bU.inb (bU.thn (bU.thn (bU.inb (bU.thn (bU.inb (bU.thn (bU.thn (bU.inb (bU.thn (bU.thn bU.body))))))))))) fun I0 h1 w0 pk=>?_
     refine gZ 0 [0,5,6] rfl (cz q 0 1 [ae c.f0,ae c.f1,.slice d b.length o]) (h:=eA (ae p) 1 [0,5,6] rfl fO (h:=eA (ae a) 3 [0,5,6] rfl fO (h:=sI 4 [0,5,6] rfl (cm 0) ?_)))
     obtain⟨L,e0,H⟩:=ac H
     obtain⟨⟨hl184a,hl184b,hl184c⟩,H⟩:=aO H
     refine eX 2 (by kernel_rfl) rfl (.no rfl) (ms [6] [0,1,2,3,4,5] (dv.ok e0) ?_)
     rintro _ _⟨g5,g8,c9,rfl,rfl⟩
     refine ⟨fun _=>⟨[1,6,0],rfl,rfl⟩,?_⟩
     obtain⟨⟨e4,e5⟩,H⟩:=aO H
     have e6 : 0 ≤ L.1 + a:=by omega
     have e7 : L.1 + a < (b.length : Int):=by omega
     refine sI 5 [1,6,0] rfl (eN (l:=L.1) (m:=L.2) (i:=a) (sz:=15) c9 Tryz.underlying24 cl rfl rfl (Src.buf (k:=2) rfl) e4 e5 (by omega)) ?_
     obtain⟨e9,R,H⟩:=bj H
     have hl_n420 : e9.length = b.length:=by rw [R]; exact List.length_set
     refine eX 6 (by kernel_rfl) rfl (.no rfl) (fW (k:=0) (i:=L.1 + a) (j:=(L.1 + a).toNat * 15) (m:=0) (sz:=15) (xs:=b) (vs:=(bV U)) U rfl rfl rfl rfl rfl rfl rfl rfl cl e6 e7 rfl (fun _ _ h_=>by subst h_; rfl) ?_)
     rewrite [← R]
     try unfold bF
     try rewrite [← hl_n420]
     refine ⟨fun h_=>absurd h_ (by decide),?_⟩
     refine aI (by kernel_rfl) (aF (aa (ak (ad ar (h:=S' (bW rfl rfl) ?_)))))
     obtain⟨c6,d0,H⟩:=bj H
     refine bP (ae c6) (bo (v:=ae c6) (congrArg (Value.int .i64) d0.symm)) (h:=ah ?_)
     exact aa ⟨c5,Nat.lt_succ_self _,_,_,H,dZ [2,3,4,5,6,0]⟩
    refine aB rfl a8 (cf (aX (aX (cg ?_))))
    have h:=aN H;subst h
    exact bK [0,1,2,3,4,5]
   rintro e ds As b8
   clear H
   have H:=Z
   clear Z
   obtain⟨g2,H⟩:=aO H
   refine aF (aa (SA.of_St b8 fun junk=>ak (ad ar (h:=S' (bW rfl rfl) ?_))))
   obtain⟨c7,d1,H⟩:=bj H
   refine bP (ae c7) (bo (v:=ae c7) (congrArg (Value.int .i64) d1.symm)) (h:=ah ?_)
   exact aa ⟨S,Nat.lt_succ_self _,_,_,H,dZ [0,1,2,3,4,5]⟩
  refine aB rfl a7 (cf (aX (aX (cg ?_))))
  have h:=aN H;subst h
  exact bK [0,3,4,5]
 rintro e ds As b9
 clear H
 have H:=Y
 clear Y
 obtain⟨g4,H⟩:=aO H
 refine aa (SA.of_St b9 fun junk=>aR (bp (cz q 0 2 [ae c.f0,ae c.f1,.slice d N.length o]) (h:=o' (bi u 0 1 [ae c.f0,ae c.f1,.slice d N.length o] (h:=ad aW (h:=cC ?_))))))
 have h:=aN H;subst h
 exact du [.cell 10 26,.tmp 11] [3,0] ⟨d,o,rfl,rfl⟩ ⟨cV 1,cW,trivial⟩


def il.f (k : Nat) (p0 : aJ) : Option (aJ):=if p0.f1 = p0.f6 then ((cA.f k p0.f0 p0.f5 p0.f6 1 p0.f4).bind (fun a=>some (({ p0 with f0:=a.1 })))) else (if p0.f1 < (i64.wrap (p0.f0.f1 - 1)) then (some (({ p0 with f1:=(i64.wrap (p0.f1 + 1)) }))) else (some (p0)))
theorem il.ok {p0 : aJ} {r : aJ} (H : il.f k p0 = some r) : dk Tryz.prog 101 #[.pointer (some ⟨bg,0,none⟩)] (cN bg p0 af ag ay az au av aw ax) (fun v B=>∃ P0_0_ q0_0_ P0_1_ q0_1_ P0_2_ q0_2_ P0_3_ q0_3_,v = .tuple #[]∧B = (cN bg r P0_0_ q0_0_ P0_1_ q0_1_ P0_2_ q0_2_ P0_3_ q0_3_)):=by
 refine aj Tryz.func101 rfl rfl ?_
 unfold il.f at H
 refine ao ?_
 refine fj (dt 0 9) [0] (dt 1 4) fun _ _ _ _ _ sH dd pk=>?_
 refine bc 0 rfl sH ar (h:=bc 1 rfl sH cI (h:=bc 2 rfl sH aA (h:=bQ 3 rfl sH (aP 0) (h:=bc 4 rfl sH ar (h:=bc 5 rfl sH cI (h:=bc 6 rfl sH aA (h:=bQ 7 rfl sH (aP 0) (h:=bc 8 rfl sH (bk rfl rfl) (h:=aV dd sH ?_)))))))))
 refine aI (by kernel_rfl) (aa ?_)
 rcases bE H with⟨l,H⟩|⟨l,H⟩
 ·refine aC rfl l (bM 1 fun m=>bM 2 fun o=>bM 3 fun p=>bM 4 fun q=>?_)
  refine lG jw bU.body fun u s y pk=>?_
  refine ca 0 rfl ar (h:=ca 1 rfl ar (h:=ca 2 rfl cI (h:=ca 3 rfl aA (h:=ca 5 rfl ar (h:=ca 6 rfl cI (h:=ca 7 rfl aA (h:=ca 9 rfl ar (h:=ca 10 rfl cI (h:=xG 11 rfl aA ?_)))))))))
  refine ca 13 rfl ar (h:=ca 14 rfl cI (h:=xG 15 rfl aA ?_))
  obtain⟨a,d,H⟩:=ac H
  refine eI (rs:=[4,8,12,16]) (by kernel_rfl) (by decide) (bG ⟨rfl,_,rfl,(.no rfl),?_⟩ (bG ⟨rfl,_,rfl,(.no rfl),?_⟩ (bG ⟨rfl,_,rfl,(.no rfl),?_⟩ (bG ⟨rfl,_,rfl,(.no rfl),?_⟩ df))))
  ·refine id (dC rfl (cz bg 0 0 [ae p0.f0.f0,ae p0.f0.f1,.slice af p0.f0.f2.length ag]) ?_)
   refine eI (rs:=[8,12,16]) (by kernel_rfl) (by decide) (bG ⟨rfl,_,rfl,(.no rfl),?_⟩ (bG ⟨rfl,_,rfl,(.no rfl),?_⟩ (bG ⟨rfl,_,rfl,(.no rfl),?_⟩ df)))
   ·refine id (dC rfl (ij bg 16 0) ?_)
    refine eI (rs:=[12,16]) (by kernel_rfl) (by decide) (bG ⟨rfl,_,rfl,(.no rfl),?_⟩ (bG ⟨rfl,_,rfl,(.no rfl),?_⟩ df))
    ·refine id (dC rfl (ij bg 17 0) (eC 16 rfl (dC rfl (cz bg 6 0 (bF p0.f4)) (eC 17 rfl (gy [1] [0,2,3,4] (cA.ok d) fun b c=>?_)))))
     refine ca 18 rfl ar (h:=ca 19 rfl cr (h:=ca 20 rfl cr (h:=ca 21 rfl cI (h:=ca 22 rfl aA (h:=eC 23 rfl (cF 2 [ae a.1.f0,ae a.1.f1,.slice b a.1.f2.length c] (h:=(aI (by kernel_rfl) ?_))))))))
     have h:=aN H;subst h
     exact fG [2,0,3,4,5] ⟨b,c,ay,az,au,av,aw,ax,rfl,rfl⟩
    refine id (dC rfl (cz bg 6 0 (bF p0.f4)) (eC 12 rfl (dC rfl (ij bg 17 0) (eC 17 rfl (gy [1] [0,2,3,4] (cA.ok d) fun b c=>?_)))))
    refine ca 18 rfl ar (h:=ca 19 rfl cr (h:=ca 20 rfl cr (h:=ca 21 rfl cI (h:=ca 22 rfl aA (h:=eC 23 rfl (cF 2 [ae a.1.f0,ae a.1.f1,.slice b a.1.f2.length c] (h:=(aI (by kernel_rfl) ?_))))))))
    have h:=aN H;subst h
    exact fG [2,0,3,4,5] ⟨b,c,ay,az,au,av,aw,ax,rfl,rfl⟩
   ·refine id (dC rfl (ij bg 17 0) ?_)
    refine eI (rs:=[8,16]) (by kernel_rfl) (by decide) (bG ⟨rfl,_,rfl,(.no rfl),?_⟩ (bG ⟨rfl,_,rfl,(.no rfl),?_⟩ df))
    ·refine id (dC rfl (ij bg 16 0) (eC 16 rfl (dC rfl (cz bg 6 0 (bF p0.f4)) (eC 17 rfl (gy [1] [0,2,3,4] (cA.ok d) fun b c=>?_)))))
     refine ca 18 rfl ar (h:=ca 19 rfl cr (h:=ca 20 rfl cr (h:=ca 21 rfl cI (h:=ca 22 rfl aA (h:=eC 23 rfl (cF 2 [ae a.1.f0,ae a.1.f1,.slice b a.1.f2.length c] (h:=(aI (by kernel_rfl) ?_))))))))
     have h:=aN H;subst h
     exact fG [2,0,3,4,5] ⟨b,c,ay,az,au,av,aw,ax,rfl,rfl⟩
    refine id (dC rfl (cz bg 6 0 (bF p0.f4)) (eC 8 rfl (dC rfl (ij bg 16 0) (eC 17 rfl (gy [1] [0,2,3,4] (cA.ok d) fun b c=>?_)))))
    refine ca 18 rfl ar (h:=ca 19 rfl cr (h:=ca 20 rfl cr (h:=ca 21 rfl cI (h:=ca 22 rfl aA (h:=eC 23 rfl (cF 2 [ae a.1.f0,ae a.1.f1,.slice b a.1.f2.length c] (h:=(aI (by kernel_rfl) ?_))))))))
    have h:=aN H;subst h
    exact fG [2,0,3,4,5] ⟨b,c,ay,az,au,av,aw,ax,rfl,rfl⟩
   refine id (dC rfl (cz bg 6 0 (bF p0.f4)) ?_)
   refine eI (rs:=[8,12]) (by kernel_rfl) (by decide) (bG ⟨rfl,_,rfl,(.no rfl),?_⟩ (bG ⟨rfl,_,rfl,(.no rfl),?_⟩ df))
   ·refine id (dC rfl (ij bg 16 0) (eC 12 rfl (dC rfl (ij bg 17 0) (eC 17 rfl (gy [1] [0,2,3,4] (cA.ok d) fun b c=>?_)))))
    refine ca 18 rfl ar (h:=ca 19 rfl cr (h:=ca 20 rfl cr (h:=ca 21 rfl cI (h:=ca 22 rfl aA (h:=eC 23 rfl (cF 2 [ae a.1.f0,ae a.1.f1,.slice b a.1.f2.length c] (h:=(aI (by kernel_rfl) ?_))))))))
    have h:=aN H;subst h
    exact fG [2,0,3,4,5] ⟨b,c,ay,az,au,av,aw,ax,rfl,rfl⟩
   refine id (dC rfl (ij bg 17 0) (eC 8 rfl (dC rfl (ij bg 16 0) (eC 17 rfl (gy [1] [0,2,3,4] (cA.ok d) fun b c=>?_)))))
   refine ca 18 rfl ar (h:=ca 19 rfl cr (h:=ca 20 rfl cr (h:=ca 21 rfl cI (h:=ca 22 rfl aA (h:=eC 23 rfl (cF 2 [ae a.1.f0,ae a.1.f1,.slice b a.1.f2.length c] (h:=(aI (by kernel_rfl) ?_))))))))
   have h:=aN H;subst h
   exact fG [2,0,3,4,5] ⟨b,c,ay,az,au,av,aw,ax,rfl,rfl⟩
  ·refine id (dC rfl (ij bg 16 0) ?_)
   refine eI (rs:=[4,12,16]) (by kernel_rfl) (by decide) (bG ⟨rfl,_,rfl,(.no rfl),?_⟩ (bG ⟨rfl,_,rfl,(.no rfl),?_⟩ (bG ⟨rfl,_,rfl,(.no rfl),?_⟩ df)))
   ·refine id (dC rfl (cz bg 0 0 [ae p0.f0.f0,ae p0.f0.f1,.slice af p0.f0.f2.length ag]) ?_)
    refine eI (rs:=[12,16]) (by kernel_rfl) (by decide) (bG ⟨rfl,_,rfl,(.no rfl),?_⟩ (bG ⟨rfl,_,rfl,(.no rfl),?_⟩ df))
    ·refine id (dC rfl (ij bg 17 0) (eC 16 rfl (dC rfl (cz bg 6 0 (bF p0.f4)) (eC 17 rfl (gy [1] [0,2,3,4] (cA.ok d) fun b c=>?_)))))
     refine ca 18 rfl ar (h:=ca 19 rfl cr (h:=ca 20 rfl cr (h:=ca 21 rfl cI (h:=ca 22 rfl aA (h:=eC 23 rfl (cF 2 [ae a.1.f0,ae a.1.f1,.slice b a.1.f2.length c] (h:=(aI (by kernel_rfl) ?_))))))))
     have h:=aN H;subst h
     exact fG [2,0,3,4,5] ⟨b,c,ay,az,au,av,aw,ax,rfl,rfl⟩
    refine id (dC rfl (cz bg 6 0 (bF p0.f4)) (eC 12 rfl (dC rfl (ij bg 17 0) (eC 17 rfl (gy [1] [0,2,3,4] (cA.ok d) fun b c=>?_)))))
    refine ca 18 rfl ar (h:=ca 19 rfl cr (h:=ca 20 rfl cr (h:=ca 21 rfl cI (h:=ca 22 rfl aA (h:=eC 23 rfl (cF 2 [ae a.1.f0,ae a.1.f1,.slice b a.1.f2.length c] (h:=(aI (by kernel_rfl) ?_))))))))
    have h:=aN H;subst h
    exact fG [2,0,3,4,5] ⟨b,c,ay,az,au,av,aw,ax,rfl,rfl⟩
   ·refine id (dC rfl (ij bg 17 0) ?_)
    refine eI (rs:=[4,16]) (by kernel_rfl) (by decide) (bG ⟨rfl,_,rfl,(.no rfl),?_⟩ (bG ⟨rfl,_,rfl,(.no rfl),?_⟩ df))
    ·refine id (dC rfl (cz bg 0 0 [ae p0.f0.f0,ae p0.f0.f1,.slice af p0.f0.f2.length ag]) (eC 16 rfl (dC rfl (cz bg 6 0 (bF p0.f4)) (eC 17 rfl (gy [1] [0,2,3,4] (cA.ok d) fun b c=>?_)))))
     refine ca 18 rfl ar (h:=ca 19 rfl cr (h:=ca 20 rfl cr (h:=ca 21 rfl cI (h:=ca 22 rfl aA (h:=eC 23 rfl (cF 2 [ae a.1.f0,ae a.1.f1,.slice b a.1.f2.length c] (h:=(aI (by kernel_rfl) ?_))))))))
     have h:=aN H;subst h
     exact fG [2,0,3,4,5] ⟨b,c,ay,az,au,av,aw,ax,rfl,rfl⟩
    refine id (dC rfl (cz bg 6 0 (bF p0.f4)) (eC 4 rfl (dC rfl (cz bg 0 0 [ae p0.f0.f0,ae p0.f0.f1,.slice af p0.f0.f2.length ag]) (eC 17 rfl (gy [1] [0,2,3,4] (cA.ok d) fun b c=>?_)))))
    refine ca 18 rfl ar (h:=ca 19 rfl cr (h:=ca 20 rfl cr (h:=ca 21 rfl cI (h:=ca 22 rfl aA (h:=eC 23 rfl (cF 2 [ae a.1.f0,ae a.1.f1,.slice b a.1.f2.length c] (h:=(aI (by kernel_rfl) ?_))))))))
    have h:=aN H;subst h
    exact fG [2,0,3,4,5] ⟨b,c,ay,az,au,av,aw,ax,rfl,rfl⟩
   refine id (dC rfl (cz bg 6 0 (bF p0.f4)) ?_)
   refine eI (rs:=[4,12]) (by kernel_rfl) (by decide) (bG ⟨rfl,_,rfl,(.no rfl),?_⟩ (bG ⟨rfl,_,rfl,(.no rfl),?_⟩ df))
   ·refine id (dC rfl (cz bg 0 0 [ae p0.f0.f0,ae p0.f0.f1,.slice af p0.f0.f2.length ag]) (eC 12 rfl (dC rfl (ij bg 17 0) (eC 17 rfl (gy [1] [0,2,3,4] (cA.ok d) fun b c=>?_)))))
    refine ca 18 rfl ar (h:=ca 19 rfl cr (h:=ca 20 rfl cr (h:=ca 21 rfl cI (h:=ca 22 rfl aA (h:=eC 23 rfl (cF 2 [ae a.1.f0,ae a.1.f1,.slice b a.1.f2.length c] (h:=(aI (by kernel_rfl) ?_))))))))
    have h:=aN H;subst h
    exact fG [2,0,3,4,5] ⟨b,c,ay,az,au,av,aw,ax,rfl,rfl⟩
   refine id (dC rfl (ij bg 17 0) (eC 4 rfl (dC rfl (cz bg 0 0 [ae p0.f0.f0,ae p0.f0.f1,.slice af p0.f0.f2.length ag]) (eC 17 rfl (gy [1] [0,2,3,4] (cA.ok d) fun b c=>?_)))))
   refine ca 18 rfl ar (h:=ca 19 rfl cr (h:=ca 20 rfl cr (h:=ca 21 rfl cI (h:=ca 22 rfl aA (h:=eC 23 rfl (cF 2 [ae a.1.f0,ae a.1.f1,.slice b a.1.f2.length c] (h:=(aI (by kernel_rfl) ?_))))))))
   have h:=aN H;subst h
   exact fG [2,0,3,4,5] ⟨b,c,ay,az,au,av,aw,ax,rfl,rfl⟩
  ·refine id (dC rfl (ij bg 17 0) ?_)
   refine eI (rs:=[4,8,16]) (by kernel_rfl) (by decide) (bG ⟨rfl,_,rfl,(.no rfl),?_⟩ (bG ⟨rfl,_,rfl,(.no rfl),?_⟩ (bG ⟨rfl,_,rfl,(.no rfl),?_⟩ df)))
   ·refine id (dC rfl (cz bg 0 0 [ae p0.f0.f0,ae p0.f0.f1,.slice af p0.f0.f2.length ag]) ?_)
    refine eI (rs:=[8,16]) (by kernel_rfl) (by decide) (bG ⟨rfl,_,rfl,(.no rfl),?_⟩ (bG ⟨rfl,_,rfl,(.no rfl),?_⟩ df))
    ·refine id (dC rfl (ij bg 16 0) (eC 16 rfl (dC rfl (cz bg 6 0 (bF p0.f4)) (eC 17 rfl (gy [1] [0,2,3,4] (cA.ok d) fun b c=>?_)))))
     refine ca 18 rfl ar (h:=ca 19 rfl cr (h:=ca 20 rfl cr (h:=ca 21 rfl cI (h:=ca 22 rfl aA (h:=eC 23 rfl (cF 2 [ae a.1.f0,ae a.1.f1,.slice b a.1.f2.length c] (h:=(aI (by kernel_rfl) ?_))))))))
     have h:=aN H;subst h
     exact fG [2,0,3,4,5] ⟨b,c,ay,az,au,av,aw,ax,rfl,rfl⟩
    refine id (dC rfl (cz bg 6 0 (bF p0.f4)) (eC 8 rfl (dC rfl (ij bg 16 0) (eC 17 rfl (gy [1] [0,2,3,4] (cA.ok d) fun b c=>?_)))))
    refine ca 18 rfl ar (h:=ca 19 rfl cr (h:=ca 20 rfl cr (h:=ca 21 rfl cI (h:=ca 22 rfl aA (h:=eC 23 rfl (cF 2 [ae a.1.f0,ae a.1.f1,.slice b a.1.f2.length c] (h:=(aI (by kernel_rfl) ?_))))))))
    have h:=aN H;subst h
    exact fG [2,0,3,4,5] ⟨b,c,ay,az,au,av,aw,ax,rfl,rfl⟩
   ·refine id (dC rfl (ij bg 16 0) ?_)
    refine eI (rs:=[4,16]) (by kernel_rfl) (by decide) (bG ⟨rfl,_,rfl,(.no rfl),?_⟩ (bG ⟨rfl,_,rfl,(.no rfl),?_⟩ df))
    ·refine id (dC rfl (cz bg 0 0 [ae p0.f0.f0,ae p0.f0.f1,.slice af p0.f0.f2.length ag]) (eC 16 rfl (dC rfl (cz bg 6 0 (bF p0.f4)) (eC 17 rfl (gy [1] [0,2,3,4] (cA.ok d) fun b c=>?_)))))
     refine ca 18 rfl ar (h:=ca 19 rfl cr (h:=ca 20 rfl cr (h:=ca 21 rfl cI (h:=ca 22 rfl aA (h:=eC 23 rfl (cF 2 [ae a.1.f0,ae a.1.f1,.slice b a.1.f2.length c] (h:=(aI (by kernel_rfl) ?_))))))))
     have h:=aN H;subst h
     exact fG [2,0,3,4,5] ⟨b,c,ay,az,au,av,aw,ax,rfl,rfl⟩
    refine id (dC rfl (cz bg 6 0 (bF p0.f4)) (eC 4 rfl (dC rfl (cz bg 0 0 [ae p0.f0.f0,ae p0.f0.f1,.slice af p0.f0.f2.length ag]) (eC 17 rfl (gy [1] [0,2,3,4] (cA.ok d) fun b c=>?_)))))
    refine ca 18 rfl ar (h:=ca 19 rfl cr (h:=ca 20 rfl cr (h:=ca 21 rfl cI (h:=ca 22 rfl aA (h:=eC 23 rfl (cF 2 [ae a.1.f0,ae a.1.f1,.slice b a.1.f2.length c] (h:=(aI (by kernel_rfl) ?_))))))))
    have h:=aN H;subst h
    exact fG [2,0,3,4,5] ⟨b,c,ay,az,au,av,aw,ax,rfl,rfl⟩
   refine id (dC rfl (cz bg 6 0 (bF p0.f4)) ?_)
   refine eI (rs:=[4,8]) (by kernel_rfl) (by decide) (bG ⟨rfl,_,rfl,(.no rfl),?_⟩ (bG ⟨rfl,_,rfl,(.no rfl),?_⟩ df))
   ·refine id (dC rfl (cz bg 0 0 [ae p0.f0.f0,ae p0.f0.f1,.slice af p0.f0.f2.length ag]) (eC 8 rfl (dC rfl (ij bg 16 0) (eC 17 rfl (gy [1] [0,2,3,4] (cA.ok d) fun b c=>?_)))))
    refine ca 18 rfl ar (h:=ca 19 rfl cr (h:=ca 20 rfl cr (h:=ca 21 rfl cI (h:=ca 22 rfl aA (h:=eC 23 rfl (cF 2 [ae a.1.f0,ae a.1.f1,.slice b a.1.f2.length c] (h:=(aI (by kernel_rfl) ?_))))))))
    have h:=aN H;subst h
    exact fG [2,0,3,4,5] ⟨b,c,ay,az,au,av,aw,ax,rfl,rfl⟩
   refine id (dC rfl (ij bg 16 0) (eC 4 rfl (dC rfl (cz bg 0 0 [ae p0.f0.f0,ae p0.f0.f1,.slice af p0.f0.f2.length ag]) (eC 17 rfl (gy [1] [0,2,3,4] (cA.ok d) fun b c=>?_)))))
   refine ca 18 rfl ar (h:=ca 19 rfl cr (h:=ca 20 rfl cr (h:=ca 21 rfl cI (h:=ca 22 rfl aA (h:=eC 23 rfl (cF 2 [ae a.1.f0,ae a.1.f1,.slice b a.1.f2.length c] (h:=(aI (by kernel_rfl) ?_))))))))
   have h:=aN H;subst h
   exact fG [2,0,3,4,5] ⟨b,c,ay,az,au,av,aw,ax,rfl,rfl⟩
  refine id (dC rfl (cz bg 6 0 (bF p0.f4)) ?_)
  refine eI (rs:=[4,8,12]) (by kernel_rfl) (by decide) (bG ⟨rfl,_,rfl,(.no rfl),?_⟩ (bG ⟨rfl,_,rfl,(.no rfl),?_⟩ (bG ⟨rfl,_,rfl,(.no rfl),?_⟩ df)))
  ·refine id (dC rfl (cz bg 0 0 [ae p0.f0.f0,ae p0.f0.f1,.slice af p0.f0.f2.length ag]) ?_)
   refine eI (rs:=[8,12]) (by kernel_rfl) (by decide) (bG ⟨rfl,_,rfl,(.no rfl),?_⟩ (bG ⟨rfl,_,rfl,(.no rfl),?_⟩ df))
   ·refine id (dC rfl (ij bg 16 0) (eC 12 rfl (dC rfl (ij bg 17 0) (eC 17 rfl (gy [1] [0,2,3,4] (cA.ok d) fun b c=>?_)))))
    refine ca 18 rfl ar (h:=ca 19 rfl cr (h:=ca 20 rfl cr (h:=ca 21 rfl cI (h:=ca 22 rfl aA (h:=eC 23 rfl (cF 2 [ae a.1.f0,ae a.1.f1,.slice b a.1.f2.length c] (h:=(aI (by kernel_rfl) ?_))))))))
    have h:=aN H;subst h
    exact fG [2,0,3,4,5] ⟨b,c,ay,az,au,av,aw,ax,rfl,rfl⟩
   refine id (dC rfl (ij bg 17 0) (eC 8 rfl (dC rfl (ij bg 16 0) (eC 17 rfl (gy [1] [0,2,3,4] (cA.ok d) fun b c=>?_)))))
   refine ca 18 rfl ar (h:=ca 19 rfl cr (h:=ca 20 rfl cr (h:=ca 21 rfl cI (h:=ca 22 rfl aA (h:=eC 23 rfl (cF 2 [ae a.1.f0,ae a.1.f1,.slice b a.1.f2.length c] (h:=(aI (by kernel_rfl) ?_))))))))
   have h:=aN H;subst h
   exact fG [2,0,3,4,5] ⟨b,c,ay,az,au,av,aw,ax,rfl,rfl⟩
  ·refine id (dC rfl (ij bg 16 0) ?_)
   refine eI (rs:=[4,12]) (by kernel_rfl) (by decide) (bG ⟨rfl,_,rfl,(.no rfl),?_⟩ (bG ⟨rfl,_,rfl,(.no rfl),?_⟩ df))
   ·refine id (dC rfl (cz bg 0 0 [ae p0.f0.f0,ae p0.f0.f1,.slice af p0.f0.f2.length ag]) (eC 12 rfl (dC rfl (ij bg 17 0) (eC 17 rfl (gy [1] [0,2,3,4] (cA.ok d) fun b c=>?_)))))
    refine ca 18 rfl ar (h:=ca 19 rfl cr (h:=ca 20 rfl cr (h:=ca 21 rfl cI (h:=ca 22 rfl aA (h:=eC 23 rfl (cF 2 [ae a.1.f0,ae a.1.f1,.slice b a.1.f2.length c] (h:=(aI (by kernel_rfl) ?_))))))))
    have h:=aN H;subst h
    exact fG [2,0,3,4,5] ⟨b,c,ay,az,au,av,aw,ax,rfl,rfl⟩
   refine id (dC rfl (ij bg 17 0) (eC 4 rfl (dC rfl (cz bg 0 0 [ae p0.f0.f0,ae p0.f0.f1,.slice af p0.f0.f2.length ag]) (eC 17 rfl (gy [1] [0,2,3,4] (cA.ok d) fun b c=>?_)))))
   refine ca 18 rfl ar (h:=ca 19 rfl cr (h:=ca 20 rfl cr (h:=ca 21 rfl cI (h:=ca 22 rfl aA (h:=eC 23 rfl (cF 2 [ae a.1.f0,ae a.1.f1,.slice b a.1.f2.length c] (h:=(aI (by kernel_rfl) ?_))))))))
   have h:=aN H;subst h
   exact fG [2,0,3,4,5] ⟨b,c,ay,az,au,av,aw,ax,rfl,rfl⟩
  refine id (dC rfl (ij bg 17 0) ?_)
  refine eI (rs:=[4,8]) (by kernel_rfl) (by decide) (bG ⟨rfl,_,rfl,(.no rfl),?_⟩ (bG ⟨rfl,_,rfl,(.no rfl),?_⟩ df))
  ·refine id (dC rfl (cz bg 0 0 [ae p0.f0.f0,ae p0.f0.f1,.slice af p0.f0.f2.length ag]) (eC 8 rfl (dC rfl (ij bg 16 0) (eC 17 rfl (gy [1] [0,2,3,4] (cA.ok d) fun b c=>?_)))))
   refine ca 18 rfl ar (h:=ca 19 rfl cr (h:=ca 20 rfl cr (h:=ca 21 rfl cI (h:=ca 22 rfl aA (h:=eC 23 rfl (cF 2 [ae a.1.f0,ae a.1.f1,.slice b a.1.f2.length c] (h:=(aI (by kernel_rfl) ?_))))))))
   have h:=aN H;subst h
   exact fG [2,0,3,4,5] ⟨b,c,ay,az,au,av,aw,ax,rfl,rfl⟩
  refine id (dC rfl (ij bg 16 0) (eC 4 rfl (dC rfl (cz bg 0 0 [ae p0.f0.f0,ae p0.f0.f1,.slice af p0.f0.f2.length ag]) (eC 17 rfl (gy [1] [0,2,3,4] (cA.ok d) fun b c=>?_)))))
  refine ca 18 rfl ar (h:=ca 19 rfl cr (h:=ca 20 rfl cr (h:=ca 21 rfl cI (h:=ca 22 rfl aA (h:=eC 23 rfl (cF 2 [ae a.1.f0,ae a.1.f1,.slice b a.1.f2.length c] (h:=(aI (by kernel_rfl) ?_))))))))
  have h:=aN H;subst h
  exact fG [2,0,3,4,5] ⟨b,c,ay,az,au,av,aw,ax,rfl,rfl⟩
 refine aB rfl l (ao ?_)
 refine fj (dt 0 11) [0] (dt 1 4) fun _ _ _ _ _ sH dd pk=>?_
 refine bc 0 rfl sH ar (h:=bc 1 rfl sH cI (h:=bc 2 rfl sH aA (h:=bQ 3 rfl sH (aP 0) (h:=bc 4 rfl sH ar (h:=bc 5 rfl sH cI (h:=bc 6 rfl sH aA (h:=bc 7 rfl sH aA (h:=bQ 8 rfl sH (aP 0) (h:=T' 9 rfl sH (cT rfl rfl) ?_)))))))))
 refine bc 10 rfl sH (ce rfl rfl) (h:=aV dd sH (aI (by kernel_rfl) (aa ?_)))
 rcases bE H with⟨j,H⟩|⟨j,H⟩
 ·refine aC rfl j (ak (ad ar (h:=ad cI (h:=ad aA (h:=bp (aP 0) (h:=ad (bW rfl rfl) (h:=ad cI (h:=ad aA (h:=o' (cF 0 [ae (i64.wrap (p0.f1 + 1))] (h:=?_)))))))))))
  refine ah ?_
  have h:=aN H;subst h
  exact fG [0,1,2,3,4] ⟨af,ag,ay,az,au,av,aw,ax,rfl,rfl⟩
 refine aB rfl j (ap ?_)
 have h:=aN H;subst h
 exact fG [0,1,2,3,4] ⟨af,ag,ay,az,au,av,aw,ax,rfl,rfl⟩

end Go.Proofs.YtckilbegmbaeeaaGreat.Z6

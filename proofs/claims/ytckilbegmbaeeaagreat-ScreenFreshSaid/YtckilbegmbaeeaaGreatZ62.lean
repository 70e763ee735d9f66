/- Walks. -/
import Derived.Test.YtckilbegmbaeeaaGreatZ61
namespace Go.Proofs.YtckilbegmbaeeaaGreat.Z6
open Go Go.RowKit Go.Proofs.YtckilbegmbaeeaaGreat.SL
open Go.IntKind (i64)
set_option linter.unusedVariables false
set_option maxHeartbeats 20000000
set_option maxRecDepth 100000
set_option linter.unusedSimpArgs false
attribute [local irreducible] IntKind.wrap da fk gR kN kD po ky eS kF rd sub bytesOf ib dj
variable {bg ag az av ax k : Nat}
variable {af ay au aw : Option Addr}
def qM.f  : Option ((List aZ)):=some ((((aZ.mk 768 879)::(aZ.mk 1155 1161)::(aZ.mk 1425 1469)::(aZ.mk 1471 1471)::(aZ.mk 1473 1474)::(aZ.mk 1552 1562)::(aZ.mk 1611 1631)::(aZ.mk 1750 1756)::(aZ.mk 2304 2306)::(aZ.mk 2364 2364)::(aZ.mk 2369 2376)::(aZ.mk 2381 2381)::(aZ.mk 3633 3633)::(aZ.mk 3636 3642)::(aZ.mk 6832 6911)::(aZ.mk 7616 7679)::(aZ.mk 8203 8207)::(aZ.mk 8234 8238)::(aZ.mk 8288 8292)::(aZ.mk 8400 8447)::(aZ.mk 12330 12333)::(aZ.mk 12441 12442)::(aZ.mk 65024 65039)::(aZ.mk 65056 65071)::(aZ.mk 65279 65279)::(aZ.mk 917760 917999)::[]) : (List aZ)))
theorem qM.ok  {r : (List aZ)} (H : qM.f  = some r) : fS Tryz.prog 149 #[] [] (.agg (List.flatMap eT ((rd r 0)::(rd r 1)::(rd r 2)::(rd r 3)::(rd r 4)::(rd r 5)::(rd r 6)::(rd r 7)::(rd r 8)::(rd r 9)::(rd r 10)::(rd r 11)::(rd r 12)::(rd r 13)::(rd r 14)::(rd r 15)::(rd r 16)::(rd r 17)::(rd r 18)::(rd r 19)::(rd r 20)::(rd r 21)::(rd r 22)::(rd r 23)::(rd r 24)::(rd r 25)::[])).toArray):=by
 refine aj Tryz.func149 rfl rfl ?_
 unfold qM.f at H
 refine aR (o' (cw (h:=fun a=>cP (bP (.agg #[aL 768,aL 879]) gH (h:=bP (.agg #[aL 1155,aL 1161]) gH (h:=bP (.agg #[aL 1425,aL 1469]) gH (h:=bP (.agg #[aL 1471,aL 1471]) gH (h:=bP (.agg #[aL 1473,aL 1474]) gH (h:=bP (.agg #[aL 1552,aL 1562]) gH (h:=s' (.agg #[aL 1611,aL 1631]) gH ?_))))))))))
 refine bP (.agg #[aL 1750,aL 1756]) gH (h:=bP (.agg #[aL 2304,aL 2306]) gH (h:=bP (.agg #[aL 2364,aL 2364]) gH (h:=bP (.agg #[aL 2369,aL 2376]) gH (h:=bP (.agg #[aL 2381,aL 2381]) gH (h:=bP (.agg #[aL 3633,aL 3633]) gH (h:=bP (.agg #[aL 3636,aL 3642]) gH (h:=bP (.agg #[aL 6832,aL 6911]) gH (h:=bP (.agg #[aL 7616,aL 7679]) gH (h:=s' (.agg #[aL 8203,aL 8207]) gH ?_)))))))))
 refine bP (.agg #[aL 8234,aL 8238]) gH (h:=bP (.agg #[aL 8288,aL 8292]) gH (h:=bP (.agg #[aL 8400,aL 8447]) gH (h:=bP (.agg #[aL 12330,aL 12333]) gH (h:=bP (.agg #[aL 12441,aL 12442]) gH (h:=bP (.agg #[aL 65024,aL 65039]) gH (h:=bP (.agg #[aL 65056,aL 65071]) gH (h:=bP (.agg #[aL 65279,aL 65279]) gH (h:=bP (.agg #[aL 917760,aL 917999]) gH (h:=s' (.agg (List.toArray (aL 768::aL 879::aL 1155::aL 1161::aL 1425::aL 1469::aL 1471::aL 1471::aL 1473::aL 1474::aL 1552::aL 1562::aL 1611::aL 1631::aL 1750::aL 1756::aL 2304::aL 2306::aL 2364::aL 2364::aL 2369::aL 2376::aL 2381::aL 2381::aL 3633::aL 3633::aL 3636::aL 3642::aL 6832::aL 6911::aL 7616::aL 7679::aL 8203::aL 8207::aL 8234::aL 8238::aL 8288::aL 8292::aL 8400::aL 8447::aL 12330::aL 12333::aL 12441::aL 12442::aL 65024::aL 65039::aL 65056::aL 65071::aL 65279::aL 65279::aL 917760::aL 917999::[]))) gH ?_)))))))))
 refine o' (oB (b:=a) (m:=0) (k:=0) (vs:=(List.flatMap eT ((aZ.mk 768 879)::(aZ.mk 1155 1161)::(aZ.mk 1425 1469)::(aZ.mk 1471 1471)::(aZ.mk 1473 1474)::(aZ.mk 1552 1562)::(aZ.mk 1611 1631)::(aZ.mk 1750 1756)::(aZ.mk 2304 2306)::(aZ.mk 2364 2364)::(aZ.mk 2369 2376)::(aZ.mk 2381 2381)::(aZ.mk 3633 3633)::(aZ.mk 3636 3642)::(aZ.mk 6832 6911)::(aZ.mk 7616 7679)::(aZ.mk 8203 8207)::(aZ.mk 8234 8238)::(aZ.mk 8288 8292)::(aZ.mk 8400 8447)::(aZ.mk 12330 12333)::(aZ.mk 12441 12442)::(aZ.mk 65024 65039)::(aZ.mk 65056 65071)::(aZ.mk 65279 65279)::(aZ.mk 917760 917999)::[]))) (cs':=(List.flatMap eT ((aZ.mk 768 879)::(aZ.mk 1155 1161)::(aZ.mk 1425 1469)::(aZ.mk 1471 1471)::(aZ.mk 1473 1474)::(aZ.mk 1552 1562)::(aZ.mk 1611 1631)::(aZ.mk 1750 1756)::(aZ.mk 2304 2306)::(aZ.mk 2364 2364)::(aZ.mk 2369 2376)::(aZ.mk 2381 2381)::(aZ.mk 3633 3633)::(aZ.mk 3636 3642)::(aZ.mk 6832 6911)::(aZ.mk 7616 7679)::(aZ.mk 8203 8207)::(aZ.mk 8234 8238)::(aZ.mk 8288 8292)::(aZ.mk 8400 8447)::(aZ.mk 12330 12333)::(aZ.mk 12441 12442)::(aZ.mk 65024 65039)::(aZ.mk 65056 65071)::(aZ.mk 65279 65279)::(aZ.mk 917760 917999)::[]))) rfl rfl rfl rfl rfl (by kernel_rfl) uv rfl (by kernel_rfl) (cC ?_))
 have h:=aN H;subst h
 exact gi (rs:=[.cell 0 141]) (vs:=[.agg (List.toArray (aL 768::aL 879::aL 1155::aL 1161::aL 1425::aL 1469::aL 1471::aL 1471::aL 1473::aL 1474::aL 1552::aL 1562::aL 1611::aL 1631::aL 1750::aL 1756::aL 2304::aL 2306::aL 2364::aL 2364::aL 2369::aL 2376::aL 2381::aL 2381::aL 3633::aL 3633::aL 3636::aL 3642::aL 6832::aL 6911::aL 7616::aL 7679::aL 8203::aL 8207::aL 8234::aL 8238::aL 8288::aL 8292::aL 8400::aL 8447::aL 12330::aL 12333::aL 12441::aL 12442::aL 65024::aL 65039::aL 65056::aL 65071::aL 65279::aL 65279::aL 917760::aL 917999::[]))]) [] rfl ⟨RV.cell (k:=0) rfl rfl Tryz.underlying141 rfl uv,trivial⟩ rfl (eZ []) ⟨(by kernel_rfl),rfl⟩


def lb.l0 (l0 : (List aZ)) (a1 : Int) : Nat → Int → Int → Option (Out (Bool) (Unit))
  | 0,_,_=>none
  | k + 1,a,b=>if a < b then (lt (gR .u64 (IntKind.u64.wrap (a + b)) 1) fun n8=>if 0 ≤ n8∧n8 < (l0.length : Int) then (if a1 < ((rd l0 n8).f0) then (lb.l0 l0 a1 k a n8) else (if 0 ≤ n8∧n8 < (l0.length : Int) then (if a1 > ((rd l0 n8).f1) then (lt (IntKind.u64.wrap (n8 + 1)) fun n15=>lb.l0 l0 a1 k n15 b) else (some (Out.ret (true)))) else none)) else none) else (some (Out.go ()))
def lb.f (k : Nat) (l0 : (List aZ)) (a1 : Int) : Option (Bool):=lt (IntKind.u64.wrap ((l0.length : Int))) fun a=>(lb.l0 l0 a1 k 0 a : Option (Out (Bool) (Unit))).bind (fun b=>Out.el b (fun r_=>some r_) (fun c=>some (false)))
theorem lb.ok {l0 : (List aZ)} {a1 : Int} {A0 : Option Addr} {c0 : Nat} {r : Bool} (H : lb.f k l0 a1 = some r) : dk Tryz.prog 150 #[.slice A0 l0.length c0,aL a1] [Ro ve A0 c0 l0] (fun v B=>v = .bool r∧B = []):=by
 refine aj Tryz.func150 rfl rfl ?_
 unfold lb.f at H
 refine aR (ad aW (h:=cP (ad ar (h:=bP (ae (l0.length : Int)) (cO Tryz.underlying144 rfl) (h:=bP (.int .u64 (IntKind.u64.wrap ((l0.length : Int)))) (jQ (T:=3) (by kernel_rfl) Tryz.underlying146 rfl) (h:=S' aW ?_))))))
 obtain⟨K,I,H⟩:=bj H
 refine bP (.int .u64 K) (bo (v:=.int .u64 K) (congrArg (Value.int .u64) I.symm)) (h:=bA (ao ?_))
 obtain⟨M,H,c⟩:=ac H
 refine bI (fun e ds As=>∃ (L : Unit),M = Out.go L∧St [] [] e ds As) ?_ ?_
 ·refine aQ (cj (fun k_ e ds As=>∃ (a : Int) (b : Int),lb.l0 l0 a1 k_ a b = some M∧St [(0,.slice A0 l0.length c0),(1,aL a1),(5,.int .u64 a),(6,.int .u64 b)] [Ro ve A0 c0 l0] e ds As) (k:=k) ⟨_,_,H,jV [0]⟩ ?_)
  clear H
  rintro q e ds As ⟨a,b,H,E⟩
  obtain _ | q:=q
  ·cases H
  rw [lb.l0] at H
  refine SA.of_St E fun junk=>ao (aR (ad ar (h:=ad ar (h:=ad (ce rfl rfl) (h:=bA ?_)))))
  rcases bE H with⟨z,H⟩|⟨z,H⟩
  ·refine aC rfl z (ap (aa (aQ (aR (ad ar (h:=ad ar (h:=ad (bW rfl rfl) (h:=s' (.int .u64 (gR .u64 (IntKind.u64.wrap (a + b)) 1)) (vG rfl rfl (by decide)) ?_))))))))
   obtain⟨n8,J,H⟩:=bj H
   refine bP (.int .u64 n8) (bo (v:=.int .u64 n8) (congrArg (Value.int .u64) J.symm)) (h:=bA (aQ (aR (ad ar (h:=ad ar (h:=S' ar ?_))))))
   obtain⟨⟨F,s⟩,H⟩:=aO H
   refine bp (bu (i:=n8) Tryz.underlying144 qz rfl rfl (Src.ro (k:=0) rfl) F s) (h:=bP (.pointer (some ((el A0 (n8.toNat * 2)).add 0))) (gn (B:=el A0 (n8.toNat * 2)) (m:=0) (o:=0) Tryz.underlying138 iB rfl rfl (by decide) (by decide) rfl) (h:=bp (bJ (enc:=eT) (i:=n8) (j:=n8.toNat * 2) (m:=0) (sz:=2) Tryz.underlying21 rfl rfl rfl rfl (Src.ro (k:=0) rfl) F s (fun _ _ h=>h) rfl) (h:=ad (ce rfl rfl) (h:=ad aW (h:=bA ?_)))))
   rcases bE H with⟨d,H⟩|⟨d,H⟩
   ·refine aC rfl d (ak (ad ar (h:=ad aW (h:=ah (aF (aF ?_))))))
    exact aa ⟨q,Nat.lt_succ_self _,_,_,H,dZ [0]⟩
   refine aB rfl d (aR (ad ar (h:=ad ar (h:=S' ar ?_))))
   obtain⟨⟨u,y⟩,H⟩:=aO H
   refine bp (bu (i:=n8) Tryz.underlying144 qz rfl rfl (Src.ro (k:=0) rfl) u y) (h:=bP (.pointer (some ((el A0 (n8.toNat * 2)).add 1))) (gn (B:=el A0 (n8.toNat * 2)) (m:=0) (o:=1) Tryz.underlying138 iB rfl rfl (by decide) (by decide) rfl) (h:=bp (bJ (enc:=eT) (i:=n8) (j:=n8.toNat * 2) (m:=1) (sz:=2) Tryz.underlying21 rfl rfl rfl rfl (Src.ro (k:=0) rfl) u y (fun _ _ h=>h) rfl) (h:=ad (eK rfl rfl) (h:=ad aW (h:=bA ?_)))))
   rcases bE H with⟨l,H⟩|⟨l,H⟩
   ·refine aC rfl l (ak (ad ar (h:=S' (bW rfl rfl) ?_)))
    obtain⟨n15,D,H⟩:=bj H
    refine bP (.int .u64 n15) (bo (v:=.int .u64 n15) (congrArg (Value.int .u64) D.symm)) (h:=ah (aF (aF ?_)))
    exact aa ⟨q,Nat.lt_succ_self _,_,_,H,dZ [0]⟩
   refine aB rfl l (aR (ad aW (h:=cC (ba (ba (aG (ba (aG (aG ?_)))))))))
   have h:=aN H;subst h
   have hb_:=dw c
   have hr_:=Option.some.inj hb_
   clear hb_
   subst hr_
   exact dX [] ⟨rfl,rfl⟩
  refine aB rfl z (cf (aX (aX (cg ?_))))
  have h:=aN H;subst h
  exact aa ⟨(),rfl,dZ []⟩
 rintro e ds As ⟨L,ht,p⟩
 clear H
 subst ht
 replace c:=fw c
 have H:=c
 clear c
 refine aa (SA.of_St p fun junk=>aR (ad aW (h:=cC ?_)))
 have h:=aN H;subst h
 exact dX [] ⟨rfl,rfl⟩


def lW.f (k : Nat) (a0 : Int) : Option (Int):=(qL.f ).bind (fun a=>(qM.f ).bind (fun b=>(if a0 < 32 then (some true) else (if a0 ≥ 127 then (some (decide (a0 ≤ 159))) else (some false)) : Option Bool).bind (fun j=>lt (j || (decide (a0 > 1114111))) fun c=>(if c = true then (some true) else (if a0 ≥ 55296 then (some (decide (a0 ≤ 57343))) else (some false)) : Option Bool).bind (fun d=>if d = true then (some ((-1))) else ((lb.f k (((rd b 0)::(rd b 1)::(rd b 2)::(rd b 3)::(rd b 4)::(rd b 5)::(rd b 6)::(rd b 7)::(rd b 8)::(rd b 9)::(rd b 10)::(rd b 11)::(rd b 12)::(rd b 13)::(rd b 14)::(rd b 15)::(rd b 16)::(rd b 17)::(rd b 18)::(rd b 19)::(rd b 20)::(rd b 21)::(rd b 22)::(rd b 23)::(rd b 24)::(rd b 25)::[]) : List aZ) a0).bind (fun xk=>if xk = true then (some (0)) else ((lb.f k (((rd a 0)::(rd a 1)::(rd a 2)::(rd a 3)::(rd a 4)::(rd a 5)::(rd a 6)::(rd a 7)::(rd a 8)::(rd a 9)::(rd a 10)::(rd a 11)::(rd a 12)::(rd a 13)::(rd a 14)::(rd a 15)::(rd a 16)::(rd a 17)::(rd a 18)::(rd a 19)::(rd a 20)::(rd a 21)::(rd a 22)::(rd a 23)::(rd a 24)::(rd a 25)::(rd a 26)::(rd a 27)::(rd a 28)::(rd a 29)::(rd a 30)::(rd a 31)::(rd a 32)::(rd a 33)::(rd a 34)::(rd a 35)::(rd a 36)::[]) : List aZ) a0).bind (fun h=>if h = true then (some (2)) else (some (1))))))))))
theorem lW.ok {a0 : Int} {r : Int} (H : lW.f k a0 = some r) : fS Tryz.prog 117 #[aL a0] [] (ae r):=by
 refine aj Tryz.func117 rfl rfl ?_
 unfold lW.f at H
 refine aR (ad aW (h:=cP ?_))
 obtain⟨a,K,H⟩:=ac H
 refine o' (dc [] [] (qL.ok K) ?_)
 obtain⟨c,J,H⟩:=ac H
 refine o' (dc [] [] (qM.ok J) ?_)
 refine o' (cw (h:=fun p=>o' (cw (h:=fun q=>o' (oB (b:=p) (m:=0) (k:=0) (vs:=(List.flatMap eT ((rd a 0)::(rd a 1)::(rd a 2)::(rd a 3)::(rd a 4)::(rd a 5)::(rd a 6)::(rd a 7)::(rd a 8)::(rd a 9)::(rd a 10)::(rd a 11)::(rd a 12)::(rd a 13)::(rd a 14)::(rd a 15)::(rd a 16)::(rd a 17)::(rd a 18)::(rd a 19)::(rd a 20)::(rd a 21)::(rd a 22)::(rd a 23)::(rd a 24)::(rd a 25)::(rd a 26)::(rd a 27)::(rd a 28)::(rd a 29)::(rd a 30)::(rd a 31)::(rd a 32)::(rd a 33)::(rd a 34)::(rd a 35)::(rd a 36)::[]))) (cs':=(List.flatMap eT ((rd a 0)::(rd a 1)::(rd a 2)::(rd a 3)::(rd a 4)::(rd a 5)::(rd a 6)::(rd a 7)::(rd a 8)::(rd a 9)::(rd a 10)::(rd a 11)::(rd a 12)::(rd a 13)::(rd a 14)::(rd a 15)::(rd a 16)::(rd a 17)::(rd a 18)::(rd a 19)::(rd a 20)::(rd a 21)::(rd a 22)::(rd a 23)::(rd a 24)::(rd a 25)::(rd a 26)::(rd a 27)::(rd a 28)::(rd a 29)::(rd a 30)::(rd a 31)::(rd a 32)::(rd a 33)::(rd a 34)::(rd a 35)::(rd a 36)::[]))) rfl rfl rfl rfl rfl (by kernel_rfl) uu rfl (by kernel_rfl) (o' (oB (b:=q) (m:=0) (k:=1) (vs:=(List.flatMap eT ((rd c 0)::(rd c 1)::(rd c 2)::(rd c 3)::(rd c 4)::(rd c 5)::(rd c 6)::(rd c 7)::(rd c 8)::(rd c 9)::(rd c 10)::(rd c 11)::(rd c 12)::(rd c 13)::(rd c 14)::(rd c 15)::(rd c 16)::(rd c 17)::(rd c 18)::(rd c 19)::(rd c 20)::(rd c 21)::(rd c 22)::(rd c 23)::(rd c 24)::(rd c 25)::[]))) (cs':=(List.flatMap eT ((rd c 0)::(rd c 1)::(rd c 2)::(rd c 3)::(rd c 4)::(rd c 5)::(rd c 6)::(rd c 7)::(rd c 8)::(rd c 9)::(rd c 10)::(rd c 11)::(rd c 12)::(rd c 13)::(rd c 14)::(rd c 15)::(rd c 16)::(rd c 17)::(rd c 18)::(rd c 19)::(rd c 20)::(rd c 21)::(rd c 22)::(rd c 23)::(rd c 24)::(rd c 25)::[]))) rfl rfl rfl rfl rfl (by kernel_rfl) uv rfl (by kernel_rfl) (bA (ao (aQ (aR (ad ar (h:=ad (ce rfl rfl) (h:=S' ar ?_))))))))))))))
 obtain⟨N,H,E⟩:=ac H
 refine dy 7 [(0,aL a0),(3,aH p),(4,aH q),(17,.bool N)] [aK p 139 (List.flatMap eT ((rd a 0)::(rd a 1)::(rd a 2)::(rd a 3)::(rd a 4)::(rd a 5)::(rd a 6)::(rd a 7)::(rd a 8)::(rd a 9)::(rd a 10)::(rd a 11)::(rd a 12)::(rd a 13)::(rd a 14)::(rd a 15)::(rd a 16)::(rd a 17)::(rd a 18)::(rd a 19)::(rd a 20)::(rd a 21)::(rd a 22)::(rd a 23)::(rd a 24)::(rd a 25)::(rd a 26)::(rd a 27)::(rd a 28)::(rd a 29)::(rd a 30)::(rd a 31)::(rd a 32)::(rd a 33)::(rd a 34)::(rd a 35)::(rd a 36)::[])),aK q 141 (List.flatMap eT ((rd c 0)::(rd c 1)::(rd c 2)::(rd c 3)::(rd c 4)::(rd c 5)::(rd c 6)::(rd c 7)::(rd c 8)::(rd c 9)::(rd c 10)::(rd c 11)::(rd c 12)::(rd c 13)::(rd c 14)::(rd c 15)::(rd c 16)::(rd c 17)::(rd c 18)::(rd c 19)::(rd c 20)::(rd c 21)::(rd c 22)::(rd c 23)::(rd c 24)::(rd c 25)::[]))] ?_ fun junk=>?_
 ·rcases bE H with⟨l,H⟩|⟨l,H⟩
  ·refine cu 3 (ai l) (fY (fY (cu 1 (ai l) (gN (ai l) ?_))))
   have h:=aN H;subst h
   exact dL [0,1]
  refine bf (am l) ar (h:=bf (am l) (dT rfl rfl) (h:=Y' (am l) ar ?_))
  rcases bE H with⟨s,H⟩|⟨s,H⟩
  ·refine bf (ai s) ar (h:=bf (ai s) (gG rfl rfl) (h:=fT (am l) (dr rfl (bS rfl (ai s) rfl) (fZ (am l) ?_))))
   have h:=aN H;subst h
   exact dL [0,1]
  refine cu 2 (am s) (fT (am l) (dr rfl (bR rfl (am s) rfl) (fZ (am l) ?_)))
  have h:=aN H;subst h
  exact dL [0,1]
 replace H:=E
 refine S' ar ?_
 obtain⟨L,B,H⟩:=bj H
 refine dy 3 [(0,aL a0),(3,aH p),(4,aH q),(21,.bool L)] [aK p 139 (List.flatMap eT ((rd a 0)::(rd a 1)::(rd a 2)::(rd a 3)::(rd a 4)::(rd a 5)::(rd a 6)::(rd a 7)::(rd a 8)::(rd a 9)::(rd a 10)::(rd a 11)::(rd a 12)::(rd a 13)::(rd a 14)::(rd a 15)::(rd a 16)::(rd a 17)::(rd a 18)::(rd a 19)::(rd a 20)::(rd a 21)::(rd a 22)::(rd a 23)::(rd a 24)::(rd a 25)::(rd a 26)::(rd a 27)::(rd a 28)::(rd a 29)::(rd a 30)::(rd a 31)::(rd a 32)::(rd a 33)::(rd a 34)::(rd a 35)::(rd a 36)::[])),aK q 141 (List.flatMap eT ((rd c 0)::(rd c 1)::(rd c 2)::(rd c 3)::(rd c 4)::(rd c 5)::(rd c 6)::(rd c 7)::(rd c 8)::(rd c 9)::(rd c 10)::(rd c 11)::(rd c 12)::(rd c 13)::(rd c 14)::(rd c 15)::(rd c 16)::(rd c 17)::(rd c 18)::(rd c 19)::(rd c 20)::(rd c 21)::(rd c 22)::(rd c 23)::(rd c 24)::(rd c 25)::[]))] ?_ fun junk=>?_
 ·by_cases j : N = true
  ·refine cu 2 j (cd j (h:=ah ?_))
   have x_:=ji B j;exact bK [0,1]
  refine bf (aM j) ar (h:=bf (aM j) (eK rfl rfl) (h:=ck (aM j) (h:=ah ?_)))
  have x_:=jh B ((aM j));exact bK [0,1]
 refine S' ar ?_
 obtain⟨M,H,D⟩:=ac H
 refine dy 7 [(0,aL a0),(3,aH p),(4,aH q),(29,.bool M)] [aK p 139 (List.flatMap eT ((rd a 0)::(rd a 1)::(rd a 2)::(rd a 3)::(rd a 4)::(rd a 5)::(rd a 6)::(rd a 7)::(rd a 8)::(rd a 9)::(rd a 10)::(rd a 11)::(rd a 12)::(rd a 13)::(rd a 14)::(rd a 15)::(rd a 16)::(rd a 17)::(rd a 18)::(rd a 19)::(rd a 20)::(rd a 21)::(rd a 22)::(rd a 23)::(rd a 24)::(rd a 25)::(rd a 26)::(rd a 27)::(rd a 28)::(rd a 29)::(rd a 30)::(rd a 31)::(rd a 32)::(rd a 33)::(rd a 34)::(rd a 35)::(rd a 36)::[])),aK q 141 (List.flatMap eT ((rd c 0)::(rd c 1)::(rd c 2)::(rd c 3)::(rd c 4)::(rd c 5)::(rd c 6)::(rd c 7)::(rd c 8)::(rd c 9)::(rd c 10)::(rd c 11)::(rd c 12)::(rd c 13)::(rd c 14)::(rd c 15)::(rd c 16)::(rd c 17)::(rd c 18)::(rd c 19)::(rd c 20)::(rd c 21)::(rd c 22)::(rd c 23)::(rd c 24)::(rd c 25)::[]))] ?_ fun junk=>?_
 ·rcases bE H with⟨d,H⟩|⟨d,H⟩
  ·refine cu 3 d (fY (fY (cu 1 d (gN d ?_))))
   have h:=aN H;subst h
   exact dL [0,1]
  refine bf (aM d) ar (h:=bf (aM d) (dT rfl rfl) (h:=Y' (aM d) ar ?_))
  rcases bE H with⟨o,H⟩|⟨o,H⟩
  ·refine bf (ai o) ar (h:=bf (ai o) (gG rfl rfl) (h:=fT (aM d) (dr rfl (bS rfl (ai o) rfl) (fZ (aM d) ?_))))
   have h:=aN H;subst h
   exact dL [0,1]
  refine cu 2 (am o) (fT (aM d) (dr rfl (bR rfl (am o) rfl) (fZ (aM d) ?_)))
  have h:=aN H;subst h
  exact dL [0,1]
 replace H:=D
 refine ad aW (h:=bA ?_)
 rcases bE H with⟨u,H⟩|⟨u,H⟩
 ·refine aD rfl u (aR (ad aW (h:=cC (ba (aG ?_)))))
  have h:=aN H;subst h
  exact dX [] ⟨rfl,rfl⟩
 refine aE rfl u (aR (o' (OA.ghost (Gh.blkRo (kd:=ve) (k:=1) (xs:=(((rd c 0)::(rd c 1)::(rd c 2)::(rd c 3)::(rd c 4)::(rd c 5)::(rd c 6)::(rd c 7)::(rd c 8)::(rd c 9)::(rd c 10)::(rd c 11)::(rd c 12)::(rd c 13)::(rd c 14)::(rd c 15)::(rd c 16)::(rd c 17)::(rd c 18)::(rd c 19)::(rd c 20)::(rd c 21)::(rd c 22)::(rd c 23)::(rd c 24)::(rd c 25)::[]) : List aZ)) rfl (dO eT (fun _ _=>rfl) (by kernel_rfl)) rfl) (dr (v:=.slice (some ⟨q,0,none⟩) 26 26) rfl (nK Tryz.underlying141 qz rfl) (S' ar ?_)))))
 obtain⟨xk,I,H⟩:=ac H
 refine o' (dc [1] [0,1] (lb.ok (A0:=some ⟨q,0,none⟩) (c0:=26) I) ?_)
 refine ad aW (h:=bA ?_)
 rcases bE H with⟨y,H⟩|⟨y,H⟩
 ·refine aD rfl y (aR (ad aW (h:=cC (ba (aG ?_)))))
  have h:=aN H;subst h
  exact dX [] ⟨rfl,rfl⟩
 refine aE rfl y (aR (o' (OA.ghost (Gh.blkRo (kd:=ve) (k:=0) (xs:=(((rd a 0)::(rd a 1)::(rd a 2)::(rd a 3)::(rd a 4)::(rd a 5)::(rd a 6)::(rd a 7)::(rd a 8)::(rd a 9)::(rd a 10)::(rd a 11)::(rd a 12)::(rd a 13)::(rd a 14)::(rd a 15)::(rd a 16)::(rd a 17)::(rd a 18)::(rd a 19)::(rd a 20)::(rd a 21)::(rd a 22)::(rd a 23)::(rd a 24)::(rd a 25)::(rd a 26)::(rd a 27)::(rd a 28)::(rd a 29)::(rd a 30)::(rd a 31)::(rd a 32)::(rd a 33)::(rd a 34)::(rd a 35)::(rd a 36)::[]) : List aZ)) rfl (dO eT (fun _ _=>rfl) (by kernel_rfl)) rfl) (dr (v:=.slice (some ⟨p,0,none⟩) 37 37) rfl (nK Tryz.underlying139 qz rfl) (S' ar ?_)))))
 obtain⟨O,F,H⟩:=ac H
 refine o' (dc [0] [0,1] (lb.ok (A0:=some ⟨p,0,none⟩) (c0:=37) F) ?_)
 refine ad aW (h:=bA ?_)
 rcases bE H with⟨z,H⟩|⟨z,H⟩
 ·refine aD rfl z (aR (ad aW (h:=cC (ba (aG ?_)))))
  have h:=aN H;subst h
  exact dX [] ⟨rfl,rfl⟩
 refine aE rfl z (ap (aF (aa (aR (ad aW (h:=cC ?_))))))
 have h:=aN H;subst h
 exact dX [] ⟨rfl,rfl⟩


def kZ.l0 (a0 : aY) : Nat → Bool → Int → Option (Out (Bool) (Unit))
  | 0,_,_=>none
  | k + 1,b,a=>if a < 3 then (if 0 ≤ a∧a < (3 : Int) then (lt (rd ([a0.f1.f0,a0.f1.f1,a0.f1.f2] : List Int) a) fun c=>if c = 0 then (kZ.l0 a0 k true (i64.wrap (a + 1))) else ((if b = true then (some true) else ((lW.f k c).bind (fun h=>some (decide (h ≠ 0)))) : Option Bool).bind (fun d=>if d = true then (some (Out.ret (false))) else (kZ.l0 a0 k b (i64.wrap (a + 1)))))) else none) else (some (Out.go ()))
def kZ.f (k : Nat) (a0 : aY) : Option (Bool):=(qb.f a0.f3).bind (fun d=>if (!d) = true then (some (false)) else (if a0.f2 = 0 then (lt ((decide (a0.f0 = 0)) && (decide (a0.f1 = (fX.mk 0 0 0)))) fun c=>some (c)) else ((if a0.f2 > 2 then (some true) else ((lW.f k a0.f0).bind (fun a=>some (decide (a ≠ (i64.wrap (a0.f2)))))) : Option (Bool)).bind (fun j=>if j = true then (some (false)) else ((kZ.l0 a0 k false 0 : Option (Out (Bool) (Unit))).bind (fun b=>Out.el b (fun r_=>some r_) (fun h=>some (true))))))))
theorem kZ.ok {a0 : aY} {r : Bool} (H : kZ.f k a0 = some r) : fS Tryz.prog 112 #[.agg (bV a0).toArray] [] (.bool r):=by
 refine aj Tryz.func112 rfl rfl ?_
 unfold kZ.f at H
 refine aR (o' (bO (h:=fun z=>ad aW (h:=eD (ad aA (h:=l' (cz z 5 0 (bF a0.f3)) ?_))))))
 obtain⟨r3,S,H⟩:=ac H
 refine o' (dc [] [0] (qb.ok S) ?_)
 refine ad (bX rfl) (h:=bA ?_)
 rcases bE H with⟨Z,H⟩|⟨Z,H⟩
 ·refine aD rfl Z (aR (ad aW (h:=cD ?_)))
  have h:=aN H;subst h
  exact dX [] ⟨rfl,rfl⟩
 refine aE rfl Z (ap (aa (ao (aR (ad aA (h:=bp (aP 0) (h:=ad (bk rfl rfl) (h:=bA ?_))))))))
 rcases bE H with⟨h5,H⟩|⟨h5,H⟩
 ·refine aC rfl h5 (aR (ad aA (h:=bp (aP 0) (h:=ad (bk rfl rfl) (h:=S' ar ?_)))))
  obtain⟨q6,N,H⟩:=bj H
  refine dy 5 [(21,.bool q6)] [] ?_ fun junk=>?_
  ·by_cases l : a0.f0 = 0
   ·refine bf (ai l) aA (h:=cE (ai l) (cz z 1 0 [aL a0.f1.f0,aL a0.f1.f1,aL a0.f1.f2]) (h:=iI (ai l) (.agg #[aL 0,aL 0,aL 0]) gH (h:=iI (ai l) (.bool (decide (a0.f1 = (fX.mk 0 0 0)))) (kC (xs:=[aL a0.f1.f0,aL a0.f1.f1,aL a0.f1.f2]) (ys:=[aL 0,aL 0,aL 0]) (r:=((a0.f1.f0 == 0) && ((a0.f1.f1 == 0) && ((a0.f1.f2 == 0) && true)))) (p:=a0.f1 = (fX.mk 0 0 0)) vO rfl rfl (by kernel_rfl) (vQ (x:=a0.f1) (y:=(fX.mk 0 0 0)))) (h:=cd (ai l) (h:=ah ?_)))))
    have x_:=fD N ((ai l));exact bK []
   refine cu 4 (am l) (ck (am l) (h:=ah ?_))
   have x_:=fC N ((am l));exact bK []
  refine ad aW (h:=cD ?_)
  have h:=aN H;subst h
  exact dX [] ⟨rfl,rfl⟩
 refine aB rfl h5 (ap (aa (ao (ao ?_))))
 obtain⟨t9,H,M⟩:=ac H
 refine bI (St [(1,aH z),(33,.bool t9)] [aK z 55 (bV a0)]) ?_ ?_
 ·refine fj (dt 0 12) [0] [] fun _ _ _ _ _ sH dd pk=>?_
  refine bc 0 rfl sH aA (h:=bQ 1 rfl sH (aP 0) (h:=bc 2 rfl sH (eK rfl rfl) (h:=T' 3 rfl sH ar ?_)))
  rcases bE H with⟨a,H⟩|⟨a,H⟩
  ·refine bT 4 rfl (ai a) (bT 5 rfl (ai a) (bT 6 rfl (ai a) (bT 7 rfl (ai a) (bT 8 rfl (ai a) (bT 9 rfl (ai a) (bT 10 rfl (ai a) (bQ 11 rfl sH (VR.ofV (bS rfl (ai a) rfl)) (h:=aV dd sH (aI (by kernel_rfl) ?_)))))))))
   have h:=aN H;subst h
   exact bK [0]
  refine cY 4 rfl (am a) sH aA (h:=cJ 5 rfl (am a) sH (aP 0) (h:=cY 7 rfl (am a) sH aA (h:=cJ 8 rfl (am a) sH (aP 0) (h:=By (ae (i64.wrap (a0.f2))) 9 rfl (am a) sH (jQ (T:=5) (by kernel_rfl) Tryz.underlying3 rfl) ?_))))
  obtain⟨a2,O,H⟩:=ac H
  refine BP 6 rfl dd (am a) (dc [] [] (lW.ok O) ?_)
  refine cY 10 rfl (am a) sH (dK rfl rfl) (h:=bQ 11 rfl sH (VR.ofV (bR rfl (am a) rfl)) (h:=aV dd sH (aI (by kernel_rfl) ?_)))
  have h:=aN H;subst h
  exact bK [0]
 rintro e ds As B
 clear H
 have H:=M
 clear M
 refine aa (SA.of_St B fun junk=>?_)
 rcases bE H with⟨o,H⟩|⟨o,H⟩
 ·refine aD rfl o (aR (ad aW (h:=cD ?_)))
  have h:=aN H;subst h
  exact dX [] ⟨rfl,rfl⟩
 refine aE rfl o (ap (aa (aR (ad aW (h:=eD (ad aA (h:=bp (cz z 1 0 [aL a0.f1.f0,aL a0.f1.f1,aL a0.f1.f2]) (h:=ad ar (h:=bA ?_)))))))))
 obtain⟨J,H,d⟩:=ac H
 refine bI (fun e ds As=>∃ (I : Unit),J = Out.go I∧St [] [] e ds As) ?_ ?_
 ·refine aQ (cj (fun k_ e ds As=>∃ (j : Bool) (b : Int),kZ.l0 a0 k_ j b = some J∧St [(3,.bool j),(35,.agg #[aL a0.f1.f0,aL a0.f1.f1,aL a0.f1.f2]),(36,ae b)] [] e ds As) (k:=k) ⟨_,_,H,jV []⟩ ?_)
  clear H
  rintro m e ds As ⟨j,b,H,D⟩
  obtain _ | m:=m
  ·cases H
  rw [kZ.l0] at H
  refine SA.of_St D fun junk=>aR (ad (ce rfl rfl) (h:=bA (ao ?_)))
  rcases bE H with⟨q,H⟩|⟨q,H⟩
  ·refine aC rfl q (ap (aa (ao (aQ (aR ?_)))))
   obtain⟨⟨U,Y⟩,H⟩:=aO H
   refine s' (aL (rd ([a0.f1.f0,a0.f1.f1,a0.f1.f2] : List Int) b)) (oD (kd:=(Kd.int .i32)) (i:=b) (cs:=[aL a0.f1.f0,aL a0.f1.f1,aL a0.f1.f2]) (xs:=([a0.f1.f0,a0.f1.f1,a0.f1.f2] : List Int)) (v:=aL (rd ([a0.f1.f0,a0.f1.f1,a0.f1.f2] : List Int) b)) Tryz.underlying53 iB Tryz.underlying21 rfl rfl rfl (dO (fun x_ : Int=>[Value.int .i32 x_]) (fun _ _=>rfl) (by kernel_rfl) _) rfl rfl U Y (fun _ h_=>by rw [h_]; rfl)) ?_
   obtain⟨F,L,H⟩:=bj H
   refine bP (aL F) (bo (v:=aL F) (congrArg (Value.int .i32) L.symm)) (h:=bA (aQ (aR (ad ar (h:=ad (bk rfl rfl) (h:=ad aW (h:=bA ?_)))))))
   rcases bE H with⟨s,H⟩|⟨s,H⟩
   ·refine aC rfl s (ak (ad aW (h:=ah (aF (aF (aa (ak (ad (bW rfl rfl) (h:=ad ar (h:=ah ?_))))))))))
    exact aa ⟨m,Nat.lt_succ_self _,_,_,H,dZ []⟩
   refine aB rfl s (aR (ad ar (h:=S' ar ?_)))
   obtain⟨a1,H,K⟩:=ac H
   refine dy 4 [(3,.bool j),(35,.agg #[aL a0.f1.f0,aL a0.f1.f1,aL a0.f1.f2]),(36,ae b),(48,.bool a1)] [] ?_ fun junk=>?_
   ·rcases bE H with⟨c,H⟩|⟨c,H⟩
    ·refine cu 3 c (gN c ?_)
     have h:=aN H;subst h
     exact dL []
    refine Y' (aM c) ar ?_
    obtain⟨a3,R,H⟩:=ac H
    refine fT (aM c) (dc [] [] (lW.ok R) ?_)
    refine bf (aM c) (dK rfl rfl) (h:=fZ (aM c) ?_)
    have h:=aN H;subst h
    exact dL []
   replace H:=K
   refine ad aW (h:=bA ?_)
   rcases bE H with⟨u,H⟩|⟨u,H⟩
   ·refine aD rfl u (aR (ad aW (h:=cC (ba (ba (aG (aG (ba (aG (aG ?_))))))))))
    have h:=aN H;subst h
    have hb_:=dw d
    have hr_:=Option.some.inj hb_
    clear hb_
    subst hr_
    exact dX [] ⟨rfl,rfl⟩
   refine aE rfl u (ap (aF (aF (aa (ak (ad (bW rfl rfl) (h:=ad ar (h:=ah ?_))))))))
   exact aa ⟨m,Nat.lt_succ_self _,_,_,H,dZ []⟩
  refine aB rfl q (cf (aX (aX (cg ?_))))
  have h:=aN H;subst h
  exact aa ⟨(),rfl,dZ []⟩
 rintro e ds As ⟨I,ht,E⟩
 clear H
 subst ht
 replace d:=fw d
 have H:=d
 clear d
 refine aa (SA.of_St E fun junk=>aR (ad aW (h:=cC ?_)))
 have h:=aN H;subst h
 exact dX [] ⟨rfl,rfl⟩


def fL.l0 (a0 : bH) : Nat → aY → Int → Option (Out (Bool) (aY))
  | 0,_,_=>none
  | k + 1,b,a=>if a < (a0.f2.length : Int) then (if 0 ≤ a∧a < (a0.f2.length : Int) then (if a0.f0 ≠ 0 then (lt ((decide ((a.tmod a0.f0) = 0)) && (decide (b.f2 = 2))) fun d=>if d = true then (some (Out.ret (false))) else (lt ((decide (((rd a0.f2 a).f2) = 0)) && (decide (((rd a0.f2 a).f3) = b.f3))) fun h=>(if h = true then (if a0.f0 ≠ 0 then (some (decide ((a.tmod a0.f0) > 0))) else none) else (some false) : Option Bool).bind (fun c=>(kZ.f k (aY.mk ((rd a0.f2 a).f0) ((rd a0.f2 a).f1) ((rd a0.f2 a).f2) ((rd a0.f2 a).f3))).bind (fun m=>lt ((!m) || (decide ((decide (b.f2 = 2)) ≠ c))) fun j=>(if j = true then (some true) else (if ((rd a0.f2 a).f2) = 0 then (some (!c)) else (some false)) : Option Bool).bind (fun l=>if l = true then (some (Out.ret (false))) else (fL.l0 a0 k (aY.mk ((rd a0.f2 a).f0) ((rd a0.f2 a).f1) ((rd a0.f2 a).f2) ((rd a0.f2 a).f3)) (i64.wrap (a + 1)))))))) else none) else none) else (some (Out.go b))
def fL.f (k : Nat) (a0 : bH) : Option (Bool):=(qF.f a0.f0 a0.f1).bind (fun d=>lt ((!d) || (decide ((a0.f2.length : Int) ≠ (i64.wrap (a0.f0 * a0.f1))))) fun c=>if c = true then (some (false)) else ((fL.l0 a0 k (aY.mk 0 (fX.mk 0 0 0) 1 (cM.mk 0 0 false false false false false false false false)) 0 : Option (Out (Bool) (aY))).bind (fun b=>Out.el b (fun r_=>some r_) (fun a=>some (decide (a.f2 ≠ 2))))))
theorem fL.ok {a0 : bH} {r : Bool} (H : fL.f k a0 = some r) : fS Tryz.prog 57 #[.agg #[ae a0.f0,ae a0.f1,.slice af a0.f2.length ag]] [Buf bD 55 af ag a0.f2] (.bool r):=by
 refine aj Tryz.func57 rfl rfl ?_
 unfold fL.f at H
 refine aR (o' (bO (h:=fun s=>ad aW (h:=eD (ad aA (h:=bp (aP 1) (h:=ad aA (h:=l' (aP 1) ?_))))))))
 obtain⟨r4,b0,H⟩:=ac H
 refine o' (dc [] [0,1] (qF.ok b0) ?_)
 refine ad (bX rfl) (h:=S' ar ?_)
 obtain⟨q5,a5,H⟩:=bj H
 refine cK 10 (St [(1,aH s),(23,.bool q5)] [Buf bD 55 af ag a0.f2,aK s 26 [ae a0.f0,ae a0.f1,.slice af a0.f2.length ag]]) ?_ ?_
 ·by_cases z : (!r4) = true
  ·refine cu 9 z (cd z (h:=ah ?_))
   have x_:=ji a5 z;exact bK [0,1]
  refine bf (aM z) aA (h:=cE (aM z) (aP 1) (h:=iI (aM z) (ae (a0.f2.length : Int)) (cO Tryz.underlying24 rfl) (h:=bf (aM z) aA (h:=cE (aM z) (aP 1) (h:=bf (aM z) aA (h:=cE (aM z) (aP 1) (h:=bf (aM z) (jt rfl rfl) (h:=bf (aM z) (dK rfl rfl) (h:=fZ (aM z) ?_)))))))))
  refine ah ?_
  have x_:=jh a5 ((aM z));exact bK [0,1]
 rintro e ds As a8
 refine bA (SA.of_St a8 fun junk=>?_)
 rcases bE H with⟨h8,H⟩|⟨h8,H⟩
 ·refine aD rfl h8 (aR (ad aW (h:=cD ?_)))
  have h:=aN H;subst h
  exact dX [0] ⟨rfl,rfl⟩
 refine aE rfl h8 (ap (aa (aR (bP (.agg (bV (aY.mk 0 (fX.mk 0 0 0) 1 fU)).toArray) dP (h:=o' (cw (h:=fun b9=>o' (bi b9 0 2 (bV (aY.mk 0 (fX.mk 0 0 0) 1 fU)) (h:=eD (ad aA (h:=bp (aP 1) (h:=bP (ae (a0.f2.length : Int)) (cO Tryz.underlying24 rfl) (h:=S' ar ?_)))))))))))))
 refine bA ?_
 obtain⟨a6,H,B⟩:=ac H
 refine bI (fun e ds As=>∃ (U : aY),a6 = Out.go U∧∃ (I : Nat),St [(3,aH I)] [aK I 55 (bV U),Buf bD 55 af ag a0.f2] e ds As) ?_ ?_
 ·refine aQ (cj (fun k_ e ds As=>∃ (b : aY) (a : Int),∃ (c : Nat),fL.l0 a0 k_ b a = some a6∧St [(1,aH s),(3,aH c),(26,.slice af a0.f2.length ag),(27,ae (a0.f2.length : Int)),(28,ae a)] [Buf bD 55 af ag a0.f2,aK s 26 [ae a0.f0,ae a0.f1,.slice af a0.f2.length ag],aK c 55 (bV b)] e ds As) (k:=k) ⟨_,_,b9,H,jV [0,1,2]⟩ ?_)
  clear H
  rintro R e ds As ⟨b,a,c,H,Y⟩
  obtain _ | R:=R
  ·cases H
  rw [fL.l0] at H
  refine SA.of_St Y fun junk=>aR (ad (ce rfl rfl) (h:=bA (ao ?_)))
  rcases bE H with⟨J,H⟩|⟨J,H⟩
  ·refine aC rfl J (ap (aa (ao (aQ (aR (S' ar ?_))))))
   obtain⟨⟨a3,a4⟩,H⟩:=aO H
   refine bp (bu (i:=a) Tryz.underlying24 cl rfl rfl (Src.buf (k:=0) rfl) a3 a4) (h:=bp (ci (enc:=cZ) (i:=a) (j:=a.toNat * 15) (m:=0) (sz:=15) (vs:=(bV (aY.mk ((rd a0.f2 a).f0) ((rd a0.f2 a).f1) ((rd a0.f2 a).f2) ((rd a0.f2 a).f3)))) Tryz.underlying55 rfl cl rfl rfl rfl (Src.buf (k:=0) rfl) a3 a4 (fun _ _ h=>h) rfl) (h:=o' (cw (h:=fun d=>ad aW (h:=o' (bi d 0 3 (bV (aY.mk ((rd a0.f2 a).f0) ((rd a0.f2 a).f1) ((rd a0.f2 a).f2) ((rd a0.f2 a).f3))) (h:=eD (ad ar (h:=ad aA (h:=l' (aP 1) ?_))))))))))
   obtain⟨b1,H⟩:=aO H
   refine bP (ae (a.tmod a0.f0)) (nf rfl rfl b1) (h:=ad (bk rfl rfl) (h:=S' ar ?_))
   obtain⟨b4,M,H⟩:=bj H
   refine cK 4 (St [(1,aH s),(3,aH c),(4,ae a),(5,aH d),(26,.slice af a0.f2.length ag),(27,ae (a0.f2.length : Int)),(28,ae a),(42,.bool b4)] [Buf bD 55 af ag a0.f2,aK s 26 [ae a0.f0,ae a0.f1,.slice af a0.f2.length ag],aK c 55 (bV b),aK d 55 (bV (aY.mk ((rd a0.f2 a).f0) ((rd a0.f2 a).f1) ((rd a0.f2 a).f2) ((rd a0.f2 a).f3)))]) ?_ ?_
   ·by_cases D : (a.tmod a0.f0) = 0
    ·refine bf (ai D) aA (h:=cE (ai D) (aP 2) (h:=bf (ai D) (bk rfl rfl) (h:=cd (ai D) (h:=ah ?_))))
     have x_:=fD M ((ai D));exact bK [0,1,2,3]
    refine cu 3 (am D) (ck (am D) (h:=ah ?_))
    have x_:=fC M ((am D));exact bK [0,1,2,3]
   rintro e ds As Z
   refine bA (SA.of_St Z fun junk=>?_)
   rcases bE H with⟨K,H⟩|⟨K,H⟩
   ·refine aD rfl K (aR (ad aW (h:=cD (ba (aG (aG (ba (aG (aG ?_)))))))))
    have h:=aN H;subst h
    have hb_:=dw B
    have hr_:=Option.some.inj hb_
    clear hb_
    subst hr_
    exact dX [0] ⟨rfl,rfl⟩
   refine aE rfl K (ap (aa (aR (ad aA (h:=bp (aP 3) (h:=ad (bk rfl rfl) (h:=S' ar ?_)))))))
   obtain⟨b5,N,H⟩:=bj H
   refine dy 6 [(1,aH s),(3,aH c),(4,ae a),(5,aH d),(26,.slice af a0.f2.length ag),(27,ae (a0.f2.length : Int)),(28,ae a),(52,.bool b5)] [Buf bD 55 af ag a0.f2,aK s 26 [ae a0.f0,ae a0.f1,.slice af a0.f2.length ag],aK c 55 (bV b),aK d 55 (bV (aY.mk ((rd a0.f2 a).f0) ((rd a0.f2 a).f1) ((rd a0.f2 a).f2) ((rd a0.f2 a).f3)))] ?_ fun junk=>?_
   ·by_cases o : ((rd a0.f2 a).f2) = 0
    ·refine bf (ai o) aA (h:=cE (ai o) (cz d 5 3 (bF ((rd a0.f2 a).f3))) (h:=bf (ai o) aA (h:=cE (ai o) (cz c 5 2 (bF b.f3)) (h:=iI (ai o) (.bool (decide (((rd a0.f2 a).f3) = b.f3))) (kC (xs:=(bF ((rd a0.f2 a).f3))) (ys:=(bF b.f3)) (r:=(((((rd a0.f2 a).f3).f0) == b.f3.f0) && (((((rd a0.f2 a).f3).f1) == b.f3.f1) && (((((rd a0.f2 a).f3).f2) == b.f3.f2) && (((((rd a0.f2 a).f3).f3) == b.f3.f3) && (((((rd a0.f2 a).f3).f4) == b.f3.f4) && (((((rd a0.f2 a).f3).f5) == b.f3.f5) && (((((rd a0.f2 a).f3).f6) == b.f3.f6) && (((((rd a0.f2 a).f3).f7) == b.f3.f7) && (((((rd a0.f2 a).f3).f8) == b.f3.f8) && (((((rd a0.f2 a).f3).f9) == b.f3.f9) && true))))))))))) (p:=((rd a0.f2 a).f3) = b.f3) lR rfl rfl (by kernel_rfl) (lS (x:=((rd a0.f2 a).f3)) (y:=b.f3))) (h:=cd (ai o) (h:=ah ?_))))))
     have x_:=fD N ((ai o));exact bK [0,1,2,3]
    refine cu 5 (am o) (ck (am o) (h:=ah ?_))
    have x_:=fC N ((am o));exact bK [0,1,2,3]
   refine S' ar ?_
   obtain⟨S,H,a7⟩:=ac H
   refine dy 6 [(1,aH s),(3,aH c),(5,aH d),(26,.slice af a0.f2.length ag),(27,ae (a0.f2.length : Int)),(28,ae a),(59,.bool S)] [Buf bD 55 af ag a0.f2,aK s 26 [ae a0.f0,ae a0.f1,.slice af a0.f2.length ag],aK c 55 (bV b),aK d 55 (bV (aY.mk ((rd a0.f2 a).f0) ((rd a0.f2 a).f1) ((rd a0.f2 a).f2) ((rd a0.f2 a).f3)))] ?_ fun junk=>?_
   ·rcases bE H with⟨u,H⟩|⟨u,H⟩
    ·refine bf u ar (h:=bf u aA (h:=z' u (aP 1) ?_))
     obtain⟨b3,H⟩:=aO H
     refine iI u (ae (a.tmod a0.f0)) (nf rfl rfl b3) (h:=bf u (eK rfl rfl) (h:=gN u ?_))
     have h:=aN H;subst h
     exact dL [0,1,2,3]
    refine cu 5 (aM u) (fZ (aM u) ?_)
    have h:=aN H;subst h
    exact dL [0,1,2,3]
   replace H:=a7
   refine ad aW (h:=eD (l' (cm 3) ?_))
   obtain⟨b8,a9,H⟩:=ac H
   refine o' (dc [] [0,1,2,3] (kZ.ok a9) ?_)
   refine ad (bX rfl) (h:=S' ar ?_)
   obtain⟨b6,O,H⟩:=bj H
   refine dy 6 [(1,aH s),(3,aH c),(5,aH d),(6,.bool S),(26,.slice af a0.f2.length ag),(27,ae (a0.f2.length : Int)),(28,ae a),(69,.bool b6)] [Buf bD 55 af ag a0.f2,aK s 26 [ae a0.f0,ae a0.f1,.slice af a0.f2.length ag],aK c 55 (bV b),aK d 55 (bV (aY.mk ((rd a0.f2 a).f0) ((rd a0.f2 a).f1) ((rd a0.f2 a).f2) ((rd a0.f2 a).f3)))] ?_ fun junk=>?_
   ·by_cases q : (!b8) = true
    ·refine cu 5 q (cd q (h:=ah ?_))
     have x_:=ji O q;exact bK [0,1,2,3]
    refine bf (aM q) aA (h:=cE (aM q) (aP 2) (h:=bf (aM q) (bk rfl rfl) (h:=bf (aM q) ar (h:=iI (aM q) (.bool (decide ((decide (b.f2 = 2)) ≠ S))) (oX Tryz.underlying4 rfl rfl) (h:=ck (aM q) (h:=ah ?_))))))
    have x_:=jh O ((aM q));exact bK [0,1,2,3]
   refine S' ar ?_
   obtain⟨b7,H,F⟩:=ac H
   refine cK 8 (St [(1,aH s),(3,aH c),(5,aH d),(26,.slice af a0.f2.length ag),(27,ae (a0.f2.length : Int)),(28,ae a),(78,.bool b7)] [Buf bD 55 af ag a0.f2,aK s 26 [ae a0.f0,ae a0.f1,.slice af a0.f2.length ag],aK c 55 (bV b),aK d 55 (bV (aY.mk ((rd a0.f2 a).f0) ((rd a0.f2 a).f1) ((rd a0.f2 a).f2) ((rd a0.f2 a).f3)))]) ?_ ?_
   ·rcases bE H with⟨l,H⟩|⟨l,H⟩
    ·refine cu 4 l (fY (fY (cu 1 l (gN l ?_))))
     have h:=aN H;subst h
     exact dL [0,1,2,3]
    refine bf (aM l) aA (h:=cE (aM l) (aP 3) (h:=bf (aM l) (bk rfl rfl) (h:=Y' (aM l) ar ?_)))
    rcases bE H with⟨E,H⟩|⟨E,H⟩
    ·refine bf (ai E) ar (h:=bf (ai E) (bX rfl) (h:=fT (aM l) (dr rfl (bS rfl (ai E) rfl) (fZ (aM l) ?_))))
     have h:=aN H;subst h
     exact dL [0,1,2,3]
    refine cu 2 (am E) (fT (aM l) (dr rfl (bR rfl (am E) rfl) (fZ (aM l) ?_)))
    have h:=aN H;subst h
    exact dL [0,1,2,3]
   rintro e ds As a1
   clear H
   have H:=F
   clear F
   refine bA (SA.of_St a1 fun junk=>?_)
   rcases bE H with⟨L,H⟩|⟨L,H⟩
   ·refine aD rfl L (aR (ad aW (h:=cD (ba (aG (aG (ba (aG (aG ?_)))))))))
    have h:=aN H;subst h
    have hb_:=dw B
    have hr_:=Option.some.inj hb_
    clear hb_
    subst hr_
    exact dX [0] ⟨rfl,rfl⟩
   refine aE rfl L (ap (aa (ak (bp (cm 3) (h:=o' (bi c 0 2 (bV (aY.mk ((rd a0.f2 a).f0) ((rd a0.f2 a).f1) ((rd a0.f2 a).f2) ((rd a0.f2 a).f3))) (h:=ah (aF (aa (ak (ad (bW rfl rfl) (h:=ad ar (h:=ah ?_)))))))))))))
   exact aa ⟨R,Nat.lt_succ_self _,_,_,c,H,dZ [0,1,2]⟩
  refine aB rfl J (cf (aX (aX (cg ?_))))
  have h:=aN H;subst h
  exact aa ⟨b,rfl,c,dZ [2,0]⟩
 rintro e ds As ⟨U,ht,I,a2⟩
 clear H
 subst ht
 replace B:=fw B
 have H:=B
 clear B
 refine aa (SA.of_St a2 fun junk=>aR (ad aA (h:=bp (aP 0) (h:=ad (dK rfl rfl) (h:=ad aW (h:=cC ?_))))))
 have h:=aN H;subst h
 exact dX [1] ⟨rfl,rfl⟩


def jq.l0 (l0 : (List aY)) (l1 : (List aY)) : Nat → Int → Option (Out (Bool) (Unit))
  | 0,_=>none
  | k + 1,a=>if a < (l0.length : Int) then (if 0 ≤ a∧a < (l0.length : Int) then (if 0 ≤ a∧a < (l1.length : Int) then (if (rd l0 a) ≠ (rd l1 a) then (some (Out.ret (false))) else (jq.l0 l0 l1 k (i64.wrap (a + 1)))) else none) else none) else (some (Out.go ()))
def jq.f (k : Nat) (l0 : (List aY)) (l1 : (List aY)) : Option (Bool):=if (l0.length : Int) ≠ (l1.length : Int) then (some (false)) else ((jq.l0 l0 l1 k 0 : Option (Out (Bool) (Unit))).bind (fun a=>Out.el a (fun r_=>some r_) (fun b=>some (true))))

def qc.f (k : Nat) (a0 : bH) (a1 : bH) : Option (Bool):=lt ((decide (a0.f0 = a1.f0)) && (decide (a0.f1 = a1.f1))) fun c=>(if c = true then ((jq.f k a0.f2 a1.f2).bind (fun b=>some b)) else (some false) : Option Bool).bind (fun a=>some (a))

def iZ.l0 (l0 : (List Int)) (g1 : Int → Option (Bool)) : Nat → Int → Option (Out (Int) (Unit))
  | 0,_=>none
  | k + 1,a=>if a < (l0.length : Int) then (if 0 ≤ a∧a < (l0.length : Int) then ((g1 (rd l0 a)).bind (fun b=>if b = true then (some (Out.ret (a))) else (iZ.l0 l0 g1 k (i64.wrap (a + 1))))) else none) else (some (Out.go ()))
def iZ.f (k : Nat) (l0 : (List Int)) (g1 : Int → Option (Bool)) : Option (Int):=(iZ.l0 l0 g1 k 0 : Option (Out (Int) (Unit))).bind (fun a=>Out.el a (fun r_=>some r_) (fun b=>some ((-1))))

def qd.f (k : Nat) (l0 : (List Int)) (g1 : Int → Option (Bool)) : Option (Bool):=(iZ.f k l0 g1).bind (fun a=>some (decide (a ≥ 0)))

def uI.f (a0 : Int) : Option (Bool):=some (decide (a0 < 0))
theorem uI.ok {a0 : Int} {r : Bool} (H : uI.f a0 = some r) : fS Tryz.prog 61 #[aL a0] [] (.bool r):=by
 refine aj Tryz.func61 rfl rfl ?_
 unfold uI.f at H
 refine aR (ad aW (h:=cP (ad ar (h:=ad (ce rfl rfl) (h:=ad aW (h:=cC ?_))))))
 have h:=aN H;subst h
 exact dX [] ⟨rfl,rfl⟩


def eF.l1 (a0 : aJ) : Nat → Int → Int → Option (Out (Bool) (Unit))
  | 0,_,_=>none
  | k + 1,b,a=>if a < (a0.f7.length : Int) then (if 0 ≤ a∧a < (a0.f7.length : Int) then (lt (rd a0.f7 a) fun n65=>lt ((decide (n65 ≤ b)) || (decide (n65 ≥ a0.f0.f0))) fun c=>if c = true then (some (Out.ret (false))) else (eF.l1 a0 k n65 (i64.wrap (a + 1)))) else none) else (some (Out.go ()))
def eF.l0 (a0 : aJ) : Nat → Int → Option (Out (Bool) (Unit))
  | 0,_=>none
  | k + 1,a=>if a < 2 then (if 0 ≤ a∧a < (2 : Int) then (lt ((decide (((rd ([(dz.mk a0.f1 a0.f2 a0.f3 false (cM.mk 0 0 false false false false false false false false)),a0.f14] : List dz) a).f0) < 0)) || (decide (((rd ([(dz.mk a0.f1 a0.f2 a0.f3 false (cM.mk 0 0 false false false false false false false false)),a0.f14] : List dz) a).f0) ≥ a0.f0.f1))) fun b=>lt (b || (decide (((rd ([(dz.mk a0.f1 a0.f2 a0.f3 false (cM.mk 0 0 false false false false false false false false)),a0.f14] : List dz) a).f1) < 0))) fun c=>lt (c || (decide (((rd ([(dz.mk a0.f1 a0.f2 a0.f3 false (cM.mk 0 0 false false false false false false false false)),a0.f14] : List dz) a).f1) ≥ a0.f0.f0))) fun d=>(if d = true then (some true) else (if ((rd ([(dz.mk a0.f1 a0.f2 a0.f3 false (cM.mk 0 0 false false false false false false false false)),a0.f14] : List dz) a).f2) = true then (some (decide (((rd ([(dz.mk a0.f1 a0.f2 a0.f3 false (cM.mk 0 0 false false false false false false false false)),a0.f14] : List dz) a).f1) ≠ (i64.wrap (a0.f0.f0 - 1))))) else (some false)) : Option Bool).bind (fun h=>if h = true then (some (Out.ret (false))) else (eF.l0 a0 k (i64.wrap (a + 1))))) else none) else (some (Out.go ()))
def eF.f (k : Nat) (a0 : aJ) : Option (Bool):=(fL.f k a0.f0).bind (fun o=>(if (!o) = true then (some true) else ((qb.f a0.f4).bind (fun p=>some (!p))) : Option Bool).bind (fun a=>(if a = true then (some true) else ((qb.f a0.f14.f4).bind (fun gB=>some (!gB))) : Option Bool).bind (fun b=>lt (b || (decide (a0.f5 < 0))) fun c=>lt (c || (decide (a0.f5 > a0.f6))) fun d=>lt (d || (decide (a0.f6 ≥ a0.f0.f1))) fun h=>if h = true then (some (false)) else ((eF.l0 a0 k 0 : Option (Out (Bool) (Unit))).bind (fun u=>Out.el u (fun r_=>some r_) (fun B=>(eF.l1 a0 k (-1) 0 : Option (Out (Bool) (Unit))).bind (fun y=>Out.el y (fun r_=>some r_) (fun D=>(if a0.f15 = true then ((fL.f k a0.f16).bind (fun q=>if (!q) = true then (some true) else (if a0.f16.f0 ≠ a0.f0.f0 then (some true) else (some (decide (a0.f16.f1 ≠ a0.f0.f1)))))) else (some false) : Option Bool).bind (fun j=>(if j = true then (some true) else (if (!a0.f15) = true then ((qc.f k a0.f16 (bH.mk 0 0 ([] : (List aY)))).bind (fun r=>some (!r))) else (some false)) : Option Bool).bind (fun l=>if l = true then (some (false)) else ((if (a0.f17.length : Int) ≤ 256 then ((qd.f k a0.f17 (fun (z : Int)=>uI.f z)).bind (fun s=>some (!s))) else (some false) : Option Bool).bind (fun m=>some (m)))))))))))))

def st.f (l0 : (List aY)) : Option ((List aY)):=if ([] : (List aY)).length + l0.length ≤ 2932031007402 then lt (([] : (List aY)) ++ l0) fun n9=>(some (n9)) else none
theorem st.ok {l0 : (List aY)} {A0 : Option Addr} {c0 : Nat} {r : (List aY)} (H : st.f l0 = some r) : dk Tryz.prog 158 #[.slice A0 l0.length c0] [Ro bD A0 c0 l0] (fun v B=>∃ aS aT,v = .slice aS r.length aT∧B = [Buf bD 55 aS aT r]):=by
 refine aj Tryz.func158 rfl rfl ?_
 unfold st.f at H
 refine aR (ad aW (h:=eD (ad ar (h:=bP (.bool A0.isNone) (nI Tryz.underlying24 rfl rfl) (h:=bA ?_)))))
 by_cases h2 : A0 = none
 ·subst h2
  refine nG (k:=0) rfl fun e_=>?_
  subst e_
  replace H:=rR (x:=some (([] : (List aY)))) H (by simp [lt])
  refine aD rfl rfl (aR (ad aW (h:=cD ?_)))
  have h:=aN H;subst h
  exact mi [Buf bD 55 none 0 ([] : (List aY))] rfl rfl ((Gh.nilBuf bD 55).trans (eZ [1])) ⟨none,0,rfl,rfl⟩
 obtain⟨a_,rfl⟩:=Option.ne_none_iff_exists'.1 h2
 refine aE rfl (by first | decide | simp) (ap (aa (aR (o' (gE (kd:=bD) (zv:=(.agg (bV lC).toArray)) (sz:=15) (cells:=[]) (xs:=([] : (List aY))) rfl Tryz.underlying24 jD cl rfl rfl rfl (by kernel_rfl) rfl rfl (dO cZ (fun _ _=>rfl) (by kernel_rfl)) fun d=>S' ar ?_)))))
 obtain⟨l,H⟩:=aO H
 obtain⟨n9,a,H⟩:=bj H
 refine o' (gl (k:=1) (A:=some ⟨d,0,none⟩) (c:=0) (xs:=([] : (List aY))) (ys:=l0) n9 a rfl Tryz.underlying24 mC rfl rfl rfl rfl rfl (ng.slice Tryz.underlying24 (Src.ro (k:=0) rfl)) (by omega) (by omega) fun b j=>ad aW (h:=cC ?_))
 have h:=aN H;subst h
 exact dX [1] ⟨b,j,rfl,rfl⟩


def oT.f (a0 : bH) : Option (bH):=(st.f a0.f2).bind (fun a=>some ((bH.mk a0.f0 a0.f1 a)))
theorem oT.ok {a0 : bH} {r : bH} (H : oT.f a0 = some r) : dk Tryz.prog 137 #[.agg #[ae a0.f0,ae a0.f1,.slice af a0.f2.length ag]] [Ro bD af ag a0.f2] (fun v B=>∃ aS aT,v = .agg #[ae r.f0,ae r.f1,.slice aS r.f2.length aT]∧B = [Buf bD 55 aS aT r.f2]):=by
 refine aj Tryz.func137 rfl rfl ?_
 unfold oT.f at H
 refine aR (o' (bO (h:=fun j=>o' (cw (h:=fun l=>cP (ad aA (h:=l' (aP 1) ?_)))))))
 obtain⟨c,d,H⟩:=ac H
 refine o' (gy [0] [0,1,2] (st.ok (A0:=af) (c0:=ag) d) fun a b=>?_)
 refine ad aA (h:=o' (cF 2 [.slice a c.length b] (h:=(cP (bp (cz j 0 2 [ae a0.f0,ae a0.f1,.slice a c.length b]) (h:=o' (bi l 0 3 [ae a0.f0,ae a0.f1,.slice a c.length b] (h:=cC ?_))))))))
 have h:=aN H;subst h
 exact gi (rs:=[.cell 2 26]) (vs:=[.agg #[ae a0.f0,ae a0.f1,.slice a c.length b]]) [Buf bD 55 a b c] rfl ⟨RV.cell (k:=3) rfl rfl Tryz.underlying26 rfl uw,trivial⟩ rfl (eZ [0]) ⟨a,b,rfl,rfl⟩


def sr.f (l0 : (List Int)) : Option ((List Int)):=if ([] : (List Int)).length + l0.length ≤ 17592186044416 then lt (([] : (List Int)) ++ l0) fun n9=>(some (n9)) else none
theorem sr.ok {l0 : (List Int)} {A0 : Option Addr} {c0 : Nat} {r : (List Int)} (H : sr.f l0 = some r) : dk Tryz.prog 138 #[.slice A0 l0.length c0] [pG A0 c0 l0] (fun v B=>∃ aS aT,v = .slice aS r.length aT∧B = [gf 3 aS aT r]):=by
 refine aj Tryz.func138 rfl rfl ?_
 unfold sr.f at H
 refine aR (ad aW (h:=eD (ad ar (h:=bP (.bool A0.isNone) (nI Tryz.underlying29 rfl rfl) (h:=bA ?_)))))
 by_cases h2 : A0 = none
 ·subst h2
  refine nG (k:=0) rfl fun e_=>?_
  subst e_
  replace H:=rR (x:=some (([] : (List Int)))) H (by simp [lt])
  refine aD rfl rfl (aR (ad aW (h:=cD ?_)))
  have h:=aN H;subst h
  exact mi [gf 3 none 0 ([] : (List Int))] rfl rfl ((Gh.nilBuf (Kd.int .i64) 3).trans (eZ [1])) ⟨none,0,rfl,rfl⟩
 obtain⟨a_,rfl⟩:=Option.ne_none_iff_exists'.1 h2
 refine aE rfl (by first | decide | simp) (ap (aa (aR (o' (gE (kd:=(Kd.int .i64)) (zv:=(ae 0)) (sz:=1) (cells:=[]) (xs:=([] : (List Int))) rfl Tryz.underlying29 np jl rfl rfl rfl (by kernel_rfl) rfl rfl (dO (fun x_ : Int=>[Value.int .i64 x_]) (fun _ _=>rfl) (by kernel_rfl)) fun d=>S' ar ?_)))))
 obtain⟨l,H⟩:=aO H
 obtain⟨n9,a,H⟩:=bj H
 refine o' (gl (k:=1) (A:=some ⟨d,0,none⟩) (c:=0) (xs:=([] : (List Int))) (ys:=l0) n9 a rfl Tryz.underlying29 pf rfl rfl rfl rfl rfl (ng.slice Tryz.underlying29 (Src.ro (k:=0) rfl)) (by omega) (by omega) fun b j=>ad aW (h:=cC ?_))
 have h:=aN H;subst h
 exact dX [1] ⟨b,j,rfl,rfl⟩


def ss.f (l0 : (List Int)) : Option ((List Int)):=if ([] : (List Int)).length + l0.length ≤ 35184372088832 then lt (([] : (List Int)) ++ l0) fun n9=>(some (n9)) else none
theorem ss.ok {l0 : (List Int)} {A0 : Option Addr} {c0 : Nat} {r : (List Int)} (H : ss.f l0 = some r) : dk Tryz.prog 139 #[.slice A0 l0.length c0] [nZ A0 c0 l0] (fun v B=>∃ aS aT,v = .slice aS r.length aT∧B = [kU 21 aS aT r]):=by
 refine aj Tryz.func139 rfl rfl ?_
 unfold ss.f at H
 refine aR (ad aW (h:=eD (ad ar (h:=bP (.bool A0.isNone) (nI Tryz.underlying32 rfl rfl) (h:=bA ?_)))))
 by_cases h2 : A0 = none
 ·subst h2
  refine nG (k:=0) rfl fun e_=>?_
  subst e_
  replace H:=rR (x:=some (([] : (List Int)))) H (by simp [lt])
  refine aD rfl rfl (aR (ad aW (h:=cD ?_)))
  have h:=aN H;subst h
  exact mi [kU 21 none 0 ([] : (List Int))] rfl rfl ((Gh.nilBuf (Kd.int .i32) 21).trans (eZ [1])) ⟨none,0,rfl,rfl⟩
 obtain⟨a_,rfl⟩:=Option.ne_none_iff_exists'.1 h2
 refine aE rfl (by first | decide | simp) (ap (aa (aR (o' (gE (kd:=(Kd.int .i32)) (zv:=(aL 0)) (sz:=1) (cells:=[]) (xs:=([] : (List Int))) rfl Tryz.underlying32 rG iB rfl rfl rfl (by kernel_rfl) rfl rfl (dO (fun x_ : Int=>[Value.int .i32 x_]) (fun _ _=>rfl) (by kernel_rfl)) fun d=>S' ar ?_)))))
 obtain⟨l,H⟩:=aO H
 obtain⟨n9,a,H⟩:=bj H
 refine o' (gl (k:=1) (A:=some ⟨d,0,none⟩) (c:=0) (xs:=([] : (List Int))) (ys:=l0) n9 a rfl Tryz.underlying32 tI rfl rfl rfl rfl rfl (ng.slice Tryz.underlying32 (Src.ro (k:=0) rfl)) (by omega) (by omega) fun b j=>ad aW (h:=cC ?_))
 have h:=aN H;subst h
 exact dX [1] ⟨b,j,rfl,rfl⟩


def lE.f (a0 : aJ) : Option (aJ):=(oT.f a0.f0).bind (fun a=>(oT.f a0.f16).bind (fun b=>(sr.f a0.f7).bind (fun c=>(ss.f a0.f17).bind (fun d=>some (({ a0 with f0:=a,f7:=c,f16:=b,f17:=d }))))))
theorem lE.ok {a0 : aJ} {r : aJ} (H : lE.f a0 = some r) : dk Tryz.prog 97 #[.agg (al a0 af ag ay az au av aw ax).toArray] (cH a0 af ag ay az au av aw ax) (fun v B=>∃ aS aT bv bx bq br bw bz,v = .agg (al r aS aT bv bx bq br bw bz).toArray∧B = (bn r aS aT bv bx bq br bw bz)):=by
 refine aj Tryz.func97 rfl rfl ?_
 unfold lE.f at H
 refine aR (o' (bO (h:=fun z=>o' (cw (h:=fun J=>bA (ao ?_))))))
 refine fj [0,1,3,4,6] (dt 0 5) [0,1,2,3,5] fun _ _ _ _ _ sH dd pk=>?_
 refine bc 0 rfl sH aA (h:=bQ 1 rfl sH (cz z 0 4 [ae a0.f0.f0,ae a0.f0.f1,.slice af a0.f0.f2.length ag]) (h:=bc 3 rfl sH aA (h:=r' 4 rfl sH (cz z 40 4 [ae a0.f16.f0,ae a0.f16.f1,.slice au a0.f16.f2.length av]) ?_)))
 obtain⟨a,D,H⟩:=ac H
 refine dU 2 rfl dd (gy [0] [0,1,2,3,4] (oT.ok D) fun c o=>?_)
 refine T' 6 rfl sH aA ?_
 obtain⟨b,E,H⟩:=ac H
 refine dU 5 rfl dd (gy [3] [0,1,2,3,4,5] (oT.ok E) fun d p=>?_)
 refine aV dd sH (eC 7 rfl (cF 4 [ae a.f0,ae a.f1,.slice c a.f2.length o] (h:=(ca 8 rfl aA (h:=eC 9 rfl (cF 4 [ae b.f0,ae b.f1,.slice d b.f2.length p] (h:=(aI (by kernel_rfl) (aa (ao ?_))))))))))
 refine fj [0,1,3,4,6] [0,1,2,3,4,0,1,2,3] [0,1,2,3,5,6,0,1,2,3,11] fun _ _ _ _ _ sH dd pk=>?_
 refine bc 0 rfl sH aA (h:=bQ 1 rfl sH (aP 4) (h:=bc 3 rfl sH aA (h:=r' 4 rfl sH (aP 4) ?_)))
 obtain⟨u,F,H⟩:=ac H
 refine dU 2 rfl dd (gy [1] [0,1,2,3,4,5,6,7,8,9,10] (sr.ok (A0:=ay) (c0:=az) F) fun j q=>?_)
 refine T' 6 rfl sH aA ?_
 obtain⟨y,I,H⟩:=ac H
 refine dU 5 rfl dd (gy [4] [0,1,2,3,4,5,6,7,8,9,10,11] (ss.ok (A0:=aw) (c0:=ax) I) fun m s=>?_)
 refine aV dd sH (eC 7 rfl (cF 4 [.slice j u.length q] (h:=(ca 8 rfl aA (h:=eC 9 rfl (cF 4 [.slice m y.length s] (h:=(aI (by kernel_rfl) (aa (SA.of_St (l:=[(1,aH z),(2,aH J)]) (B:=[aK z 34 (al ({ a0 with f0:=a,f7:=u,f16:=b,f17:=y }) c o j q d p m s),Buf bD 55 c o a.f2,gf 3 j q u,Buf bD 55 d p b.f2,kU 21 m s y,aK J 34 (al cy none 0 none 0 none 0 none 0)]) (St.mk1 (cB rfl (cB rfl dS)) (Gh.sel [4,16,10,15,9,21] (by kernel_rfl) (by kernel_rfl))) fun junk=>aR (bp (cm 0) (h:=o' (uB J 0 5 (al ({ a0 with f0:=a,f7:=u,f16:=b,f17:=y }) c o j q d p m s) ?_)))))))))))))
 refine cC ?_
 have h:=aN H;subst h
 exact gi (rs:=[.cell 2 34]) (vs:=[.agg (al ({ a0 with f0:=a,f7:=u,f16:=b,f17:=y }) c o j q d p m s).toArray]) [Buf bD 55 c o a.f2,gf 3 j q u,Buf bD 55 d p b.f2,kU 21 m s y] rfl ⟨RV.cell (k:=5) rfl rfl Tryz.underlying34 rfl rC,trivial⟩ rfl (eZ [1,2,3,4]) ⟨c,o,j,q,d,p,m,s,rfl,rfl⟩


def eb.f (p0 : aJ) (a1 : Int) : Option ((Int × Int)):=lt (i64.wrap (a1 * p0.f0.f0)) fun n6=>if 0 ≤ n6∧n6 ≤ (i64.wrap (n6 + p0.f0.f0))∧(i64.wrap (n6 + p0.f0.f0)) ≤ (p0.f0.f2.length : Int)∧(i64.wrap (n6 + p0.f0.f0)) ≤ (i64.wrap (n6 + p0.f0.f0))∧(i64.wrap (n6 + p0.f0.f0)) ≤ (p0.f0.f2.length : Int) then (some (((0 + n6 : Int),((i64.wrap (n6 + p0.f0.f0)) - n6 : Int)))) else none
theorem eb.ok {p0 : aJ} {a1 : Int} {r : (Int × Int)} (H : eb.f p0 a1 = some r) : dk Tryz.prog 135 #[.pointer (some ⟨bg,0,none⟩),ae a1] (cN bg p0 af ag ay az au av aw ax) (fun v B=>∃ (V0_ : Option Addr) (v0_ : Nat) (_ : eu af V0_ 15 r.1 r.2 v0_),v = .slice V0_ r.2.toNat v0_∧B = (cN bg p0 af ag ay az au av aw ax)):=by
 refine aj Tryz.func135 rfl rfl ?_
 unfold eb.f at H
 refine aR (ad aW (h:=cP (ad ar (h:=ad ar (h:=ad cI (h:=ad aA (h:=bp (aP 0) (h:=S' (jt rfl rfl) ?_))))))))
 obtain⟨n6,y,H⟩:=bj H
 refine bP (ae n6) (bo (v:=ae n6) (congrArg (Value.int .i64) y.symm)) (h:=bA (ao (bM 1 fun D=>bM 2 fun E=>bM 3 fun F=>bM 4 fun z=>?_)))
 refine fj (dt 0 19) [0] (dt 1 4) fun _ _ _ _ _ sH dd pk=>?_
 refine bc 0 rfl sH ar (h:=bc 1 rfl sH cI (h:=bc 2 rfl sH aA (h:=bQ 3 rfl sH (aP 0) (h:=bc 4 rfl sH ar (h:=bc 5 rfl sH ar (h:=bc 6 rfl sH ar (h:=bc 7 rfl sH cI (h:=bc 8 rfl sH aA (h:=r' 9 rfl sH (aP 0) ?_)))))))))
 refine bc 10 rfl sH (bW rfl rfl) (h:=bc 11 rfl sH ar (h:=bc 12 rfl sH ar (h:=bc 13 rfl sH cI (h:=bc 14 rfl sH aA (h:=bQ 15 rfl sH (aP 0) (h:=T' 16 rfl sH (bW rfl rfl) ?_))))))
 obtain⟨⟨d,j,o,p,s⟩,H⟩:=aO H
 refine t' (.slice (dj af n6 (i64.wrap (n6 + p0.f0.f0)) 15) ((i64.wrap (n6 + p0.f0.f0)) - n6).toNat ((i64.wrap (n6 + p0.f0.f0)).toNat - n6.toNat)) 17 rfl sH (dq (l:=0) (m:=(p0.f0.f2.length : Int)) (a:=n6) (b:=i64.wrap (n6 + p0.f0.f0)) (q:=i64.wrap (n6 + p0.f0.f0)) (eu.whole (A:=af) (sz:=15) (xs:=p0.f0.f2) (c:=ag) (by omega)) Tryz.underlying24 cl rfl rfl rfl rfl (.inr ⟨_,rfl⟩) (.inr ⟨_,rfl⟩) (.inr ⟨⟨_,rfl⟩,⟨_,rfl⟩,p,s⟩) d j o) ?_
 have u : eu af (dj af n6 (i64.wrap (n6 + p0.f0.f0)) 15) 15 (0 + n6) ((i64.wrap (n6 + p0.f0.f0)) - n6) ((i64.wrap (n6 + p0.f0.f0)).toNat - n6.toNat):=eu.sub (eu.whole (A:=af) (sz:=15) (xs:=p0.f0.f2) (c:=ag) (by omega)) d j o (.inr p) (Int.le_trans s ((eu.whole (A:=af) (sz:=15) (xs:=p0.f0.f2) (c:=ag) (by omega))).cap)
 refine kV (.slice (dj af n6 (i64.wrap (n6 + p0.f0.f0)) 15) ((i64.wrap (n6 + p0.f0.f0)) - n6).toNat ((i64.wrap (n6 + p0.f0.f0)).toNat - n6.toNat)) 18 rfl sH rN (h:=aV dd sH (aI (by kernel_rfl) (aa (fm ?_))))
 have h:=aN H;subst h
 exact dX [0,1,2,3,4] ⟨dj af n6 (i64.wrap (n6 + p0.f0.f0)) 15,(i64.wrap (n6 + p0.f0.f0)).toNat - n6.toNat,u,rfl,rfl⟩


def ef.f (p0 : aJ) : Option ((Int × Int)):=(eb.f p0 p0.f1).bind (fun a=>if (0 ≤ a.1∧0 ≤ a.2∧a.1 + a.2 ≤ (p0.f0.f2.length : Int)) then (some (((a.1 : Int),(a.2 : Int)))) else none)
theorem ef.ok {p0 : aJ} {r : (Int × Int)} (H : ef.f p0 = some r) : dk Tryz.prog 121 #[.agg #[.pointer (some ⟨bg,0,none⟩)]] (cN bg p0 af ag ay az au av aw ax) (fun v B=>∃ (V0_ : Option Addr) (v0_ : Nat) (_ : eu af V0_ 15 r.1 r.2 v0_),v = .slice V0_ r.2.toNat v0_∧B = (cN bg p0 af ag ay az au av aw ax)):=by
 refine aj Tryz.func121 rfl rfl ?_
 unfold ef.f at H
 refine aR (o' (bO (h:=fun q=>ad aW (h:=bA (ao (bM 1 fun o=>bM 2 fun p=>bM 3 fun j=>bM 4 fun l=>?_))))))
 refine fj (dt 0 9) [0,5] (dt 1 4) fun _ _ _ _ _ sH dd pk=>?_
 refine bc 0 rfl sH aA (h:=bQ 1 rfl sH (aP 1) (h:=bc 2 rfl sH cI (h:=bc 3 rfl sH aA (h:=bc 4 rfl sH aA (h:=bQ 5 rfl sH (aP 1) (h:=bc 6 rfl sH cI (h:=bc 7 rfl sH aA (h:=bQ 8 rfl sH (aP 0) (h:=aV dd sH ?_)))))))))
 obtain⟨m,b,H⟩:=ac H
 obtain⟨⟨hl556a,hl556b,hl556c⟩,H⟩:=aO H
 refine eC 9 rfl (ms [0,2,3,4,5] [1] (eb.ok (bg:=bg) b) ?_)
 rintro _ _⟨c,d,a,rfl,rfl⟩
 refine ca 10 rfl aW (h:=aI (by kernel_rfl) (aa (fm ?_)))
 have h:=aN H;subst h
 exact dX [0,1,2,3,4] ⟨c,d,a,rfl,rfl⟩


def ml.l0 (a0 : aY) (a1 : Int) : Nat → aY → Int → Option (aY)
  | 0,_,_=>none
  | k + 1,b,a=>if a < 3 then (if 0 ≤ a∧a < (3 : Int) then (lt (rd ([a0.f1.f0,a0.f1.f1,a0.f1.f2] : List Int) a) fun n21=>if n21 = 0 then (if 0 ≤ a∧a < (3 : Int) then (some (aY.mk b.f0 (fX.mk (if a = 0 then a1 else b.f1.f0) (if a = 1 then a1 else b.f1.f1) (if a = 2 then a1 else b.f1.f2)) b.f2 b.f3)) else none) else (ml.l0 a0 a1 k b (i64.wrap (a + 1)))) else none) else (some b)
def ml.f (k : Nat) (a0 : aY) (a1 : Int) : Option (aY):=(lW.f k a1).bind (fun d=>lt ((decide (d ≠ 0)) || (decide (a0.f2 = 0))) fun b=>lt (b || (decide (a0.f2 > 2))) fun c=>if c = true then (some (a0)) else ((ml.l0 a0 a1 k a0 0 : Option (aY)).bind (fun a=>some (a))))
theorem ml.ok {a0 : aY} {a1 : Int} {r : aY} (H : ml.f k a0 a1 = some r) : fS Tryz.prog 151 #[.agg (bV a0).toArray,aL a1] [] (.agg (bV r).toArray):=by
 refine aj Tryz.func151 rfl rfl ?_
 unfold ml.f at H
 refine aR (o' (bO (h:=fun s=>o' (cw (h:=fun l=>eD (S' ar ?_))))))
 obtain⟨r5,O,H⟩:=ac H
 refine o' (dc [] [0,1] (lW.ok O) ?_)
 refine ad (dK rfl rfl) (h:=S' ar ?_)
 obtain⟨Z,L,H⟩:=bj H
 refine dy 4 [(1,aL a1),(2,aH s),(4,aH l),(14,.bool Z)] [aK s 55 (bV a0),aK l 55 (bV lC)] ?_ fun junk=>?_
 ·by_cases p : r5 ≠ 0
  ·refine cu 3 (ai p) (cd (ai p) (h:=ah ?_))
   have x_:=ji L ((ai p));exact bK [0,1]
  refine bf (am p) aA (h:=cE (am p) (aP 0) (h:=bf (am p) (bk rfl rfl) (h:=ck (am p) (h:=ah ?_))))
  have x_:=jh L ((am p));exact bK [0,1]
 refine S' ar ?_
 obtain⟨q9,M,H⟩:=bj H
 refine cK 4 (St [(1,aL a1),(2,aH s),(4,aH l),(19,.bool q9)] [aK s 55 (bV a0),aK l 55 (bV lC)]) ?_ ?_
 ·by_cases j : Z = true
  ·refine cu 3 j (cd j (h:=ah ?_))
   have x_:=ji M j;exact bK [0,1]
  refine bf (aM j) aA (h:=cE (aM j) (aP 0) (h:=bf (aM j) (eK rfl rfl) (h:=ck (aM j) (h:=ah ?_))))
  have x_:=jh M ((aM j));exact bK [0,1]
 rintro e ds As I
 refine bA (SA.of_St I fun junk=>?_)
 rcases bE H with⟨z,H⟩|⟨z,H⟩
 ·refine aD rfl z (aR (bp (cm 0) (h:=o' (bi l 0 1 (bV a0) (h:=cD ?_)))))
  have h:=aN H;subst h
  exact gi (rs:=[.cell 4 55]) (vs:=[.agg (bV a0).toArray]) [] rfl ⟨RV.cell (k:=1) rfl rfl Tryz.underlying55 rfl cl,trivial⟩ rfl (eZ []) ⟨rfl,rfl⟩
 refine aE rfl z (ap (aa (ao (aR (ad aA (h:=bp (cz s 1 0 [aL a0.f1.f0,aL a0.f1.f1,aL a0.f1.f2]) (h:=ad ar (h:=bA ?_))))))))
 obtain⟨q,H,u⟩:=ac H
 refine bI (fun e ds As=>∃ (y : Nat),St [(2,aH y),(4,aH l)] [aK y 55 (bV q),aK l 55 (bV lC)] e ds As) ?_ ?_
 ·refine aQ (cj (fun k_ e ds As=>∃ (c : aY) (a : Int),∃ (d : Nat),ml.l0 a0 a1 k_ c a = some q∧St [(1,aL a1),(2,aH d),(4,aH l),(22,.agg #[aL a0.f1.f0,aL a0.f1.f1,aL a0.f1.f2]),(23,ae a)] [aK d 55 (bV c),aK l 55 (bV lC)] e ds As) (k:=k) ⟨_,_,s,H,jV [0,1]⟩ ?_)
  clear H
  rintro F e ds As ⟨c,a,d,H,J⟩
  obtain _ | F:=F
  ·cases H
  rw [ml.l0] at H
  refine SA.of_St J fun junk=>aR (ad (ce rfl rfl) (h:=bA (ao ?_)))
  rcases bE H with⟨D,H⟩|⟨D,H⟩
  ·refine aC rfl D (ap (aa (ao (aQ (aR (S' ar ?_))))))
   obtain⟨⟨R,S⟩,H⟩:=aO H
   refine s' (aL (rd ([a0.f1.f0,a0.f1.f1,a0.f1.f2] : List Int) a)) (oD (kd:=(Kd.int .i32)) (i:=a) (cs:=[aL a0.f1.f0,aL a0.f1.f1,aL a0.f1.f2]) (xs:=([a0.f1.f0,a0.f1.f1,a0.f1.f2] : List Int)) (v:=aL (rd ([a0.f1.f0,a0.f1.f1,a0.f1.f2] : List Int) a)) Tryz.underlying53 iB Tryz.underlying21 rfl rfl rfl (dO (fun x_ : Int=>[Value.int .i32 x_]) (fun _ _=>rfl) (by kernel_rfl) _) rfl rfl R S (fun _ h_=>by rw [h_]; rfl)) ?_
   refine S' aW ?_
   obtain⟨n21,N,H⟩:=bj H
   refine bP (aL n21) (bo (v:=aL n21) (congrArg (Value.int .i32) N.symm)) (h:=cP (ad ar (h:=ad (bk rfl rfl) (h:=bA ?_))))
   rcases bE H with⟨E,H⟩|⟨E,H⟩
   ·refine aC rfl E (aR (ad ar (h:=ad ar (h:=S' aA ?_))))
    obtain⟨⟨U,Y⟩,H⟩:=aO H
    refine s' (.pointer (some ((⟨d,0,none⟩ : Addr).add (1 + a.toNat * 1 + 0)))) (gn (B:=⟨d,0,none⟩) (m:=1) (o:=1 + a.toNat * 1 + 0) Tryz.underlying53 iB rfl rfl U Y rfl) ?_
    refine o' (oC (b:=d) (m:=1 + a.toNat * 1 + 0) (k:=0) (vs:=[aL a1]) (cs':=(bV (aY.mk c.f0 (fX.mk (if a = 0 then a1 else c.f1.f0) (if a = 1 then a1 else c.f1.f1) (if a = 2 then a1 else c.f1.f2)) c.f2 c.f3))) rfl rfl rfl rfl rfl rfl iB (by show 1 + a.toNat * 1 + 0 + 1 ≤ 15; omega) (by rcases (show a = 0 ∨ a = 1 ∨ a = 2 by omega) with h_ | h_ | h_ <;> (rewrite [h_]; kernel_rfl)) ?_)
    refine bA (cf (tH rfl (aX (aX (cg ?_)))))
    have h:=aN H;subst h
    exact aa ⟨d,dZ [0,1]⟩
   refine aB rfl E (ap (aF (aa (ak (ad (bW rfl rfl) (h:=ad ar (h:=ah ?_)))))))
   exact aa ⟨F,Nat.lt_succ_self _,_,_,d,H,dZ [0,1]⟩
  refine aB rfl D (cf (aX (aX (cg ?_))))
  have h:=aN H;subst h
  exact aa ⟨d,dZ [0,1]⟩
 rintro e ds As ⟨y,K⟩
 clear H
 have H:=u
 clear u
 refine aa (SA.of_St K fun junk=>aR (bp (cm 0) (h:=o' (bi l 0 1 (bV q) (h:=cC ?_)))))
 have h:=aN H;subst h
 exact gi (rs:=[.cell 4 55]) (vs:=[.agg (bV q).toArray]) [] rfl ⟨RV.cell (k:=1) rfl rfl Tryz.underlying55 rfl cl,trivial⟩ rfl (eZ []) ⟨rfl,rfl⟩


def im.f (k : Nat) (p0 : aJ) (a1 : Int) : Option (aJ):=(if (!p0.f3) = true then (lt (i64.wrap (p0.f2 - 1)) fun n10=>some n10) else (some p0.f2) : Option (Int)).bind (fun c=>if c < 0 then (some (p0)) else ((ef.f p0).bind (fun a=>if (0 ≤ a.1∧0 ≤ a.2∧a.1 + a.2 ≤ (p0.f0.f2.length : Int)) then (if 0 ≤ c∧c < a.2 then ((if ((rd p0.f0.f2 (a.1 + c)).f2) = 0 then (lt (i64.wrap (c - 1)) fun n28=>some n28) else (some c) : Option (Int)).bind (fun b=>if 0 ≤ b∧b < a.2 then ((ml.f k (rd p0.f0.f2 (a.1 + b)) a1).bind (fun d=>if 0 ≤ b∧b < a.2 then (lt (p0.f0.f2.set (a.1 + b).toNat d) fun n39=>(some (({ p0 with f0:=(bH.mk p0.f0.f0 p0.f0.f1 n39) })))) else none)) else none)) else none) else none)))
theorem im.ok {p0 : aJ} {a1 : Int} {r : aJ} (H : im.f k p0 a1 = some r) : dk Tryz.prog 118 #[.agg #[.pointer (some ⟨bg,0,none⟩)],aL a1] (cN bg p0 af ag ay az au av aw ax) (fun v B=>∃ P0_0_ q0_0_ P0_1_ q0_1_ P0_2_ q0_2_ P0_3_ q0_3_,v = .tuple #[]∧B = (cN bg r P0_0_ q0_0_ P0_1_ q0_1_ P0_2_ q0_2_ P0_3_ q0_3_)):=by
 refine aj Tryz.func118 rfl rfl ?_
 unfold im.f at H
 refine aR (o' (bO (h:=fun E=>cP (ad aA (h:=bp (aP 5) (h:=ad cI (h:=ad aA (h:=bp (aP 0) (h:=ad aW (h:=eD ?_))))))))))
 refine ad aA (h:=bp (aP 5) (h:=ad cI (h:=ad aA (h:=bp (aP 0) (h:=ad (bX rfl) (h:=bA ?_))))))
 obtain⟨c,H,z⟩:=ac H
 refine bI (St [(1,aL a1),(2,aH E),(4,ae c)] (aK bg 34 (al p0 af ag ay az au av aw ax)::(bn p0 af ag ay az au av aw ax++[aK E 84 [aH bg]]))) ?_ ?_
 ·rcases bE H with⟨F,H⟩|⟨F,H⟩
  ·refine aD rfl F (ak (ad ar (h:=S' (cT rfl rfl) ?_)))
   obtain⟨n10,I,H⟩:=bj H
   refine bP (ae n10) (bo (v:=ae n10) (congrArg (Value.int .i64) I.symm)) (h:=ah ?_)
   have h:=aN H;subst h
   exact bK [0,1,2,3,4,5]
  refine aE rfl F (ap ?_)
  have h:=aN H;subst h
  exact bK [0,1,2,3,4,5]
 rintro e ds As u
 clear H
 have H:=z
 clear z
 refine aa (SA.of_St u fun junk=>ao (aR (ad ar (h:=ad (ce rfl rfl) (h:=bA ?_)))))
 rcases bE H with⟨p,H⟩|⟨p,H⟩
 ·refine aC rfl p (fm (aG ?_))
  have h:=aN H;subst h
  exact kR (cN bg p0 af ag ay az au av aw ax) rfl (eZ [0,1,2,3,4]) ⟨af,ag,ay,az,au,av,aw,ax,rfl,rfl⟩
 refine aB rfl p (ap (aa (ao (bM 1 fun a7=>bM 2 fun a8=>bM 3 fun a9=>bM 4 fun b0=>ak (l' (cz E 0 5 [aH bg]) ?_)))))
 obtain⟨a,L,H⟩:=ac H
 obtain⟨⟨hl21a,hl21b,hl21c⟩,H⟩:=aO H
 refine o' (ms [0,1,2,3,4] [5] (ef.ok (bg:=bg) L) ?_)
 rintro _ _⟨M,a6,d,rfl,rfl⟩
 refine ad aW (h:=eD (ad ar (h:=S' ar ?_)))
 obtain⟨⟨N,O⟩,H⟩:=aO H
 have R : 0 ≤ a.1 + c:=by omega
 have S : a.1 + c < (p0.f0.f2.length : Int):=by omega
 refine bp (eN (l:=a.1) (m:=a.2) (i:=c) (sz:=15) d Tryz.underlying116 cl rfl rfl (Src.buf (k:=1) rfl) N O (by omega)) (h:=bP (.pointer (some ((el af ((a.1 + c).toNat * 15)).add 4))) (lp (el af ((a.1 + c).toNat * 15)) 0 4) (h:=bp (bJ (enc:=cZ) (i:=a.1 + c) (j:=(a.1 + c).toNat * 15) (m:=4) (sz:=15) Tryz.underlying5 rfl rfl rfl rfl (Src.buf (k:=1) rfl) R S (fun _ _ h=>h) rfl) (h:=ad (bk rfl rfl) (h:=bA ?_))))
 obtain⟨b,H,o⟩:=ac H
 refine bI (St [(1,aL a1),(4,ae b),(5,.slice M a.2.toNat a6)] (cN bg p0 af ag ay az au av aw ax)) ?_ ?_
 ·rcases bE H with⟨q,H⟩|⟨q,H⟩
  ·refine aC rfl q (ak (ad ar (h:=S' (cT rfl rfl) ?_)))
   obtain⟨n28,J,H⟩:=bj H
   refine bP (ae n28) (bo (v:=ae n28) (congrArg (Value.int .i64) J.symm)) (h:=ah ?_)
   have h:=aN H;subst h
   exact bK [0,1,2,3,4]
  refine aB rfl q (ap ?_)
  have h:=aN H;subst h
  exact bK [0,1,2,3,4]
 rintro e ds As y
 clear H
 have H:=o
 clear o
 refine aa (SA.of_St y fun junk=>ak (ad ar (h:=ad ar (h:=ad ar (h:=S' ar ?_)))))
 obtain⟨⟨U,Y⟩,H⟩:=aO H
 have Z : 0 ≤ a.1 + b:=by omega
 have a0 : a.1 + b < (p0.f0.f2.length : Int):=by omega
 refine bp (eN (l:=a.1) (m:=a.2) (i:=b) (sz:=15) d Tryz.underlying116 cl rfl rfl (Src.buf (k:=1) rfl) U Y (by omega)) (h:=bp (ci (enc:=cZ) (i:=a.1 + b) (j:=(a.1 + b).toNat * 15) (m:=0) (sz:=15) (vs:=(bV (aY.mk ((rd p0.f0.f2 (a.1 + b)).f0) ((rd p0.f0.f2 (a.1 + b)).f1) ((rd p0.f0.f2 (a.1 + b)).f2) ((rd p0.f0.f2 (a.1 + b)).f3)))) Tryz.underlying55 rfl cl rfl rfl rfl (Src.buf (k:=1) rfl) Z a0 (fun _ _ h=>h) rfl) (h:=S' ar ?_))
 obtain⟨D,K,H⟩:=ac H
 refine o' (dc [] [0,1,2,3,4] (ml.ok K) ?_)
 obtain⟨⟨a2,a3⟩,H⟩:=aO H
 have a4 : 0 ≤ a.1 + b:=by omega
 have a5 : a.1 + b < (p0.f0.f2.length : Int):=by omega
 refine l' (eN (l:=a.1) (m:=a.2) (i:=b) (sz:=15) d Tryz.underlying116 cl rfl rfl (Src.buf (k:=1) rfl) a2 a3 (by omega)) ?_
 obtain⟨n39,s,H⟩:=bj H
 have hl_n39 : n39.length = p0.f0.f2.length:=by rw [s]; exact List.length_set
 refine o' (fW (k:=1) (i:=a.1 + b) (j:=(a.1 + b).toNat * 15) (m:=0) (sz:=15) (xs:=p0.f0.f2) (vs:=(bV D)) D rfl rfl rfl rfl rfl rfl rfl rfl cl a4 a5 rfl (fun _ _ h_=>by subst h_; rfl) ?_)
 rewrite [← s]
 try unfold cN
 try unfold fc
 try unfold al
 try rewrite [← hl_n39]
 refine ah ?_
 have h:=aN H;subst h
 exact fG [0,1,2,3,4] ⟨af,ag,ay,az,au,av,aw,ax,rfl,rfl⟩


def eY.l0 (l0 : (List aY)) (o0 : Int) (n0 : Int) (r4 : aY) : Nat → Int → (List aY) → Option ((List aY))
  | 0,_,_=>none
  | k + 1,a,b=>if b.length = l0.length then (if a < n0 then (if 0 ≤ a∧a < n0 then (lt (b.set (o0 + a).toNat r4) fun n15=>(eY.l0 l0 o0 n0 r4 k (i64.wrap (a + 1)) n15)) else none) else (some b)) else none
def eY.f (k : Nat) (l0 : (List aY)) (o0 : Int) (n0 : Int) (a1 : cM) : Option ((List aY)):=if 0 ≤ o0∧0 ≤ n0∧o0 + n0 ≤ (l0.length : Int) then ((nA.f a1).bind (fun b=>(eY.l0 l0 o0 n0 b k 0 l0 : Option ((List aY))).bind (fun a=>if a.length = l0.length then (some (a)) else none))) else none
theorem eY.ok {l0 : (List aY)} {o0 : Int} {n0 : Int} {a1 : cM} {A0 V0 : Option Addr} {c0 v0 : Nat} (hw0 : eu A0 V0 15 o0 n0 v0) {r : (List aY)} (H : eY.f k l0 o0 n0 a1 = some r) : dk Tryz.prog 116 #[.slice V0 n0.toNat v0,.agg (bF a1).toArray] [Buf bD 55 A0 c0 l0] (fun v B=>v = .tuple #[]∧B = [Buf bD 55 A0 c0 r]):=by
 refine aj Tryz.func116 rfl rfl ?_
 unfold eY.f at H
 obtain⟨⟨M,N,O⟩,H⟩:=aO H
 have hcv_hw0:=hw0.cap
 refine aR (o' (bO (h:=fun R=>cP (l' (cm 1) ?_))))
 obtain⟨o,D,H⟩:=ac H
 refine o' (dc [] [0,1] (nA.ok D) ?_)
 refine o' (cw (h:=fun s=>o' (bi s 0 2 (bV o) (h:=cP (ad ar (h:=bP (ae n0) (jR hw0 Tryz.underlying24 rfl) (h:=ad ar (h:=bA ?_))))))))
 obtain⟨z,H,q⟩:=ac H
 refine bI (St [] [Buf bD 55 A0 c0 z]) ?_ ?_
 ·refine aQ (cj (fun k_ e ds As=>∃ (b : Int) (a : (List aY)),eY.l0 l0 o0 n0 o k_ b a = some z∧St [(0,.slice V0 n0.toNat v0),(4,aH s),(9,ae n0),(10,ae b)] [Buf bD 55 A0 c0 a,aK s 55 (bV o)] e ds As) (k:=k) ⟨_,_,H,jV [0,2]⟩ ?_)
  clear H
  rintro y e ds As ⟨b,a,H,u⟩
  obtain _ | y:=y
  ·cases H
  rw [eY.l0] at H
  obtain⟨K,H⟩:=aO H
  refine SA.of_St u fun junk=>aR (ad (ce rfl rfl) (h:=bA (ao ?_)))
  rcases bE H with⟨c,H⟩|⟨c,H⟩
  ·refine aC rfl c (ap (aa (ao (aQ (aR (ad ar (h:=ad aW (h:=bA (ak (ad ar (h:=ad ar (h:=l' (cm 1) ?_))))))))))))
   obtain⟨⟨E,F⟩,H⟩:=aO H
   have I : 0 ≤ o0 + b:=by omega
   have J : o0 + b < (a.length : Int):=by omega
   refine l' (eN (l:=o0) (m:=n0) (i:=b) (sz:=15) hw0 Tryz.underlying24 cl rfl rfl (Src.buf (k:=0) rfl) E F (by omega)) ?_
   obtain⟨n15,d,H⟩:=bj H
   have hl_n15 : n15.length = a.length:=by rw [d]; exact List.length_set
   refine o' (fW (k:=0) (i:=o0 + b) (j:=(o0 + b).toNat * 15) (m:=0) (sz:=15) (xs:=a) (vs:=(bV o)) o rfl rfl rfl rfl rfl rfl rfl rfl cl I J rfl (fun _ _ h_=>by subst h_; rfl) ?_)
   rewrite [← d]
   try unfold bF
   try rewrite [← hl_n15]
   refine ah (aF (aa (ak (ad (bW rfl rfl) (h:=ad ar (h:=ah ?_))))))
   exact aa ⟨y,Nat.lt_succ_self _,_,_,H,dZ [0,1]⟩
  refine aB rfl c (cf (aX (aX (cg ?_))))
  have h:=aN H;subst h
  exact bK [0]
 rintro e ds As p
 clear H
 have H:=q
 clear q
 obtain⟨L,H⟩:=aO H
 have h:=aN H;subst h
 exact nz p [Buf bD 55 A0 c0 z] rfl (eZ [0]) ⟨rfl,rfl⟩

end Go.Proofs.YtckilbegmbaeeaaGreat.Z6

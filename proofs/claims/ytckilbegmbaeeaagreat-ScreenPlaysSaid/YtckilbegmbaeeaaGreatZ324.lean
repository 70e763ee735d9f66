/- What functions compute, and that they do: 40b0. -/
import Derived.Test.YtckilbegmbaeeaaGreatZ321
import Derived.Test.YtckilbegmbaeeaaGreatZ323
namespace Go.Proofs.YtckilbegmbaeeaaGreat.Z3
open Go Go.RowKit Go.Proofs.YtckilbegmbaeeaaGreat.SL
open Go.IntKind (i64)
set_option linter.unusedVariables false
set_option maxHeartbeats 20000000
set_option maxRecDepth 100000
set_option linter.unusedSimpArgs false
attribute [local irreducible] IntKind.wrap cC dO eX gp gl lH fU cN gm rd sub bytesOf eG cL
variable {af ay ar au k : Nat}
variable {ag az aw av : Option Addr}
def nJ.f (k : Nat) (a0 : aG) (a1 : Int) : Option (aG × Int):=(eN.f k a0).bind (fun a=>if (!a.2) = true then (some ((a.1,2))) else ((rt.f k a1).bind (fun d=>if d < 0 then (some ((a.1,0))) else (if d = 0 then ((lW.f k a.1 a1).bind (fun q=>some ((q,0)))) else (lt (a.1.f3 && a.1.f8) fun r=>(if r = true then ((im.f k (aG.mk a.1.f0 a.1.f1 0 a.1.f3 a.1.f4 a.1.f5 a.1.f6 a.1.f7 a.1.f8 a.1.f9 a.1.f10 a.1.f11 a.1.f12 a.1.f13 a.1.f14 a.1.f15 a.1.f16 a.1.f17)).bind (fun s=>some s)) else (some a.1) : Option (aG)).bind (fun h=>lt (i64.wrap (h.f0.f0 - 1)) fun n85=>lt ((decide (d = 2)) && (decide (h.f2 = n85))) fun u=>(if u = true then (lt ((!h.f8) || (decide (n85 = 0))) fun l=>if l = true then (some (Out.ret ((({ h with f3:=false }),0)))) else ((im.f k ({ h with f2:=0,f3:=false })).bind (fun m=>some (Out.go (m,(aG.mk (bF.mk 0 0 ([] : (List aZ))) 0 0 false (cA.mk 0 0 false false false false false false false false) 0 0 ([] : (List Int)) false false false false false false (dq.mk 0 0 false false (cA.mk 0 0 false false false false false false false false)) false (bF.mk 0 0 ([] : (List aZ))) ([] : (List Int)))))))) else (some (Out.go (({ h with f3:=false }),(aG.mk (bF.mk 0 0 ([] : (List aZ))) 0 0 false (cA.mk 0 0 false false false false false false false false) 0 0 ([] : (List Int)) false false false false false false (dq.mk 0 0 false false (cA.mk 0 0 false false false false false false false false)) false (bF.mk 0 0 ([] : (List aZ))) ([] : (List Int)))))) : Option (Out (aG × Int) (aG × aG))).bind (fun y=>Out.el y (fun r_=>some r_) (fun b=>(if b.1.f10 = true then ((fx.f k b.1.f0 b.1.f1 b.1.f2 d b.1.f4).bind (fun o=>some (aG.mk o.1 b.1.f1 b.1.f2 b.1.f3 b.1.f4 b.1.f5 b.1.f6 b.1.f7 b.1.f8 b.1.f9 b.1.f10 b.1.f11 b.1.f12 b.1.f13 b.1.f14 b.1.f15 b.1.f16 b.1.f17))) else (some b.1) : Option (aG)).bind (fun c=>(qe.f k a1 c.f4).bind (fun p=>(eL.f k c.f0 c.f1 c.f2 c.f4 p).bind (fun j=>if (i64.wrap (c.f2 + d)) > n85 then (some ((({ c with f0:=j.1,f2:=n85,f3:=true }),0))) else (some ((({ c with f0:=j.1,f2:=(i64.wrap (c.f2 + d)) }),0))))))))))))))
theorem nJ.ok {a0 : aG} {a1 : Int} {r : aG × Int} (H : nJ.f k a0 a1 = some r) : df Tryz.prog 40 #[.agg (al a0 ag af az ay aw ar av au).toArray,aJ a1] (aS a0 ag af az ay aw ar av au) (fun v B=>∃ aP aO bA bv bq bp bB bw,v = .tuple #[.agg (al r.1 aP aO bA bv bq bp bB bw).toArray,ae r.2]∧B = (aS r.1 aP aO bA bv bq bp bB bw++aS a0 ag af az ay aw ar av au)):=by
 refine ai Tryz.func40 rfl rfl ?_
 unfold nJ.f at H
 refine aQ (o' (bN (h:=fun b5=>o' (cy (h:=fun b7=>ad aV (h:=bC (ao (bj 0 fun o6=>bj 1 fun m8=>bj 2 fun m9=>bj 3 fun n0=>ah ?_))))))))
 refine l' (ck 4) ?_
 obtain⟨c9,g3,H⟩:=ac H
 refine o' (dN [0,1,2,3] [4,5] (eN.ok g3) fun a9 b0 b1 b2 b3 b4 b6 b8=>?_)
 refine ad ax (h:=ad cg (h:=ad cg (h:=o' (bg b5 0 8 (al c9.1 a9 b0 b1 b2 b3 b4 b6 b8) (h:=ad aV (h:=eJ (ad ax (h:=ad (ca rfl) (h:=bC ?_)))))))))
 rcases bH H with⟨e4,H⟩|⟨e4,H⟩
 ·refine aC rfl e4 (aQ (bD (ck 8) (h:=o' (bg b7 0 9 (al c9.1 a9 b0 b1 b2 b3 b4 b6 b8) (h:=ad aV (h:=cE ?_))))))
  have h:=aN H;subst h
  exact dt [.cell 4 34,.tmp 5] [0,1,2,3,4,5,6,7] ⟨a9,b0,b1,b2,b3,b4,b6,b8,rfl,rfl⟩ ⟨cR 9,cP,trivial⟩
 refine aD rfl e4 (ap (aa (aQ (S' ax ?_))))
 obtain⟨E,g4,H⟩:=ac H
 refine o' (da [] [0,1,2,3,4,5,6,7,8,9] (rt.ok g4) ?_)
 refine ad aV (h:=eJ (ad ax (h:=ad (cn rfl rfl) (h:=bC ?_))))
 rcases bH H with⟨e5,H⟩|⟨e5,H⟩
 ·refine aB rfl e5 (aQ (bD (ck 8) (h:=o' (bg b7 0 9 (al c9.1 a9 b0 b1 b2 b3 b4 b6 b8) (h:=ad aV (h:=cE ?_))))))
  have h:=aN H;subst h
  exact dt [.cell 4 34,.tmp 5] [0,1,2,3,4,5,6,7] ⟨a9,b0,b1,b2,b3,b4,b6,b8,rfl,rfl⟩ ⟨cR 9,cP,trivial⟩
 refine aA rfl e5 (ap (aa (ao (aQ (ad ax (h:=ad (bk rfl rfl) (h:=bC ?_)))))))
 rcases bH H with⟨e6,H⟩|⟨e6,H⟩
 ·refine aB rfl e6 (ao (bj 0 fun n1=>bj 1 fun n2=>bj 2 fun n3=>bj 3 fun o0=>ah (S' ax ?_)))
  obtain⟨j4,j5,H⟩:=ac H
  refine o' (dN [8,0,1,2,3] [4,5,6,7,9] (lW.ok (ba:=b5) j5) fun g8 g9 h0 h1 h3 h4 h5 h6=>?_)
  refine cV (bD (ck 0) (h:=o' (bg b7 0 9 (al j4 g8 g9 h0 h1 h3 h4 h5 h6) (h:=ad aV (h:=cE ?_)))))
  have h:=aN H;subst h
  exact dt [.cell 4 34,.tmp 5] [1,2,3,4,5,6,7,8] ⟨g8,g9,h0,h1,h3,h4,h5,h6,rfl,rfl⟩ ⟨cR 9,cP,trivial⟩
 refine aA rfl e6 (ap (aa (ao (aQ (ad aE (h:=bD (aT 8) (h:=S' ax ?_)))))))
 obtain⟨j6,e7,H⟩:=br H
 refine cD 3 (St [(1,aJ a1),(2,aK b5),(4,aK b7),(7,ae E),(32,.bool j6)] (aS a0 ag af az ay aw ar av au++(aL b5 34 (al c9.1 a9 b0 b1 b2 b3 b4 b6 b8)::(aS c9.1 a9 b0 b1 b2 b3 b4 b6 b8++[aL b7 34 (al cx none 0 none 0 none 0 none 0)])))) ?_ ?_
 ·by_cases b9 : c9.1.f3 = true
  ·refine bn b9 aE (h:=dc b9 (aT 8) (h:=cq b9 (h:=aj ?_)))
   have x_:=gD e7 b9;exact bM [4,5,6,7,8,0,1,2,3,9]
  refine cI 2 (aX b9) (cv (aX b9) (h:=aj ?_))
  have x_:=gC e7 ((aX b9));exact bM [4,5,6,7,8,0,1,2,3,9]
 rintro e ds As g5
 refine bC (SA.of_St g5 fun junk=>?_)
 obtain⟨a7,H,e8⟩:=ac H
 refine bI (fun e ds As=>∃ (R : Nat),∃ (S : Option Addr) (U : Nat),∃ (Y : Option Addr) (Z : Nat),∃ (a2 : Option Addr) (a3 : Nat),∃ (a4 : Option Addr) (a5 : Nat),St [(1,aJ a1),(2,aK R),(4,aK b7),(7,ae E)] (aL R 34 (al a7 S U Y Z a2 a3 a4 a5)::(aS a7 S U Y Z a2 a3 a4 a5++(aS a0 ag af az ay aw ar av au++[aL b7 34 (al cx none 0 none 0 none 0 none 0)]))) e ds As) ?_ ?_
 ·rcases bH H with⟨e9,H⟩|⟨e9,H⟩
  ·refine aC rfl e9 (aQ (ad aE (h:=o' (cH 4 [ae 0] (h:=(bC (bj 5 fun o1=>bj 6 fun o2=>bj 7 fun o3=>bj 8 fun o4=>ah ?_)))))))
   obtain⟨o7,j7,H⟩:=ac H
   refine o' (dN [4,5,6,7,8] [0,1,2,3,9] (im.ok (ba:=b5) j7) fun j8 j9 k0 k1 k2 k3 k4 k5=>?_)
   refine aj ?_
   have h:=aN H;subst h
   exact aa ⟨b5,j8,j9,k0,k1,k2,k3,k4,k5,ed [0,1,2,3,4,5,6,7,8,9]⟩
  refine aD rfl e9 (ap ?_)
  have h:=aN H;subst h
  exact aa ⟨b5,a9,b0,b1,b2,b3,b4,b6,b8,ed [4,5,6,7,8,0,1,2,3,9]⟩
 rintro e ds As ⟨R,S,U,Y,Z,a2,a3,a4,a5,g6⟩
 clear H
 have H:=e8
 clear e8
 refine aa (SA.of_St g6 fun junk=>aQ (ad aE (h:=o' (cH 0 [.bool false] (h:=(cV (ad aE (h:=ad aE (h:=bD (aT 0) (h:=S' (cY rfl rfl) ?_))))))))))
 obtain⟨n85,h7,H⟩:=br H
 refine bO (ae n85) (bz (v:=ae n85) (congrArg (Value.int .i64) h7.symm)) (h:=eJ (ad ax (h:=ad (bk rfl rfl) (h:=S' ax ?_))))
 obtain⟨k6,f5,H⟩:=br H
 refine cD 5 (St [(1,aJ a1),(2,aK R),(4,aK b7),(7,ae E),(8,ae n85),(47,.bool k6)] (aS a0 ag af az ay aw ar av au++(aL R 34 (al ({ a7 with f3:=false }) S U Y Z a2 a3 a4 a5)::(aS a7 S U Y Z a2 a3 a4 a5++[aL b7 34 (al cx none 0 none 0 none 0 none 0)])))) ?_ ?_
 ·by_cases a8 : E = 2
  ·refine bn (ak a8) aE (h:=dc (ak a8) (aT 0) (h:=bn (ak a8) ax (h:=bn (ak a8) (bk rfl rfl) (h:=cq (ak a8) (h:=aj ?_)))))
   have x_:=gD f5 ((ak a8));exact bM [5,6,7,8,0,1,2,3,4,9]
  refine cI 4 (am a8) (cv (am a8) (h:=aj ?_))
  have x_:=gC f5 ((am a8));exact bM [5,6,7,8,0,1,2,3,4,9]
 rintro e ds As g7
 refine bC (SA.of_St g7 fun junk=>?_)
 obtain⟨k7,H,c5⟩:=ac H
 refine bI (fun e ds As=>∃ (c : aG × aG),k7 = Out.go c∧∃ (c6 : Nat),∃ (d2 : Option Addr) (d3 : Nat),∃ (d4 : Option Addr) (d5 : Nat),∃ (d6 : Option Addr) (d7 : Nat),∃ (c7 : Option Addr) (c8 : Nat),∃ (y : Nat),∃ (F : Option Addr) (I : Nat),∃ (J : Option Addr) (K : Nat),∃ (L : Option Addr) (M : Nat),∃ (N : Option Addr) (O : Nat),St [(1,aJ a1),(2,aK c6),(4,aK y),(7,ae E),(8,ae n85)] (aL c6 34 (al c.1 d2 d3 d4 d5 d6 d7 c7 c8)::Buf bE 55 d2 d3 c.1.f0.f2::fm 3 d4 d5 c.1.f7::Buf bE 55 d6 d7 c.1.f16.f2::jf 21 c7 c8 c.1.f17::aL y 34 (al c.2 F I J K L M N O)::Buf bE 55 F I c.2.f0.f2::fm 3 J K c.2.f7::Buf bE 55 L M c.2.f16.f2::jf 21 N O c.2.f17::Buf bE 55 ag af a0.f0.f2::fm 3 az ay a0.f7::Buf bE 55 aw ar a0.f16.f2::jf 21 av au a0.f17::[]) e ds As) ?_ ?_
 ·rcases bH H with⟨d8,H⟩|⟨d8,H⟩
  ·refine aC rfl d8 (ao (aQ (ad aE (h:=bD (aT 4) (h:=ad (ca rfl) (h:=S' ax ?_))))))
   obtain⟨h8,e2,H⟩:=br H
   refine cD 3 (St [(1,aJ a1),(2,aK R),(4,aK b7),(7,ae E),(8,ae n85),(54,.bool h8)] (aS a0 ag af az ay aw ar av au++(aL R 34 (al ({ a7 with f3:=false }) S U Y Z a2 a3 a4 a5)::(aS a7 S U Y Z a2 a3 a4 a5++[aL b7 34 (al cx none 0 none 0 none 0 none 0)])))) ?_ ?_
   ·by_cases a6 : (!a7.f8) = true
    ·refine cI 2 a6 (cq a6 (h:=aj ?_))
     have x_:=jL e2 a6;exact bM [0,1,2,3,4,5,6,7,8,9]
    refine bn (aX a6) ax (h:=bn (aX a6) (bk rfl rfl) (h:=cv (aX a6) (h:=aj ?_)))
    have x_:=jN e2 ((aX a6));exact bM [0,1,2,3,4,5,6,7,8,9]
   rintro e ds As f6
   refine bC (SA.of_St f6 fun junk=>?_)
   rcases bH H with⟨d9,H⟩|⟨d9,H⟩
   ·refine aC rfl d9 (aQ (bD (ck 4) (h:=o' (bg b7 0 9 (al ({ a7 with f3:=false }) S U Y Z a2 a3 a4 a5) (h:=ad aV (h:=cE (aI (aI ?_))))))))
    have h:=aN H;subst h
    have hb_:=dS c5
    have hr_:=Option.some.inj hb_
    clear hb_
    subst hr_
    exact dt [.cell 4 34,.tmp 5] [5,6,7,8,0,1,2,3] ⟨S,U,Y,Z,a2,a3,a4,a5,rfl,rfl⟩ ⟨cR 9,cP,trivial⟩
   refine aD rfl d9 (ap (aa (aQ (ad aE (h:=o' (cH 4 [ae 0] (h:=(bC (bj 5 fun k8=>bj 6 fun k9=>bj 7 fun l0=>bj 8 fun l1=>ah ?_)))))))))
   obtain⟨h9,i0,H⟩:=ac H
   refine o' (dN [4,5,6,7,8] [0,1,2,3,9] (im.ok (ba:=R) i0) fun i1 i2 i3 i4 i5 i6 i7 i8=>?_)
   refine aj ?_
   have h:=aN H;subst h
   exact aa ⟨(h9,cx),rfl,R,i1,i2,i3,i4,i5,i6,i7,i8,b7,none,0,none,0,none,0,none,0,St.mk1 (cJ rfl (cJ rfl (cJ rfl (cJ rfl (cJ rfl dQ))))) ((Gh.nilBuf bE 55).trans ((Gh.nilBuf (Kd.int .i64) 3).trans ((Gh.nilBuf bE 55).trans ((Gh.nilBuf (Kd.int .i32) 21).trans (eY (0::1::2::3::4::9::10::11::12::13::5::6::7::8::[]))))))⟩
  refine aD rfl d8 (ap ?_)
  have h:=aN H;subst h
  exact aa ⟨(({ a7 with f3:=false }),cx),rfl,R,S,U,Y,Z,a2,a3,a4,a5,b7,none,0,none,0,none,0,none,0,St.mk1 (cJ rfl (cJ rfl (cJ rfl (cJ rfl (cJ rfl dQ))))) ((Gh.nilBuf bE 55).trans ((Gh.nilBuf (Kd.int .i64) 3).trans ((Gh.nilBuf bE 55).trans ((Gh.nilBuf (Kd.int .i32) 21).trans (eY (4::5::6::7::8::9::10::11::12::13::0::1::2::3::[]))))))⟩
 rintro e ds As ⟨c,ht,c6,d2,d3,d4,d5,d6,d7,c7,c8,y,F,I,J,K,L,M,N,O,f9⟩
 clear H
 subst ht
 replace c5:=fW c5
 have H:=c5
 clear c5
 refine aa (SA.of_St f9 fun junk=>ao (aQ (ad aE (h:=bD (aT 0) (h:=bC ?_)))))
 obtain⟨a,H,e3⟩:=ac H
 refine bI (fun e ds As=>∃ (z : Nat),∃ (d0 : Option Addr) (d1 : Nat),∃ (m : Option Addr) (o : Nat),∃ (p : Option Addr) (q : Nat),∃ (s : Option Addr) (u : Nat),St [(1,aJ a1),(2,aK z),(4,aK y),(7,ae E),(8,ae n85)] (aL z 34 (al a d0 d1 m o p q s u)::Buf bE 55 d0 d1 a.f0.f2::fm 3 m o a.f7::Buf bE 55 p q a.f16.f2::jf 21 s u a.f17::Buf bE 55 ag af a0.f0.f2::fm 3 az ay a0.f7::Buf bE 55 aw ar a0.f16.f2::jf 21 av au a0.f17::aL y 34 (al c.2 F I J K L M N O)::Buf bE 55 F I c.2.f0.f2::fm 3 J K c.2.f7::Buf bE 55 L M c.2.f16.f2::jf 21 N O c.2.f17::[]) e ds As) ?_ ?_
 ·rcases bH H with⟨e0,H⟩|⟨e0,H⟩
  ·refine aC rfl e0 (bj 1 fun l2=>bj 2 fun l3=>bj 3 fun l4=>bj 4 fun l5=>bj 6 fun l6=>bj 7 fun l7=>bj 8 fun l8=>bj 9 fun l9=>ah ?_)
   refine ad aE (h:=bD (cG c6 0 0 [ae c.1.f0.f0,ae c.1.f0.f1,.slice d2 c.1.f0.f2.length d3]) (h:=ad aE (h:=bD (aT 0) (h:=ad aE (h:=bD (aT 0) (h:=ad ax (h:=ad aE (h:=l' (cG c6 6 0 (bG c.1.f4)) ?_))))))))
   obtain⟨e1,i9,H⟩:=ac H
   refine o' (gu [1] (0::2::3::4::5::6::7::8::9::10::11::12::13::[]) (fx.ok i9) fun g0 g1=>?_)
   refine ad ax (h:=ad cg (h:=ad cg (h:=ad aE (h:=o' (cH 2 [ae e1.1.f0,ae e1.1.f1,.slice g0 e1.1.f2.length g1] (h:=(aj ?_)))))))
   have h:=aN H;subst h
   exact aa ⟨c6,g0,g1,d4,d5,d6,d7,c7,c8,ed (2::0::3::4::5::11::12::13::14::6::7::8::9::10::[])⟩
  refine aD rfl e0 (ap ?_)
  have h:=aN H;subst h
  exact aa ⟨c6,d2,d3,d4,d5,d6,d7,c7,c8,ed (0::1::2::3::4::10::11::12::13::5::6::7::8::9::[])⟩
 rintro e ds As ⟨z,d0,d1,m,o,p,q,s,u,g2⟩
 clear H
 have H:=e3
 clear e3
 refine aa (SA.of_St g2 fun junk=>ao (bj 1 fun m0=>bj 2 fun m1=>bj 3 fun m2=>bj 4 fun m3=>bj 10 fun m4=>bj 11 fun m5=>bj 12 fun m6=>?_))
 refine bj 13 fun m7=>?_
 refine fk [0,1,2,3,4,5,6,7,8,9,10,13] [0] (dG 1 13) fun _ _ _ _ _ sH dd pk=>?_
 refine bf 0 rfl sH aE (h:=bT 1 rfl sH (cG z 0 0 [ae a.f0.f0,ae a.f0.f1,.slice d0 a.f0.f2.length d1]) (h:=bf 2 rfl sH aE (h:=bT 3 rfl sH (aT 0) (h:=bf 4 rfl sH aE (h:=bT 5 rfl sH (aT 0) (h:=bf 6 rfl sH aE (h:=bT 7 rfl sH (cG z 6 0 (bG a.f4)) (h:=bf 8 rfl sH ax (h:=T' 9 rfl sH aE ?_)))))))))
 refine r' 10 rfl sH (cG z 6 0 (bG a.f4)) ?_
 obtain⟨o5,j0,H⟩:=ac H
 refine dx 11 rfl dd (gu [] (0::1::2::3::4::5::6::7::8::9::10::11::12::[]) (qe.ok j0) fun j1 j2=>?_)
 obtain⟨b,j3,H⟩:=ac H
 refine dx 12 rfl dd (gu [1,0] [2,3,4,5,6,7,8,9,10,11,12,13] (eL.ok (A4:=j1) (c4:=j2) j3) fun d j=>?_)
 refine T' 13 rfl sH ax ?_
 refine gM (rs:=[14,15]) dd (by kernel_rfl) (by decide) (bx ⟨_,rfl,(.no rfl),?_⟩ (bx ⟨_,rfl,(.no rfl),?_⟩ cO))
 ·refine id (dl (v:=.agg #[ae b.1.f0,ae b.1.f1,.slice d b.1.f2.length j]) rfl cg ?_)
  refine gM (rs:=[15,16]) dd (by kernel_rfl) (by decide) (bx ⟨_,rfl,(.no rfl),?_⟩ (bx ⟨_,rfl,(.no rfl),?_⟩ cO))
  ·refine id (dl (v:=ae b.2) rfl cg (dx 16 rfl dd (dl (v:=aK z) rfl (kB z 0 0) (aW dd sH (ey 17 rfl (cH 0 [ae b.1.f0,ae b.1.f1,.slice d b.1.f2.length j] (h:=(aH (by kernel_rfl) (aa (SA.of_St (l:=[(2,aK z),(4,aK y),(7,ae E),(8,ae n85)]) (B:=(Buf bE 55 ag af a0.f0.f2::fm 3 az ay a0.f7::Buf bE 55 aw ar a0.f16.f2::jf 21 av au a0.f17::aL z 34 (al ({ a with f0:=b.1 }) d j m o p q s u)::Buf bE 55 d j b.1.f2::fm 3 m o a.f7::Buf bE 55 p q a.f16.f2::jf 21 s u a.f17::aL y 34 (al c.2 F I J K L M N O)::Buf bE 55 F I c.2.f0.f2::fm 3 J K c.2.f7::Buf bE 55 L M c.2.f16.f2::jf 21 N O c.2.f17::[])) (St.mk1 (cJ rfl (cJ rfl (cJ rfl (cJ rfl dQ)))) (Gh.sel (7::8::9::10::0::1::4::5::6::11::12::13::14::15::[]) (by kernel_rfl) (by kernel_rfl))) fun junk=>aQ (ad aE (h:=l' (aT 4) ?_))))))))))))
   refine ad ax (h:=ad (bV rfl rfl) (h:=ad aE (h:=o' (cH 4 [ae (i64.wrap (a.f2 + E))] (h:=(eJ (ad aE (h:=bD (aT 4) (h:=ad ax (h:=ad (eR rfl rfl) (h:=bC ?_)))))))))))
   rcases bH H with⟨D,H⟩|⟨D,H⟩
   ·refine aB rfl D (ah (ad ax (h:=ad aE (h:=o' (cH 4 [ae n85] (h:=(ad aE (h:=o' (cH 4 [.bool true] (h:=(cV (bD (ck 4) (h:=o' (uX y 0 9 (al ({ a with f0:=b.1,f2:=n85,f3:=true }) d j m o p q s u) ?_))))))))))))))
    refine ad aV (h:=cF ?_)
    have h:=aN H;subst h
    exact dt [.cell 4 34,.tmp 5] [5,6,7,8,0,1,2,3] ⟨d,j,m,o,p,q,s,u,rfl,rfl⟩ ⟨cR 9,cP,trivial⟩
   refine aA rfl D (ap (aa (aQ (bD (ck 4) (h:=o' (bg y 0 9 (al ({ a with f0:=b.1,f2:=(i64.wrap (a.f2 + E)) }) d j m o p q s u) (h:=ad aV (h:=cF ?_))))))))
   have h:=aN H;subst h
   exact dt [.cell 4 34,.tmp 5] [5,6,7,8,0,1,2,3] ⟨d,j,m,o,p,q,s,u,rfl,rfl⟩ ⟨cR 9,cP,trivial⟩
  refine id (dl (v:=aK z) rfl (kB z 0 0) (aW dd sH ?_))
  refine eu (rs:=[15,17]) (by kernel_rfl) (by decide) (bx ⟨rfl,_,rfl,(.no rfl),?_⟩ (bx ⟨rfl,_,rfl,(.no rfl),?_⟩ cO))
  ·refine id (dl (v:=ae b.2) rfl cg (ey 17 rfl (cH 0 [ae b.1.f0,ae b.1.f1,.slice d b.1.f2.length j] (h:=(aH (by kernel_rfl) (aa (SA.of_St (l:=[(2,aK z),(4,aK y),(7,ae E),(8,ae n85)]) (B:=(Buf bE 55 ag af a0.f0.f2::fm 3 az ay a0.f7::Buf bE 55 aw ar a0.f16.f2::jf 21 av au a0.f17::aL z 34 (al ({ a with f0:=b.1 }) d j m o p q s u)::Buf bE 55 d j b.1.f2::fm 3 m o a.f7::Buf bE 55 p q a.f16.f2::jf 21 s u a.f17::aL y 34 (al c.2 F I J K L M N O)::Buf bE 55 F I c.2.f0.f2::fm 3 J K c.2.f7::Buf bE 55 L M c.2.f16.f2::jf 21 N O c.2.f17::[])) (St.mk1 (cJ rfl (cJ rfl (cJ rfl (cJ rfl dQ)))) (Gh.sel (7::8::9::10::0::1::4::5::6::11::12::13::14::15::[]) (by kernel_rfl) (by kernel_rfl))) fun junk=>aQ (ad aE (h:=bD (aT 4) (h:=ad ax (h:=S' (bV rfl rfl) ?_)))))))))))
   refine ad aE (h:=o' (cH 4 [ae (i64.wrap (a.f2 + E))] (h:=(eJ (ad aE (h:=bD (aT 4) (h:=ad ax (h:=ad (eR rfl rfl) (h:=bC ?_)))))))))
   rcases bH H with⟨D,H⟩|⟨D,H⟩
   ·refine aB rfl D (ah (ad ax (h:=ad aE (h:=o' (cH 4 [ae n85] (h:=(ad aE (h:=o' (cH 4 [.bool true] (h:=(cV (bD (ck 4) (h:=o' (uX y 0 9 (al ({ a with f0:=b.1,f2:=n85,f3:=true }) d j m o p q s u) ?_))))))))))))))
    refine ad aV (h:=cF ?_)
    have h:=aN H;subst h
    exact dt [.cell 4 34,.tmp 5] [5,6,7,8,0,1,2,3] ⟨d,j,m,o,p,q,s,u,rfl,rfl⟩ ⟨cR 9,cP,trivial⟩
   refine aA rfl D (ap (aa (aQ (bD (ck 4) (h:=o' (bg y 0 9 (al ({ a with f0:=b.1,f2:=(i64.wrap (a.f2 + E)) }) d j m o p q s u) (h:=ad aV (h:=cF ?_))))))))
   have h:=aN H;subst h
   exact dt [.cell 4 34,.tmp 5] [5,6,7,8,0,1,2,3] ⟨d,j,m,o,p,q,s,u,rfl,rfl⟩ ⟨cR 9,cP,trivial⟩
  refine id (cH 0 [ae b.1.f0,ae b.1.f1,.slice d b.1.f2.length j] (h:=(ey 15 rfl (dl (v:=ae b.2) rfl cg (aH (by kernel_rfl) (aa (SA.of_St (l:=[(2,aK z),(4,aK y),(7,ae E),(8,ae n85)]) (B:=(Buf bE 55 ag af a0.f0.f2::fm 3 az ay a0.f7::Buf bE 55 aw ar a0.f16.f2::jf 21 av au a0.f17::aL z 34 (al ({ a with f0:=b.1 }) d j m o p q s u)::Buf bE 55 d j b.1.f2::fm 3 m o a.f7::Buf bE 55 p q a.f16.f2::jf 21 s u a.f17::aL y 34 (al c.2 F I J K L M N O)::Buf bE 55 F I c.2.f0.f2::fm 3 J K c.2.f7::Buf bE 55 L M c.2.f16.f2::jf 21 N O c.2.f17::[])) (St.mk1 (cJ rfl (cJ rfl (cJ rfl (cJ rfl dQ)))) (Gh.sel (7::8::9::10::0::1::4::5::6::11::12::13::14::15::[]) (by kernel_rfl) (by kernel_rfl))) fun junk=>aQ (ad aE (h:=bD (aT 4) (h:=ad ax (h:=S' (bV rfl rfl) ?_)))))))))))
  refine ad aE (h:=o' (cH 4 [ae (i64.wrap (a.f2 + E))] (h:=(eJ (ad aE (h:=bD (aT 4) (h:=ad ax (h:=ad (eR rfl rfl) (h:=bC ?_)))))))))
  rcases bH H with⟨D,H⟩|⟨D,H⟩
  ·refine aB rfl D (ah (ad ax (h:=ad aE (h:=o' (cH 4 [ae n85] (h:=(ad aE (h:=o' (cH 4 [.bool true] (h:=(cV (bD (ck 4) (h:=o' (uX y 0 9 (al ({ a with f0:=b.1,f2:=n85,f3:=true }) d j m o p q s u) ?_))))))))))))))
   refine ad aV (h:=cF ?_)
   have h:=aN H;subst h
   exact dt [.cell 4 34,.tmp 5] [5,6,7,8,0,1,2,3] ⟨d,j,m,o,p,q,s,u,rfl,rfl⟩ ⟨cR 9,cP,trivial⟩
  refine aA rfl D (ap (aa (aQ (bD (ck 4) (h:=o' (bg y 0 9 (al ({ a with f0:=b.1,f2:=(i64.wrap (a.f2 + E)) }) d j m o p q s u) (h:=ad aV (h:=cF ?_))))))))
  have h:=aN H;subst h
  exact dt [.cell 4 34,.tmp 5] [5,6,7,8,0,1,2,3] ⟨d,j,m,o,p,q,s,u,rfl,rfl⟩ ⟨cR 9,cP,trivial⟩
 refine id (dl (v:=ae b.2) rfl cg (dx 14 rfl dd (dl (v:=.agg #[ae b.1.f0,ae b.1.f1,.slice d b.1.f2.length j]) rfl cg (dx 16 rfl dd (dl (v:=aK z) rfl (kB z 0 0) (aW dd sH (ey 17 rfl (cH 0 [ae b.1.f0,ae b.1.f1,.slice d b.1.f2.length j] (h:=(aH (by kernel_rfl) (aa (SA.of_St (l:=[(2,aK z),(4,aK y),(7,ae E),(8,ae n85)]) (B:=(Buf bE 55 ag af a0.f0.f2::fm 3 az ay a0.f7::Buf bE 55 aw ar a0.f16.f2::jf 21 av au a0.f17::aL z 34 (al ({ a with f0:=b.1 }) d j m o p q s u)::Buf bE 55 d j b.1.f2::fm 3 m o a.f7::Buf bE 55 p q a.f16.f2::jf 21 s u a.f17::aL y 34 (al c.2 F I J K L M N O)::Buf bE 55 F I c.2.f0.f2::fm 3 J K c.2.f7::Buf bE 55 L M c.2.f16.f2::jf 21 N O c.2.f17::[])) (St.mk1 (cJ rfl (cJ rfl (cJ rfl (cJ rfl dQ)))) (Gh.sel (7::8::9::10::0::1::4::5::6::11::12::13::14::15::[]) (by kernel_rfl) (by kernel_rfl))) fun junk=>aQ (S' aE ?_)))))))))))))
 refine bD (aT 4) (h:=ad ax (h:=ad (bV rfl rfl) (h:=ad aE (h:=o' (cH 4 [ae (i64.wrap (a.f2 + E))] (h:=(eJ (ad aE (h:=bD (aT 4) (h:=ad ax (h:=S' (eR rfl rfl) ?_)))))))))))
 refine bC ?_
 rcases bH H with⟨D,H⟩|⟨D,H⟩
 ·refine aB rfl D (ah (ad ax (h:=ad aE (h:=o' (cH 4 [ae n85] (h:=(ad aE (h:=o' (cH 4 [.bool true] (h:=(cV (bD (ck 4) (h:=o' (uX y 0 9 (al ({ a with f0:=b.1,f2:=n85,f3:=true }) d j m o p q s u) ?_))))))))))))))
  refine ad aV (h:=cF ?_)
  have h:=aN H;subst h
  exact dt [.cell 4 34,.tmp 5] [5,6,7,8,0,1,2,3] ⟨d,j,m,o,p,q,s,u,rfl,rfl⟩ ⟨cR 9,cP,trivial⟩
 refine aA rfl D (ap (aa (aQ (bD (ck 4) (h:=o' (bg y 0 9 (al ({ a with f0:=b.1,f2:=(i64.wrap (a.f2 + E)) }) d j m o p q s u) (h:=ad aV (h:=cF ?_))))))))
 have h:=aN H;subst h
 exact dt [.cell 4 34,.tmp 5] [5,6,7,8,0,1,2,3] ⟨d,j,m,o,p,q,s,u,rfl,rfl⟩ ⟨cR 9,cP,trivial⟩

end Go.Proofs.YtckilbegmbaeeaaGreat.Z3

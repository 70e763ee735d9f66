/- What functions compute, and that they do: 133m0b2, 134m0, 37, 62f92x_1_, 92Lb_0_, 93Lb_0_, 94Lb_0_, 95Lb_0_. -/
import Derived.Test.YtckilbegmbaeeaaGreatZ310
namespace Go.Proofs.YtckilbegmbaeeaaGreat.Z3
open Go Go.RowKit Go.Proofs.YtckilbegmbaeeaaGreat.SL
open Go.IntKind (i64)
set_option linter.unusedVariables false
set_option maxHeartbeats 20000000
set_option maxRecDepth 100000
set_option linter.unusedSimpArgs false
attribute [local irreducible] IntKind.wrap cC dO eX gp gl lH fU cN gm rd sub bytesOf eG cL
variable {ba gV bJ af ay ar au k : Nat}
variable {ag az aw av : Option Addr}
def js.f (l0 : (List Int)) (a1 : Int) (l2 : (List Int)) : Option ((List Int)):=if 0 ≤ a1∧a1 ≤ (l0.length : Int)∧(l0.length : Int) ≤ (l0.length : Int) then (lt ((l2.length : Int)) fun n11=>if n11 = 0 then (some (l0)) else (lt ((l0.length : Int)) fun n13=>if a1 = n13 then (if l0.length + l2.length ≤ 17592186044416 then lt (l0 ++ l2) fun n19=>(some (n19)) else none) else (if l0.length + l2.length ≤ 17592186044416 then some (l0.take a1.toNat ++ l2 ++ l0.drop a1.toNat) else none))) else none
theorem js.ok {l0 : (List Int)} {a1 : Int} {l2 : (List Int)} {A0 : Option Addr} {c0 : Nat} {A2 : Option Addr} {c2 : Nat} {r : (List Int)} (H : js.f l0 a1 l2 = some r) : df Tryz.prog 133 #[.slice A0 l0.length c0,ae a1,.slice A2 l2.length c2] [fm 3 A0 c0 l0,fm 3 A2 c2 l2] (fun v B=>∃ aP aO,v = .slice aP r.length aO∧B = [fm 3 aP aO r,fm 3 A2 c2 l2]):=by
 refine ai Tryz.func133 rfl rfl ?_
 unfold js.f at H
 refine aQ ?_
 refine s' (.slice none 0 0) sf ?_
 refine bC (ao ?_)
 refine bj 0 fun c9=>?_
 refine bj 1 fun d0=>?_
 refine ah ?_
 refine s' (.slice A0 l0.length c0) fM ?_
 refine s' (ae a1) fM ?_
 obtain⟨⟨g5,g6,g7⟩,H⟩:=aR H
 refine s' (.slice (cL A0 a1 ((c0 : Nat) : Int) 1) ((l0.length : Int) - a1).toNat (((c0 : Nat) : Int).toNat - a1.toNat)) (dh (l:=0) (m:=(l0.length : Int)) (a:=a1) (b:=(l0.length : Int)) (q:=((c0 : Nat) : Int)) (dZ.whole (A:=A0) (sz:=1) (xs:=l0) (c:=c0) (by omega)) Tryz.underlying29 jG rfl rfl rfl rfl (.inr ⟨_,rfl⟩) (.inl ⟨rfl,rfl,rfl⟩) (.inl ⟨rfl,rfl⟩) g5 g6 g7) ?_
 have c6 : dZ A0 (cL A0 a1 ((c0 : Nat) : Int) 1) 1 (0 + a1) ((l0.length : Int) - a1) (((c0 : Nat) : Int).toNat - a1.toNat):=dZ.sub (dZ.whole (A:=A0) (sz:=1) (xs:=l0) (c:=c0) (by omega)) g5 g6 g7 (.inl rfl) (Int.le_refl _)
 refine cV ?_
 refine s' (.slice A2 l2.length c2) fM ?_
 refine s' (ae (l2.length : Int)) (dB Tryz.underlying29 rfl) ?_
 obtain⟨n11,u,H⟩:=br H
 refine s' (ae n11) (bz (v:=ae n11) (congrArg (Value.int .i64) u.symm)) ?_
 refine eJ ?_
 refine s' (ae n11) fM ?_
 refine s' (.bool (decide (n11 = 0))) (bk rfl rfl) ?_
 refine bC ?_
 by_cases D : n11 = 0
 ·replace H:=kZ D H
  refine aB rfl D ?_
  refine aQ ?_
  refine s' (.slice A0 l0.length c0) fM ?_
  refine s' (.slice A0 l0.length c0) sf ?_
  refine cE ?_
  have h:=aN H;subst h
  exact er [0,1] ⟨A0,c0,rfl,rfl⟩
 replace H:=ls D H
 refine aA rfl D ?_
 refine ap (aa (aQ ?_))
 refine s' (.slice A0 l0.length c0) fM ?_
 refine s' (ae (l0.length : Int)) (dB Tryz.underlying29 rfl) ?_
 obtain⟨n13,y,H⟩:=br H
 refine s' (ae n13) (bz (v:=ae n13) (congrArg (Value.int .i64) y.symm)) ?_
 refine eJ ?_
 refine s' (ae a1) fM ?_
 refine s' (ae n13) fM ?_
 refine s' (.bool (decide (a1 = n13))) (bk rfl rfl) ?_
 refine bC ?_
 by_cases E : a1 = n13
 ·replace H:=kZ E H
  refine aB rfl E ?_
  refine aQ ?_
  refine s' (.slice A0 l0.length c0) fM ?_
  refine s' (.slice A2 l2.length c2) fM ?_
  obtain⟨d1,H⟩:=aR H
  obtain⟨n19,b2,H⟩:=br H
  refine o' (gZ (k:=0) (A:=A0) (c:=c0) (xs:=l0) (ys:=l2) n19 b2 rfl Tryz.underlying29 qA rfl rfl rfl rfl rfl (oe.slice Tryz.underlying29 (Src.buf (k:=1) rfl)) (by omega) (by omega) fun a4 a5=>?_)
  refine s' (.slice a4 n19.length a5) sf ?_
  refine cE ?_
  have h:=aN H;subst h
  exact er [0,1] ⟨a4,a5,rfl,rfl⟩
 replace H:=ls E H
 refine aA rfl E ?_
 refine ap (aa (ao (aQ ?_)))
 refine s' (ae n13) fM ?_
 refine s' (ae n11) fM ?_
 refine s' (ae (i64.wrap (n13 + n11))) (bV rfl rfl) ?_
 refine s' (.slice A0 l0.length c0) fM ?_
 refine s' (ae (c0 : Int)) (yo Tryz.underlying29 rfl) ?_
 refine s' (.bool (decide ((i64.wrap (n13 + n11)) > (c0 : Int)))) (eR rfl rfl) ?_
 refine bC ?_
 obtain⟨b3,H⟩:=aR H
 by_cases J : (i64.wrap (n13 + n11)) > (c0 : Int)
 ·replace H:=rK (x:=if 0 ≤ (0 : Int)∧(0 : Int) ≤ a1∧a1 ≤ (l0.length : Int) then (if 0 < (i64.wrap ((i64.wrap (n13 + n11)) - a1))∧(sub l0 (0 + (0 : Int)) ((0 + (0 : Int)) + (a1 - (0 : Int)))).length + (i64.wrap ((i64.wrap (n13 + n11)) - a1)).toNat ≤ 17592186044416 then lt ((sub l0 (0 + (0 : Int)) ((0 + (0 : Int)) + (a1 - (0 : Int)))) ++ List.replicate (i64.wrap ((i64.wrap (n13 + n11)) - a1)).toNat 0) fun n33=>(if 0 ≤ a1∧a1 ≤ (n33.length : Int)∧(n33.length : Int) ≤ (n33.length : Int) then (lt (bo n33 (0 + a1).toNat (l2.take ((n33.length : Int) - a1).toNat)) fun n41=>(if 0 ≤ (i64.wrap (a1 + n11))∧(i64.wrap (a1 + n11)) ≤ (n41.length : Int)∧(n41.length : Int) ≤ (n41.length : Int) then (if 0 ≤ a1∧a1 ≤ (l0.length : Int)∧(l0.length : Int) ≤ (l0.length : Int) then (lt (bo n41 (0 + (i64.wrap (a1 + n11))).toNat ((sub l0 (0 + a1) ((0 + a1) + ((l0.length : Int) - a1))).take ((n41.length : Int) - (i64.wrap (a1 + n11))).toNat)) fun s=>(some (s))) else none) else none)) else none) else none) else none) H (uc (z0:=0) (lim:=17592186044416) u y (by omega) (by omega) (by omega) (by omega) b3 (by omega))
  refine aB rfl J ?_
  have hwG : i64.wrap (n13 + n11) = n13 + n11:=by rw [IntKind.wrap_i64]; omega
  have c7 : i64.wrap (i64.wrap (n13 + n11) - a1) = n13 + n11 - a1:=by rw [hwG,IntKind.wrap_i64]; omega
  refine aQ ?_
  refine s' (.slice A0 l0.length c0) fM ?_
  refine s' (ae a1) fM ?_
  obtain⟨⟨a6,a7,a8⟩,H⟩:=aR H
  refine s' (.slice (cL A0 (0 : Int) ((c0 : Nat) : Int) 1) (a1 - (0 : Int)).toNat (((c0 : Nat) : Int).toNat - (0 : Int).toNat)) (dh (l:=0) (m:=(l0.length : Int)) (a:=(0 : Int)) (b:=a1) (q:=((c0 : Nat) : Int)) (dZ.whole (A:=A0) (sz:=1) (xs:=l0) (c:=c0) (by omega)) Tryz.underlying29 jG rfl rfl rfl rfl (.inl ⟨rfl,rfl⟩) (.inr ⟨_,rfl⟩) (.inl ⟨rfl,rfl⟩) a6 a7 a8) ?_
  have z : dZ A0 (cL A0 (0 : Int) ((c0 : Nat) : Int) 1) 1 (0 + (0 : Int)) (a1 - (0 : Int)) (((c0 : Nat) : Int).toNat - (0 : Int).toNat):=dZ.sub (dZ.whole (A:=A0) (sz:=1) (xs:=l0) (c:=c0) (by omega)) a6 a7 a8 (.inl rfl) (Int.le_refl _)
  refine s' (ae n13) fM ?_
  refine s' (ae n11) fM ?_
  refine s' (ae (i64.wrap (n13 + n11))) (bV rfl rfl) ?_
  refine s' (ae a1) fM ?_
  refine s' (ae (i64.wrap ((i64.wrap (n13 + n11)) - a1))) (cY rfl rfl) ?_
  obtain⟨d2,H⟩:=aR H
  obtain⟨n33,b4,H⟩:=br H
  have K:=ny (xs:=l0) z.lo z.no (by omega)
  have b5 : (Value.int .i64 (i64.wrap ((i64.wrap (n13 + n11)) - a1))) = ae (((i64.wrap ((i64.wrap (n13 + n11)) - a1)).toNat : Nat) : Int):=by congr 1; omega
  refine o' (OA.ghost (Gh.nilBuf (Kd.int .i64) 3) (vd (k:=2) (V:=cL A0 (0 : Int) ((c0 : Nat) : Int) 1) (m:=(a1 - (0 : Int)).toNat) (vc:=(((c0 : Nat) : Int).toNat - (0 : Int).toNat)) (xs:=sub l0 (0 + (0 : Int)) ((0 + (0 : Int)) + (a1 - (0 : Int)))) (cnt:=(i64.wrap ((i64.wrap (n13 + n11)) - a1)).toNat) (z0:=0) n33 b4 rfl Tryz.underlying29 Tryz.underlying3 qA rfl rfl (by decide) rfl rfl (Src.win (Src.buf (k:=0) rfl) z rfl (by omega)) K.symm b5 (fun _=>rfl) (by omega) (by rw [K]; omega) (by omega) (by omega) fun o d=>?_))
  refine s' (.slice o n33.length d) sf ?_
  refine bC ?_
  refine SA.of_St (l:=[(0,.slice A0 l0.length c0),(1,ae a1),(2,.slice A2 l2.length c2),(7,ae n11),(9,.slice o n33.length d)]) (B:=[fm 3 A2 c2 l2,fm 3 A0 c0 l0,fm 3 o d n33]) (St.mk1 (cJ rfl (cJ rfl (cJ rfl (cJ rfl (cJ rfl dQ))))) (Gh.sel [1,0,2] (by kernel_rfl) (by kernel_rfl))) fun junk=>?_
  refine ao ?_
  refine bj 2 fun c8=>?_
  refine ah ?_
  refine s' (.slice o n33.length d) fM ?_
  refine s' (ae a1) fM ?_
  obtain⟨⟨a9,b0,b1⟩,H⟩:=aR H
  refine s' (.slice (cL o a1 ((d : Nat) : Int) 1) ((n33.length : Int) - a1).toNat (((d : Nat) : Int).toNat - a1.toNat)) (dh (l:=0) (m:=(n33.length : Int)) (a:=a1) (b:=(n33.length : Int)) (q:=((d : Nat) : Int)) (dZ.whole (A:=o) (sz:=1) (xs:=n33) (c:=d) (by omega)) Tryz.underlying29 jG rfl rfl rfl rfl (.inr ⟨_,rfl⟩) (.inl ⟨rfl,rfl,rfl⟩) (.inl ⟨rfl,rfl⟩) a9 b0 b1) ?_
  have b6 : dZ o (cL o a1 ((d : Nat) : Int) 1) 1 (0 + a1) ((n33.length : Int) - a1) (((d : Nat) : Int).toNat - a1.toNat):=dZ.sub (dZ.whole (A:=o) (sz:=1) (xs:=n33) (c:=d) (by omega)) a9 b0 b1 (.inl rfl) (Int.le_refl _)
  refine s' (.slice A2 l2.length c2) fM ?_
  obtain⟨n41,L,H⟩:=br H
  have hl_n41 : n41.length = n33.length:=by rw [L]; exact eM (by rw [List.length_take]; omega)
  refine o' (fY (k:=2) (l:=0 + a1) (m:=(n33.length : Int) - a1) (xs:=n33) (ys:=l2) n41 L b6 rfl Tryz.underlying29 jG rfl rfl rfl (by omega) rfl (pO.slice (Src.buf (k:=0) rfl)) ?_)
  try rewrite [← hl_n41]
  refine bC (ao ?_)
  refine lI jy (bP.thn (bP.thn bP.body)) fun I0 b9 w0 pk=>?_
  refine eW (v:=.slice o n41.length d) 0 (by kernel_rfl) rfl rfl (.no rfl) pk rfl fM ?_
  refine eW (v:=ae a1) 1 (by kernel_rfl) rfl rfl (.no rfl) pk rfl fM ?_
  refine eW (v:=ae n11) 2 (by kernel_rfl) rfl rfl (.no rfl) pk rfl fM ?_
  refine eW (v:=ae (i64.wrap (a1 + n11))) 3 (by kernel_rfl) rfl rfl (.no rfl) pk rfl (bV rfl rfl) ?_
  obtain⟨⟨M,N,O⟩,H⟩:=aR H
  refine eW (v:=.slice (cL o (i64.wrap (a1 + n11)) ((d : Nat) : Int) 1) ((n41.length : Int) - (i64.wrap (a1 + n11))).toNat (((d : Nat) : Int).toNat - (i64.wrap (a1 + n11)).toNat)) 4 (by kernel_rfl) rfl rfl (.no rfl) pk rfl (dh (l:=0) (m:=(n41.length : Int)) (a:=i64.wrap (a1 + n11)) (b:=(n41.length : Int)) (q:=((d : Nat) : Int)) (dZ.whole (A:=o) (sz:=1) (xs:=n41) (c:=d) (by omega)) Tryz.underlying29 jG rfl rfl rfl rfl (.inr ⟨_,rfl⟩) (.inl ⟨rfl,rfl,rfl⟩) (.inl ⟨rfl,rfl⟩) M N O) ?_
  have a0 : dZ o (cL o (i64.wrap (a1 + n11)) ((d : Nat) : Int) 1) 1 (0 + (i64.wrap (a1 + n11))) ((n41.length : Int) - (i64.wrap (a1 + n11))) (((d : Nat) : Int).toNat - (i64.wrap (a1 + n11)).toNat):=dZ.sub (dZ.whole (A:=o) (sz:=1) (xs:=n41) (c:=d) (by omega)) M N O (.inl rfl) (Int.le_refl _)
  refine eW (v:=.slice A0 l0.length c0) 5 (by kernel_rfl) rfl rfl (.no rfl) pk rfl fM ?_
  refine eW (v:=ae a1) 6 (by kernel_rfl) rfl rfl (.no rfl) pk rfl fM ?_
  obtain⟨⟨R,S,U⟩,H⟩:=aR H
  refine eW (v:=.slice (cL A0 a1 ((c0 : Nat) : Int) 1) ((l0.length : Int) - a1).toNat (((c0 : Nat) : Int).toNat - a1.toNat)) 7 (by kernel_rfl) rfl rfl (.no rfl) pk rfl (dh (l:=0) (m:=(l0.length : Int)) (a:=a1) (b:=(l0.length : Int)) (q:=((c0 : Nat) : Int)) (dZ.whole (A:=A0) (sz:=1) (xs:=l0) (c:=c0) (by omega)) Tryz.underlying29 jG rfl rfl rfl rfl (.inr ⟨_,rfl⟩) (.inl ⟨rfl,rfl,rfl⟩) (.inl ⟨rfl,rfl⟩) R S U) ?_
  have a2 : dZ A0 (cL A0 a1 ((c0 : Nat) : Int) 1) 1 (0 + a1) ((l0.length : Int) - a1) (((c0 : Nat) : Int).toNat - a1.toNat):=dZ.sub (dZ.whole (A:=A0) (sz:=1) (xs:=l0) (c:=c0) (by omega)) R S U (.inl rfl) (Int.le_refl _)
  obtain⟨s,F,H⟩:=br H
  have hl_n522 : s.length = n41.length:=by rw [F]; exact eM (by rw [List.length_take]; omega)
  refine rH 8 (by kernel_rfl) rfl rfl (.no rfl) (fY (k:=2) (l:=0 + (i64.wrap (a1 + n11))) (m:=(n41.length : Int) - (i64.wrap (a1 + n11))) (xs:=n41) (ys:=sub l0 (0 + a1) ((0 + a1) + ((l0.length : Int) - a1))) s F a0 rfl Tryz.underlying29 jG rfl rfl rfl (by omega) rfl (pO.win (Src.buf (k:=1) rfl) a2 rfl (by omega)) ?_)
  try rewrite [← hl_n522]
  refine aH (by kernel_rfl) ?_
  refine aa (aQ ?_)
  refine s' (.slice o s.length d) fM ?_
  refine s' (.slice o s.length d) sf ?_
  refine cE ?_
  have h:=aN H;subst h
  exact er [2,0] ⟨o,d,rfl,rfl⟩
 subst u
 subst y
 obtain⟨i_,rfl⟩ : ∃ i_ : Nat,a1 = (i_ : Int):=⟨a1.toNat,by omega⟩
 have hwN : i64.wrap ((l0.length : Int) + (l2.length : Int)) = ((l0.length + l2.length : Nat) : Int):=by rw [IntKind.wrap_i64]; omega
 have hwI : i64.wrap ((i_ : Int) + (l2.length : Int)) = ((i_ + l2.length : Nat) : Int):=by rw [IntKind.wrap_i64]; omega
 have hroom : l0.length + l2.length ≤ c0:=by rw [hwN] at J; omega
 refine si (k:=0) rfl rfl (.inr (by omega)) fun ba Y b7 c5 p=>?_
 subst b7
 have p : Y.length = c0 * 1:=p
 refine si (k:=1) rfl rfl (.inr (by omega)) fun gV Z b8 a3 I=>?_
 subst b8
 have I : Z.length = c2 * 1:=I
 refine aA rfl J ?_
 refine ap (aa (aQ ?_))
 refine s' (.slice (some ⟨ba,0 * 1,none⟩) l0.length c0) fM ?_
 refine s' (ae (l0.length : Int)) fM ?_
 refine s' (ae (l2.length : Int)) fM ?_
 refine s' (ae (i64.wrap ((l0.length : Int) + (l2.length : Int)))) (bV rfl rfl) ?_
 refine s' (.slice (some ⟨ba,0 * 1,none⟩) ((l0.length + l2.length) - 0) (c0 - 0)) (jo (o2:=0) (a:=0) (h:=l0.length + l2.length) Tryz.underlying29 jG rfl rfl rfl (.inl ⟨rfl,rfl⟩) (.inr ⟨.i64,congrArg (fun z_=>some (Value.int .i64 z_)) hwN⟩) (by omega) (by omega) (by omega) (by omega)) ?_
 refine s' (.slice (some ⟨ba,0 * 1,none⟩) ((l0.length + l2.length) - 0) (c0 - 0)) sf ?_
 refine eJ ?_
 refine s' (.slice (some ⟨gV,0 * 1,none⟩) l2.length c2) fM ?_
 refine s' (.slice (some ⟨ba,0 * 1,none⟩) ((l0.length + l2.length) - 0) (c0 - 0)) fM ?_
 refine s' (ae (i_ : Int)) fM ?_
 refine s' (ae (l2.length : Int)) fM ?_
 refine s' (ae (i64.wrap ((i_ : Int) + (l2.length : Int)))) (bV rfl rfl) ?_
 refine s' (.slice (some ⟨ba,(i_ + l2.length) * 1,none⟩) (((l0.length + l2.length) - 0) - (i_ + l2.length)) ((c0 - 0) - (i_ + l2.length))) (jo (o2:=i_ + l2.length) (a:=i_ + l2.length) (h:=(l0.length + l2.length) - 0) Tryz.underlying29 jG rfl rfl rfl (.inr ⟨.i64,congrArg (fun z_=>some (Value.int .i64 z_)) hwI⟩) (.inl ⟨rfl,rfl⟩) (by omega) (by omega) (by omega) (by omega)) ?_
 refine l' (qw (k:=1) (k':=0) (tb:=4) rfl rfl (by decide) (by intro q_; rw [q_] at p; simp only [List.length_nil] at p; omega) Tryz.func155 yM (by kernel_rfl) (by kernel_rfl) (by kernel_rfl) Tryz.underlying29 jG rfl rfl) ?_
 refine s' (.bool true) (wX rfl) ?_
 refine bC ?_
 refine aC rfl rfl ?_
 refine ao ?_
 refine lI jy (bP.thn (bP.thn bP.body)) fun I0 b9 w0 pk=>?_
 refine eW (v:=.slice (some ⟨ba,0 * 1,none⟩) ((l0.length + l2.length) - 0) (c0 - 0)) 0 (by kernel_rfl) rfl rfl (.no rfl) pk rfl fM ?_
 refine eW (v:=ae (i_ : Int)) 1 (by kernel_rfl) rfl rfl (.no rfl) pk rfl fM ?_
 refine eW (v:=ae (l2.length : Int)) 2 (by kernel_rfl) rfl rfl (.no rfl) pk rfl fM ?_
 refine eW (v:=ae (i64.wrap ((i_ : Int) + (l2.length : Int)))) 3 (by kernel_rfl) rfl rfl (.no rfl) pk rfl (bV rfl rfl) ?_
 refine eW (v:=.slice (some ⟨ba,(i_ + l2.length) * 1,none⟩) (((l0.length + l2.length) - 0) - (i_ + l2.length)) ((c0 - 0) - (i_ + l2.length))) 4 (by kernel_rfl) rfl rfl (.no rfl) pk rfl (jo (o2:=i_ + l2.length) (a:=i_ + l2.length) (h:=(l0.length + l2.length) - 0) Tryz.underlying29 jG rfl rfl rfl (.inr ⟨.i64,congrArg (fun z_=>some (Value.int .i64 z_)) hwI⟩) (.inl ⟨rfl,rfl⟩) (by omega) (by omega) (by omega) (by omega)) ?_
 refine eW (v:=.slice (some ⟨ba,0 * 1,none⟩) ((l0.length + l2.length) - 0) (c0 - 0)) 5 (by kernel_rfl) rfl rfl (.no rfl) pk rfl fM ?_
 refine eW (v:=ae (i_ : Int)) 6 (by kernel_rfl) rfl rfl (.no rfl) pk rfl fM ?_
 refine eW (v:=.slice (some ⟨ba,i_ * 1,none⟩) (((l0.length + l2.length) - 0) - i_) ((c0 - 0) - i_)) 7 (by kernel_rfl) rfl rfl (.no rfl) pk rfl (jo (o2:=i_) (a:=i_) (h:=(l0.length + l2.length) - 0) Tryz.underlying29 jG rfl rfl rfl (.inr ⟨.i64,rfl⟩) (.inl ⟨rfl,rfl⟩) (by omega) (by omega) (by omega) (by omega)) ?_
 refine rH 8 (by kernel_rfl) rfl rfl (.no rfl) (nV (k:=0) (kS:=0) (off:=i_ + l2.length) (so:=i_) (cnt:=l0.length - i_) (es:=(Y.drop (i_ * 1)).take ((l0.length - i_) * 1)) rfl Tryz.underlying29 jG rfl rfl rfl (by omega) (by omega) rfl rfl rfl (by omega) (fun I_ h_ s_=>rO (oa (j:=2) rfl s_) (by show _ ≤ l0.length * 1; omega)) ?_)
 refine aH (by kernel_rfl) ?_
 refine aa (aQ ?_)
 refine s' (.slice (some ⟨ba,0 * 1,none⟩) ((l0.length + l2.length) - 0) (c0 - 0)) fM ?_
 refine s' (ae (i_ : Int)) fM ?_
 refine s' (.slice (some ⟨ba,i_ * 1,none⟩) (((l0.length + l2.length) - 0) - i_) ((c0 - 0) - i_)) (jo (o2:=i_) (a:=i_) (h:=(l0.length + l2.length) - 0) Tryz.underlying29 jG rfl rfl rfl (.inr ⟨.i64,rfl⟩) (.inl ⟨rfl,rfl⟩) (by omega) (by omega) (by omega) (by omega)) ?_
 refine s' (.slice (some ⟨gV,0 * 1,none⟩) l2.length c2) fM ?_
 refine o' (nV (k:=0) (kS:=1) (off:=i_) (so:=0) (cnt:=l2.length) (es:=(Z.drop (0 * 1)).take (l2.length * 1)) rfl Tryz.underlying29 jG rfl rfl rfl (by omega) (by omega) rfl rfl rfl (by omega) (fun I_ h_ s_=>rO (oa (j:=3) rfl s_) (by show _ ≤ l2.length * 1; omega)) ?_)
 refine cV ?_
 refine s' (.slice (some ⟨ba,0 * 1,none⟩) ((l0.length + l2.length) - 0) (c0 - 0)) fM ?_
 refine s' (.slice (some ⟨ba,0 * 1,none⟩) ((l0.length + l2.length) - 0) (c0 - 0)) sf ?_
 refine cE ?_
 have h:=aN H;subst h
 have hln_ : (l0.take (i_ : Int).toNat ++ l2 ++ l0.drop (i_ : Int).toNat).length = l0.length + l2.length:=by simp; omega
 exact mq [fm 3 (some ⟨ba,0,none⟩) c0 (l0.take (i_ : Int).toNat ++ l2 ++ l0.drop (i_ : Int).toNat),fm 3 (some ⟨gV,0,none⟩) c2 l2] rfl rfl ((qa (k:=0) (zs:=l0.take (i_ : Int).toNat ++ l2 ++ l0.drop (i_ : Int).toNat) rfl (by rw [hln_]; omega) (fun I_ h_ s_=>sN (i:=i_) rfl (oa (j:=2) rfl s_) (oa (j:=3) rfl s_) (by omega) (by omega) p (by show l2.length * 1 ≤ _; omega))).trans ((qa (k:=1) (zs:=l2) rfl a3 (fun I_ h_ s_=>oa (j:=3) rfl s_)).trans (eY [0,1]))) ⟨some ⟨ba,0,none⟩,c0,(by rw [hln_]; rfl),rfl⟩


def ma.f (l0 : (List Int)) (a1 : Int) (a2 : Int) : Option ((List Int)):=if 0 ≤ a1∧a1 ≤ a2∧a2 ≤ (l0.length : Int)∧a2 ≤ (l0.length : Int)∧(l0.length : Int) ≤ (l0.length : Int) then (if a1 = a2 then (some (l0)) else (lt ((l0.length : Int)) fun n10=>if 0 ≤ (0 : Int)∧(0 : Int) ≤ a1∧a1 ≤ (l0.length : Int) then (if 0 ≤ a2∧a2 ≤ (l0.length : Int)∧(l0.length : Int) ≤ (l0.length : Int) then (if (0 + (0 : Int)) + (a1 - (0 : Int)) + ((l0.length : Int) - a2) ≤ (l0.length : Int) then lt (bo l0 ((0 + (0 : Int)) + (a1 - (0 : Int))).toNat (sub l0 (0 + a2) ((0 + a2) + ((l0.length : Int) - a2)))) fun a=>(if 0 ≤ ((a1 - (0 : Int)) + ((l0.length : Int) - a2))∧((a1 - (0 : Int)) + ((l0.length : Int) - a2)) ≤ n10∧(0 + (0 : Int)) + n10 ≤ (a.length : Int) then (if ((0 + (0 : Int)) + ((a1 - (0 : Int)) + ((l0.length : Int) - a2))) + (n10 - ((a1 - (0 : Int)) + ((l0.length : Int) - a2))) ≤ (a.length : Int) then lt (bo a ((0 + (0 : Int)) + ((a1 - (0 : Int)) + ((l0.length : Int) - a2))).toNat (List.replicate (n10 - ((a1 - (0 : Int)) + ((l0.length : Int) - a2))).toNat 0)) fun b=>(some (b.take ((a1 - (0 : Int)) + ((l0.length : Int) - a2)).toNat)) else none) else none) else none) else none) else none)) else none
theorem ma.ok {l0 : (List Int)} {a1 : Int} {a2 : Int} {A0 : Option Addr} {c0 : Nat} {r : (List Int)} (H : ma.f l0 a1 a2 = some r) : df Tryz.prog 134 #[.slice A0 l0.length c0,ae a1,ae a2] [fm 3 A0 c0 l0] (fun v B=>∃ aP aO,v = .slice aP r.length aO∧B = [fm 3 aP aO r]):=by
 refine ai Tryz.func134 rfl rfl ?_
 unfold ma.f at H
 refine aQ (ad aV (h:=bC (ao (bj 0 fun a5=>ah (ad ax (h:=ad ax (h:=ad ax (h:=ad ax (h:=s' (ae (l0.length : Int)) (dB Tryz.underlying29 rfl) ?_)))))))))
 obtain⟨⟨S,U,Y,Z,g7⟩,H⟩:=aR H
 refine s' (.slice (cL A0 a1 (l0.length : Int) 1) (a2 - a1).toNat ((l0.length : Int).toNat - a1.toNat)) (dh (l:=0) (m:=(l0.length : Int)) (a:=a1) (b:=a2) (q:=(l0.length : Int)) (dZ.whole (A:=A0) (sz:=1) (xs:=l0) (c:=c0) (by omega)) Tryz.underlying29 jG rfl rfl rfl rfl (.inr ⟨_,rfl⟩) (.inr ⟨_,rfl⟩) (.inr ⟨⟨_,rfl⟩,⟨_,rfl⟩,Z,g7⟩) S U Y) ?_
 have a6 : dZ A0 (cL A0 a1 (l0.length : Int) 1) 1 (0 + a1) (a2 - a1) ((l0.length : Int).toNat - a1.toNat):=dZ.sub (dZ.whole (A:=A0) (sz:=1) (xs:=l0) (c:=c0) (by omega)) S U Y (.inr Z) (Int.le_trans g7 ((dZ.whole (A:=A0) (sz:=1) (xs:=l0) (c:=c0) (by omega))).cap)
 refine eJ (ad ax (h:=ad ax (h:=ad (bk rfl rfl) (h:=bC ?_))))
 rcases bH H with⟨O,H⟩|⟨O,H⟩
 ·refine aB rfl O (aQ (ad ax (h:=ad aV (h:=cE ?_))))
  have h:=aN H;subst h
  exact er [0] ⟨A0,c0,rfl,rfl⟩
 refine aA rfl O (ap (aa (aQ (ad ax (h:=s' (ae (l0.length : Int)) (dB Tryz.underlying29 rfl) ?_)))))
 obtain⟨n10,R,H⟩:=br H
 refine bO (ae n10) (bz (v:=ae n10) (congrArg (Value.int .i64) R.symm)) (h:=bC (ao ?_))
 refine lI jy (bP.thn bP.body) fun I0 a7 w0 pk=>?_
 refine bW 0 rfl ax (h:=yt 1 rfl ax ?_)
 obtain⟨⟨D,E,F⟩,H⟩:=aR H
 refine CZ (.slice (cL A0 (0 : Int) ((c0 : Nat) : Int) 1) (a1 - (0 : Int)).toNat (((c0 : Nat) : Int).toNat - (0 : Int).toNat)) 2 rfl (dh (l:=0) (m:=(l0.length : Int)) (a:=(0 : Int)) (b:=a1) (q:=((c0 : Nat) : Int)) (dZ.whole (A:=A0) (sz:=1) (xs:=l0) (c:=c0) (by omega)) Tryz.underlying29 jG rfl rfl rfl rfl (.inl ⟨rfl,rfl⟩) (.inr ⟨_,rfl⟩) (.inl ⟨rfl,rfl⟩) D E F) ?_
 have u : dZ A0 (cL A0 (0 : Int) ((c0 : Nat) : Int) 1) 1 (0 + (0 : Int)) (a1 - (0 : Int)) (((c0 : Nat) : Int).toNat - (0 : Int).toNat):=dZ.sub (dZ.whole (A:=A0) (sz:=1) (xs:=l0) (c:=c0) (by omega)) D E F (.inl rfl) (Int.le_refl _)
 refine bW 3 rfl ax (h:=yt 4 rfl ax ?_)
 obtain⟨⟨I,J,K⟩,H⟩:=aR H
 refine CZ (.slice (cL A0 a2 ((c0 : Nat) : Int) 1) ((l0.length : Int) - a2).toNat (((c0 : Nat) : Int).toNat - a2.toNat)) 5 rfl (dh (l:=0) (m:=(l0.length : Int)) (a:=a2) (b:=(l0.length : Int)) (q:=((c0 : Nat) : Int)) (dZ.whole (A:=A0) (sz:=1) (xs:=l0) (c:=c0) (by omega)) Tryz.underlying29 jG rfl rfl rfl rfl (.inr ⟨_,rfl⟩) (.inl ⟨rfl,rfl,rfl⟩) (.inl ⟨rfl,rfl⟩) I J K) ?_
 have o : dZ A0 (cL A0 a2 ((c0 : Nat) : Int) 1) 1 (0 + a2) ((l0.length : Int) - a2) (((c0 : Nat) : Int).toNat - a2.toNat):=dZ.sub (dZ.whole (A:=A0) (sz:=1) (xs:=l0) (c:=c0) (by omega)) I J K (.inl rfl) (Int.le_refl _)
 obtain⟨a0,H⟩:=aR H
 obtain⟨p,y,H⟩:=br H
 have hq372l:=ny (xs:=l0) o.lo o.no (by omega)
 have N : (a1 - (0 : Int)) + ((sub l0 (0 + a2) ((0 + a2) + ((l0.length : Int) - a2))).length : Int) = (a1 - (0 : Int)) + ((l0.length : Int) - a2):=by omega
 have hl_n371 : p.length = l0.length:=by rw [y]; exact eM (by omega)
 have d : dZ A0 (cL A0 (0 : Int) ((c0 : Nat) : Int) 1) 1 (0 + (0 : Int)) ((a1 - (0 : Int)) + ((l0.length : Int) - a2)) (((c0 : Nat) : Int).toNat - (0 : Int).toNat):=dZ.grow u (by omega) (by omega)
 refine ey 6 rfl (uG (k:=0) (l:=0 + (0 : Int)) (m:=a1 - (0 : Int)) (xs:=l0) (ys:=sub l0 (0 + a2) ((0 + a2) + ((l0.length : Int) - a2))) p y u rfl Tryz.underlying29 qA rfl rfl rfl rfl (oe.win Tryz.underlying29 (Src.buf (k:=0) rfl) o rfl (by omega)) (by omega) (by omega) (N ▸ (bW 7 rfl aV (h:=aH (by kernel_rfl) (aa (aQ (bO (.slice (cL A0 (0 : Int) ((c0 : Nat) : Int) 1) ((a1 - (0 : Int)) + ((l0.length : Int) - a2)).toNat (((c0 : Nat) : Int).toNat - (0 : Int).toNat)) fM (h:=bO (.slice (cL A0 (0 : Int) ((c0 : Nat) : Int) 1) ((a1 - (0 : Int)) + ((l0.length : Int) - a2)).toNat (((c0 : Nat) : Int).toNat - (0 : Int).toNat)) fM (h:=bO (ae ((a1 - (0 : Int)) + ((l0.length : Int) - a2))) (jV d Tryz.underlying29 rfl) (h:=S' ax ?_))))))))))
 obtain⟨⟨L,M,a3⟩,H⟩:=aR H
 refine s' (.slice (cL (cL A0 (0 : Int) ((c0 : Nat) : Int) 1) ((a1 - (0 : Int)) + ((l0.length : Int) - a2)) ((((c0 : Nat) : Int).toNat - (0 : Int).toNat : Nat) : Int) 1) (n10 - ((a1 - (0 : Int)) + ((l0.length : Int) - a2))).toNat (((((c0 : Nat) : Int).toNat - (0 : Int).toNat : Nat) : Int).toNat - ((a1 - (0 : Int)) + ((l0.length : Int) - a2)).toNat)) (uh (l:=0 + (0 : Int)) (m:=(a1 - (0 : Int)) + ((l0.length : Int) - a2)) (a:=(a1 - (0 : Int)) + ((l0.length : Int) - a2)) (b:=n10) (q:=((((c0 : Nat) : Int).toNat - (0 : Int).toNat : Nat) : Int)) d Tryz.underlying29 jG rfl rfl rfl rfl (.inr ⟨_,rfl⟩) (.inr ⟨_,rfl⟩) L M (by omega)) ?_
 have s : dZ A0 (cL (cL A0 (0 : Int) ((c0 : Nat) : Int) 1) ((a1 - (0 : Int)) + ((l0.length : Int) - a2)) ((((c0 : Nat) : Int).toNat - (0 : Int).toNat : Nat) : Int) 1) 1 ((0 + (0 : Int)) + ((a1 - (0 : Int)) + ((l0.length : Int) - a2))) (n10 - ((a1 - (0 : Int)) + ((l0.length : Int) - a2))) (((((c0 : Nat) : Int).toNat - (0 : Int).toNat : Nat) : Int).toNat - ((a1 - (0 : Int)) + ((l0.length : Int) - a2)).toNat):=dZ.sub (dZ.grow d (show 0 ≤ n10 by omega) (by omega)) L M (Int.le_refl _) (.inl rfl) (Int.le_refl _)
 obtain⟨a4,H⟩:=aR H
 obtain⟨j,z,H⟩:=br H
 have hl_n499 : j.length = p.length:=by rw [z]; exact eM (by rw [List.length_replicate]; have:=s.lo; have:=s.no; omega)
 refine o' (sF (k:=0) (l:=(0 + (0 : Int)) + ((a1 - (0 : Int)) + ((l0.length : Int) - a2))) (m:=n10 - ((a1 - (0 : Int)) + ((l0.length : Int) - a2))) (xs:=p) (z0:=0) j z s rfl Tryz.underlying29 ot rfl rfl rfl (fun _=>rfl) (by omega) (bC (SA.of_St (l:=[(0,.slice (cL A0 (0 : Int) ((c0 : Nat) : Int) 1) ((a1 - (0 : Int)) + ((l0.length : Int) - a2)).toNat (((c0 : Nat) : Int).toNat - (0 : Int).toNat))]) (B:=[fm 3 A0 c0 j]) (St.mk1 (cJ rfl dQ) (Gh.sel [0] (by kernel_rfl) (by kernel_rfl))) fun junk=>aQ (bO (.slice (cL A0 (0 : Int) ((c0 : Nat) : Int) 1) ((a1 - (0 : Int)) + ((l0.length : Int) - a2)).toNat (((c0 : Nat) : Int).toNat - (0 : Int).toNat)) fM (h:=bO (.slice (cL A0 (0 : Int) ((c0 : Nat) : Int) 1) ((a1 - (0 : Int)) + ((l0.length : Int) - a2)).toNat (((c0 : Nat) : Int).toNat - (0 : Int).toNat)) sf (h:=cF ?_))))))
 have hln_ : (j.take ((a1 - (0 : Int)) + ((l0.length : Int) - a2)).toNat).length = ((a1 - (0 : Int)) + ((l0.length : Int) - a2)).toNat:=by rw [List.length_take]; have:=d.no; omega
 have hva_ : cL A0 (0 : Int) ((c0 : Nat) : Int) 1 = A0:=by simp only [tE]
 have hvc_ : ((c0 : Nat) : Int).toNat - (0 : Int).toNat = c0:=by omega
 have h:=aN H;subst h
 exact mq [fm 3 A0 c0 (j.take ((a1 - (0 : Int)) + ((l0.length : Int) - a2)).toNat)] rfl (by show (.slice (cL A0 (0 : Int) ((c0 : Nat) : Int) 1) ((a1 - (0 : Int)) + ((l0.length : Int) - a2)).toNat (((c0 : Nat) : Int).toNat - (0 : Int).toNat) : Value) = _; rw [hln_,hva_,hvc_]) ((tD (k:=0) (((a1 - (0 : Int)) + ((l0.length : Int) - a2)).toNat) rfl).trans (eY [0])) ⟨A0,c0,rfl,rfl⟩


def iS.f (k : Nat) (p0 : aG) (a1 : Int) : Option (aG):=(fO.f k p0.f7 p0.f2).bind (fun a=>lt ((decide (a1 = 0)) && (!a.2)) fun h=>if h = true then ((js.f p0.f7 a.1 ([p0.f2] : (List Int))).bind (fun b=>some (({ p0 with f7:=b })))) else (lt ((decide (a1 = 1)) && a.2) fun c=>if c = true then ((ma.f p0.f7 a.1 (i64.wrap (a.1 + 1))).bind (fun d=>some (({ p0 with f7:=d })))) else (if a1 = 2 then (some (({ p0 with f7:=([] : (List Int)) }))) else (some (p0)))))
theorem iS.ok {p0 : aG} {a1 : Int} {r : aG} (H : iS.f k p0 a1 = some r) : df Tryz.prog 93 #[.agg #[.pointer (some ⟨ba,0,none⟩)],ae a1] (cK ba p0 ag af az ay aw ar av au) (fun v B=>∃ P0_0_ q0_0_ P0_1_ q0_1_ P0_2_ q0_2_ P0_3_ q0_3_,v = .tuple #[]∧B = (cK ba r P0_0_ q0_0_ P0_1_ q0_1_ P0_2_ q0_2_ P0_3_ q0_3_)):=by
 refine ai Tryz.func93 rfl rfl ?_
 unfold iS.f at H
 refine aQ (o' (bN (h:=fun y=>bC (ao (bj 1 fun O=>bj 2 fun R=>bj 3 fun M=>bj 4 fun N=>?_)))))
 refine fk (0::1::2::3::4::5::6::7::8::9::11::12::13::14::15::[]) [0,5] (dG 1 4) fun _ _ _ _ _ sH dd pk=>?_
 refine bf 0 rfl sH aE (h:=bT 1 rfl sH (aT 1) (h:=bf 2 rfl sH cz (h:=bf 3 rfl sH aE (h:=bT 4 rfl sH (aT 0) (h:=bf 5 rfl sH aE (h:=bT 6 rfl sH (aT 1) (h:=bf 7 rfl sH cz (h:=bf 8 rfl sH aE (h:=r' 9 rfl sH (aT 0) ?_)))))))))
 obtain⟨l,K,H⟩:=ac H
 refine dx 10 rfl dd (da [1] [0,2,3] (fO.ok (A0:=az) (c0:=ay) K) ?_)
 refine bf 11 rfl sH ax (h:=bf 12 rfl sH cg (h:=bf 13 rfl sH cg (h:=bf 14 rfl sH aV (h:=bf 15 rfl sH aV (h:=aW dd sH (aH (by kernel_rfl) (aa (aU (aQ (ad ax (h:=S' (bk rfl rfl) ?_)))))))))))
 refine S' ax ?_
 obtain⟨L,o,H⟩:=br H
 refine eg 3 [(1,ae a1),(2,aK y),(4,ae l.1),(5,.bool l.2),(26,.bool L)] (aL ba 34 (al p0 ag af az ay aw ar av au)::(aS p0 ag af az ay aw ar av au++[aL y 84 [aK ba]])) ?_ fun junk=>?_
 ·by_cases b : a1 = 0
  ·refine bn (ak b) ax (h:=bn (ak b) (ca rfl) (h:=cq (ak b) (h:=aj ?_)))
   have x_:=gD o ((ak b));exact bM [0,3,2,4,5,1]
  refine cI 2 (am b) (cv (am b) (h:=aj ?_))
  have x_:=gC o ((am b));exact bM [0,3,2,4,5,1]
 refine ad aV (h:=bC ?_)
 rcases bH H with⟨m,H⟩|⟨m,H⟩
 ·refine aC rfl m ?_
  refine fk (0::1::2::3::4::5::6::7::8::9::10::11::12::15::16::[]) [0,5] (dG 1 4) fun _ _ _ _ _ sH dd pk=>?_
  refine bf 0 rfl sH aE (h:=bT 1 rfl sH (aT 1) (h:=bf 2 rfl sH aE (h:=bT 3 rfl sH (aT 1) (h:=bf 4 rfl sH cz (h:=bf 5 rfl sH aE (h:=bT 6 rfl sH (aT 0) (h:=bf 7 rfl sH ax (h:=bf 8 rfl sH aE (h:=r' 9 rfl sH (aT 1) ?_)))))))))
  refine bf 10 rfl sH cz (h:=bf 11 rfl sH aE (h:=bT 12 rfl sH (aT 0) (h:=dx 13 rfl dd (hU (kd:=(Kd.int .i64)) (zv:=(ae 0)) (sz:=1) (cells:=[ae p0.f2]) (xs:=([p0.f2] : (List Int))) rfl Tryz.underlying29 ot jG rfl rfl rfl (by kernel_rfl) rfl rfl (dL (fun x_ : Int=>[Value.int .i64 x_]) (fun _ _=>rfl) (by kernel_rfl)) fun z=>?_))))
  obtain⟨D,E,H⟩:=ac H
  refine dx 14 rfl dd (gu [1,4] [0,2,3] (js.ok (A0:=az) (c0:=ay) (A2:=some ⟨z,0,none⟩) (c2:=1) E) fun p q=>?_)
  refine bf 15 rfl sH cz (h:=bf 16 rfl sH aE (h:=aW dd sH (ey 17 rfl (cH 0 [.slice p D.length q] (h:=(aH (by kernel_rfl) (aF ?_)))))))
  have h:=aN H;subst h
  exact fD [0,4,2,5,6] ⟨ag,af,p,q,aw,ar,av,au,rfl,rfl⟩
 refine aD rfl m (aQ (ad ax (h:=ad (bk rfl rfl) (h:=S' ax ?_))))
 obtain⟨F,j,H⟩:=br H
 refine eg 2 [(1,ae a1),(2,aK y),(4,ae l.1),(49,.bool F)] (aL ba 34 (al p0 ag af az ay aw ar av au)::(aS p0 ag af az ay aw ar av au++[aL y 84 [aK ba]])) ?_ fun junk=>?_
 ·by_cases a : a1 = 1
  ·refine bn (ak a) ax (h:=cq (ak a) (h:=aj ?_))
   have x_:=gD j ((ak a));exact bM [0,1,2,3,4,5]
  refine cI 1 (am a) (cv (am a) (h:=aj ?_))
  have x_:=gC j ((am a));exact bM [0,1,2,3,4,5]
 refine ad aV (h:=bC ?_)
 rcases bH H with⟨c,H⟩|⟨c,H⟩
 ·refine aC rfl c ?_
  refine fk [0,1,2,3,4,5,6,7,8,9,11,12] [0,5] (dG 1 4) fun _ _ _ _ _ sH dd pk=>?_
  refine bf 0 rfl sH aE (h:=bT 1 rfl sH (aT 1) (h:=bf 2 rfl sH aE (h:=bT 3 rfl sH (aT 1) (h:=bf 4 rfl sH cz (h:=bf 5 rfl sH aE (h:=bT 6 rfl sH (aT 0) (h:=bf 7 rfl sH ax (h:=bf 8 rfl sH ax (h:=T' 9 rfl sH (bV rfl rfl) ?_)))))))))
  obtain⟨I,J,H⟩:=ac H
  refine dx 10 rfl dd (gu [1] [0,2,3] (ma.ok (A0:=az) (c0:=ay) J) fun s u=>?_)
  refine bf 11 rfl sH cz (h:=bf 12 rfl sH aE (h:=aW dd sH (ey 13 rfl (cH 0 [.slice s I.length u] (h:=(aH (by kernel_rfl) (aF ?_)))))))
  have h:=aN H;subst h
  exact fD [0,3,2,4,5] ⟨ag,af,s,u,aw,ar,av,au,rfl,rfl⟩
 refine aD rfl c (aQ (ad ax (h:=ad (bk rfl rfl) (h:=ad aV (h:=bC ?_)))))
 rcases bH H with⟨d,H⟩|⟨d,H⟩
 ·refine aB rfl d (ah (ad aE (h:=bD (aT 5) (h:=ad cz (h:=ad aE (h:=o' (cH 0 [.slice none 0 0] (h:=(aj (aF ?_))))))))))
  have h:=aN H;subst h
  exact rX [aL ba 34 (al ({ p0 with f7:=([] : (List Int)) }) ag af none 0 aw ar av au),Buf bE 55 ag af p0.f0.f2,fm 3 none 0 ([] : (List Int)),Buf bE 55 aw ar p0.f16.f2,jf 21 av au p0.f17] rfl ((Gh.nilBuf (Kd.int .i64) 3).trans (eY [0,1,6,3,4])) ⟨ag,af,none,0,aw,ar,av,au,rfl,rfl⟩
 refine aA rfl d (ap (aF ?_))
 have h:=aN H;subst h
 exact fD [0,1,2,3,4] ⟨ag,af,az,ay,aw,ar,av,au,rfl,rfl⟩


def kb.f (k : Nat) (p0 : aG) (p1 : Int) : Option (aG):=(iS.f k p0 p1).bind (fun a=>some (a))
theorem kb.ok {p0 : aG} {p1 : Int} {r : aG} (H : kb.f k p0 p1 = some r) : df Tryz.prog 92 #[.agg #[.pointer (some ⟨ba,0,none⟩)],.pointer (some ⟨gV,0,none⟩)] (aL ba 34 (al p0 ag af az ay aw ar av au)::(aS p0 ag af az ay aw ar av au++[aL gV 3 [ae p1]])) (fun v B=>∃ P0_0_ q0_0_ P0_1_ q0_1_ P0_2_ q0_2_ P0_3_ q0_3_,v = .tuple #[]∧B = (aL ba 34 (al r P0_0_ q0_0_ P0_1_ q0_1_ P0_2_ q0_2_ P0_3_ q0_3_)::(aS r P0_0_ q0_0_ P0_1_ q0_1_ P0_2_ q0_2_ P0_3_ q0_3_++[aL gV 3 [ae p1]]))):=by
 refine ai Tryz.func92 rfl rfl ?_
 unfold kb.f at H
 refine aQ (o' (bN (h:=fun q=>bC (bj 1 fun z=>bj 2 fun s=>bj 3 fun u=>bj 4 fun y=>ah (bD (cG q 0 6 [aK ba]) (h:=l' (aT 5) ?_))))))
 obtain⟨D,a,H⟩:=ac H
 refine o' (dN [0,1,2,3,4] [5,6] (iS.ok (ba:=ba) a) fun b c d j l m o p=>?_)
 refine aj ?_
 have h:=aN H;subst h
 exact fD [0,1,2,3,4,5] ⟨b,c,d,j,l,m,o,p,rfl,rfl⟩


def iq.f (k : Nat) (a0 : aG) (p2000 : Int) : Option (aG × Int):=(ei.f k a0).bind (fun a=>if (!a) = true then (some (((aG.mk (bF.mk 0 0 ([] : (List aZ))) 0 0 false (cA.mk 0 0 false false false false false false false false) 0 0 ([] : (List Int)) false false false false false false (dq.mk 0 0 false false (cA.mk 0 0 false false false false false false false false)) false (bF.mk 0 0 ([] : (List aZ))) ([] : (List Int))),2))) else ((lL.f a0).bind (fun b=>(kb.f k b p2000).bind (fun c=>some ((c,0))))))
theorem iq.ok {a0 : aG} {p2000 : Int} {r : aG × Int} (H : iq.f k a0 p2000 = some r) : df Tryz.prog 62 #[.agg (al a0 ag af az ay aw ar av au).toArray,.func (.func 92) #[] #[.pointer (some ⟨bJ,0,none⟩)]] (eK a0 ag af az ay aw ar av au++[aL bJ 3 [ae p2000]]) (fun v B=>∃ aP aO bA bv bq bp bB bw,v = .tuple #[.agg (al r.1 aP aO bA bv bq bp bB bw).toArray,ae r.2]∧B = (aS r.1 aP aO bA bv bq bp bB bw++[aL bJ 3 [ae p2000]])):=by
 refine ai Tryz.func62 rfl rfl ?_
 unfold iq.f at H
 refine aQ (o' (bN (h:=fun b=>o' (cy (h:=fun s=>ad aV (h:=eJ (l' (ck 5) ?_)))))))
 obtain⟨R,u,H⟩:=ac H
 refine o' (da [0,1,2,3] [0,1,2,3,4,5,6] (rM.ok u) ?_)
 refine ad (ca rfl) (h:=bC ?_)
 rcases bH H with⟨a,H⟩|⟨a,H⟩
 ·refine aC rfl a (aQ (bO (.agg (al cx none 0 none 0 none 0 none 0).toArray) dA (h:=o' (bg s 0 6 (al cx none 0 none 0 none 0 none 0) (h:=ad aV (h:=cE ?_))))))
  have h:=aN H;subst h
  exact lT [.cell 4 34,.tmp 5] ((Gh.nilBuf bE 55).trans ((Gh.nilBuf (Kd.int .i64) 3).trans ((Gh.nilBuf bE 55).trans ((Gh.nilBuf (Kd.int .i32) 21).trans (eY [7,8,9,10,4]))))) ⟨none,0,none,0,none,0,none,0,rfl,rfl⟩ ⟨cR 6,cP,trivial⟩
 refine aD rfl a (ap (aa (aQ (l' (ck 5) ?_))))
 obtain⟨y,z,H⟩:=ac H
 refine o' (dN [0,1,2,3] [0,1,2,3,4,5,6] (lL.ok z) fun D E F I J K L M=>?_)
 refine o' (bg b 0 9 (al y D E F I J K L M) (h:=cV (ad ax (h:=s' (.agg #[aK b]) dA ?_))))
 obtain⟨N,O,H⟩:=ac H
 refine o' (rn [9,0,1,2,3,8] [4,5,6,7,10] (je (vs:=[.agg #[aK b]]) (cap:=[aK bJ]) rfl Tryz.func92 AP rfl rfl) (kb.ok (ba:=b) (gV:=bJ) O) ?_)
 rintro _ _⟨c,d,j,l,m,o,p,q,rfl,rfl⟩
 refine cV (bD (ck 0) (h:=o' (bg s 0 10 (al N c d j l m o p q) (h:=ad aV (h:=cF ?_)))))
 have h:=aN H;subst h
 exact dt [.cell 4 34,.tmp 5] [1,2,3,4,5] ⟨c,d,j,l,m,o,p,q,rfl,rfl⟩ ⟨cR 10,cP,trivial⟩


def xi.f (k : Nat) (a0 : aG) (a1 : Int) : Option (aG × Int):=(iq.f k a0 a1).bind (fun a=>some ((a.1,a.2)))
theorem xi.ok {a0 : aG} {a1 : Int} {r : aG × Int} (H : xi.f k a0 a1 = some r) : df Tryz.prog 37 #[.agg (al a0 ag af az ay aw ar av au).toArray,ae a1] (eK a0 ag af az ay aw ar av au) (fun v B=>∃ aP aO bA bv bq bp bB bw,v = .tuple #[.agg (al r.1 aP aO bA bv bq bp bB bw).toArray,ae r.2]∧B = (aS r.1 aP aO bA bv bq bp bB bw)):=by
 refine ai Tryz.func37 rfl rfl ?_
 unfold xi.f at H
 refine aQ (o' (bN (h:=fun y=>o' (bN (h:=fun p=>o' (cy (h:=fun u=>ad aV (h:=cV (bD (ck 4) (h:=s' (.func (.func 92) #[] #[aK p]) (dy (us:=[aK p]) rfl) ?_))))))))))
 obtain⟨q,s,H⟩:=ac H
 refine o' (dN [0,1,2,3,5] [0,1,2,3,4,6] (iq.ok (bJ:=p) s) fun a b c d j l m o=>?_)
 refine ad cg (h:=ad cg (h:=o' (bg u 0 10 (al q.1 a b c d j l m o) (h:=ad aV (h:=cF ?_)))))
 have h:=aN H;subst h
 exact dt [.cell 4 34,.tmp 5] [0,1,2,3] ⟨a,b,c,d,j,l,m,o,rfl,rfl⟩ ⟨cR 10,cP,trivial⟩


def iP.f (k : Nat) (p0 : aG) (a1 : Int) : Option (aG):=(dP.f p0).bind (fun a=>if (0 ≤ a.1∧0 ≤ a.2∧a.1 + a.2 ≤ (p0.f0.f2.length : Int)) then ((mc.f a1).bind (fun d=>(kJ.f (i64.wrap (p0.f2 + d)) p0.f2 p0.f0.f0).bind (fun c=>(ja.f k p0.f0.f2 a.1 a.2 p0.f2 c p0.f4).bind (fun b=>if b.length = p0.f0.f2.length then (some (({ p0 with f0:=(bF.mk p0.f0.f0 p0.f0.f1 b),f3:=false }))) else none)))) else none)
theorem iP.ok {p0 : aG} {a1 : Int} {r : aG} (H : iP.f k p0 a1 = some r) : df Tryz.prog 95 #[.agg #[.pointer (some ⟨ba,0,none⟩)],ae a1] (cK ba p0 ag af az ay aw ar av au) (fun v B=>∃ P0_0_ q0_0_ P0_1_ q0_1_ P0_2_ q0_2_ P0_3_ q0_3_,v = .tuple #[]∧B = (cK ba r P0_0_ q0_0_ P0_1_ q0_1_ P0_2_ q0_2_ P0_3_ q0_3_)):=by
 refine ai Tryz.func95 rfl rfl ?_
 unfold iP.f at H
 refine aQ (o' (bN (h:=fun a=>bC (ao (bj 1 fun F=>bj 2 fun I=>bj 3 fun D=>bj 4 fun E=>?_)))))
 refine fN (0::2::3::4::5::6::7::8::9::10::11::12::14::15::16::17::18::19::20::21::22::23::24::25::27::28::29::30::31::[]) (List.toArray ([]::[0]::[]::[2]::[2,3]::[2,3,4]::(dG 2 4)::[]::[7]::[7,8]::[7,8,9]::(dG 7 4)::[]::[0,12]::[0,7,8,9,10,11,12]::[]::[15]::[15,16]::[15,16,17]::(dG 15 4)::[]::[20]::[20,21]::[20,21,22]::(dG 20 4)::(dG 20 5)::(0::7::8::9::10::11::12::14::15::16::17::18::19::20::21::22::23::24::25::[])::[]::[27]::[27,28]::[27,28,29]::(dG 27 4)::(0::2::3::4::5::6::7::8::9::10::11::12::14::15::16::17::18::19::20::21::22::23::24::25::27::28::29::30::31::[])::[])) [aL ba 34 (al p0 ag af az ay aw ar av au),aL a 84 [aK ba]] jy (bP.thn bP.body) fun K J L pk=>?_
 refine gY 0 [0,5] rfl (cG a 0 1 [aK ba]) (h:=eb (aK a) 2 [0,5] rfl (kB a 0 0) (h:=gY 3 [0,5] rfl (ig a 0 1) (h:=eb (aK ba) 4 [0,5] rfl cz (h:=eb (qF ba 4) 5 [0,5] rfl (kB ba 0 4) (h:=gY 6 [0,5] rfl (ig ba 4 0) (h:=eb (aK a) 7 [0,5] rfl (kB a 0 0) (h:=gY 8 [0,5] rfl (ig a 0 1) (h:=eb (aK ba) 9 [0,5] rfl cz (h:=vU (qF ba 4) 10 [0,5] rfl (kB ba 0 4) ?_)))))))))
 refine gY 11 [0,5] rfl (ig ba 4 0) (h:=eb (ae a1) 12 [0,5] rfl fM (h:=eb (aK a) 15 [0,5] rfl (kB a 0 0) (h:=gY 16 [0,5] rfl (ig a 0 1) (h:=eb (aK ba) 17 [0,5] rfl cz (h:=eb (qF ba 4) 18 [0,5] rfl (kB ba 0 4) (h:=gY 19 [0,5] rfl (ig ba 4 0) (h:=eb (aK a) 20 [0,5] rfl (kB a 0 0) (h:=gY 21 [0,5] rfl (ig a 0 1) (h:=vU (aK ba) 22 [0,5] rfl cz ?_)))))))))
 refine eb (aK ba) 23 [0,5] rfl (kB ba 0 0) (h:=eb (aK ba) 24 [0,5] rfl (kB ba 0 0) (h:=gY 25 [0,5] rfl (ig ba 0 0) (h:=eb (aK a) 27 [0,5] rfl (kB a 0 0) (h:=gY 28 [0,5] rfl (ig a 0 1) (h:=eb (aK ba) 29 [0,5] rfl cz (h:=eb (qF ba 6) 30 [0,5] rfl (kB ba 0 6) (h:=sA 31 [0,5] rfl (cG ba 6 0 (bG p0.f4)) ?_)))))))
 obtain⟨m,s,H⟩:=ac H
 obtain⟨⟨hl76a,hl76b,hl76c⟩,H⟩:=aR H
 refine eU 1 (by kernel_rfl) rfl (.no rfl) (mC [0,1,2,3,4] [5] (dP.ok (ba:=ba) s) ?_)
 rintro _ _⟨u,y,o,rfl,rfl⟩
 refine ⟨fun _=>⟨[0,5],rfl,rfl⟩,?_⟩
 obtain⟨p,q,H⟩:=ac H
 refine eU 13 (by kernel_rfl) rfl (.no rfl) (da [] [0,1,2,3,4,5] (mc.ok q) ?_)
 refine ⟨fun _=>⟨[0,5],rfl,rfl⟩,?_⟩
 refine vU (ae (i64.wrap (p0.f2 + p))) 14 [0,5] rfl (bV rfl rfl) ?_
 obtain⟨z,d,H⟩:=ac H
 refine eU 26 (by kernel_rfl) rfl (.no rfl) (da [] [0,1,2,3,4,5] (kJ.ok d) ?_)
 refine ⟨fun _=>⟨[0,5],rfl,rfl⟩,?_⟩
 obtain⟨b,j,H⟩:=ac H
 obtain⟨c,H⟩:=aR H
 refine eU 32 (by kernel_rfl) rfl (.no rfl) (da [1] [0,2,3,4,5] (ja.ok (o0:=m.1) (n0:=m.2) (A0:=ag) (c0:=af) (V0:=u) (v0:=y) (hw0:=o) j) ?_)
 try unfold cK
 try unfold kD
 try unfold al
 try rewrite [← c]
 refine ⟨fun h_=>absurd h_ (by decide),?_⟩
 refine aH (by kernel_rfl) (aa (SA.of_St (l:=[(2,aK a)]) (B:=[aL ba 34 (al ({ p0 with f0:=(bF.mk p0.f0.f0 p0.f0.f1 b) }) ag af az ay aw ar av au),Buf bE 55 ag af b,fm 3 az ay p0.f7,Buf bE 55 aw ar p0.f16.f2,jf 21 av au p0.f17,aL a 84 [aK ba]]) (St.mk1 (cJ rfl dQ) (Gh.sel [1,0,2,3,4,5] (by kernel_rfl) (by kernel_rfl))) fun junk=>ah (ad aE (h:=bD (aT 5) (h:=ad cz (h:=ad aE (h:=o' (cH 0 [.bool false] (h:=(aj ?_))))))))))
 have h:=aN H;subst h
 exact fD [0,1,2,3,4] ⟨ag,af,az,ay,aw,ar,av,au,rfl,rfl⟩


def kt.f (k : Nat) (p0 : aG) (p1 : Int) : Option (aG):=(iP.f k p0 p1).bind (fun a=>some (a))
theorem kt.ok {p0 : aG} {p1 : Int} {r : aG} (H : kt.f k p0 p1 = some r) : df Tryz.prog 94 #[.agg #[.pointer (some ⟨ba,0,none⟩)],.pointer (some ⟨gV,0,none⟩)] (aL ba 34 (al p0 ag af az ay aw ar av au)::(aS p0 ag af az ay aw ar av au++[aL gV 3 [ae p1]])) (fun v B=>∃ P0_0_ q0_0_ P0_1_ q0_1_ P0_2_ q0_2_ P0_3_ q0_3_,v = .tuple #[]∧B = (aL ba 34 (al r P0_0_ q0_0_ P0_1_ q0_1_ P0_2_ q0_2_ P0_3_ q0_3_)::(aS r P0_0_ q0_0_ P0_1_ q0_1_ P0_2_ q0_2_ P0_3_ q0_3_++[aL gV 3 [ae p1]]))):=by
 refine ai Tryz.func94 rfl rfl ?_
 unfold kt.f at H
 refine aQ (o' (bN (h:=fun q=>bC (bj 1 fun z=>bj 2 fun s=>bj 3 fun u=>bj 4 fun y=>ah (bD (cG q 0 6 [aK ba]) (h:=l' (aT 5) ?_))))))
 obtain⟨D,a,H⟩:=ac H
 refine o' (dN [0,1,2,3,4] [5,6] (iP.ok (ba:=ba) a) fun b c d j l m o p=>?_)
 refine aj ?_
 have h:=aN H;subst h
 exact fD [0,1,2,3,4,5] ⟨b,c,d,j,l,m,o,p,rfl,rfl⟩

end Go.Proofs.YtckilbegmbaeeaaGreat.Z3

/- Walks. -/
import Derived.Test.YtckilbegmbaeeaaGreatZ62
namespace Go.Proofs.YtckilbegmbaeeaaGreat.Z6
open Go Go.RowKit Go.Proofs.YtckilbegmbaeeaaGreat.SL
open Go.IntKind (i64)
set_option linter.unusedVariables false
set_option maxHeartbeats 20000000
set_option maxRecDepth 100000
set_option linter.unusedSimpArgs false
attribute [local irreducible] IntKind.wrap da fk gR kN kD po ky eS kF rd sub bytesOf ib dj
variable {bg hM uV ag az av ax k : Nat}
variable {af ay au aw : Option Addr}
def de.f (k : Nat) (p0 : aJ) (a1 : Int) (a2 : Int) (a3 : Int) (a4 : cM) : Option (aJ):=lt (i64.wrap ((i64.wrap (a2 - a1)) + 1)) fun n8=>lt (i64.wrap ((fk (i64.wrap (0 - n8)) (da a3 n8)) * p0.f0.f0)) fun n9=>if 0 ≤ (i64.wrap (a1 * p0.f0.f0))∧(i64.wrap (a1 * p0.f0.f0)) ≤ (i64.wrap ((i64.wrap (a2 + 1)) * p0.f0.f0))∧(i64.wrap ((i64.wrap (a2 + 1)) * p0.f0.f0)) ≤ (p0.f0.f2.length : Int) then (if n9 ≥ 0 then (if 0 ≤ n9∧n9 ≤ ((i64.wrap ((i64.wrap (a2 + 1)) * p0.f0.f0)) - (i64.wrap (a1 * p0.f0.f0)))∧((i64.wrap ((i64.wrap (a2 + 1)) * p0.f0.f0)) - (i64.wrap (a1 * p0.f0.f0))) ≤ ((i64.wrap ((i64.wrap (a2 + 1)) * p0.f0.f0)) - (i64.wrap (a1 * p0.f0.f0))) then (lt (bB p0.f0.f2 (0 + (i64.wrap (a1 * p0.f0.f0))).toNat ((sub p0.f0.f2 ((0 + (i64.wrap (a1 * p0.f0.f0))) + n9) (((0 + (i64.wrap (a1 * p0.f0.f0))) + n9) + (((i64.wrap ((i64.wrap (a2 + 1)) * p0.f0.f0)) - (i64.wrap (a1 * p0.f0.f0))) - n9))).take ((i64.wrap ((i64.wrap (a2 + 1)) * p0.f0.f0)) - (i64.wrap (a1 * p0.f0.f0))).toNat)) fun a=>(if 0 ≤ (i64.wrap (((i64.wrap ((i64.wrap (a2 + 1)) * p0.f0.f0)) - (i64.wrap (a1 * p0.f0.f0))) - n9))∧(i64.wrap (((i64.wrap ((i64.wrap (a2 + 1)) * p0.f0.f0)) - (i64.wrap (a1 * p0.f0.f0))) - n9)) ≤ ((i64.wrap ((i64.wrap (a2 + 1)) * p0.f0.f0)) - (i64.wrap (a1 * p0.f0.f0)))∧((i64.wrap ((i64.wrap (a2 + 1)) * p0.f0.f0)) - (i64.wrap (a1 * p0.f0.f0))) ≤ ((i64.wrap ((i64.wrap (a2 + 1)) * p0.f0.f0)) - (i64.wrap (a1 * p0.f0.f0))) then ((eY.f k a ((0 + (i64.wrap (a1 * p0.f0.f0))) + (i64.wrap (((i64.wrap ((i64.wrap (a2 + 1)) * p0.f0.f0)) - (i64.wrap (a1 * p0.f0.f0))) - n9))) (((i64.wrap ((i64.wrap (a2 + 1)) * p0.f0.f0)) - (i64.wrap (a1 * p0.f0.f0))) - (i64.wrap (((i64.wrap ((i64.wrap (a2 + 1)) * p0.f0.f0)) - (i64.wrap (a1 * p0.f0.f0))) - n9))) a4).bind (fun c=>if c.length = a.length then (some (({ p0 with f0:=(bH.mk p0.f0.f0 p0.f0.f1 c) }))) else none)) else none)) else none) else (if 0 ≤ (i64.wrap (0 - n9))∧(i64.wrap (0 - n9)) ≤ ((i64.wrap ((i64.wrap (a2 + 1)) * p0.f0.f0)) - (i64.wrap (a1 * p0.f0.f0)))∧((i64.wrap ((i64.wrap (a2 + 1)) * p0.f0.f0)) - (i64.wrap (a1 * p0.f0.f0))) ≤ ((i64.wrap ((i64.wrap (a2 + 1)) * p0.f0.f0)) - (i64.wrap (a1 * p0.f0.f0))) then (lt (bB p0.f0.f2 ((0 + (i64.wrap (a1 * p0.f0.f0))) + (i64.wrap (0 - n9))).toNat ((sub p0.f0.f2 (0 + (i64.wrap (a1 * p0.f0.f0))) ((0 + (i64.wrap (a1 * p0.f0.f0))) + ((i64.wrap ((i64.wrap (a2 + 1)) * p0.f0.f0)) - (i64.wrap (a1 * p0.f0.f0))))).take (((i64.wrap ((i64.wrap (a2 + 1)) * p0.f0.f0)) - (i64.wrap (a1 * p0.f0.f0))) - (i64.wrap (0 - n9))).toNat)) fun b=>(if 0 ≤ (0 : Int)∧(0 : Int) ≤ (i64.wrap (0 - n9))∧(i64.wrap (0 - n9)) ≤ ((i64.wrap ((i64.wrap (a2 + 1)) * p0.f0.f0)) - (i64.wrap (a1 * p0.f0.f0))) then ((eY.f k b ((0 + (i64.wrap (a1 * p0.f0.f0))) + (0 : Int)) ((i64.wrap (0 - n9)) - (0 : Int)) a4).bind (fun d=>if d.length = b.length then (some (({ p0 with f0:=(bH.mk p0.f0.f0 p0.f0.f1 d) }))) else none)) else none)) else none)) else none
theorem de.ok {p0 : aJ} {a1 : Int} {a2 : Int} {a3 : Int} {a4 : cM} {r : aJ} (H : de.f k p0 a1 a2 a3 a4 = some r) : dk Tryz.prog 131 #[.pointer (some ⟨bg,0,none⟩),ae a1,ae a2,ae a3,.agg (bF a4).toArray] (cN bg p0 af ag ay az au av aw ax) (fun v B=>∃ P0_0_ q0_0_ P0_1_ q0_1_ P0_2_ q0_2_ P0_3_ q0_3_,v = .tuple #[]∧B = (cN bg r P0_0_ q0_0_ P0_1_ q0_1_ P0_2_ q0_2_ P0_3_ q0_3_)):=by
 refine aj Tryz.func131 rfl rfl ?_
 unfold de.f at H
 refine aR (o' (bO (h:=fun b6=>cP (ad ar (h:=ad ar (h:=ad (cT rfl rfl) (h:=S' (bW rfl rfl) ?_)))))))
 obtain⟨n8,b0,H⟩:=bj H
 refine bP (ae n8) (bo (v:=ae n8) (congrArg (Value.int .i64) b0.symm)) (h:=cP (ad ar (h:=bP (ae (i64.wrap (0 - n8))) (mr rfl) (h:=ad ar (h:=ad ar (h:=bP (ae (da a3 n8)) (jK rfl rfl) (h:=bP (ae (fk (i64.wrap (0 - n8)) (da a3 n8))) (nJ rfl rfl) (h:=ad ar (h:=S' cI ?_)))))))))
 refine ad aA (h:=bp (aP 0) (h:=S' (jt rfl rfl) ?_))
 obtain⟨n9,b1,H⟩:=bj H
 refine bP (ae n9) (bo (v:=ae n9) (congrArg (Value.int .i64) b1.symm)) (h:=bA (ao (bM 1 fun b4=>bM 2 fun b5=>bM 3 fun b7=>bM 4 fun b8=>?_)))
 refine fj (dt 0 19) [0] (dt 1 5) fun _ _ _ _ _ sH dd pk=>?_
 refine bc 0 rfl sH ar (h:=bc 1 rfl sH cI (h:=bc 2 rfl sH aA (h:=bQ 3 rfl sH (aP 0) (h:=bc 4 rfl sH ar (h:=bc 5 rfl sH ar (h:=bc 6 rfl sH cI (h:=bc 7 rfl sH aA (h:=bQ 8 rfl sH (aP 0) (h:=T' 9 rfl sH (jt rfl rfl) ?_)))))))))
 refine bc 10 rfl sH ar (h:=bc 11 rfl sH (bW rfl rfl) (h:=bc 12 rfl sH ar (h:=bc 13 rfl sH cI (h:=bc 14 rfl sH aA (h:=bQ 15 rfl sH (aP 0) (h:=T' 16 rfl sH (jt rfl rfl) ?_))))))
 obtain⟨⟨y,z,D⟩,H⟩:=aO H
 refine t' (.slice (dj af (i64.wrap (a1 * p0.f0.f0)) ((ag : Nat) : Int) 15) ((i64.wrap ((i64.wrap (a2 + 1)) * p0.f0.f0)) - (i64.wrap (a1 * p0.f0.f0))).toNat (((ag : Nat) : Int).toNat - (i64.wrap (a1 * p0.f0.f0)).toNat)) 17 rfl sH (dq (l:=0) (m:=(p0.f0.f2.length : Int)) (a:=i64.wrap (a1 * p0.f0.f0)) (b:=i64.wrap ((i64.wrap (a2 + 1)) * p0.f0.f0)) (q:=((ag : Nat) : Int)) (eu.whole (A:=af) (sz:=15) (xs:=p0.f0.f2) (c:=ag) (by omega)) Tryz.underlying24 cl rfl rfl rfl rfl (.inr ⟨_,rfl⟩) (.inr ⟨_,rfl⟩) (.inl ⟨rfl,rfl⟩) y z D) ?_
 have d : eu af (dj af (i64.wrap (a1 * p0.f0.f0)) ((ag : Nat) : Int) 15) 15 (0 + (i64.wrap (a1 * p0.f0.f0))) ((i64.wrap ((i64.wrap (a2 + 1)) * p0.f0.f0)) - (i64.wrap (a1 * p0.f0.f0))) (((ag : Nat) : Int).toNat - (i64.wrap (a1 * p0.f0.f0)).toNat):=eu.sub (eu.whole (A:=af) (sz:=15) (xs:=p0.f0.f2) (c:=ag) (by omega)) y z D (.inl rfl) (Int.le_refl _)
 refine kV (.slice (dj af (i64.wrap (a1 * p0.f0.f0)) ((ag : Nat) : Int) 15) ((i64.wrap ((i64.wrap (a2 + 1)) * p0.f0.f0)) - (i64.wrap (a1 * p0.f0.f0))).toNat (((ag : Nat) : Int).toNat - (i64.wrap (a1 * p0.f0.f0)).toNat)) 18 rfl sH rN (h:=aV dd sH (aI (by kernel_rfl) (aa (SA.of_St (l:=[(3,ae n9),(9,aH b6),(11,.slice (dj af (i64.wrap (a1 * p0.f0.f0)) ((ag : Nat) : Int) 15) ((i64.wrap ((i64.wrap (a2 + 1)) * p0.f0.f0)) - (i64.wrap (a1 * p0.f0.f0))).toNat (((ag : Nat) : Int).toNat - (i64.wrap (a1 * p0.f0.f0)).toNat))]) (B:=(aK bg 34 (al p0 af ag ay az au av aw ax)::(bn p0 af ag ay az au av aw ax++[aK b6 28 (bF a4)]))) (St.mk1 (cB rfl (cB rfl (cB rfl dS))) (Gh.sel [0,1,2,3,4,5] (by kernel_rfl) (by kernel_rfl))) fun junk=>aR (ad ar (h:=ad (dT rfl rfl) (h:=bA ?_)))))))
 rcases bE H with⟨j,H⟩|⟨j,H⟩
 ·refine aC rfl j (aR (bP (.slice (dj af (i64.wrap (a1 * p0.f0.f0)) ((ag : Nat) : Int) 15) ((i64.wrap ((i64.wrap (a2 + 1)) * p0.f0.f0)) - (i64.wrap (a1 * p0.f0.f0))).toNat (((ag : Nat) : Int).toNat - (i64.wrap (a1 * p0.f0.f0)).toNat)) fO (h:=bP (.slice (dj af (i64.wrap (a1 * p0.f0.f0)) ((ag : Nat) : Int) 15) ((i64.wrap ((i64.wrap (a2 + 1)) * p0.f0.f0)) - (i64.wrap (a1 * p0.f0.f0))).toNat (((ag : Nat) : Int).toNat - (i64.wrap (a1 * p0.f0.f0)).toNat)) fO (h:=S' ar ?_))))
  obtain⟨⟨E,F,I⟩,H⟩:=aO H
  refine s' (.slice (dj (dj af (i64.wrap (a1 * p0.f0.f0)) ((ag : Nat) : Int) 15) n9 ((((ag : Nat) : Int).toNat - (i64.wrap (a1 * p0.f0.f0)).toNat : Nat) : Int) 15) (((i64.wrap ((i64.wrap (a2 + 1)) * p0.f0.f0)) - (i64.wrap (a1 * p0.f0.f0))) - n9).toNat (((((ag : Nat) : Int).toNat - (i64.wrap (a1 * p0.f0.f0)).toNat : Nat) : Int).toNat - n9.toNat)) (dq (l:=0 + (i64.wrap (a1 * p0.f0.f0))) (m:=(i64.wrap ((i64.wrap (a2 + 1)) * p0.f0.f0)) - (i64.wrap (a1 * p0.f0.f0))) (a:=n9) (b:=(i64.wrap ((i64.wrap (a2 + 1)) * p0.f0.f0)) - (i64.wrap (a1 * p0.f0.f0))) (q:=((((ag : Nat) : Int).toNat - (i64.wrap (a1 * p0.f0.f0)).toNat : Nat) : Int)) d Tryz.underlying24 cl rfl rfl rfl rfl (.inr ⟨_,rfl⟩) (.inl ⟨rfl,rfl,rfl⟩) (.inl ⟨rfl,rfl⟩) E F I) ?_
  have a0 : eu af (dj (dj af (i64.wrap (a1 * p0.f0.f0)) ((ag : Nat) : Int) 15) n9 ((((ag : Nat) : Int).toNat - (i64.wrap (a1 * p0.f0.f0)).toNat : Nat) : Int) 15) 15 ((0 + (i64.wrap (a1 * p0.f0.f0))) + n9) (((i64.wrap ((i64.wrap (a2 + 1)) * p0.f0.f0)) - (i64.wrap (a1 * p0.f0.f0))) - n9) (((((ag : Nat) : Int).toNat - (i64.wrap (a1 * p0.f0.f0)).toNat : Nat) : Int).toNat - n9.toNat):=eu.sub d E F I (.inl rfl) (Int.le_refl _)
  obtain⟨Y,s,H⟩:=bj H
  have hl_n1162 : Y.length = p0.f0.f2.length:=by rw [s]; exact eR (by rw [List.length_take]; omega)
  refine o' (gm (k:=1) (l:=0 + (i64.wrap (a1 * p0.f0.f0))) (m:=(i64.wrap ((i64.wrap (a2 + 1)) * p0.f0.f0)) - (i64.wrap (a1 * p0.f0.f0))) (xs:=p0.f0.f2) (ys:=sub p0.f0.f2 ((0 + (i64.wrap (a1 * p0.f0.f0))) + n9) (((0 + (i64.wrap (a1 * p0.f0.f0))) + n9) + (((i64.wrap ((i64.wrap (a2 + 1)) * p0.f0.f0)) - (i64.wrap (a1 * p0.f0.f0))) - n9))) Y s d rfl Tryz.underlying24 cl rfl rfl rfl (by omega) rfl (pD.win (Src.buf (k:=1) rfl) a0 rfl (by omega)) ?_)
  try unfold bF
  try unfold cN
  try unfold fc
  try unfold al
  try rewrite [← hl_n1162]
  refine bA ?_
  refine fj (dt 0 7) [5] (dt 0 5) fun _ _ _ _ _ sH dd pk=>?_
  refine kV (.slice (dj af (i64.wrap (a1 * p0.f0.f0)) ((ag : Nat) : Int) 15) ((i64.wrap ((i64.wrap (a2 + 1)) * p0.f0.f0)) - (i64.wrap (a1 * p0.f0.f0))).toNat (((ag : Nat) : Int).toNat - (i64.wrap (a1 * p0.f0.f0)).toNat)) 0 rfl sH fO (h:=kV (.slice (dj af (i64.wrap (a1 * p0.f0.f0)) ((ag : Nat) : Int) 15) ((i64.wrap ((i64.wrap (a2 + 1)) * p0.f0.f0)) - (i64.wrap (a1 * p0.f0.f0))).toNat (((ag : Nat) : Int).toNat - (i64.wrap (a1 * p0.f0.f0)).toNat)) 1 rfl sH fO (h:=kV (ae ((i64.wrap ((i64.wrap (a2 + 1)) * p0.f0.f0)) - (i64.wrap (a1 * p0.f0.f0)))) 2 rfl sH (jR d Tryz.underlying24 rfl) (h:=bc 3 rfl sH ar (h:=T' 4 rfl sH (cT rfl rfl) ?_))))
  obtain⟨⟨J,K,L⟩,H⟩:=aO H
  refine t' (.slice (dj (dj af (i64.wrap (a1 * p0.f0.f0)) ((ag : Nat) : Int) 15) (i64.wrap (((i64.wrap ((i64.wrap (a2 + 1)) * p0.f0.f0)) - (i64.wrap (a1 * p0.f0.f0))) - n9)) ((((ag : Nat) : Int).toNat - (i64.wrap (a1 * p0.f0.f0)).toNat : Nat) : Int) 15) (((i64.wrap ((i64.wrap (a2 + 1)) * p0.f0.f0)) - (i64.wrap (a1 * p0.f0.f0))) - (i64.wrap (((i64.wrap ((i64.wrap (a2 + 1)) * p0.f0.f0)) - (i64.wrap (a1 * p0.f0.f0))) - n9))).toNat (((((ag : Nat) : Int).toNat - (i64.wrap (a1 * p0.f0.f0)).toNat : Nat) : Int).toNat - (i64.wrap (((i64.wrap ((i64.wrap (a2 + 1)) * p0.f0.f0)) - (i64.wrap (a1 * p0.f0.f0))) - n9)).toNat)) 5 rfl sH (dq (l:=0 + (i64.wrap (a1 * p0.f0.f0))) (m:=(i64.wrap ((i64.wrap (a2 + 1)) * p0.f0.f0)) - (i64.wrap (a1 * p0.f0.f0))) (a:=i64.wrap (((i64.wrap ((i64.wrap (a2 + 1)) * p0.f0.f0)) - (i64.wrap (a1 * p0.f0.f0))) - n9)) (b:=(i64.wrap ((i64.wrap (a2 + 1)) * p0.f0.f0)) - (i64.wrap (a1 * p0.f0.f0))) (q:=((((ag : Nat) : Int).toNat - (i64.wrap (a1 * p0.f0.f0)).toNat : Nat) : Int)) d Tryz.underlying24 cl rfl rfl rfl rfl (.inr ⟨_,rfl⟩) (.inl ⟨rfl,rfl,rfl⟩) (.inl ⟨rfl,rfl⟩) J K L) ?_
  have a5 : eu af (dj (dj af (i64.wrap (a1 * p0.f0.f0)) ((ag : Nat) : Int) 15) (i64.wrap (((i64.wrap ((i64.wrap (a2 + 1)) * p0.f0.f0)) - (i64.wrap (a1 * p0.f0.f0))) - n9)) ((((ag : Nat) : Int).toNat - (i64.wrap (a1 * p0.f0.f0)).toNat : Nat) : Int) 15) 15 ((0 + (i64.wrap (a1 * p0.f0.f0))) + (i64.wrap (((i64.wrap ((i64.wrap (a2 + 1)) * p0.f0.f0)) - (i64.wrap (a1 * p0.f0.f0))) - n9))) (((i64.wrap ((i64.wrap (a2 + 1)) * p0.f0.f0)) - (i64.wrap (a1 * p0.f0.f0))) - (i64.wrap (((i64.wrap ((i64.wrap (a2 + 1)) * p0.f0.f0)) - (i64.wrap (a1 * p0.f0.f0))) - n9))) (((((ag : Nat) : Int).toNat - (i64.wrap (a1 * p0.f0.f0)).toNat : Nat) : Int).toNat - (i64.wrap (((i64.wrap ((i64.wrap (a2 + 1)) * p0.f0.f0)) - (i64.wrap (a1 * p0.f0.f0))) - n9)).toNat):=eu.sub d J K L (.inl rfl) (Int.le_refl _)
  refine r' 6 rfl sH (cm 0) ?_
  obtain⟨b2,a8,H⟩:=ac H
  obtain⟨o,H⟩:=aO H
  refine dU 7 rfl dd (dc [1] [0,2,3,4] (eY.ok (o0:=(0 + (i64.wrap (a1 * p0.f0.f0))) + (i64.wrap (((i64.wrap ((i64.wrap (a2 + 1)) * p0.f0.f0)) - (i64.wrap (a1 * p0.f0.f0))) - n9))) (n0:=((i64.wrap ((i64.wrap (a2 + 1)) * p0.f0.f0)) - (i64.wrap (a1 * p0.f0.f0))) - (i64.wrap (((i64.wrap ((i64.wrap (a2 + 1)) * p0.f0.f0)) - (i64.wrap (a1 * p0.f0.f0))) - n9))) (A0:=af) (c0:=ag) (V0:=dj (dj af (i64.wrap (a1 * p0.f0.f0)) ((ag : Nat) : Int) 15) (i64.wrap (((i64.wrap ((i64.wrap (a2 + 1)) * p0.f0.f0)) - (i64.wrap (a1 * p0.f0.f0))) - n9)) ((((ag : Nat) : Int).toNat - (i64.wrap (a1 * p0.f0.f0)).toNat : Nat) : Int) 15) (v0:=((((ag : Nat) : Int).toNat - (i64.wrap (a1 * p0.f0.f0)).toNat : Nat) : Int).toNat - (i64.wrap (((i64.wrap ((i64.wrap (a2 + 1)) * p0.f0.f0)) - (i64.wrap (a1 * p0.f0.f0))) - n9)).toNat) (hw0:=a5) a8) ?_)
  try unfold bF
  try unfold cN
  try unfold fc
  try unfold al
  try rewrite [← o]
  try unfold bF at sH
  try unfold cN at sH
  try unfold fc at sH
  try unfold al at sH
  try rewrite [← o] at sH
  refine aV dd sH (aI (by kernel_rfl) ?_)
  have h:=aN H;subst h
  exact fG [2,1,3,4,5] ⟨af,ag,ay,az,au,av,aw,ax,rfl,rfl⟩
 refine aB rfl j (aR (bP (.slice (dj af (i64.wrap (a1 * p0.f0.f0)) ((ag : Nat) : Int) 15) ((i64.wrap ((i64.wrap (a2 + 1)) * p0.f0.f0)) - (i64.wrap (a1 * p0.f0.f0))).toNat (((ag : Nat) : Int).toNat - (i64.wrap (a1 * p0.f0.f0)).toNat)) fO (h:=ad ar (h:=s' (ae (i64.wrap (0 - n9))) (mr rfl) ?_))))
 obtain⟨⟨M,N,O⟩,H⟩:=aO H
 refine s' (.slice (dj (dj af (i64.wrap (a1 * p0.f0.f0)) ((ag : Nat) : Int) 15) (i64.wrap (0 - n9)) ((((ag : Nat) : Int).toNat - (i64.wrap (a1 * p0.f0.f0)).toNat : Nat) : Int) 15) (((i64.wrap ((i64.wrap (a2 + 1)) * p0.f0.f0)) - (i64.wrap (a1 * p0.f0.f0))) - (i64.wrap (0 - n9))).toNat (((((ag : Nat) : Int).toNat - (i64.wrap (a1 * p0.f0.f0)).toNat : Nat) : Int).toNat - (i64.wrap (0 - n9)).toNat)) (dq (l:=0 + (i64.wrap (a1 * p0.f0.f0))) (m:=(i64.wrap ((i64.wrap (a2 + 1)) * p0.f0.f0)) - (i64.wrap (a1 * p0.f0.f0))) (a:=i64.wrap (0 - n9)) (b:=(i64.wrap ((i64.wrap (a2 + 1)) * p0.f0.f0)) - (i64.wrap (a1 * p0.f0.f0))) (q:=((((ag : Nat) : Int).toNat - (i64.wrap (a1 * p0.f0.f0)).toNat : Nat) : Int)) d Tryz.underlying24 cl rfl rfl rfl rfl (.inr ⟨_,rfl⟩) (.inl ⟨rfl,rfl,rfl⟩) (.inl ⟨rfl,rfl⟩) M N O) ?_
 have a6 : eu af (dj (dj af (i64.wrap (a1 * p0.f0.f0)) ((ag : Nat) : Int) 15) (i64.wrap (0 - n9)) ((((ag : Nat) : Int).toNat - (i64.wrap (a1 * p0.f0.f0)).toNat : Nat) : Int) 15) 15 ((0 + (i64.wrap (a1 * p0.f0.f0))) + (i64.wrap (0 - n9))) (((i64.wrap ((i64.wrap (a2 + 1)) * p0.f0.f0)) - (i64.wrap (a1 * p0.f0.f0))) - (i64.wrap (0 - n9))) (((((ag : Nat) : Int).toNat - (i64.wrap (a1 * p0.f0.f0)).toNat : Nat) : Int).toNat - (i64.wrap (0 - n9)).toNat):=eu.sub d M N O (.inl rfl) (Int.le_refl _)
 refine s' (.slice (dj af (i64.wrap (a1 * p0.f0.f0)) ((ag : Nat) : Int) 15) ((i64.wrap ((i64.wrap (a2 + 1)) * p0.f0.f0)) - (i64.wrap (a1 * p0.f0.f0))).toNat (((ag : Nat) : Int).toNat - (i64.wrap (a1 * p0.f0.f0)).toNat)) fO ?_
 obtain⟨Z,u,H⟩:=bj H
 have hl_n1650 : Z.length = p0.f0.f2.length:=by rw [u]; exact eR (by rw [List.length_take]; omega)
 refine o' (gm (k:=1) (l:=(0 + (i64.wrap (a1 * p0.f0.f0))) + (i64.wrap (0 - n9))) (m:=((i64.wrap ((i64.wrap (a2 + 1)) * p0.f0.f0)) - (i64.wrap (a1 * p0.f0.f0))) - (i64.wrap (0 - n9))) (xs:=p0.f0.f2) (ys:=sub p0.f0.f2 (0 + (i64.wrap (a1 * p0.f0.f0))) ((0 + (i64.wrap (a1 * p0.f0.f0))) + ((i64.wrap ((i64.wrap (a2 + 1)) * p0.f0.f0)) - (i64.wrap (a1 * p0.f0.f0))))) Z u a6 rfl Tryz.underlying24 cl rfl rfl rfl (by omega) rfl (pD.win (Src.buf (k:=1) rfl) d rfl (by omega)) ?_)
 try unfold bF
 try unfold cN
 try unfold fc
 try unfold al
 try rewrite [← hl_n1650]
 refine bA ?_
 refine fj (dt 0 5) [5] (dt 0 5) fun _ _ _ _ _ sH dd pk=>?_
 refine kV (.slice (dj af (i64.wrap (a1 * p0.f0.f0)) ((ag : Nat) : Int) 15) ((i64.wrap ((i64.wrap (a2 + 1)) * p0.f0.f0)) - (i64.wrap (a1 * p0.f0.f0))).toNat (((ag : Nat) : Int).toNat - (i64.wrap (a1 * p0.f0.f0)).toNat)) 0 rfl sH fO (h:=bc 1 rfl sH ar (h:=t' (ae (i64.wrap (0 - n9))) 2 rfl sH (mr rfl) ?_))
 obtain⟨⟨R,S,U⟩,H⟩:=aO H
 refine t' (.slice (dj (dj af (i64.wrap (a1 * p0.f0.f0)) ((ag : Nat) : Int) 15) (0 : Int) ((((ag : Nat) : Int).toNat - (i64.wrap (a1 * p0.f0.f0)).toNat : Nat) : Int) 15) ((i64.wrap (0 - n9)) - (0 : Int)).toNat (((((ag : Nat) : Int).toNat - (i64.wrap (a1 * p0.f0.f0)).toNat : Nat) : Int).toNat - (0 : Int).toNat)) 3 rfl sH (dq (l:=0 + (i64.wrap (a1 * p0.f0.f0))) (m:=(i64.wrap ((i64.wrap (a2 + 1)) * p0.f0.f0)) - (i64.wrap (a1 * p0.f0.f0))) (a:=(0 : Int)) (b:=i64.wrap (0 - n9)) (q:=((((ag : Nat) : Int).toNat - (i64.wrap (a1 * p0.f0.f0)).toNat : Nat) : Int)) d Tryz.underlying24 cl rfl rfl rfl rfl (.inl ⟨rfl,rfl⟩) (.inr ⟨_,rfl⟩) (.inl ⟨rfl,rfl⟩) R S U) ?_
 have a7 : eu af (dj (dj af (i64.wrap (a1 * p0.f0.f0)) ((ag : Nat) : Int) 15) (0 : Int) ((((ag : Nat) : Int).toNat - (i64.wrap (a1 * p0.f0.f0)).toNat : Nat) : Int) 15) 15 ((0 + (i64.wrap (a1 * p0.f0.f0))) + (0 : Int)) ((i64.wrap (0 - n9)) - (0 : Int)) (((((ag : Nat) : Int).toNat - (i64.wrap (a1 * p0.f0.f0)).toNat : Nat) : Int).toNat - (0 : Int).toNat):=eu.sub d R S U (.inl rfl) (Int.le_refl _)
 refine r' 4 rfl sH (cm 0) ?_
 obtain⟨b3,a9,H⟩:=ac H
 obtain⟨p,H⟩:=aO H
 refine dU 5 rfl dd (dc [1] [0,2,3,4] (eY.ok (o0:=(0 + (i64.wrap (a1 * p0.f0.f0))) + (0 : Int)) (n0:=(i64.wrap (0 - n9)) - (0 : Int)) (A0:=af) (c0:=ag) (V0:=dj (dj af (i64.wrap (a1 * p0.f0.f0)) ((ag : Nat) : Int) 15) (0 : Int) ((((ag : Nat) : Int).toNat - (i64.wrap (a1 * p0.f0.f0)).toNat : Nat) : Int) 15) (v0:=((((ag : Nat) : Int).toNat - (i64.wrap (a1 * p0.f0.f0)).toNat : Nat) : Int).toNat - (0 : Int).toNat) (hw0:=a7) a9) ?_)
 try unfold bF
 try unfold cN
 try unfold fc
 try unfold al
 try rewrite [← p]
 try unfold bF at sH
 try unfold cN at sH
 try unfold fc at sH
 try unfold al at sH
 try rewrite [← p] at sH
 refine aV dd sH (aI (by kernel_rfl) ?_)
 have h:=aN H;subst h
 exact fG [2,1,3,4,5] ⟨af,ag,ay,az,au,av,aw,ax,rfl,rfl⟩


def eW.f (k : Nat) (p0 : aJ) : Option (aJ):=if p0.f1 = p0.f6 then ((de.f k p0 p0.f5 p0.f6 1 p0.f4).bind (fun a=>some (a))) else (if p0.f1 < (i64.wrap (p0.f0.f1 - 1)) then (some (({ p0 with f1:=(i64.wrap (p0.f1 + 1)) }))) else (some (p0)))
theorem eW.ok {p0 : aJ} {r : aJ} (H : eW.f k p0 = some r) : dk Tryz.prog 119 #[.agg #[.pointer (some ⟨bg,0,none⟩)]] (cN bg p0 af ag ay az au av aw ax) (fun v B=>∃ P0_0_ q0_0_ P0_1_ q0_1_ P0_2_ q0_2_ P0_3_ q0_3_,v = .tuple #[]∧B = (cN bg r P0_0_ q0_0_ P0_1_ q0_1_ P0_2_ q0_2_ P0_3_ q0_3_)):=by
 refine aj Tryz.func119 rfl rfl ?_
 unfold eW.f at H
 refine aR (o' (bO (h:=fun y=>bA (aQ (ao ?_)))))
 refine fj (dt 0 12) [0,5] (dt 1 4) fun _ _ _ _ _ sH dd pk=>?_
 refine bc 0 rfl sH aA (h:=bQ 1 rfl sH (aP 1) (h:=bc 2 rfl sH cI (h:=bc 3 rfl sH aA (h:=bQ 4 rfl sH (aP 0) (h:=bc 5 rfl sH aA (h:=bQ 6 rfl sH (aP 1) (h:=bc 7 rfl sH cI (h:=bc 8 rfl sH aA (h:=r' 9 rfl sH (aP 0) ?_)))))))))
 refine bc 10 rfl sH (bk rfl rfl) (h:=bc 11 rfl sH aW (h:=aV dd sH (aI (by kernel_rfl) (aa ?_))))
 rcases bE H with⟨b,H⟩|⟨b,H⟩
 ·refine aC rfl b (bM 2 fun z=>bM 3 fun D=>bM 4 fun E=>bM 5 fun F=>?_)
  refine fj (dt 0 19) [0,1] (dt 2 4) fun _ _ _ _ _ sH dd pk=>?_
  refine bc 0 rfl sH aA (h:=bQ 1 rfl sH (aP 1) (h:=bc 2 rfl sH cI (h:=bc 3 rfl sH aA (h:=bc 4 rfl sH aA (h:=bQ 5 rfl sH (aP 1) (h:=bc 6 rfl sH cI (h:=bc 7 rfl sH aA (h:=bQ 8 rfl sH (aP 0) (h:=T' 9 rfl sH aA ?_)))))))))
  refine bQ 10 rfl sH (aP 1) (h:=bc 11 rfl sH cI (h:=bc 12 rfl sH aA (h:=bQ 13 rfl sH (aP 0) (h:=bc 14 rfl sH aA (h:=bQ 15 rfl sH (aP 1) (h:=bc 16 rfl sH cI (h:=bc 17 rfl sH aA (h:=bQ 18 rfl sH (cz bg 6 0 (bF p0.f4)) (h:=aV dd sH ?_)))))))))
  obtain⟨I,o,H⟩:=ac H
  refine eC 19 rfl (ed [0,2,3,4,5] [1] (de.ok (bg:=bg) o) fun c p d q j s m u=>?_)
  refine aI (by kernel_rfl) (aF ?_)
  have h:=aN H;subst h
  exact fG [0,1,2,3,4] ⟨c,p,d,q,j,s,m,u,rfl,rfl⟩
 refine aB rfl b (ao ?_)
 refine fj (dt 0 14) [0,1] (dt 2 4) fun _ _ _ _ _ sH dd pk=>?_
 refine bc 0 rfl sH aA (h:=bQ 1 rfl sH (aP 1) (h:=bc 2 rfl sH cI (h:=bc 3 rfl sH aA (h:=bQ 4 rfl sH (aP 0) (h:=bc 5 rfl sH aA (h:=bQ 6 rfl sH (aP 1) (h:=bc 7 rfl sH cI (h:=bc 8 rfl sH aA (h:=T' 9 rfl sH aA ?_)))))))))
 refine bQ 10 rfl sH (aP 0) (h:=bc 11 rfl sH (cT rfl rfl) (h:=bc 12 rfl sH (ce rfl rfl) (h:=bc 13 rfl sH aW (h:=aV dd sH (aI (by kernel_rfl) (aa (SA.of_St (l:=[(1,aH y),(34,.bool (decide (p0.f1 < (i64.wrap (p0.f0.f1 - 1)))))]) (B:=(aK bg 34 (al p0 af ag ay az au av aw ax)::(bn p0 af ag ay az au av aw ax++[aK y 84 [aH bg]]))) (St.mk1 (cB rfl (cB rfl dS)) (Gh.sel [0,2,3,4,5,1] (by kernel_rfl) (by kernel_rfl))) fun junk=>?_)))))))
 rcases bE H with⟨a,H⟩|⟨a,H⟩
 ·refine aC rfl a (ak (ad aA (h:=bp (aP 5) (h:=ad cI (h:=ad aA (h:=bp (aP 0) (h:=ad (bW rfl rfl) (h:=ad cI (h:=S' aA ?_)))))))))
  refine o' (cF 0 [ae (i64.wrap (p0.f1 + 1))] (h:=(ah (aF ?_))))
  have h:=aN H;subst h
  exact fG [0,1,2,3,4] ⟨af,ag,ay,az,au,av,aw,ax,rfl,rfl⟩
 refine aB rfl a (ap (aF ?_))
 have h:=aN H;subst h
 exact fG [0,1,2,3,4] ⟨af,ag,ay,az,au,av,aw,ax,rfl,rfl⟩


def dp.f (p0 : aJ) : Option (Int):=lt (i64.wrap (p0.f0.f0 - 1)) fun n8=>some (n8)
theorem dp.ok {p0 : aJ} {r : Int} (H : dp.f p0 = some r) : fS Tryz.prog 120 #[.agg #[.pointer (some ⟨bg,0,none⟩)]] (cN bg p0 af ag ay az au av aw ax) (ae r):=by
 refine aj Tryz.func120 rfl rfl ?_
 unfold dp.f at H
 refine aR (o' (bO (h:=fun b=>ad aW (h:=cP (ad aA (h:=bp (aP 5) (h:=ad cI (h:=ad aA (h:=ad aA (h:=l' (aP 0) ?_))))))))))
 refine S' (cT rfl rfl) ?_
 obtain⟨n8,a,H⟩:=bj H
 refine bP (ae n8) (bo (v:=ae n8) (congrArg (Value.int .i64) a.symm)) (h:=cC ?_)
 have h:=aN H;subst h
 exact dX [0,1,2,3,4] ⟨rfl,rfl⟩


def iq.f (a0 : Int) (a1 : Int) (a2 : cM) (p3 : (List aY)) (o3 : Int) (n3 : Int) : Option (Bool):=if 0 ≤ o3∧0 ≤ n3∧o3 + n3 ≤ (p3.length : Int) then (if a0 ≥ 0 then (if a0 < n3 then (if 0 ≤ a0∧a0 < n3 then (if ((rd p3 (o3 + a0)).f2) = a1 then (if 0 ≤ a0∧a0 < n3 then (some (decide (((rd p3 (o3 + a0)).f3) = a2))) else none) else (some (false))) else none) else (some (false))) else (some (false))) else none
theorem iq.ok {a0 : Int} {a1 : Int} {a2 : cM} {p3 : (List aY)} {o3 : Int} {n3 : Int} {A3 V3 : Option Addr} {c3 v3 : Nat} (hw3 : eu A3 V3 15 o3 n3 v3) {r : Bool} (H : iq.f a0 a1 a2 p3 o3 n3 = some r) : fS Tryz.prog 157 #[ae a0,.int .u8 a1,.agg (bF a2).toArray,.pointer (some ⟨uV,0,none⟩)] [aK uV 116 [.slice V3 n3.toNat v3],Buf bD 55 A3 c3 p3] (.bool r):=by
 refine aj Tryz.func157 rfl rfl ?_
 unfold iq.f at H
 obtain⟨⟨E,F,I⟩,H⟩:=aO H
 have hcv_hw3:=hw3.cap
 refine aR (o' (bO (h:=fun J=>ad aW (h:=bA (ao ?_)))))
 refine fj (dt 0 27) [0,1,2] [] fun _ _ _ _ _ sH dd pk=>?_
 refine bc 0 rfl sH ar (h:=bc 1 rfl sH (dT rfl rfl) (h:=T' 2 rfl sH ar ?_))
 rcases bE H with⟨c,H⟩|⟨c,H⟩
 ·refine cY 3 rfl (ai c) sH ar (h:=cJ 4 rfl (ai c) sH (aP 0) (h:=iD (ae n3) 5 rfl (ai c) sH (jR hw3 Tryz.underlying116 rfl) (h:=cY 6 rfl (ai c) sH (ce rfl rfl) (h:=bQ 7 rfl sH (VR.ofV (bS rfl (ai c) rfl)) (h:=T' 8 rfl sH ar ?_)))))
  rcases bE H with⟨a,H⟩|⟨a,H⟩
  ·refine cJ 9 rfl (ai a) sH (aP 0) (h:=kX 10 rfl (ai a) sH ar ?_)
   obtain⟨⟨u,z⟩,H⟩:=aO H
   have B : 0 ≤ o3 + a0:=by omega
   have D : o3 + a0 < (p3.length : Int):=by omega
   refine cJ 11 rfl (ai a) sH (eN (l:=o3) (m:=n3) (i:=a0) (sz:=15) hw3 Tryz.underlying116 cl rfl rfl (Src.buf (k:=1) rfl) u z (by omega)) (h:=iD (.pointer (some ((el A3 ((o3 + a0).toNat * 15)).add 4))) 12 rfl (ai a) sH (lp (el A3 ((o3 + a0).toNat * 15)) 0 4) (h:=cJ 13 rfl (ai a) sH (bJ (enc:=cZ) (i:=o3 + a0) (j:=(o3 + a0).toNat * 15) (m:=4) (sz:=15) Tryz.underlying5 rfl rfl rfl rfl (Src.buf (k:=1) rfl) B D (fun _ _ h=>h) rfl) (h:=cY 14 rfl (ai a) sH ar (h:=cY 15 rfl (ai a) sH (bk rfl rfl) (h:=bQ 16 rfl sH (VR.ofV (bS rfl (ai a) rfl)) (h:=T' 17 rfl sH ar ?_))))))
   rcases bE H with⟨b,H⟩|⟨b,H⟩
   ·refine cJ 18 rfl (ai b) sH (aP 0) (h:=kX 19 rfl (ai b) sH ar ?_)
    obtain⟨⟨d,o⟩,H⟩:=aO H
    have q : 0 ≤ o3 + a0:=by omega
    have s : o3 + a0 < (p3.length : Int):=by omega
    refine cJ 20 rfl (ai b) sH (eN (l:=o3) (m:=n3) (i:=a0) (sz:=15) hw3 Tryz.underlying116 cl rfl rfl (Src.buf (k:=1) rfl) d o (by omega)) (h:=iD (.pointer (some ((el A3 ((o3 + a0).toNat * 15)).add 5))) 21 rfl (ai b) sH (lp (el A3 ((o3 + a0).toNat * 15)) 0 5) (h:=cJ 22 rfl (ai b) sH (ci (enc:=cZ) (i:=o3 + a0) (j:=(o3 + a0).toNat * 15) (m:=5) (sz:=15) (vs:=(bF ((rd p3 (o3 + a0)).f3))) Tryz.underlying28 rfl mf rfl rfl rfl (Src.buf (k:=1) rfl) q s (fun _ _ h=>h) rfl) (h:=cJ 23 rfl (ai b) sH (cm 2) (h:=iD (.bool (decide (((rd p3 (o3 + a0)).f3) = a2))) 24 rfl (ai b) sH (kC (xs:=(bF ((rd p3 (o3 + a0)).f3))) (ys:=(bF a2)) (r:=(((((rd p3 (o3 + a0)).f3).f0) == a2.f0) && (((((rd p3 (o3 + a0)).f3).f1) == a2.f1) && (((((rd p3 (o3 + a0)).f3).f2) == a2.f2) && (((((rd p3 (o3 + a0)).f3).f3) == a2.f3) && (((((rd p3 (o3 + a0)).f3).f4) == a2.f4) && (((((rd p3 (o3 + a0)).f3).f5) == a2.f5) && (((((rd p3 (o3 + a0)).f3).f6) == a2.f6) && (((((rd p3 (o3 + a0)).f3).f7) == a2.f7) && (((((rd p3 (o3 + a0)).f3).f8) == a2.f8) && (((((rd p3 (o3 + a0)).f3).f9) == a2.f9) && true))))))))))) (p:=((rd p3 (o3 + a0)).f3) = a2) lR rfl rfl (by kernel_rfl) (lS (x:=((rd p3 (o3 + a0)).f3)) (y:=a2))) (h:=bQ 25 rfl sH (VR.ofV (bS rfl (ai b) rfl)) (h:=bc 26 rfl sH aW (h:=aV dd sH (aI (by kernel_rfl) (aa (fm ?_))))))))))
    have h:=aN H;subst h
    exact dX [0,1] ⟨rfl,rfl⟩
   refine bT 18 rfl (am b) (bT 19 rfl (am b) (bT 20 rfl (am b) (bT 21 rfl (am b) (bT 22 rfl (am b) (bT 23 rfl (am b) (bT 24 rfl (am b) (bQ 25 rfl sH (VR.ofV (bR rfl (am b) rfl)) (h:=bc 26 rfl sH aW (h:=aV dd sH ?_)))))))))
   refine aI (by kernel_rfl) (aa (fm ?_))
   have h:=aN H;subst h
   exact dX [0,1] ⟨rfl,rfl⟩
  refine bT 9 rfl (am a) (bT 10 rfl (am a) (bT 11 rfl (am a) (bT 12 rfl (am a) (bT 13 rfl (am a) (bT 14 rfl (am a) (bT 15 rfl (am a) (bQ 16 rfl sH (VR.ofV (bR rfl (am a) rfl)) (h:=bc 17 rfl sH ar (h:=bT 18 rfl rfl ?_)))))))))
  refine bT 19 rfl rfl (bT 20 rfl rfl (bT 21 rfl rfl (bT 22 rfl rfl (bT 23 rfl rfl (bT 24 rfl rfl (bQ 25 rfl sH (VR.ofV (bR rfl (rfl) rfl)) (h:=bc 26 rfl sH aW (h:=aV dd sH (aI (by kernel_rfl) ?_)))))))))
  refine aa (fm ?_)
  have h:=aN H;subst h
  exact dX [0,1] ⟨rfl,rfl⟩
 refine bT 3 rfl (am c) (bT 4 rfl (am c) (bT 5 rfl (am c) (bT 6 rfl (am c) (bQ 7 rfl sH (VR.ofV (bR rfl (am c) rfl)) (h:=bc 8 rfl sH ar (h:=bT 9 rfl rfl (bT 10 rfl rfl (bT 11 rfl rfl (bT 12 rfl rfl ?_)))))))))
 refine bT 13 rfl rfl (bT 14 rfl rfl (bT 15 rfl rfl (bQ 16 rfl sH (VR.ofV (bR rfl (rfl) rfl)) (h:=bc 17 rfl sH ar (h:=bT 18 rfl rfl (bT 19 rfl rfl (bT 20 rfl rfl (bT 21 rfl rfl (bT 22 rfl rfl ?_)))))))))
 refine bT 23 rfl rfl (bT 24 rfl rfl (bQ 25 rfl sH (VR.ofV (bR rfl (rfl) rfl)) (h:=bc 26 rfl sH aW (h:=aV dd sH (aI (by kernel_rfl) (aa (fm ?_)))))))
 have h:=aN H;subst h
 exact dX [0,1] ⟨rfl,rfl⟩


def ei.l0 (l0 : (List aY)) (o0 : Int) (n0 : Int) : Nat → Int → (List aY) → Option ((List aY))
  | 0,_,_=>none
  | k + 1,b,a=>if a.length = l0.length then (if b < n0 then (if 0 ≤ b∧b < n0 then ((if ((rd a (o0 + b)).f2) = 2 then ((iq.f (i64.wrap (b + 1)) 0 ((rd a (o0 + b)).f3) a o0 n0).bind (fun l=>some (!l))) else (some false) : Option Bool).bind (fun h=>(if h = true then (some true) else (if ((rd a (o0 + b)).f2) = 0 then ((iq.f (i64.wrap (b - 1)) 2 ((rd a (o0 + b)).f3) a o0 n0).bind (fun m=>some (!m))) else (some false)) : Option Bool).bind (fun j=>if j = true then ((nA.f ((rd a (o0 + b)).f3)).bind (fun d=>if 0 ≤ b∧b < n0 then (lt (a.set (o0 + b).toNat d) fun c=>(ei.l0 l0 o0 n0 k (i64.wrap (b + 1)) c)) else none)) else (ei.l0 l0 o0 n0 k (i64.wrap (b + 1)) a)))) else none) else (some a)) else none
def ei.f (k : Nat) (l0 : (List aY)) (o0 : Int) (n0 : Int) : Option ((List aY)):=if 0 ≤ o0∧0 ≤ n0∧o0 + n0 ≤ (l0.length : Int) then ((ei.l0 l0 o0 n0 k 0 l0 : Option ((List aY))).bind (fun a=>if a.length = l0.length then (some (a)) else none)) else none
theorem ei.ok {l0 : (List aY)} {o0 : Int} {n0 : Int} {A0 V0 : Option Addr} {c0 v0 : Nat} (hw0 : eu A0 V0 15 o0 n0 v0) {r : (List aY)} (H : ei.f k l0 o0 n0 = some r) : dk Tryz.prog 136 #[.slice V0 n0.toNat v0] [Buf bD 55 A0 c0 l0] (fun v B=>v = .tuple #[]∧B = [Buf bD 55 A0 c0 r]):=by
 refine aj Tryz.func136 rfl rfl ?_
 unfold ei.f at H
 obtain⟨⟨a7,a8,a9⟩,H⟩:=aO H
 have hcv_hw0:=hw0.cap
 refine aR (o' (bO (h:=fun p=>cP (bP (.func (.func 157) #[] #[aH p]) (dJ (us:=[aH p]) rfl) (h:=ad aW (h:=cP (bp (aP 1) (h:=bP (ae n0) (jR hw0 Tryz.underlying116 rfl) (h:=ad ar (h:=bA ?_))))))))))
 obtain⟨Y,H,I⟩:=ac H
 refine bI (St [] [Buf bD 55 A0 c0 Y]) ?_ ?_
 ·refine aQ (cj (fun k_ e ds As=>∃ (b : Int) (a : (List aY)),ei.l0 l0 o0 n0 k_ b a = some Y∧St [(1,aH p),(2,.func (.func 157) #[] #[aH p]),(6,.slice V0 n0.toNat v0),(7,ae n0),(8,ae b)] [Buf bD 55 A0 c0 a,aK p 116 [.slice V0 n0.toNat v0]] e ds As) (k:=k) ⟨_,_,H,jV [0,1]⟩ ?_)
  clear H
  rintro F e ds As ⟨b,a,H,S⟩
  obtain _ | F:=F
  ·cases H
  rw [ei.l0] at H
  obtain⟨a5,H⟩:=aO H
  refine SA.of_St S fun junk=>aR (ad (ce rfl rfl) (h:=bA (ao ?_)))
  rcases bE H with⟨R,H⟩|⟨R,H⟩
  ·refine aC rfl R (ap (aa (ao (aQ (aR (S' ar ?_))))))
   obtain⟨⟨g8,g9⟩,H⟩:=aO H
   have a1 : 0 ≤ o0 + b:=by omega
   have a2 : o0 + b < (a.length : Int):=by omega
   refine bp (eN (l:=o0) (m:=n0) (i:=b) (sz:=15) hw0 Tryz.underlying116 cl rfl rfl (Src.buf (k:=0) rfl) g8 g9 (by omega)) (h:=bp (ci (enc:=cZ) (i:=o0 + b) (j:=(o0 + b).toNat * 15) (m:=0) (sz:=15) (vs:=(bV (aY.mk ((rd a (o0 + b)).f0) ((rd a (o0 + b)).f1) ((rd a (o0 + b)).f2) ((rd a (o0 + b)).f3)))) Tryz.underlying55 rfl cl rfl rfl rfl (Src.buf (k:=0) rfl) a1 a2 (fun _ _ h=>h) rfl) (h:=o' (cw (h:=fun q=>ad aW (h:=o' (bi q 0 2 (bV (aY.mk ((rd a (o0 + b)).f0) ((rd a (o0 + b)).f1) ((rd a (o0 + b)).f2) ((rd a (o0 + b)).f3))) (h:=cP (ad aA (h:=bp (aP 2) (h:=ad (bk rfl rfl) (h:=S' ar ?_)))))))))))
   obtain⟨a3,H,J⟩:=ac H
   refine dy 8 [(1,aH p),(2,.func (.func 157) #[] #[aH p]),(3,ae b),(4,aH q),(6,.slice V0 n0.toNat v0),(7,ae n0),(8,ae b),(24,.bool a3)] [Buf bD 55 A0 c0 a,aK p 116 [.slice V0 n0.toNat v0],aK q 55 (bV (aY.mk ((rd a (o0 + b)).f0) ((rd a (o0 + b)).f1) ((rd a (o0 + b)).f2) ((rd a (o0 + b)).f3)))] ?_ fun junk=>?_
   ·rcases bE H with⟨d,H⟩|⟨d,H⟩
    ·refine bf (ai d) ar (h:=bf (ai d) ar (h:=bf (ai d) (bW rfl rfl) (h:=bf (ai d) aA (h:=z' (ai d) (cz q 5 2 (bF ((rd a (o0 + b)).f3))) ?_))))
     obtain⟨b0,Z,H⟩:=ac H
     refine fT (ai d) (ra [1,0] [2] (jg (vs:=[ae (i64.wrap (b + 1)),.int .u8 0,.agg (bF ((rd a (o0 + b)).f3)).toArray]) (cap:=[aH p]) rfl Tryz.func157 vT rfl rfl) (iq.ok (uV:=p) (o3:=o0) (n3:=n0) (A3:=A0) (c3:=c0) (V3:=V0) (v3:=v0) (hw3:=hw0) Z) ?_)
     rintro _ _⟨rfl,rfl⟩
     refine bf (ai d) (bX rfl) (h:=gN (ai d) ?_)
     have h:=aN H;subst h
     exact dL [1,0,2]
    refine cu 7 (am d) (fZ (am d) ?_)
    have h:=aN H;subst h
    exact dL [0,1,2]
   replace H:=J
   refine S' ar ?_
   obtain⟨a4,H,u⟩:=ac H
   refine cK 13 (St [(1,aH p),(2,.func (.func 157) #[] #[aH p]),(3,ae b),(4,aH q),(6,.slice V0 n0.toNat v0),(7,ae n0),(8,ae b),(38,.bool a4)] [Buf bD 55 A0 c0 a,aK p 116 [.slice V0 n0.toNat v0],aK q 55 (bV (aY.mk ((rd a (o0 + b)).f0) ((rd a (o0 + b)).f1) ((rd a (o0 + b)).f2) ((rd a (o0 + b)).f3)))]) ?_ ?_
   ·rcases bE H with⟨c,H⟩|⟨c,H⟩
    ·refine cu 4 c (fY (fY (fY (fY (fY (fY (fY (cu 1 c (gN c ?_)))))))))
     have h:=aN H;subst h
     exact dL [0,1,2]
    refine bf (aM c) aA (h:=cE (aM c) (aP 2) (h:=bf (aM c) (bk rfl rfl) (h:=Y' (aM c) ar ?_)))
    rcases bE H with⟨o,H⟩|⟨o,H⟩
    ·refine bf (ai o) ar (h:=bf (ai o) ar (h:=bf (ai o) (cT rfl rfl) (h:=bf (ai o) aA (h:=z' (ai o) (cz q 5 2 (bF ((rd a (o0 + b)).f3))) ?_))))
     obtain⟨b1,a0,H⟩:=ac H
     refine fT (ai o) (ra [1,0] [2] (jg (vs:=[ae (i64.wrap (b - 1)),.int .u8 2,.agg (bF ((rd a (o0 + b)).f3)).toArray]) (cap:=[aH p]) rfl Tryz.func157 vT rfl rfl) (iq.ok (uV:=p) (o3:=o0) (n3:=n0) (A3:=A0) (c3:=c0) (V3:=V0) (v3:=v0) (hw3:=hw0) a0) ?_)
     rintro _ _⟨rfl,rfl⟩
     refine bf (ai o) (bX rfl) (h:=fT (aM c) (dr rfl (bS rfl (ai o) rfl) (fZ (aM c) ?_)))
     have h:=aN H;subst h
     exact dL [1,0,2]
    refine cu 7 (am o) (fT (aM c) (dr rfl (bR rfl (am o) rfl) (fZ (aM c) ?_)))
    have h:=aN H;subst h
    exact dL [0,1,2]
   rintro e ds As E
   clear H
   have H:=u
   clear u
   refine bA (SA.of_St E fun junk=>?_)
   rcases bE H with⟨y,H⟩|⟨y,H⟩
   ·refine aD rfl y ?_
    refine fj [0,1,2,3,5] [0,1,2] [] fun _ _ _ _ _ sH dd pk=>?_
    refine bQ 0 rfl sH (aP 1) (h:=bc 1 rfl sH ar (h:=bc 2 rfl sH aA (h:=r' 3 rfl sH (cz q 5 2 (bF ((rd a (o0 + b)).f3))) ?_)))
    obtain⟨D,K,H⟩:=ac H
    refine dU 4 rfl dd (dc [] [] (nA.ok K) ?_)
    obtain⟨⟨L,M⟩,H⟩:=aO H
    have N : 0 ≤ o0 + b:=by omega
    have O : o0 + b < (a.length : Int):=by omega
    refine bQ 5 rfl sH (eN (l:=o0) (m:=n0) (i:=b) (sz:=15) hw0 Tryz.underlying116 cl rfl rfl (Src.buf (k:=0) rfl) L M (by omega)) (h:=aV dd sH ?_)
    obtain⟨U,s,H⟩:=bj H
    have hl_n386 : U.length = a.length:=by rw [s]; exact List.length_set
    refine eC 6 rfl (fW (k:=0) (i:=o0 + b) (j:=(o0 + b).toNat * 15) (m:=0) (sz:=15) (xs:=a) (vs:=(bV D)) D rfl rfl rfl rfl rfl rfl rfl rfl cl N O rfl (fun _ _ h_=>by subst h_; rfl) ?_)
    rewrite [← s]
    try rewrite [← hl_n386]
    refine aI (by kernel_rfl) (aF (aa (ak (ad (bW rfl rfl) (h:=ad ar (h:=ah ?_))))))
    exact aa ⟨F,Nat.lt_succ_self _,_,_,H,dZ [0,1]⟩
   refine aE rfl y (ap (aF (aa (ak (ad (bW rfl rfl) (h:=ad ar (h:=ah ?_)))))))
   exact aa ⟨F,Nat.lt_succ_self _,_,_,H,dZ [0,1]⟩
  refine aB rfl R (cf (aX (aX (cg ?_))))
  have h:=aN H;subst h
  exact bK [0]
 rintro e ds As z
 clear H
 have H:=I
 clear I
 obtain⟨a6,H⟩:=aO H
 have h:=aN H;subst h
 exact nz z [Buf bD 55 A0 c0 Y] rfl (eZ [0]) ⟨rfl,rfl⟩


def ja.f (k : Nat) (l0 : (List aY)) (o0 : Int) (n0 : Int) (a1 : Int) (a2 : Int) (a3 : cM) : Option ((List aY)):=if 0 ≤ o0∧0 ≤ n0∧o0 + n0 ≤ (l0.length : Int) then (if 0 ≤ a1∧a1 ≤ n0∧n0 ≤ n0 then (lt (fk (i64.wrap (0 - (n0 - a1))) (da a2 (n0 - a1))) fun n11=>if n11 ≥ 0 then (if 0 ≤ n11∧n11 ≤ (n0 - a1)∧(n0 - a1) ≤ (n0 - a1) then (lt (bB l0 ((o0 + a1) + n11).toNat ((sub l0 (o0 + a1) ((o0 + a1) + (n0 - a1))).take ((n0 - a1) - n11).toNat)) fun n19=>(if 0 ≤ (0 : Int)∧(0 : Int) ≤ n11∧n11 ≤ (n0 - a1) then ((eY.f k n19 ((o0 + a1) + (0 : Int)) (n11 - (0 : Int)) a3).bind (fun a=>if a.length = n19.length then ((ei.f k a o0 n0).bind (fun d=>if d.length = a.length then (some (d)) else none)) else none)) else none)) else none) else (if 0 ≤ (i64.wrap (0 - n11))∧(i64.wrap (0 - n11)) ≤ (n0 - a1)∧(n0 - a1) ≤ (n0 - a1) then (lt (bB l0 (o0 + a1).toNat ((sub l0 ((o0 + a1) + (i64.wrap (0 - n11))) (((o0 + a1) + (i64.wrap (0 - n11))) + ((n0 - a1) - (i64.wrap (0 - n11))))).take (n0 - a1).toNat)) fun c=>(if 0 ≤ (i64.wrap ((n0 - a1) + n11))∧(i64.wrap ((n0 - a1) + n11)) ≤ (n0 - a1)∧(n0 - a1) ≤ (n0 - a1) then ((eY.f k c ((o0 + a1) + (i64.wrap ((n0 - a1) + n11))) ((n0 - a1) - (i64.wrap ((n0 - a1) + n11))) a3).bind (fun b=>if b.length = c.length then ((ei.f k b o0 n0).bind (fun h=>if h.length = b.length then (some (h)) else none)) else none)) else none)) else none)) else none) else none
theorem ja.ok {l0 : (List aY)} {o0 : Int} {n0 : Int} {a1 : Int} {a2 : Int} {a3 : cM} {A0 V0 : Option Addr} {c0 v0 : Nat} (hw0 : eu A0 V0 15 o0 n0 v0) {r : (List aY)} (H : ja.f k l0 o0 n0 a1 a2 a3 = some r) : dk Tryz.prog 122 #[.slice V0 n0.toNat v0,ae a1,ae a2,.agg (bF a3).toArray] [Buf bD 55 A0 c0 l0] (fun v B=>v = .tuple #[]∧B = [Buf bD 55 A0 c0 r]):=by
 refine aj Tryz.func122 rfl rfl ?_
 unfold ja.f at H
 obtain⟨⟨b1,b3,b4⟩,H⟩:=aO H
 have hcv_hw0:=hw0.cap
 refine aR (o' (bO (h:=fun b2=>bA (ao (bM 0 fun b7=>ak (ad ar (h:=S' ar ?_)))))))
 obtain⟨⟨g5,g6,g7⟩,H⟩:=aO H
 refine s' (.slice (dj V0 a1 ((v0 : Nat) : Int) 15) (n0 - a1).toNat (((v0 : Nat) : Int).toNat - a1.toNat)) (dq (l:=o0) (m:=n0) (a:=a1) (b:=n0) (q:=((v0 : Nat) : Int)) hw0 Tryz.underlying116 cl rfl rfl rfl rfl (.inr ⟨_,rfl⟩) (.inl ⟨rfl,rfl,rfl⟩) (.inl ⟨rfl,rfl⟩) g5 g6 g7) ?_
 have c : eu A0 (dj V0 a1 ((v0 : Nat) : Int) 15) 15 (o0 + a1) (n0 - a1) (((v0 : Nat) : Int).toNat - a1.toNat):=eu.sub hw0 g5 g6 g7 (.inl rfl) (Int.le_refl _)
 refine bP (.slice (dj V0 a1 ((v0 : Nat) : Int) 15) (n0 - a1).toNat (((v0 : Nat) : Int).toNat - a1.toNat)) rN (h:=cP (bP (.slice (dj V0 a1 ((v0 : Nat) : Int) 15) (n0 - a1).toNat (((v0 : Nat) : Int).toNat - a1.toNat)) fO (h:=bP (ae (n0 - a1)) (jR c Tryz.underlying116 rfl) (h:=bP (ae (i64.wrap (0 - (n0 - a1)))) (mr rfl) (h:=ad ar (h:=bP (.slice (dj V0 a1 ((v0 : Nat) : Int) 15) (n0 - a1).toNat (((v0 : Nat) : Int).toNat - a1.toNat)) fO (h:=bP (ae (n0 - a1)) (jR c Tryz.underlying116 rfl) (h:=bP (ae (da a2 (n0 - a1))) (jK rfl rfl) (h:=s' (ae (fk (i64.wrap (0 - (n0 - a1))) (da a2 (n0 - a1)))) (nJ rfl rfl) ?_)))))))))
 obtain⟨n11,a8,H⟩:=bj H
 refine bP (ae n11) (bo (v:=ae n11) (congrArg (Value.int .i64) a8.symm)) (h:=eD (ad ar (h:=ad (dT rfl rfl) (h:=bA ?_))))
 rcases bE H with⟨J,H⟩|⟨J,H⟩
 ·refine aC rfl J (aR (bP (.slice (dj V0 a1 ((v0 : Nat) : Int) 15) (n0 - a1).toNat (((v0 : Nat) : Int).toNat - a1.toNat)) fO (h:=S' ar ?_)))
  obtain⟨⟨U,Y,Z⟩,H⟩:=aO H
  refine s' (.slice (dj (dj V0 a1 ((v0 : Nat) : Int) 15) n11 ((((v0 : Nat) : Int).toNat - a1.toNat : Nat) : Int) 15) ((n0 - a1) - n11).toNat (((((v0 : Nat) : Int).toNat - a1.toNat : Nat) : Int).toNat - n11.toNat)) (dq (l:=o0 + a1) (m:=n0 - a1) (a:=n11) (b:=n0 - a1) (q:=((((v0 : Nat) : Int).toNat - a1.toNat : Nat) : Int)) c Tryz.underlying116 cl rfl rfl rfl rfl (.inr ⟨_,rfl⟩) (.inl ⟨rfl,rfl,rfl⟩) (.inl ⟨rfl,rfl⟩) U Y Z) ?_
  have a7 : eu A0 (dj (dj V0 a1 ((v0 : Nat) : Int) 15) n11 ((((v0 : Nat) : Int).toNat - a1.toNat : Nat) : Int) 15) 15 ((o0 + a1) + n11) ((n0 - a1) - n11) (((((v0 : Nat) : Int).toNat - a1.toNat : Nat) : Int).toNat - n11.toNat):=eu.sub c U Y Z (.inl rfl) (Int.le_refl _)
  refine s' (.slice (dj V0 a1 ((v0 : Nat) : Int) 15) (n0 - a1).toNat (((v0 : Nat) : Int).toNat - a1.toNat)) fO ?_
  obtain⟨n19,K,H⟩:=bj H
  have hl_n19 : n19.length = l0.length:=by rw [K]; exact eR (by rw [List.length_take]; omega)
  refine o' (gm (k:=0) (l:=(o0 + a1) + n11) (m:=(n0 - a1) - n11) (xs:=l0) (ys:=sub l0 (o0 + a1) ((o0 + a1) + (n0 - a1))) n19 K a7 rfl Tryz.underlying116 cl rfl rfl rfl (by omega) rfl (pD.win (Src.buf (k:=0) rfl) c rfl (by omega)) ?_)
  try unfold bF
  try rewrite [← hl_n19]
  refine bA ?_
  refine fj (dt 0 4) [1] [0] fun _ _ _ _ _ sH dd pk=>?_
  refine kV (.slice (dj V0 a1 ((v0 : Nat) : Int) 15) (n0 - a1).toNat (((v0 : Nat) : Int).toNat - a1.toNat)) 0 rfl sH fO (h:=T' 1 rfl sH ar ?_)
  obtain⟨⟨p,s,u⟩,H⟩:=aO H
  refine t' (.slice (dj (dj V0 a1 ((v0 : Nat) : Int) 15) (0 : Int) ((((v0 : Nat) : Int).toNat - a1.toNat : Nat) : Int) 15) (n11 - (0 : Int)).toNat (((((v0 : Nat) : Int).toNat - a1.toNat : Nat) : Int).toNat - (0 : Int).toNat)) 2 rfl sH (dq (l:=o0 + a1) (m:=n0 - a1) (a:=(0 : Int)) (b:=n11) (q:=((((v0 : Nat) : Int).toNat - a1.toNat : Nat) : Int)) c Tryz.underlying116 cl rfl rfl rfl rfl (.inl ⟨rfl,rfl⟩) (.inr ⟨_,rfl⟩) (.inl ⟨rfl,rfl⟩) p s u) ?_
  have M : eu A0 (dj (dj V0 a1 ((v0 : Nat) : Int) 15) (0 : Int) ((((v0 : Nat) : Int).toNat - a1.toNat : Nat) : Int) 15) 15 ((o0 + a1) + (0 : Int)) (n11 - (0 : Int)) (((((v0 : Nat) : Int).toNat - a1.toNat : Nat) : Int).toNat - (0 : Int).toNat):=eu.sub c p s u (.inl rfl) (Int.le_refl _)
  refine r' 3 rfl sH (cm 0) ?_
  obtain⟨a9,a0,H⟩:=ac H
  obtain⟨d,H⟩:=aO H
  refine dU 4 rfl dd (dc [0] [] (eY.ok (o0:=(o0 + a1) + (0 : Int)) (n0:=n11 - (0 : Int)) (A0:=A0) (c0:=c0) (V0:=dj (dj V0 a1 ((v0 : Nat) : Int) 15) (0 : Int) ((((v0 : Nat) : Int).toNat - a1.toNat : Nat) : Int) 15) (v0:=((((v0 : Nat) : Int).toNat - a1.toNat : Nat) : Int).toNat - (0 : Int).toNat) (hw0:=M) a0) ?_)
  try unfold bF
  try rewrite [← d]
  try unfold bF at sH
  try rewrite [← d] at sH
  refine aV dd sH (aI (by kernel_rfl) (aa (SA.of_St (l:=[(0,.slice V0 n0.toNat v0)]) (B:=[Buf bD 55 A0 c0 a9]) (St.mk1 (cB rfl dS) (Gh.sel [1] (by kernel_rfl) (by kernel_rfl))) fun junk=>ak (S' ar ?_))))
  obtain⟨b5,a4,H⟩:=ac H
  obtain⟨R,H⟩:=aO H
  refine o' (dc [0] [] (ei.ok (o0:=o0) (n0:=n0) (A0:=A0) (c0:=c0) (V0:=V0) (v0:=v0) (hw0:=hw0) a4) ?_)
  try unfold bF
  try rewrite [← R]
  refine ah ?_
  have h:=aN H;subst h
  exact fG [0] ⟨rfl,rfl⟩
 refine aB rfl J (aR (bP (.slice (dj V0 a1 ((v0 : Nat) : Int) 15) (n0 - a1).toNat (((v0 : Nat) : Int).toNat - a1.toNat)) fO (h:=bP (.slice (dj V0 a1 ((v0 : Nat) : Int) 15) (n0 - a1).toNat (((v0 : Nat) : Int).toNat - a1.toNat)) fO (h:=ad ar (h:=s' (ae (i64.wrap (0 - n11))) (mr rfl) ?_)))))
 obtain⟨⟨y,z,D⟩,H⟩:=aO H
 refine s' (.slice (dj (dj V0 a1 ((v0 : Nat) : Int) 15) (i64.wrap (0 - n11)) ((((v0 : Nat) : Int).toNat - a1.toNat : Nat) : Int) 15) ((n0 - a1) - (i64.wrap (0 - n11))).toNat (((((v0 : Nat) : Int).toNat - a1.toNat : Nat) : Int).toNat - (i64.wrap (0 - n11)).toNat)) (dq (l:=o0 + a1) (m:=n0 - a1) (a:=i64.wrap (0 - n11)) (b:=n0 - a1) (q:=((((v0 : Nat) : Int).toNat - a1.toNat : Nat) : Int)) c Tryz.underlying116 cl rfl rfl rfl rfl (.inr ⟨_,rfl⟩) (.inl ⟨rfl,rfl,rfl⟩) (.inl ⟨rfl,rfl⟩) y z D) ?_
 have N : eu A0 (dj (dj V0 a1 ((v0 : Nat) : Int) 15) (i64.wrap (0 - n11)) ((((v0 : Nat) : Int).toNat - a1.toNat : Nat) : Int) 15) 15 ((o0 + a1) + (i64.wrap (0 - n11))) ((n0 - a1) - (i64.wrap (0 - n11))) (((((v0 : Nat) : Int).toNat - a1.toNat : Nat) : Int).toNat - (i64.wrap (0 - n11)).toNat):=eu.sub c y z D (.inl rfl) (Int.le_refl _)
 obtain⟨L,o,H⟩:=bj H
 have hl_n330 : L.length = l0.length:=by rw [o]; exact eR (by rw [List.length_take]; omega)
 refine o' (gm (k:=0) (l:=o0 + a1) (m:=n0 - a1) (xs:=l0) (ys:=sub l0 ((o0 + a1) + (i64.wrap (0 - n11))) (((o0 + a1) + (i64.wrap (0 - n11))) + ((n0 - a1) - (i64.wrap (0 - n11))))) L o c rfl Tryz.underlying116 cl rfl rfl rfl (by omega) rfl (pD.win (Src.buf (k:=0) rfl) N rfl (by omega)) ?_)
 try unfold bF
 try rewrite [← hl_n330]
 refine bA ?_
 refine fj (dt 0 7) [1] [0] fun _ _ _ _ _ sH dd pk=>?_
 refine kV (.slice (dj V0 a1 ((v0 : Nat) : Int) 15) (n0 - a1).toNat (((v0 : Nat) : Int).toNat - a1.toNat)) 0 rfl sH fO (h:=kV (.slice (dj V0 a1 ((v0 : Nat) : Int) 15) (n0 - a1).toNat (((v0 : Nat) : Int).toNat - a1.toNat)) 1 rfl sH fO (h:=kV (ae (n0 - a1)) 2 rfl sH (jR c Tryz.underlying116 rfl) (h:=bc 3 rfl sH ar (h:=T' 4 rfl sH (bW rfl rfl) ?_))))
 obtain⟨⟨E,F,I⟩,H⟩:=aO H
 refine t' (.slice (dj (dj V0 a1 ((v0 : Nat) : Int) 15) (i64.wrap ((n0 - a1) + n11)) ((((v0 : Nat) : Int).toNat - a1.toNat : Nat) : Int) 15) ((n0 - a1) - (i64.wrap ((n0 - a1) + n11))).toNat (((((v0 : Nat) : Int).toNat - a1.toNat : Nat) : Int).toNat - (i64.wrap ((n0 - a1) + n11)).toNat)) 5 rfl sH (dq (l:=o0 + a1) (m:=n0 - a1) (a:=i64.wrap ((n0 - a1) + n11)) (b:=n0 - a1) (q:=((((v0 : Nat) : Int).toNat - a1.toNat : Nat) : Int)) c Tryz.underlying116 cl rfl rfl rfl rfl (.inr ⟨_,rfl⟩) (.inl ⟨rfl,rfl,rfl⟩) (.inl ⟨rfl,rfl⟩) E F I) ?_
 have O : eu A0 (dj (dj V0 a1 ((v0 : Nat) : Int) 15) (i64.wrap ((n0 - a1) + n11)) ((((v0 : Nat) : Int).toNat - a1.toNat : Nat) : Int) 15) 15 ((o0 + a1) + (i64.wrap ((n0 - a1) + n11))) ((n0 - a1) - (i64.wrap ((n0 - a1) + n11))) (((((v0 : Nat) : Int).toNat - a1.toNat : Nat) : Int).toNat - (i64.wrap ((n0 - a1) + n11)).toNat):=eu.sub c E F I (.inl rfl) (Int.le_refl _)
 refine r' 6 rfl sH (cm 0) ?_
 obtain⟨b0,a5,H⟩:=ac H
 obtain⟨j,H⟩:=aO H
 refine dU 7 rfl dd (dc [0] [] (eY.ok (o0:=(o0 + a1) + (i64.wrap ((n0 - a1) + n11))) (n0:=(n0 - a1) - (i64.wrap ((n0 - a1) + n11))) (A0:=A0) (c0:=c0) (V0:=dj (dj V0 a1 ((v0 : Nat) : Int) 15) (i64.wrap ((n0 - a1) + n11)) ((((v0 : Nat) : Int).toNat - a1.toNat : Nat) : Int) 15) (v0:=((((v0 : Nat) : Int).toNat - a1.toNat : Nat) : Int).toNat - (i64.wrap ((n0 - a1) + n11)).toNat) (hw0:=O) a5) ?_)
 try unfold bF
 try rewrite [← j]
 try unfold bF at sH
 try rewrite [← j] at sH
 refine aV dd sH (aI (by kernel_rfl) (aa (SA.of_St (l:=[(0,.slice V0 n0.toNat v0)]) (B:=[Buf bD 55 A0 c0 b0]) (St.mk1 (cB rfl dS) (Gh.sel [1] (by kernel_rfl) (by kernel_rfl))) fun junk=>ak (S' ar ?_))))
 obtain⟨b6,a6,H⟩:=ac H
 obtain⟨S,H⟩:=aO H
 refine o' (dc [0] [] (ei.ok (o0:=o0) (n0:=n0) (A0:=A0) (c0:=c0) (V0:=V0) (v0:=v0) (hw0:=hw0) a6) ?_)
 try unfold bF
 try rewrite [← S]
 refine ah ?_
 have h:=aN H;subst h
 exact fG [0] ⟨rfl,rfl⟩


def qN.f (a0 : cM) (a1 : Int) : Option ((List aY)):=if a1 ≠ 2 then (some (([] : (List aY)))) else (some (([(aY.mk 0 (fX.mk 0 0 0) 0 a0)] : (List aY))))
theorem qN.ok {a0 : cM} {a1 : Int} {r : (List aY)} (H : qN.f a0 a1 = some r) : dk Tryz.prog 152 #[.agg (bF a0).toArray,ae a1] [] (fun v B=>∃ aS aT,v = .slice aS r.length aT∧B = [Buf bD 55 aS aT r]):=by
 refine aj Tryz.func152 rfl rfl ?_
 unfold qN.f at H
 refine aR (o' (bO (h:=fun c=>ad aW (h:=eD (ad ar (h:=ad (dK rfl rfl) (h:=bA ?_)))))))
 rcases bE H with⟨a,H⟩|⟨a,H⟩
 ·refine aC rfl a (aR (ad aW (h:=cD ?_)))
  have h:=aN H;subst h
  exact mi [Buf bD 55 none 0 ([] : (List aY))] rfl rfl ((Gh.nilBuf bD 55).trans (eZ [1])) ⟨none,0,rfl,rfl⟩
 refine aB rfl a (ap (aa (aR (bp (cm 0) (h:=bP (.agg (bV (aY.mk 0 (fX.mk 0 0 0) 0 a0)).toArray) dP (h:=o' (gE (kd:=bD) (zv:=(.agg (bV lC).toArray)) (sz:=15) (cells:=(bV (aY.mk 0 (fX.mk 0 0 0) 0 a0))) (xs:=([(aY.mk 0 (fX.mk 0 0 0) 0 a0)] : (List aY))) rfl Tryz.underlying24 jD cl rfl rfl rfl (by kernel_rfl) rfl rfl (dO cZ (fun _ _=>rfl) (by kernel_rfl)) fun b=>ad aW (h:=cC ?_))))))))
 have h:=aN H;subst h
 exact dX [1] ⟨some ⟨b,0,none⟩,1,rfl,rfl⟩


def pL.f (k : Nat) (a0 : Int) (a1 : cM) : Option ((List aY)):=(lW.f k a0).bind (fun a=>(if a = 1 then (some (decide (a = 1))) else (some (decide (a = 2))) : Option (Bool)).bind (fun d=>if d = true then ((qN.f a1 a).bind (fun b=>if ([(aY.mk a0 (fX.mk 0 0 0) (IntKind.u8.wrap (a)) a1)] : (List aY)).length + b.length ≤ 2932031007402 then lt (([(aY.mk a0 (fX.mk 0 0 0) (IntKind.u8.wrap (a)) a1)] : (List aY)) ++ b) fun c=>(some (c)) else none)) else (some (([] : (List aY))))))
theorem pL.ok {a0 : Int} {a1 : cM} {r : (List aY)} (H : pL.f k a0 a1 = some r) : dk Tryz.prog 124 #[aL a0,.agg (bF a1).toArray] [] (fun v B=>∃ aS aT,v = .slice aS r.length aT∧B = [Buf bD 55 aS aT r]):=by
 refine aj Tryz.func124 rfl rfl ?_
 unfold pL.f at H
 refine aR (o' (bO (h:=fun I=>ad aW (h:=cP (ad ar (h:=bp (cm 0) (h:=bP (.agg (bV (aY.mk a0 (fX.mk 0 0 0) 0 a1)).toArray) dP (h:=o' (cw (h:=fun y=>o' (bi y 0 1 (bV (aY.mk a0 (fX.mk 0 0 0) 0 a1)) (h:=eD ?_))))))))))))
 refine S' ar ?_
 obtain⟨a,u,H⟩:=ac H
 refine o' (dc [] [0,1] (lW.ok u) ?_)
 refine ad aW (h:=cP (ad ar (h:=bA (aQ (ao (aR (ad (bk rfl rfl) (h:=ad aW (h:=bA ?_)))))))))
 obtain⟨K,H,q⟩:=ac H
 refine bI (St [(3,aH I),(5,aH y),(6,ae a),(13,.bool K)] [aK I 28 (bF a1),aK y 55 (bV (aY.mk a0 (fX.mk 0 0 0) 0 a1))]) ?_ ?_
 ·rcases bE H with⟨D,H⟩|⟨D,H⟩
  ·refine aC rfl D (ap ?_)
   have h:=aN H;subst h
   exact bK [0,1]
  refine aB rfl D (ak (ad (bk rfl rfl) (h:=ad aW (h:=ah ?_))))
  have h:=aN H;subst h
  exact bK [0,1]
 rintro e ds As F
 clear H
 have H:=q
 clear q
 refine aa (SA.of_St F fun junk=>?_)
 rcases bE H with⟨E,H⟩|⟨E,H⟩
 ·refine aD rfl E (aR (ad ar (h:=bP (.int .u8 (IntKind.u8.wrap (a))) (jQ (T:=3) (by kernel_rfl) Tryz.underlying5 rfl) (h:=ad aA (h:=o' (cF 1 [.int .u8 (IntKind.u8.wrap (a))] (h:=(bA (ao ?_)))))))))
  refine fj [0,2,3,6] [0,1] [] fun _ _ _ _ _ sH dd pk=>?_
  refine bQ 0 rfl sH (cm 1) (h:=bQ 2 rfl sH (cm 0) (h:=T' 3 rfl sH ar ?_))
  obtain⟨p,l,H⟩:=ac H
  obtain⟨J,H⟩:=aO H
  obtain⟨o,j,H⟩:=bj H
  refine iE (rs:=[1,4]) dd (by kernel_rfl) (by decide) (bG ⟨_,rfl,(.no rfl),?_⟩ (bG ⟨_,rfl,(.no rfl),?_⟩ df))
  ·refine id (gE (kd:=bD) (zv:=(.agg (bV lC).toArray)) (sz:=15) (cells:=(bV (aY.mk a0 (fX.mk 0 0 0) (IntKind.u8.wrap (a)) a1))) (xs:=([(aY.mk a0 (fX.mk 0 0 0) (IntKind.u8.wrap (a)) a1)] : (List aY))) rfl Tryz.underlying24 jD cl rfl rfl rfl (by kernel_rfl) rfl rfl (dO cZ (fun _ _=>rfl) (by kernel_rfl)) fun m=>dU 4 rfl dd (gy [] [0] (qN.ok l) fun s z=>?_))
   refine dU 5 rfl dd (gl (k:=1) (A:=some ⟨m,0,none⟩) (c:=1) (xs:=([(aY.mk a0 (fX.mk 0 0 0) (IntKind.u8.wrap (a)) a1)] : (List aY))) (ys:=p) o j rfl Tryz.underlying24 mC rfl rfl rfl rfl rfl (ng.slice Tryz.underlying24 (Src.buf (k:=0) rfl)) (by omega) (by omega) fun b d=>bc 6 rfl sH aW (h:=aV dd sH (aI (by kernel_rfl) (aa (fm (ba (aG ?_)))))))
   have h:=aN H;subst h
   exact dX [3] ⟨b,d,rfl,rfl⟩
  refine id (gy [] [] (qN.ok l) fun s z=>?_)
  refine dU 1 rfl dd (gE (kd:=bD) (zv:=(.agg (bV lC).toArray)) (sz:=15) (cells:=(bV (aY.mk a0 (fX.mk 0 0 0) (IntKind.u8.wrap (a)) a1))) (xs:=([(aY.mk a0 (fX.mk 0 0 0) (IntKind.u8.wrap (a)) a1)] : (List aY))) rfl Tryz.underlying24 jD cl rfl rfl rfl (by kernel_rfl) rfl rfl (dO cZ (fun _ _=>rfl) (by kernel_rfl)) fun m=>dU 5 rfl dd (gl (k:=1) (A:=some ⟨m,0,none⟩) (c:=1) (xs:=([(aY.mk a0 (fX.mk 0 0 0) (IntKind.u8.wrap (a)) a1)] : (List aY))) (ys:=p) o j rfl Tryz.underlying24 mC rfl rfl rfl rfl rfl (ng.slice Tryz.underlying24 (Src.buf (k:=0) rfl)) (by omega) (by omega) fun b d=>bc 6 rfl sH aW (h:=aV dd sH (aI (by kernel_rfl) (aa (fm (ba (aG ?_))))))))
  have h:=aN H;subst h
  exact dX [3] ⟨b,d,rfl,rfl⟩
 refine aE rfl E (ap (aF (aa (aR (ad aW (h:=cC ?_))))))
 have h:=aN H;subst h
 exact mi [Buf bD 55 none 0 ([] : (List aY))] rfl rfl ((Gh.nilBuf bD 55).trans (eZ [2])) ⟨none,0,rfl,rfl⟩


def hD.f (k : Nat) (l0 : (List aY)) (o0 : Int) (n0 : Int) (a1 : Int) (l2 : (List aY)) : Option ((List aY)):=if 0 ≤ o0∧0 ≤ n0∧o0 + n0 ≤ (l0.length : Int) then (if 0 ≤ a1∧a1 ≤ n0∧n0 ≤ n0 then (lt (bB l0 (o0 + a1).toNat (l2.take (n0 - a1).toNat)) fun n11=>((ei.f k n11 o0 n0).bind (fun a=>if a.length = n11.length then (some (a)) else none))) else none) else none
theorem hD.ok {l0 : (List aY)} {o0 : Int} {n0 : Int} {a1 : Int} {l2 : (List aY)} {A0 V0 : Option Addr} {c0 v0 : Nat} {A2 : Option Addr} {c2 : Nat} (hw0 : eu A0 V0 15 o0 n0 v0) {r : (List aY)} (H : hD.f k l0 o0 n0 a1 l2 = some r) : dk Tryz.prog 123 #[.slice V0 n0.toNat v0,ae a1,.slice A2 l2.length c2] [Buf bD 55 A0 c0 l0,Buf bD 55 A2 c2 l2] (fun v B=>v = .tuple #[]∧B = [Buf bD 55 A0 c0 r,Buf bD 55 A2 c2 l2]):=by
 refine aj Tryz.func123 rfl rfl ?_
 unfold hD.f at H
 obtain⟨⟨y,z,D⟩,H⟩:=aO H
 have hcv_hw0:=hw0.cap
 refine ao (bM 0 fun E=>bM 1 fun F=>ak (ad ar (h:=S' ar ?_)))
 obtain⟨⟨p,s,u⟩,H⟩:=aO H
 refine s' (.slice (dj V0 a1 ((v0 : Nat) : Int) 15) (n0 - a1).toNat (((v0 : Nat) : Int).toNat - a1.toNat)) (dq (l:=o0) (m:=n0) (a:=a1) (b:=n0) (q:=((v0 : Nat) : Int)) hw0 Tryz.underlying116 cl rfl rfl rfl rfl (.inr ⟨_,rfl⟩) (.inl ⟨rfl,rfl,rfl⟩) (.inl ⟨rfl,rfl⟩) p s u) ?_
 have d : eu A0 (dj V0 a1 ((v0 : Nat) : Int) 15) 15 (o0 + a1) (n0 - a1) (((v0 : Nat) : Int).toNat - a1.toNat):=eu.sub hw0 p s u (.inl rfl) (Int.le_refl _)
 refine S' ar ?_
 obtain⟨n11,c,H⟩:=bj H
 have hl_n11 : n11.length = l0.length:=by rw [c]; exact eR (by rw [List.length_take]; omega)
 refine o' (gm (k:=0) (l:=o0 + a1) (m:=n0 - a1) (xs:=l0) (ys:=l2) n11 c d rfl Tryz.underlying116 cl rfl rfl rfl (by omega) rfl (pD.slice (Src.buf (k:=1) rfl)) ?_)
 try rewrite [← hl_n11]
 refine bA (ak (S' ar ?_))
 obtain⟨I,o,H⟩:=ac H
 obtain⟨j,H⟩:=aO H
 refine o' (dc [0] [1] (ei.ok (o0:=o0) (n0:=n0) (A0:=A0) (c0:=c0) (V0:=V0) (v0:=v0) (hw0:=hw0) o) ?_)
 try rewrite [← j]
 refine ah ?_
 have h:=aN H;subst h
 exact fG [0,1] ⟨rfl,rfl⟩


def iJ.f (k : Nat) (p0 : aJ) (a1 : Int) : Option (aJ):=(lW.f k a1).bind (fun h=>if h ≤ 0 then (if h = 0 then ((im.f k p0 a1).bind (fun B=>some (B))) else (some (p0))) else (lt (p0.f3 && p0.f8) fun z=>(if z = true then ((eW.f k ({ p0 with f2:=0 })).bind (fun D=>some D)) else (some p0) : Option (aJ)).bind (fun d=>(if h = 2 then ((dp.f ({ d with f3:=false })).bind (fun r=>some (decide (d.f2 = r)))) else (some false) : Option (Bool)).bind (fun E=>(if E = true then ((if (!d.f8) = true then (some true) else ((dp.f ({ d with f3:=false })).bind (fun s=>some (decide (s = 0)))) : Option Bool).bind (fun q=>if q = true then (some (Out.ret (({ d with f3:=false })))) else ((eW.f k ({ d with f2:=0,f3:=false })).bind (fun u=>some (Out.go u))))) else (some (Out.go ({ d with f3:=false }))) : Option (Out (aJ) (aJ))).bind (fun y=>Out.el y (fun r_=>some r_) (fun a=>(ef.f a).bind (fun b=>if (0 ≤ b.1∧0 ≤ b.2∧b.1 + b.2 ≤ (a.f0.f2.length : Int)) then ((if a.f10 = true then ((ja.f k a.f0.f2 b.1 b.2 a.f2 h a.f4).bind (fun l=>if l.length = a.f0.f2.length then (some l) else none)) else (some a.f0.f2) : Option ((List aY))).bind (fun j=>if j.length = a.f0.f2.length then ((pL.f k a1 a.f4).bind (fun m=>(hD.f k j b.1 b.2 a.f2 m).bind (fun c=>if c.length = j.length then ((dp.f ({ a with f0:=(bH.mk a.f0.f0 a.f0.f1 c),f2:=(i64.wrap (a.f2 + h)) })).bind (fun o=>if (i64.wrap (a.f2 + h)) > o then ((dp.f ({ a with f0:=(bH.mk a.f0.f0 a.f0.f1 c),f2:=(i64.wrap (a.f2 + h)) })).bind (fun p=>some (({ a with f0:=(bH.mk a.f0.f0 a.f0.f1 c),f2:=p,f3:=true })))) else (some (({ a with f0:=(bH.mk a.f0.f0 a.f0.f1 c),f2:=(i64.wrap (a.f2 + h)) }))))) else none))) else none)) else none)))))))
theorem iJ.ok {p0 : aJ} {a1 : Int} {r : aJ} (H : iJ.f k p0 a1 = some r) : dk Tryz.prog 73 #[.agg #[.pointer (some ⟨bg,0,none⟩)],aL a1] (cN bg p0 af ag ay az au av aw ax) (fun v B=>∃ P0_0_ q0_0_ P0_1_ q0_1_ P0_2_ q0_2_ P0_3_ q0_3_,v = .tuple #[]∧B = (cN bg r P0_0_ q0_0_ P0_1_ q0_1_ P0_2_ q0_2_ P0_3_ q0_3_)):=by
 refine aj Tryz.func73 rfl rfl ?_
 unfold iJ.f at H
 refine aR (o' (bO (h:=fun c=>cP (S' ar ?_))))
 obtain⟨R,d4,H⟩:=ac H
 refine o' (dc [] [0,1,2,3,4,5] (lW.ok d4) ?_)
 refine ad aW (h:=eD (ad ar (h:=ad (gG rfl rfl) (h:=bA ?_))))
 rcases bE H with⟨h9,H⟩|⟨h9,H⟩
 ·refine aC rfl h9 (ao (aR (ad ar (h:=ad (bk rfl rfl) (h:=bA ?_)))))
  rcases bE H with⟨b4,H⟩|⟨b4,H⟩
  ·refine aC rfl b4 (bM 1 fun j6=>bM 2 fun j7=>bM 3 fun j8=>bM 4 fun j9=>ak (bp (cz c 0 5 [aH bg]) (h:=S' ar ?_)))
   obtain⟨i4,h3,H⟩:=ac H
   refine o' (ed [0,1,2,3,4] [5] (im.ok (bg:=bg) h3) fun d9 e3 e0 e4 e1 e5 e2 e6=>?_)
   refine cD ?_
   have h:=aN H;subst h
   exact kR (cN bg i4 d9 e3 e0 e4 e1 e5 e2 e6) rfl (eZ [0,1,2,3,4]) ⟨d9,e3,e0,e4,e1,e5,e2,e6,rfl,rfl⟩
  refine aB rfl b4 (ap (aa (fm (aG ?_))))
  have h:=aN H;subst h
  exact kR (cN bg p0 af ag ay az au av aw ax) rfl (eZ [0,1,2,3,4]) ⟨af,ag,ay,az,au,av,aw,ax,rfl,rfl⟩
 refine aB rfl h9 (ap (aa (ao (aR (ad aA (h:=bp (aP 5) (h:=ad cI (h:=ad aA (h:=bp (aP 0) (h:=S' ar ?_))))))))))
 obtain⟨i3,b7,H⟩:=bj H
 refine cK 6 (St [(1,aL a1),(2,aH c),(4,ae R),(26,.bool i3)] (aK bg 34 (al p0 af ag ay az au av aw ax)::(bn p0 af ag ay az au av aw ax++[aK c 84 [aH bg]]))) ?_ ?_
 ·by_cases M : p0.f3 = true
  ·refine bf M aA (h:=cE M (aP 5) (h:=bf M cI (h:=bf M aA (h:=cE M (aP 0) (h:=cd M (h:=ah ?_))))))
   have x_:=fD b7 M;exact bK [0,1,2,3,4,5]
  refine cu 5 (aM M) (ck (aM M) (h:=ah ?_))
  have x_:=fC b7 ((aM M));exact bK [0,1,2,3,4,5]
 rintro e ds As d6
 refine bA (SA.of_St d6 fun junk=>?_)
 obtain⟨L,H,b2⟩:=ac H
 refine bI (fun e ds As=>∃ (y : Option Addr) (F : Nat),∃ (z : Option Addr) (I : Nat),∃ (D : Option Addr) (J : Nat),∃ (E : Option Addr) (K : Nat),St [(1,aL a1),(2,aH c),(4,ae R)] (aK bg 34 (al L y F z I D J E K)::(bn L y F z I D J E K++[aK c 84 [aH bg]])) e ds As) ?_ ?_
 ·rcases bE H with⟨b5,H⟩|⟨b5,H⟩
  ·refine aD rfl b5 (aR (ad aA (h:=bp (aP 5) (h:=ad cI (h:=ad aA (h:=o' (cF 0 [ae 0] (h:=(bA (bM 1 fun k0=>bM 2 fun k1=>?_))))))))))
   refine bM 3 fun k2=>bM 4 fun k3=>ak (l' (cz c 0 5 [aH bg]) ?_)
   obtain⟨k9,h4,H⟩:=ac H
   refine o' (ed [0,1,2,3,4] [5] (eW.ok (bg:=bg) h4) fun g8 h5 g9 h6 h0 h7 h1 h8=>?_)
   refine ah ?_
   have h:=aN H;subst h
   exact aa ⟨g8,h5,g9,h6,h0,h7,h1,h8,dZ [0,1,2,3,4,5]⟩
  refine aE rfl b5 (ap ?_)
  have h:=aN H;subst h
  exact aa ⟨af,ag,ay,az,au,av,aw,ax,dZ [0,1,2,3,4,5]⟩
 rintro e ds As ⟨y,F,z,I,D,J,E,K,d7⟩
 clear H
 have H:=b2
 clear b2
 refine aa (SA.of_St d7 fun junk=>aR (ad aA (h:=bp (aP 5) (h:=ad cI (h:=ad aA (h:=o' (cF 0 [.bool false] (h:=(bA (ao (ao ?_)))))))))))
 obtain⟨i5,H,b3⟩:=ac H
 refine bI (St [(1,aL a1),(2,aH c),(4,ae R),(48,.bool i5)] (aK bg 34 (al ({ L with f3:=false }) y F z I D J E K)::(bn L y F z I D J E K++[aK c 84 [aH bg]]))) ?_ ?_
 ·refine bM 1 fun k4=>bM 2 fun k5=>bM 3 fun k6=>bM 4 fun k7=>?_
  refine fN (dt 0 12) #[[],[0],[0,1],[0,1,2],(dt 0 4),(dt 0 5),(dt 0 6),(dt 0 7),[0,1,2],[0,1,2,8],(dt 0 10),(dt 0 11)] [aK bg 34 (al ({ L with f3:=false }) y F z I D J E K),aK c 84 [aH bg]] jw (bU.thn (bU.thn (bU.thn bU.body))) fun I0 i1 w0 pk=>?_
  refine eA (ae R) 0 [0,5] rfl fO (h:=eA (.bool (decide (R = 2))) 1 [0,5] rfl (bk rfl rfl) (h:=vS (.bool (decide (R = 2))) 2 [0,5] rfl fO ?_))
  rcases bE H with⟨b,H⟩|⟨b,H⟩
  ·refine jj (v:=aH c) 3 [0,5] (by kernel_rfl) rfl rfl (.yes rfl rfl rfl rfl (ai b)) pk rfl rfl rfl (VR.ofV (kv c 0 0)) (jj 4 [0,5] (by kernel_rfl) rfl rfl (.yes rfl rfl rfl rfl (ai b)) pk rfl rfl rfl (ij c 0 1) (jj (v:=aH bg) 5 [0,5] (by kernel_rfl) rfl rfl (.yes rfl rfl rfl rfl (ai b)) pk rfl rfl rfl (VR.ofV cI) (jj (v:=sM bg 4) 6 [0,5] (by kernel_rfl) rfl rfl (.yes rfl rfl rfl rfl (ai b)) pk rfl rfl rfl (VR.ofV (kv bg 0 4)) (jj 7 [0,5] (by kernel_rfl) rfl rfl (.yes rfl rfl rfl rfl (ai b)) pk rfl rfl rfl (ij bg 4 0) (jj 8 [0,5] (by kernel_rfl) rfl rfl (.yes rfl rfl rfl rfl (ai b)) pk rfl rfl rfl (cz c 0 1 [aH bg]) ?_)))))
   obtain⟨g5,f6,H⟩:=ac H
   refine eX 9 (by kernel_rfl) rfl (.yes rfl rfl rfl rfl (ai b)) (dc [0,1,2,3,4] [5] (dp.ok (bg:=bg) f6) ?_)
   refine ⟨fun _=>⟨[0,5],rfl,rfl⟩,?_⟩
   refine jj (v:=.bool (decide (L.f2 = g5))) 10 [0,5] (by kernel_rfl) rfl rfl (.yes rfl rfl rfl rfl (ai b)) pk rfl rfl rfl (VR.ofV (bk rfl rfl)) (gZ 11 [0,5] rfl (VR.ofV (bS rfl (ai b) rfl)) (h:=aI (by kernel_rfl) ?_))
   have h:=aN H;subst h
   exact bK [0,1,2,3,4,5]
  refine jH 3 [0,5] (by kernel_rfl) rfl rfl (.no rfl rfl rfl rfl (am b)) pk rfl rfl rfl (jH 4 [0,5] (by kernel_rfl) rfl rfl (.no rfl rfl rfl rfl (am b)) pk rfl rfl rfl (jH 5 [0,5] (by kernel_rfl) rfl rfl (.no rfl rfl rfl rfl (am b)) pk rfl rfl rfl (jH 6 [0,5] (by kernel_rfl) rfl rfl (.no rfl rfl rfl rfl (am b)) pk rfl rfl rfl (jH 7 [0,5] (by kernel_rfl) rfl rfl (.no rfl rfl rfl rfl (am b)) pk rfl rfl rfl (jH 8 [0,5] (by kernel_rfl) rfl rfl (.no rfl rfl rfl rfl (am b)) pk rfl rfl rfl (jH 9 [0,5] (by kernel_rfl) rfl rfl (.no rfl rfl rfl rfl (am b)) pk rfl rfl rfl (jH 10 [0,5] (by kernel_rfl) rfl rfl (.no rfl rfl rfl rfl (am b)) pk rfl rfl rfl (gZ 11 [0,5] rfl (VR.ofV (bR rfl (am b) rfl)) (h:=aI (by kernel_rfl) ?_)))))))))
  have h:=aN H;subst h
  exact bK [0,1,2,3,4,5]
 rintro e ds As b8
 clear H
 have H:=b3
 clear b3
 refine aa (SA.of_St b8 fun junk=>?_)
 obtain⟨g7,H,O⟩:=ac H
 refine bI (fun e ds As=>∃ (a : aJ),g7 = Out.go a∧∃ (d : Option Addr) (j : Nat),∃ (m : Option Addr) (q : Nat),∃ (o : Option Addr) (s : Nat),∃ (p : Option Addr) (u : Nat),St [(1,aL a1),(2,aH c),(4,ae R)] (aK bg 34 (al a d j m q o s p u)::(bn a d j m q o s p u++[aK c 84 [aH bg]])) e ds As) ?_ ?_
 ·rcases bE H with⟨a3,H⟩|⟨a3,H⟩
  ·refine aD rfl a3 (ao (ao (bM 1 fun i6=>bM 2 fun i7=>bM 3 fun i8=>bM 4 fun i9=>ak (ad aA (h:=bp (aP 5) (h:=S' cI ?_))))))
   refine ad aA (h:=bp (aP 0) (h:=ad (bX rfl) (h:=S' ar ?_)))
   obtain⟨g4,H,a7⟩:=ac H
   refine cK 4 (St [(1,aL a1),(2,aH c),(4,ae R),(59,.bool g4)] (aK bg 34 (al ({ L with f3:=false }) y F z I D J E K)::(bn L y F z I D J E K++[aK c 84 [aH bg]]))) ?_ ?_
   ·rcases bE H with⟨N,H⟩|⟨N,H⟩
    ·refine cu 3 N (gN N ?_)
     have h:=aN H;subst h
     exact dL [0,1,2,3,4,5]
    refine z' (aM N) (cz c 0 5 [aH bg]) ?_
    obtain⟨k8,f8,H⟩:=ac H
    refine fT (aM N) (dc [0,1,2,3,4] [5] (dp.ok (bg:=bg) f8) ?_)
    refine bf (aM N) (bk rfl rfl) (h:=fZ (aM N) ?_)
    have h:=aN H;subst h
    exact dL [0,1,2,3,4,5]
   rintro e ds As b9
   clear H
   have H:=a7
   clear a7
   refine bA (SA.of_St b9 fun junk=>?_)
   rcases bE H with⟨a4,H⟩|⟨a4,H⟩
   ·refine aD rfl a4 (fm (aG (aG (aG ?_))))
    have h:=aN H;subst h
    have hb_:=dw O
    have hr_:=Option.some.inj hb_
    clear hb_
    subst hr_
    exact kR (aK bg 34 (al ({ L with f3:=false }) y F z I D J E K)::bn L y F z I D J E K) rfl (eZ [0,1,2,3,4]) ⟨y,F,z,I,D,J,E,K,rfl,rfl⟩
   refine aE rfl a4 (ap (aa (aR (ad aA (h:=bp (aP 5) (h:=ad cI (h:=ad aA (h:=o' (cF 0 [ae 0] (h:=(bA (ak (l' (cz c 0 5 [aH bg]) ?_)))))))))))))
   obtain⟨g6,f9,H⟩:=ac H
   refine o' (ed [0,1,2,3,4] [5] (eW.ok (bg:=bg) f9) fun e7 g0 e8 g1 e9 g2 f5 g3=>?_)
   refine ah ?_
   have h:=aN H;subst h
   exact aa ⟨g6,rfl,e7,g0,e8,g1,e9,g2,f5,g3,dZ [0,1,2,3,4,5]⟩
  refine aE rfl a3 (ap ?_)
  have h:=aN H;subst h
  exact aa ⟨({ L with f3:=false }),rfl,y,F,z,I,D,J,E,K,dZ [0,1,2,3,4,5]⟩
 rintro e ds As ⟨a,ht,d,j,m,q,o,s,p,u,c5⟩
 clear H
 subst ht
 replace O:=fw O
 have H:=O
 clear O
 refine aa (SA.of_St c5 fun junk=>ao (bM 1 fun j0=>bM 2 fun j1=>bM 3 fun j2=>bM 4 fun j3=>ak (l' (cz c 0 5 [aH bg]) ?_)))
 obtain⟨S,d3,H⟩:=ac H
 obtain⟨⟨hl841a,hl841b,hl841c⟩,H⟩:=aO H
 refine o' (ms [0,1,2,3,4] [5] (ef.ok (bg:=bg) d3) ?_)
 rintro _ _⟨a2,a6,a9,rfl,rfl⟩
 refine ad aW (h:=eD (ad aA (h:=bp (aP 5) (h:=ad cI (h:=ad aA (h:=bp (aP 0) (h:=bA ?_)))))))
 obtain⟨c6,H,a8⟩:=ac H
 refine bI (St [(1,aL a1),(2,aH c),(4,ae R),(5,.slice a2 S.2.toNat a6)] [aK bg 34 (al ({ a with f0:=(bH.mk a.f0.f0 a.f0.f1 c6) }) d j m q o s p u),Buf bD 55 d j c6,gf 3 m q a.f7,Buf bD 55 o s a.f16.f2,kU 21 p u a.f17,aK c 84 [aH bg]]) ?_ ?_
 ·rcases bE H with⟨a5,H⟩|⟨a5,H⟩
  ·refine aD rfl a5 ?_
   refine fj (dt 0 12) [0,5] (dt 1 4) fun _ _ _ _ _ sH dd pk=>?_
   refine bc 0 rfl sH ar (h:=bc 1 rfl sH aA (h:=bQ 2 rfl sH (aP 1) (h:=bc 3 rfl sH cI (h:=bc 4 rfl sH aA (h:=bQ 5 rfl sH (aP 0) (h:=bc 6 rfl sH ar (h:=bc 7 rfl sH aA (h:=bQ 8 rfl sH (aP 1) (h:=T' 9 rfl sH cI ?_)))))))))
   refine bc 10 rfl sH aA (h:=r' 11 rfl sH (cz bg 6 0 (bF a.f4)) ?_)
   obtain⟨j4,c8,H⟩:=ac H
   obtain⟨Z,H⟩:=aO H
   refine dU 12 rfl dd (dc [0] [1,2,3] (ja.ok (o0:=S.1) (n0:=S.2) (A0:=d) (c0:=j) (V0:=a2) (v0:=a6) (hw0:=a9) c8) ?_)
   try unfold cN
   try unfold fc
   try unfold al
   try rewrite [← Z]
   try unfold cN at sH
   try unfold fc at sH
   try unfold al at sH
   try rewrite [← Z] at sH
   refine aV dd sH (aI (by kernel_rfl) ?_)
   have h:=aN H;subst h
   exact bK [0,2,3,4,5,1]
  refine aE rfl a5 (ap ?_)
  have h:=aN H;subst h
  exact bK [0,1,2,3,4,5]
 rintro e ds As b1
 clear H
 have H:=a8
 clear a8
 obtain⟨i2,H⟩:=aO H
 refine aa (SA.of_St b1 fun junk=>ao ?_)
 refine fj (dt 0 12) [0,5] (dt 1 4) fun _ _ _ _ _ sH dd pk=>?_
 refine bc 0 rfl sH ar (h:=bc 1 rfl sH aA (h:=bQ 2 rfl sH (aP 1) (h:=bc 3 rfl sH cI (h:=bc 4 rfl sH aA (h:=bQ 5 rfl sH (aP 0) (h:=bc 6 rfl sH ar (h:=bc 7 rfl sH aA (h:=bQ 8 rfl sH (aP 1) (h:=T' 9 rfl sH cI ?_)))))))))
 refine bc 10 rfl sH aA (h:=r' 11 rfl sH (cz bg 6 0 (bF a.f4)) ?_)
 obtain⟨j5,c9,H⟩:=ac H
 refine dU 12 rfl dd (gy [] [0,1,2,3] (pL.ok c9) fun c7 d5=>?_)
 obtain⟨Y,d0,H⟩:=ac H
 obtain⟨a0,H⟩:=aO H
 refine dU 13 rfl dd (dc [1,0] [2,3,4] (hD.ok (o0:=S.1) (n0:=S.2) (A0:=d) (c0:=j) (V0:=a2) (v0:=a6) (hw0:=a9) (A2:=c7) (c2:=d5) d0) ?_)
 try unfold cN
 try unfold fc
 try unfold al
 try rewrite [← a0]
 try unfold cN at sH
 try unfold fc at sH
 try unfold al at sH
 try rewrite [← a0] at sH
 refine aV dd sH (aI (by kernel_rfl) (aa (aR (ad aA (h:=bp (aP 1) (h:=ad cI (h:=ad aA (h:=bp (aP 0) (h:=ad ar (h:=S' (bW rfl rfl) ?_))))))))))
 refine ad cI (h:=ad aA (h:=o' (cF 0 [ae (i64.wrap (a.f2 + R))] (h:=(bA (ao (bM 3 fun i0=>?_)))))))
 refine fN [0,1,2,3,4,5,7] #[[],[0],[0,1],[0,1,2],(dt 0 4),[],[5],(dt 0 6)] [aK bg 34 (al ({ a with f0:=(bH.mk a.f0.f0 a.f0.f1 Y),f2:=(i64.wrap (a.f2 + R)) }) d j m q o s p u),aK c 84 [aH bg]] jw (bU.thn bU.body) fun I0 i1 w0 pk=>?_
 refine eA (aH c) 0 [0,1] rfl (kv c 0 0) (h:=gZ 1 [0,1] rfl (ij c 0 1) (h:=eA (aH bg) 2 [0,1] rfl cI (h:=eA (sM bg 4) 3 [0,1] rfl (kv bg 0 4) (h:=gZ 4 [0,1] rfl (ij bg 4 0) (h:=sI 5 [0,1] rfl (cz c 0 1 [aH bg]) ?_)))))
 obtain⟨b0,d1,H⟩:=ac H
 refine eX 6 (by kernel_rfl) rfl (.no rfl) (dc [0,2,4,5,6] [1,3] (dp.ok (bg:=bg) d1) ?_)
 refine ⟨fun _=>⟨[0,5],rfl,rfl⟩,?_⟩
 refine eA (.bool (decide ((i64.wrap (a.f2 + R)) > b0))) 7 [0,5] rfl (eK rfl rfl) (h:=aI (by kernel_rfl) (aa (SA.of_St (l:=[(2,aH c),(116,.bool (decide ((i64.wrap (a.f2 + R)) > b0)))]) (B:=[aK bg 34 (al ({ a with f0:=(bH.mk a.f0.f0 a.f0.f1 Y),f2:=(i64.wrap (a.f2 + R)) }) d j m q o s p u),Buf bD 55 d j Y,gf 3 m q a.f7,Buf bD 55 o s a.f16.f2,kU 21 p u a.f17,aK c 84 [aH bg]]) (St.mk1 (cB rfl (cB rfl dS)) (Gh.sel [0,1,2,3,4,5] (by kernel_rfl) (by kernel_rfl))) fun junk=>?_)))
 rcases bE H with⟨U,H⟩|⟨U,H⟩
 ·refine aC rfl U ?_
  refine fj [0,1,2,3,4,6,7,9,10] [5] (dt 0 5) fun _ _ _ _ _ sH dd pk=>?_
  refine bc 0 rfl sH aA (h:=bQ 1 rfl sH (aP 0) (h:=bc 2 rfl sH aA (h:=bQ 3 rfl sH (aP 0) (h:=r' 4 rfl sH (cz c 0 0 [aH bg]) ?_))))
  obtain⟨d8,d2,H⟩:=ac H
  refine dU 5 rfl dd (dc [0,1,2,3,4] [] (dp.ok (bg:=bg) d2) ?_)
  refine bc 6 rfl sH cI (h:=bc 7 rfl sH aA (h:=dU 8 rfl dd (cF 0 [ae d8] (h:=(bc 9 rfl sH cI (h:=bc 10 rfl sH aA (h:=dU 11 rfl dd (cF 0 [.bool true] (h:=(aV dd sH (aI (by kernel_rfl) ?_)))))))))))
  have h:=aN H;subst h
  exact fG [1,2,3,4,5] ⟨d,j,m,q,o,s,p,u,rfl,rfl⟩
 refine aB rfl U (ap ?_)
 have h:=aN H;subst h
 exact fG [0,1,2,3,4] ⟨d,j,m,q,o,s,p,u,rfl,rfl⟩


def jY.f (k : Nat) (p0 : aJ) (p1 : Int) : Option (aJ):=(iJ.f k p0 p1).bind (fun a=>some (a))
theorem jY.ok {p0 : aJ} {p1 : Int} {r : aJ} (H : jY.f k p0 p1 = some r) : dk Tryz.prog 72 #[.agg #[.pointer (some ⟨bg,0,none⟩)],.pointer (some ⟨hM,0,none⟩)] (aK bg 34 (al p0 af ag ay az au av aw ax)::(bn p0 af ag ay az au av aw ax++[aK hM 21 [aL p1]])) (fun v B=>∃ P0_0_ q0_0_ P0_1_ q0_1_ P0_2_ q0_2_ P0_3_ q0_3_,v = .tuple #[]∧B = (aK bg 34 (al r P0_0_ q0_0_ P0_1_ q0_1_ P0_2_ q0_2_ P0_3_ q0_3_)::(bn r P0_0_ q0_0_ P0_1_ q0_1_ P0_2_ q0_2_ P0_3_ q0_3_++[aK hM 21 [aL p1]]))):=by
 refine aj Tryz.func72 rfl rfl ?_
 unfold jY.f at H
 refine aR (o' (bO (h:=fun q=>bA (bM 1 fun z=>bM 2 fun s=>bM 3 fun u=>bM 4 fun y=>ak (bp (cz q 0 6 [aH bg]) (h:=l' (aP 5) ?_))))))
 obtain⟨D,j,H⟩:=ac H
 refine o' (ed [0,1,2,3,4] [5,6] (iJ.ok (bg:=bg) j) fun a l b m c o d p=>?_)
 refine ah ?_
 have h:=aN H;subst h
 exact fG [0,1,2,3,4,5] ⟨a,l,b,m,c,o,d,p,rfl,rfl⟩

end Go.Proofs.YtckilbegmbaeeaaGreat.Z6

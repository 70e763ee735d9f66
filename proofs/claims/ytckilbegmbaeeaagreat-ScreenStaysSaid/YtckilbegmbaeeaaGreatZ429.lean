/- What functions compute, and that they do: 55. -/
import Derived.Test.YtckilbegmbaeeaaGreatZ40
import Derived.Test.YtckilbegmbaeeaaGreatZ426
namespace Go.Proofs.YtckilbegmbaeeaaGreat.Z4
open Go Go.RowKit Go.Proofs.YtckilbegmbaeeaaGreat.SL
set_option linter.unusedVariables false
set_option maxHeartbeats 20000000
set_option maxRecDepth 100000
set_option linter.unusedSimpArgs false
attribute [local irreducible] IntKind.wrap minI maxI shrI shlI andI orI xorI andNotI cplI rd sub bytesOf strOf slA
variable {c0_0 : Nat}
variable {A0_0 : Option Addr}
theorem F55.ok {a0 : S26} {a1 : Int} {a2 : Int} {a3 : Bool} {r : Bool} (H : F55b0.f a0 a1 a2 a3 = some r) : SCA Tryz.prog 55 #[.agg #[il' a0.f0,il' a0.f1,.slice A0_0 a0.f2.length c0_0],il' a1,il' a2,.bool a3] [Ro k55 A0_0 c0_0 a0.f2] (fun v B=>v = .bool r∧B = []):=by
 refine SCA_of_body Tryz.func55 rfl rfl ?_
 unfold F55b0.f at H
 refine qr' ?_
 refine o' (bx' fun b2=>?_)
 refine s' (.bool false) as' ?_
 refine nr' ?_
 refine s' (il' a1) mv' ?_
 refine s' (.bool (decide (a1 ≥ 0))) (V_geq rfl rfl) ?_
 refine s' (.bool (decide (a1 ≥ 0))) mv' ?_
 obtain⟨q4,hq4,H⟩:=g_lt H
 refine cR' 5 [(2,il' a2),(3,.bool a3),(4,pt' b2),(16,.bool q4)] [Blk b2 26 [il' a0.f0,il' a0.f1,.slice A0_0 a0.f2.length c0_0],Ro k55 A0_0 c0_0 a0.f2] ?_ fun junk=>?_
 ·by_cases h5 : a1 ≥ 0
  ·refine y' (dec_t h5) (il' a1) mv' ?_
   refine y' (dec_t h5) (pa' b2 1) (fa' b2 0 1) ?_
   refine z' (dec_t h5) (ld' b2 1 1) ?_
   refine y' (dec_t h5) (.bool (decide (a1 < a0.f1))) (V_lss rfl rfl) ?_
   refine pT' (dec_t h5) ?_
   refine RA_nil ?_
   exact at_normal (St.mk1 (aeq rfl (aeq rfl (aeq rfl (aeq (congrArg Value.bool (and_t hq4 (dec_t h5))) aeq0)))) (gs' [1,0]))
  refine no' 4 (dec_f h5) ?_
  refine pF' (dec_f h5) ?_
  refine RA_nil ?_
  exact at_normal (St.mk1 (aeq rfl (aeq rfl (aeq rfl (aeq (congrArg Value.bool (and_f hq4 (dec_f h5))) aeq0)))) (gs' [1,0]))
 refine s' (.bool q4) mv' ?_
 obtain⟨q7,hq7,H⟩:=g_lt H
 refine cR' 3 [(2,il' a2),(3,.bool a3),(4,pt' b2),(20,.bool q7)] [Blk b2 26 [il' a0.f0,il' a0.f1,.slice A0_0 a0.f2.length c0_0],Ro k55 A0_0 c0_0 a0.f2] ?_ fun junk=>?_
 ·by_cases h8 : q4 = true
  ·refine y' h8 (il' a2) mv' ?_
   refine y' h8 (.bool (decide (a2 ≥ 0))) (V_geq rfl rfl) ?_
   refine pT' h8 ?_
   refine RA_nil ?_
   exact at_normal (St.mk1 (aeq rfl (aeq rfl (aeq rfl (aeq (congrArg Value.bool (and_t hq7 (h8))) aeq0)))) (gs' [0,1]))
  refine no' 2 (bno h8) ?_
  refine pF' (bno h8) ?_
  refine RA_nil ?_
  exact at_normal (St.mk1 (aeq rfl (aeq rfl (aeq rfl (aeq (congrArg Value.bool (and_f hq7 (bno h8))) aeq0)))) (gs' [0,1]))
 refine s' (.bool q7) mv' ?_
 obtain⟨q10,hq10,H⟩:=g_lt H
 refine cR' 5 [(2,il' a2),(3,.bool a3),(4,pt' b2),(26,.bool q10)] [Blk b2 26 [il' a0.f0,il' a0.f1,.slice A0_0 a0.f2.length c0_0],Ro k55 A0_0 c0_0 a0.f2] ?_ fun junk=>?_
 ·by_cases h11 : q7 = true
  ·refine y' h11 (il' a2) mv' ?_
   refine y' h11 (pt' b2) (fa' b2 0 0) ?_
   refine z' h11 (ld' b2 0 0) ?_
   refine y' h11 (.bool (decide (a2 < a0.f0))) (V_lss rfl rfl) ?_
   refine pT' h11 ?_
   refine RA_nil ?_
   exact at_normal (St.mk1 (aeq rfl (aeq rfl (aeq rfl (aeq (congrArg Value.bool (and_t hq10 (h11))) aeq0)))) (gs' [0,1]))
  refine no' 4 (bno h11) ?_
  refine pF' (bno h11) ?_
  refine RA_nil ?_
  exact at_normal (St.mk1 (aeq rfl (aeq rfl (aeq rfl (aeq (congrArg Value.bool (and_f hq10 (bno h11))) aeq0)))) (gs' [0,1]))
 refine s' (.bool q10) mv' ?_
 obtain⟨q13,H,Bq13⟩:=g_bind H
 refine cR' 10 [(37,.bool q13)] [] ?_ fun junk=>?_
 ·by_cases h14 : q10 = true
  ·replace H:=g_ift h14 H
   refine y' h14 (.bool a3) mv' ?_
   refine y' h14 (.bool (!a3)) (V_not rfl) ?_
   refine y' h14 (.bool (!a3)) mv' ?_
   by_cases h15 : (!a3) = true
   ·replace H:=g_ift h15 H
    refine no' 5 h15 ?_
    refine yo' h14 (OA_v rfl (V_pickT rfl (h15) rfl) ?_)
    refine pT' h14 ?_
    have h_:=oi' H;subst h_
    exact rm' []
   replace H:=g_iff h15 H
   refine y' (bno h15) (il' a2) mv' ?_
   refine y' (bno h15) (pt' b2) (fa' b2 0 0) ?_
   refine z' (bno h15) (ld' b2 0 0) ?_
   refine y' (bno h15) (il' (IntKind.i64.wrap (a0.f0 - 1))) (V_sub rfl rfl) ?_
   refine y' (bno h15) (.bool (decide (a2 = (IntKind.i64.wrap (a0.f0 - 1))))) (V_eql rfl rfl) ?_
   refine yo' h14 (OA_v rfl (V_pickF rfl (bno h15) rfl) ?_)
   refine pT' h14 ?_
   have h_:=oi' H;subst h_
   exact rm' []
  replace H:=g_iff h14 H
  refine no' 3 (bno h14) ?_
  refine nu' ?_
  refine nu' ?_
  refine nu' ?_
  refine nu' ?_
  refine nu' ?_
  refine no' 1 (bno h14) ?_
  refine pF' (bno h14) ?_
  have h_:=oi' H;subst h_
  exact rm' []
 replace H:=Bq13
 refine s' (.bool q13) as' ?_
 refine nt' ?_
 have h_:=oi' H;subst h_
 exact b1' [] ⟨rfl,rfl⟩

end Go.Proofs.YtckilbegmbaeeaaGreat.Z4

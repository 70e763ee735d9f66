/- What functions compute, and that they do: 25, 26, 27, 56. -/
import Derived.Test.YtocjoegcfojjhaaHd0
import Derived.Test.YtocjoegcfojjhaaHd1
import Derived.Test.YtocjoegcfojjhaaHd2
namespace Go.Proofs.Ytocjoegcfojjhaa.Hd
open Go Go.RowKit Go.Proofs.Ytocjoegcfojjhaa.SL
set_option linter.unusedVariables false
set_option linter.unusedSimpArgs false
attribute [local irreducible] IntKind.wrap minI maxI shrI shlI andI orI xorI andNotI cplI rd sub bytesOf strOf slA
/-! ### function 56: wayfarer/wayfarerref03.Read -/
def F56.l0 (l0 : (List Int)) (a1 : Int) (a2 : Int) : Nat → Int → Int → Option (Int)
  | 0, _, _ => none
  | k + 1, x8_13, x9_13 => if x9_13 < a2 then (if 0 ≤ (IntKind.i64.wrap ((IntKind.i64.wrap (a1 + x9_13)).tdiv 8)) ∧ (IntKind.i64.wrap ((IntKind.i64.wrap (a1 + x9_13)).tdiv 8)) < (l0.length : Int) then (if 0 ≤ (IntKind.u64.wrap ((IntKind.i64.wrap (a1 + x9_13)).tmod 8)) then (if 0 ≤ (IntKind.u64.wrap (x9_13)) then (lt (orI .u64 x8_13 (shlI .u64 (IntKind.u64.wrap (andI .u8 (shrI .u8 (rd l0 (IntKind.i64.wrap ((IntKind.i64.wrap (a1 + x9_13)).tdiv 8))) (IntKind.u64.wrap ((IntKind.i64.wrap (a1 + x9_13)).tmod 8))) 1)) (IntKind.u64.wrap (x9_13)))) fun n21 => lt (IntKind.i64.wrap (x9_13 + 1)) fun n22 => F56.l0 l0 a1 a2 k n21 n22) else none) else none) else none) else (some x8_13)
def F56.f (k : Nat) (l0 : (List Int)) (a1 : Int) (a2 : Int) : Option (Int × Int) := lt ((decide (a1 < 0)) || (decide (a2 < 0))) fun q2 => lt (q2 || (decide (a2 > 64))) fun q5 => if q5 = true then (some ((0, 2))) else (lt ((decide (a1 > (IntKind.i64.wrap (8 * (l0.length : Int))))) || (decide (a2 > (IntKind.i64.wrap ((IntKind.i64.wrap (8 * (l0.length : Int))) - a1))))) fun q9 => if q9 = true then (some ((0, 7))) else ((F56.l0 l0 a1 a2 k 0 0 : Option (Int)).bind (fun t13 => some ((t13, 0)))))
set_option maxHeartbeats 2000000 in
set_option maxRecDepth 100000 in
theorem F56.ok {k : Nat} {l0 : (List Int)} {a1 : Int} {a2 : Int} {A0 : Option Addr} {c0 : Nat} {r : Int × Int} (H : F56.f k l0 a1 a2 = some r) : SCA Try.prog 56 #[.slice A0 l0.length c0, .int .i64 a1, .int .i64 a2] [Ro (Kd.int .u8) A0 c0 l0] (fun v B => v = .tuple #[.int .u64 r.1, .int .i64 r.2] ∧ B = []) := by
  refine SCA_of_body Try.func56 rfl rfl ?_
  unfold F56.f at H
  refine SA_seq ?_
  refine SA_region ?_
  refine RA_step rfl (OA_v (v := .int .u64 0) rfl (V_assign rfl) ?_)
  refine RA_step rfl (OA_v (v := .int .i64 0) rfl (V_assign rfl) ?_)
  refine RA_nil ?_
  refine at_normal ?_
  refine SA_seq ?_
  refine SA_seq ?_
  refine SA_region ?_
  refine RA_step rfl (OA_v (v := .int .i64 a1) rfl (V_move rfl) ?_)
  refine RA_step rfl (OA_v (v := .bool (decide (a1 < 0))) rfl (V_lss rfl rfl) ?_)
  refine RA_step rfl (OA_v (v := .bool (decide (a1 < 0))) rfl (V_move rfl) ?_)
  obtain ⟨q2, hq2, H⟩ := g_lt H
  refine RA_cut 3 (fun e ds As => St [(0, .slice A0 l0.length c0), (1, .int .i64 a1), (2, .int .i64 a2), (15, .bool q2)] [Ro (Kd.int .u8) A0 c0 l0] e ds As) ?_ ?_
  · by_cases h3 : a1 < 0
    · refine RA_noB rfl rfl rfl rfl (dec_t h3) rfl ?_
      refine RA_noB rfl rfl rfl rfl (dec_t h3) rfl ?_
      refine RA_step rfl (OA_v rfl (V_pickT rfl (dec_t h3) rfl) ?_)
      refine RA_nil ?_
      exact at_normal (St.mk1 (aeq rfl (aeq rfl (aeq rfl (aeq (congrArg Value.bool (or_t hq2 (dec_t h3))) aeq0)))) (Gh.sel [0] rfl rfl))
    · refine RA_yesB rfl rfl rfl rfl (dec_f h3) (OA_v (v := .int .i64 a2) rfl (V_move rfl) ?_)
      refine RA_yesB rfl rfl rfl rfl (dec_f h3) (OA_v (v := .bool (decide (a2 < 0))) rfl (V_lss rfl rfl) ?_)
      refine RA_step rfl (OA_v rfl (V_pickF rfl (dec_f h3) rfl) ?_)
      refine RA_nil ?_
      exact at_normal (St.mk1 (aeq rfl (aeq rfl (aeq rfl (aeq (congrArg Value.bool (or_f hq2 (dec_f h3))) aeq0)))) (Gh.sel [0] rfl rfl))
  · rintro e ds As hst4
    refine RA.of_St rfl hst4 fun junk => ?_
    refine RA_step rfl (OA_v (v := .bool q2) rfl (V_move rfl) ?_)
    obtain ⟨q5, hq5, H⟩ := g_lt H
    refine RA_cut 3 (fun e ds As => St [(0, .slice A0 l0.length c0), (1, .int .i64 a1), (2, .int .i64 a2), (19, .bool q5)] [Ro (Kd.int .u8) A0 c0 l0] e ds As) ?_ ?_
    · by_cases h6 : q2 = true
      · refine RA_noB rfl rfl rfl rfl (h6) rfl ?_
        refine RA_noB rfl rfl rfl rfl (h6) rfl ?_
        refine RA_step rfl (OA_v rfl (V_pickT rfl (h6) rfl) ?_)
        refine RA_nil ?_
        exact at_normal (St.mk1 (aeq rfl (aeq rfl (aeq rfl (aeq (congrArg Value.bool (or_t hq5 (h6))) aeq0)))) (Gh.sel [0] rfl rfl))
      · refine RA_yesB rfl rfl rfl rfl (bno h6) (OA_v (v := .int .i64 a2) rfl (V_move rfl) ?_)
        refine RA_yesB rfl rfl rfl rfl (bno h6) (OA_v (v := .bool (decide (a2 > 64))) rfl (V_gtr rfl rfl) ?_)
        refine RA_step rfl (OA_v rfl (V_pickF rfl (bno h6) rfl) ?_)
        refine RA_nil ?_
        exact at_normal (St.mk1 (aeq rfl (aeq rfl (aeq rfl (aeq (congrArg Value.bool (or_f hq5 (bno h6))) aeq0)))) (Gh.sel [0] rfl rfl))
    · rintro e ds As hst7
      refine RA_nil ?_
      refine at_normal ?_
      refine SA.of_St hst7 fun junk => ?_
      by_cases h8 : q5 = true
      · replace H := g_ift h8 H
        refine SA_condTb rfl h8 ?_
        refine SA_seq ?_
        refine SA_region ?_
        refine RA_step rfl (OA_v (v := .int .u64 0) rfl (V_assign rfl) ?_)
        refine RA_step rfl (OA_v (v := .int .i64 2) rfl (V_assign rfl) ?_)
        refine RA_nil ?_
        refine at_normal ?_
        refine SA_ret ?_
        refine thn_ret ?_
        have hr_ := Option.some.inj H
        subst hr_
        exact BQ_R2 [] rfl rfl rfl (Gh.sel [] rfl rfl) ⟨rfl, rfl⟩
      · replace H := g_iff h8 H
        refine SA_condFb rfl h8 ?_
        refine SA_skip ?_
        refine at_normal ?_
        refine SA_seq ?_
        refine SA_seq ?_
        refine SA_region ?_
        refine RA_step rfl (OA_v (v := .int .i64 a1) rfl (V_move rfl) ?_)
        refine RA_step rfl (OA_v (v := .slice A0 l0.length c0) rfl (V_move rfl) ?_)
        refine RA_step rfl (OA_v (v := .int .i64 (l0.length : Int)) rfl (V_len Try.underlying23 rfl) ?_)
        refine RA_step rfl (OA_v (v := .int .i64 (IntKind.i64.wrap (8 * (l0.length : Int)))) rfl (V_mul rfl rfl) ?_)
        refine RA_step rfl (OA_v (v := .bool (decide (a1 > (IntKind.i64.wrap (8 * (l0.length : Int)))))) rfl (V_gtr rfl rfl) ?_)
        refine RA_step rfl (OA_v (v := .bool (decide (a1 > (IntKind.i64.wrap (8 * (l0.length : Int)))))) rfl (V_move rfl) ?_)
        obtain ⟨q9, hq9, H⟩ := g_lt H
        refine RA_cut 8 (fun e ds As => St [(0, .slice A0 l0.length c0), (1, .int .i64 a1), (2, .int .i64 a2), (33, .bool q9)] [Ro (Kd.int .u8) A0 c0 l0] e ds As) ?_ ?_
        · by_cases h10 : a1 > (IntKind.i64.wrap (8 * (l0.length : Int)))
          · refine RA_noB rfl rfl rfl rfl (dec_t h10) rfl ?_
            refine RA_noB rfl rfl rfl rfl (dec_t h10) rfl ?_
            refine RA_noB rfl rfl rfl rfl (dec_t h10) rfl ?_
            refine RA_noB rfl rfl rfl rfl (dec_t h10) rfl ?_
            refine RA_noB rfl rfl rfl rfl (dec_t h10) rfl ?_
            refine RA_noB rfl rfl rfl rfl (dec_t h10) rfl ?_
            refine RA_noB rfl rfl rfl rfl (dec_t h10) rfl ?_
            refine RA_step rfl (OA_v rfl (V_pickT rfl (dec_t h10) rfl) ?_)
            refine RA_nil ?_
            exact at_normal (St.mk1 (aeq rfl (aeq rfl (aeq rfl (aeq (congrArg Value.bool (or_t hq9 (dec_t h10))) aeq0)))) (Gh.sel [0] rfl rfl))
          · refine RA_yesB rfl rfl rfl rfl (dec_f h10) (OA_v (v := .int .i64 a2) rfl (V_move rfl) ?_)
            refine RA_yesB rfl rfl rfl rfl (dec_f h10) (OA_v (v := .slice A0 l0.length c0) rfl (V_move rfl) ?_)
            refine RA_yesB rfl rfl rfl rfl (dec_f h10) (OA_v (v := .int .i64 (l0.length : Int)) rfl (V_len Try.underlying23 rfl) ?_)
            refine RA_yesB rfl rfl rfl rfl (dec_f h10) (OA_v (v := .int .i64 (IntKind.i64.wrap (8 * (l0.length : Int)))) rfl (V_mul rfl rfl) ?_)
            refine RA_yesB rfl rfl rfl rfl (dec_f h10) (OA_v (v := .int .i64 a1) rfl (V_move rfl) ?_)
            refine RA_yesB rfl rfl rfl rfl (dec_f h10) (OA_v (v := .int .i64 (IntKind.i64.wrap ((IntKind.i64.wrap (8 * (l0.length : Int))) - a1))) rfl (V_sub rfl rfl) ?_)
            refine RA_yesB rfl rfl rfl rfl (dec_f h10) (OA_v (v := .bool (decide (a2 > (IntKind.i64.wrap ((IntKind.i64.wrap (8 * (l0.length : Int))) - a1))))) rfl (V_gtr rfl rfl) ?_)
            refine RA_step rfl (OA_v rfl (V_pickF rfl (dec_f h10) rfl) ?_)
            refine RA_nil ?_
            exact at_normal (St.mk1 (aeq rfl (aeq rfl (aeq rfl (aeq (congrArg Value.bool (or_f hq9 (dec_f h10))) aeq0)))) (Gh.sel [0] rfl rfl))
        · rintro e ds As hst11
          refine RA_nil ?_
          refine at_normal ?_
          refine SA.of_St hst11 fun junk => ?_
          by_cases h12 : q9 = true
          · replace H := g_ift h12 H
            refine SA_condTb rfl h12 ?_
            refine SA_seq ?_
            refine SA_region ?_
            refine RA_step rfl (OA_v (v := .int .u64 0) rfl (V_assign rfl) ?_)
            refine RA_step rfl (OA_v (v := .int .i64 7) rfl (V_assign rfl) ?_)
            refine RA_nil ?_
            refine at_normal ?_
            refine SA_ret ?_
            refine thn_ret ?_
            have hr_ := Option.some.inj H
            subst hr_
            exact BQ_R2 [] rfl rfl rfl (Gh.sel [] rfl rfl) ⟨rfl, rfl⟩
          · replace H := g_iff h12 H
            refine SA_condFb rfl h12 ?_
            refine SA_skip ?_
            refine at_normal ?_
            refine SA_seq ?_
            refine SA_region ?_
            refine RA_step rfl (OA_v (v := .int .u64 0) rfl (V_assign rfl) ?_)
            refine RA_nil ?_
            refine at_normal ?_
            refine SA_seq ?_
            refine SA_seq ?_
            refine SA_region ?_
            refine RA_step rfl (OA_v (v := .int .i64 0) rfl (V_assign rfl) ?_)
            refine RA_nil ?_
            refine at_normal ?_
            obtain ⟨t13, H, Bt13⟩ := g_bind H
            refine SA_mid (fun e ds As => St [(8, .int .u64 t13)] [] e ds As) ?_ ?_
            · refine SA_block ?_
              refine SA_loop (fun k_ e ds As => ∃ (x8_13 : Int) (x9_13 : Int), F56.l0 l0 a1 a2 k_ x8_13 x9_13 = some t13 ∧ St [(0, .slice A0 l0.length c0), (1, .int .i64 a1), (2, .int .i64 a2), (8, .int .u64 x8_13), (9, .int .i64 x9_13)] [Ro (Kd.int .u8) A0 c0 l0] e ds As) (k := k) ⟨_, _, H, St.mk1 (aeq rfl (aeq rfl (aeq rfl (aeq rfl (aeq rfl aeq0))))) (Gh.sel [0] rfl rfl)⟩ ?_
              clear H
              rintro k14 e ds As ⟨x8_13, x9_13, H, hst15⟩
              obtain _ | k14 := k14
              · cases H
              rw [F56.l0] at H
              refine SA.of_St hst15 fun junk => ?_
              refine SA_seq ?_
              refine SA_seq ?_
              refine SA_region ?_
              refine RA_step rfl (OA_v (v := .int .i64 x9_13) rfl (V_move rfl) ?_)
              refine RA_step rfl (OA_v (v := .int .i64 a2) rfl (V_move rfl) ?_)
              refine RA_step rfl (OA_v (v := .bool (decide (x9_13 < a2))) rfl (V_lss rfl rfl) ?_)
              refine RA_nil ?_
              refine at_normal ?_
              by_cases h16 : x9_13 < a2
              · replace H := g_ift h16 H
                refine SA_condT rfl h16 ?_
                refine SA_skip ?_
                refine at_normal ?_
                refine SA_seq ?_
                refine SA_block ?_
                refine SA_region ?_
                refine RA_step rfl (OA_v (v := .int .u64 x8_13) rfl (V_move rfl) ?_)
                refine RA_step rfl (OA_v (v := .slice A0 l0.length c0) rfl (V_move rfl) ?_)
                refine RA_step rfl (OA_v (v := .int .i64 a1) rfl (V_move rfl) ?_)
                refine RA_step rfl (OA_v (v := .int .i64 x9_13) rfl (V_move rfl) ?_)
                refine RA_step rfl (OA_v (v := .int .i64 (IntKind.i64.wrap (a1 + x9_13))) rfl (V_add rfl rfl) ?_)
                refine RA_step rfl (OA_v (v := .int .i64 (IntKind.i64.wrap ((IntKind.i64.wrap (a1 + x9_13)).tdiv 8))) rfl (V_quo rfl rfl (by decide)) ?_)
                obtain ⟨⟨g17, g18⟩, H⟩ := g_pos H
                refine RA_step rfl (OA_r rfl (VR_index (i := IntKind.i64.wrap ((IntKind.i64.wrap (a1 + x9_13)).tdiv 8)) Try.underlying23 sz5 rfl rfl (Src.ro (k := 0) rfl) g17 g18) ?_)
                refine RA_step rfl (OA_r rfl (VR_load_el (enc := (fun x_ : Int => [Value.int .u8 x_])) (i := IntKind.i64.wrap ((IntKind.i64.wrap (a1 + x9_13)).tdiv 8)) (j := (IntKind.i64.wrap ((IntKind.i64.wrap (a1 + x9_13)).tdiv 8)).toNat * 1) (m := 0) (sz := 1) Try.underlying5 rfl rfl rfl rfl (Src.ro (k := 0) rfl) g17 g18 (fun _ _ h => h) rfl) ?_)
                refine RA_step rfl (OA_v (v := .int .i64 a1) rfl (V_move rfl) ?_)
                refine RA_step rfl (OA_v (v := .int .i64 x9_13) rfl (V_move rfl) ?_)
                refine RA_step rfl (OA_v (v := .int .i64 (IntKind.i64.wrap (a1 + x9_13))) rfl (V_add rfl rfl) ?_)
                refine RA_step rfl (OA_v (v := .int .i64 ((IntKind.i64.wrap (a1 + x9_13)).tmod 8)) rfl (V_rem rfl rfl (by decide)) ?_)
                refine RA_step rfl (OA_v (v := .int .u64 (IntKind.u64.wrap ((IntKind.i64.wrap (a1 + x9_13)).tmod 8))) rfl (V_conv (T := 3) (by kernel_rfl) Try.underlying53 rfl) ?_)
                obtain ⟨g19, H⟩ := g_pos H
                refine RA_step rfl (OA_v (v := .int .u8 (shrI .u8 (rd l0 (IntKind.i64.wrap ((IntKind.i64.wrap (a1 + x9_13)).tdiv 8))) (IntKind.u64.wrap ((IntKind.i64.wrap (a1 + x9_13)).tmod 8)))) rfl (V_shr rfl rfl g19) ?_)
                refine RA_step rfl (OA_v (v := .int .u8 (andI .u8 (shrI .u8 (rd l0 (IntKind.i64.wrap ((IntKind.i64.wrap (a1 + x9_13)).tdiv 8))) (IntKind.u64.wrap ((IntKind.i64.wrap (a1 + x9_13)).tmod 8))) 1)) rfl (V_and rfl rfl) ?_)
                refine RA_step rfl (OA_v (v := .int .u64 (IntKind.u64.wrap (andI .u8 (shrI .u8 (rd l0 (IntKind.i64.wrap ((IntKind.i64.wrap (a1 + x9_13)).tdiv 8))) (IntKind.u64.wrap ((IntKind.i64.wrap (a1 + x9_13)).tmod 8))) 1))) rfl (V_conv (T := 5) (by kernel_rfl) Try.underlying50 rfl) ?_)
                refine RA_step rfl (OA_v (v := .int .i64 x9_13) rfl (V_move rfl) ?_)
                refine RA_step rfl (OA_v (v := .int .u64 (IntKind.u64.wrap (x9_13))) rfl (V_conv (T := 3) (by kernel_rfl) Try.underlying53 rfl) ?_)
                obtain ⟨g20, H⟩ := g_pos H
                refine RA_step rfl (OA_v (v := .int .u64 (shlI .u64 (IntKind.u64.wrap (andI .u8 (shrI .u8 (rd l0 (IntKind.i64.wrap ((IntKind.i64.wrap (a1 + x9_13)).tdiv 8))) (IntKind.u64.wrap ((IntKind.i64.wrap (a1 + x9_13)).tmod 8))) 1)) (IntKind.u64.wrap (x9_13)))) rfl (V_shl rfl rfl g20) ?_)
                refine RA_step rfl (OA_v (v := .int .u64 (orI .u64 x8_13 (shlI .u64 (IntKind.u64.wrap (andI .u8 (shrI .u8 (rd l0 (IntKind.i64.wrap ((IntKind.i64.wrap (a1 + x9_13)).tdiv 8))) (IntKind.u64.wrap ((IntKind.i64.wrap (a1 + x9_13)).tmod 8))) 1)) (IntKind.u64.wrap (x9_13))))) rfl (V_or rfl rfl) ?_)
                obtain ⟨n21, hn21, H⟩ := g_lt H
                refine RA_step rfl (OA_v (v := .int .u64 n21) rfl (V_assign (v := .int .u64 n21) (congrArg (Value.int .u64) hn21.symm)) ?_)
                refine RA_nil ?_
                refine inb_normal ?_
                refine at_normal ?_
                refine SA_region ?_
                refine RA_step rfl (OA_v (v := .int .i64 x9_13) rfl (V_move rfl) ?_)
                refine RA_step rfl (OA_v (v := .int .i64 (IntKind.i64.wrap (x9_13 + 1))) rfl (V_add rfl rfl) ?_)
                obtain ⟨n22, hn22, H⟩ := g_lt H
                refine RA_step rfl (OA_v (v := .int .i64 n22) rfl (V_assign (v := .int .i64 n22) (congrArg (Value.int .i64) hn22.symm)) ?_)
                refine RA_nil ?_
                exact at_normal ⟨k14, Nat.lt_succ_self _, _, _, H, St.mk1 (aeq rfl (aeq rfl (aeq rfl (aeq rfl (aeq rfl aeq0))))) (Gh.sel [0] rfl rfl)⟩
              · replace H := g_iff h16 H
                refine SA_condF rfl h16 ?_
                refine SA_exit ?_
                refine thn_exit ?_
                refine thn_exit ?_
                refine inb_hit ?_
                have hr_ := Option.some.inj H
                subst hr_
                exact at_normal (St.mk1 (aeq rfl aeq0) (Gh.sel [] rfl rfl))
            · rintro e ds As hst23
              clear H
              have H := Bt13
              clear Bt13
              refine at_normal ?_
              refine SA.of_St hst23 fun junk => ?_
              refine SA_seq ?_
              refine SA_region ?_
              refine RA_step rfl (OA_v (v := .int .u64 t13) rfl (V_move rfl) ?_)
              refine RA_step rfl (OA_v (v := .int .u64 t13) rfl (V_assign rfl) ?_)
              refine RA_step rfl (OA_v (v := .int .i64 0) rfl (V_assign rfl) ?_)
              refine RA_nil ?_
              refine at_normal ?_
              refine SA_ret ?_
              have hr_ := Option.some.inj H
              subst hr_
              exact BQ_R2 [] rfl rfl rfl (Gh.sel [] rfl rfl) ⟨rfl, rfl⟩

/-! ### function 25: wayfarer/wayfarerref04.Symbol -/
def F25.l1 (l0 : (List Int)) (r9 : (List Int)) (x11_12 : Int) (x12_12 : Int) : Nat → Bool → Int → Option (Out (Int × Int × Int) (Bool))
  | 0, _, _ => none
  | k + 1, x13_16, x14_16 => if x14_16 < (l0.length : Int) then ((if 0 ≤ x14_16 ∧ x14_16 < (l0.length : Int) then (if (rd l0 x14_16) = 0 then (if true = true then (some true) else (if 0 ≤ x14_16 ∧ x14_16 < (r9.length : Int) then (if 0 ≤ x14_16 ∧ x14_16 < (l0.length : Int) then (if 0 ≤ (IntKind.u64.wrap (IntKind.i64.wrap ((rd l0 x14_16) - x12_12))) then (some (decide ((shrI .i64 (rd r9 x14_16) (IntKind.u64.wrap (IntKind.i64.wrap ((rd l0 x14_16) - x12_12)))) ≠ x11_12))) else none) else none) else none)) else (if 0 ≤ x14_16 ∧ x14_16 < (l0.length : Int) then (if (rd l0 x14_16) < x12_12 then (some true) else (if 0 ≤ x14_16 ∧ x14_16 < (r9.length : Int) then (if 0 ≤ x14_16 ∧ x14_16 < (l0.length : Int) then (if 0 ≤ (IntKind.u64.wrap (IntKind.i64.wrap ((rd l0 x14_16) - x12_12))) then (some (decide ((shrI .i64 (rd r9 x14_16) (IntKind.u64.wrap (IntKind.i64.wrap ((rd l0 x14_16) - x12_12)))) ≠ x11_12))) else none) else none) else none)) else none)) else none : Option (Bool)).bind (fun t20 => if t20 = true then (lt (IntKind.i64.wrap (x14_16 + 1)) fun n1767 => F25.l1 l0 r9 x11_12 x12_12 k x13_16 n1767) else (if 0 ≤ x14_16 ∧ x14_16 < (l0.length : Int) then (if (rd l0 x14_16) = x12_12 then (some (Out.ret ((x14_16, x12_12, 0)))) else (lt (IntKind.i64.wrap (x14_16 + 1)) fun n1771 => F25.l1 l0 r9 x11_12 x12_12 k true n1771)) else none))) else (some (Out.go x13_16))
def F25.l0 (l0 : (List Int)) (l1 : (List Int)) (a2 : Int) (r9 : (List Int)) : Nat → Int → Int → Option (Int × Int × Int)
  | 0, _, _ => none
  | k + 1, x11_12, x12_12 => (F25.l1 l0 r9 x11_12 x12_12 k false 0 : Option (Out (Int × Int × Int) (Bool))).bind (fun t15 => Out.el t15 (fun r_ => some r_) (fun s16 => if (!s16) = true then (some ((0, 0, 8))) else ((F56.f k l1 (IntKind.i64.wrap (a2 + x12_12)) 1).bind (fun r1774 => lt ((decide ((IntKind.i64.wrap (a2 + x12_12)) < 0)) || (decide (r1774.2 ≠ 0))) fun q1775 => if q1775 = true then (some ((0, 0, 7))) else (lt (IntKind.i64.wrap ((IntKind.i64.wrap (2 * x11_12)) + (IntKind.i64.wrap (r1774.1)))) fun n1779 => lt (IntKind.i64.wrap (x12_12 + 1)) fun n1780 => F25.l0 l0 l1 a2 r9 k n1779 n1780)))))
def F25.f (k : Nat) (l0 : (List Int)) (l1 : (List Int)) (a2 : Int) : Option (Int × Int × Int) := (F43.f k l0).bind (fun r3 => lt ((decide (r3 = 2)) || (decide (a2 < 0))) fun q4 => if q4 = true then (some ((0, 0, 2))) else (if r3 ≠ 0 then (some ((0, 0, r3))) else ((F50.f k l0).bind (fun r9 => F25.l0 l0 l1 a2 r9 k 0 0))))
set_option maxHeartbeats 2000000 in
set_option maxRecDepth 100000 in
theorem F25.ok {k : Nat} {l0 : (List Int)} {l1 : (List Int)} {a2 : Int} {A0 : Option Addr} {c0 : Nat} {A1 : Option Addr} {c1 : Nat} {r : Int × Int × Int} (H : F25.f k l0 l1 a2 = some r) : SCA Try.prog 25 #[.slice A0 l0.length c0, .slice A1 l1.length c1, .int .i64 a2] [Ro (Kd.int .i64) A0 c0 l0, Ro (Kd.int .u8) A1 c1 l1] (fun v B => v = .tuple #[.int .i64 r.1, .int .i64 r.2.1, .int .i64 r.2.2] ∧ B = []) := by
  refine SCA_of_body Try.func25 rfl rfl ?_
  unfold F25.f at H
  refine SA_seq ?_
  refine SA_region ?_
  refine RA_step rfl (OA_v (v := .int .i64 0) rfl (V_assign rfl) ?_)
  refine RA_step rfl (OA_v (v := .int .i64 0) rfl (V_assign rfl) ?_)
  refine RA_step rfl (OA_v (v := .int .i64 0) rfl (V_assign rfl) ?_)
  refine RA_nil ?_
  refine at_normal ?_
  refine SA_seq ?_
  refine SA_region ?_
  refine RA_step rfl (OA_v (v := .slice A0 l0.length c0) rfl (V_move rfl) ?_)
  obtain ⟨r3, C1783, H⟩ := g_bind H
  refine RA_step rfl (OA_callA [0] [0, 1] rfl (X_fn (vs := [.slice A0 l0.length c0]) Try.func43 nm43 rfl rfl) rfl (F43.ok (l0 := l0) (A0 := A0) (c0 := c0) C1783) rfl ?_)
  rintro _ _ ⟨rfl, rfl⟩
  refine RA_step rfl (OA_v (v := .int .i64 r3) rfl (V_assign rfl) ?_)
  refine RA_nil ?_
  refine at_normal ?_
  refine SA_seq ?_
  refine SA_seq ?_
  refine SA_region ?_
  refine RA_step rfl (OA_v (v := .int .i64 r3) rfl (V_move rfl) ?_)
  refine RA_step rfl (OA_v (v := .bool (decide (r3 = 2))) rfl (V_eql rfl rfl) ?_)
  refine RA_step rfl (OA_v (v := .bool (decide (r3 = 2))) rfl (V_move rfl) ?_)
  obtain ⟨q4, hq4, H⟩ := g_lt H
  refine RA_cut 3 (fun e ds As => St [(0, .slice A0 l0.length c0), (1, .slice A1 l1.length c1), (2, .int .i64 a2), (9, .int .i64 r3), (24, .bool q4)] [Ro (Kd.int .i64) A0 c0 l0, Ro (Kd.int .u8) A1 c1 l1] e ds As) ?_ ?_
  · by_cases h5 : r3 = 2
    · refine RA_noB rfl rfl rfl rfl (dec_t h5) rfl ?_
      refine RA_noB rfl rfl rfl rfl (dec_t h5) rfl ?_
      refine RA_step rfl (OA_v rfl (V_pickT rfl (dec_t h5) rfl) ?_)
      refine RA_nil ?_
      exact at_normal (St.mk1 (aeq rfl (aeq rfl (aeq rfl (aeq rfl (aeq (congrArg Value.bool (or_t hq4 (dec_t h5))) aeq0))))) (Gh.sel [0, 1] rfl rfl))
    · refine RA_yesB rfl rfl rfl rfl (dec_f h5) (OA_v (v := .int .i64 a2) rfl (V_move rfl) ?_)
      refine RA_yesB rfl rfl rfl rfl (dec_f h5) (OA_v (v := .bool (decide (a2 < 0))) rfl (V_lss rfl rfl) ?_)
      refine RA_step rfl (OA_v rfl (V_pickF rfl (dec_f h5) rfl) ?_)
      refine RA_nil ?_
      exact at_normal (St.mk1 (aeq rfl (aeq rfl (aeq rfl (aeq rfl (aeq (congrArg Value.bool (or_f hq4 (dec_f h5))) aeq0))))) (Gh.sel [0, 1] rfl rfl))
  · rintro e ds As hst6
    refine RA_nil ?_
    refine at_normal ?_
    refine SA.of_St hst6 fun junk => ?_
    by_cases h7 : q4 = true
    · replace H := g_ift h7 H
      refine SA_condTb rfl h7 ?_
      refine SA_seq ?_
      refine SA_region ?_
      refine RA_step rfl (OA_v (v := .int .i64 0) rfl (V_assign rfl) ?_)
      refine RA_step rfl (OA_v (v := .int .i64 0) rfl (V_assign rfl) ?_)
      refine RA_step rfl (OA_v (v := .int .i64 2) rfl (V_assign rfl) ?_)
      refine RA_nil ?_
      refine at_normal ?_
      refine SA_ret ?_
      refine thn_ret ?_
      have hr_ := Option.some.inj H
      subst hr_
      exact BQ_R3 [] rfl rfl rfl rfl (Gh.sel [] rfl rfl) ⟨rfl, rfl⟩
    · replace H := g_iff h7 H
      refine SA_condFb rfl h7 ?_
      refine SA_skip ?_
      refine at_normal ?_
      refine SA_seq ?_
      refine SA_seq ?_
      refine SA_region ?_
      refine RA_step rfl (OA_v (v := .int .i64 r3) rfl (V_move rfl) ?_)
      refine RA_step rfl (OA_v (v := .bool (decide (r3 ≠ 0))) rfl (V_neq rfl rfl) ?_)
      refine RA_nil ?_
      refine at_normal ?_
      by_cases h8 : r3 ≠ 0
      · replace H := g_ift h8 H
        refine SA_condT rfl h8 ?_
        refine SA_seq ?_
        refine SA_region ?_
        refine RA_step rfl (OA_v (v := .int .i64 r3) rfl (V_move rfl) ?_)
        refine RA_step rfl (OA_v (v := .int .i64 0) rfl (V_assign rfl) ?_)
        refine RA_step rfl (OA_v (v := .int .i64 0) rfl (V_assign rfl) ?_)
        refine RA_step rfl (OA_v (v := .int .i64 r3) rfl (V_assign rfl) ?_)
        refine RA_nil ?_
        refine at_normal ?_
        refine SA_ret ?_
        refine thn_ret ?_
        have hr_ := Option.some.inj H
        subst hr_
        exact BQ_R3 [] rfl rfl rfl rfl (Gh.sel [] rfl rfl) ⟨rfl, rfl⟩
      · replace H := g_iff h8 H
        refine SA_condF rfl h8 ?_
        refine SA_skip ?_
        refine at_normal ?_
        refine SA_seq ?_
        refine SA_region ?_
        refine RA_step rfl (OA_v (v := .slice A0 l0.length c0) rfl (V_move rfl) ?_)
        obtain ⟨r9, C1782, H⟩ := g_bind H
        refine RA_step rfl (OA_callA [0] [0, 1] rfl (X_fn (vs := [.slice A0 l0.length c0]) Try.func50 nm50 rfl rfl) rfl (F50.ok (l0 := l0) (A0 := A0) (c0 := c0) C1782) rfl ?_)
        rintro _ _ ⟨A10, c11, rfl, rfl⟩
        refine RA_step rfl (OA_v (v := .slice A10 r9.length c11) rfl (V_assign rfl) ?_)
        refine RA_nil ?_
        refine at_normal ?_
        refine SA_seq ?_
        refine SA_region ?_
        refine RA_step rfl (OA_v (v := .int .i64 0) rfl (V_assign rfl) ?_)
        refine RA_nil ?_
        refine at_normal ?_
        refine SA_seq ?_
        refine SA_region ?_
        refine RA_step rfl (OA_v (v := .int .i64 0) rfl (V_assign rfl) ?_)
        refine RA_nil ?_
        refine at_normal ?_
        refine SA_block ?_
        refine SA_loop (fun k_ e ds As => ∃ (x11_12 : Int) (x12_12 : Int), F25.l0 l0 l1 a2 r9 k_ x11_12 x12_12 = some r ∧ St [(0, .slice A0 l0.length c0), (1, .slice A1 l1.length c1), (2, .int .i64 a2), (10, .slice A10 r9.length c11), (11, .int .i64 x11_12), (12, .int .i64 x12_12)] [Ro (Kd.int .i64) A0 c0 l0, Ro (Kd.int .u8) A1 c1 l1, Buf (Kd.int .i64) 3 A10 c11 r9] e ds As) (k := k) ⟨_, _, H, St.mk1 (aeq rfl (aeq rfl (aeq rfl (aeq rfl (aeq rfl (aeq rfl aeq0)))))) (Gh.sel [1, 2, 0] rfl rfl)⟩ ?_
        clear H
        rintro k13 e ds As ⟨x11_12, x12_12, H, hst14⟩
        obtain _ | k13 := k13
        · cases H
        rw [F25.l0] at H
        refine SA.of_St hst14 fun junk => ?_
        refine SA_seq ?_
        refine SA_block ?_
        refine SA_seq ?_
        refine SA_region ?_
        refine RA_step rfl (OA_v (v := .bool false) rfl (V_assign rfl) ?_)
        refine RA_nil ?_
        refine at_normal ?_
        refine SA_seq ?_
        refine SA_seq ?_
        refine SA_region ?_
        refine RA_step rfl (OA_v (v := .int .i64 0) rfl (V_assign rfl) ?_)
        refine RA_nil ?_
        refine at_normal ?_
        obtain ⟨t15, H, Bt15⟩ := g_bind H
        refine SA_mid (fun e ds As => ∃ (s16 : Bool), t15 = Out.go s16 ∧ St [(0, .slice A0 l0.length c0), (1, .slice A1 l1.length c1), (2, .int .i64 a2), (10, .slice A10 r9.length c11), (11, .int .i64 x11_12), (12, .int .i64 x12_12), (13, .bool s16)] [Ro (Kd.int .i64) A0 c0 l0, Ro (Kd.int .u8) A1 c1 l1, Buf (Kd.int .i64) 3 A10 c11 r9] e ds As) ?_ ?_
        · refine SA_block ?_
          refine SA_loop (fun k_ e ds As => ∃ (x13_16 : Bool) (x14_16 : Int), F25.l1 l0 r9 x11_12 x12_12 k_ x13_16 x14_16 = some t15 ∧ St [(0, .slice A0 l0.length c0), (1, .slice A1 l1.length c1), (2, .int .i64 a2), (10, .slice A10 r9.length c11), (11, .int .i64 x11_12), (12, .int .i64 x12_12), (13, .bool x13_16), (14, .int .i64 x14_16)] [Ro (Kd.int .i64) A0 c0 l0, Ro (Kd.int .u8) A1 c1 l1, Buf (Kd.int .i64) 3 A10 c11 r9] e ds As) (k := k13) ⟨_, _, H, St.mk1 (aeq rfl (aeq rfl (aeq rfl (aeq rfl (aeq rfl (aeq rfl (aeq rfl (aeq rfl aeq0)))))))) (Gh.sel [0, 1, 2] rfl rfl)⟩ ?_
          clear H
          rintro k17 e ds As ⟨x13_16, x14_16, H, hst18⟩
          obtain _ | k17 := k17
          · cases H
          rw [F25.l1] at H
          refine SA.of_St hst18 fun junk => ?_
          refine SA_seq ?_
          refine SA_seq ?_
          refine SA_region ?_
          refine RA_step rfl (OA_v (v := .int .i64 x14_16) rfl (V_move rfl) ?_)
          refine RA_step rfl (OA_v (v := .slice A0 l0.length c0) rfl (V_move rfl) ?_)
          refine RA_step rfl (OA_v (v := .int .i64 (l0.length : Int)) rfl (V_len Try.underlying34 rfl) ?_)
          refine RA_step rfl (OA_v (v := .bool (decide (x14_16 < (l0.length : Int)))) rfl (V_lss rfl rfl) ?_)
          refine RA_nil ?_
          refine at_normal ?_
          by_cases h19 : x14_16 < (l0.length : Int)
          · replace H := g_ift h19 H
            refine SA_condT rfl h19 ?_
            refine SA_skip ?_
            refine at_normal ?_
            refine SA_seq ?_
            refine SA_block ?_
            refine SA_seq ?_
            refine SA_seq ?_
            obtain ⟨t20, H, Bt20⟩ := g_bind H
            refine SA_mid (fun e ds As => St [(0, .slice A0 l0.length c0), (1, .slice A1 l1.length c1), (2, .int .i64 a2), (10, .slice A10 r9.length c11), (11, .int .i64 x11_12), (12, .int .i64 x12_12), (13, .bool x13_16), (14, .int .i64 x14_16), (66, .bool t20)] [Ro (Kd.int .i64) A0 c0 l0, Ro (Kd.int .u8) A1 c1 l1, Buf (Kd.int .i64) 3 A10 c11 r9] e ds As) ?_ ?_
            · refine SA_drawH (0 :: 1 :: 2 :: 3 :: 4 :: 5 :: 6 :: 7 :: 8 :: 9 :: 10 :: 11 :: 12 :: 13 :: 14 :: 15 :: 16 :: 17 :: 18 :: 19 :: 20 :: 21 :: 22 :: 23 :: 24 :: 25 :: 26 :: 27 :: 28 :: []) (List.toArray ([] :: [] :: [0, 1] :: [0, 1, 2] :: [0, 1, 2, 3] :: [0, 1, 2, 3, 4] :: [0, 1, 2, 3, 4, 5] :: [0, 1, 2, 3, 4, 5] :: [0, 1, 2, 3, 4, 5, 6, 7] :: [0, 1, 2, 3, 4, 5, 6, 7, 8] :: [0, 1, 2, 3, 4, 5] :: [0, 1, 2, 3, 4, 5, 6, 7, 8, 9, 10] :: [0, 1, 2, 3, 4, 5, 6, 7, 8, 9, 10, 11] :: (0 :: 1 :: 2 :: 3 :: 4 :: 5 :: 6 :: 7 :: 8 :: 9 :: 10 :: 11 :: 12 :: []) :: (0 :: 1 :: 2 :: 3 :: 4 :: 5 :: 6 :: 7 :: 8 :: 9 :: 10 :: 11 :: 12 :: 13 :: []) :: (0 :: 1 :: 2 :: 3 :: 4 :: 5 :: 6 :: 7 :: 8 :: 9 :: 10 :: 11 :: 12 :: 13 :: []) :: (0 :: 1 :: 2 :: 3 :: 4 :: 5 :: 6 :: 7 :: 8 :: 9 :: 10 :: 11 :: 12 :: 13 :: 14 :: 15 :: []) :: (0 :: 1 :: 2 :: 3 :: 4 :: 5 :: 6 :: 7 :: 8 :: 9 :: 10 :: 11 :: 12 :: 13 :: 14 :: 15 :: 16 :: []) :: (0 :: 1 :: 2 :: 3 :: 4 :: 5 :: 6 :: 7 :: 8 :: 9 :: 10 :: 11 :: 12 :: 13 :: []) :: (0 :: 1 :: 2 :: 3 :: 4 :: 5 :: 6 :: 7 :: 8 :: 9 :: 10 :: 11 :: 12 :: 13 :: []) :: (0 :: 1 :: 2 :: 3 :: 4 :: 5 :: 6 :: 7 :: 8 :: 9 :: 10 :: 11 :: 12 :: 13 :: 18 :: 19 :: []) :: (0 :: 1 :: 2 :: 3 :: 4 :: 5 :: 6 :: 7 :: 8 :: 9 :: 10 :: 11 :: 12 :: 13 :: 18 :: 19 :: 20 :: []) :: (0 :: 1 :: 2 :: 3 :: 4 :: 5 :: 6 :: 7 :: 8 :: 9 :: 10 :: 11 :: 12 :: 13 :: []) :: (0 :: 1 :: 2 :: 3 :: 4 :: 5 :: 6 :: 7 :: 8 :: 9 :: 10 :: 11 :: 12 :: 13 :: 18 :: 19 :: 20 :: 21 :: 22 :: []) :: (0 :: 1 :: 2 :: 3 :: 4 :: 5 :: 6 :: 7 :: 8 :: 9 :: 10 :: 11 :: 12 :: 13 :: 18 :: 19 :: 20 :: 21 :: 22 :: 23 :: []) :: (0 :: 1 :: 2 :: 3 :: 4 :: 5 :: 6 :: 7 :: 8 :: 9 :: 10 :: 11 :: 12 :: 13 :: 14 :: 15 :: 16 :: 17 :: 18 :: 19 :: 20 :: 21 :: 22 :: 23 :: 24 :: []) :: (0 :: 1 :: 2 :: 3 :: 4 :: 5 :: 6 :: 7 :: 8 :: 9 :: 10 :: 11 :: 12 :: 13 :: []) :: (0 :: 1 :: 2 :: 3 :: 4 :: 5 :: 6 :: 7 :: 8 :: 9 :: 10 :: 11 :: 12 :: 13 :: 14 :: 15 :: 16 :: 17 :: 18 :: 19 :: 20 :: 21 :: 22 :: 23 :: 24 :: 25 :: 26 :: []) :: (0 :: 1 :: 2 :: 3 :: 4 :: 5 :: 6 :: 7 :: 8 :: 9 :: 10 :: 11 :: 12 :: 13 :: 14 :: 15 :: 16 :: 17 :: 18 :: 19 :: 20 :: 21 :: 22 :: 23 :: 24 :: 25 :: 26 :: 27 :: []) :: [])) [0, 1, 2] [0, 1] mixed rfl rfl rfl fun I0 hS h0 hh0 w0 sH dd => ?_
              refine DH_take (v := .slice A0 l0.length c0) 0 (by kernel_rfl) rfl rfl (.no rfl) (PanOk.thn (PanOk.thn (PanOk.thn (PanOk.inb (PanOk.thn (PanOk.thn (PanOk.inb (PanOk.thn (PanOk.thn (PanOk.inb (PanOk.thn (PanOk.thn (PanOk.inb PanOk.body))))))))))))) sH rfl (VR.ofV (V_move rfl)) ?_
              refine DH_take (v := .int .i64 x14_16) 1 (by kernel_rfl) rfl rfl (.no rfl) (PanOk.thn (PanOk.thn (PanOk.thn (PanOk.inb (PanOk.thn (PanOk.thn (PanOk.inb (PanOk.thn (PanOk.thn (PanOk.inb (PanOk.thn (PanOk.thn (PanOk.inb PanOk.body))))))))))))) sH rfl (VR.ofV (V_move rfl)) ?_
              obtain ⟨⟨g141, g142⟩, H⟩ := g_pos H
              refine DH_take 2 (by kernel_rfl) rfl rfl (.no rfl) (PanOk.thn (PanOk.thn (PanOk.thn (PanOk.inb (PanOk.thn (PanOk.thn (PanOk.inb (PanOk.thn (PanOk.thn (PanOk.inb (PanOk.thn (PanOk.thn (PanOk.inb PanOk.body))))))))))))) sH rfl (VR_index (i := x14_16) Try.underlying34 sz3 rfl rfl (Src.ro (k := 0) rfl) g141 g142) ?_
              refine DH_take 3 (by kernel_rfl) rfl rfl (.no rfl) (PanOk.thn (PanOk.thn (PanOk.thn (PanOk.inb (PanOk.thn (PanOk.thn (PanOk.inb (PanOk.thn (PanOk.thn (PanOk.inb (PanOk.thn (PanOk.thn (PanOk.inb PanOk.body))))))))))))) sH rfl (VR_load_el (enc := (fun x_ : Int => [Value.int .i64 x_])) (i := x14_16) (j := x14_16.toNat * 1) (m := 0) (sz := 1) Try.underlying3 rfl rfl rfl rfl (Src.ro (k := 0) rfl) g141 g142 (fun _ _ h => h) rfl) ?_
              refine DH_take (v := .bool (decide ((rd l0 x14_16) = 0))) 4 (by kernel_rfl) rfl rfl (.no rfl) (PanOk.thn (PanOk.thn (PanOk.thn (PanOk.inb (PanOk.thn (PanOk.thn (PanOk.inb (PanOk.thn (PanOk.thn (PanOk.inb (PanOk.thn (PanOk.thn (PanOk.inb PanOk.body))))))))))))) sH rfl (VR.ofV (V_eql rfl rfl)) ?_
              refine DH_take (v := .bool (decide ((rd l0 x14_16) = 0))) 5 (by kernel_rfl) rfl rfl (.no rfl) (PanOk.thn (PanOk.thn (PanOk.thn (PanOk.inb (PanOk.thn (PanOk.thn (PanOk.inb (PanOk.thn (PanOk.thn (PanOk.inb (PanOk.thn (PanOk.thn (PanOk.inb PanOk.body))))))))))))) sH rfl (VR.ofV (V_move rfl)) ?_
              by_cases h1762 : (rd l0 x14_16) = 0
              · replace H := g_ift h1762 H
                refine DH_skip 6 (by kernel_rfl) rfl rfl (.no rfl rfl rfl rfl (dec_t h1762)) (PanOk.thn (PanOk.thn (PanOk.thn (PanOk.inb (PanOk.thn (PanOk.thn (PanOk.inb (PanOk.thn (PanOk.thn (PanOk.inb (PanOk.thn (PanOk.thn (PanOk.inb PanOk.body))))))))))))) rfl ?_
                refine DH_skip 7 (by kernel_rfl) rfl rfl (.no rfl rfl rfl rfl (dec_t h1762)) (PanOk.thn (PanOk.thn (PanOk.thn (PanOk.inb (PanOk.thn (PanOk.thn (PanOk.inb (PanOk.thn (PanOk.thn (PanOk.inb (PanOk.thn (PanOk.thn (PanOk.inb PanOk.body))))))))))))) rfl ?_
                refine DH_skip 8 (by kernel_rfl) rfl rfl (.no rfl rfl rfl rfl (dec_t h1762)) (PanOk.thn (PanOk.thn (PanOk.thn (PanOk.inb (PanOk.thn (PanOk.thn (PanOk.inb (PanOk.thn (PanOk.thn (PanOk.inb (PanOk.thn (PanOk.thn (PanOk.inb PanOk.body))))))))))))) rfl ?_
                refine DH_skip 9 (by kernel_rfl) rfl rfl (.no rfl rfl rfl rfl (dec_t h1762)) (PanOk.thn (PanOk.thn (PanOk.thn (PanOk.inb (PanOk.thn (PanOk.thn (PanOk.inb (PanOk.thn (PanOk.thn (PanOk.inb (PanOk.thn (PanOk.thn (PanOk.inb PanOk.body))))))))))))) rfl ?_
                refine DH_skip 10 (by kernel_rfl) rfl rfl (.no rfl rfl rfl rfl (dec_t h1762)) (PanOk.thn (PanOk.thn (PanOk.thn (PanOk.inb (PanOk.thn (PanOk.thn (PanOk.inb (PanOk.thn (PanOk.thn (PanOk.inb (PanOk.thn (PanOk.thn (PanOk.inb PanOk.body))))))))))))) rfl ?_
                refine DH_skip 11 (by kernel_rfl) rfl rfl (.no rfl rfl rfl rfl (dec_t h1762)) (PanOk.thn (PanOk.thn (PanOk.thn (PanOk.inb (PanOk.thn (PanOk.thn (PanOk.inb (PanOk.thn (PanOk.thn (PanOk.inb (PanOk.thn (PanOk.thn (PanOk.inb PanOk.body))))))))))))) rfl ?_
                refine DH_take 12 (by kernel_rfl) rfl rfl (.no rfl) (PanOk.thn (PanOk.thn (PanOk.thn (PanOk.inb (PanOk.thn (PanOk.thn (PanOk.inb (PanOk.thn (PanOk.thn (PanOk.inb (PanOk.thn (PanOk.thn (PanOk.inb PanOk.body))))))))))))) sH rfl (VR.ofV (V_pickT rfl (dec_t h1762) rfl)) ?_
                refine DH_take (v := .bool true) 13 (by kernel_rfl) rfl rfl (.no rfl) (PanOk.thn (PanOk.thn (PanOk.thn (PanOk.inb (PanOk.thn (PanOk.thn (PanOk.inb (PanOk.thn (PanOk.thn (PanOk.inb (PanOk.thn (PanOk.thn (PanOk.inb PanOk.body))))))))))))) sH rfl (VR.ofV (V_move rfl)) ?_
                by_cases h1763 : true = true
                · replace H := g_ift h1763 H
                  refine DH_skip 14 (by kernel_rfl) rfl rfl (.no rfl rfl rfl rfl (h1763)) (PanOk.thn (PanOk.thn (PanOk.thn (PanOk.inb (PanOk.thn (PanOk.thn (PanOk.inb (PanOk.thn (PanOk.thn (PanOk.inb (PanOk.thn (PanOk.thn (PanOk.inb PanOk.body))))))))))))) rfl ?_
                  refine DH_skip 15 (by kernel_rfl) rfl rfl (.no rfl rfl rfl rfl (h1763)) (PanOk.thn (PanOk.thn (PanOk.thn (PanOk.inb (PanOk.thn (PanOk.thn (PanOk.inb (PanOk.thn (PanOk.thn (PanOk.inb (PanOk.thn (PanOk.thn (PanOk.inb PanOk.body))))))))))))) rfl ?_
                  refine DH_skip 16 (by kernel_rfl) rfl rfl (.no rfl rfl rfl rfl (h1763)) (PanOk.thn (PanOk.thn (PanOk.thn (PanOk.inb (PanOk.thn (PanOk.thn (PanOk.inb (PanOk.thn (PanOk.thn (PanOk.inb (PanOk.thn (PanOk.thn (PanOk.inb PanOk.body))))))))))))) rfl ?_
                  refine DH_skip 17 (by kernel_rfl) rfl rfl (.no rfl rfl rfl rfl (h1763)) (PanOk.thn (PanOk.thn (PanOk.thn (PanOk.inb (PanOk.thn (PanOk.thn (PanOk.inb (PanOk.thn (PanOk.thn (PanOk.inb (PanOk.thn (PanOk.thn (PanOk.inb PanOk.body))))))))))))) rfl ?_
                  refine DH_skip 18 (by kernel_rfl) rfl rfl (.no rfl rfl rfl rfl (h1763)) (PanOk.thn (PanOk.thn (PanOk.thn (PanOk.inb (PanOk.thn (PanOk.thn (PanOk.inb (PanOk.thn (PanOk.thn (PanOk.inb (PanOk.thn (PanOk.thn (PanOk.inb PanOk.body))))))))))))) rfl ?_
                  refine DH_skip 19 (by kernel_rfl) rfl rfl (.no rfl rfl rfl rfl (h1763)) (PanOk.thn (PanOk.thn (PanOk.thn (PanOk.inb (PanOk.thn (PanOk.thn (PanOk.inb (PanOk.thn (PanOk.thn (PanOk.inb (PanOk.thn (PanOk.thn (PanOk.inb PanOk.body))))))))))))) rfl ?_
                  refine DH_skip 20 (by kernel_rfl) rfl rfl (.no rfl rfl rfl rfl (h1763)) (PanOk.thn (PanOk.thn (PanOk.thn (PanOk.inb (PanOk.thn (PanOk.thn (PanOk.inb (PanOk.thn (PanOk.thn (PanOk.inb (PanOk.thn (PanOk.thn (PanOk.inb PanOk.body))))))))))))) rfl ?_
                  refine DH_skip 21 (by kernel_rfl) rfl rfl (.no rfl rfl rfl rfl (h1763)) (PanOk.thn (PanOk.thn (PanOk.thn (PanOk.inb (PanOk.thn (PanOk.thn (PanOk.inb (PanOk.thn (PanOk.thn (PanOk.inb (PanOk.thn (PanOk.thn (PanOk.inb PanOk.body))))))))))))) rfl ?_
                  refine DH_skip 22 (by kernel_rfl) rfl rfl (.no rfl rfl rfl rfl (h1763)) (PanOk.thn (PanOk.thn (PanOk.thn (PanOk.inb (PanOk.thn (PanOk.thn (PanOk.inb (PanOk.thn (PanOk.thn (PanOk.inb (PanOk.thn (PanOk.thn (PanOk.inb PanOk.body))))))))))))) rfl ?_
                  refine DH_skip 23 (by kernel_rfl) rfl rfl (.no rfl rfl rfl rfl (h1763)) (PanOk.thn (PanOk.thn (PanOk.thn (PanOk.inb (PanOk.thn (PanOk.thn (PanOk.inb (PanOk.thn (PanOk.thn (PanOk.inb (PanOk.thn (PanOk.thn (PanOk.inb PanOk.body))))))))))))) rfl ?_
                  refine DH_skip 24 (by kernel_rfl) rfl rfl (.no rfl rfl rfl rfl (h1763)) (PanOk.thn (PanOk.thn (PanOk.thn (PanOk.inb (PanOk.thn (PanOk.thn (PanOk.inb (PanOk.thn (PanOk.thn (PanOk.inb (PanOk.thn (PanOk.thn (PanOk.inb PanOk.body))))))))))))) rfl ?_
                  refine DH_skip 25 (by kernel_rfl) rfl rfl (.no rfl rfl rfl rfl (h1763)) (PanOk.thn (PanOk.thn (PanOk.thn (PanOk.inb (PanOk.thn (PanOk.thn (PanOk.inb (PanOk.thn (PanOk.thn (PanOk.inb (PanOk.thn (PanOk.thn (PanOk.inb PanOk.body))))))))))))) rfl ?_
                  refine DH_skip 26 (by kernel_rfl) rfl rfl (.no rfl rfl rfl rfl (h1763)) (PanOk.thn (PanOk.thn (PanOk.thn (PanOk.inb (PanOk.thn (PanOk.thn (PanOk.inb (PanOk.thn (PanOk.thn (PanOk.inb (PanOk.thn (PanOk.thn (PanOk.inb PanOk.body))))))))))))) rfl ?_
                  refine DH_skip 27 (by kernel_rfl) rfl rfl (.no rfl rfl rfl rfl (h1763)) (PanOk.thn (PanOk.thn (PanOk.thn (PanOk.inb (PanOk.thn (PanOk.thn (PanOk.inb (PanOk.thn (PanOk.thn (PanOk.inb (PanOk.thn (PanOk.thn (PanOk.inb PanOk.body))))))))))))) rfl ?_
                  refine DH_take 28 (by kernel_rfl) rfl rfl (.no rfl) (PanOk.thn (PanOk.thn (PanOk.thn (PanOk.inb (PanOk.thn (PanOk.thn (PanOk.inb (PanOk.thn (PanOk.thn (PanOk.inb (PanOk.thn (PanOk.thn (PanOk.inb PanOk.body))))))))))))) sH rfl (VR.ofV (V_pickT rfl (h1763) rfl)) ?_
                  refine DH_open dd sH ?_
                  refine DN_done (by kernel_rfl) ?_
                  have hr_ := Option.some.inj H
                  subst hr_
                  exact at_normal (St.mk1 (aeq rfl (aeq rfl (aeq rfl (aeq rfl (aeq rfl (aeq rfl (aeq rfl (aeq rfl (aeq rfl aeq0))))))))) (Gh.sel [0, 1, 2] rfl rfl))
                · replace H := g_iff h1763 H
                  refine DH_take (v := .slice A10 r9.length c11) 14 (by kernel_rfl) rfl rfl (.yes rfl rfl rfl rfl (bno h1763)) (PanOk.thn (PanOk.thn (PanOk.thn (PanOk.inb (PanOk.thn (PanOk.thn (PanOk.inb (PanOk.thn (PanOk.thn (PanOk.inb (PanOk.thn (PanOk.thn (PanOk.inb PanOk.body))))))))))))) sH rfl (VR.ofV (V_move rfl)) ?_
                  refine DH_take (v := .int .i64 x14_16) 15 (by kernel_rfl) rfl rfl (.yes rfl rfl rfl rfl (bno h1763)) (PanOk.thn (PanOk.thn (PanOk.thn (PanOk.inb (PanOk.thn (PanOk.thn (PanOk.inb (PanOk.thn (PanOk.thn (PanOk.inb (PanOk.thn (PanOk.thn (PanOk.inb PanOk.body))))))))))))) sH rfl (VR.ofV (V_move rfl)) ?_
                  obtain ⟨⟨g981, g982⟩, H⟩ := g_pos H
                  refine DH_take 16 (by kernel_rfl) rfl rfl (.yes rfl rfl rfl rfl (bno h1763)) (PanOk.thn (PanOk.thn (PanOk.thn (PanOk.inb (PanOk.thn (PanOk.thn (PanOk.inb (PanOk.thn (PanOk.thn (PanOk.inb (PanOk.thn (PanOk.thn (PanOk.inb PanOk.body))))))))))))) sH rfl (VR_index (i := x14_16) Try.underlying34 sz3 rfl rfl (Src.buf (k := 2) rfl) g981 g982) ?_
                  refine DH_take 17 (by kernel_rfl) rfl rfl (.yes rfl rfl rfl rfl (bno h1763)) (PanOk.thn (PanOk.thn (PanOk.thn (PanOk.inb (PanOk.thn (PanOk.thn (PanOk.inb (PanOk.thn (PanOk.thn (PanOk.inb (PanOk.thn (PanOk.thn (PanOk.inb PanOk.body))))))))))))) sH rfl (VR_load_el (enc := (fun x_ : Int => [Value.int .i64 x_])) (i := x14_16) (j := x14_16.toNat * 1) (m := 0) (sz := 1) Try.underlying3 rfl rfl rfl rfl (Src.buf (k := 2) rfl) g981 g982 (fun _ _ h => h) rfl) ?_
                  refine DH_take (v := .slice A0 l0.length c0) 18 (by kernel_rfl) rfl rfl (.yes rfl rfl rfl rfl (bno h1763)) (PanOk.thn (PanOk.thn (PanOk.thn (PanOk.inb (PanOk.thn (PanOk.thn (PanOk.inb (PanOk.thn (PanOk.thn (PanOk.inb (PanOk.thn (PanOk.thn (PanOk.inb PanOk.body))))))))))))) sH rfl (VR.ofV (V_move rfl)) ?_
                  refine DH_take (v := .int .i64 x14_16) 19 (by kernel_rfl) rfl rfl (.yes rfl rfl rfl rfl (bno h1763)) (PanOk.thn (PanOk.thn (PanOk.thn (PanOk.inb (PanOk.thn (PanOk.thn (PanOk.inb (PanOk.thn (PanOk.thn (PanOk.inb (PanOk.thn (PanOk.thn (PanOk.inb PanOk.body))))))))))))) sH rfl (VR.ofV (V_move rfl)) ?_
                  obtain ⟨⟨g1221, g1222⟩, H⟩ := g_pos H
                  refine DH_take 20 (by kernel_rfl) rfl rfl (.yes rfl rfl rfl rfl (bno h1763)) (PanOk.thn (PanOk.thn (PanOk.thn (PanOk.inb (PanOk.thn (PanOk.thn (PanOk.inb (PanOk.thn (PanOk.thn (PanOk.inb (PanOk.thn (PanOk.thn (PanOk.inb PanOk.body))))))))))))) sH rfl (VR_index (i := x14_16) Try.underlying34 sz3 rfl rfl (Src.ro (k := 0) rfl) g1221 g1222) ?_
                  refine DH_take 21 (by kernel_rfl) rfl rfl (.yes rfl rfl rfl rfl (bno h1763)) (PanOk.thn (PanOk.thn (PanOk.thn (PanOk.inb (PanOk.thn (PanOk.thn (PanOk.inb (PanOk.thn (PanOk.thn (PanOk.inb (PanOk.thn (PanOk.thn (PanOk.inb PanOk.body))))))))))))) sH rfl (VR_load_el (enc := (fun x_ : Int => [Value.int .i64 x_])) (i := x14_16) (j := x14_16.toNat * 1) (m := 0) (sz := 1) Try.underlying3 rfl rfl rfl rfl (Src.ro (k := 0) rfl) g1221 g1222 (fun _ _ h => h) rfl) ?_
                  refine DH_take (v := .int .i64 x12_12) 22 (by kernel_rfl) rfl rfl (.yes rfl rfl rfl rfl (bno h1763)) (PanOk.thn (PanOk.thn (PanOk.thn (PanOk.inb (PanOk.thn (PanOk.thn (PanOk.inb (PanOk.thn (PanOk.thn (PanOk.inb (PanOk.thn (PanOk.thn (PanOk.inb PanOk.body))))))))))))) sH rfl (VR.ofV (V_move rfl)) ?_
                  refine DH_take (v := .int .i64 (IntKind.i64.wrap ((rd l0 x14_16) - x12_12))) 23 (by kernel_rfl) rfl rfl (.yes rfl rfl rfl rfl (bno h1763)) (PanOk.thn (PanOk.thn (PanOk.thn (PanOk.inb (PanOk.thn (PanOk.thn (PanOk.inb (PanOk.thn (PanOk.thn (PanOk.inb (PanOk.thn (PanOk.thn (PanOk.inb PanOk.body))))))))))))) sH rfl (VR.ofV (V_sub rfl rfl)) ?_
                  refine DH_take (v := .int .u64 (IntKind.u64.wrap (IntKind.i64.wrap ((rd l0 x14_16) - x12_12)))) 24 (by kernel_rfl) rfl rfl (.yes rfl rfl rfl rfl (bno h1763)) (PanOk.thn (PanOk.thn (PanOk.thn (PanOk.inb (PanOk.thn (PanOk.thn (PanOk.inb (PanOk.thn (PanOk.thn (PanOk.inb (PanOk.thn (PanOk.thn (PanOk.inb PanOk.body))))))))))))) sH rfl (VR.ofV (V_conv (T := 3) (by kernel_rfl) Try.underlying53 rfl)) ?_
                  obtain ⟨g1521, H⟩ := g_pos H
                  refine DH_take (v := .int .i64 (shrI .i64 (rd r9 x14_16) (IntKind.u64.wrap (IntKind.i64.wrap ((rd l0 x14_16) - x12_12))))) 25 (by kernel_rfl) rfl rfl (.yes rfl rfl rfl rfl (bno h1763)) (PanOk.thn (PanOk.thn (PanOk.thn (PanOk.inb (PanOk.thn (PanOk.thn (PanOk.inb (PanOk.thn (PanOk.thn (PanOk.inb (PanOk.thn (PanOk.thn (PanOk.inb PanOk.body))))))))))))) sH rfl (VR.ofV (V_shr rfl rfl g1521)) ?_
                  refine DH_take (v := .int .i64 x11_12) 26 (by kernel_rfl) rfl rfl (.yes rfl rfl rfl rfl (bno h1763)) (PanOk.thn (PanOk.thn (PanOk.thn (PanOk.inb (PanOk.thn (PanOk.thn (PanOk.inb (PanOk.thn (PanOk.thn (PanOk.inb (PanOk.thn (PanOk.thn (PanOk.inb PanOk.body))))))))))))) sH rfl (VR.ofV (V_move rfl)) ?_
                  refine DH_take (v := .bool (decide ((shrI .i64 (rd r9 x14_16) (IntKind.u64.wrap (IntKind.i64.wrap ((rd l0 x14_16) - x12_12)))) ≠ x11_12))) 27 (by kernel_rfl) rfl rfl (.yes rfl rfl rfl rfl (bno h1763)) (PanOk.thn (PanOk.thn (PanOk.thn (PanOk.inb (PanOk.thn (PanOk.thn (PanOk.inb (PanOk.thn (PanOk.thn (PanOk.inb (PanOk.thn (PanOk.thn (PanOk.inb PanOk.body))))))))))))) sH rfl (VR.ofV (V_neq rfl rfl)) ?_
                  refine DH_take 28 (by kernel_rfl) rfl rfl (.no rfl) (PanOk.thn (PanOk.thn (PanOk.thn (PanOk.inb (PanOk.thn (PanOk.thn (PanOk.inb (PanOk.thn (PanOk.thn (PanOk.inb (PanOk.thn (PanOk.thn (PanOk.inb PanOk.body))))))))))))) sH rfl (VR.ofV (V_pickF rfl (bno h1763) rfl)) ?_
                  refine DH_open dd sH ?_
                  refine DN_done (by kernel_rfl) ?_
                  have hr_ := Option.some.inj H
                  subst hr_
                  exact at_normal (St.mk1 (aeq rfl (aeq rfl (aeq rfl (aeq rfl (aeq rfl (aeq rfl (aeq rfl (aeq rfl (aeq rfl aeq0))))))))) (Gh.sel [0, 1, 2] rfl rfl))
              · replace H := g_iff h1762 H
                refine DH_take (v := .slice A0 l0.length c0) 6 (by kernel_rfl) rfl rfl (.yes rfl rfl rfl rfl (dec_f h1762)) (PanOk.thn (PanOk.thn (PanOk.thn (PanOk.inb (PanOk.thn (PanOk.thn (PanOk.inb (PanOk.thn (PanOk.thn (PanOk.inb (PanOk.thn (PanOk.thn (PanOk.inb PanOk.body))))))))))))) sH rfl (VR.ofV (V_move rfl)) ?_
                refine DH_take (v := .int .i64 x14_16) 7 (by kernel_rfl) rfl rfl (.yes rfl rfl rfl rfl (dec_f h1762)) (PanOk.thn (PanOk.thn (PanOk.thn (PanOk.inb (PanOk.thn (PanOk.thn (PanOk.inb (PanOk.thn (PanOk.thn (PanOk.inb (PanOk.thn (PanOk.thn (PanOk.inb PanOk.body))))))))))))) sH rfl (VR.ofV (V_move rfl)) ?_
                obtain ⟨⟨g501, g502⟩, H⟩ := g_pos H
                refine DH_take 8 (by kernel_rfl) rfl rfl (.yes rfl rfl rfl rfl (dec_f h1762)) (PanOk.thn (PanOk.thn (PanOk.thn (PanOk.inb (PanOk.thn (PanOk.thn (PanOk.inb (PanOk.thn (PanOk.thn (PanOk.inb (PanOk.thn (PanOk.thn (PanOk.inb PanOk.body))))))))))))) sH rfl (VR_index (i := x14_16) Try.underlying34 sz3 rfl rfl (Src.ro (k := 0) rfl) g501 g502) ?_
                refine DH_take 9 (by kernel_rfl) rfl rfl (.yes rfl rfl rfl rfl (dec_f h1762)) (PanOk.thn (PanOk.thn (PanOk.thn (PanOk.inb (PanOk.thn (PanOk.thn (PanOk.inb (PanOk.thn (PanOk.thn (PanOk.inb (PanOk.thn (PanOk.thn (PanOk.inb PanOk.body))))))))))))) sH rfl (VR_load_el (enc := (fun x_ : Int => [Value.int .i64 x_])) (i := x14_16) (j := x14_16.toNat * 1) (m := 0) (sz := 1) Try.underlying3 rfl rfl rfl rfl (Src.ro (k := 0) rfl) g501 g502 (fun _ _ h => h) rfl) ?_
                refine DH_take (v := .int .i64 x12_12) 10 (by kernel_rfl) rfl rfl (.yes rfl rfl rfl rfl (dec_f h1762)) (PanOk.thn (PanOk.thn (PanOk.thn (PanOk.inb (PanOk.thn (PanOk.thn (PanOk.inb (PanOk.thn (PanOk.thn (PanOk.inb (PanOk.thn (PanOk.thn (PanOk.inb PanOk.body))))))))))))) sH rfl (VR.ofV (V_move rfl)) ?_
                refine DH_take (v := .bool (decide ((rd l0 x14_16) < x12_12))) 11 (by kernel_rfl) rfl rfl (.yes rfl rfl rfl rfl (dec_f h1762)) (PanOk.thn (PanOk.thn (PanOk.thn (PanOk.inb (PanOk.thn (PanOk.thn (PanOk.inb (PanOk.thn (PanOk.thn (PanOk.inb (PanOk.thn (PanOk.thn (PanOk.inb PanOk.body))))))))))))) sH rfl (VR.ofV (V_lss rfl rfl)) ?_
                refine DH_take 12 (by kernel_rfl) rfl rfl (.no rfl) (PanOk.thn (PanOk.thn (PanOk.thn (PanOk.inb (PanOk.thn (PanOk.thn (PanOk.inb (PanOk.thn (PanOk.thn (PanOk.inb (PanOk.thn (PanOk.thn (PanOk.inb PanOk.body))))))))))))) sH rfl (VR.ofV (V_pickF rfl (dec_f h1762) rfl)) ?_
                refine DH_take (v := .bool (decide ((rd l0 x14_16) < x12_12))) 13 (by kernel_rfl) rfl rfl (.no rfl) (PanOk.thn (PanOk.thn (PanOk.thn (PanOk.inb (PanOk.thn (PanOk.thn (PanOk.inb (PanOk.thn (PanOk.thn (PanOk.inb (PanOk.thn (PanOk.thn (PanOk.inb PanOk.body))))))))))))) sH rfl (VR.ofV (V_move rfl)) ?_
                by_cases h1764 : (rd l0 x14_16) < x12_12
                · replace H := g_ift h1764 H
                  refine DH_skip 14 (by kernel_rfl) rfl rfl (.no rfl rfl rfl rfl (dec_t h1764)) (PanOk.thn (PanOk.thn (PanOk.thn (PanOk.inb (PanOk.thn (PanOk.thn (PanOk.inb (PanOk.thn (PanOk.thn (PanOk.inb (PanOk.thn (PanOk.thn (PanOk.inb PanOk.body))))))))))))) rfl ?_
                  refine DH_skip 15 (by kernel_rfl) rfl rfl (.no rfl rfl rfl rfl (dec_t h1764)) (PanOk.thn (PanOk.thn (PanOk.thn (PanOk.inb (PanOk.thn (PanOk.thn (PanOk.inb (PanOk.thn (PanOk.thn (PanOk.inb (PanOk.thn (PanOk.thn (PanOk.inb PanOk.body))))))))))))) rfl ?_
                  refine DH_skip 16 (by kernel_rfl) rfl rfl (.no rfl rfl rfl rfl (dec_t h1764)) (PanOk.thn (PanOk.thn (PanOk.thn (PanOk.inb (PanOk.thn (PanOk.thn (PanOk.inb (PanOk.thn (PanOk.thn (PanOk.inb (PanOk.thn (PanOk.thn (PanOk.inb PanOk.body))))))))))))) rfl ?_
                  refine DH_skip 17 (by kernel_rfl) rfl rfl (.no rfl rfl rfl rfl (dec_t h1764)) (PanOk.thn (PanOk.thn (PanOk.thn (PanOk.inb (PanOk.thn (PanOk.thn (PanOk.inb (PanOk.thn (PanOk.thn (PanOk.inb (PanOk.thn (PanOk.thn (PanOk.inb PanOk.body))))))))))))) rfl ?_
                  refine DH_skip 18 (by kernel_rfl) rfl rfl (.no rfl rfl rfl rfl (dec_t h1764)) (PanOk.thn (PanOk.thn (PanOk.thn (PanOk.inb (PanOk.thn (PanOk.thn (PanOk.inb (PanOk.thn (PanOk.thn (PanOk.inb (PanOk.thn (PanOk.thn (PanOk.inb PanOk.body))))))))))))) rfl ?_
                  refine DH_skip 19 (by kernel_rfl) rfl rfl (.no rfl rfl rfl rfl (dec_t h1764)) (PanOk.thn (PanOk.thn (PanOk.thn (PanOk.inb (PanOk.thn (PanOk.thn (PanOk.inb (PanOk.thn (PanOk.thn (PanOk.inb (PanOk.thn (PanOk.thn (PanOk.inb PanOk.body))))))))))))) rfl ?_
                  refine DH_skip 20 (by kernel_rfl) rfl rfl (.no rfl rfl rfl rfl (dec_t h1764)) (PanOk.thn (PanOk.thn (PanOk.thn (PanOk.inb (PanOk.thn (PanOk.thn (PanOk.inb (PanOk.thn (PanOk.thn (PanOk.inb (PanOk.thn (PanOk.thn (PanOk.inb PanOk.body))))))))))))) rfl ?_
                  refine DH_skip 21 (by kernel_rfl) rfl rfl (.no rfl rfl rfl rfl (dec_t h1764)) (PanOk.thn (PanOk.thn (PanOk.thn (PanOk.inb (PanOk.thn (PanOk.thn (PanOk.inb (PanOk.thn (PanOk.thn (PanOk.inb (PanOk.thn (PanOk.thn (PanOk.inb PanOk.body))))))))))))) rfl ?_
                  refine DH_skip 22 (by kernel_rfl) rfl rfl (.no rfl rfl rfl rfl (dec_t h1764)) (PanOk.thn (PanOk.thn (PanOk.thn (PanOk.inb (PanOk.thn (PanOk.thn (PanOk.inb (PanOk.thn (PanOk.thn (PanOk.inb (PanOk.thn (PanOk.thn (PanOk.inb PanOk.body))))))))))))) rfl ?_
                  refine DH_skip 23 (by kernel_rfl) rfl rfl (.no rfl rfl rfl rfl (dec_t h1764)) (PanOk.thn (PanOk.thn (PanOk.thn (PanOk.inb (PanOk.thn (PanOk.thn (PanOk.inb (PanOk.thn (PanOk.thn (PanOk.inb (PanOk.thn (PanOk.thn (PanOk.inb PanOk.body))))))))))))) rfl ?_
                  refine DH_skip 24 (by kernel_rfl) rfl rfl (.no rfl rfl rfl rfl (dec_t h1764)) (PanOk.thn (PanOk.thn (PanOk.thn (PanOk.inb (PanOk.thn (PanOk.thn (PanOk.inb (PanOk.thn (PanOk.thn (PanOk.inb (PanOk.thn (PanOk.thn (PanOk.inb PanOk.body))))))))))))) rfl ?_
                  refine DH_skip 25 (by kernel_rfl) rfl rfl (.no rfl rfl rfl rfl (dec_t h1764)) (PanOk.thn (PanOk.thn (PanOk.thn (PanOk.inb (PanOk.thn (PanOk.thn (PanOk.inb (PanOk.thn (PanOk.thn (PanOk.inb (PanOk.thn (PanOk.thn (PanOk.inb PanOk.body))))))))))))) rfl ?_
                  refine DH_skip 26 (by kernel_rfl) rfl rfl (.no rfl rfl rfl rfl (dec_t h1764)) (PanOk.thn (PanOk.thn (PanOk.thn (PanOk.inb (PanOk.thn (PanOk.thn (PanOk.inb (PanOk.thn (PanOk.thn (PanOk.inb (PanOk.thn (PanOk.thn (PanOk.inb PanOk.body))))))))))))) rfl ?_
                  refine DH_skip 27 (by kernel_rfl) rfl rfl (.no rfl rfl rfl rfl (dec_t h1764)) (PanOk.thn (PanOk.thn (PanOk.thn (PanOk.inb (PanOk.thn (PanOk.thn (PanOk.inb (PanOk.thn (PanOk.thn (PanOk.inb (PanOk.thn (PanOk.thn (PanOk.inb PanOk.body))))))))))))) rfl ?_
                  refine DH_take 28 (by kernel_rfl) rfl rfl (.no rfl) (PanOk.thn (PanOk.thn (PanOk.thn (PanOk.inb (PanOk.thn (PanOk.thn (PanOk.inb (PanOk.thn (PanOk.thn (PanOk.inb (PanOk.thn (PanOk.thn (PanOk.inb PanOk.body))))))))))))) sH rfl (VR.ofV (V_pickT rfl (dec_t h1764) rfl)) ?_
                  refine DH_open dd sH ?_
                  refine DN_done (by kernel_rfl) ?_
                  have hr_ := Option.some.inj H
                  subst hr_
                  exact at_normal (St.mk1 (aeq rfl (aeq rfl (aeq rfl (aeq rfl (aeq rfl (aeq rfl (aeq rfl (aeq rfl (aeq rfl aeq0))))))))) (Gh.sel [0, 1, 2] rfl rfl))
                · replace H := g_iff h1764 H
                  refine DH_take (v := .slice A10 r9.length c11) 14 (by kernel_rfl) rfl rfl (.yes rfl rfl rfl rfl (dec_f h1764)) (PanOk.thn (PanOk.thn (PanOk.thn (PanOk.inb (PanOk.thn (PanOk.thn (PanOk.inb (PanOk.thn (PanOk.thn (PanOk.inb (PanOk.thn (PanOk.thn (PanOk.inb PanOk.body))))))))))))) sH rfl (VR.ofV (V_move rfl)) ?_
                  refine DH_take (v := .int .i64 x14_16) 15 (by kernel_rfl) rfl rfl (.yes rfl rfl rfl rfl (dec_f h1764)) (PanOk.thn (PanOk.thn (PanOk.thn (PanOk.inb (PanOk.thn (PanOk.thn (PanOk.inb (PanOk.thn (PanOk.thn (PanOk.inb (PanOk.thn (PanOk.thn (PanOk.inb PanOk.body))))))))))))) sH rfl (VR.ofV (V_move rfl)) ?_
                  obtain ⟨⟨g981, g982⟩, H⟩ := g_pos H
                  refine DH_take 16 (by kernel_rfl) rfl rfl (.yes rfl rfl rfl rfl (dec_f h1764)) (PanOk.thn (PanOk.thn (PanOk.thn (PanOk.inb (PanOk.thn (PanOk.thn (PanOk.inb (PanOk.thn (PanOk.thn (PanOk.inb (PanOk.thn (PanOk.thn (PanOk.inb PanOk.body))))))))))))) sH rfl (VR_index (i := x14_16) Try.underlying34 sz3 rfl rfl (Src.buf (k := 2) rfl) g981 g982) ?_
                  refine DH_take 17 (by kernel_rfl) rfl rfl (.yes rfl rfl rfl rfl (dec_f h1764)) (PanOk.thn (PanOk.thn (PanOk.thn (PanOk.inb (PanOk.thn (PanOk.thn (PanOk.inb (PanOk.thn (PanOk.thn (PanOk.inb (PanOk.thn (PanOk.thn (PanOk.inb PanOk.body))))))))))))) sH rfl (VR_load_el (enc := (fun x_ : Int => [Value.int .i64 x_])) (i := x14_16) (j := x14_16.toNat * 1) (m := 0) (sz := 1) Try.underlying3 rfl rfl rfl rfl (Src.buf (k := 2) rfl) g981 g982 (fun _ _ h => h) rfl) ?_
                  refine DH_take (v := .slice A0 l0.length c0) 18 (by kernel_rfl) rfl rfl (.yes rfl rfl rfl rfl (dec_f h1764)) (PanOk.thn (PanOk.thn (PanOk.thn (PanOk.inb (PanOk.thn (PanOk.thn (PanOk.inb (PanOk.thn (PanOk.thn (PanOk.inb (PanOk.thn (PanOk.thn (PanOk.inb PanOk.body))))))))))))) sH rfl (VR.ofV (V_move rfl)) ?_
                  refine DH_take (v := .int .i64 x14_16) 19 (by kernel_rfl) rfl rfl (.yes rfl rfl rfl rfl (dec_f h1764)) (PanOk.thn (PanOk.thn (PanOk.thn (PanOk.inb (PanOk.thn (PanOk.thn (PanOk.inb (PanOk.thn (PanOk.thn (PanOk.inb (PanOk.thn (PanOk.thn (PanOk.inb PanOk.body))))))))))))) sH rfl (VR.ofV (V_move rfl)) ?_
                  obtain ⟨⟨g1221, g1222⟩, H⟩ := g_pos H
                  refine DH_take 20 (by kernel_rfl) rfl rfl (.yes rfl rfl rfl rfl (dec_f h1764)) (PanOk.thn (PanOk.thn (PanOk.thn (PanOk.inb (PanOk.thn (PanOk.thn (PanOk.inb (PanOk.thn (PanOk.thn (PanOk.inb (PanOk.thn (PanOk.thn (PanOk.inb PanOk.body))))))))))))) sH rfl (VR_index (i := x14_16) Try.underlying34 sz3 rfl rfl (Src.ro (k := 0) rfl) g1221 g1222) ?_
                  refine DH_take 21 (by kernel_rfl) rfl rfl (.yes rfl rfl rfl rfl (dec_f h1764)) (PanOk.thn (PanOk.thn (PanOk.thn (PanOk.inb (PanOk.thn (PanOk.thn (PanOk.inb (PanOk.thn (PanOk.thn (PanOk.inb (PanOk.thn (PanOk.thn (PanOk.inb PanOk.body))))))))))))) sH rfl (VR_load_el (enc := (fun x_ : Int => [Value.int .i64 x_])) (i := x14_16) (j := x14_16.toNat * 1) (m := 0) (sz := 1) Try.underlying3 rfl rfl rfl rfl (Src.ro (k := 0) rfl) g1221 g1222 (fun _ _ h => h) rfl) ?_
                  refine DH_take (v := .int .i64 x12_12) 22 (by kernel_rfl) rfl rfl (.yes rfl rfl rfl rfl (dec_f h1764)) (PanOk.thn (PanOk.thn (PanOk.thn (PanOk.inb (PanOk.thn (PanOk.thn (PanOk.inb (PanOk.thn (PanOk.thn (PanOk.inb (PanOk.thn (PanOk.thn (PanOk.inb PanOk.body))))))))))))) sH rfl (VR.ofV (V_move rfl)) ?_
                  refine DH_take (v := .int .i64 (IntKind.i64.wrap ((rd l0 x14_16) - x12_12))) 23 (by kernel_rfl) rfl rfl (.yes rfl rfl rfl rfl (dec_f h1764)) (PanOk.thn (PanOk.thn (PanOk.thn (PanOk.inb (PanOk.thn (PanOk.thn (PanOk.inb (PanOk.thn (PanOk.thn (PanOk.inb (PanOk.thn (PanOk.thn (PanOk.inb PanOk.body))))))))))))) sH rfl (VR.ofV (V_sub rfl rfl)) ?_
                  refine DH_take (v := .int .u64 (IntKind.u64.wrap (IntKind.i64.wrap ((rd l0 x14_16) - x12_12)))) 24 (by kernel_rfl) rfl rfl (.yes rfl rfl rfl rfl (dec_f h1764)) (PanOk.thn (PanOk.thn (PanOk.thn (PanOk.inb (PanOk.thn (PanOk.thn (PanOk.inb (PanOk.thn (PanOk.thn (PanOk.inb (PanOk.thn (PanOk.thn (PanOk.inb PanOk.body))))))))))))) sH rfl (VR.ofV (V_conv (T := 3) (by kernel_rfl) Try.underlying53 rfl)) ?_
                  obtain ⟨g1521, H⟩ := g_pos H
                  refine DH_take (v := .int .i64 (shrI .i64 (rd r9 x14_16) (IntKind.u64.wrap (IntKind.i64.wrap ((rd l0 x14_16) - x12_12))))) 25 (by kernel_rfl) rfl rfl (.yes rfl rfl rfl rfl (dec_f h1764)) (PanOk.thn (PanOk.thn (PanOk.thn (PanOk.inb (PanOk.thn (PanOk.thn (PanOk.inb (PanOk.thn (PanOk.thn (PanOk.inb (PanOk.thn (PanOk.thn (PanOk.inb PanOk.body))))))))))))) sH rfl (VR.ofV (V_shr rfl rfl g1521)) ?_
                  refine DH_take (v := .int .i64 x11_12) 26 (by kernel_rfl) rfl rfl (.yes rfl rfl rfl rfl (dec_f h1764)) (PanOk.thn (PanOk.thn (PanOk.thn (PanOk.inb (PanOk.thn (PanOk.thn (PanOk.inb (PanOk.thn (PanOk.thn (PanOk.inb (PanOk.thn (PanOk.thn (PanOk.inb PanOk.body))))))))))))) sH rfl (VR.ofV (V_move rfl)) ?_
                  refine DH_take (v := .bool (decide ((shrI .i64 (rd r9 x14_16) (IntKind.u64.wrap (IntKind.i64.wrap ((rd l0 x14_16) - x12_12)))) ≠ x11_12))) 27 (by kernel_rfl) rfl rfl (.yes rfl rfl rfl rfl (dec_f h1764)) (PanOk.thn (PanOk.thn (PanOk.thn (PanOk.inb (PanOk.thn (PanOk.thn (PanOk.inb (PanOk.thn (PanOk.thn (PanOk.inb (PanOk.thn (PanOk.thn (PanOk.inb PanOk.body))))))))))))) sH rfl (VR.ofV (V_neq rfl rfl)) ?_
                  refine DH_take 28 (by kernel_rfl) rfl rfl (.no rfl) (PanOk.thn (PanOk.thn (PanOk.thn (PanOk.inb (PanOk.thn (PanOk.thn (PanOk.inb (PanOk.thn (PanOk.thn (PanOk.inb (PanOk.thn (PanOk.thn (PanOk.inb PanOk.body))))))))))))) sH rfl (VR.ofV (V_pickF rfl (dec_f h1764) rfl)) ?_
                  refine DH_open dd sH ?_
                  refine DN_done (by kernel_rfl) ?_
                  have hr_ := Option.some.inj H
                  subst hr_
                  exact at_normal (St.mk1 (aeq rfl (aeq rfl (aeq rfl (aeq rfl (aeq rfl (aeq rfl (aeq rfl (aeq rfl (aeq rfl aeq0))))))))) (Gh.sel [0, 1, 2] rfl rfl))
            · rintro e ds As hst1765
              clear H
              have H := Bt20
              clear Bt20
              refine at_normal ?_
              refine SA.of_St hst1765 fun junk => ?_
              by_cases h1766 : t20 = true
              · replace H := g_ift h1766 H
                refine SA_condTb rfl h1766 ?_
                refine SA_exit ?_
                refine thn_exit ?_
                refine inb_hit ?_
                refine at_normal ?_
                refine SA_region ?_
                refine RA_step rfl (OA_v (v := .int .i64 x14_16) rfl (V_move rfl) ?_)
                refine RA_step rfl (OA_v (v := .int .i64 (IntKind.i64.wrap (x14_16 + 1))) rfl (V_add rfl rfl) ?_)
                obtain ⟨n1767, hn1767, H⟩ := g_lt H
                refine RA_step rfl (OA_v (v := .int .i64 n1767) rfl (V_assign (v := .int .i64 n1767) (congrArg (Value.int .i64) hn1767.symm)) ?_)
                refine RA_nil ?_
                exact at_normal ⟨k17, Nat.lt_succ_self _, _, _, H, St.mk1 (aeq rfl (aeq rfl (aeq rfl (aeq rfl (aeq rfl (aeq rfl (aeq rfl (aeq rfl aeq0)))))))) (Gh.sel [0, 1, 2] rfl rfl)⟩
              · replace H := g_iff h1766 H
                refine SA_condFb rfl h1766 ?_
                refine SA_skip ?_
                refine at_normal ?_
                refine SA_seq ?_
                refine SA_seq ?_
                refine SA_region ?_
                refine RA_step rfl (OA_v (v := .slice A0 l0.length c0) rfl (V_move rfl) ?_)
                refine RA_step rfl (OA_v (v := .int .i64 x14_16) rfl (V_move rfl) ?_)
                obtain ⟨⟨g1768, g1769⟩, H⟩ := g_pos H
                refine RA_step rfl (OA_r rfl (VR_index (i := x14_16) Try.underlying34 sz3 rfl rfl (Src.ro (k := 0) rfl) g1768 g1769) ?_)
                refine RA_step rfl (OA_r rfl (VR_load_el (enc := (fun x_ : Int => [Value.int .i64 x_])) (i := x14_16) (j := x14_16.toNat * 1) (m := 0) (sz := 1) Try.underlying3 rfl rfl rfl rfl (Src.ro (k := 0) rfl) g1768 g1769 (fun _ _ h => h) rfl) ?_)
                refine RA_step rfl (OA_v (v := .int .i64 x12_12) rfl (V_move rfl) ?_)
                refine RA_step rfl (OA_v (v := .bool (decide ((rd l0 x14_16) = x12_12))) rfl (V_eql rfl rfl) ?_)
                refine RA_nil ?_
                refine at_normal ?_
                by_cases h1770 : (rd l0 x14_16) = x12_12
                · replace H := g_ift h1770 H
                  refine SA_condT rfl h1770 ?_
                  refine SA_seq ?_
                  refine SA_region ?_
                  refine RA_step rfl (OA_v (v := .int .i64 x14_16) rfl (V_move rfl) ?_)
                  refine RA_step rfl (OA_v (v := .int .i64 x12_12) rfl (V_move rfl) ?_)
                  refine RA_step rfl (OA_v (v := .int .i64 x14_16) rfl (V_assign rfl) ?_)
                  refine RA_step rfl (OA_v (v := .int .i64 x12_12) rfl (V_assign rfl) ?_)
                  refine RA_step rfl (OA_v (v := .int .i64 0) rfl (V_assign rfl) ?_)
                  refine RA_nil ?_
                  refine at_normal ?_
                  refine SA_ret ?_
                  refine thn_ret ?_
                  refine inb_ret ?_
                  refine thn_ret ?_
                  refine thn_ret ?_
                  refine inb_ret ?_
                  refine thn_ret ?_
                  refine thn_ret ?_
                  refine inb_ret ?_
                  refine thn_ret ?_
                  refine thn_ret ?_
                  refine inb_ret ?_
                  have hr_ := Option.some.inj H
                  subst hr_
                  have hb_ := el_ret Bt15
                  have hr_ := Option.some.inj hb_
                  clear hb_
                  subst hr_
                  exact BQ_R3 [] rfl rfl rfl rfl (Gh.sel [] rfl rfl) ⟨rfl, rfl⟩
                · replace H := g_iff h1770 H
                  refine SA_condF rfl h1770 ?_
                  refine SA_skip ?_
                  refine at_normal ?_
                  refine SA_region ?_
                  refine RA_step rfl (OA_v (v := .bool true) rfl (V_assign rfl) ?_)
                  refine RA_nil ?_
                  refine inb_normal ?_
                  refine at_normal ?_
                  refine SA_region ?_
                  refine RA_step rfl (OA_v (v := .int .i64 x14_16) rfl (V_move rfl) ?_)
                  refine RA_step rfl (OA_v (v := .int .i64 (IntKind.i64.wrap (x14_16 + 1))) rfl (V_add rfl rfl) ?_)
                  obtain ⟨n1771, hn1771, H⟩ := g_lt H
                  refine RA_step rfl (OA_v (v := .int .i64 n1771) rfl (V_assign (v := .int .i64 n1771) (congrArg (Value.int .i64) hn1771.symm)) ?_)
                  refine RA_nil ?_
                  exact at_normal ⟨k17, Nat.lt_succ_self _, _, _, H, St.mk1 (aeq rfl (aeq rfl (aeq rfl (aeq rfl (aeq rfl (aeq rfl (aeq rfl (aeq rfl aeq0)))))))) (Gh.sel [0, 1, 2] rfl rfl)⟩
          · replace H := g_iff h19 H
            refine SA_condF rfl h19 ?_
            refine SA_exit ?_
            refine thn_exit ?_
            refine thn_exit ?_
            refine inb_hit ?_
            have hr_ := Option.some.inj H
            subst hr_
            exact at_normal ⟨x13_16, rfl, St.mk1 (aeq rfl (aeq rfl (aeq rfl (aeq rfl (aeq rfl (aeq rfl (aeq rfl aeq0))))))) (Gh.sel [0, 1, 2] rfl rfl)⟩
        · rintro e ds As ⟨s16, ht, hst1772⟩
          clear H
          subst ht
          replace Bt15 := el_go Bt15
          have H := Bt15
          clear Bt15
          refine at_normal ?_
          refine SA.of_St hst1772 fun junk => ?_
          refine SA_seq ?_
          refine SA_seq ?_
          refine SA_region ?_
          refine RA_step rfl (OA_v (v := .bool s16) rfl (V_move rfl) ?_)
          refine RA_step rfl (OA_v (v := .bool (!s16)) rfl (V_not rfl) ?_)
          refine RA_nil ?_
          refine at_normal ?_
          by_cases h1773 : (!s16) = true
          · replace H := g_ift h1773 H
            refine SA_condTb rfl h1773 ?_
            refine SA_seq ?_
            refine SA_region ?_
            refine RA_step rfl (OA_v (v := .int .i64 0) rfl (V_assign rfl) ?_)
            refine RA_step rfl (OA_v (v := .int .i64 0) rfl (V_assign rfl) ?_)
            refine RA_step rfl (OA_v (v := .int .i64 8) rfl (V_assign rfl) ?_)
            refine RA_nil ?_
            refine at_normal ?_
            refine SA_ret ?_
            refine thn_ret ?_
            refine inb_ret ?_
            refine thn_ret ?_
            refine thn_ret ?_
            refine inb_ret ?_
            have hr_ := Option.some.inj H
            subst hr_
            exact BQ_R3 [] rfl rfl rfl rfl (Gh.sel [] rfl rfl) ⟨rfl, rfl⟩
          · replace H := g_iff h1773 H
            refine SA_condFb rfl h1773 ?_
            refine SA_skip ?_
            refine at_normal ?_
            refine SA_seq ?_
            refine SA_region ?_
            refine RA_step rfl (OA_v (v := .slice A1 l1.length c1) rfl (V_move rfl) ?_)
            refine RA_step rfl (OA_v (v := .int .i64 a2) rfl (V_move rfl) ?_)
            refine RA_step rfl (OA_v (v := .int .i64 x12_12) rfl (V_move rfl) ?_)
            refine RA_step rfl (OA_v (v := .int .i64 (IntKind.i64.wrap (a2 + x12_12))) rfl (V_add rfl rfl) ?_)
            obtain ⟨r1774, C1781, H⟩ := g_bind H
            refine RA_step rfl (OA_callA [1] [0, 1, 2] rfl (X_fn (vs := [.slice A1 l1.length c1, .int .i64 (IntKind.i64.wrap (a2 + x12_12)), .int .i64 1]) Try.func56 nm56 rfl rfl) rfl (F56.ok (l0 := l1) (A0 := A1) (c0 := c1) (a1 := IntKind.i64.wrap (a2 + x12_12)) (a2 := 1) C1781) rfl ?_)
            rintro _ _ ⟨rfl, rfl⟩
            refine RA_step rfl (OA_v (v := .tuple #[.int .u64 r1774.1, .int .i64 r1774.2]) rfl (V_move rfl) ?_)
            refine RA_step rfl (OA_v (v := .int .u64 r1774.1) rfl (V_extract rfl rfl) ?_)
            refine RA_step rfl (OA_v (v := .int .i64 r1774.2) rfl (V_extract rfl rfl) ?_)
            refine RA_step rfl (OA_v (v := .int .u64 r1774.1) rfl (V_assign rfl) ?_)
            refine RA_step rfl (OA_v (v := .int .i64 r1774.2) rfl (V_assign rfl) ?_)
            refine RA_nil ?_
            refine at_normal ?_
            refine SA_seq ?_
            refine SA_seq ?_
            refine SA_region ?_
            refine RA_step rfl (OA_v (v := .int .i64 a2) rfl (V_move rfl) ?_)
            refine RA_step rfl (OA_v (v := .int .i64 x12_12) rfl (V_move rfl) ?_)
            refine RA_step rfl (OA_v (v := .int .i64 (IntKind.i64.wrap (a2 + x12_12))) rfl (V_add rfl rfl) ?_)
            refine RA_step rfl (OA_v (v := .bool (decide ((IntKind.i64.wrap (a2 + x12_12)) < 0))) rfl (V_lss rfl rfl) ?_)
            refine RA_step rfl (OA_v (v := .bool (decide ((IntKind.i64.wrap (a2 + x12_12)) < 0))) rfl (V_move rfl) ?_)
            obtain ⟨q1775, hq1775, H⟩ := g_lt H
            refine RA_cut 3 (fun e ds As => St [(0, .slice A0 l0.length c0), (1, .slice A1 l1.length c1), (2, .int .i64 a2), (10, .slice A10 r9.length c11), (11, .int .i64 x11_12), (12, .int .i64 x12_12), (15, .int .u64 r1774.1), (92, .bool q1775)] [Ro (Kd.int .i64) A0 c0 l0, Ro (Kd.int .u8) A1 c1 l1, Buf (Kd.int .i64) 3 A10 c11 r9] e ds As) ?_ ?_
            · by_cases h1776 : (IntKind.i64.wrap (a2 + x12_12)) < 0
              · refine RA_noB rfl rfl rfl rfl (dec_t h1776) rfl ?_
                refine RA_noB rfl rfl rfl rfl (dec_t h1776) rfl ?_
                refine RA_step rfl (OA_v rfl (V_pickT rfl (dec_t h1776) rfl) ?_)
                refine RA_nil ?_
                exact at_normal (St.mk1 (aeq rfl (aeq rfl (aeq rfl (aeq rfl (aeq rfl (aeq rfl (aeq rfl (aeq (congrArg Value.bool (or_t hq1775 (dec_t h1776))) aeq0)))))))) (Gh.sel [0, 1, 2] rfl rfl))
              · refine RA_yesB rfl rfl rfl rfl (dec_f h1776) (OA_v (v := .int .i64 r1774.2) rfl (V_move rfl) ?_)
                refine RA_yesB rfl rfl rfl rfl (dec_f h1776) (OA_v (v := .bool (decide (r1774.2 ≠ 0))) rfl (V_neq rfl rfl) ?_)
                refine RA_step rfl (OA_v rfl (V_pickF rfl (dec_f h1776) rfl) ?_)
                refine RA_nil ?_
                exact at_normal (St.mk1 (aeq rfl (aeq rfl (aeq rfl (aeq rfl (aeq rfl (aeq rfl (aeq rfl (aeq (congrArg Value.bool (or_f hq1775 (dec_f h1776))) aeq0)))))))) (Gh.sel [0, 1, 2] rfl rfl))
            · rintro e ds As hst1777
              refine RA_nil ?_
              refine at_normal ?_
              refine SA.of_St hst1777 fun junk => ?_
              by_cases h1778 : q1775 = true
              · replace H := g_ift h1778 H
                refine SA_condTb rfl h1778 ?_
                refine SA_seq ?_
                refine SA_region ?_
                refine RA_step rfl (OA_v (v := .int .i64 0) rfl (V_assign rfl) ?_)
                refine RA_step rfl (OA_v (v := .int .i64 0) rfl (V_assign rfl) ?_)
                refine RA_step rfl (OA_v (v := .int .i64 7) rfl (V_assign rfl) ?_)
                refine RA_nil ?_
                refine at_normal ?_
                refine SA_ret ?_
                refine thn_ret ?_
                refine inb_ret ?_
                refine thn_ret ?_
                refine thn_ret ?_
                refine inb_ret ?_
                have hr_ := Option.some.inj H
                subst hr_
                exact BQ_R3 [] rfl rfl rfl rfl (Gh.sel [] rfl rfl) ⟨rfl, rfl⟩
              · replace H := g_iff h1778 H
                refine SA_condFb rfl h1778 ?_
                refine SA_skip ?_
                refine at_normal ?_
                refine SA_region ?_
                refine RA_step rfl (OA_v (v := .int .i64 x11_12) rfl (V_move rfl) ?_)
                refine RA_step rfl (OA_v (v := .int .i64 (IntKind.i64.wrap (2 * x11_12))) rfl (V_mul rfl rfl) ?_)
                refine RA_step rfl (OA_v (v := .int .u64 r1774.1) rfl (V_move rfl) ?_)
                refine RA_step rfl (OA_v (v := .int .i64 (IntKind.i64.wrap (r1774.1))) rfl (V_conv (T := 50) (by kernel_rfl) Try.underlying3 rfl) ?_)
                refine RA_step rfl (OA_v (v := .int .i64 (IntKind.i64.wrap ((IntKind.i64.wrap (2 * x11_12)) + (IntKind.i64.wrap (r1774.1))))) rfl (V_add rfl rfl) ?_)
                obtain ⟨n1779, hn1779, H⟩ := g_lt H
                refine RA_step rfl (OA_v (v := .int .i64 n1779) rfl (V_assign (v := .int .i64 n1779) (congrArg (Value.int .i64) hn1779.symm)) ?_)
                refine RA_nil ?_
                refine inb_normal ?_
                refine at_normal ?_
                refine SA_region ?_
                refine RA_step rfl (OA_v (v := .int .i64 x12_12) rfl (V_move rfl) ?_)
                refine RA_step rfl (OA_v (v := .int .i64 (IntKind.i64.wrap (x12_12 + 1))) rfl (V_add rfl rfl) ?_)
                obtain ⟨n1780, hn1780, H⟩ := g_lt H
                refine RA_step rfl (OA_v (v := .int .i64 n1780) rfl (V_assign (v := .int .i64 n1780) (congrArg (Value.int .i64) hn1780.symm)) ?_)
                refine RA_nil ?_
                exact at_normal ⟨k13, Nat.lt_succ_self _, _, _, H, St.mk1 (aeq rfl (aeq rfl (aeq rfl (aeq rfl (aeq rfl (aeq rfl aeq0)))))) (Gh.sel [0, 1, 2] rfl rfl)⟩

/-! ### function 26: wayfarer/wayfarerlaw04.same -/
def F26.l0 (l0 : (List S52)) (l1 : (List S52)) : Nat → Int → Option (Out (Bool) (Unit))
  | 0, _ => none
  | k + 1, x5_5 => if x5_5 < (l0.length : Int) then (if 0 ≤ x5_5 ∧ x5_5 < (l0.length : Int) then (if 0 ≤ x5_5 ∧ x5_5 < (l1.length : Int) then (if (rd l0 x5_5) ≠ (rd l1 x5_5) then (some (Out.ret (false))) else (lt (IntKind.i64.wrap (x5_5 + 1)) fun n551 => F26.l0 l0 l1 k n551)) else none) else none) else (some (Out.go ()))
def F26.f (k : Nat) (l0 : (List S52)) (l1 : (List S52)) : Option (Bool) := if (l0.length : Int) ≠ (l1.length : Int) then (some (false)) else ((F26.l0 l0 l1 k 0 : Option (Out (Bool) (Unit))).bind (fun t4 => Out.el t4 (fun r_ => some r_) (fun s5 => some (true))))
set_option maxHeartbeats 2000000 in
set_option maxRecDepth 100000 in
theorem F26.ok {k : Nat} {l0 : (List S52)} {l1 : (List S52)} {A0 : Option Addr} {c0 : Nat} {A1 : Option Addr} {c1 : Nat} {r : Bool} (H : F26.f k l0 l1 = some r) : SCA Try.prog 26 #[.slice A0 l0.length c0, .slice A1 l1.length c1] [Ro k52 A0 c0 l0, Ro k52 A1 c1 l1] (fun v B => v = .bool r ∧ B = []) := by
  refine SCA_of_body Try.func26 rfl rfl ?_
  unfold F26.f at H
  refine SA_seq ?_
  refine SA_region ?_
  refine RA_step rfl (OA_v (v := .bool false) rfl (V_assign rfl) ?_)
  refine RA_nil ?_
  refine at_normal ?_
  refine SA_seq ?_
  refine SA_seq ?_
  refine SA_region ?_
  refine RA_step rfl (OA_v (v := .slice A0 l0.length c0) rfl (V_move rfl) ?_)
  refine RA_step rfl (OA_v (v := .int .i64 (l0.length : Int)) rfl (V_len Try.underlying35 rfl) ?_)
  refine RA_step rfl (OA_v (v := .slice A1 l1.length c1) rfl (V_move rfl) ?_)
  refine RA_step rfl (OA_v (v := .int .i64 (l1.length : Int)) rfl (V_len Try.underlying35 rfl) ?_)
  refine RA_step rfl (OA_v (v := .bool (decide ((l0.length : Int) ≠ (l1.length : Int)))) rfl (V_neq rfl rfl) ?_)
  refine RA_nil ?_
  refine at_normal ?_
  by_cases h3 : (l0.length : Int) ≠ (l1.length : Int)
  · replace H := g_ift h3 H
    refine SA_condT rfl h3 ?_
    refine SA_seq ?_
    refine SA_region ?_
    refine RA_step rfl (OA_v (v := .bool false) rfl (V_assign rfl) ?_)
    refine RA_nil ?_
    refine at_normal ?_
    refine SA_ret ?_
    refine thn_ret ?_
    have hr_ := Option.some.inj H
    subst hr_
    exact BQ_R1 [] rfl rfl (Gh.sel [] rfl rfl) ⟨rfl, rfl⟩
  · replace H := g_iff h3 H
    refine SA_condF rfl h3 ?_
    refine SA_skip ?_
    refine at_normal ?_
    refine SA_seq ?_
    refine SA_seq ?_
    refine SA_region ?_
    refine RA_step rfl (OA_v (v := .int .i64 0) rfl (V_assign rfl) ?_)
    refine RA_nil ?_
    refine at_normal ?_
    obtain ⟨t4, H, Bt4⟩ := g_bind H
    refine SA_mid (fun e ds As => ∃ (s5 : Unit), t4 = Out.go s5 ∧ St [] [] e ds As) ?_ ?_
    · refine SA_block ?_
      refine SA_loop (fun k_ e ds As => ∃ (x5_5 : Int), F26.l0 l0 l1 k_ x5_5 = some t4 ∧ St [(0, .slice A0 l0.length c0), (1, .slice A1 l1.length c1), (5, .int .i64 x5_5)] [Ro k52 A0 c0 l0, Ro k52 A1 c1 l1] e ds As) (k := k) ⟨_, H, St.mk1 (aeq rfl (aeq rfl (aeq rfl aeq0))) (Gh.sel [0, 1] rfl rfl)⟩ ?_
      clear H
      rintro k6 e ds As ⟨x5_5, H, hst7⟩
      obtain _ | k6 := k6
      · cases H
      rw [F26.l0] at H
      refine SA.of_St hst7 fun junk => ?_
      refine SA_seq ?_
      refine SA_seq ?_
      refine SA_region ?_
      refine RA_step rfl (OA_v (v := .int .i64 x5_5) rfl (V_move rfl) ?_)
      refine RA_step rfl (OA_v (v := .slice A0 l0.length c0) rfl (V_move rfl) ?_)
      refine RA_step rfl (OA_v (v := .int .i64 (l0.length : Int)) rfl (V_len Try.underlying35 rfl) ?_)
      refine RA_step rfl (OA_v (v := .bool (decide (x5_5 < (l0.length : Int)))) rfl (V_lss rfl rfl) ?_)
      refine RA_nil ?_
      refine at_normal ?_
      by_cases h8 : x5_5 < (l0.length : Int)
      · replace H := g_ift h8 H
        refine SA_condT rfl h8 ?_
        refine SA_skip ?_
        refine at_normal ?_
        refine SA_seq ?_
        refine SA_block ?_
        refine SA_seq ?_
        refine SA_drawH [0, 1, 2, 3, 4, 5, 6, 7, 8] #[[], [], [0, 1], [0, 1, 2], [], [], [4, 5], [4, 5, 6], [0, 1, 2, 3, 4, 5, 6, 7]] [0, 1] [0, 1] mixed rfl rfl rfl fun I0 hS h0 hh0 w0 sH dd => ?_
        refine DH_take (v := .slice A0 l0.length c0) 0 (by kernel_rfl) rfl rfl (.no rfl) (PanOk.thn (PanOk.inb (PanOk.thn (PanOk.thn (PanOk.inb (PanOk.thn (PanOk.thn PanOk.body))))))) sH rfl (VR.ofV (V_move rfl)) ?_
        refine DH_take (v := .int .i64 x5_5) 1 (by kernel_rfl) rfl rfl (.no rfl) (PanOk.thn (PanOk.inb (PanOk.thn (PanOk.thn (PanOk.inb (PanOk.thn (PanOk.thn PanOk.body))))))) sH rfl (VR.ofV (V_move rfl)) ?_
        obtain ⟨⟨g129, g130⟩, H⟩ := g_pos H
        refine DH_take 2 (by kernel_rfl) rfl rfl (.no rfl) (PanOk.thn (PanOk.inb (PanOk.thn (PanOk.thn (PanOk.inb (PanOk.thn (PanOk.thn PanOk.body))))))) sH rfl (VR_index (i := x5_5) Try.underlying35 sz52 rfl rfl (Src.ro (k := 0) rfl) g129 g130) ?_
        refine DH_take 3 (by kernel_rfl) rfl rfl (.no rfl) (PanOk.thn (PanOk.inb (PanOk.thn (PanOk.thn (PanOk.inb (PanOk.thn (PanOk.thn PanOk.body))))))) sH rfl (VR_loadA_el (enc := enc52) (i := x5_5) (j := x5_5.toNat * 2) (m := 0) (sz := 2) (vs := [.int .u64 ((rd l0 x5_5).f0), .int .i64 ((rd l0 x5_5).f1)]) Try.underlying52 rfl sz52 rfl rfl rfl (Src.ro (k := 0) rfl) g129 g130 (fun _ _ h => h) rfl) ?_
        refine DH_take (v := .slice A1 l1.length c1) 4 (by kernel_rfl) rfl rfl (.no rfl) (PanOk.thn (PanOk.inb (PanOk.thn (PanOk.thn (PanOk.inb (PanOk.thn (PanOk.thn PanOk.body))))))) sH rfl (VR.ofV (V_move rfl)) ?_
        refine DH_take (v := .int .i64 x5_5) 5 (by kernel_rfl) rfl rfl (.no rfl) (PanOk.thn (PanOk.inb (PanOk.thn (PanOk.thn (PanOk.inb (PanOk.thn (PanOk.thn PanOk.body))))))) sH rfl (VR.ofV (V_move rfl)) ?_
        obtain ⟨⟨g369, g370⟩, H⟩ := g_pos H
        refine DH_take 6 (by kernel_rfl) rfl rfl (.no rfl) (PanOk.thn (PanOk.inb (PanOk.thn (PanOk.thn (PanOk.inb (PanOk.thn (PanOk.thn PanOk.body))))))) sH rfl (VR_index (i := x5_5) Try.underlying35 sz52 rfl rfl (Src.ro (k := 1) rfl) g369 g370) ?_
        refine DH_take 7 (by kernel_rfl) rfl rfl (.no rfl) (PanOk.thn (PanOk.inb (PanOk.thn (PanOk.thn (PanOk.inb (PanOk.thn (PanOk.thn PanOk.body))))))) sH rfl (VR_loadA_el (enc := enc52) (i := x5_5) (j := x5_5.toNat * 2) (m := 0) (sz := 2) (vs := [.int .u64 ((rd l1 x5_5).f0), .int .i64 ((rd l1 x5_5).f1)]) Try.underlying52 rfl sz52 rfl rfl rfl (Src.ro (k := 1) rfl) g369 g370 (fun _ _ h => h) rfl) ?_
        refine DH_take (v := .bool (decide ((rd l0 x5_5) ≠ (rd l1 x5_5)))) 8 (by kernel_rfl) rfl rfl (.no rfl) (PanOk.thn (PanOk.inb (PanOk.thn (PanOk.thn (PanOk.inb (PanOk.thn (PanOk.thn PanOk.body))))))) sH rfl (VR.ofV (V_neqD (xs := [.int .u64 ((rd l0 x5_5).f0), .int .i64 ((rd l0 x5_5).f1)]) (ys := [.int .u64 ((rd l1 x5_5).f0), .int .i64 ((rd l1 x5_5).f1)]) (r := ((((rd l0 x5_5).f0) == ((rd l1 x5_5).f0)) && ((((rd l0 x5_5).f1) == ((rd l1 x5_5).f1)) && true))) (p := (rd l0 x5_5) = (rd l1 x5_5)) eqg52 rfl rfl (by kernel_rfl) (eqv52 (x := rd l0 x5_5) (y := rd l1 x5_5)))) ?_
        refine DH_open dd sH ?_
        refine DN_done (by kernel_rfl) ?_
        refine at_normal ?_
        by_cases h550 : (rd l0 x5_5) ≠ (rd l1 x5_5)
        · replace H := g_ift h550 H
          refine SA_condT rfl h550 ?_
          refine SA_seq ?_
          refine SA_region ?_
          refine RA_step rfl (OA_v (v := .bool false) rfl (V_assign rfl) ?_)
          refine RA_nil ?_
          refine at_normal ?_
          refine SA_ret ?_
          refine inb_ret ?_
          refine thn_ret ?_
          refine thn_ret ?_
          refine inb_ret ?_
          refine thn_ret ?_
          refine thn_ret ?_
          have hr_ := Option.some.inj H
          subst hr_
          have hb_ := el_ret Bt4
          have hr_ := Option.some.inj hb_
          clear hb_
          subst hr_
          exact BQ_R1 [] rfl rfl (Gh.sel [] rfl rfl) ⟨rfl, rfl⟩
        · replace H := g_iff h550 H
          refine SA_condF rfl h550 ?_
          refine SA_skip ?_
          refine inb_normal ?_
          refine at_normal ?_
          refine SA_region ?_
          refine RA_step rfl (OA_v (v := .int .i64 x5_5) rfl (V_move rfl) ?_)
          refine RA_step rfl (OA_v (v := .int .i64 (IntKind.i64.wrap (x5_5 + 1))) rfl (V_add rfl rfl) ?_)
          obtain ⟨n551, hn551, H⟩ := g_lt H
          refine RA_step rfl (OA_v (v := .int .i64 n551) rfl (V_assign (v := .int .i64 n551) (congrArg (Value.int .i64) hn551.symm)) ?_)
          refine RA_nil ?_
          exact at_normal ⟨k6, Nat.lt_succ_self _, _, H, St.mk1 (aeq rfl (aeq rfl (aeq rfl aeq0))) (Gh.sel [0, 1] rfl rfl)⟩
      · replace H := g_iff h8 H
        refine SA_condF rfl h8 ?_
        refine SA_exit ?_
        refine thn_exit ?_
        refine thn_exit ?_
        refine inb_hit ?_
        have hr_ := Option.some.inj H
        subst hr_
        exact at_normal ⟨(), rfl, St.mk1 aeq0 (Gh.sel [] rfl rfl)⟩
    · rintro e ds As ⟨s5, ht, hst552⟩
      clear H
      subst ht
      replace Bt4 := el_go Bt4
      have H := Bt4
      clear Bt4
      refine at_normal ?_
      refine SA.of_St hst552 fun junk => ?_
      refine SA_seq ?_
      refine SA_region ?_
      refine RA_step rfl (OA_v (v := .bool true) rfl (V_assign rfl) ?_)
      refine RA_nil ?_
      refine at_normal ?_
      refine SA_ret ?_
      have hr_ := Option.some.inj H
      subst hr_
      exact BQ_R1 [] rfl rfl (Gh.sel [] rfl rfl) ⟨rfl, rfl⟩

/-! ### function 27: wayfarer/wayfarerlaw04.anchored -/
def F27.f (k : Nat)  : Option (Bool) := (F20.f k ([1, 2, 2] : (List Int))).bind (fun r3 => (F24.f k ([1, 2, 2] : (List Int)) ([1] : (List Int)) 0).bind (fun r11 => lt ((decide (r3.2 = 0)) && (decide (r11.2.2 = 0))) fun q12 => lt (q12 && (decide (r11.1 = 1))) fun q15 => lt (q15 && (decide (r11.2.1 = 2))) fun q18 => lt (q18 && (decide ((r3.1.length : Int) = 3))) fun q21 => (if q21 = true then (if 0 ≤ (1 : Int) ∧ (1 : Int) < (r3.1.length : Int) then (some (decide ((rd r3.1 (1 : Int)) = (S52.mk 1 2)))) else none) else (some false) : Option Bool).bind (fun q24 => (if q24 = true then (if 0 ≤ (2 : Int) ∧ (2 : Int) < (r3.1.length : Int) then (some (decide ((rd r3.1 (2 : Int)) = (S52.mk 3 2)))) else none) else (some false) : Option Bool).bind (fun q29 => some (q29)))))
set_option maxHeartbeats 2000000 in
set_option maxRecDepth 100000 in
theorem F27.ok {k : Nat}  {r : Bool} (H : F27.f k  = some r) : SCA Try.prog 27 #[] [] (fun v B => v = .bool r ∧ B = []) := by
  refine SCA_of_body Try.func27 rfl rfl ?_
  unfold F27.f at H
  refine SA_seq ?_
  refine SA_region ?_
  refine RA_step rfl (OA_v (v := .bool false) rfl (V_assign rfl) ?_)
  refine RA_nil ?_
  refine at_normal ?_
  refine SA_seq ?_
  refine SA_region ?_
  refine RA_step rfl (OA_bs (kd := (Kd.int .i64)) (zv := (.int .i64 0)) (sz := 1) (cells := [.int .i64 1, .int .i64 2, .int .i64 2]) (xs := ([1, 2, 2] : (List Int))) rfl Try.underlying34 zero3 sz3 rfl rfl rfl (by kernel_rfl) rfl rfl (RL_enc (fun x_ : Int => [Value.int .i64 x_]) (fun _ _ => rfl) (by kernel_rfl)) fun b1 => ?_)
  obtain ⟨r3, C35, H⟩ := g_bind H
  refine RA_step rfl (OA.ghost (Gh.freeze (k := 0) rfl) (OA_callA [0] [0] rfl (X_fn (vs := [.slice (some ⟨b1, 0, none⟩) ([1, 2, 2] : (List Int)).length 3]) Try.func20 nm20 rfl rfl) rfl (F20.ok (l0 := ([1, 2, 2] : (List Int))) (A0 := some ⟨b1, 0, none⟩) (c0 := 3) C35) rfl ?_))
  rintro _ _ ⟨A4, c5, rfl, rfl⟩
  refine RA_step rfl (OA_v (v := .tuple #[.slice A4 r3.1.length c5, .int .i64 r3.2]) rfl (V_move rfl) ?_)
  refine RA_step rfl (OA_v (v := .slice A4 r3.1.length c5) rfl (V_extract rfl rfl) ?_)
  refine RA_step rfl (OA_v (v := .int .i64 r3.2) rfl (V_extract rfl rfl) ?_)
  refine RA_step rfl (OA_v (v := .slice A4 r3.1.length c5) rfl (V_assign rfl) ?_)
  refine RA_step rfl (OA_v (v := .int .i64 r3.2) rfl (V_assign rfl) ?_)
  refine RA_nil ?_
  refine at_normal ?_
  refine SA_seq ?_
  refine SA_region ?_
  refine RA_step rfl (OA_bs (kd := (Kd.int .i64)) (zv := (.int .i64 0)) (sz := 1) (cells := [.int .i64 1, .int .i64 2, .int .i64 2]) (xs := ([1, 2, 2] : (List Int))) rfl Try.underlying34 zero3 sz3 rfl rfl rfl (by kernel_rfl) rfl rfl (RL_enc (fun x_ : Int => [Value.int .i64 x_]) (fun _ _ => rfl) (by kernel_rfl)) fun b7 => ?_)
  refine RA_step rfl (OA_bs (kd := (Kd.int .u8)) (zv := (.int .u8 0)) (sz := 1) (cells := [.int .u8 1]) (xs := ([1] : (List Int))) rfl Try.underlying23 zero5 sz5 rfl rfl rfl (by kernel_rfl) rfl rfl (RL_enc (fun x_ : Int => [Value.int .u8 x_]) (fun _ _ => rfl) (by kernel_rfl)) fun b9 => ?_)
  obtain ⟨r11, C34, H⟩ := g_bind H
  refine RA_step rfl (OA.ghost (Gh.freeze (k := 2) rfl) (OA.ghost (Gh.freeze (k := 3) rfl) (OA_callA [2, 3] [0, 1, 2, 3] rfl (X_fn (vs := [.slice (some ⟨b7, 0, none⟩) ([1, 2, 2] : (List Int)).length 3, .slice (some ⟨b9, 0, none⟩) ([1] : (List Int)).length 1, .int .i64 0]) Try.func24 nm24 rfl rfl) rfl (F24.ok (l0 := ([1, 2, 2] : (List Int))) (A0 := some ⟨b7, 0, none⟩) (c0 := 3) (l1 := ([1] : (List Int))) (A1 := some ⟨b9, 0, none⟩) (c1 := 1) (a2 := 0) C34) rfl ?_)))
  rintro _ _ ⟨rfl, rfl⟩
  refine RA_step rfl (OA_v (v := .tuple #[.int .i64 r11.1, .int .i64 r11.2.1, .int .i64 r11.2.2]) rfl (V_move rfl) ?_)
  refine RA_step rfl (OA_v (v := .int .i64 r11.1) rfl (V_extract rfl rfl) ?_)
  refine RA_step rfl (OA_v (v := .int .i64 r11.2.1) rfl (V_extract rfl rfl) ?_)
  refine RA_step rfl (OA_v (v := .int .i64 r11.2.2) rfl (V_extract rfl rfl) ?_)
  refine RA_step rfl (OA_v (v := .int .i64 r11.1) rfl (V_assign rfl) ?_)
  refine RA_step rfl (OA_v (v := .int .i64 r11.2.1) rfl (V_assign rfl) ?_)
  refine RA_step rfl (OA_v (v := .int .i64 r11.2.2) rfl (V_assign rfl) ?_)
  refine RA_nil ?_
  refine at_normal ?_
  refine SA_seq ?_
  refine SA_region ?_
  refine RA_step rfl (OA_v (v := .int .i64 r3.2) rfl (V_move rfl) ?_)
  refine RA_step rfl (OA_v (v := .bool (decide (r3.2 = 0))) rfl (V_eql rfl rfl) ?_)
  refine RA_step rfl (OA_v (v := .bool (decide (r3.2 = 0))) rfl (V_move rfl) ?_)
  obtain ⟨q12, hq12, H⟩ := g_lt H
  refine RA_cut 3 (fun e ds As => St [(1, .slice A4 r3.1.length c5), (3, .int .i64 r11.1), (4, .int .i64 r11.2.1), (23, .bool q12)] [Buf k52 52 A4 c5 r3.1] e ds As) ?_ ?_
  · by_cases h13 : r3.2 = 0
    · refine RA_yesB rfl rfl rfl rfl (dec_t h13) (OA_v (v := .int .i64 r11.2.2) rfl (V_move rfl) ?_)
      refine RA_yesB rfl rfl rfl rfl (dec_t h13) (OA_v (v := .bool (decide (r11.2.2 = 0))) rfl (V_eql rfl rfl) ?_)
      refine RA_step rfl (OA_v rfl (V_pickT rfl (dec_t h13) rfl) ?_)
      refine RA_nil ?_
      exact at_normal (St.mk1 (aeq rfl (aeq rfl (aeq rfl (aeq (congrArg Value.bool (and_t hq12 (dec_t h13))) aeq0)))) (Gh.sel [0] rfl rfl))
    · refine RA_noB rfl rfl rfl rfl (dec_f h13) rfl ?_
      refine RA_noB rfl rfl rfl rfl (dec_f h13) rfl ?_
      refine RA_step rfl (OA_v rfl (V_pickF rfl (dec_f h13) rfl) ?_)
      refine RA_nil ?_
      exact at_normal (St.mk1 (aeq rfl (aeq rfl (aeq rfl (aeq (congrArg Value.bool (and_f hq12 (dec_f h13))) aeq0)))) (Gh.sel [0] rfl rfl))
  · rintro e ds As hst14
    refine RA.of_St rfl hst14 fun junk => ?_
    refine RA_step rfl (OA_v (v := .bool q12) rfl (V_move rfl) ?_)
    obtain ⟨q15, hq15, H⟩ := g_lt H
    refine RA_cut 3 (fun e ds As => St [(1, .slice A4 r3.1.length c5), (4, .int .i64 r11.2.1), (27, .bool q15)] [Buf k52 52 A4 c5 r3.1] e ds As) ?_ ?_
    · by_cases h16 : q12 = true
      · refine RA_yesB rfl rfl rfl rfl (h16) (OA_v (v := .int .i64 r11.1) rfl (V_move rfl) ?_)
        refine RA_yesB rfl rfl rfl rfl (h16) (OA_v (v := .bool (decide (r11.1 = 1))) rfl (V_eql rfl rfl) ?_)
        refine RA_step rfl (OA_v rfl (V_pickT rfl (h16) rfl) ?_)
        refine RA_nil ?_
        exact at_normal (St.mk1 (aeq rfl (aeq rfl (aeq (congrArg Value.bool (and_t hq15 (h16))) aeq0))) (Gh.sel [0] rfl rfl))
      · refine RA_noB rfl rfl rfl rfl (bno h16) rfl ?_
        refine RA_noB rfl rfl rfl rfl (bno h16) rfl ?_
        refine RA_step rfl (OA_v rfl (V_pickF rfl (bno h16) rfl) ?_)
        refine RA_nil ?_
        exact at_normal (St.mk1 (aeq rfl (aeq rfl (aeq (congrArg Value.bool (and_f hq15 (bno h16))) aeq0))) (Gh.sel [0] rfl rfl))
    · rintro e ds As hst17
      refine RA.of_St rfl hst17 fun junk => ?_
      refine RA_step rfl (OA_v (v := .bool q15) rfl (V_move rfl) ?_)
      obtain ⟨q18, hq18, H⟩ := g_lt H
      refine RA_cut 3 (fun e ds As => St [(1, .slice A4 r3.1.length c5), (31, .bool q18)] [Buf k52 52 A4 c5 r3.1] e ds As) ?_ ?_
      · by_cases h19 : q15 = true
        · refine RA_yesB rfl rfl rfl rfl (h19) (OA_v (v := .int .i64 r11.2.1) rfl (V_move rfl) ?_)
          refine RA_yesB rfl rfl rfl rfl (h19) (OA_v (v := .bool (decide (r11.2.1 = 2))) rfl (V_eql rfl rfl) ?_)
          refine RA_step rfl (OA_v rfl (V_pickT rfl (h19) rfl) ?_)
          refine RA_nil ?_
          exact at_normal (St.mk1 (aeq rfl (aeq (congrArg Value.bool (and_t hq18 (h19))) aeq0)) (Gh.sel [0] rfl rfl))
        · refine RA_noB rfl rfl rfl rfl (bno h19) rfl ?_
          refine RA_noB rfl rfl rfl rfl (bno h19) rfl ?_
          refine RA_step rfl (OA_v rfl (V_pickF rfl (bno h19) rfl) ?_)
          refine RA_nil ?_
          exact at_normal (St.mk1 (aeq rfl (aeq (congrArg Value.bool (and_f hq18 (bno h19))) aeq0)) (Gh.sel [0] rfl rfl))
      · rintro e ds As hst20
        refine RA.of_St rfl hst20 fun junk => ?_
        refine RA_step rfl (OA_v (v := .bool q18) rfl (V_move rfl) ?_)
        obtain ⟨q21, hq21, H⟩ := g_lt H
        refine RA_cut 4 (fun e ds As => St [(1, .slice A4 r3.1.length c5), (36, .bool q21)] [Buf k52 52 A4 c5 r3.1] e ds As) ?_ ?_
        · by_cases h22 : q18 = true
          · refine RA_yesB rfl rfl rfl rfl (h22) (OA_v (v := .slice A4 r3.1.length c5) rfl (V_move rfl) ?_)
            refine RA_yesB rfl rfl rfl rfl (h22) (OA_v (v := .int .i64 (r3.1.length : Int)) rfl (V_len Try.underlying35 rfl) ?_)
            refine RA_yesB rfl rfl rfl rfl (h22) (OA_v (v := .bool (decide ((r3.1.length : Int) = 3))) rfl (V_eql rfl rfl) ?_)
            refine RA_step rfl (OA_v rfl (V_pickT rfl (h22) rfl) ?_)
            refine RA_nil ?_
            exact at_normal (St.mk1 (aeq rfl (aeq (congrArg Value.bool (and_t hq21 (h22))) aeq0)) (Gh.sel [0] rfl rfl))
          · refine RA_noB rfl rfl rfl rfl (bno h22) rfl ?_
            refine RA_noB rfl rfl rfl rfl (bno h22) rfl ?_
            refine RA_noB rfl rfl rfl rfl (bno h22) rfl ?_
            refine RA_step rfl (OA_v rfl (V_pickF rfl (bno h22) rfl) ?_)
            refine RA_nil ?_
            exact at_normal (St.mk1 (aeq rfl (aeq (congrArg Value.bool (and_f hq21 (bno h22))) aeq0)) (Gh.sel [0] rfl rfl))
        · rintro e ds As hst23
          refine RA.of_St rfl hst23 fun junk => ?_
          refine RA_step rfl (OA_v (v := .bool q21) rfl (V_move rfl) ?_)
          obtain ⟨q24, H, Bq24⟩ := g_bind H
          refine RA_cut 6 (fun e ds As => St [(1, .slice A4 r3.1.length c5), (43, .bool q24)] [Buf k52 52 A4 c5 r3.1] e ds As) ?_ ?_
          · by_cases h25 : q21 = true
            · replace H := g_ift h25 H
              refine RA_yesB rfl rfl rfl rfl (h25) (OA_v (v := .slice A4 r3.1.length c5) rfl (V_move rfl) ?_)
              obtain ⟨⟨g26, g27⟩, H⟩ := g_pos H
              refine RA_yesB rfl rfl rfl rfl (h25) (OA_r rfl (VR_index (i := (1 : Int)) Try.underlying35 sz52 rfl rfl (Src.buf (k := 0) rfl) g26 g27) ?_)
              refine RA_yesB rfl rfl rfl rfl (h25) (OA_r rfl (VR_loadA_el (enc := enc52) (i := (1 : Int)) (j := (1 : Int).toNat * 2) (m := 0) (sz := 2) (vs := [.int .u64 ((rd r3.1 (1 : Int)).f0), .int .i64 ((rd r3.1 (1 : Int)).f1)]) Try.underlying52 rfl sz52 rfl rfl rfl (Src.buf (k := 0) rfl) g26 g27 (fun _ _ h => h) rfl) ?_)
              refine RA_yesB rfl rfl rfl rfl (h25) (OA_v (v := .agg #[.int .u64 1, .int .i64 2]) rfl (V_build (cells := [.int .u64 1, .int .i64 2]) zero52 Try.underlying52 plc52 (by kernel_rfl)) ?_)
              refine RA_yesB rfl rfl rfl rfl (h25) (OA_v (v := .bool (decide ((rd r3.1 (1 : Int)) = (S52.mk 1 2)))) rfl (V_eqlD (xs := [.int .u64 ((rd r3.1 (1 : Int)).f0), .int .i64 ((rd r3.1 (1 : Int)).f1)]) (ys := [.int .u64 1, .int .i64 2]) (r := ((((rd r3.1 (1 : Int)).f0) == 1) && ((((rd r3.1 (1 : Int)).f1) == 2) && true))) (p := (rd r3.1 (1 : Int)) = (S52.mk 1 2)) eqg52 rfl rfl (by kernel_rfl) (eqv52 (x := rd r3.1 (1 : Int)) (y := (S52.mk 1 2)))) ?_)
              refine RA_step rfl (OA_v rfl (V_pickT rfl (h25) rfl) ?_)
              have hr_ := Option.some.inj H
              subst hr_
              refine RA_nil ?_
              exact at_normal (St.mk1 (aeq rfl (aeq rfl aeq0)) (Gh.sel [0] rfl rfl))
            · replace H := g_iff h25 H
              refine RA_noB rfl rfl rfl rfl (bno h25) rfl ?_
              refine RA_noB rfl rfl rfl rfl (bno h25) rfl ?_
              refine RA_noB rfl rfl rfl rfl (bno h25) rfl ?_
              refine RA_noB rfl rfl rfl rfl (bno h25) rfl ?_
              refine RA_noB rfl rfl rfl rfl (bno h25) rfl ?_
              refine RA_step rfl (OA_v rfl (V_pickF rfl (bno h25) rfl) ?_)
              have hr_ := Option.some.inj H
              subst hr_
              refine RA_nil ?_
              exact at_normal (St.mk1 (aeq rfl (aeq rfl aeq0)) (Gh.sel [0] rfl rfl))
          · rintro e ds As hst28
            clear H
            have H := Bq24
            clear Bq24
            refine RA.of_St rfl hst28 fun junk => ?_
            refine RA_step rfl (OA_v (v := .bool q24) rfl (V_move rfl) ?_)
            obtain ⟨q29, H, Bq29⟩ := g_bind H
            refine RA_cut 6 (fun e ds As => St [(50, .bool q29)] [] e ds As) ?_ ?_
            · by_cases h30 : q24 = true
              · replace H := g_ift h30 H
                refine RA_yesB rfl rfl rfl rfl (h30) (OA_v (v := .slice A4 r3.1.length c5) rfl (V_move rfl) ?_)
                obtain ⟨⟨g31, g32⟩, H⟩ := g_pos H
                refine RA_yesB rfl rfl rfl rfl (h30) (OA_r rfl (VR_index (i := (2 : Int)) Try.underlying35 sz52 rfl rfl (Src.buf (k := 0) rfl) g31 g32) ?_)
                refine RA_yesB rfl rfl rfl rfl (h30) (OA_r rfl (VR_loadA_el (enc := enc52) (i := (2 : Int)) (j := (2 : Int).toNat * 2) (m := 0) (sz := 2) (vs := [.int .u64 ((rd r3.1 (2 : Int)).f0), .int .i64 ((rd r3.1 (2 : Int)).f1)]) Try.underlying52 rfl sz52 rfl rfl rfl (Src.buf (k := 0) rfl) g31 g32 (fun _ _ h => h) rfl) ?_)
                refine RA_yesB rfl rfl rfl rfl (h30) (OA_v (v := .agg #[.int .u64 3, .int .i64 2]) rfl (V_build (cells := [.int .u64 3, .int .i64 2]) zero52 Try.underlying52 plc52 (by kernel_rfl)) ?_)
                refine RA_yesB rfl rfl rfl rfl (h30) (OA_v (v := .bool (decide ((rd r3.1 (2 : Int)) = (S52.mk 3 2)))) rfl (V_eqlD (xs := [.int .u64 ((rd r3.1 (2 : Int)).f0), .int .i64 ((rd r3.1 (2 : Int)).f1)]) (ys := [.int .u64 3, .int .i64 2]) (r := ((((rd r3.1 (2 : Int)).f0) == 3) && ((((rd r3.1 (2 : Int)).f1) == 2) && true))) (p := (rd r3.1 (2 : Int)) = (S52.mk 3 2)) eqg52 rfl rfl (by kernel_rfl) (eqv52 (x := rd r3.1 (2 : Int)) (y := (S52.mk 3 2)))) ?_)
                refine RA_step rfl (OA_v rfl (V_pickT rfl (h30) rfl) ?_)
                have hr_ := Option.some.inj H
                subst hr_
                refine RA_nil ?_
                exact at_normal (St.mk1 (aeq rfl aeq0) (Gh.sel [] rfl rfl))
              · replace H := g_iff h30 H
                refine RA_noB rfl rfl rfl rfl (bno h30) rfl ?_
                refine RA_noB rfl rfl rfl rfl (bno h30) rfl ?_
                refine RA_noB rfl rfl rfl rfl (bno h30) rfl ?_
                refine RA_noB rfl rfl rfl rfl (bno h30) rfl ?_
                refine RA_noB rfl rfl rfl rfl (bno h30) rfl ?_
                refine RA_step rfl (OA_v rfl (V_pickF rfl (bno h30) rfl) ?_)
                have hr_ := Option.some.inj H
                subst hr_
                refine RA_nil ?_
                exact at_normal (St.mk1 (aeq rfl aeq0) (Gh.sel [] rfl rfl))
            · rintro e ds As hst33
              clear H
              have H := Bq29
              clear Bq29
              refine RA.of_St rfl hst33 fun junk => ?_
              refine RA_step rfl (OA_v (v := .bool q29) rfl (V_assign rfl) ?_)
              refine RA_nil ?_
              refine at_normal ?_
              refine SA_ret ?_
              have hr_ := Option.some.inj H
              subst hr_
              exact BQ_R1 [] rfl rfl (Gh.sel [] rfl rfl) ⟨rfl, rfl⟩
end Go.Proofs.Ytocjoegcfojjhaa.Hd

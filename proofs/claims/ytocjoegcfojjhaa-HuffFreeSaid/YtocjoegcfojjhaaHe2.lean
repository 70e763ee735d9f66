/- What functions compute, and that they do: 24, 27, 55. -/
import Derived.Test.YtocjoegcfojjhaaHe0
import Derived.Test.YtocjoegcfojjhaaHe1
namespace Go.Proofs.Ytocjoegcfojjhaa.He
open Go Go.RowKit Go.Proofs.Ytocjoegcfojjhaa.SL
set_option linter.unusedVariables false
set_option linter.unusedSimpArgs false
attribute [local irreducible] IntKind.wrap minI maxI shrI shlI andI orI xorI andNotI cplI rd sub bytesOf strOf slA
/-! ### function 55: (*wayfarer/huff.Table).Symbol -/
def F55.l0 (p0 : S136) (l1 : (List Int)) (a2 : Int) : Nat → S88 → Option (Int × Int × Int)
  | 0, _ => none
  | k + 1, x9_5 => if 0 ≤ (IntKind.u64.wrap (IntKind.i64.wrap (15 - x9_5.f0))) then (if (shlI .u64 x9_5.f1 (IntKind.u64.wrap (IntKind.i64.wrap (15 - x9_5.f0)))) ≥ p0.f1 then (some ((0, 0, 8))) else (lt (IntKind.i64.wrap (a2 + x9_5.f0)) fun n731 => lt ((decide (a2 > (IntKind.i64.wrap (8 * (l1.length : Int))))) || (decide (n731 ≥ (IntKind.i64.wrap (8 * (l1.length : Int)))))) fun q732 => if q732 = true then (some ((0, 0, 7))) else (if 0 ≤ (IntKind.i64.wrap (n731.tdiv 8)) ∧ (IntKind.i64.wrap (n731.tdiv 8)) < (l1.length : Int) then (if 0 ≤ (IntKind.u64.wrap (n731.tmod 8)) then (lt (mapGet p0.f0 (S88.mk (IntKind.i64.wrap (x9_5.f0 + 1)) (orI .u64 (shlI .u64 x9_5.f1 1) (IntKind.u64.wrap (andI .u8 (shrI .u8 (rd l1 (IntKind.i64.wrap (n731.tdiv 8))) (IntKind.u64.wrap (n731.tmod 8))) 1))))) fun n2237 => (lt ((Option.getD n2237 0)) fun n2477 => if n2237.isSome = true then (lt (IntKind.i64.wrap (x9_5.f0 + 1)) fun n2839 => some ((n2477, n2839, 0))) else (F55.l0 p0 l1 a2 k (S88.mk (IntKind.i64.wrap (x9_5.f0 + 1)) (orI .u64 (shlI .u64 x9_5.f1 1) (IntKind.u64.wrap (andI .u8 (shrI .u8 (rd l1 (IntKind.i64.wrap (n731.tdiv 8))) (IntKind.u64.wrap (n731.tmod 8))) 1))))))) else none) else none))) else none
def F55.f (k : Nat) (p0 : S136) (l1 : (List Int)) (a2 : Int) : Option (Int × Int × Int) := F55.l0 p0 l1 a2 k (S88.mk 0 0)
set_option maxHeartbeats 2000000 in
set_option maxRecDepth 100000 in
theorem F55.ok {k : Nat} {p0 : S136} {l1 : (List Int)} {a2 : Int} {b0_ : Nat} {A0_0 : Option Addr} {c0_0 : Nat} {A1 : Option Addr} {c1 : Nat} {r : Int × Int × Int} (H : F55.f k p0 l1 a2 = some r) : SCA Try.prog 55 #[.pointer (some ⟨b0_, 0, none⟩), .slice A1 l1.length c1, .int .i64 a2] [Blk b0_ 136 [.map (some c0_0), .int .u64 p0.f1], Mp ek88 (fun x_ : Int => Value.int .i64 x_) c0_0 p0.f0, Ro (Kd.int .u8) A1 c1 l1] (fun v B => v = .tuple #[.int .i64 r.1, .int .i64 r.2.1, .int .i64 r.2.2] ∧ B = [Blk b0_ 136 [.map (some c0_0), .int .u64 p0.f1]]) := by
  refine SCA_of_body Try.func55 rfl rfl ?_
  unfold F55.f at H
  refine SA_seq ?_
  refine SA_region ?_
  refine RA_step rfl (OA_v (v := .int .i64 0) rfl (V_assign rfl) ?_)
  refine RA_step rfl (OA_v (v := .int .i64 0) rfl (V_assign rfl) ?_)
  refine RA_step rfl (OA_v (v := .int .i64 0) rfl (V_assign rfl) ?_)
  refine RA_nil ?_
  refine at_normal ?_
  refine SA_seq ?_
  refine SA_region ?_
  refine RA_step rfl (OA_alloc rfl zero88 fun b4 => ?_)
  refine RA_nil ?_
  refine at_normal ?_
  refine SA_block ?_
  refine SA_loop (fun k_ e ds As => ∃ (x9_5 : S88), ∃ (b6 : Nat), F55.l0 p0 l1 a2 k_ x9_5 = some r ∧ St [(0, .pointer (some ⟨b0_, 0, none⟩)), (1, .slice A1 l1.length c1), (2, .int .i64 a2), (9, .pointer (some ⟨b6, 0, none⟩))] [Blk b0_ 136 [.map (some c0_0), .int .u64 p0.f1], Mp ek88 (fun x_ : Int => Value.int .i64 x_) c0_0 p0.f0, Ro (Kd.int .u8) A1 c1 l1, Blk b6 88 [.int .i64 x9_5.f0, .int .u64 x9_5.f1]] e ds As) (k := k) ⟨_, b4, H, St.mk1 (aeq rfl (aeq rfl (aeq rfl (aeq rfl aeq0)))) (Gh.sel [0, 1, 2, 3] rfl rfl)⟩ ?_
  clear H
  rintro k7 e ds As ⟨x9_5, b6, H, hst8⟩
  obtain _ | k7 := k7
  · cases H
  rw [F55.l0] at H
  refine SA.of_St hst8 fun junk => ?_
  refine SA_block ?_
  refine SA_seq ?_
  refine SA_seq ?_
  refine SA_drawH [0, 1, 2, 3, 4, 5, 6, 7, 8, 9, 10, 11] #[[], [0], [], [2], [2, 3], [2, 3, 4], [0, 1, 2, 3, 4, 5], [], [7], [7, 8], [7, 8, 9], [0, 1, 2, 3, 4, 5, 6, 7, 8, 9, 10]] [0, 2, 3] [1, 2] mixed rfl rfl rfl fun I0 hS h0 hh0 w0 sH dd => ?_
  refine DH_take (v := .pointer (some ((⟨b6, 0, none⟩ : Addr).add 1))) 0 (by kernel_rfl) rfl rfl (.no rfl) (PanOk.thn (PanOk.thn (PanOk.inb (PanOk.thn (PanOk.inb PanOk.body))))) sH rfl (VR.ofV (V_fieldAddrN (B := ⟨b6, 0, none⟩) (m := 0) (o := 1) Try.underlying88 rfl nz50 rfl rfl)) ?_
  refine DH_take 1 (by kernel_rfl) rfl rfl (.no rfl) (PanOk.thn (PanOk.thn (PanOk.inb (PanOk.thn (PanOk.inb PanOk.body))))) sH rfl (VR_load_blk (b := b6) (m := 1) (k := 2) Try.underlying50 rfl rfl rfl rfl) ?_
  refine DH_take (v := .pointer (some ⟨b6, 0, none⟩)) 2 (by kernel_rfl) rfl rfl (.no rfl) (PanOk.thn (PanOk.thn (PanOk.inb (PanOk.thn (PanOk.inb PanOk.body))))) sH rfl (VR.ofV (V_fieldAddrN (B := ⟨b6, 0, none⟩) (m := 0) (o := 0) Try.underlying88 rfl nz3 rfl rfl)) ?_
  refine DH_take 3 (by kernel_rfl) rfl rfl (.no rfl) (PanOk.thn (PanOk.thn (PanOk.inb (PanOk.thn (PanOk.inb PanOk.body))))) sH rfl (VR_load_blk (b := b6) (m := 0) (k := 2) Try.underlying3 rfl rfl rfl rfl) ?_
  refine DH_take (v := .int .i64 (IntKind.i64.wrap (15 - x9_5.f0))) 4 (by kernel_rfl) rfl rfl (.no rfl) (PanOk.thn (PanOk.thn (PanOk.inb (PanOk.thn (PanOk.inb PanOk.body))))) sH rfl (VR.ofV (V_sub rfl rfl)) ?_
  refine DH_take (v := .int .u64 (IntKind.u64.wrap (IntKind.i64.wrap (15 - x9_5.f0)))) 5 (by kernel_rfl) rfl rfl (.no rfl) (PanOk.thn (PanOk.thn (PanOk.inb (PanOk.thn (PanOk.inb PanOk.body))))) sH rfl (VR.ofV (V_conv (T := 3) (by kernel_rfl) Try.underlying53 rfl)) ?_
  obtain ⟨g369, H⟩ := g_pos H
  refine DH_take (v := .int .u64 (shlI .u64 x9_5.f1 (IntKind.u64.wrap (IntKind.i64.wrap (15 - x9_5.f0))))) 6 (by kernel_rfl) rfl rfl (.no rfl) (PanOk.thn (PanOk.thn (PanOk.inb (PanOk.thn (PanOk.inb PanOk.body))))) sH rfl (VR.ofV (V_shl rfl rfl g369)) ?_
  refine DH_take (v := .pointer (some ⟨b0_, 0, none⟩)) 7 (by kernel_rfl) rfl rfl (.no rfl) (PanOk.thn (PanOk.thn (PanOk.inb (PanOk.thn (PanOk.inb PanOk.body))))) sH rfl (VR.ofV (V_move rfl)) ?_
  refine DH_take (v := .pointer (some ⟨b0_, 0, none⟩)) 8 (by kernel_rfl) rfl rfl (.no rfl) (PanOk.thn (PanOk.thn (PanOk.inb (PanOk.thn (PanOk.inb PanOk.body))))) sH rfl (VR.ofV (V_nilCheck rfl)) ?_
  refine DH_take (v := .pointer (some ((⟨b0_, 0, none⟩ : Addr).add 1))) 9 (by kernel_rfl) rfl rfl (.no rfl) (PanOk.thn (PanOk.thn (PanOk.inb (PanOk.thn (PanOk.inb PanOk.body))))) sH rfl (VR.ofV (V_fieldAddrN (B := ⟨b0_, 0, none⟩) (m := 0) (o := 1) Try.underlying136 rfl nz50 rfl rfl)) ?_
  refine DH_take 10 (by kernel_rfl) rfl rfl (.no rfl) (PanOk.thn (PanOk.thn (PanOk.inb (PanOk.thn (PanOk.inb PanOk.body))))) sH rfl (VR_load_blk (b := b0_) (m := 1) (k := 0) Try.underlying50 rfl rfl rfl rfl) ?_
  refine DH_take (v := .bool (decide ((shlI .u64 x9_5.f1 (IntKind.u64.wrap (IntKind.i64.wrap (15 - x9_5.f0)))) ≥ p0.f1))) 11 (by kernel_rfl) rfl rfl (.no rfl) (PanOk.thn (PanOk.thn (PanOk.inb (PanOk.thn (PanOk.inb PanOk.body))))) sH rfl (VR.ofV (V_geq rfl rfl)) ?_
  refine DH_open dd sH ?_
  refine DN_done (by kernel_rfl) ?_
  refine at_normal ?_
  by_cases h730 : (shlI .u64 x9_5.f1 (IntKind.u64.wrap (IntKind.i64.wrap (15 - x9_5.f0)))) ≥ p0.f1
  · replace H := g_ift h730 H
    refine SA_condT rfl h730 ?_
    refine SA_seq ?_
    refine SA_region ?_
    refine RA_step rfl (OA_v (v := .int .i64 0) rfl (V_assign rfl) ?_)
    refine RA_step rfl (OA_v (v := .int .i64 0) rfl (V_assign rfl) ?_)
    refine RA_step rfl (OA_v (v := .int .i64 8) rfl (V_assign rfl) ?_)
    refine RA_nil ?_
    refine at_normal ?_
    refine SA_ret ?_
    refine thn_ret ?_
    refine inb_ret ?_
    refine thn_ret ?_
    refine inb_ret ?_
    have hr_ := Option.some.inj H
    subst hr_
    exact BQ_R3 [Blk b0_ 136 [.map (some c0_0), .int .u64 p0.f1]] rfl rfl rfl rfl (Gh.sel [0] rfl rfl) ⟨rfl, rfl⟩
  · replace H := g_iff h730 H
    refine SA_condF rfl h730 ?_
    refine SA_skip ?_
    refine at_normal ?_
    refine SA_seq ?_
    refine SA_region ?_
    refine RA_step rfl (OA_v (v := .int .i64 a2) rfl (V_move rfl) ?_)
    refine RA_step rfl (OA_v (v := .pointer (some ⟨b6, 0, none⟩)) rfl (V_fieldAddrN (B := ⟨b6, 0, none⟩) (m := 0) (o := 0) Try.underlying88 rfl nz3 rfl rfl) ?_)
    refine RA_step rfl (OA_r rfl (VR_load_blk (b := b6) (m := 0) (k := 2) Try.underlying3 rfl rfl rfl rfl) ?_)
    refine RA_step rfl (OA_v (v := .int .i64 (IntKind.i64.wrap (a2 + x9_5.f0))) rfl (V_add rfl rfl) ?_)
    obtain ⟨n731, hn731, H⟩ := g_lt H
    refine RA_step rfl (OA_v (v := .int .i64 n731) rfl (V_assign (v := .int .i64 n731) (congrArg (Value.int .i64) hn731.symm)) ?_)
    refine RA_nil ?_
    refine at_normal ?_
    refine SA_seq ?_
    refine SA_seq ?_
    refine SA_region ?_
    refine RA_step rfl (OA_v (v := .int .i64 a2) rfl (V_move rfl) ?_)
    refine RA_step rfl (OA_v (v := .slice A1 l1.length c1) rfl (V_move rfl) ?_)
    refine RA_step rfl (OA_v (v := .int .i64 (l1.length : Int)) rfl (V_len Try.underlying23 rfl) ?_)
    refine RA_step rfl (OA_v (v := .int .i64 (IntKind.i64.wrap (8 * (l1.length : Int)))) rfl (V_mul rfl rfl) ?_)
    refine RA_step rfl (OA_v (v := .bool (decide (a2 > (IntKind.i64.wrap (8 * (l1.length : Int)))))) rfl (V_gtr rfl rfl) ?_)
    refine RA_step rfl (OA_v (v := .bool (decide (a2 > (IntKind.i64.wrap (8 * (l1.length : Int)))))) rfl (V_move rfl) ?_)
    obtain ⟨q732, hq732, H⟩ := g_lt H
    refine RA_cut 6 (fun e ds As => St [(0, .pointer (some ⟨b0_, 0, none⟩)), (1, .slice A1 l1.length c1), (2, .int .i64 a2), (9, .pointer (some ⟨b6, 0, none⟩)), (10, .int .i64 n731), (40, .bool q732)] [Blk b0_ 136 [.map (some c0_0), .int .u64 p0.f1], Mp ek88 (fun x_ : Int => Value.int .i64 x_) c0_0 p0.f0, Ro (Kd.int .u8) A1 c1 l1, Blk b6 88 [.int .i64 x9_5.f0, .int .u64 x9_5.f1]] e ds As) ?_ ?_
    · by_cases h733 : a2 > (IntKind.i64.wrap (8 * (l1.length : Int)))
      · refine RA_noB rfl rfl rfl rfl (dec_t h733) rfl ?_
        refine RA_noB rfl rfl rfl rfl (dec_t h733) rfl ?_
        refine RA_noB rfl rfl rfl rfl (dec_t h733) rfl ?_
        refine RA_noB rfl rfl rfl rfl (dec_t h733) rfl ?_
        refine RA_noB rfl rfl rfl rfl (dec_t h733) rfl ?_
        refine RA_step rfl (OA_v rfl (V_pickT rfl (dec_t h733) rfl) ?_)
        refine RA_nil ?_
        exact at_normal (St.mk1 (aeq rfl (aeq rfl (aeq rfl (aeq rfl (aeq rfl (aeq (congrArg Value.bool (or_t hq732 (dec_t h733))) aeq0)))))) (Gh.sel [0, 3, 1, 2] rfl rfl))
      · refine RA_yesB rfl rfl rfl rfl (dec_f h733) (OA_v (v := .int .i64 n731) rfl (V_move rfl) ?_)
        refine RA_yesB rfl rfl rfl rfl (dec_f h733) (OA_v (v := .slice A1 l1.length c1) rfl (V_move rfl) ?_)
        refine RA_yesB rfl rfl rfl rfl (dec_f h733) (OA_v (v := .int .i64 (l1.length : Int)) rfl (V_len Try.underlying23 rfl) ?_)
        refine RA_yesB rfl rfl rfl rfl (dec_f h733) (OA_v (v := .int .i64 (IntKind.i64.wrap (8 * (l1.length : Int)))) rfl (V_mul rfl rfl) ?_)
        refine RA_yesB rfl rfl rfl rfl (dec_f h733) (OA_v (v := .bool (decide (n731 ≥ (IntKind.i64.wrap (8 * (l1.length : Int)))))) rfl (V_geq rfl rfl) ?_)
        refine RA_step rfl (OA_v rfl (V_pickF rfl (dec_f h733) rfl) ?_)
        refine RA_nil ?_
        exact at_normal (St.mk1 (aeq rfl (aeq rfl (aeq rfl (aeq rfl (aeq rfl (aeq (congrArg Value.bool (or_f hq732 (dec_f h733))) aeq0)))))) (Gh.sel [0, 3, 1, 2] rfl rfl))
    · rintro e ds As hst734
      refine RA_nil ?_
      refine at_normal ?_
      refine SA.of_St hst734 fun junk => ?_
      by_cases h735 : q732 = true
      · replace H := g_ift h735 H
        refine SA_condTb rfl h735 ?_
        refine SA_seq ?_
        refine SA_region ?_
        refine RA_step rfl (OA_v (v := .int .i64 0) rfl (V_assign rfl) ?_)
        refine RA_step rfl (OA_v (v := .int .i64 0) rfl (V_assign rfl) ?_)
        refine RA_step rfl (OA_v (v := .int .i64 7) rfl (V_assign rfl) ?_)
        refine RA_nil ?_
        refine at_normal ?_
        refine SA_ret ?_
        refine thn_ret ?_
        refine inb_ret ?_
        refine thn_ret ?_
        refine inb_ret ?_
        have hr_ := Option.some.inj H
        subst hr_
        exact BQ_R3 [Blk b0_ 136 [.map (some c0_0), .int .u64 p0.f1]] rfl rfl rfl rfl (Gh.sel [0] rfl rfl) ⟨rfl, rfl⟩
      · replace H := g_iff h735 H
        refine SA_condFb rfl h735 ?_
        refine SA_skip ?_
        refine at_normal ?_
        refine SA_seq ?_
        refine SA_drawH (0 :: 1 :: 2 :: 3 :: 4 :: 5 :: 6 :: 7 :: 8 :: 9 :: 10 :: 11 :: 12 :: 13 :: 14 :: 15 :: 16 :: 17 :: 18 :: []) (List.toArray ([] :: [0] :: [0, 1] :: [] :: [3] :: [3, 4] :: [] :: [] :: [7] :: [6, 7, 8] :: [6, 7, 8, 9] :: [] :: [11] :: [11, 12] :: [6, 7, 8, 9, 10, 11, 12, 13] :: [6, 7, 8, 9, 10, 11, 12, 13, 14] :: [6, 7, 8, 9, 10, 11, 12, 13, 14, 15] :: (3 :: 4 :: 5 :: 6 :: 7 :: 8 :: 9 :: 10 :: 11 :: 12 :: 13 :: 14 :: 15 :: 16 :: []) :: (0 :: 1 :: 2 :: 3 :: 4 :: 5 :: 6 :: 7 :: 8 :: 9 :: 10 :: 11 :: 12 :: 13 :: 14 :: 15 :: 16 :: 17 :: []) :: (0 :: 1 :: 2 :: 3 :: 4 :: 5 :: 6 :: 7 :: 8 :: 9 :: 10 :: 11 :: 12 :: 13 :: 14 :: 15 :: 16 :: 17 :: 18 :: []) :: [])) [2, 3] [0, 1, 2] mixed rfl rfl rfl fun I0 hS h0 hh0 w0 sH dd => ?_
        refine DH_take (v := .pointer (some ⟨b6, 0, none⟩)) 0 (by kernel_rfl) rfl rfl (.no rfl) (PanOk.thn (PanOk.inb (PanOk.thn (PanOk.inb PanOk.body)))) sH rfl (VR.ofV (V_fieldAddrN (B := ⟨b6, 0, none⟩) (m := 0) (o := 0) Try.underlying88 rfl nz3 rfl rfl)) ?_
        refine DH_take 1 (by kernel_rfl) rfl rfl (.no rfl) (PanOk.thn (PanOk.inb (PanOk.thn (PanOk.inb PanOk.body)))) sH rfl (VR_load_blk (b := b6) (m := 0) (k := 1) Try.underlying3 rfl rfl rfl rfl) ?_
        refine DH_take (v := .int .i64 (IntKind.i64.wrap (x9_5.f0 + 1))) 2 (by kernel_rfl) rfl rfl (.no rfl) (PanOk.thn (PanOk.inb (PanOk.thn (PanOk.inb PanOk.body)))) sH rfl (VR.ofV (V_add rfl rfl)) ?_
        refine DH_take (v := .pointer (some ((⟨b6, 0, none⟩ : Addr).add 1))) 3 (by kernel_rfl) rfl rfl (.no rfl) (PanOk.thn (PanOk.inb (PanOk.thn (PanOk.inb PanOk.body)))) sH rfl (VR.ofV (V_fieldAddrN (B := ⟨b6, 0, none⟩) (m := 0) (o := 1) Try.underlying88 rfl nz50 rfl rfl)) ?_
        refine DH_take 4 (by kernel_rfl) rfl rfl (.no rfl) (PanOk.thn (PanOk.inb (PanOk.thn (PanOk.inb PanOk.body)))) sH rfl (VR_load_blk (b := b6) (m := 1) (k := 1) Try.underlying50 rfl rfl rfl rfl) ?_
        refine DH_take (v := .int .u64 (shlI .u64 x9_5.f1 1)) 5 (by kernel_rfl) rfl rfl (.no rfl) (PanOk.thn (PanOk.inb (PanOk.thn (PanOk.inb PanOk.body)))) sH rfl (VR.ofV (V_shl rfl rfl (by decide))) ?_
        refine DH_take (v := .slice A1 l1.length c1) 6 (by kernel_rfl) rfl rfl (.no rfl) (PanOk.thn (PanOk.inb (PanOk.thn (PanOk.inb PanOk.body)))) sH rfl (VR.ofV (V_move rfl)) ?_
        refine DH_take (v := .int .i64 n731) 7 (by kernel_rfl) rfl rfl (.no rfl) (PanOk.thn (PanOk.inb (PanOk.thn (PanOk.inb PanOk.body)))) sH rfl (VR.ofV (V_move rfl)) ?_
        refine DH_take (v := .int .i64 (IntKind.i64.wrap (n731.tdiv 8))) 8 (by kernel_rfl) rfl rfl (.no rfl) (PanOk.thn (PanOk.inb (PanOk.thn (PanOk.inb PanOk.body)))) sH rfl (VR.ofV (V_quo rfl rfl (by decide))) ?_
        obtain ⟨⟨g1276, g1277⟩, H⟩ := g_pos H
        refine DH_take 9 (by kernel_rfl) rfl rfl (.no rfl) (PanOk.thn (PanOk.inb (PanOk.thn (PanOk.inb PanOk.body)))) sH rfl (VR_index (i := IntKind.i64.wrap (n731.tdiv 8)) Try.underlying23 sz5 rfl rfl (Src.ro (k := 0) rfl) g1276 g1277) ?_
        refine DH_take 10 (by kernel_rfl) rfl rfl (.no rfl) (PanOk.thn (PanOk.inb (PanOk.thn (PanOk.inb PanOk.body)))) sH rfl (VR_load_el (enc := (fun x_ : Int => [Value.int .u8 x_])) (i := IntKind.i64.wrap (n731.tdiv 8)) (j := (IntKind.i64.wrap (n731.tdiv 8)).toNat * 1) (m := 0) (sz := 1) Try.underlying5 rfl rfl rfl rfl (Src.ro (k := 0) rfl) g1276 g1277 (fun _ _ h => h) rfl) ?_
        refine DH_take (v := .int .i64 n731) 11 (by kernel_rfl) rfl rfl (.no rfl) (PanOk.thn (PanOk.inb (PanOk.thn (PanOk.inb PanOk.body)))) sH rfl (VR.ofV (V_move rfl)) ?_
        refine DH_take (v := .int .i64 (n731.tmod 8)) 12 (by kernel_rfl) rfl rfl (.no rfl) (PanOk.thn (PanOk.inb (PanOk.thn (PanOk.inb PanOk.body)))) sH rfl (VR.ofV (V_rem rfl rfl (by decide))) ?_
        refine DH_take (v := .int .u64 (IntKind.u64.wrap (n731.tmod 8))) 13 (by kernel_rfl) rfl rfl (.no rfl) (PanOk.thn (PanOk.inb (PanOk.thn (PanOk.inb PanOk.body)))) sH rfl (VR.ofV (V_conv (T := 3) (by kernel_rfl) Try.underlying53 rfl)) ?_
        obtain ⟨g1576, H⟩ := g_pos H
        refine DH_take (v := .int .u8 (shrI .u8 (rd l1 (IntKind.i64.wrap (n731.tdiv 8))) (IntKind.u64.wrap (n731.tmod 8)))) 14 (by kernel_rfl) rfl rfl (.no rfl) (PanOk.thn (PanOk.inb (PanOk.thn (PanOk.inb PanOk.body)))) sH rfl (VR.ofV (V_shr rfl rfl g1576)) ?_
        refine DH_take (v := .int .u8 (andI .u8 (shrI .u8 (rd l1 (IntKind.i64.wrap (n731.tdiv 8))) (IntKind.u64.wrap (n731.tmod 8))) 1)) 15 (by kernel_rfl) rfl rfl (.no rfl) (PanOk.thn (PanOk.inb (PanOk.thn (PanOk.inb PanOk.body)))) sH rfl (VR.ofV (V_and rfl rfl)) ?_
        refine DH_take (v := .int .u64 (IntKind.u64.wrap (andI .u8 (shrI .u8 (rd l1 (IntKind.i64.wrap (n731.tdiv 8))) (IntKind.u64.wrap (n731.tmod 8))) 1))) 16 (by kernel_rfl) rfl rfl (.no rfl) (PanOk.thn (PanOk.inb (PanOk.thn (PanOk.inb PanOk.body)))) sH rfl (VR.ofV (V_conv (T := 5) (by kernel_rfl) Try.underlying50 rfl)) ?_
        refine DH_take (v := .int .u64 (orI .u64 (shlI .u64 x9_5.f1 1) (IntKind.u64.wrap (andI .u8 (shrI .u8 (rd l1 (IntKind.i64.wrap (n731.tdiv 8))) (IntKind.u64.wrap (n731.tmod 8))) 1)))) 17 (by kernel_rfl) rfl rfl (.no rfl) (PanOk.thn (PanOk.inb (PanOk.thn (PanOk.inb PanOk.body)))) sH rfl (VR.ofV (V_or rfl rfl)) ?_
        refine DH_take (v := .agg #[.int .i64 (IntKind.i64.wrap (x9_5.f0 + 1)), .int .u64 (orI .u64 (shlI .u64 x9_5.f1 1) (IntKind.u64.wrap (andI .u8 (shrI .u8 (rd l1 (IntKind.i64.wrap (n731.tdiv 8))) (IntKind.u64.wrap (n731.tmod 8))) 1)))]) 18 (by kernel_rfl) rfl rfl (.no rfl) (PanOk.thn (PanOk.inb (PanOk.thn (PanOk.inb PanOk.body)))) sH rfl (VR.ofV (V_build (cells := [.int .i64 (IntKind.i64.wrap (x9_5.f0 + 1)), .int .u64 (orI .u64 (shlI .u64 x9_5.f1 1) (IntKind.u64.wrap (andI .u8 (shrI .u8 (rd l1 (IntKind.i64.wrap (n731.tdiv 8))) (IntKind.u64.wrap (n731.tmod 8))) 1)))]) zero88 Try.underlying88 plc88 (by kernel_rfl))) ?_
        refine DH_open dd sH ?_
        refine DN_one 19 (by kernel_rfl) rfl rfl (.no rfl) (OA_st (b := b6) (m := 0) (k := 1) (vs := [.int .i64 (IntKind.i64.wrap (x9_5.f0 + 1)), .int .u64 (orI .u64 (shlI .u64 x9_5.f1 1) (IntKind.u64.wrap (andI .u8 (shrI .u8 (rd l1 (IntKind.i64.wrap (n731.tdiv 8))) (IntKind.u64.wrap (n731.tmod 8))) 1)))]) (cs' := [.int .i64 (IntKind.i64.wrap (x9_5.f0 + 1)), .int .u64 (orI .u64 (shlI .u64 x9_5.f1 1) (IntKind.u64.wrap (andI .u8 (shrI .u8 (rd l1 (IntKind.i64.wrap (n731.tdiv 8))) (IntKind.u64.wrap (n731.tmod 8))) 1)))]) rfl rfl rfl rfl rfl rfl sz88 rfl rfl ?_)
        refine DN_done (by kernel_rfl) ?_
        refine at_normal ?_
        refine SA_seq ?_
        refine SA_drawH [0, 1, 2, 3, 4, 5, 6, 7, 8, 9, 10] #[[], [0], [0, 1], [0, 1, 2], [], [0, 1, 2, 3, 4], [0, 1, 2, 3, 4, 5], [0, 1, 2, 3, 4, 5, 6], [0, 1, 2, 3, 4, 5, 6], [0, 1, 2, 3, 4, 5, 6, 7], [0, 1, 2, 3, 4, 5, 6, 7, 8, 9]] [0, 1, 2, 3, 0] [0, 0] mixed rfl rfl rfl fun I0 hS h0 hh0 w0 sH dd => ?_
        refine DH_take (v := .pointer (some ⟨b0_, 0, none⟩)) 0 (by kernel_rfl) rfl rfl (.no rfl) (PanOk.thn (PanOk.inb (PanOk.thn (PanOk.inb PanOk.body)))) sH rfl (VR.ofV (V_move rfl)) ?_
        refine DH_take (v := .pointer (some ⟨b0_, 0, none⟩)) 1 (by kernel_rfl) rfl rfl (.no rfl) (PanOk.thn (PanOk.inb (PanOk.thn (PanOk.inb PanOk.body)))) sH rfl (VR.ofV (V_nilCheck rfl)) ?_
        refine DH_take (v := .pointer (some ⟨b0_, 0, none⟩)) 2 (by kernel_rfl) rfl rfl (.no rfl) (PanOk.thn (PanOk.inb (PanOk.thn (PanOk.inb PanOk.body)))) sH rfl (VR.ofV (V_fieldAddrN (B := ⟨b0_, 0, none⟩) (m := 0) (o := 0) Try.underlying136 rfl nz134 rfl rfl)) ?_
        refine DH_take 3 (by kernel_rfl) rfl rfl (.no rfl) (PanOk.thn (PanOk.inb (PanOk.thn (PanOk.inb PanOk.body)))) sH rfl (VR_load_blk (b := b0_) (m := 0) (k := 2) Try.underlying134 rfl rfl rfl rfl) ?_
        refine DH_take 4 (by kernel_rfl) rfl rfl (.no rfl) (PanOk.thn (PanOk.inb (PanOk.thn (PanOk.inb PanOk.body)))) sH rfl (VR_loadA_blk (b := b6) (m := 0) (k := 1) (vs := [.int .i64 (IntKind.i64.wrap (x9_5.f0 + 1)), .int .u64 (orI .u64 (shlI .u64 x9_5.f1 1) (IntKind.u64.wrap (andI .u8 (shrI .u8 (rd l1 (IntKind.i64.wrap (n731.tdiv 8))) (IntKind.u64.wrap (n731.tmod 8))) 1)))]) Try.underlying88 rfl sz88 rfl rfl rfl) ?_
        obtain ⟨n2237, hn2237, H⟩ := g_lt H
        refine DH_take 5 (by kernel_rfl) rfl rfl (.no rfl) (PanOk.thn (PanOk.inb (PanOk.thn (PanOk.inb PanOk.body)))) sH rfl (VR_lookup (k := 3) (key := (S88.mk (IntKind.i64.wrap (x9_5.f0 + 1)) (orI .u64 (shlI .u64 x9_5.f1 1) (IntKind.u64.wrap (andI .u8 (shrI .u8 (rd l1 (IntKind.i64.wrap (n731.tdiv 8))) (IntKind.u64.wrap (n731.tmod 8))) 1))))) (z0 := 0) Try.underlying134 zero3 ko88 rfl rfl rfl) ?_
        rewrite [← hn2237]
        refine DH_take (v := .tuple #[.int .i64 (Option.getD n2237 0), .bool n2237.isSome]) 6 (by kernel_rfl) rfl rfl (.no rfl) (PanOk.thn (PanOk.inb (PanOk.thn (PanOk.inb PanOk.body)))) sH rfl (VR.ofV (V_move rfl)) ?_
        refine DH_take (v := .int .i64 (Option.getD n2237 0)) 7 (by kernel_rfl) rfl rfl (.no rfl) (PanOk.thn (PanOk.inb (PanOk.thn (PanOk.inb PanOk.body)))) sH rfl (VR.ofV (V_extract rfl rfl)) ?_
        refine DH_take (v := .bool n2237.isSome) 8 (by kernel_rfl) rfl rfl (.no rfl) (PanOk.thn (PanOk.inb (PanOk.thn (PanOk.inb PanOk.body)))) sH rfl (VR.ofV (V_extract rfl rfl)) ?_
        obtain ⟨n2477, hn2477, H⟩ := g_lt H
        refine DH_take (v := .int .i64 n2477) 9 (by kernel_rfl) rfl rfl (.no rfl) (PanOk.thn (PanOk.inb (PanOk.thn (PanOk.inb PanOk.body)))) sH rfl (VR.ofV (V_assign (v := .int .i64 n2477) (congrArg (Value.int .i64) hn2477.symm))) ?_
        refine DH_take (v := .bool n2237.isSome) 10 (by kernel_rfl) rfl rfl (.no rfl) (PanOk.thn (PanOk.inb (PanOk.thn (PanOk.inb PanOk.body)))) sH rfl (VR.ofV (V_assign rfl)) ?_
        refine DH_open dd sH ?_
        refine DN_done (by kernel_rfl) ?_
        refine at_normal ?_
        refine SA.of_St (l := [(0, .pointer (some ⟨b0_, 0, none⟩)), (1, .slice A1 l1.length c1), (2, .int .i64 a2), (9, .pointer (some ⟨b6, 0, none⟩)), (11, .int .i64 n2477), (12, .bool n2237.isSome)]) (B := [Blk b0_ 136 [.map (some c0_0), .int .u64 p0.f1], Mp ek88 (fun x_ : Int => Value.int .i64 x_) c0_0 p0.f0, Ro (Kd.int .u8) A1 c1 l1, Blk b6 88 [.int .i64 (IntKind.i64.wrap (x9_5.f0 + 1)), .int .u64 (orI .u64 (shlI .u64 x9_5.f1 1) (IntKind.u64.wrap (andI .u8 (shrI .u8 (rd l1 (IntKind.i64.wrap (n731.tdiv 8))) (IntKind.u64.wrap (n731.tmod 8))) 1)))]]) (St.mk1 (aeq rfl (aeq rfl (aeq rfl (aeq rfl (aeq rfl (aeq rfl aeq0)))))) (Gh.sel [2, 3, 0, 1] rfl rfl)) fun junk => ?_
        refine SA_seq ?_
        refine SA_region ?_
        refine RA_step rfl (OA_v (v := .bool n2237.isSome) rfl (V_move rfl) ?_)
        refine RA_nil ?_
        refine at_normal ?_
        by_cases h2598 : n2237.isSome = true
        · replace H := g_ift h2598 H
          refine SA_condTb rfl h2598 ?_
          refine SA_seq ?_
          refine SA_drawH [0, 1, 2, 3, 4, 5] #[[], [], [1], [0], [0, 1, 2, 3], [0, 1, 2, 3, 4]] [2, 3] [0, 1, 2] mixed rfl rfl rfl fun I0 hS h0 hh0 w0 sH dd => ?_
          refine DH_take (v := .int .i64 n2477) 0 (by kernel_rfl) rfl rfl (.no rfl) (PanOk.thn (PanOk.inb (PanOk.thn (PanOk.inb PanOk.body)))) sH rfl (VR.ofV (V_move rfl)) ?_
          refine DH_take (v := .pointer (some ⟨b6, 0, none⟩)) 1 (by kernel_rfl) rfl rfl (.no rfl) (PanOk.thn (PanOk.inb (PanOk.thn (PanOk.inb PanOk.body)))) sH rfl (VR.ofV (V_fieldAddrN (B := ⟨b6, 0, none⟩) (m := 0) (o := 0) Try.underlying88 rfl nz3 rfl rfl)) ?_
          refine DH_take 2 (by kernel_rfl) rfl rfl (.no rfl) (PanOk.thn (PanOk.inb (PanOk.thn (PanOk.inb PanOk.body)))) sH rfl (VR_load_blk (b := b6) (m := 0) (k := 1) Try.underlying3 rfl rfl rfl rfl) ?_
          refine DH_take (v := .int .i64 n2477) 3 (by kernel_rfl) rfl rfl (.no rfl) (PanOk.thn (PanOk.inb (PanOk.thn (PanOk.inb PanOk.body)))) sH rfl (VR.ofV (V_assign rfl)) ?_
          obtain ⟨n2839, hn2839, H⟩ := g_lt H
          refine DH_take (v := .int .i64 n2839) 4 (by kernel_rfl) rfl rfl (.no rfl) (PanOk.thn (PanOk.inb (PanOk.thn (PanOk.inb PanOk.body)))) sH rfl (VR.ofV (V_assign (v := .int .i64 n2839) (congrArg (Value.int .i64) hn2839.symm))) ?_
          refine DH_take (v := .int .i64 0) 5 (by kernel_rfl) rfl rfl (.no rfl) (PanOk.thn (PanOk.inb (PanOk.thn (PanOk.inb PanOk.body)))) sH rfl (VR.ofV (V_assign rfl)) ?_
          refine DH_open dd sH ?_
          refine DN_done (by kernel_rfl) ?_
          refine at_normal ?_
          refine SA_ret ?_
          refine inb_ret ?_
          refine thn_ret ?_
          refine inb_ret ?_
          have hr_ := Option.some.inj H
          subst hr_
          exact BQ_R3 [Blk b0_ 136 [.map (some c0_0), .int .u64 p0.f1]] rfl rfl rfl rfl (Gh.sel [2] rfl rfl) ⟨rfl, rfl⟩
        · replace H := g_iff h2598 H
          refine SA_condFb rfl h2598 ?_
          refine SA_skip ?_
          refine inb_normal ?_
          exact at_normal ⟨k7, Nat.lt_succ_self _, _, b6, H, St.mk1 (aeq rfl (aeq rfl (aeq rfl (aeq rfl aeq0)))) (Gh.sel [0, 1, 2, 3] rfl rfl)⟩

/-! ### function 24: wayfarer/huff.Symbol -/
def F24.f (k : Nat) (l0 : (List Int)) (l1 : (List Int)) (a2 : Int) : Option (Int × Int × Int) := (F52.f k l0 15).bind (fun r3 => (if (!r3) = true then (some true) else ((F53.f k l0).bind (fun r6 => some (decide (r6 > 32768)))) : Option Bool).bind (fun q4 => lt (q4 || (decide (a2 < 0))) fun q9 => if q9 = true then (some ((0, 0, 2))) else ((F54.f k l0).bind (fun r13 => ptrC r13.1 (if r13.2 ≠ 0 then (some ((0, 0, r13.2))) else (none)) fun x14 => (if r13.2 ≠ 0 then (some ((0, 0, r13.2))) else ((F55.f k x14 l1 a2).bind (fun r31 => some ((r31.1, r31.2.1, r31.2.2)))))))))
set_option maxHeartbeats 2000000 in
set_option maxRecDepth 100000 in
theorem F24.ok {k : Nat} {l0 : (List Int)} {l1 : (List Int)} {a2 : Int} {A0 : Option Addr} {c0 : Nat} {A1 : Option Addr} {c1 : Nat} {r : Int × Int × Int} (H : F24.f k l0 l1 a2 = some r) : SCA Try.prog 24 #[.slice A0 l0.length c0, .slice A1 l1.length c1, .int .i64 a2] [Ro (Kd.int .i64) A0 c0 l0, Ro (Kd.int .u8) A1 c1 l1] (fun v B => v = .tuple #[.int .i64 r.1, .int .i64 r.2.1, .int .i64 r.2.2] ∧ B = []) := by
  refine SCA_of_body Try.func24 rfl rfl ?_
  unfold F24.f at H
  refine SA_seq ?_
  refine SA_region ?_
  refine RA_step rfl (OA_v (v := .int .i64 0) rfl (V_assign rfl) ?_)
  refine RA_step rfl (OA_v (v := .int .i64 0) rfl (V_assign rfl) ?_)
  refine RA_step rfl (OA_v (v := .int .i64 0) rfl (V_assign rfl) ?_)
  refine RA_nil ?_
  refine at_normal ?_
  refine SA_seq ?_
  refine SA_seq ?_
  refine SA_region ?_
  refine RA_step rfl (OA_v (v := .slice A0 l0.length c0) rfl (V_move rfl) ?_)
  obtain ⟨r3, C33, H⟩ := g_bind H
  refine RA_step rfl (OA_callA [0] [0, 1] rfl (X_fn (vs := [.slice A0 l0.length c0, .int .i64 15]) Try.func52 nm52 rfl rfl) rfl (F52.ok (l0 := l0) (A0 := A0) (c0 := c0) (a1 := 15) C33) rfl ?_)
  rintro _ _ ⟨rfl, rfl⟩
  refine RA_step rfl (OA_v (v := .bool (!r3)) rfl (V_not rfl) ?_)
  refine RA_step rfl (OA_v (v := .bool (!r3)) rfl (V_move rfl) ?_)
  obtain ⟨q4, H, Bq4⟩ := g_bind H
  refine RA_cut 4 (fun e ds As => St [(0, .slice A0 l0.length c0), (1, .slice A1 l1.length c1), (2, .int .i64 a2), (17, .bool q4)] [Ro (Kd.int .i64) A0 c0 l0, Ro (Kd.int .u8) A1 c1 l1] e ds As) ?_ ?_
  · by_cases h5 : (!r3) = true
    · replace H := g_ift h5 H
      refine RA_noB rfl rfl rfl rfl (h5) rfl ?_
      refine RA_noB rfl rfl rfl rfl (h5) rfl ?_
      refine RA_noB rfl rfl rfl rfl (h5) rfl ?_
      refine RA_step rfl (OA_v rfl (V_pickT rfl (h5) rfl) ?_)
      have hr_ := Option.some.inj H
      subst hr_
      refine RA_nil ?_
      exact at_normal (St.mk1 (aeq rfl (aeq rfl (aeq rfl (aeq rfl aeq0)))) (Gh.sel [0, 1] rfl rfl))
    · replace H := g_iff h5 H
      refine RA_yesB rfl rfl rfl rfl (bno h5) (OA_v (v := .slice A0 l0.length c0) rfl (V_move rfl) ?_)
      obtain ⟨r6, C7, H⟩ := g_bind H
      refine RA_yesB rfl rfl rfl rfl (bno h5) (OA_callA [0] [0, 1] rfl (X_fn (vs := [.slice A0 l0.length c0]) Try.func53 nm53 rfl rfl) rfl (F53.ok (l0 := l0) (A0 := A0) (c0 := c0) C7) rfl ?_)
      rintro _ _ ⟨rfl, rfl⟩
      refine RA_yesB rfl rfl rfl rfl (bno h5) (OA_v (v := .bool (decide (r6 > 32768))) rfl (V_gtr rfl rfl) ?_)
      refine RA_step rfl (OA_v rfl (V_pickF rfl (bno h5) rfl) ?_)
      have hr_ := Option.some.inj H
      subst hr_
      refine RA_nil ?_
      exact at_normal (St.mk1 (aeq rfl (aeq rfl (aeq rfl (aeq rfl aeq0)))) (Gh.sel [0, 1] rfl rfl))
  · rintro e ds As hst8
    clear H
    have H := Bq4
    clear Bq4
    refine RA.of_St rfl hst8 fun junk => ?_
    refine RA_step rfl (OA_v (v := .bool q4) rfl (V_move rfl) ?_)
    obtain ⟨q9, hq9, H⟩ := g_lt H
    refine RA_cut 3 (fun e ds As => St [(0, .slice A0 l0.length c0), (1, .slice A1 l1.length c1), (2, .int .i64 a2), (21, .bool q9)] [Ro (Kd.int .i64) A0 c0 l0, Ro (Kd.int .u8) A1 c1 l1] e ds As) ?_ ?_
    · by_cases h10 : q4 = true
      · refine RA_noB rfl rfl rfl rfl (h10) rfl ?_
        refine RA_noB rfl rfl rfl rfl (h10) rfl ?_
        refine RA_step rfl (OA_v rfl (V_pickT rfl (h10) rfl) ?_)
        refine RA_nil ?_
        exact at_normal (St.mk1 (aeq rfl (aeq rfl (aeq rfl (aeq (congrArg Value.bool (or_t hq9 (h10))) aeq0)))) (Gh.sel [0, 1] rfl rfl))
      · refine RA_yesB rfl rfl rfl rfl (bno h10) (OA_v (v := .int .i64 a2) rfl (V_move rfl) ?_)
        refine RA_yesB rfl rfl rfl rfl (bno h10) (OA_v (v := .bool (decide (a2 < 0))) rfl (V_lss rfl rfl) ?_)
        refine RA_step rfl (OA_v rfl (V_pickF rfl (bno h10) rfl) ?_)
        refine RA_nil ?_
        exact at_normal (St.mk1 (aeq rfl (aeq rfl (aeq rfl (aeq (congrArg Value.bool (or_f hq9 (bno h10))) aeq0)))) (Gh.sel [0, 1] rfl rfl))
    · rintro e ds As hst11
      refine RA_nil ?_
      refine at_normal ?_
      refine SA.of_St hst11 fun junk => ?_
      by_cases h12 : q9 = true
      · replace H := g_ift h12 H
        refine SA_condTb rfl h12 ?_
        refine SA_seq ?_
        refine SA_region ?_
        refine RA_step rfl (OA_v (v := .int .i64 0) rfl (V_assign rfl) ?_)
        refine RA_step rfl (OA_v (v := .int .i64 0) rfl (V_assign rfl) ?_)
        refine RA_step rfl (OA_v (v := .int .i64 2) rfl (V_assign rfl) ?_)
        refine RA_nil ?_
        refine at_normal ?_
        refine SA_ret ?_
        refine thn_ret ?_
        have hr_ := Option.some.inj H
        subst hr_
        exact BQ_R3 [] rfl rfl rfl rfl (Gh.sel [] rfl rfl) ⟨rfl, rfl⟩
      · replace H := g_iff h12 H
        refine SA_condFb rfl h12 ?_
        refine SA_skip ?_
        refine at_normal ?_
        refine SA_seq ?_
        refine SA_region ?_
        refine RA_step rfl (OA_v (v := .slice A0 l0.length c0) rfl (V_move rfl) ?_)
        obtain ⟨r13, C15, H⟩ := g_bind H
        rcases ho16 : r13.1 with _ | x14
        · replace H := ptrC_n ho16 H
          have hok_ := F54.ok (l0 := l0) (A0 := A0) (c0 := c0) C15
          simp only [ho16, ptrV_n, ptrL_n, List.nil_append, List.cons_append] at hok_
          refine RA_step rfl (OA_callA [0] [0, 1] rfl (X_fn (vs := [.slice A0 l0.length c0]) Try.func54 nm54 rfl rfl) rfl hok_ rfl ?_)
          rintro _ _ ⟨A17, b18, A20, c21, rfl, rfl⟩
          refine RA_step rfl (OA_v (v := .tuple #[.pointer none, .int .i64 r13.2]) rfl (V_move rfl) ?_)
          refine RA_step rfl (OA_v (v := .pointer none) rfl (V_extract rfl rfl) ?_)
          refine RA_step rfl (OA_v (v := .int .i64 r13.2) rfl (V_extract rfl rfl) ?_)
          refine RA_step rfl (OA_v (v := .pointer none) rfl (V_assign rfl) ?_)
          refine RA_step rfl (OA_v (v := .int .i64 r13.2) rfl (V_assign rfl) ?_)
          refine RA_nil ?_
          refine at_normal ?_
          refine SA_seq ?_
          refine SA_seq ?_
          refine SA_region ?_
          refine RA_step rfl (OA_v (v := .int .i64 r13.2) rfl (V_move rfl) ?_)
          refine RA_step rfl (OA_v (v := .bool (decide (r13.2 ≠ 0))) rfl (V_neq rfl rfl) ?_)
          refine RA_nil ?_
          refine at_normal ?_
          by_cases h23 : r13.2 ≠ 0
          · replace H := g_ift h23 H
            refine SA_condT rfl h23 ?_
            refine SA_seq ?_
            refine SA_region ?_
            refine RA_step rfl (OA_v (v := .int .i64 r13.2) rfl (V_move rfl) ?_)
            refine RA_step rfl (OA_v (v := .int .i64 0) rfl (V_assign rfl) ?_)
            refine RA_step rfl (OA_v (v := .int .i64 0) rfl (V_assign rfl) ?_)
            refine RA_step rfl (OA_v (v := .int .i64 r13.2) rfl (V_assign rfl) ?_)
            refine RA_nil ?_
            refine at_normal ?_
            refine SA_ret ?_
            refine thn_ret ?_
            have hr_ := Option.some.inj H
            subst hr_
            exact BQ_R3 [] rfl rfl rfl rfl (Gh.sel [] rfl rfl) ⟨rfl, rfl⟩
          · replace H := g_iff h23 H
            refine SA_condF rfl h23 ?_
            refine SA_skip ?_
            refine at_normal ?_
            refine SA_seq ?_
            refine SA_region ?_
            refine RA_step rfl (OA_v (v := .pointer none) rfl (V_move rfl) ?_)
            refine RA_step rfl (OA_v (v := .slice A1 l1.length c1) rfl (V_move rfl) ?_)
            refine RA_step rfl (OA_v (v := .int .i64 a2) rfl (V_move rfl) ?_)
            cases H
        · replace H := ptrC_s ho16 H
          have hok_ := F54.ok (l0 := l0) (A0 := A0) (c0 := c0) C15
          simp only [ho16, ptrV_s, ptrL_s, List.nil_append, List.cons_append] at hok_
          refine RA_step rfl (OA_callA [0] [0, 1] rfl (X_fn (vs := [.slice A0 l0.length c0]) Try.func54 nm54 rfl rfl) rfl hok_ rfl ?_)
          rintro _ _ ⟨A24, b25, A27, c28, rfl, rfl⟩
          refine RA_step rfl (OA_v (v := .tuple #[.pointer (some ⟨b25, 0, none⟩), .int .i64 r13.2]) rfl (V_move rfl) ?_)
          refine RA_step rfl (OA_v (v := .pointer (some ⟨b25, 0, none⟩)) rfl (V_extract rfl rfl) ?_)
          refine RA_step rfl (OA_v (v := .int .i64 r13.2) rfl (V_extract rfl rfl) ?_)
          refine RA_step rfl (OA_v (v := .pointer (some ⟨b25, 0, none⟩)) rfl (V_assign rfl) ?_)
          refine RA_step rfl (OA_v (v := .int .i64 r13.2) rfl (V_assign rfl) ?_)
          refine RA_nil ?_
          refine at_normal ?_
          refine SA_seq ?_
          refine SA_seq ?_
          refine SA_region ?_
          refine RA_step rfl (OA_v (v := .int .i64 r13.2) rfl (V_move rfl) ?_)
          refine RA_step rfl (OA_v (v := .bool (decide (r13.2 ≠ 0))) rfl (V_neq rfl rfl) ?_)
          refine RA_nil ?_
          refine at_normal ?_
          by_cases h30 : r13.2 ≠ 0
          · replace H := g_ift h30 H
            refine SA_condT rfl h30 ?_
            refine SA_seq ?_
            refine SA_region ?_
            refine RA_step rfl (OA_v (v := .int .i64 r13.2) rfl (V_move rfl) ?_)
            refine RA_step rfl (OA_v (v := .int .i64 0) rfl (V_assign rfl) ?_)
            refine RA_step rfl (OA_v (v := .int .i64 0) rfl (V_assign rfl) ?_)
            refine RA_step rfl (OA_v (v := .int .i64 r13.2) rfl (V_assign rfl) ?_)
            refine RA_nil ?_
            refine at_normal ?_
            refine SA_ret ?_
            refine thn_ret ?_
            have hr_ := Option.some.inj H
            subst hr_
            exact BQ_R3 [] rfl rfl rfl rfl (Gh.sel [] rfl rfl) ⟨rfl, rfl⟩
          · replace H := g_iff h30 H
            refine SA_condF rfl h30 ?_
            refine SA_skip ?_
            refine at_normal ?_
            refine SA_seq ?_
            refine SA_region ?_
            refine RA_step rfl (OA_v (v := .pointer (some ⟨b25, 0, none⟩)) rfl (V_move rfl) ?_)
            refine RA_step rfl (OA_v (v := .slice A1 l1.length c1) rfl (V_move rfl) ?_)
            refine RA_step rfl (OA_v (v := .int .i64 a2) rfl (V_move rfl) ?_)
            obtain ⟨r31, C32, H⟩ := g_bind H
            refine RA_step rfl (OA_callA [0, 1, 3] [2, 3] rfl (X_fn (vs := [.pointer (some ⟨b25, 0, none⟩), .slice A1 l1.length c1, .int .i64 a2]) Try.func55 nm55 rfl rfl) rfl (F55.ok (b0_ := b25) (A0_0 := A27) (c0_0 := c28) (p0 := x14) (l1 := l1) (A1 := A1) (c1 := c1) (a2 := a2) C32) rfl ?_)
            rintro _ _ ⟨rfl, rfl⟩
            refine RA_step rfl (OA_v (v := .int .i64 r31.1) rfl (V_extract rfl rfl) ?_)
            refine RA_step rfl (OA_v (v := .int .i64 r31.2.1) rfl (V_extract rfl rfl) ?_)
            refine RA_step rfl (OA_v (v := .int .i64 r31.2.2) rfl (V_extract rfl rfl) ?_)
            refine RA_step rfl (OA_v (v := .int .i64 r31.1) rfl (V_assign rfl) ?_)
            refine RA_step rfl (OA_v (v := .int .i64 r31.2.1) rfl (V_assign rfl) ?_)
            refine RA_step rfl (OA_v (v := .int .i64 r31.2.2) rfl (V_assign rfl) ?_)
            refine RA_nil ?_
            refine at_normal ?_
            refine SA_ret ?_
            have hr_ := Option.some.inj H
            subst hr_
            exact BQ_R3 [] rfl rfl rfl rfl (Gh.sel [] rfl rfl) ⟨rfl, rfl⟩

/-! ### function 27: wayfarer/wayfarerlaw04.anchored -/
def F27.f (k : Nat)  : Option (Bool) := (F20.f k ([1, 2, 2] : (List Int))).bind (fun r3 => (F24.f k ([1, 2, 2] : (List Int)) ([1] : (List Int)) 0).bind (fun r11 => lt ((decide (r3.2 = 0)) && (decide (r11.2.2 = 0))) fun q12 => lt (q12 && (decide (r11.1 = 1))) fun q15 => lt (q15 && (decide (r11.2.1 = 2))) fun q18 => lt (q18 && (decide ((r3.1.length : Int) = 3))) fun q21 => (if q21 = true then (if 0 ≤ (1 : Int) ∧ (1 : Int) < (r3.1.length : Int) then (some (decide ((rd r3.1 (1 : Int)) = (S52.mk 1 2)))) else none) else (some false) : Option Bool).bind (fun q24 => (if q24 = true then (if 0 ≤ (2 : Int) ∧ (2 : Int) < (r3.1.length : Int) then (some (decide ((rd r3.1 (2 : Int)) = (S52.mk 3 2)))) else none) else (some false) : Option Bool).bind (fun q29 => some (q29)))))
set_option maxHeartbeats 2000000 in
set_option maxRecDepth 100000 in
theorem F27.ok {k : Nat}  {r : Bool} (H : F27.f k  = some r) : SCA Try.prog 27 #[] [] (fun v B => v = .bool r ∧ B = []) := by
  refine SCA_of_body Try.func27 rfl rfl ?_
  unfold F27.f at H
  refine SA_seq ?_
  refine SA_region ?_
  refine RA_step rfl (OA_v (v := .bool false) rfl (V_assign rfl) ?_)
  refine RA_nil ?_
  refine at_normal ?_
  refine SA_seq ?_
  refine SA_region ?_
  refine RA_step rfl (OA_bs (kd := (Kd.int .i64)) (zv := (.int .i64 0)) (sz := 1) (cells := [.int .i64 1, .int .i64 2, .int .i64 2]) (xs := ([1, 2, 2] : (List Int))) rfl Try.underlying34 zero3 sz3 rfl rfl rfl (by kernel_rfl) rfl rfl (RL_enc (fun x_ : Int => [Value.int .i64 x_]) (fun _ _ => rfl) (by kernel_rfl)) fun b1 => ?_)
  obtain ⟨r3, C35, H⟩ := g_bind H
  refine RA_step rfl (OA.ghost (Gh.freeze (k := 0) rfl) (OA_callA [0] [0] rfl (X_fn (vs := [.slice (some ⟨b1, 0, none⟩) ([1, 2, 2] : (List Int)).length 3]) Try.func20 nm20 rfl rfl) rfl (F20.ok (l0 := ([1, 2, 2] : (List Int))) (A0 := some ⟨b1, 0, none⟩) (c0 := 3) C35) rfl ?_))
  rintro _ _ ⟨A4, c5, rfl, rfl⟩
  refine RA_step rfl (OA_v (v := .tuple #[.slice A4 r3.1.length c5, .int .i64 r3.2]) rfl (V_move rfl) ?_)
  refine RA_step rfl (OA_v (v := .slice A4 r3.1.length c5) rfl (V_extract rfl rfl) ?_)
  refine RA_step rfl (OA_v (v := .int .i64 r3.2) rfl (V_extract rfl rfl) ?_)
  refine RA_step rfl (OA_v (v := .slice A4 r3.1.length c5) rfl (V_assign rfl) ?_)
  refine RA_step rfl (OA_v (v := .int .i64 r3.2) rfl (V_assign rfl) ?_)
  refine RA_nil ?_
  refine at_normal ?_
  refine SA_seq ?_
  refine SA_region ?_
  refine RA_step rfl (OA_bs (kd := (Kd.int .i64)) (zv := (.int .i64 0)) (sz := 1) (cells := [.int .i64 1, .int .i64 2, .int .i64 2]) (xs := ([1, 2, 2] : (List Int))) rfl Try.underlying34 zero3 sz3 rfl rfl rfl (by kernel_rfl) rfl rfl (RL_enc (fun x_ : Int => [Value.int .i64 x_]) (fun _ _ => rfl) (by kernel_rfl)) fun b7 => ?_)
  refine RA_step rfl (OA_bs (kd := (Kd.int .u8)) (zv := (.int .u8 0)) (sz := 1) (cells := [.int .u8 1]) (xs := ([1] : (List Int))) rfl Try.underlying23 zero5 sz5 rfl rfl rfl (by kernel_rfl) rfl rfl (RL_enc (fun x_ : Int => [Value.int .u8 x_]) (fun _ _ => rfl) (by kernel_rfl)) fun b9 => ?_)
  obtain ⟨r11, C34, H⟩ := g_bind H
  refine RA_step rfl (OA.ghost (Gh.freeze (k := 2) rfl) (OA.ghost (Gh.freeze (k := 3) rfl) (OA_callA [2, 3] [0, 1, 2, 3] rfl (X_fn (vs := [.slice (some ⟨b7, 0, none⟩) ([1, 2, 2] : (List Int)).length 3, .slice (some ⟨b9, 0, none⟩) ([1] : (List Int)).length 1, .int .i64 0]) Try.func24 nm24 rfl rfl) rfl (F24.ok (l0 := ([1, 2, 2] : (List Int))) (A0 := some ⟨b7, 0, none⟩) (c0 := 3) (l1 := ([1] : (List Int))) (A1 := some ⟨b9, 0, none⟩) (c1 := 1) (a2 := 0) C34) rfl ?_)))
  rintro _ _ ⟨rfl, rfl⟩
  refine RA_step rfl (OA_v (v := .tuple #[.int .i64 r11.1, .int .i64 r11.2.1, .int .i64 r11.2.2]) rfl (V_move rfl) ?_)
  refine RA_step rfl (OA_v (v := .int .i64 r11.1) rfl (V_extract rfl rfl) ?_)
  refine RA_step rfl (OA_v (v := .int .i64 r11.2.1) rfl (V_extract rfl rfl) ?_)
  refine RA_step rfl (OA_v (v := .int .i64 r11.2.2) rfl (V_extract rfl rfl) ?_)
  refine RA_step rfl (OA_v (v := .int .i64 r11.1) rfl (V_assign rfl) ?_)
  refine RA_step rfl (OA_v (v := .int .i64 r11.2.1) rfl (V_assign rfl) ?_)
  refine RA_step rfl (OA_v (v := .int .i64 r11.2.2) rfl (V_assign rfl) ?_)
  refine RA_nil ?_
  refine at_normal ?_
  refine SA_seq ?_
  refine SA_region ?_
  refine RA_step rfl (OA_v (v := .int .i64 r3.2) rfl (V_move rfl) ?_)
  refine RA_step rfl (OA_v (v := .bool (decide (r3.2 = 0))) rfl (V_eql rfl rfl) ?_)
  refine RA_step rfl (OA_v (v := .bool (decide (r3.2 = 0))) rfl (V_move rfl) ?_)
  obtain ⟨q12, hq12, H⟩ := g_lt H
  refine RA_cut 3 (fun e ds As => St [(1, .slice A4 r3.1.length c5), (3, .int .i64 r11.1), (4, .int .i64 r11.2.1), (23, .bool q12)] [Buf k52 52 A4 c5 r3.1] e ds As) ?_ ?_
  · by_cases h13 : r3.2 = 0
    · refine RA_yesB rfl rfl rfl rfl (dec_t h13) (OA_v (v := .int .i64 r11.2.2) rfl (V_move rfl) ?_)
      refine RA_yesB rfl rfl rfl rfl (dec_t h13) (OA_v (v := .bool (decide (r11.2.2 = 0))) rfl (V_eql rfl rfl) ?_)
      refine RA_step rfl (OA_v rfl (V_pickT rfl (dec_t h13) rfl) ?_)
      refine RA_nil ?_
      exact at_normal (St.mk1 (aeq rfl (aeq rfl (aeq rfl (aeq (congrArg Value.bool (and_t hq12 (dec_t h13))) aeq0)))) (Gh.sel [0] rfl rfl))
    · refine RA_noB rfl rfl rfl rfl (dec_f h13) rfl ?_
      refine RA_noB rfl rfl rfl rfl (dec_f h13) rfl ?_
      refine RA_step rfl (OA_v rfl (V_pickF rfl (dec_f h13) rfl) ?_)
      refine RA_nil ?_
      exact at_normal (St.mk1 (aeq rfl (aeq rfl (aeq rfl (aeq (congrArg Value.bool (and_f hq12 (dec_f h13))) aeq0)))) (Gh.sel [0] rfl rfl))
  · rintro e ds As hst14
    refine RA.of_St rfl hst14 fun junk => ?_
    refine RA_step rfl (OA_v (v := .bool q12) rfl (V_move rfl) ?_)
    obtain ⟨q15, hq15, H⟩ := g_lt H
    refine RA_cut 3 (fun e ds As => St [(1, .slice A4 r3.1.length c5), (4, .int .i64 r11.2.1), (27, .bool q15)] [Buf k52 52 A4 c5 r3.1] e ds As) ?_ ?_
    · by_cases h16 : q12 = true
      · refine RA_yesB rfl rfl rfl rfl (h16) (OA_v (v := .int .i64 r11.1) rfl (V_move rfl) ?_)
        refine RA_yesB rfl rfl rfl rfl (h16) (OA_v (v := .bool (decide (r11.1 = 1))) rfl (V_eql rfl rfl) ?_)
        refine RA_step rfl (OA_v rfl (V_pickT rfl (h16) rfl) ?_)
        refine RA_nil ?_
        exact at_normal (St.mk1 (aeq rfl (aeq rfl (aeq (congrArg Value.bool (and_t hq15 (h16))) aeq0))) (Gh.sel [0] rfl rfl))
      · refine RA_noB rfl rfl rfl rfl (bno h16) rfl ?_
        refine RA_noB rfl rfl rfl rfl (bno h16) rfl ?_
        refine RA_step rfl (OA_v rfl (V_pickF rfl (bno h16) rfl) ?_)
        refine RA_nil ?_
        exact at_normal (St.mk1 (aeq rfl (aeq rfl (aeq (congrArg Value.bool (and_f hq15 (bno h16))) aeq0))) (Gh.sel [0] rfl rfl))
    · rintro e ds As hst17
      refine RA.of_St rfl hst17 fun junk => ?_
      refine RA_step rfl (OA_v (v := .bool q15) rfl (V_move rfl) ?_)
      obtain ⟨q18, hq18, H⟩ := g_lt H
      refine RA_cut 3 (fun e ds As => St [(1, .slice A4 r3.1.length c5), (31, .bool q18)] [Buf k52 52 A4 c5 r3.1] e ds As) ?_ ?_
      · by_cases h19 : q15 = true
        · refine RA_yesB rfl rfl rfl rfl (h19) (OA_v (v := .int .i64 r11.2.1) rfl (V_move rfl) ?_)
          refine RA_yesB rfl rfl rfl rfl (h19) (OA_v (v := .bool (decide (r11.2.1 = 2))) rfl (V_eql rfl rfl) ?_)
          refine RA_step rfl (OA_v rfl (V_pickT rfl (h19) rfl) ?_)
          refine RA_nil ?_
          exact at_normal (St.mk1 (aeq rfl (aeq (congrArg Value.bool (and_t hq18 (h19))) aeq0)) (Gh.sel [0] rfl rfl))
        · refine RA_noB rfl rfl rfl rfl (bno h19) rfl ?_
          refine RA_noB rfl rfl rfl rfl (bno h19) rfl ?_
          refine RA_step rfl (OA_v rfl (V_pickF rfl (bno h19) rfl) ?_)
          refine RA_nil ?_
          exact at_normal (St.mk1 (aeq rfl (aeq (congrArg Value.bool (and_f hq18 (bno h19))) aeq0)) (Gh.sel [0] rfl rfl))
      · rintro e ds As hst20
        refine RA.of_St rfl hst20 fun junk => ?_
        refine RA_step rfl (OA_v (v := .bool q18) rfl (V_move rfl) ?_)
        obtain ⟨q21, hq21, H⟩ := g_lt H
        refine RA_cut 4 (fun e ds As => St [(1, .slice A4 r3.1.length c5), (36, .bool q21)] [Buf k52 52 A4 c5 r3.1] e ds As) ?_ ?_
        · by_cases h22 : q18 = true
          · refine RA_yesB rfl rfl rfl rfl (h22) (OA_v (v := .slice A4 r3.1.length c5) rfl (V_move rfl) ?_)
            refine RA_yesB rfl rfl rfl rfl (h22) (OA_v (v := .int .i64 (r3.1.length : Int)) rfl (V_len Try.underlying35 rfl) ?_)
            refine RA_yesB rfl rfl rfl rfl (h22) (OA_v (v := .bool (decide ((r3.1.length : Int) = 3))) rfl (V_eql rfl rfl) ?_)
            refine RA_step rfl (OA_v rfl (V_pickT rfl (h22) rfl) ?_)
            refine RA_nil ?_
            exact at_normal (St.mk1 (aeq rfl (aeq (congrArg Value.bool (and_t hq21 (h22))) aeq0)) (Gh.sel [0] rfl rfl))
          · refine RA_noB rfl rfl rfl rfl (bno h22) rfl ?_
            refine RA_noB rfl rfl rfl rfl (bno h22) rfl ?_
            refine RA_noB rfl rfl rfl rfl (bno h22) rfl ?_
            refine RA_step rfl (OA_v rfl (V_pickF rfl (bno h22) rfl) ?_)
            refine RA_nil ?_
            exact at_normal (St.mk1 (aeq rfl (aeq (congrArg Value.bool (and_f hq21 (bno h22))) aeq0)) (Gh.sel [0] rfl rfl))
        · rintro e ds As hst23
          refine RA.of_St rfl hst23 fun junk => ?_
          refine RA_step rfl (OA_v (v := .bool q21) rfl (V_move rfl) ?_)
          obtain ⟨q24, H, Bq24⟩ := g_bind H
          refine RA_cut 6 (fun e ds As => St [(1, .slice A4 r3.1.length c5), (43, .bool q24)] [Buf k52 52 A4 c5 r3.1] e ds As) ?_ ?_
          · by_cases h25 : q21 = true
            · replace H := g_ift h25 H
              refine RA_yesB rfl rfl rfl rfl (h25) (OA_v (v := .slice A4 r3.1.length c5) rfl (V_move rfl) ?_)
              obtain ⟨⟨g26, g27⟩, H⟩ := g_pos H
              refine RA_yesB rfl rfl rfl rfl (h25) (OA_r rfl (VR_index (i := (1 : Int)) Try.underlying35 sz52 rfl rfl (Src.buf (k := 0) rfl) g26 g27) ?_)
              refine RA_yesB rfl rfl rfl rfl (h25) (OA_r rfl (VR_loadA_el (enc := enc52) (i := (1 : Int)) (j := (1 : Int).toNat * 2) (m := 0) (sz := 2) (vs := [.int .u64 ((rd r3.1 (1 : Int)).f0), .int .i64 ((rd r3.1 (1 : Int)).f1)]) Try.underlying52 rfl sz52 rfl rfl rfl (Src.buf (k := 0) rfl) g26 g27 (fun _ _ h => h) rfl) ?_)
              refine RA_yesB rfl rfl rfl rfl (h25) (OA_v (v := .agg #[.int .u64 1, .int .i64 2]) rfl (V_build (cells := [.int .u64 1, .int .i64 2]) zero52 Try.underlying52 plc52 (by kernel_rfl)) ?_)
              refine RA_yesB rfl rfl rfl rfl (h25) (OA_v (v := .bool (decide ((rd r3.1 (1 : Int)) = (S52.mk 1 2)))) rfl (V_eqlD (xs := [.int .u64 ((rd r3.1 (1 : Int)).f0), .int .i64 ((rd r3.1 (1 : Int)).f1)]) (ys := [.int .u64 1, .int .i64 2]) (r := ((((rd r3.1 (1 : Int)).f0) == 1) && ((((rd r3.1 (1 : Int)).f1) == 2) && true))) (p := (rd r3.1 (1 : Int)) = (S52.mk 1 2)) eqg52 rfl rfl (by kernel_rfl) (eqv52 (x := rd r3.1 (1 : Int)) (y := (S52.mk 1 2)))) ?_)
              refine RA_step rfl (OA_v rfl (V_pickT rfl (h25) rfl) ?_)
              have hr_ := Option.some.inj H
              subst hr_
              refine RA_nil ?_
              exact at_normal (St.mk1 (aeq rfl (aeq rfl aeq0)) (Gh.sel [0] rfl rfl))
            · replace H := g_iff h25 H
              refine RA_noB rfl rfl rfl rfl (bno h25) rfl ?_
              refine RA_noB rfl rfl rfl rfl (bno h25) rfl ?_
              refine RA_noB rfl rfl rfl rfl (bno h25) rfl ?_
              refine RA_noB rfl rfl rfl rfl (bno h25) rfl ?_
              refine RA_noB rfl rfl rfl rfl (bno h25) rfl ?_
              refine RA_step rfl (OA_v rfl (V_pickF rfl (bno h25) rfl) ?_)
              have hr_ := Option.some.inj H
              subst hr_
              refine RA_nil ?_
              exact at_normal (St.mk1 (aeq rfl (aeq rfl aeq0)) (Gh.sel [0] rfl rfl))
          · rintro e ds As hst28
            clear H
            have H := Bq24
            clear Bq24
            refine RA.of_St rfl hst28 fun junk => ?_
            refine RA_step rfl (OA_v (v := .bool q24) rfl (V_move rfl) ?_)
            obtain ⟨q29, H, Bq29⟩ := g_bind H
            refine RA_cut 6 (fun e ds As => St [(50, .bool q29)] [] e ds As) ?_ ?_
            · by_cases h30 : q24 = true
              · replace H := g_ift h30 H
                refine RA_yesB rfl rfl rfl rfl (h30) (OA_v (v := .slice A4 r3.1.length c5) rfl (V_move rfl) ?_)
                obtain ⟨⟨g31, g32⟩, H⟩ := g_pos H
                refine RA_yesB rfl rfl rfl rfl (h30) (OA_r rfl (VR_index (i := (2 : Int)) Try.underlying35 sz52 rfl rfl (Src.buf (k := 0) rfl) g31 g32) ?_)
                refine RA_yesB rfl rfl rfl rfl (h30) (OA_r rfl (VR_loadA_el (enc := enc52) (i := (2 : Int)) (j := (2 : Int).toNat * 2) (m := 0) (sz := 2) (vs := [.int .u64 ((rd r3.1 (2 : Int)).f0), .int .i64 ((rd r3.1 (2 : Int)).f1)]) Try.underlying52 rfl sz52 rfl rfl rfl (Src.buf (k := 0) rfl) g31 g32 (fun _ _ h => h) rfl) ?_)
                refine RA_yesB rfl rfl rfl rfl (h30) (OA_v (v := .agg #[.int .u64 3, .int .i64 2]) rfl (V_build (cells := [.int .u64 3, .int .i64 2]) zero52 Try.underlying52 plc52 (by kernel_rfl)) ?_)
                refine RA_yesB rfl rfl rfl rfl (h30) (OA_v (v := .bool (decide ((rd r3.1 (2 : Int)) = (S52.mk 3 2)))) rfl (V_eqlD (xs := [.int .u64 ((rd r3.1 (2 : Int)).f0), .int .i64 ((rd r3.1 (2 : Int)).f1)]) (ys := [.int .u64 3, .int .i64 2]) (r := ((((rd r3.1 (2 : Int)).f0) == 3) && ((((rd r3.1 (2 : Int)).f1) == 2) && true))) (p := (rd r3.1 (2 : Int)) = (S52.mk 3 2)) eqg52 rfl rfl (by kernel_rfl) (eqv52 (x := rd r3.1 (2 : Int)) (y := (S52.mk 3 2)))) ?_)
                refine RA_step rfl (OA_v rfl (V_pickT rfl (h30) rfl) ?_)
                have hr_ := Option.some.inj H
                subst hr_
                refine RA_nil ?_
                exact at_normal (St.mk1 (aeq rfl aeq0) (Gh.sel [] rfl rfl))
              · replace H := g_iff h30 H
                refine RA_noB rfl rfl rfl rfl (bno h30) rfl ?_
                refine RA_noB rfl rfl rfl rfl (bno h30) rfl ?_
                refine RA_noB rfl rfl rfl rfl (bno h30) rfl ?_
                refine RA_noB rfl rfl rfl rfl (bno h30) rfl ?_
                refine RA_noB rfl rfl rfl rfl (bno h30) rfl ?_
                refine RA_step rfl (OA_v rfl (V_pickF rfl (bno h30) rfl) ?_)
                have hr_ := Option.some.inj H
                subst hr_
                refine RA_nil ?_
                exact at_normal (St.mk1 (aeq rfl aeq0) (Gh.sel [] rfl rfl))
            · rintro e ds As hst33
              clear H
              have H := Bq29
              clear Bq29
              refine RA.of_St rfl hst33 fun junk => ?_
              refine RA_step rfl (OA_v (v := .bool q29) rfl (V_assign rfl) ?_)
              refine RA_nil ?_
              refine at_normal ?_
              refine SA_ret ?_
              have hr_ := Option.some.inj H
              subst hr_
              exact BQ_R1 [] rfl rfl (Gh.sel [] rfl rfl) ⟨rfl, rfl⟩
end Go.Proofs.Ytocjoegcfojjhaa.He

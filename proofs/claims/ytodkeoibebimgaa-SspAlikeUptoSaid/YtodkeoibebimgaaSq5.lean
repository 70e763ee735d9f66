/- What functions compute, and that they do: 142b1, 52b0, 54, 92b0, 93, 94, 95, 96m0b2, 97b0. -/
import Derived.Test.YtodkeoibebimgaaSq0
import Derived.Test.YtodkeoibebimgaaSq1
import Derived.Test.YtodkeoibebimgaaSq2
namespace Go.Proofs.Ytodkeoibebimgaa.Sq
open Go Go.RowKit Go.Proofs.Ytodkeoibebimgaa.SL
set_option linter.unusedVariables false
set_option linter.unusedSimpArgs false
attribute [local irreducible] IntKind.wrap minI maxI shrI shlI andI orI xorI andNotI cplI rd sub bytesOf strOf slA
/-! ### function 54: wayfarer/wayfarerref23.NewReceiver -/
def F54.f (a0 : ByteArray) : Option (S121) := some ((S121.mk ([(S63.mk 0 a0 0)] : (List S63))))
set_option maxHeartbeats 2000000 in
set_option maxRecDepth 100000 in
theorem F54.ok {a0 : ByteArray} {r : S121} (H : F54.f a0 = some r) : SCA Try.prog 54 #[.string a0] [] (fun v B => ∃ (c0_ : Nat), ∃ (A0_0_ : Option Addr) (c0_0_ : Nat), v = .pointer (some ⟨c0_, 0, none⟩) ∧ B = [Blk c0_ 121 [.slice A0_0_ r.f0.length c0_0_], Buf k63 63 A0_0_ c0_0_ r.f0]) := by
  refine SCA_of_body Try.func54 rfl rfl ?_
  unfold F54.f at H
  refine SA_seq ?_
  refine SA_region ?_
  refine RA_step rfl (OA_v (v := .pointer none) rfl (V_assign rfl) ?_)
  refine RA_nil ?_
  refine at_normal ?_
  refine SA_seq ?_
  refine SA_region ?_
  refine RA_step rfl (OA_v (v := .string a0) rfl (V_move rfl) ?_)
  refine RA_step rfl (OA_v (v := .agg #[.int .u64 0, .string a0, .int .u64 0]) rfl (V_build (cells := [.int .u64 0, .string a0, .int .u64 0]) zero63 Try.underlying63 plc63 (by kernel_rfl)) ?_)
  refine RA_step rfl (OA_bs (kd := k63) (zv := (.agg #[.int .u64 0, .string ByteArray.empty, .int .u64 0])) (sz := 3) (cells := [.int .u64 0, .string a0, .int .u64 0]) (xs := ([(S63.mk 0 a0 0)] : (List S63))) rfl Try.underlying47 zero63 sz63 rfl rfl rfl (by kernel_rfl) rfl rfl (RL_enc enc63 (fun _ _ => rfl) (by kernel_rfl)) fun b1 => ?_)
  refine RA_step rfl (OA_v (v := .agg #[.slice (some ⟨b1, 0, none⟩) ([(S63.mk 0 a0 0)] : (List S63)).length 1]) rfl (V_build (cells := [.slice (some ⟨b1, 0, none⟩) ([(S63.mk 0 a0 0)] : (List S63)).length 1]) zero121 Try.underlying121 plc121 (by kernel_rfl)) ?_)
  refine RA_step rfl (OA_box rfl rfl fun b3 => ?_)
  refine RA_step rfl (OA_v (v := .pointer (some ⟨b3, 0, none⟩)) rfl (V_assign rfl) ?_)
  refine RA_nil ?_
  refine at_normal ?_
  refine SA_ret ?_
  have hr_ := Option.some.inj H
  subst hr_
  exact BQ_R1 [Blk b3 121 [.slice (some ⟨b1, 0, none⟩) ([(S63.mk 0 a0 0)] : (List S63)).length 1], Buf k63 63 (some ⟨b1, 0, none⟩) 1 ([(S63.mk 0 a0 0)] : (List S63))] rfl rfl (Gh.sel [1, 0] rfl rfl) ⟨b3, some ⟨b1, 0, none⟩, 1, rfl, rfl⟩

/-! ### function 92: (*wayfarer/ssp.Receiver[wayfarer/wayfarerlaw23.text]).there -/
def F92b0.f (p0 : S162) : Option (Bool) := some (decide ((p0.f0.length : Int) > 0))
set_option maxHeartbeats 2000000 in
set_option maxRecDepth 100000 in
theorem F92b0.ok {p0 : S162} {b0_ : Nat} {A0_0 : Option Addr} {c0_0 : Nat} {r : Bool} (H : F92b0.f p0 = some r) : SCA Try.prog 92 #[.pointer (some ⟨b0_, 0, none⟩)] [Blk b0_ 162 [.slice A0_0 p0.f0.length c0_0], Buf k128 128 A0_0 c0_0 p0.f0] (fun v B => v = .bool r ∧ B = [Blk b0_ 162 [.slice A0_0 p0.f0.length c0_0], Buf k128 128 A0_0 c0_0 p0.f0]) := by
  refine SCA_of_body Try.func92 rfl rfl ?_
  unfold F92b0.f at H
  refine SA_seq ?_
  refine SA_region ?_
  refine RA_step rfl (OA_v (v := .bool false) rfl (V_assign rfl) ?_)
  refine RA_nil ?_
  refine at_normal ?_
  refine SA_seq ?_
  refine SA_region ?_
  refine RA_step rfl (OA_v (v := .pointer (some ⟨b0_, 0, none⟩)) rfl (V_move rfl) ?_)
  refine RA_step rfl (OA_v (v := .bool true) rfl (V_neqPN Try.underlying106 rfl rfl) ?_)
  refine RA_step rfl (OA_v (v := .bool true) rfl (V_move rfl) ?_)
  refine RA_yesB rfl rfl rfl rfl (rfl) (OA_v (v := .pointer (some ⟨b0_, 0, none⟩)) rfl (V_move rfl) ?_)
  refine RA_yesB rfl rfl rfl rfl (rfl) (OA_v (v := .pointer (some ⟨b0_, 0, none⟩)) rfl (V_nilCheck rfl) ?_)
  refine RA_yesB rfl rfl rfl rfl (rfl) (OA_v (v := .pointer (some ⟨b0_, 0, none⟩)) rfl (V_fieldAddrN (B := ⟨b0_, 0, none⟩) (m := 0) (o := 0) Try.underlying162 rfl nz129 rfl rfl) ?_)
  refine RA_yesB rfl rfl rfl rfl (rfl) (OA_r rfl (VR_load_blk (b := b0_) (m := 0) (k := 0) Try.underlying129 rfl rfl rfl rfl) ?_)
  refine RA_yesB rfl rfl rfl rfl (rfl) (OA_v (v := .int .i64 (p0.f0.length : Int)) rfl (V_len Try.underlying129 rfl) ?_)
  refine RA_yesB rfl rfl rfl rfl (rfl) (OA_v (v := .bool (decide ((p0.f0.length : Int) > 0))) rfl (V_gtr rfl rfl) ?_)
  refine RA_step rfl (OA_v rfl (V_pickT rfl (rfl) rfl) ?_)
  refine RA_step rfl (OA_v (v := .bool (decide ((p0.f0.length : Int) > 0))) rfl (V_assign rfl) ?_)
  refine RA_nil ?_
  refine at_normal ?_
  refine SA_ret ?_
  have hr_ := Option.some.inj H
  subst hr_
  exact BQ_R1 [Blk b0_ 162 [.slice A0_0 p0.f0.length c0_0], Buf k128 128 A0_0 c0_0 p0.f0] rfl rfl (Gh.sel [0, 1] rfl rfl) ⟨rfl, rfl⟩

/-! ### function 93: wayfarer/ssp.thrown[wayfarer/wayfarerlaw23.text] -/
def F93.l0 (l0 : (List S128)) (a1 : Int) : Nat → Int → Option (Int)
  | 0, _ => none
  | k + 1, x5_2 => (if x5_2 < (IntKind.i64.wrap ((l0.length : Int) - 1)) then (if 0 ≤ x5_2 ∧ x5_2 < (l0.length : Int) then (some (decide (((rd l0 x5_2).f0) < a1))) else none) else (some false) : Option Bool).bind (fun q5 => if q5 = true then (lt (IntKind.i64.wrap (x5_2 + 1)) fun n11 => F93.l0 l0 a1 k n11) else (some x5_2))
def F93.f (k : Nat) (l0 : (List S128)) (a1 : Int) : Option ((List S128)) := (F93.l0 l0 a1 k 0 : Option (Int)).bind (fun t2 => if 0 ≤ t2 ∧ t2 ≤ (l0.length : Int) ∧ (l0.length : Int) ≤ (l0.length : Int) ∧ (l0.length : Int) ≤ (l0.length : Int) ∧ (l0.length : Int) ≤ (l0.length : Int) then lt (sub l0 t2 (l0.length : Int)) fun n19 => ((F62.f n19).bind (fun r20 => some (r20))) else none)
set_option maxHeartbeats 2000000 in
set_option maxRecDepth 100000 in
theorem F93.ok {k : Nat} {l0 : (List S128)} {a1 : Int} {A0 : Option Addr} {c0 : Nat} {r : (List S128)} (H : F93.f k l0 a1 = some r) : SCA Try.prog 93 #[.slice A0 l0.length c0, .int .u64 a1] [Ro k128 A0 c0 l0] (fun v B => ∃ (A0_0_ : Option Addr) (c0_0_ : Nat), v = .slice A0_0_ r.length c0_0_ ∧ B = [Buf k128 128 A0_0_ c0_0_ r]) := by
  refine SCA_of_body Try.func93 rfl rfl ?_
  unfold F93.f at H
  refine SA_seq ?_
  refine SA_region ?_
  refine RA_step rfl (OA_v (v := .slice none 0 0) rfl (V_assign rfl) ?_)
  refine RA_nil ?_
  refine at_normal ?_
  refine SA_seq ?_
  refine SA_region ?_
  refine RA_step rfl (OA_v (v := .int .i64 0) rfl (V_assign rfl) ?_)
  refine RA_nil ?_
  refine at_normal ?_
  refine SA_seq ?_
  obtain ⟨t2, H, Bt2⟩ := g_bind H
  refine SA_mid (fun e ds As => St [(0, .slice A0 l0.length c0), (5, .int .i64 t2)] [Ro k128 A0 c0 l0] e ds As) ?_ ?_
  · refine SA_block ?_
    refine SA_loop (fun k_ e ds As => ∃ (x5_2 : Int), F93.l0 l0 a1 k_ x5_2 = some t2 ∧ St [(0, .slice A0 l0.length c0), (1, .int .u64 a1), (5, .int .i64 x5_2)] [Ro k128 A0 c0 l0] e ds As) (k := k) ⟨_, H, St.mk1 (aeq rfl (aeq rfl (aeq rfl aeq0))) (Gh.sel [0] rfl rfl)⟩ ?_
    clear H
    rintro k3 e ds As ⟨x5_2, H, hst4⟩
    obtain _ | k3 := k3
    · cases H
    rw [F93.l0] at H
    refine SA.of_St hst4 fun junk => ?_
    refine SA_seq ?_
    refine SA_seq ?_
    refine SA_region ?_
    refine RA_step rfl (OA_v (v := .int .i64 x5_2) rfl (V_move rfl) ?_)
    refine RA_step rfl (OA_v (v := .slice A0 l0.length c0) rfl (V_move rfl) ?_)
    refine RA_step rfl (OA_v (v := .int .i64 (l0.length : Int)) rfl (V_len Try.underlying129 rfl) ?_)
    refine RA_step rfl (OA_v (v := .int .i64 (IntKind.i64.wrap ((l0.length : Int) - 1))) rfl (V_sub rfl rfl) ?_)
    refine RA_step rfl (OA_v (v := .bool (decide (x5_2 < (IntKind.i64.wrap ((l0.length : Int) - 1))))) rfl (V_lss rfl rfl) ?_)
    refine RA_step rfl (OA_v (v := .bool (decide (x5_2 < (IntKind.i64.wrap ((l0.length : Int) - 1))))) rfl (V_move rfl) ?_)
    obtain ⟨q5, H, Bq5⟩ := g_bind H
    refine RA_cut 8 (fun e ds As => St [(0, .slice A0 l0.length c0), (1, .int .u64 a1), (5, .int .i64 x5_2), (19, .bool q5)] [Ro k128 A0 c0 l0] e ds As) ?_ ?_
    · by_cases h6 : x5_2 < (IntKind.i64.wrap ((l0.length : Int) - 1))
      · replace H := g_ift h6 H
        refine RA_yesB rfl rfl rfl rfl (dec_t h6) (OA_v (v := .slice A0 l0.length c0) rfl (V_move rfl) ?_)
        refine RA_yesB rfl rfl rfl rfl (dec_t h6) (OA_v (v := .int .i64 x5_2) rfl (V_move rfl) ?_)
        obtain ⟨⟨g7, g8⟩, H⟩ := g_pos H
        refine RA_yesB rfl rfl rfl rfl (dec_t h6) (OA_r rfl (VR_index (i := x5_2) Try.underlying129 sz128 rfl rfl (Src.ro (k := 0) rfl) g7 g8) ?_)
        refine RA_yesB rfl rfl rfl rfl (dec_t h6) (OA_v (v := .pointer (some ((el A0 (x5_2.toNat * 3)).add 0))) rfl (V_fieldAddrN (B := el A0 (x5_2.toNat * 3)) (m := 0) (o := 0) Try.underlying128 rfl nz44 rfl rfl) ?_)
        refine RA_yesB rfl rfl rfl rfl (dec_t h6) (OA_r rfl (VR_load_el (enc := enc128) (i := x5_2) (j := x5_2.toNat * 3) (m := 0) (sz := 3) Try.underlying44 rfl rfl rfl rfl (Src.ro (k := 0) rfl) g7 g8 (fun _ _ h => h) rfl) ?_)
        refine RA_yesB rfl rfl rfl rfl (dec_t h6) (OA_v (v := .int .u64 a1) rfl (V_move rfl) ?_)
        refine RA_yesB rfl rfl rfl rfl (dec_t h6) (OA_v (v := .bool (decide (((rd l0 x5_2).f0) < a1))) rfl (V_lss rfl rfl) ?_)
        refine RA_step rfl (OA_v rfl (V_pickT rfl (dec_t h6) rfl) ?_)
        have hr_ := Option.some.inj H
        subst hr_
        refine RA_nil ?_
        exact at_normal (St.mk1 (aeq rfl (aeq rfl (aeq rfl (aeq rfl aeq0)))) (Gh.sel [0] rfl rfl))
      replace H := g_iff h6 H
      refine RA_noB rfl rfl rfl rfl (dec_f h6) rfl ?_
      refine RA_noB rfl rfl rfl rfl (dec_f h6) rfl ?_
      refine RA_noB rfl rfl rfl rfl (dec_f h6) rfl ?_
      refine RA_noB rfl rfl rfl rfl (dec_f h6) rfl ?_
      refine RA_noB rfl rfl rfl rfl (dec_f h6) rfl ?_
      refine RA_noB rfl rfl rfl rfl (dec_f h6) rfl ?_
      refine RA_noB rfl rfl rfl rfl (dec_f h6) rfl ?_
      refine RA_step rfl (OA_v rfl (V_pickF rfl (dec_f h6) rfl) ?_)
      have hr_ := Option.some.inj H
      subst hr_
      refine RA_nil ?_
      exact at_normal (St.mk1 (aeq rfl (aeq rfl (aeq rfl (aeq rfl aeq0)))) (Gh.sel [0] rfl rfl))
    rintro e ds As hst9
    clear H
    have H := Bq5
    clear Bq5
    refine RA_nil ?_
    refine at_normal ?_
    refine SA.of_St hst9 fun junk => ?_
    by_cases h10 : q5 = true
    · replace H := g_ift h10 H
      refine SA_condTb rfl h10 ?_
      refine SA_skip ?_
      refine at_normal ?_
      refine SA_block ?_
      refine SA_region ?_
      refine RA_step rfl (OA_v (v := .int .i64 x5_2) rfl (V_move rfl) ?_)
      refine RA_step rfl (OA_v (v := .int .i64 (IntKind.i64.wrap (x5_2 + 1))) rfl (V_add rfl rfl) ?_)
      obtain ⟨n11, hn11, H⟩ := g_lt H
      refine RA_step rfl (OA_v (v := .int .i64 n11) rfl (V_assign (v := .int .i64 n11) (congrArg (Value.int .i64) hn11.symm)) ?_)
      refine RA_nil ?_
      refine inb_normal ?_
      exact at_normal ⟨k3, Nat.lt_succ_self _, _, H, St.mk1 (aeq rfl (aeq rfl (aeq rfl aeq0))) (Gh.sel [0] rfl rfl)⟩
    replace H := g_iff h10 H
    refine SA_condFb rfl h10 ?_
    refine SA_exit ?_
    refine thn_exit ?_
    refine thn_exit ?_
    refine inb_hit ?_
    have hr_ := Option.some.inj H
    subst hr_
    exact at_normal (St.mk1 (aeq rfl (aeq rfl aeq0)) (Gh.sel [0] rfl rfl))
  rintro e ds As hst12
  clear H
  have H := Bt2
  clear Bt2
  refine at_normal ?_
  refine SA.of_St hst12 fun junk => ?_
  refine SA_seq ?_
  refine SA_region ?_
  refine RA_step rfl (OA_v (v := .slice A0 l0.length c0) rfl (V_move rfl) ?_)
  refine RA_step rfl (OA_v (v := .int .i64 t2) rfl (V_move rfl) ?_)
  refine RA_step rfl (OA_v (v := .slice A0 l0.length c0) rfl (V_move rfl) ?_)
  refine RA_step rfl (OA_v (v := .int .i64 (l0.length : Int)) rfl (V_len Try.underlying129 rfl) ?_)
  refine RA_step rfl (OA_v (v := .slice A0 l0.length c0) rfl (V_move rfl) ?_)
  refine RA_step rfl (OA_v (v := .int .i64 (l0.length : Int)) rfl (V_len Try.underlying129 rfl) ?_)
  obtain ⟨⟨g13, g14, g15, g16, g17⟩, H⟩ := g_pos H
  obtain ⟨n19, hn19, H⟩ := g_lt H
  refine RA_step rfl (OA.ghost (Gh.subN (k := 0) (l := t2) (h := (l0.length : Int)) (m := (l0.length : Int)) (sz := 3) hn19 rfl rfl g13 g14 g15 (.inr g16)) (OA_r rfl (VR_sub (k := 0) (l := t2) (h := (l0.length : Int)) (m := (l0.length : Int)) hn19 rfl Try.underlying129 sz128 rfl rfl rfl rfl (.inr ⟨_, rfl⟩) (.inr ⟨_, rfl⟩) (.inr ⟨⟨_, rfl⟩, ⟨_, rfl⟩, g16, g17⟩) g13 g14 g15) ?_))
  obtain ⟨r20, C24, H⟩ := g_bind H
  refine RA_step rfl (OA_callA [1] [0, 1] rfl (X_fn (vs := [.slice (slA A0 t2 (l0.length : Int) 3) n19.length ((l0.length : Int).toNat - t2.toNat)]) Try.func62 nm62 rfl rfl) rfl (F62.ok (l0 := n19) (A0 := slA A0 t2 (l0.length : Int) 3) (c0 := (l0.length : Int).toNat - t2.toNat) C24) rfl ?_)
  rintro _ _ ⟨A21, c22, rfl, rfl⟩
  refine RA_step rfl (OA_v (v := .slice A21 r20.length c22) rfl (V_assign rfl) ?_)
  refine RA_nil ?_
  refine at_normal ?_
  refine SA_ret ?_
  have hr_ := Option.some.inj H
  subst hr_
  exact BQ_R1 [Buf k128 128 A21 c22 r20] rfl rfl (Gh.sel [0] rfl rfl) ⟨A21, c22, rfl, rfl⟩

/-! ### function 142: (wayfarer/wayfarerlaw23.text).Apply -/
def F142b1.f (a0 : S41) (l1 : (List Int)) : Option (S41 × Int) := if a0.f0.size + (strOf l1).size ≤ 9223372036854775807 then (some (((S41.mk (a0.f0 ++ (strOf l1))), 0))) else none
set_option maxHeartbeats 2000000 in
set_option maxRecDepth 100000 in
theorem F142b1.ok {a0 : S41} {l1 : (List Int)} {A1 : Option Addr} {c1 : Nat} {r : S41 × Int} (H : F142b1.f a0 l1 = some r) : SCA Try.prog 142 #[.agg #[.string a0.f0], .slice A1 l1.length c1] [Buf (Kd.int .u8) 5 A1 c1 l1] (fun v B => v = .tuple #[.agg #[.string r.1.f0], .int .i64 r.2] ∧ B = [Buf (Kd.int .u8) 5 A1 c1 l1]) := by
  refine SCA_of_body Try.func142 rfl rfl ?_
  unfold F142b1.f at H
  refine SA_seq ?_
  refine SA_region ?_
  refine RA_step rfl (OA_box rfl rfl fun b2 => ?_)
  refine RA_step rfl (OA_alloc rfl zero41 fun b4 => ?_)
  refine RA_step rfl (OA_v (v := .int .i64 0) rfl (V_assign rfl) ?_)
  refine RA_nil ?_
  refine at_normal ?_
  refine SA_seq ?_
  refine SA_region ?_
  refine RA_step rfl (OA_v (v := .pointer (some ⟨b2, 0, none⟩)) rfl (V_fieldAddrN (B := ⟨b2, 0, none⟩) (m := 0) (o := 0) Try.underlying41 rfl nz9 rfl rfl) ?_)
  refine RA_step rfl (OA_r rfl (VR_load_blk (b := b2) (m := 0) (k := 1) Try.underlying9 rfl rfl rfl rfl) ?_)
  refine RA_step rfl (OA_v (v := .slice A1 l1.length c1) rfl (V_move rfl) ?_)
  refine RA_step rfl (OA_r rfl (VR_str Try.underlying23 Try.underlying5 Try.underlying9 rfl (Src.buf (k := 0) rfl)) ?_)
  obtain ⟨g6, H⟩ := g_pos H
  refine RA_step rfl (OA_v (v := .string (a0.f0 ++ (strOf l1))) rfl (V_addS rfl rfl g6) ?_)
  refine RA_step rfl (OA_v (v := .agg #[.string (a0.f0 ++ (strOf l1))]) rfl (V_build (cells := [.string (a0.f0 ++ (strOf l1))]) zero41 Try.underlying41 plc41 (by kernel_rfl)) ?_)
  refine RA_step rfl (OA_st (b := b4) (m := 0) (k := 2) (vs := [.string (a0.f0 ++ (strOf l1))]) (cs' := [.string (a0.f0 ++ (strOf l1))]) rfl rfl rfl rfl rfl rfl sz41 rfl rfl ?_)
  refine RA_step rfl (OA_v (v := .int .i64 0) rfl (V_assign rfl) ?_)
  refine RA_nil ?_
  refine at_normal ?_
  refine SA_ret ?_
  have hr_ := Option.some.inj H
  subst hr_
  exact BQ_RL (rs := [.cell 4 41, .tmp 5]) (vs := [.agg #[.string (a0.f0 ++ (strOf l1))], .int .i64 0]) [Buf (Kd.int .u8) 5 A1 c1 l1] rfl ⟨RV.cell (k := 2) rfl rfl Try.underlying41 rfl sz41, RV.tmp rfl, trivial⟩ rfl (Gh.sel [0] rfl rfl) ⟨rfl, rfl⟩

/-! ### function 94: slices.BinarySearchFunc[[]wayfarer/ssp.sent[wayfarer/wayfarerlaw23.text],wayfarer/ssp.sent[wayfarer/wayfarerlaw23.text],uint64] -/
def F94.l0 (l0 : (List S128)) (a1 : Int) (g2 : S128 → Int → Option (Int)) : Nat → Int → Int → Option (Int)
  | 0, _, _ => none
  | k + 1, x9_4, x10_4 => if x9_4 < x10_4 then (lt (IntKind.i64.wrap (shrI .u64 (IntKind.u64.wrap (IntKind.i64.wrap (x9_4 + x10_4))) 1)) fun n8 => if 0 ≤ n8 ∧ n8 < (l0.length : Int) then ((g2 (rd l0 n8) a1).bind (fun r11 => if r11 < 0 then (lt (IntKind.i64.wrap (n8 + 1)) fun n13 => F94.l0 l0 a1 g2 k n13 x10_4) else (F94.l0 l0 a1 g2 k x9_4 n8))) else none) else (some x9_4)
def F94.f (k : Nat) (l0 : (List S128)) (a1 : Int) (g2 : S128 → Int → Option (Int)) : Option (Int × Bool) := lt ((l0.length : Int)) fun n3 => (F94.l0 l0 a1 g2 k 0 n3 : Option (Int)).bind (fun t4 => (if t4 < n3 then (if 0 ≤ t4 ∧ t4 < (l0.length : Int) then ((g2 (rd l0 t4) a1).bind (fun r20 => some (decide (r20 = 0)))) else none) else (some false) : Option Bool).bind (fun q16 => some ((t4, q16))))
set_option maxHeartbeats 2000000 in
set_option maxRecDepth 100000 in
theorem F94.ok {k : Nat} {l0 : (List S128)} {a1 : Int} {g2 : S128 → Int → Option (Int)} {A0 : Option Addr} {c0 : Nat} {fv2 : Value} {Fr2 : Asrt} (hg2 : ∀ {x0_ : S128} {x1_ : Int} {r_ : Int}, g2 x0_ x1_ = some r_ → FC Try.prog fv2 [.agg #[.int .u64 x0_.f0, .string x0_.f1.f0, .int .u64 x0_.f2], .int .u64 x1_] [Fr2] (fun v B => ∃ B0, (v = .int .i64 r_ ∧ B0 = []) ∧ B = B0 ++ [Fr2])) {r : Int × Bool} (H : F94.f k l0 a1 g2 = some r) : SCA Try.prog 94 #[.slice A0 l0.length c0, .int .u64 a1, fv2] [Ro k128 A0 c0 l0, Fr2] (fun v B => v = .tuple #[.int .i64 r.1, .bool r.2] ∧ B = [Fr2]) := by
  refine SCA_of_body Try.func94 rfl rfl ?_
  unfold F94.f at H
  refine SA_seq ?_
  refine SA_region ?_
  refine RA_step rfl (OA_v (v := .int .i64 0) rfl (V_assign rfl) ?_)
  refine RA_step rfl (OA_v (v := .bool false) rfl (V_assign rfl) ?_)
  refine RA_nil ?_
  refine at_normal ?_
  refine SA_seq ?_
  refine SA_region ?_
  refine RA_step rfl (OA_v (v := .slice A0 l0.length c0) rfl (V_move rfl) ?_)
  refine RA_step rfl (OA_v (v := .int .i64 (l0.length : Int)) rfl (V_len Try.underlying129 rfl) ?_)
  obtain ⟨n3, hn3, H⟩ := g_lt H
  refine RA_step rfl (OA_v (v := .int .i64 n3) rfl (V_assign (v := .int .i64 n3) (congrArg (Value.int .i64) hn3.symm)) ?_)
  refine RA_nil ?_
  refine at_normal ?_
  refine SA_seq ?_
  refine SA_region ?_
  refine RA_step rfl (OA_v (v := .int .i64 n3) rfl (V_move rfl) ?_)
  refine RA_step rfl (OA_v (v := .int .i64 0) rfl (V_assign rfl) ?_)
  refine RA_step rfl (OA_v (v := .int .i64 n3) rfl (V_assign rfl) ?_)
  refine RA_nil ?_
  refine at_normal ?_
  refine SA_seq ?_
  obtain ⟨t4, H, Bt4⟩ := g_bind H
  refine SA_mid (fun e ds As => St [(0, .slice A0 l0.length c0), (1, .int .u64 a1), (2, fv2), (8, .int .i64 n3), (9, .int .i64 t4)] [Fr2, Ro k128 A0 c0 l0] e ds As) ?_ ?_
  · refine SA_block ?_
    refine SA_loop (fun k_ e ds As => ∃ (x9_4 : Int) (x10_4 : Int), F94.l0 l0 a1 g2 k_ x9_4 x10_4 = some t4 ∧ St [(0, .slice A0 l0.length c0), (1, .int .u64 a1), (2, fv2), (8, .int .i64 n3), (9, .int .i64 x9_4), (10, .int .i64 x10_4)] [Fr2, Ro k128 A0 c0 l0] e ds As) (k := k) ⟨_, _, H, St.mk1 (aeq rfl (aeq rfl (aeq rfl (aeq rfl (aeq rfl (aeq rfl aeq0)))))) (Gh.sel [1, 0] rfl rfl)⟩ ?_
    clear H
    rintro k5 e ds As ⟨x9_4, x10_4, H, hst6⟩
    obtain _ | k5 := k5
    · cases H
    rw [F94.l0] at H
    refine SA.of_St hst6 fun junk => ?_
    refine SA_seq ?_
    refine SA_seq ?_
    refine SA_region ?_
    refine RA_step rfl (OA_v (v := .int .i64 x9_4) rfl (V_move rfl) ?_)
    refine RA_step rfl (OA_v (v := .int .i64 x10_4) rfl (V_move rfl) ?_)
    refine RA_step rfl (OA_v (v := .bool (decide (x9_4 < x10_4))) rfl (V_lss rfl rfl) ?_)
    refine RA_nil ?_
    refine at_normal ?_
    by_cases h7 : x9_4 < x10_4
    · replace H := g_ift h7 H
      refine SA_condT rfl h7 ?_
      refine SA_skip ?_
      refine at_normal ?_
      refine SA_block ?_
      refine SA_seq ?_
      refine SA_region ?_
      refine RA_step rfl (OA_v (v := .int .i64 x9_4) rfl (V_move rfl) ?_)
      refine RA_step rfl (OA_v (v := .int .i64 x10_4) rfl (V_move rfl) ?_)
      refine RA_step rfl (OA_v (v := .int .i64 (IntKind.i64.wrap (x9_4 + x10_4))) rfl (V_add rfl rfl) ?_)
      refine RA_step rfl (OA_v (v := .int .u64 (IntKind.u64.wrap (IntKind.i64.wrap (x9_4 + x10_4)))) rfl (V_conv (T := 3) (by kernel_rfl) Try.underlying183 rfl) ?_)
      refine RA_step rfl (OA_v (v := .int .u64 (shrI .u64 (IntKind.u64.wrap (IntKind.i64.wrap (x9_4 + x10_4))) 1)) rfl (V_shr rfl rfl (by decide)) ?_)
      refine RA_step rfl (OA_v (v := .int .i64 (IntKind.i64.wrap (shrI .u64 (IntKind.u64.wrap (IntKind.i64.wrap (x9_4 + x10_4))) 1))) rfl (V_conv (T := 183) (by kernel_rfl) Try.underlying3 rfl) ?_)
      obtain ⟨n8, hn8, H⟩ := g_lt H
      refine RA_step rfl (OA_v (v := .int .i64 n8) rfl (V_assign (v := .int .i64 n8) (congrArg (Value.int .i64) hn8.symm)) ?_)
      refine RA_nil ?_
      refine at_normal ?_
      refine SA_seq ?_
      refine SA_region ?_
      refine RA_step rfl (OA_v (v := fv2) rfl (V_move rfl) ?_)
      refine RA_step rfl (OA_v (v := .slice A0 l0.length c0) rfl (V_move rfl) ?_)
      refine RA_step rfl (OA_v (v := .int .i64 n8) rfl (V_move rfl) ?_)
      obtain ⟨⟨g9, g10⟩, H⟩ := g_pos H
      refine RA_step rfl (OA_r rfl (VR_index (i := n8) Try.underlying129 sz128 rfl rfl (Src.ro (k := 1) rfl) g9 g10) ?_)
      refine RA_step rfl (OA_r rfl (VR_loadA_el (enc := enc128) (i := n8) (j := n8.toNat * 3) (m := 0) (sz := 3) (vs := [.int .u64 ((rd l0 n8).f0), .string (((rd l0 n8).f1).f0), .int .u64 ((rd l0 n8).f2)]) Try.underlying128 rfl sz128 rfl rfl rfl (Src.ro (k := 1) rfl) g9 g10 (fun _ _ h => h) rfl) ?_)
      refine RA_step rfl (OA_v (v := .int .u64 a1) rfl (V_move rfl) ?_)
      obtain ⟨r11, C14, H⟩ := g_bind H
      refine RA_step rfl (OA_callF (vs := [.agg #[.int .u64 ((rd l0 n8).f0), .string (((rd l0 n8).f1).f0), .int .u64 ((rd l0 n8).f2)], .int .u64 a1]) [0] [1] rfl rfl rfl rfl (hg2 (x0_ := rd l0 n8) (x1_ := a1) C14) rfl ?_)
      rintro _ _ ⟨_, ⟨rfl, rfl⟩, rfl⟩
      refine RA_step rfl (OA_v (v := .bool (decide (r11 < 0))) rfl (V_lss rfl rfl) ?_)
      refine RA_nil ?_
      refine at_normal ?_
      by_cases h12 : r11 < 0
      · replace H := g_ift h12 H
        refine SA_condT rfl h12 ?_
        refine SA_region ?_
        refine RA_step rfl (OA_v (v := .int .i64 n8) rfl (V_move rfl) ?_)
        refine RA_step rfl (OA_v (v := .int .i64 (IntKind.i64.wrap (n8 + 1))) rfl (V_add rfl rfl) ?_)
        obtain ⟨n13, hn13, H⟩ := g_lt H
        refine RA_step rfl (OA_v (v := .int .i64 n13) rfl (V_assign (v := .int .i64 n13) (congrArg (Value.int .i64) hn13.symm)) ?_)
        refine RA_nil ?_
        refine inb_normal ?_
        exact at_normal ⟨k5, Nat.lt_succ_self _, _, _, H, St.mk1 (aeq rfl (aeq rfl (aeq rfl (aeq rfl (aeq rfl (aeq rfl aeq0)))))) (Gh.sel [0, 1] rfl rfl)⟩
      replace H := g_iff h12 H
      refine SA_condF rfl h12 ?_
      refine SA_region ?_
      refine RA_step rfl (OA_v (v := .int .i64 n8) rfl (V_move rfl) ?_)
      refine RA_step rfl (OA_v (v := .int .i64 n8) rfl (V_assign rfl) ?_)
      refine RA_nil ?_
      refine inb_normal ?_
      exact at_normal ⟨k5, Nat.lt_succ_self _, _, _, H, St.mk1 (aeq rfl (aeq rfl (aeq rfl (aeq rfl (aeq rfl (aeq rfl aeq0)))))) (Gh.sel [0, 1] rfl rfl)⟩
    replace H := g_iff h7 H
    refine SA_condF rfl h7 ?_
    refine SA_exit ?_
    refine thn_exit ?_
    refine thn_exit ?_
    refine inb_hit ?_
    have hr_ := Option.some.inj H
    subst hr_
    exact at_normal (St.mk1 (aeq rfl (aeq rfl (aeq rfl (aeq rfl (aeq rfl aeq0))))) (Gh.sel [0, 1] rfl rfl))
  rintro e ds As hst15
  clear H
  have H := Bt4
  clear Bt4
  refine at_normal ?_
  refine SA.of_St hst15 fun junk => ?_
  refine SA_seq ?_
  refine SA_region ?_
  refine RA_step rfl (OA_v (v := .int .i64 t4) rfl (V_move rfl) ?_)
  refine RA_step rfl (OA_v (v := .int .i64 t4) rfl (V_move rfl) ?_)
  refine RA_step rfl (OA_v (v := .int .i64 n3) rfl (V_move rfl) ?_)
  refine RA_step rfl (OA_v (v := .bool (decide (t4 < n3))) rfl (V_lss rfl rfl) ?_)
  refine RA_step rfl (OA_v (v := .bool (decide (t4 < n3))) rfl (V_move rfl) ?_)
  obtain ⟨q16, H, Bq16⟩ := g_bind H
  refine RA_cut 9 (fun e ds As => St [(35, .int .i64 t4), (48, .bool q16)] [Fr2] e ds As) ?_ ?_
  · by_cases h17 : t4 < n3
    · replace H := g_ift h17 H
      refine RA_yesB rfl rfl rfl rfl (dec_t h17) (OA_v (v := fv2) rfl (V_move rfl) ?_)
      refine RA_yesB rfl rfl rfl rfl (dec_t h17) (OA_v (v := .slice A0 l0.length c0) rfl (V_move rfl) ?_)
      refine RA_yesB rfl rfl rfl rfl (dec_t h17) (OA_v (v := .int .i64 t4) rfl (V_move rfl) ?_)
      obtain ⟨⟨g18, g19⟩, H⟩ := g_pos H
      refine RA_yesB rfl rfl rfl rfl (dec_t h17) (OA_r rfl (VR_index (i := t4) Try.underlying129 sz128 rfl rfl (Src.ro (k := 1) rfl) g18 g19) ?_)
      refine RA_yesB rfl rfl rfl rfl (dec_t h17) (OA_r rfl (VR_loadA_el (enc := enc128) (i := t4) (j := t4.toNat * 3) (m := 0) (sz := 3) (vs := [.int .u64 ((rd l0 t4).f0), .string (((rd l0 t4).f1).f0), .int .u64 ((rd l0 t4).f2)]) Try.underlying128 rfl sz128 rfl rfl rfl (Src.ro (k := 1) rfl) g18 g19 (fun _ _ h => h) rfl) ?_)
      refine RA_yesB rfl rfl rfl rfl (dec_t h17) (OA_v (v := .int .u64 a1) rfl (V_move rfl) ?_)
      obtain ⟨r20, C21, H⟩ := g_bind H
      refine RA_yesB rfl rfl rfl rfl (dec_t h17) (OA_callF (vs := [.agg #[.int .u64 ((rd l0 t4).f0), .string (((rd l0 t4).f1).f0), .int .u64 ((rd l0 t4).f2)], .int .u64 a1]) [0] [1] rfl rfl rfl rfl (hg2 (x0_ := rd l0 t4) (x1_ := a1) C21) rfl ?_)
      rintro _ _ ⟨_, ⟨rfl, rfl⟩, rfl⟩
      refine RA_yesB rfl rfl rfl rfl (dec_t h17) (OA_v (v := .bool (decide (r20 = 0))) rfl (V_eql rfl rfl) ?_)
      refine RA_step rfl (OA_v rfl (V_pickT rfl (dec_t h17) rfl) ?_)
      have hr_ := Option.some.inj H
      subst hr_
      refine RA_nil ?_
      exact at_normal (St.mk1 (aeq rfl (aeq rfl aeq0)) (Gh.sel [0] rfl rfl))
    replace H := g_iff h17 H
    refine RA_noB rfl rfl rfl rfl (dec_f h17) rfl ?_
    refine RA_noB rfl rfl rfl rfl (dec_f h17) rfl ?_
    refine RA_noB rfl rfl rfl rfl (dec_f h17) rfl ?_
    refine RA_noB rfl rfl rfl rfl (dec_f h17) rfl ?_
    refine RA_noB rfl rfl rfl rfl (dec_f h17) rfl ?_
    refine RA_noB rfl rfl rfl rfl (dec_f h17) rfl ?_
    refine RA_noB rfl rfl rfl rfl (dec_f h17) rfl ?_
    refine RA_noB rfl rfl rfl rfl (dec_f h17) rfl ?_
    refine RA_step rfl (OA_v rfl (V_pickF rfl (dec_f h17) rfl) ?_)
    have hr_ := Option.some.inj H
    subst hr_
    refine RA_nil ?_
    exact at_normal (St.mk1 (aeq rfl (aeq rfl aeq0)) (Gh.sel [0] rfl rfl))
  rintro e ds As hst22
  clear H
  have H := Bq16
  clear Bq16
  refine RA.of_St rfl hst22 fun junk => ?_
  refine RA_step rfl (OA_v (v := .int .i64 t4) rfl (V_assign rfl) ?_)
  refine RA_step rfl (OA_v (v := .bool q16) rfl (V_assign rfl) ?_)
  refine RA_nil ?_
  refine at_normal ?_
  refine SA_ret ?_
  have hr_ := Option.some.inj H
  subst hr_
  exact BQ_R2 [Fr2] rfl rfl rfl (Gh.sel [0] rfl rfl) ⟨rfl, rfl⟩

/-! ### function 95: (*wayfarer/ssp.Receiver[wayfarer/wayfarerlaw23.text]).Take$1 -/
def F95.f (a0 : S128) (a1 : Int) : Option (Int) := if a0.f0 < a1 then (some ((-1))) else (if a0.f0 > a1 then (some (1)) else (some (0)))
set_option maxHeartbeats 2000000 in
set_option maxRecDepth 100000 in
theorem F95.ok {a0 : S128} {a1 : Int} {r : Int} (H : F95.f a0 a1 = some r) : SCA Try.prog 95 #[.agg #[.int .u64 a0.f0, .string a0.f1.f0, .int .u64 a0.f2], .int .u64 a1] [] (fun v B => v = .int .i64 r ∧ B = []) := by
  refine SCA_of_body Try.func95 rfl rfl ?_
  unfold F95.f at H
  refine SA_seq ?_
  refine SA_region ?_
  refine RA_step rfl (OA_box rfl rfl fun b1 => ?_)
  refine RA_step rfl (OA_v (v := .int .i64 0) rfl (V_assign rfl) ?_)
  refine RA_nil ?_
  refine at_normal ?_
  refine SA_seq ?_
  refine SA_block ?_
  refine SA_seq ?_
  refine SA_region ?_
  refine RA_step rfl (OA_v (v := .pointer (some ⟨b1, 0, none⟩)) rfl (V_fieldAddrN (B := ⟨b1, 0, none⟩) (m := 0) (o := 0) Try.underlying128 rfl nz44 rfl rfl) ?_)
  refine RA_step rfl (OA_r rfl (VR_load_blk (b := b1) (m := 0) (k := 0) Try.underlying44 rfl rfl rfl rfl) ?_)
  refine RA_step rfl (OA_v (v := .int .u64 a1) rfl (V_move rfl) ?_)
  refine RA_step rfl (OA_v (v := .bool (decide (a0.f0 < a1))) rfl (V_lss rfl rfl) ?_)
  refine RA_step rfl (OA_v (v := .bool (decide (a0.f0 < a1))) rfl (V_assign rfl) ?_)
  refine RA_nil ?_
  refine at_normal ?_
  by_cases h3 : a0.f0 < a1
  · replace H := g_ift h3 H
    refine SA_condT rfl h3 ?_
    refine SA_seq ?_
    refine SA_region ?_
    refine RA_step rfl (OA_v (v := .int .i64 (-1)) rfl (V_assign rfl) ?_)
    refine RA_nil ?_
    refine at_normal ?_
    refine SA_ret ?_
    refine inb_ret ?_
    refine thn_ret ?_
    have hr_ := Option.some.inj H
    subst hr_
    exact BQ_R1 [] rfl rfl (Gh.sel [] rfl rfl) ⟨rfl, rfl⟩
  replace H := g_iff h3 H
  refine SA_condF rfl h3 ?_
  refine SA_seq ?_
  refine SA_region ?_
  refine RA_step rfl (OA_v (v := .pointer (some ⟨b1, 0, none⟩)) rfl (V_fieldAddrN (B := ⟨b1, 0, none⟩) (m := 0) (o := 0) Try.underlying128 rfl nz44 rfl rfl) ?_)
  refine RA_step rfl (OA_r rfl (VR_load_blk (b := b1) (m := 0) (k := 0) Try.underlying44 rfl rfl rfl rfl) ?_)
  refine RA_step rfl (OA_v (v := .int .u64 a1) rfl (V_move rfl) ?_)
  refine RA_step rfl (OA_v (v := .bool (decide (a0.f0 > a1))) rfl (V_gtr rfl rfl) ?_)
  refine RA_step rfl (OA_v (v := .bool (decide (a0.f0 > a1))) rfl (V_assign rfl) ?_)
  refine RA_nil ?_
  refine at_normal ?_
  by_cases h4 : a0.f0 > a1
  · replace H := g_ift h4 H
    refine SA_condT rfl h4 ?_
    refine SA_seq ?_
    refine SA_region ?_
    refine RA_step rfl (OA_v (v := .int .i64 1) rfl (V_assign rfl) ?_)
    refine RA_nil ?_
    refine at_normal ?_
    refine SA_ret ?_
    refine inb_ret ?_
    refine thn_ret ?_
    have hr_ := Option.some.inj H
    subst hr_
    exact BQ_R1 [] rfl rfl (Gh.sel [] rfl rfl) ⟨rfl, rfl⟩
  replace H := g_iff h4 H
  refine SA_condF rfl h4 ?_
  refine SA_skip ?_
  refine inb_normal ?_
  refine at_normal ?_
  refine SA_seq ?_
  refine SA_region ?_
  refine RA_step rfl (OA_v (v := .int .i64 0) rfl (V_assign rfl) ?_)
  refine RA_nil ?_
  refine at_normal ?_
  refine SA_ret ?_
  have hr_ := Option.some.inj H
  subst hr_
  exact BQ_R1 [] rfl rfl (Gh.sel [] rfl rfl) ⟨rfl, rfl⟩

/-! ### function 96: slices.Insert[[]wayfarer/ssp.sent[wayfarer/wayfarerlaw23.text],wayfarer/ssp.sent[wayfarer/wayfarerlaw23.text]] -/
def F96m0b2.f (l0 : (List S128)) (a1 : Int) (l2 : (List S128)) : Option ((List S128)) := if 0 ≤ a1 ∧ a1 ≤ (l0.length : Int) ∧ (l0.length : Int) ≤ (l0.length : Int) then (lt ((l2.length : Int)) fun n11 => if n11 = 0 then (some (l0)) else (lt ((l0.length : Int)) fun n13 => if a1 = n13 then (if l0.length + l2.length ≤ 4398046511104 then lt (l0 ++ l2) fun n19 => (some (n19)) else none) else (if l0.length + l2.length ≤ 4398046511104 then some (l0.take a1.toNat ++ l2 ++ l0.drop a1.toNat) else none))) else none
set_option maxHeartbeats 2000000 in
set_option maxRecDepth 100000 in
theorem F96m0b2.ok {l0 : (List S128)} {a1 : Int} {l2 : (List S128)} {A0 : Option Addr} {c0 : Nat} {A2 : Option Addr} {c2 : Nat} {r : (List S128)} (H : F96m0b2.f l0 a1 l2 = some r) : SCA Try.prog 96 #[.slice A0 l0.length c0, .int .i64 a1, .slice A2 l2.length c2] [Buf k128 128 A0 c0 l0, Buf k128 128 A2 c2 l2] (fun v B => ∃ (A0_0_ : Option Addr) (c0_0_ : Nat), v = .slice A0_0_ r.length c0_0_ ∧ B = [Buf k128 128 A0_0_ c0_0_ r, Buf k128 128 A2 c2 l2]) := by
  refine SCA_of_body Try.func96 rfl rfl ?_
  unfold F96m0b2.f at H
  refine SA_seq ?_
  refine SA_region ?_
  refine RA_step rfl (OA_v (v := .slice none 0 0) rfl (V_assign rfl) ?_)
  refine RA_nil ?_
  refine at_normal ?_
  refine SA_seq ?_
  refine SA.fact (cap_of (k := 0) rfl) fun hc3 => ?_
  refine SA.fact (cap_of (k := 1) rfl) fun hc4 => ?_
  refine SA_region ?_
  refine RA_step rfl (OA_v (v := .slice A0 l0.length c0) rfl (V_move rfl) ?_)
  refine RA_step rfl (OA_v (v := .int .i64 a1) rfl (V_move rfl) ?_)
  obtain ⟨⟨g5, g6, g7⟩, H⟩ := g_pos H
  refine RA_step rfl (OA_v (v := .slice (slA A0 a1 ((c0 : Nat) : Int) 3) ((l0.length : Int) - a1).toNat (((c0 : Nat) : Int).toNat - a1.toNat)) rfl (V_sliceW (l := 0) (m := (l0.length : Int)) (a := a1) (b := (l0.length : Int)) (q := ((c0 : Nat) : Int)) (Win.whole (sz := 3) (xs := l0) (c := c0) (by omega)) Try.underlying129 sz128 rfl rfl rfl rfl (.inr ⟨_, rfl⟩) (.inl ⟨rfl, rfl, rfl⟩) (.inl ⟨rfl, rfl⟩) g5 g6 g7) ?_)
  have hW10 : Win A0 (slA A0 a1 ((c0 : Nat) : Int) 3) 3 (0 + a1) ((l0.length : Int) - a1) (((c0 : Nat) : Int).toNat - a1.toNat) := Win.sub (Win.whole (sz := 3) (xs := l0) (c := c0) (by omega)) g5 g6 g7 (.inl rfl)
  refine RA_nil ?_
  refine at_normal ?_
  refine SA_seq ?_
  refine SA_region ?_
  refine RA_step rfl (OA_v (v := .slice A2 l2.length c2) rfl (V_move rfl) ?_)
  refine RA_step rfl (OA_v (v := .int .i64 (l2.length : Int)) rfl (V_len Try.underlying129 rfl) ?_)
  obtain ⟨n11, hn11, H⟩ := g_lt H
  refine RA_step rfl (OA_v (v := .int .i64 n11) rfl (V_assign (v := .int .i64 n11) (congrArg (Value.int .i64) hn11.symm)) ?_)
  refine RA_nil ?_
  refine at_normal ?_
  refine SA_seq ?_
  refine SA_seq ?_
  refine SA_region ?_
  refine RA_step rfl (OA_v (v := .int .i64 n11) rfl (V_move rfl) ?_)
  refine RA_step rfl (OA_v (v := .bool (decide (n11 = 0))) rfl (V_eql rfl rfl) ?_)
  refine RA_nil ?_
  refine at_normal ?_
  by_cases h12 : n11 = 0
  · replace H := g_ift h12 H
    refine SA_condT rfl h12 ?_
    refine SA_seq ?_
    refine SA_region ?_
    refine RA_step rfl (OA_v (v := .slice A0 l0.length c0) rfl (V_move rfl) ?_)
    refine RA_step rfl (OA_v (v := .slice A0 l0.length c0) rfl (V_assign rfl) ?_)
    refine RA_nil ?_
    refine at_normal ?_
    refine SA_ret ?_
    refine thn_ret ?_
    have hr_ := Option.some.inj H
    subst hr_
    exact BQ_R1 [Buf k128 128 A0 c0 l0, Buf k128 128 A2 c2 l2] rfl rfl (Gh.sel [0, 1] rfl rfl) ⟨A0, c0, rfl, rfl⟩
  replace H := g_iff h12 H
  refine SA_condF rfl h12 ?_
  refine SA_skip ?_
  refine at_normal ?_
  refine SA_seq ?_
  refine SA_region ?_
  refine RA_step rfl (OA_v (v := .slice A0 l0.length c0) rfl (V_move rfl) ?_)
  refine RA_step rfl (OA_v (v := .int .i64 (l0.length : Int)) rfl (V_len Try.underlying129 rfl) ?_)
  obtain ⟨n13, hn13, H⟩ := g_lt H
  refine RA_step rfl (OA_v (v := .int .i64 n13) rfl (V_assign (v := .int .i64 n13) (congrArg (Value.int .i64) hn13.symm)) ?_)
  refine RA_nil ?_
  refine at_normal ?_
  refine SA_seq ?_
  refine SA_seq ?_
  refine SA_region ?_
  refine RA_step rfl (OA_v (v := .int .i64 a1) rfl (V_move rfl) ?_)
  refine RA_step rfl (OA_v (v := .int .i64 n13) rfl (V_move rfl) ?_)
  refine RA_step rfl (OA_v (v := .bool (decide (a1 = n13))) rfl (V_eql rfl rfl) ?_)
  refine RA_nil ?_
  refine at_normal ?_
  by_cases h14 : a1 = n13
  · replace H := g_ift h14 H
    refine SA_condT rfl h14 ?_
    refine SA_seq ?_
    refine SA_region ?_
    refine RA_step rfl (OA_v (v := .slice A0 l0.length c0) rfl (V_move rfl) ?_)
    refine RA_step rfl (OA_v (v := .slice A2 l2.length c2) rfl (V_move rfl) ?_)
    obtain ⟨g16, H⟩ := g_pos H
    obtain ⟨n19, hn19, H⟩ := g_lt H
    refine RA_step rfl (OA_app (k := 0) (A := A0) (c := c0) (xs := l0) (ys := l2) n19 hn19 rfl Try.underlying129 inf128 rfl rfl rfl rfl rfl (Yld.slice Try.underlying129 (Src.buf (k := 1) rfl)) (by omega) (by omega) fun A17 c18 => ?_)
    refine RA_step rfl (OA_v (v := .slice A17 n19.length c18) rfl (V_assign rfl) ?_)
    refine RA_nil ?_
    refine at_normal ?_
    refine SA_ret ?_
    refine thn_ret ?_
    have hr_ := Option.some.inj H
    subst hr_
    exact BQ_R1 [Buf k128 128 A17 c18 n19, Buf k128 128 A2 c2 l2] rfl rfl (Gh.sel [0, 1] rfl rfl) ⟨A17, c18, rfl, rfl⟩
  replace H := g_iff h14 H
  refine SA_condF rfl h14 ?_
  refine SA_skip ?_
  refine at_normal ?_
  refine SA_seq ?_
  refine SA_seq ?_
  refine SA_region ?_
  refine RA_step rfl (OA_v (v := .int .i64 n13) rfl (V_move rfl) ?_)
  refine RA_step rfl (OA_v (v := .int .i64 n11) rfl (V_move rfl) ?_)
  refine RA_step rfl (OA_v (v := .int .i64 (IntKind.i64.wrap (n13 + n11))) rfl (V_add rfl rfl) ?_)
  refine RA_step rfl (OA_v (v := .slice A0 l0.length c0) rfl (V_move rfl) ?_)
  refine RA_step rfl (OA_v (v := .int .i64 (c0 : Int)) rfl (V_cap Try.underlying129 rfl) ?_)
  refine RA_step rfl (OA_v (v := .bool (decide ((IntKind.i64.wrap (n13 + n11)) > (c0 : Int)))) rfl (V_gtr rfl rfl) ?_)
  refine RA_nil ?_
  refine at_normal ?_
  obtain ⟨g583, H⟩ := g_pos H
  by_cases h20 : (IntKind.i64.wrap (n13 + n11)) > (c0 : Int)
  · replace H := g_nil (x := if 0 ≤ (0 : Int) ∧ (0 : Int) ≤ a1 ∧ a1 ≤ (l0.length : Int) then (if 0 < (IntKind.i64.wrap ((IntKind.i64.wrap (n13 + n11)) - a1)) ∧ (sub l0 (0 + (0 : Int)) ((0 + (0 : Int)) + (a1 - (0 : Int)))).length + (IntKind.i64.wrap ((IntKind.i64.wrap (n13 + n11)) - a1)).toNat ≤ 4398046511104 then lt ((sub l0 (0 + (0 : Int)) ((0 + (0 : Int)) + (a1 - (0 : Int)))) ++ List.replicate (IntKind.i64.wrap ((IntKind.i64.wrap (n13 + n11)) - a1)).toNat (S128.mk 0 (S41.mk ByteArray.empty) 0)) fun n33 => (if 0 ≤ a1 ∧ a1 ≤ (n33.length : Int) ∧ (n33.length : Int) ≤ (n33.length : Int) then (lt (over n33 (0 + a1).toNat (l2.take ((n33.length : Int) - a1).toNat)) fun n41 => (if 0 ≤ (IntKind.i64.wrap (a1 + n11)) ∧ (IntKind.i64.wrap (a1 + n11)) ≤ (n41.length : Int) ∧ (n41.length : Int) ≤ (n41.length : Int) then (if 0 ≤ a1 ∧ a1 ≤ (l0.length : Int) ∧ (l0.length : Int) ≤ (l0.length : Int) then (lt (over n41 (0 + (IntKind.i64.wrap (a1 + n11))).toNat ((sub l0 (0 + a1) ((0 + a1) + ((l0.length : Int) - a1))).take ((n41.length : Int) - (IntKind.i64.wrap (a1 + n11))).toNat)) fun n522 => (some (n522))) else none) else none)) else none) else none) else none) H (ins_grow (z0 := (S128.mk 0 (S41.mk ByteArray.empty) 0)) (lim := 4398046511104) hn11 hn13 (by omega) (by omega) (by omega) (by omega) g583 (by omega))
    refine SA_condT rfl h20 ?_
    have hwG : IntKind.i64.wrap (n13 + n11) = n13 + n11 := by rw [IntKind.wrap_i64]; omega
    have hwG2 : IntKind.i64.wrap (IntKind.i64.wrap (n13 + n11) - a1) = n13 + n11 - a1 := by rw [hwG, IntKind.wrap_i64]; omega
    refine SA_seq ?_
    refine SA_region ?_
    refine RA_step rfl (OA_v (v := .slice A0 l0.length c0) rfl (V_move rfl) ?_)
    refine RA_step rfl (OA_v (v := .int .i64 a1) rfl (V_move rfl) ?_)
    obtain ⟨⟨g21, g22, g23⟩, H⟩ := g_pos H
    refine RA_step rfl (OA_v (v := .slice (slA A0 (0 : Int) ((c0 : Nat) : Int) 3) (a1 - (0 : Int)).toNat (((c0 : Nat) : Int).toNat - (0 : Int).toNat)) rfl (V_sliceW (l := 0) (m := (l0.length : Int)) (a := (0 : Int)) (b := a1) (q := ((c0 : Nat) : Int)) (Win.whole (sz := 3) (xs := l0) (c := c0) (by omega)) Try.underlying129 sz128 rfl rfl rfl rfl (.inl ⟨rfl, rfl⟩) (.inr ⟨_, rfl⟩) (.inl ⟨rfl, rfl⟩) g21 g22 g23) ?_)
    have hW26 : Win A0 (slA A0 (0 : Int) ((c0 : Nat) : Int) 3) 3 (0 + (0 : Int)) (a1 - (0 : Int)) (((c0 : Nat) : Int).toNat - (0 : Int).toNat) := Win.sub (Win.whole (sz := 3) (xs := l0) (c := c0) (by omega)) g21 g22 g23 (.inl rfl)
    refine RA_step rfl (OA_v (v := .int .i64 n13) rfl (V_move rfl) ?_)
    refine RA_step rfl (OA_v (v := .int .i64 n11) rfl (V_move rfl) ?_)
    refine RA_step rfl (OA_v (v := .int .i64 (IntKind.i64.wrap (n13 + n11))) rfl (V_add rfl rfl) ?_)
    refine RA_step rfl (OA_v (v := .int .i64 a1) rfl (V_move rfl) ?_)
    refine RA_step rfl (OA_v (v := .int .i64 (IntKind.i64.wrap ((IntKind.i64.wrap (n13 + n11)) - a1))) rfl (V_sub rfl rfl) ?_)
    obtain ⟨g28, H⟩ := g_pos H
    obtain ⟨n33, hn33, H⟩ := g_lt H
    have hq29 := win_len (xs := l0) hW26.lo hW26.no (by omega)
    have hy30 : (Value.int .i64 (IntKind.i64.wrap ((IntKind.i64.wrap (n13 + n11)) - a1))) = .int .i64 (((IntKind.i64.wrap ((IntKind.i64.wrap (n13 + n11)) - a1)).toNat : Nat) : Int) := by congr 1; omega
    refine RA_step rfl (OA.ghost (Gh.nilBuf k128 128) (OA_appZ (k := 2) (V := slA A0 (0 : Int) ((c0 : Nat) : Int) 3) (m := (a1 - (0 : Int)).toNat) (vc := (((c0 : Nat) : Int).toNat - (0 : Int).toNat)) (xs := sub l0 (0 + (0 : Int)) ((0 + (0 : Int)) + (a1 - (0 : Int)))) (cnt := (IntKind.i64.wrap ((IntKind.i64.wrap (n13 + n11)) - a1)).toNat) (z0 := (S128.mk 0 (S41.mk ByteArray.empty) 0)) n33 hn33 rfl Try.underlying129 Try.underlying3 inf128 rfl rfl (by decide) rfl rfl (Src.win (Src.buf (k := 0) rfl) hW26 rfl (by omega)) hq29.symm hy30 (fun _ => rfl) (by omega) (by rw [hq29]; omega) (by omega) (by omega) fun A31 c32 => ?_))
    refine RA_step rfl (OA_v (v := .slice A31 n33.length c32) rfl (V_assign rfl) ?_)
    refine RA_nil ?_
    refine at_normal ?_
    refine SA.of_St (l := [(0, .slice A0 l0.length c0), (1, .int .i64 a1), (2, .slice A2 l2.length c2), (7, .int .i64 n11), (9, .slice A31 n33.length c32)]) (B := [Buf k128 128 A2 c2 l2, Buf k128 128 A0 c0 l0, Buf k128 128 A31 c32 n33]) (St.mk1 (aeq rfl (aeq rfl (aeq rfl (aeq rfl (aeq rfl aeq0))))) (Gh.sel [1, 0, 2] (by kernel_rfl) (by kernel_rfl))) fun junk => ?_
    refine SA_seq ?_
    refine SA.fact (cap_of (k := 2) rfl) fun hc34 => ?_
    refine SA_region ?_
    refine RA_step rfl (OA_v (v := .slice A31 n33.length c32) rfl (V_move rfl) ?_)
    refine RA_step rfl (OA_v (v := .int .i64 a1) rfl (V_move rfl) ?_)
    obtain ⟨⟨g35, g36, g37⟩, H⟩ := g_pos H
    refine RA_step rfl (OA_v (v := .slice (slA A31 a1 ((c32 : Nat) : Int) 3) ((n33.length : Int) - a1).toNat (((c32 : Nat) : Int).toNat - a1.toNat)) rfl (V_sliceW (l := 0) (m := (n33.length : Int)) (a := a1) (b := (n33.length : Int)) (q := ((c32 : Nat) : Int)) (Win.whole (sz := 3) (xs := n33) (c := c32) (by omega)) Try.underlying129 sz128 rfl rfl rfl rfl (.inr ⟨_, rfl⟩) (.inl ⟨rfl, rfl, rfl⟩) (.inl ⟨rfl, rfl⟩) g35 g36 g37) ?_)
    have hW40 : Win A31 (slA A31 a1 ((c32 : Nat) : Int) 3) 3 (0 + a1) ((n33.length : Int) - a1) (((c32 : Nat) : Int).toNat - a1.toNat) := Win.sub (Win.whole (sz := 3) (xs := n33) (c := c32) (by omega)) g35 g36 g37 (.inl rfl)
    refine RA_step rfl (OA_v (v := .slice A2 l2.length c2) rfl (V_move rfl) ?_)
    obtain ⟨n41, hn41, H⟩ := g_lt H
    have hl_n41 : n41.length = n33.length := by rw [hn41]; exact over_len (by rw [List.length_take]; omega)
    refine RA_step rfl (OA_copyV (k := 2) (l := 0 + a1) (m := (n33.length : Int) - a1) (xs := n33) (ys := l2) n41 hn41 hW40 rfl Try.underlying129 sz128 rfl rfl rfl (by omega) rfl (Cpy.slice (Src.buf (k := 0) rfl)) ?_)
    try rewrite [← hl_n41]
    refine RA_nil ?_
    refine at_normal ?_
    refine SA_seq ?_
    refine SA_drawNq mixed (PanOk.thn (PanOk.thn PanOk.body)) fun I0 hh0 w0 pk => ?_
    refine DN_take (v := .slice A31 n41.length c32) 0 (by kernel_rfl) rfl rfl (.no rfl) pk rfl (V_move rfl) ?_
    refine DN_take (v := .int .i64 a1) 1 (by kernel_rfl) rfl rfl (.no rfl) pk rfl (V_move rfl) ?_
    refine DN_take (v := .int .i64 n11) 2 (by kernel_rfl) rfl rfl (.no rfl) pk rfl (V_move rfl) ?_
    refine DN_take (v := .int .i64 (IntKind.i64.wrap (a1 + n11))) 3 (by kernel_rfl) rfl rfl (.no rfl) pk rfl (V_add rfl rfl) ?_
    obtain ⟨⟨g282, g283, g284⟩, H⟩ := g_pos H
    refine DN_take (v := .slice (slA A31 (IntKind.i64.wrap (a1 + n11)) ((c32 : Nat) : Int) 3) ((n41.length : Int) - (IntKind.i64.wrap (a1 + n11))).toNat (((c32 : Nat) : Int).toNat - (IntKind.i64.wrap (a1 + n11)).toNat)) 4 (by kernel_rfl) rfl rfl (.no rfl) pk rfl (V_sliceW (l := 0) (m := (n41.length : Int)) (a := IntKind.i64.wrap (a1 + n11)) (b := (n41.length : Int)) (q := ((c32 : Nat) : Int)) (Win.whole (sz := 3) (xs := n41) (c := c32) (by omega)) Try.underlying129 sz128 rfl rfl rfl rfl (.inr ⟨_, rfl⟩) (.inl ⟨rfl, rfl, rfl⟩) (.inl ⟨rfl, rfl⟩) g282 g283 g284) ?_
    have hW287 : Win A31 (slA A31 (IntKind.i64.wrap (a1 + n11)) ((c32 : Nat) : Int) 3) 3 (0 + (IntKind.i64.wrap (a1 + n11))) ((n41.length : Int) - (IntKind.i64.wrap (a1 + n11))) (((c32 : Nat) : Int).toNat - (IntKind.i64.wrap (a1 + n11)).toNat) := Win.sub (Win.whole (sz := 3) (xs := n41) (c := c32) (by omega)) g282 g283 g284 (.inl rfl)
    refine DN_take (v := .slice A0 l0.length c0) 5 (by kernel_rfl) rfl rfl (.no rfl) pk rfl (V_move rfl) ?_
    refine DN_take (v := .int .i64 a1) 6 (by kernel_rfl) rfl rfl (.no rfl) pk rfl (V_move rfl) ?_
    obtain ⟨⟨g462, g463, g464⟩, H⟩ := g_pos H
    refine DN_take (v := .slice (slA A0 a1 ((c0 : Nat) : Int) 3) ((l0.length : Int) - a1).toNat (((c0 : Nat) : Int).toNat - a1.toNat)) 7 (by kernel_rfl) rfl rfl (.no rfl) pk rfl (V_sliceW (l := 0) (m := (l0.length : Int)) (a := a1) (b := (l0.length : Int)) (q := ((c0 : Nat) : Int)) (Win.whole (sz := 3) (xs := l0) (c := c0) (by omega)) Try.underlying129 sz128 rfl rfl rfl rfl (.inr ⟨_, rfl⟩) (.inl ⟨rfl, rfl, rfl⟩) (.inl ⟨rfl, rfl⟩) g462 g463 g464) ?_
    have hW467 : Win A0 (slA A0 a1 ((c0 : Nat) : Int) 3) 3 (0 + a1) ((l0.length : Int) - a1) (((c0 : Nat) : Int).toNat - a1.toNat) := Win.sub (Win.whole (sz := 3) (xs := l0) (c := c0) (by omega)) g462 g463 g464 (.inl rfl)
    obtain ⟨n522, hn522, H⟩ := g_lt H
    have hl_n522 : n522.length = n41.length := by rw [hn522]; exact over_len (by rw [List.length_take]; omega)
    refine DN_one 8 (by kernel_rfl) rfl rfl (.no rfl) (OA_copyV (k := 2) (l := 0 + (IntKind.i64.wrap (a1 + n11))) (m := (n41.length : Int) - (IntKind.i64.wrap (a1 + n11))) (xs := n41) (ys := sub l0 (0 + a1) ((0 + a1) + ((l0.length : Int) - a1))) n522 hn522 hW287 rfl Try.underlying129 sz128 rfl rfl rfl (by omega) rfl (Cpy.win (Src.buf (k := 1) rfl) hW467 rfl (by omega)) ?_)
    try rewrite [← hl_n522]
    refine DN_done (by kernel_rfl) ?_
    refine at_normal ?_
    refine SA_seq ?_
    refine SA_region ?_
    refine RA_step rfl (OA_v (v := .slice A31 n522.length c32) rfl (V_move rfl) ?_)
    refine RA_step rfl (OA_v (v := .slice A31 n522.length c32) rfl (V_assign rfl) ?_)
    refine RA_nil ?_
    refine at_normal ?_
    refine SA_ret ?_
    refine thn_ret ?_
    have hr_ := Option.some.inj H
    subst hr_
    exact BQ_R1 [Buf k128 128 A31 c32 n522, Buf k128 128 A2 c2 l2] rfl rfl (Gh.sel [2, 0] rfl rfl) ⟨A31, c32, rfl, rfl⟩
  subst hn11
  subst hn13
  obtain ⟨i_, rfl⟩ : ∃ i_ : Nat, a1 = (i_ : Int) := ⟨a1.toNat, by omega⟩
  have hwN : IntKind.i64.wrap ((l0.length : Int) + (l2.length : Int)) = ((l0.length + l2.length : Nat) : Int) := by rw [IntKind.wrap_i64]; omega
  have hwI : IntKind.i64.wrap ((i_ : Int) + (l2.length : Int)) = ((i_ + l2.length : Nat) : Int) := by rw [IntKind.wrap_i64]; omega
  have hroom : l0.length + l2.length ≤ c0 := by rw [hwN] at h20; omega
  refine SA_open (k := 0) rfl rfl (.inr (by omega)) fun b0_ cs0_ hA0_ hlc0_ hcl0_ => ?_
  subst hA0_
  have hcl0_ : cs0_.length = c0 * 3 := hcl0_
  refine SA_open (k := 1) rfl rfl (.inr (by omega)) fun b1_ cs1_ hA1_ hlc1_ hcl1_ => ?_
  subst hA1_
  have hcl1_ : cs1_.length = c2 * 3 := hcl1_
  refine SA_condF rfl h20 ?_
  refine SA_skip ?_
  refine at_normal ?_
  refine SA_seq ?_
  refine SA_region ?_
  refine RA_step rfl (OA_v (v := .slice (some ⟨b0_, 0 * 3, none⟩) l0.length c0) rfl (V_move rfl) ?_)
  refine RA_step rfl (OA_v (v := .int .i64 (l0.length : Int)) rfl (V_move rfl) ?_)
  refine RA_step rfl (OA_v (v := .int .i64 (l2.length : Int)) rfl (V_move rfl) ?_)
  refine RA_step rfl (OA_v (v := .int .i64 (IntKind.i64.wrap ((l0.length : Int) + (l2.length : Int)))) rfl (V_add rfl rfl) ?_)
  refine RA_step rfl (OA_v (v := .slice (some ⟨b0_, 0 * 3, none⟩) ((l0.length + l2.length) - 0) (c0 - 0)) rfl (V_sliceRaw (o2 := 0) (a := 0) (h := l0.length + l2.length) Try.underlying129 sz128 rfl rfl rfl (.inl ⟨rfl, rfl⟩) (.inr ⟨.i64, congrArg (fun z_ => some (Value.int .i64 z_)) hwN⟩) (by omega) (by omega) (by omega) (by omega)) ?_)
  refine RA_step rfl (OA_v (v := .slice (some ⟨b0_, 0 * 3, none⟩) ((l0.length + l2.length) - 0) (c0 - 0)) rfl (V_assign rfl) ?_)
  refine RA_nil ?_
  refine at_normal ?_
  refine SA_seq ?_
  refine SA_seq ?_
  refine SA_region ?_
  refine RA_step rfl (OA_v (v := .slice (some ⟨b1_, 0 * 3, none⟩) l2.length c2) rfl (V_move rfl) ?_)
  refine RA_step rfl (OA_v (v := .slice (some ⟨b0_, 0 * 3, none⟩) ((l0.length + l2.length) - 0) (c0 - 0)) rfl (V_move rfl) ?_)
  refine RA_step rfl (OA_v (v := .int .i64 (i_ : Int)) rfl (V_move rfl) ?_)
  refine RA_step rfl (OA_v (v := .int .i64 (l2.length : Int)) rfl (V_move rfl) ?_)
  refine RA_step rfl (OA_v (v := .int .i64 (IntKind.i64.wrap ((i_ : Int) + (l2.length : Int)))) rfl (V_add rfl rfl) ?_)
  refine RA_step rfl (OA_v (v := .slice (some ⟨b0_, (i_ + l2.length) * 3, none⟩) (((l0.length + l2.length) - 0) - (i_ + l2.length)) ((c0 - 0) - (i_ + l2.length))) rfl (V_sliceRaw (o2 := i_ + l2.length) (a := i_ + l2.length) (h := (l0.length + l2.length) - 0) Try.underlying129 sz128 rfl rfl rfl (.inr ⟨.i64, congrArg (fun z_ => some (Value.int .i64 z_)) hwI⟩) (.inl ⟨rfl, rfl⟩) (by omega) (by omega) (by omega) (by omega)) ?_)
  refine RA_step rfl (OA_r rfl (VR_overlaps (k := 1) (k' := 0) (tb := 4) rfl rfl (by decide) (by intro q_; rw [q_] at hcl0_; simp only [List.length_nil] at hcl0_; omega) Try.func114 nm114 (by kernel_rfl) (by kernel_rfl) (by kernel_rfl) Try.underlying129 sz128 rfl rfl) ?_)
  refine RA_step rfl (OA_v (v := .bool true) rfl (V_notF rfl) ?_)
  refine RA_nil ?_
  refine at_normal ?_
  refine SA_condTb rfl rfl ?_
  refine SA_seq ?_
  refine SA_drawNq mixed (PanOk.thn (PanOk.thn PanOk.body)) fun I0 hh0 w0 pk => ?_
  refine DN_take (v := .slice (some ⟨b0_, 0 * 3, none⟩) ((l0.length + l2.length) - 0) (c0 - 0)) 0 (by kernel_rfl) rfl rfl (.no rfl) pk rfl (V_move rfl) ?_
  refine DN_take (v := .int .i64 (i_ : Int)) 1 (by kernel_rfl) rfl rfl (.no rfl) pk rfl (V_move rfl) ?_
  refine DN_take (v := .int .i64 (l2.length : Int)) 2 (by kernel_rfl) rfl rfl (.no rfl) pk rfl (V_move rfl) ?_
  refine DN_take (v := .int .i64 (IntKind.i64.wrap ((i_ : Int) + (l2.length : Int)))) 3 (by kernel_rfl) rfl rfl (.no rfl) pk rfl (V_add rfl rfl) ?_
  refine DN_take (v := .slice (some ⟨b0_, (i_ + l2.length) * 3, none⟩) (((l0.length + l2.length) - 0) - (i_ + l2.length)) ((c0 - 0) - (i_ + l2.length))) 4 (by kernel_rfl) rfl rfl (.no rfl) pk rfl (V_sliceRaw (o2 := i_ + l2.length) (a := i_ + l2.length) (h := (l0.length + l2.length) - 0) Try.underlying129 sz128 rfl rfl rfl (.inr ⟨.i64, congrArg (fun z_ => some (Value.int .i64 z_)) hwI⟩) (.inl ⟨rfl, rfl⟩) (by omega) (by omega) (by omega) (by omega)) ?_
  refine DN_take (v := .slice (some ⟨b0_, 0 * 3, none⟩) ((l0.length + l2.length) - 0) (c0 - 0)) 5 (by kernel_rfl) rfl rfl (.no rfl) pk rfl (V_move rfl) ?_
  refine DN_take (v := .int .i64 (i_ : Int)) 6 (by kernel_rfl) rfl rfl (.no rfl) pk rfl (V_move rfl) ?_
  refine DN_take (v := .slice (some ⟨b0_, i_ * 3, none⟩) (((l0.length + l2.length) - 0) - i_) ((c0 - 0) - i_)) 7 (by kernel_rfl) rfl rfl (.no rfl) pk rfl (V_sliceRaw (o2 := i_) (a := i_) (h := (l0.length + l2.length) - 0) Try.underlying129 sz128 rfl rfl rfl (.inr ⟨.i64, rfl⟩) (.inl ⟨rfl, rfl⟩) (by omega) (by omega) (by omega) (by omega)) ?_
  refine DN_one 8 (by kernel_rfl) rfl rfl (.no rfl) (OA_copyRaw (k := 0) (kS := 0) (off := i_ + l2.length) (so := i_) (cnt := l0.length - i_) (es := (cs0_.drop (i_ * 3)).take ((l0.length - i_) * 3)) rfl Try.underlying129 sz128 rfl rfl rfl (by omega) (by omega) rfl rfl rfl (by omega) (fun I_ h_ s_ => one_sub (RLa_at (j := 2) rfl s_) (by show _ ≤ l0.length * 3; omega)) ?_)
  refine DN_done (by kernel_rfl) ?_
  refine at_normal ?_
  refine SA_seq ?_
  refine SA_region ?_
  refine RA_step rfl (OA_v (v := .slice (some ⟨b0_, 0 * 3, none⟩) ((l0.length + l2.length) - 0) (c0 - 0)) rfl (V_move rfl) ?_)
  refine RA_step rfl (OA_v (v := .int .i64 (i_ : Int)) rfl (V_move rfl) ?_)
  refine RA_step rfl (OA_v (v := .slice (some ⟨b0_, i_ * 3, none⟩) (((l0.length + l2.length) - 0) - i_) ((c0 - 0) - i_)) rfl (V_sliceRaw (o2 := i_) (a := i_) (h := (l0.length + l2.length) - 0) Try.underlying129 sz128 rfl rfl rfl (.inr ⟨.i64, rfl⟩) (.inl ⟨rfl, rfl⟩) (by omega) (by omega) (by omega) (by omega)) ?_)
  refine RA_step rfl (OA_v (v := .slice (some ⟨b1_, 0 * 3, none⟩) l2.length c2) rfl (V_move rfl) ?_)
  refine RA_step rfl (OA_copyRaw (k := 0) (kS := 1) (off := i_) (so := 0) (cnt := l2.length) (es := (cs1_.drop (0 * 3)).take (l2.length * 3)) rfl Try.underlying129 sz128 rfl rfl rfl (by omega) (by omega) rfl rfl rfl (by omega) (fun I_ h_ s_ => one_sub (RLa_at (j := 3) rfl s_) (by show _ ≤ l2.length * 3; omega)) ?_)
  refine RA_nil ?_
  refine at_normal ?_
  refine SA_seq ?_
  refine SA_region ?_
  refine RA_step rfl (OA_v (v := .slice (some ⟨b0_, 0 * 3, none⟩) ((l0.length + l2.length) - 0) (c0 - 0)) rfl (V_move rfl) ?_)
  refine RA_step rfl (OA_v (v := .slice (some ⟨b0_, 0 * 3, none⟩) ((l0.length + l2.length) - 0) (c0 - 0)) rfl (V_assign rfl) ?_)
  refine RA_nil ?_
  refine at_normal ?_
  refine SA_ret ?_
  refine thn_ret ?_
  have hr_ := Option.some.inj H
  subst hr_
  have hln_ : (l0.take (i_ : Int).toNat ++ l2 ++ l0.drop (i_ : Int).toNat).length = l0.length + l2.length := by simp; omega
  exact BQ_R1 [Buf k128 128 (some ⟨b0_, 0, none⟩) c0 (l0.take (i_ : Int).toNat ++ l2 ++ l0.drop (i_ : Int).toNat), Buf k128 128 (some ⟨b1_, 0, none⟩) c2 l2] rfl rfl ((Gh_close (k := 0) (zs := l0.take (i_ : Int).toNat ++ l2 ++ l0.drop (i_ : Int).toNat) rfl (by rw [hln_]; omega) (fun I_ h_ s_ => ins_cells (i := i_) rfl (RLa_at (j := 2) rfl s_) (RLa_at (j := 3) rfl s_) (by omega) (by omega) hcl0_ (by show l2.length * 3 ≤ _; omega))).trans ((Gh_close (k := 1) (zs := l2) rfl hlc1_ (fun I_ h_ s_ => RLa_at (j := 3) rfl s_)).trans (Gh.sel [0, 1] rfl rfl))) ⟨some ⟨b0_, 0, none⟩, c0, (by rw [hln_]; rfl), rfl⟩

/-! ### function 52: (*wayfarer/ssp.Receiver[wayfarer/wayfarerlaw23.text]).Take -/
def F52b0.f (k : Nat) (p0 : S162) (a1 : S54) : Option (Bool × Int × S162) := (F92b0.f p0).bind (fun r7 => if (!r7) = true then (some ((false, 1, p0))) else ((F61b0.f k p0.f0 a1.f1).bind (fun r369 => if r369 ≥ 0 then ((F93.f k p0.f0 a1.f3).bind (fun r911 => some ((false, 0, (S162.mk r911))))) else ((F61b0.f k p0.f0 a1.f0).bind (fun r1512 => lt ((decide (r1512 < 0)) || (decide (a1.f1 < a1.f0))) fun q1633 => if q1633 = true then (some ((false, 230, p0))) else ((F93.f k p0.f0 a1.f3).bind (fun r1997 => if (r1997.length : Int) ≥ 32 then (some ((false, 231, p0))) else ((if 0 ≤ r1512 ∧ r1512 < (p0.f0.length : Int) then ((F64.f a1.f4).bind (fun r2842 => (F142b1.f ((rd p0.f0 r1512).f1) r2842).bind (fun r2902 => some (r2902.2, r2902.1)))) else none : Option (Int × S41)).bind (fun t2179 => if t2179.1 ≠ 0 then (some ((false, t2179.1, p0))) else ((F94.f k p0.f0 a1.f1 (fun (x0_ : S128) (x1_ : Int) => F95.f x0_ x1_)).bind (fun r3685 => (F62.f p0.f0).bind (fun r4286 => (F143.f t2179.2).bind (fun r4646 => (F96m0b2.f r4286 r3685.1 ([(S128.mk a1.f1 r4646 0)] : (List S128))).bind (fun r4826 => (F93.f k r4826 a1.f3).bind (fun r4947 => some ((decide (r3685.1 = (p0.f0.length : Int)), 0, (S162.mk r4947))))))))))))))))))
set_option maxHeartbeats 2000000 in
set_option maxRecDepth 100000 in
theorem F52b0.ok {k : Nat} {p0 : S162} {a1 : S54} {b0_ : Nat} {A0_0 : Option Addr} {c0_0 : Nat} {A1_0 : Option Addr} {c1_0 : Nat} {r : Bool × Int × S162} (H : F52b0.f k p0 a1 = some r) : SCA Try.prog 52 #[.pointer (some ⟨b0_, 0, none⟩), .agg #[.int .u64 a1.f0, .int .u64 a1.f1, .int .u64 a1.f2, .int .u64 a1.f3, .slice A1_0 a1.f4.length c1_0]] [Blk b0_ 162 [.slice A0_0 p0.f0.length c0_0], Buf k128 128 A0_0 c0_0 p0.f0, Ro (Kd.int .u8) A1_0 c1_0 a1.f4] (fun v B => ∃ (P0_0_ : Option Addr) (q0_0_ : Nat), v = .tuple #[.bool r.1, .int .i64 r.2.1] ∧ B = [Blk b0_ 162 [.slice P0_0_ r.2.2.f0.length q0_0_], Ro k128 P0_0_ q0_0_ r.2.2.f0]) := by
  refine SCA_of_body Try.func52 rfl rfl ?_
  unfold F52b0.f at H
  refine SA_seq ?_
  refine SA_region ?_
  refine RA_step rfl (OA_box rfl rfl fun b4 => ?_)
  refine RA_step rfl (OA_v (v := .bool false) rfl (V_assign rfl) ?_)
  refine RA_step rfl (OA_v (v := .int .i64 0) rfl (V_assign rfl) ?_)
  refine RA_nil ?_
  refine at_normal ?_
  refine SA_seq ?_
  refine SA_seq ?_
  refine SA.fact (cap_of (k := 1) rfl) fun hc6 => ?_
  refine SA_region ?_
  refine RA_step rfl (OA_v (v := .pointer (some ⟨b0_, 0, none⟩)) rfl (V_move rfl) ?_)
  obtain ⟨r7, C4952, H⟩ := g_bind H
  refine RA_step rfl (OA_callA [0, 1] [2, 3] rfl (X_fn (vs := [.pointer (some ⟨b0_, 0, none⟩)]) Try.func92 nm92 rfl rfl) rfl (F92b0.ok (b0_ := b0_) (A0_0 := A0_0) (c0_0 := c0_0) (p0 := p0) C4952) rfl ?_)
  rintro _ _ ⟨rfl, rfl⟩
  refine RA_step rfl (OA_v (v := .bool (!r7)) rfl (V_not rfl) ?_)
  refine RA_nil ?_
  refine at_normal ?_
  by_cases h8 : (!r7) = true
  · replace H := g_ift h8 H
    refine SA_condTb rfl h8 ?_
    refine SA_seq ?_
    refine SA_region ?_
    refine RA_step rfl (OA_v (v := .bool false) rfl (V_assign rfl) ?_)
    refine RA_step rfl (OA_v (v := .int .i64 1) rfl (V_assign rfl) ?_)
    refine RA_nil ?_
    refine at_normal ?_
    refine SA_ret ?_
    refine thn_ret ?_
    have hr_ := Option.some.inj H
    subst hr_
    exact BQ_R2 [Blk b0_ 162 [.slice A0_0 p0.f0.length c0_0], Ro k128 A0_0 c0_0 p0.f0] rfl rfl rfl ((Gh.freeze (k := 1) rfl).trans (Gh.sel [0, 1] rfl rfl)) ⟨A0_0, c0_0, rfl, rfl⟩
  replace H := g_iff h8 H
  refine SA_condFb rfl h8 ?_
  refine SA_skip ?_
  refine at_normal ?_
  refine SA_seq ?_
  refine SA_seq ?_
  refine SA_drawHq [0, 1, 2, 3, 4, 5, 7] #[[], [0], [0, 1], [0, 1, 2], [], [4], [0, 1, 2, 3, 4, 5], [0, 1, 2, 3, 4, 5]] [0, 2, 3] [1, 2] mixed rfl rfl rfl (PanOk.thn (PanOk.thn PanOk.body)) fun I0 hS h0 hh0 w0 sH dd pk => ?_
  refine DH_take (v := .pointer (some ⟨b0_, 0, none⟩)) 0 (by kernel_rfl) rfl rfl (.no rfl) pk sH rfl (VR.ofV (V_move rfl)) ?_
  refine DH_take (v := .pointer (some ⟨b0_, 0, none⟩)) 1 (by kernel_rfl) rfl rfl (.no rfl) pk sH rfl (VR.ofV (V_nilCheck rfl)) ?_
  refine DH_take (v := .pointer (some ⟨b0_, 0, none⟩)) 2 (by kernel_rfl) rfl rfl (.no rfl) pk sH rfl (VR.ofV (V_fieldAddrN (B := ⟨b0_, 0, none⟩) (m := 0) (o := 0) Try.underlying162 rfl nz129 rfl rfl)) ?_
  refine DH_take 3 (by kernel_rfl) rfl rfl (.no rfl) pk sH rfl (VR_load_blk (b := b0_) (m := 0) (k := 0) Try.underlying129 rfl rfl rfl rfl) ?_
  refine DH_take (v := .pointer (some ((⟨b4, 0, none⟩ : Addr).add 1))) 4 (by kernel_rfl) rfl rfl (.no rfl) pk sH rfl (VR.ofV (V_fieldAddrN (B := ⟨b4, 0, none⟩) (m := 0) (o := 1) Try.underlying54 rfl nz44 rfl rfl)) ?_
  refine DH_take 5 (by kernel_rfl) rfl rfl (.no rfl) pk sH rfl (VR_load_blk (b := b4) (m := 1) (k := 2) Try.underlying44 rfl rfl rfl rfl) ?_
  obtain ⟨r369, C370, H⟩ := g_bind H
  refine DH_one 6 dd (by kernel_rfl) rfl (.no rfl) (OA_callA [0] [1] rfl (X_fn (vs := [.slice A0_0 p0.f0.length c0_0, .int .u64 a1.f1]) Try.func61 nm61 rfl rfl) rfl (F61b0.ok (l0 := p0.f0) (A0 := A0_0) (c0 := c0_0) (a1 := a1.f1) C370) rfl ?_)
  rintro _ _ ⟨rfl, rfl⟩
  refine DH_take (v := .bool (decide (r369 ≥ 0))) 7 (by kernel_rfl) rfl rfl (.no rfl) pk sH rfl (VR.ofV (V_geq rfl rfl)) ?_
  refine DH_open dd sH ?_
  refine DN_done (by kernel_rfl) ?_
  refine at_normal ?_
  by_cases h490 : r369 ≥ 0
  · replace H := g_ift h490 H
    refine SA_condT rfl h490 ?_
    refine SA_seq ?_
    refine SA_drawHq [0, 1, 2, 3, 4, 5, 6, 8, 9] #[[], [], [1], [1, 2], [1, 2, 3], [], [5], [1, 2, 3, 4, 5, 6], [0, 1, 2, 3, 4, 5, 6], [0, 1, 2, 3, 4, 5, 6, 8], [0, 1, 2, 3, 4, 5, 6, 8, 9]] [0, 1, 2, 1] [1, 3, 1] mixed rfl rfl rfl (PanOk.thn (PanOk.thn PanOk.body)) fun I0 hS h0 hh0 w0 sH dd pk => ?_
    refine DH_take (v := .pointer (some ⟨b0_, 0, none⟩)) 0 (by kernel_rfl) rfl rfl (.no rfl) pk sH rfl (VR.ofV (V_move rfl)) ?_
    refine DH_take (v := .pointer (some ⟨b0_, 0, none⟩)) 1 (by kernel_rfl) rfl rfl (.no rfl) pk sH rfl (VR.ofV (V_move rfl)) ?_
    refine DH_take (v := .pointer (some ⟨b0_, 0, none⟩)) 2 (by kernel_rfl) rfl rfl (.no rfl) pk sH rfl (VR.ofV (V_nilCheck rfl)) ?_
    refine DH_take (v := .pointer (some ⟨b0_, 0, none⟩)) 3 (by kernel_rfl) rfl rfl (.no rfl) pk sH rfl (VR.ofV (V_fieldAddrN (B := ⟨b0_, 0, none⟩) (m := 0) (o := 0) Try.underlying162 rfl nz129 rfl rfl)) ?_
    refine DH_take 4 (by kernel_rfl) rfl rfl (.no rfl) pk sH rfl (VR_load_blk (b := b0_) (m := 0) (k := 0) Try.underlying129 rfl rfl rfl rfl) ?_
    refine DH_take (v := .pointer (some ((⟨b4, 0, none⟩ : Addr).add 3))) 5 (by kernel_rfl) rfl rfl (.no rfl) pk sH rfl (VR.ofV (V_fieldAddrN (B := ⟨b4, 0, none⟩) (m := 0) (o := 3) Try.underlying54 rfl nz44 rfl rfl)) ?_
    refine DH_take 6 (by kernel_rfl) rfl rfl (.no rfl) pk sH rfl (VR_load_blk (b := b4) (m := 3) (k := 2) Try.underlying44 rfl rfl rfl rfl) ?_
    obtain ⟨r911, C915, H⟩ := g_bind H
    refine DH_one 7 dd (by kernel_rfl) rfl (.no rfl) (OA.ghost (Gh.freeze (k := 1) rfl) (OA_callA [1] [0, 1, 2] rfl (X_fn (vs := [.slice A0_0 p0.f0.length c0_0, .int .u64 a1.f3]) Try.func93 nm93 rfl rfl) rfl (F93.ok (l0 := p0.f0) (A0 := A0_0) (c0 := c0_0) (a1 := a1.f3) C915) rfl ?_))
    rintro _ _ ⟨A912, c913, rfl, rfl⟩
    refine DH_take (v := .pointer (some ⟨b0_, 0, none⟩)) 8 (by kernel_rfl) rfl rfl (.no rfl) pk sH rfl (VR.ofV (V_nilCheck rfl)) ?_
    refine DH_take (v := .pointer (some ⟨b0_, 0, none⟩)) 9 (by kernel_rfl) rfl rfl (.no rfl) pk sH rfl (VR.ofV (V_fieldAddrN (B := ⟨b0_, 0, none⟩) (m := 0) (o := 0) Try.underlying162 rfl nz129 rfl rfl)) ?_
    refine DH_open dd sH ?_
    refine DN_one 10 (by kernel_rfl) rfl rfl (.no rfl) (OA_st (b := b0_) (m := 0) (k := 0) (vs := [.slice A912 r911.length c913]) (cs' := [.slice A912 r911.length c913]) rfl rfl rfl rfl rfl rfl sz129 rfl rfl ?_)
    refine DN_done (by kernel_rfl) ?_
    refine at_normal ?_
    refine SA.of_St (l := []) (B := [Blk b0_ 162 [.slice A912 r911.length c913], Buf k128 128 A912 c913 r911]) (St.mk1 aeq0 (Gh.sel [0, 4] (by kernel_rfl) (by kernel_rfl))) fun junk => ?_
    refine SA_seq ?_
    refine SA_region ?_
    refine RA_step rfl (OA_v (v := .bool false) rfl (V_assign rfl) ?_)
    refine RA_step rfl (OA_v (v := .int .i64 0) rfl (V_assign rfl) ?_)
    refine RA_nil ?_
    refine at_normal ?_
    refine SA_ret ?_
    refine thn_ret ?_
    have hr_ := Option.some.inj H
    subst hr_
    exact BQ_R2 [Blk b0_ 162 [.slice A912 r911.length c913], Ro k128 A912 c913 r911] rfl rfl rfl ((Gh.freeze (k := 1) rfl).trans (Gh.sel [0, 1] rfl rfl)) ⟨A912, c913, rfl, rfl⟩
  replace H := g_iff h490 H
  refine SA_condF rfl h490 ?_
  refine SA_skip ?_
  refine at_normal ?_
  refine SA_seq ?_
  refine SA_drawHq [0, 1, 2, 3, 4, 5, 7] #[[], [0], [0, 1], [0, 1, 2], [], [4], [0, 1, 2, 3, 4, 5], [0, 1, 2, 3, 4, 5]] [0, 1, 2, 1] [1, 3, 1] mixed rfl rfl rfl (PanOk.thn PanOk.body) fun I0 hS h0 hh0 w0 sH dd pk => ?_
  refine DH_take (v := .pointer (some ⟨b0_, 0, none⟩)) 0 (by kernel_rfl) rfl rfl (.no rfl) pk sH rfl (VR.ofV (V_move rfl)) ?_
  refine DH_take (v := .pointer (some ⟨b0_, 0, none⟩)) 1 (by kernel_rfl) rfl rfl (.no rfl) pk sH rfl (VR.ofV (V_nilCheck rfl)) ?_
  refine DH_take (v := .pointer (some ⟨b0_, 0, none⟩)) 2 (by kernel_rfl) rfl rfl (.no rfl) pk sH rfl (VR.ofV (V_fieldAddrN (B := ⟨b0_, 0, none⟩) (m := 0) (o := 0) Try.underlying162 rfl nz129 rfl rfl)) ?_
  refine DH_take 3 (by kernel_rfl) rfl rfl (.no rfl) pk sH rfl (VR_load_blk (b := b0_) (m := 0) (k := 0) Try.underlying129 rfl rfl rfl rfl) ?_
  refine DH_take (v := .pointer (some ⟨b4, 0, none⟩)) 4 (by kernel_rfl) rfl rfl (.no rfl) pk sH rfl (VR.ofV (V_fieldAddrN (B := ⟨b4, 0, none⟩) (m := 0) (o := 0) Try.underlying54 rfl nz44 rfl rfl)) ?_
  refine DH_take 5 (by kernel_rfl) rfl rfl (.no rfl) pk sH rfl (VR_load_blk (b := b4) (m := 0) (k := 2) Try.underlying44 rfl rfl rfl rfl) ?_
  obtain ⟨r1512, C1513, H⟩ := g_bind H
  refine DH_one 6 dd (by kernel_rfl) rfl (.no rfl) (OA_callA [1] [0, 2] rfl (X_fn (vs := [.slice A0_0 p0.f0.length c0_0, .int .u64 a1.f0]) Try.func61 nm61 rfl rfl) rfl (F61b0.ok (l0 := p0.f0) (A0 := A0_0) (c0 := c0_0) (a1 := a1.f0) C1513) rfl ?_)
  rintro _ _ ⟨rfl, rfl⟩
  refine DH_take (v := .int .i64 r1512) 7 (by kernel_rfl) rfl rfl (.no rfl) pk sH rfl (VR.ofV (V_assign rfl)) ?_
  refine DH_open dd sH ?_
  refine DN_done (by kernel_rfl) ?_
  refine at_normal ?_
  refine SA_seq ?_
  refine SA_seq ?_
  refine SA_region ?_
  refine RA_step rfl (OA_v (v := .int .i64 r1512) rfl (V_move rfl) ?_)
  refine RA_step rfl (OA_v (v := .bool (decide (r1512 < 0))) rfl (V_lss rfl rfl) ?_)
  refine RA_step rfl (OA_v (v := .bool (decide (r1512 < 0))) rfl (V_move rfl) ?_)
  obtain ⟨q1633, hq1633, H⟩ := g_lt H
  refine RA_cut 6 (fun e ds As => St [(0, .pointer (some ⟨b0_, 0, none⟩)), (3, .pointer (some ⟨b4, 0, none⟩)), (6, .int .i64 r1512), (47, .bool q1633)] [Blk b0_ 162 [.slice A0_0 p0.f0.length c0_0], Buf k128 128 A0_0 c0_0 p0.f0, Blk b4 54 [.int .u64 a1.f0, .int .u64 a1.f1, .int .u64 a1.f2, .int .u64 a1.f3, .slice A1_0 a1.f4.length c1_0], Ro (Kd.int .u8) A1_0 c1_0 a1.f4] e ds As) ?_ ?_
  · by_cases h1634 : r1512 < 0
    · refine RA_noB rfl rfl rfl rfl (dec_t h1634) rfl ?_
      refine RA_noB rfl rfl rfl rfl (dec_t h1634) rfl ?_
      refine RA_noB rfl rfl rfl rfl (dec_t h1634) rfl ?_
      refine RA_noB rfl rfl rfl rfl (dec_t h1634) rfl ?_
      refine RA_noB rfl rfl rfl rfl (dec_t h1634) rfl ?_
      refine RA_step rfl (OA_v rfl (V_pickT rfl (dec_t h1634) rfl) ?_)
      refine RA_nil ?_
      exact at_normal (St.mk1 (aeq rfl (aeq rfl (aeq rfl (aeq (congrArg Value.bool (or_t hq1633 (dec_t h1634))) aeq0)))) (Gh.sel [0, 4, 2, 1] rfl rfl))
    refine RA_yesB rfl rfl rfl rfl (dec_f h1634) (OA_v (v := .pointer (some ((⟨b4, 0, none⟩ : Addr).add 1))) rfl (V_fieldAddrN (B := ⟨b4, 0, none⟩) (m := 0) (o := 1) Try.underlying54 rfl nz44 rfl rfl) ?_)
    refine RA_yesB rfl rfl rfl rfl (dec_f h1634) (OA_r rfl (VR_load_blk (b := b4) (m := 1) (k := 2) Try.underlying44 rfl rfl rfl rfl) ?_)
    refine RA_yesB rfl rfl rfl rfl (dec_f h1634) (OA_v (v := .pointer (some ⟨b4, 0, none⟩)) rfl (V_fieldAddrN (B := ⟨b4, 0, none⟩) (m := 0) (o := 0) Try.underlying54 rfl nz44 rfl rfl) ?_)
    refine RA_yesB rfl rfl rfl rfl (dec_f h1634) (OA_r rfl (VR_load_blk (b := b4) (m := 0) (k := 2) Try.underlying44 rfl rfl rfl rfl) ?_)
    refine RA_yesB rfl rfl rfl rfl (dec_f h1634) (OA_v (v := .bool (decide (a1.f1 < a1.f0))) rfl (V_lss rfl rfl) ?_)
    refine RA_step rfl (OA_v rfl (V_pickF rfl (dec_f h1634) rfl) ?_)
    refine RA_nil ?_
    exact at_normal (St.mk1 (aeq rfl (aeq rfl (aeq rfl (aeq (congrArg Value.bool (or_f hq1633 (dec_f h1634))) aeq0)))) (Gh.sel [0, 4, 2, 1] rfl rfl))
  rintro e ds As hst1635
  refine RA_nil ?_
  refine at_normal ?_
  refine SA.of_St hst1635 fun junk => ?_
  by_cases h1636 : q1633 = true
  · replace H := g_ift h1636 H
    refine SA_condTb rfl h1636 ?_
    refine SA_seq ?_
    refine SA_region ?_
    refine RA_step rfl (OA_v (v := .bool false) rfl (V_assign rfl) ?_)
    refine RA_step rfl (OA_v (v := .int .i64 230) rfl (V_assign rfl) ?_)
    refine RA_nil ?_
    refine at_normal ?_
    refine SA_ret ?_
    refine thn_ret ?_
    have hr_ := Option.some.inj H
    subst hr_
    exact BQ_R2 [Blk b0_ 162 [.slice A0_0 p0.f0.length c0_0], Ro k128 A0_0 c0_0 p0.f0] rfl rfl rfl ((Gh.freeze (k := 1) rfl).trans (Gh.sel [0, 1] rfl rfl)) ⟨A0_0, c0_0, rfl, rfl⟩
  replace H := g_iff h1636 H
  refine SA_condFb rfl h1636 ?_
  refine SA_skip ?_
  refine at_normal ?_
  refine SA_seq ?_
  refine SA_seq ?_
  refine SA_drawHq [0, 1, 2, 3, 4, 5, 7, 8] #[[], [0], [0, 1], [0, 1, 2], [], [4], [0, 1, 2, 3, 4, 5], [0, 1, 2, 3, 4, 5], [0, 1, 2, 3, 4, 5, 7]] [0, 2, 3] [1, 3] mixed rfl rfl rfl (PanOk.thn (PanOk.thn PanOk.body)) fun I0 hS h0 hh0 w0 sH dd pk => ?_
  refine DH_take (v := .pointer (some ⟨b0_, 0, none⟩)) 0 (by kernel_rfl) rfl rfl (.no rfl) pk sH rfl (VR.ofV (V_move rfl)) ?_
  refine DH_take (v := .pointer (some ⟨b0_, 0, none⟩)) 1 (by kernel_rfl) rfl rfl (.no rfl) pk sH rfl (VR.ofV (V_nilCheck rfl)) ?_
  refine DH_take (v := .pointer (some ⟨b0_, 0, none⟩)) 2 (by kernel_rfl) rfl rfl (.no rfl) pk sH rfl (VR.ofV (V_fieldAddrN (B := ⟨b0_, 0, none⟩) (m := 0) (o := 0) Try.underlying162 rfl nz129 rfl rfl)) ?_
  refine DH_take 3 (by kernel_rfl) rfl rfl (.no rfl) pk sH rfl (VR_load_blk (b := b0_) (m := 0) (k := 0) Try.underlying129 rfl rfl rfl rfl) ?_
  refine DH_take (v := .pointer (some ((⟨b4, 0, none⟩ : Addr).add 3))) 4 (by kernel_rfl) rfl rfl (.no rfl) pk sH rfl (VR.ofV (V_fieldAddrN (B := ⟨b4, 0, none⟩) (m := 0) (o := 3) Try.underlying54 rfl nz44 rfl rfl)) ?_
  refine DH_take 5 (by kernel_rfl) rfl rfl (.no rfl) pk sH rfl (VR_load_blk (b := b4) (m := 3) (k := 1) Try.underlying44 rfl rfl rfl rfl) ?_
  obtain ⟨r1997, C2001, H⟩ := g_bind H
  refine DH_one 6 dd (by kernel_rfl) rfl (.no rfl) (OA.ghost (Gh.freeze (k := 0) rfl) (OA_callA [0] [0, 1] rfl (X_fn (vs := [.slice A0_0 p0.f0.length c0_0, .int .u64 a1.f3]) Try.func93 nm93 rfl rfl) rfl (F93.ok (l0 := p0.f0) (A0 := A0_0) (c0 := c0_0) (a1 := a1.f3) C2001) rfl ?_))
  rintro _ _ ⟨A1998, c1999, rfl, rfl⟩
  refine DH_take (v := .int .i64 (r1997.length : Int)) 7 (by kernel_rfl) rfl rfl (.no rfl) pk sH rfl (VR.ofV (V_len Try.underlying129 rfl)) ?_
  refine DH_take (v := .bool (decide ((r1997.length : Int) ≥ 32))) 8 (by kernel_rfl) rfl rfl (.no rfl) pk sH rfl (VR.ofV (V_geq rfl rfl)) ?_
  refine DH_open dd sH ?_
  refine DN_done (by kernel_rfl) ?_
  refine at_normal ?_
  by_cases h2178 : (r1997.length : Int) ≥ 32
  · replace H := g_ift h2178 H
    refine SA_condT rfl h2178 ?_
    refine SA_seq ?_
    refine SA_region ?_
    refine RA_step rfl (OA_v (v := .bool false) rfl (V_assign rfl) ?_)
    refine RA_step rfl (OA_v (v := .int .i64 231) rfl (V_assign rfl) ?_)
    refine RA_nil ?_
    refine at_normal ?_
    refine SA_ret ?_
    refine thn_ret ?_
    have hr_ := Option.some.inj H
    subst hr_
    exact BQ_R2 [Blk b0_ 162 [.slice A0_0 p0.f0.length c0_0], Ro k128 A0_0 c0_0 p0.f0] rfl rfl rfl (Gh.sel [0, 4] rfl rfl) ⟨A0_0, c0_0, rfl, rfl⟩
  replace H := g_iff h2178 H
  refine SA_condF rfl h2178 ?_
  refine SA_skip ?_
  refine at_normal ?_
  refine SA_seq ?_
  obtain ⟨t2179, H, Bt2179⟩ := g_bind H
  refine SA_mid (fun e ds As => ∃ (b2180 : Nat), St [(0, .pointer (some ⟨b0_, 0, none⟩)), (3, .pointer (some ⟨b4, 0, none⟩)), (5, .int .i64 t2179.1), (7, .pointer (some ⟨b2180, 0, none⟩))] [Blk b2180 41 [.string t2179.2.f0], Blk b0_ 162 [.slice A0_0 p0.f0.length c0_0], Ro k128 A0_0 c0_0 p0.f0, Blk b4 54 [.int .u64 a1.f0, .int .u64 a1.f1, .int .u64 a1.f2, .int .u64 a1.f3, .slice A1_0 a1.f4.length c1_0], Ro (Kd.int .u8) A1_0 c1_0 a1.f4] e ds As) ?_ ?_
  · refine SA_drawHq (0 :: 1 :: 2 :: 3 :: 4 :: 5 :: 6 :: 7 :: 8 :: 9 :: 10 :: 13 :: 14 :: 15 :: 18 :: []) (List.toArray ([] :: [0] :: [0, 1] :: [0, 1, 2] :: [] :: [0, 1, 2, 3, 4] :: [0, 1, 2, 3, 4, 5] :: [0, 1, 2, 3, 4, 5, 6] :: [0, 1, 2, 3, 4, 5, 6, 7] :: [] :: [9] :: [9, 10] :: [0, 1, 2, 3, 4, 5, 6, 7, 8, 9, 10] :: [0, 1, 2, 3, 4, 5, 6, 7, 8, 9, 10] :: [0, 1, 2, 3, 4, 5, 6, 7, 8, 9, 10, 13] :: [0, 1, 2, 3, 4, 5, 6, 7, 8, 9, 10, 13] :: [] :: (0 :: 1 :: 2 :: 3 :: 4 :: 5 :: 6 :: 7 :: 8 :: 9 :: 10 :: 13 :: 14 :: []) :: (0 :: 1 :: 2 :: 3 :: 4 :: 5 :: 6 :: 7 :: 8 :: 9 :: 10 :: 13 :: 14 :: 15 :: []) :: [])) [0, 1, 2, 4, 2] [2, 3, 4, 2] mixed rfl rfl rfl (PanOk.thn (PanOk.thn PanOk.body)) fun I0 hS h0 hh0 w0 sH dd pk => ?_
    refine DH_take (v := .pointer (some ⟨b0_, 0, none⟩)) 0 (by kernel_rfl) rfl rfl (.no rfl) pk sH rfl (VR.ofV (V_move rfl)) ?_
    refine DH_take (v := .pointer (some ⟨b0_, 0, none⟩)) 1 (by kernel_rfl) rfl rfl (.no rfl) pk sH rfl (VR.ofV (V_nilCheck rfl)) ?_
    refine DH_take (v := .pointer (some ⟨b0_, 0, none⟩)) 2 (by kernel_rfl) rfl rfl (.no rfl) pk sH rfl (VR.ofV (V_fieldAddrN (B := ⟨b0_, 0, none⟩) (m := 0) (o := 0) Try.underlying162 rfl nz129 rfl rfl)) ?_
    refine DH_take 3 (by kernel_rfl) rfl rfl (.no rfl) pk sH rfl (VR_load_blk (b := b0_) (m := 0) (k := 0) Try.underlying129 rfl rfl rfl rfl) ?_
    refine DH_take (v := .int .i64 r1512) 4 (by kernel_rfl) rfl rfl (.no rfl) pk sH rfl (VR.ofV (V_move rfl)) ?_
    obtain ⟨⟨g2482, g2483⟩, H⟩ := g_pos H
    refine DH_take 5 (by kernel_rfl) rfl rfl (.no rfl) pk sH rfl (VR_index (i := r1512) Try.underlying129 sz128 rfl rfl (Src.ro (k := 3) rfl) g2482 g2483) ?_
    refine DH_take (v := .pointer (some ((el A0_0 (r1512.toNat * 3)).add 1))) 6 (by kernel_rfl) rfl rfl (.no rfl) pk sH rfl (VR.ofV (V_fieldAddrN (B := el A0_0 (r1512.toNat * 3)) (m := 0) (o := 1) Try.underlying128 rfl nz41 rfl rfl)) ?_
    refine DH_take 7 (by kernel_rfl) rfl rfl (.no rfl) pk sH rfl (VR_loadA_el (enc := enc128) (i := r1512) (j := r1512.toNat * 3) (m := 1) (sz := 3) (vs := [.string (((rd p0.f0 r1512).f1).f0)]) Try.underlying41 rfl sz41 rfl rfl rfl (Src.ro (k := 3) rfl) g2482 g2483 (fun _ _ h => h) rfl) ?_
    refine DH_take (v := .iface 41 (.agg #[.string (((rd p0.f0 r1512).f1).f0)])) 8 (by kernel_rfl) rfl rfl (.no rfl) pk sH rfl (VR.ofV (V_iface con41 rfl)) ?_
    refine DH_take (v := .pointer (some ((⟨b4, 0, none⟩ : Addr).add 4))) 9 (by kernel_rfl) rfl rfl (.no rfl) pk sH rfl (VR.ofV (V_fieldAddrN (B := ⟨b4, 0, none⟩) (m := 0) (o := 4) Try.underlying54 rfl nz23 rfl rfl)) ?_
    refine DH_take 10 (by kernel_rfl) rfl rfl (.no rfl) pk sH rfl (VR_load_blk (b := b4) (m := 4) (k := 1) Try.underlying23 rfl rfl rfl rfl) ?_
    obtain ⟨r2842, C2846, H⟩ := g_bind H
    obtain ⟨r2902, C2903, H⟩ := g_bind H
    refine DH_many (rs := [11, 16]) dd (by kernel_rfl) (by decide) (fal_cons ⟨_, rfl, (.no rfl), ?_⟩ (fal_cons ⟨_, rfl, (.no rfl), ?_⟩ fal_nil))
    · refine id (OA_callA [0] [0, 1, 2, 3] rfl (X_fn (vs := [.slice A1_0 a1.f4.length c1_0]) Try.func64 nm64 rfl rfl) rfl (F64.ok (l0 := a1.f4) (A0 := A1_0) (c0 := c1_0) C2846) rfl ?_)
      rintro _ _ ⟨A2843, c2844, rfl, rfl⟩
      refine DH_many (rs := [12, 16]) dd (by kernel_rfl) (by decide) (fal_cons ⟨_, rfl, (.no rfl), ?_⟩ (fal_cons ⟨_, rfl, (.no rfl), ?_⟩ fal_nil))
      · refine id (OA_callA [0] [1, 2, 3, 4] rfl (X_inv (vs := [.slice A2843 r2842.length c2844]) rfl met41_142 Try.func142 nm142 rfl rfl) rfl (F142b1.ok (a0 := ((rd p0.f0 r1512).f1)) (l1 := r2842) (A1 := A2843) (c1 := c2844) C2903) rfl ?_)
        rintro _ _ ⟨rfl, rfl⟩
        refine DH_take (v := .tuple #[.agg #[.string r2902.1.f0], .int .i64 r2902.2]) 13 (by kernel_rfl) rfl rfl (.no rfl) pk sH rfl (VR.ofV (V_move rfl)) ?_
        refine DH_take (v := .agg #[.string r2902.1.f0]) 14 (by kernel_rfl) rfl rfl (.no rfl) pk sH rfl (VR.ofV (V_extract rfl rfl)) ?_
        refine DH_take (v := .int .i64 r2902.2) 15 (by kernel_rfl) rfl rfl (.no rfl) pk sH rfl (VR.ofV (V_extract rfl rfl)) ?_
        refine DH_one 16 dd (by kernel_rfl) rfl (.no rfl) (OA_alloc rfl zero41 fun b3142 => ?_)
        refine DH_one 17 dd (by kernel_rfl) rfl (.no rfl) (OA_st (b := b3142) (m := 0) (k := 5) (vs := [.string r2902.1.f0]) (cs' := [.string r2902.1.f0]) rfl rfl rfl rfl rfl rfl sz41 rfl rfl ?_)
        refine DH_take (v := .int .i64 r2902.2) 18 (by kernel_rfl) rfl rfl (.no rfl) pk sH rfl (VR.ofV (V_assign rfl)) ?_
        refine DH_open dd sH ?_
        refine DN_done (by kernel_rfl) ?_
        have hr_ := Option.some.inj H
        subst hr_
        exact at_normal ⟨b3142, St.mk1 (aeq rfl (aeq rfl (aeq rfl (aeq rfl aeq0)))) (Gh.sel [10, 0, 3, 1, 2] rfl rfl)⟩
      refine id (OA_alloc rfl zero41 fun b3142 => ?_)
      refine DH_one 12 dd (by kernel_rfl) rfl (.no rfl) (OA_callA [0] [1, 2, 3, 4, 5] rfl (X_inv (vs := [.slice A2843 r2842.length c2844]) rfl met41_142 Try.func142 nm142 rfl rfl) rfl (F142b1.ok (a0 := ((rd p0.f0 r1512).f1)) (l1 := r2842) (A1 := A2843) (c1 := c2844) C2903) rfl ?_)
      rintro _ _ ⟨rfl, rfl⟩
      refine DH_take (v := .tuple #[.agg #[.string r2902.1.f0], .int .i64 r2902.2]) 13 (by kernel_rfl) rfl rfl (.no rfl) pk sH rfl (VR.ofV (V_move rfl)) ?_
      refine DH_take (v := .agg #[.string r2902.1.f0]) 14 (by kernel_rfl) rfl rfl (.no rfl) pk sH rfl (VR.ofV (V_extract rfl rfl)) ?_
      refine DH_take (v := .int .i64 r2902.2) 15 (by kernel_rfl) rfl rfl (.no rfl) pk sH rfl (VR.ofV (V_extract rfl rfl)) ?_
      refine DH_one 17 dd (by kernel_rfl) rfl (.no rfl) (OA_st (b := b3142) (m := 0) (k := 5) (vs := [.string r2902.1.f0]) (cs' := [.string r2902.1.f0]) rfl rfl rfl rfl rfl rfl sz41 rfl rfl ?_)
      refine DH_take (v := .int .i64 r2902.2) 18 (by kernel_rfl) rfl rfl (.no rfl) pk sH rfl (VR.ofV (V_assign rfl)) ?_
      refine DH_open dd sH ?_
      refine DN_done (by kernel_rfl) ?_
      have hr_ := Option.some.inj H
      subst hr_
      exact at_normal ⟨b3142, St.mk1 (aeq rfl (aeq rfl (aeq rfl (aeq rfl aeq0)))) (Gh.sel [10, 0, 3, 1, 2] rfl rfl)⟩
    refine id (OA_alloc rfl zero41 fun b3142 => ?_)
    refine DH_one 11 dd (by kernel_rfl) rfl (.no rfl) (OA_callA [0] [0, 1, 2, 3, 4] rfl (X_fn (vs := [.slice A1_0 a1.f4.length c1_0]) Try.func64 nm64 rfl rfl) rfl (F64.ok (l0 := a1.f4) (A0 := A1_0) (c0 := c1_0) C2846) rfl ?_)
    rintro _ _ ⟨A2843, c2844, rfl, rfl⟩
    refine DH_one 12 dd (by kernel_rfl) rfl (.no rfl) (OA_callA [0] [1, 2, 3, 4, 5] rfl (X_inv (vs := [.slice A2843 r2842.length c2844]) rfl met41_142 Try.func142 nm142 rfl rfl) rfl (F142b1.ok (a0 := ((rd p0.f0 r1512).f1)) (l1 := r2842) (A1 := A2843) (c1 := c2844) C2903) rfl ?_)
    rintro _ _ ⟨rfl, rfl⟩
    refine DH_take (v := .tuple #[.agg #[.string r2902.1.f0], .int .i64 r2902.2]) 13 (by kernel_rfl) rfl rfl (.no rfl) pk sH rfl (VR.ofV (V_move rfl)) ?_
    refine DH_take (v := .agg #[.string r2902.1.f0]) 14 (by kernel_rfl) rfl rfl (.no rfl) pk sH rfl (VR.ofV (V_extract rfl rfl)) ?_
    refine DH_take (v := .int .i64 r2902.2) 15 (by kernel_rfl) rfl rfl (.no rfl) pk sH rfl (VR.ofV (V_extract rfl rfl)) ?_
    refine DH_one 17 dd (by kernel_rfl) rfl (.no rfl) (OA_st (b := b3142) (m := 0) (k := 5) (vs := [.string r2902.1.f0]) (cs' := [.string r2902.1.f0]) rfl rfl rfl rfl rfl rfl sz41 rfl rfl ?_)
    refine DH_take (v := .int .i64 r2902.2) 18 (by kernel_rfl) rfl rfl (.no rfl) pk sH rfl (VR.ofV (V_assign rfl)) ?_
    refine DH_open dd sH ?_
    refine DN_done (by kernel_rfl) ?_
    have hr_ := Option.some.inj H
    subst hr_
    exact at_normal ⟨b3142, St.mk1 (aeq rfl (aeq rfl (aeq rfl (aeq rfl aeq0)))) (Gh.sel [10, 0, 3, 1, 2] rfl rfl)⟩
  rintro e ds As ⟨b2180, hst3323⟩
  clear H
  have H := Bt2179
  clear Bt2179
  refine at_normal ?_
  refine SA.of_St hst3323 fun junk => ?_
  refine SA_seq ?_
  refine SA_seq ?_
  refine SA_region ?_
  refine RA_step rfl (OA_v (v := .int .i64 t2179.1) rfl (V_move rfl) ?_)
  refine RA_step rfl (OA_v (v := .bool (decide (t2179.1 ≠ 0))) rfl (V_neq rfl rfl) ?_)
  refine RA_nil ?_
  refine at_normal ?_
  by_cases h3324 : t2179.1 ≠ 0
  · replace H := g_ift h3324 H
    refine SA_condT rfl h3324 ?_
    refine SA_seq ?_
    refine SA_region ?_
    refine RA_step rfl (OA_v (v := .int .i64 t2179.1) rfl (V_move rfl) ?_)
    refine RA_step rfl (OA_v (v := .bool false) rfl (V_assign rfl) ?_)
    refine RA_step rfl (OA_v (v := .int .i64 t2179.1) rfl (V_assign rfl) ?_)
    refine RA_nil ?_
    refine at_normal ?_
    refine SA_ret ?_
    refine thn_ret ?_
    have hr_ := Option.some.inj H
    subst hr_
    exact BQ_R2 [Blk b0_ 162 [.slice A0_0 p0.f0.length c0_0], Ro k128 A0_0 c0_0 p0.f0] rfl rfl rfl (Gh.sel [1, 2] rfl rfl) ⟨A0_0, c0_0, rfl, rfl⟩
  replace H := g_iff h3324 H
  refine SA_condF rfl h3324 ?_
  refine SA_skip ?_
  refine at_normal ?_
  refine SA_seq ?_
  refine SA_drawHq [0, 1, 2, 3, 4, 5, 7, 8, 9, 10, 11] #[[], [0], [0, 1], [0, 1, 2], [], [4], [0, 1, 2, 3, 4, 5], [0, 1, 2, 3, 4, 5], [0, 1, 2, 3, 4, 5, 7], [0, 1, 2, 3, 4, 5, 7], [0, 1, 2, 3, 4, 5, 7, 8], [0, 1, 2, 3, 4, 5, 7, 8, 9, 10]] [1, 2, 3, 4] [0, 2, 4] mixed rfl rfl rfl (PanOk.thn PanOk.body) fun I0 hS h0 hh0 w0 sH dd pk => ?_
  refine DH_take (v := .pointer (some ⟨b0_, 0, none⟩)) 0 (by kernel_rfl) rfl rfl (.no rfl) pk sH rfl (VR.ofV (V_move rfl)) ?_
  refine DH_take (v := .pointer (some ⟨b0_, 0, none⟩)) 1 (by kernel_rfl) rfl rfl (.no rfl) pk sH rfl (VR.ofV (V_nilCheck rfl)) ?_
  refine DH_take (v := .pointer (some ⟨b0_, 0, none⟩)) 2 (by kernel_rfl) rfl rfl (.no rfl) pk sH rfl (VR.ofV (V_fieldAddrN (B := ⟨b0_, 0, none⟩) (m := 0) (o := 0) Try.underlying162 rfl nz129 rfl rfl)) ?_
  refine DH_take 3 (by kernel_rfl) rfl rfl (.no rfl) pk sH rfl (VR_load_blk (b := b0_) (m := 0) (k := 0) Try.underlying129 rfl rfl rfl rfl) ?_
  refine DH_take (v := .pointer (some ((⟨b4, 0, none⟩ : Addr).add 1))) 4 (by kernel_rfl) rfl rfl (.no rfl) pk sH rfl (VR.ofV (V_fieldAddrN (B := ⟨b4, 0, none⟩) (m := 0) (o := 1) Try.underlying54 rfl nz44 rfl rfl)) ?_
  refine DH_take 5 (by kernel_rfl) rfl rfl (.no rfl) pk sH rfl (VR_load_blk (b := b4) (m := 1) (k := 2) Try.underlying44 rfl rfl rfl rfl) ?_
  obtain ⟨r3685, C3686, H⟩ := g_bind H
  refine DH_one 6 dd (by kernel_rfl) rfl (.no rfl) (OA_callA [1] [0, 1, 2] rfl (X_fn (vs := [.slice A0_0 p0.f0.length c0_0, .int .u64 a1.f1, .func (.func 95) #[] #[]]) Try.func94 nm94 rfl rfl) rfl (SCA.unpk (pre0 := [Ro k128 A0_0 c0_0 p0.f0]) (Bs := []) ((F94.ok (l0 := p0.f0) (A0 := A0_0) (c0 := c0_0) (a1 := a1.f1) (g2 := (fun (x0_ : S128) (x1_ : Int) => F95.f x0_ x1_)) (fv2 := .func (.func 95) #[] #[]) (Fr2 := Pk []) (hg2 := (fun {x0_} {x1_} {r_} C_ => FC.of (pre0 := []) (Bs := []) (cap := []) Try.func95 nm95 rfl ((F95.ok (a0 := x0_) (a1 := x1_) C_).mono (fun _ _ ⟨hv_, hB_⟩ => ⟨_, ⟨hv_, rfl⟩, hB_⟩)))) C3686).mono (fun (v_ : Value) (B_ : List Asrt) ⟨hv_, hB_⟩ => (⟨[], ⟨hv_, rfl⟩, hB_⟩ : ∃ B0_ : List Asrt, (v_ = (.tuple #[.int .i64 r3685.1, .bool r3685.2] : Value) ∧ B0_ = []) ∧ B_ = B0_ ++ [Pk []])))) rfl ?_)
  rintro _ _ ⟨_, ⟨rfl, rfl⟩, rfl⟩
  refine DH_take (v := .tuple #[.int .i64 r3685.1, .bool r3685.2]) 7 (by kernel_rfl) rfl rfl (.no rfl) pk sH rfl (VR.ofV (V_move rfl)) ?_
  refine DH_take (v := .int .i64 r3685.1) 8 (by kernel_rfl) rfl rfl (.no rfl) pk sH rfl (VR.ofV (V_extract rfl rfl)) ?_
  refine DH_take (v := .bool r3685.2) 9 (by kernel_rfl) rfl rfl (.no rfl) pk sH rfl (VR.ofV (V_extract rfl rfl)) ?_
  refine DH_take (v := .int .i64 r3685.1) 10 (by kernel_rfl) rfl rfl (.no rfl) pk sH rfl (VR.ofV (V_assign rfl)) ?_
  refine DH_take (v := .bool r3685.2) 11 (by kernel_rfl) rfl rfl (.no rfl) pk sH rfl (VR.ofV (V_assign rfl)) ?_
  refine DH_open dd sH ?_
  refine DN_done (by kernel_rfl) ?_
  refine at_normal ?_
  refine SA_seq ?_
  refine SA_region ?_
  refine RA_step rfl (OA_v (v := .int .i64 r3685.1) rfl (V_move rfl) ?_)
  refine RA_step rfl (OA_v (v := .pointer (some ⟨b0_, 0, none⟩)) rfl (V_move rfl) ?_)
  refine RA_step rfl (OA_v (v := .pointer (some ⟨b0_, 0, none⟩)) rfl (V_nilCheck rfl) ?_)
  refine RA_step rfl (OA_v (v := .pointer (some ⟨b0_, 0, none⟩)) rfl (V_fieldAddrN (B := ⟨b0_, 0, none⟩) (m := 0) (o := 0) Try.underlying162 rfl nz129 rfl rfl) ?_)
  refine RA_step rfl (OA_r rfl (VR_load_blk (b := b0_) (m := 0) (k := 0) Try.underlying129 rfl rfl rfl rfl) ?_)
  refine RA_step rfl (OA_v (v := .int .i64 (p0.f0.length : Int)) rfl (V_len Try.underlying129 rfl) ?_)
  refine RA_step rfl (OA_v (v := .bool (decide (r3685.1 = (p0.f0.length : Int)))) rfl (V_eql rfl rfl) ?_)
  refine RA_step rfl (OA_v (v := .bool (decide (r3685.1 = (p0.f0.length : Int)))) rfl (V_assign rfl) ?_)
  refine RA_nil ?_
  refine at_normal ?_
  refine SA_seq ?_
  refine SA_drawHq [0, 1, 2, 3, 5, 6, 7, 8, 9, 11, 14] (List.toArray ([] :: [0] :: [0, 1] :: [0, 1, 2] :: [0, 1, 2, 3] :: [] :: [] :: [6] :: [] :: [8] :: [0, 1, 2, 3, 8, 9] :: [0, 1, 2, 3, 6, 7, 8, 9] :: [0, 1, 2, 3, 6, 7, 8, 9, 11] :: [0, 1, 2, 3, 5, 6, 7, 8, 9, 11] :: [0, 1, 2, 3, 5, 6, 7, 8, 9, 11] :: [])) [0, 1, 2, 3, 4, 1, 3] [1, 3, 1, 3] mixed rfl rfl rfl (PanOk.thn PanOk.body) fun I0 hS h0 hh0 w0 sH dd pk => ?_
  refine DH_take (v := .pointer (some ⟨b0_, 0, none⟩)) 0 (by kernel_rfl) rfl rfl (.no rfl) pk sH rfl (VR.ofV (V_move rfl)) ?_
  refine DH_take (v := .pointer (some ⟨b0_, 0, none⟩)) 1 (by kernel_rfl) rfl rfl (.no rfl) pk sH rfl (VR.ofV (V_nilCheck rfl)) ?_
  refine DH_take (v := .pointer (some ⟨b0_, 0, none⟩)) 2 (by kernel_rfl) rfl rfl (.no rfl) pk sH rfl (VR.ofV (V_fieldAddrN (B := ⟨b0_, 0, none⟩) (m := 0) (o := 0) Try.underlying162 rfl nz129 rfl rfl)) ?_
  refine DH_take 3 (by kernel_rfl) rfl rfl (.no rfl) pk sH rfl (VR_load_blk (b := b0_) (m := 0) (k := 0) Try.underlying129 rfl rfl rfl rfl) ?_
  refine DH_take (v := .int .i64 r3685.1) 5 (by kernel_rfl) rfl rfl (.no rfl) pk sH rfl (VR.ofV (V_move rfl)) ?_
  refine DH_take (v := .pointer (some ((⟨b4, 0, none⟩ : Addr).add 1))) 6 (by kernel_rfl) rfl rfl (.no rfl) pk sH rfl (VR.ofV (V_fieldAddrN (B := ⟨b4, 0, none⟩) (m := 0) (o := 1) Try.underlying54 rfl nz44 rfl rfl)) ?_
  refine DH_take 7 (by kernel_rfl) rfl rfl (.no rfl) pk sH rfl (VR_load_blk (b := b4) (m := 1) (k := 2) Try.underlying44 rfl rfl rfl rfl) ?_
  refine DH_take 8 (by kernel_rfl) rfl rfl (.no rfl) pk sH rfl (VR_loadA_blk (b := b2180) (m := 0) (k := 4) (vs := [.string t2179.2.f0]) Try.underlying41 rfl sz41 rfl rfl rfl) ?_
  refine DH_take (v := .iface 41 (.agg #[.string t2179.2.f0])) 9 (by kernel_rfl) rfl rfl (.no rfl) pk sH rfl (VR.ofV (V_iface con41 rfl)) ?_
  obtain ⟨r4286, C4290, H⟩ := g_bind H
  refine DH_one 4 dd (by kernel_rfl) rfl (.no rfl) (OA_callA [0] [0, 1, 2, 3] rfl (X_fn (vs := [.slice A0_0 p0.f0.length c0_0]) Try.func62 nm62 rfl rfl) rfl (F62.ok (l0 := p0.f0) (A0 := A0_0) (c0 := c0_0) C4290) rfl ?_)
  rintro _ _ ⟨A4287, c4288, rfl, rfl⟩
  obtain ⟨r4646, C4647, H⟩ := g_bind H
  refine DH_one 10 dd (by kernel_rfl) rfl (.no rfl) (OA_callA [] [0, 1, 2, 3, 4] rfl (X_inv (vs := []) rfl met41_143 Try.func143 nm143 rfl rfl) rfl (F143.ok (a0 := t2179.2) C4647) rfl ?_)
  rintro _ _ ⟨rfl, rfl⟩
  refine DH_take (v := .agg #[.int .u64 a1.f1, .string r4646.f0, .int .u64 0]) 11 (by kernel_rfl) rfl rfl (.no rfl) pk sH rfl (VR.ofV (V_build (cells := [.int .u64 a1.f1, .string r4646.f0, .int .u64 0]) zero128 Try.underlying128 plc128 (by kernel_rfl))) ?_
  refine DH_one 12 dd (by kernel_rfl) rfl (.no rfl) (OA_bs (kd := k128) (zv := (.agg #[.int .u64 0, .string ByteArray.empty, .int .u64 0])) (sz := 3) (cells := [.int .u64 a1.f1, .string r4646.f0, .int .u64 0]) (xs := ([(S128.mk a1.f1 r4646 0)] : (List S128))) rfl Try.underlying129 zero128 sz128 rfl rfl rfl (by kernel_rfl) rfl rfl (RL_enc enc128 (fun _ _ => rfl) (by kernel_rfl)) fun b4766 => ?_)
  obtain ⟨r4826, C4830, H⟩ := g_bind H
  refine DH_one 13 dd (by kernel_rfl) rfl (.no rfl) (OA_callA [0, 5] [1, 2, 3, 4] rfl (X_fn (vs := [.slice A4287 r4286.length c4288, .int .i64 r3685.1, .slice (some ⟨b4766, 0, none⟩) ([(S128.mk a1.f1 r4646 0)] : (List S128)).length 1]) Try.func96 nm96 rfl rfl) rfl (F96m0b2.ok (l0 := r4286) (A0 := A4287) (c0 := c4288) (a1 := r3685.1) (l2 := ([(S128.mk a1.f1 r4646 0)] : (List S128))) (A2 := some ⟨b4766, 0, none⟩) (c2 := 1) C4830) rfl ?_)
  rintro _ _ ⟨A4827, c4828, rfl, rfl⟩
  refine DH_take (v := .slice A4827 r4826.length c4828) 14 (by kernel_rfl) rfl rfl (.no rfl) pk sH rfl (VR.ofV (V_assign rfl)) ?_
  refine DH_open dd sH ?_
  refine DN_done (by kernel_rfl) ?_
  refine at_normal ?_
  refine SA.of_St (l := [(0, .pointer (some ⟨b0_, 0, none⟩)), (3, .pointer (some ⟨b4, 0, none⟩)), (4, .bool (decide (r3685.1 = (p0.f0.length : Int)))), (10, .slice A4827 r4826.length c4828)]) (B := [Blk b0_ 162 [.slice A0_0 p0.f0.length c0_0], Ro k128 A0_0 c0_0 p0.f0, Blk b4 54 [.int .u64 a1.f0, .int .u64 a1.f1, .int .u64 a1.f2, .int .u64 a1.f3, .slice A1_0 a1.f4.length c1_0], Ro (Kd.int .u8) A1_0 c1_0 a1.f4, Buf k128 128 A4827 c4828 r4826]) (St.mk1 (aeq rfl (aeq rfl (aeq rfl (aeq rfl aeq0)))) (Gh.sel [0, 1, 2, 3, 7] (by kernel_rfl) (by kernel_rfl))) fun junk => ?_
  refine SA_seq ?_
  refine SA_region ?_
  refine RA_step rfl (OA_v (v := .pointer (some ⟨b0_, 0, none⟩)) rfl (V_move rfl) ?_)
  refine RA_step rfl (OA_v (v := .slice A4827 r4826.length c4828) rfl (V_move rfl) ?_)
  refine RA_step rfl (OA_v (v := .pointer (some ((⟨b4, 0, none⟩ : Addr).add 3))) rfl (V_fieldAddrN (B := ⟨b4, 0, none⟩) (m := 0) (o := 3) Try.underlying54 rfl nz44 rfl rfl) ?_)
  refine RA_step rfl (OA_r rfl (VR_load_blk (b := b4) (m := 3) (k := 2) Try.underlying44 rfl rfl rfl rfl) ?_)
  obtain ⟨r4947, C4951, H⟩ := g_bind H
  refine RA_step rfl (OA.ghost (Gh.freeze (k := 4) rfl) (OA_callA [4] [0, 1, 2, 3, 4] rfl (X_fn (vs := [.slice A4827 r4826.length c4828, .int .u64 a1.f3]) Try.func93 nm93 rfl rfl) rfl (F93.ok (l0 := r4826) (A0 := A4827) (c0 := c4828) (a1 := a1.f3) C4951) rfl ?_))
  rintro _ _ ⟨A4948, c4949, rfl, rfl⟩
  refine RA_step rfl (OA_v (v := .pointer (some ⟨b0_, 0, none⟩)) rfl (V_nilCheck rfl) ?_)
  refine RA_step rfl (OA_v (v := .pointer (some ⟨b0_, 0, none⟩)) rfl (V_fieldAddrN (B := ⟨b0_, 0, none⟩) (m := 0) (o := 0) Try.underlying162 rfl nz129 rfl rfl) ?_)
  refine RA_step rfl (OA_st (b := b0_) (m := 0) (k := 1) (vs := [.slice A4948 r4947.length c4949]) (cs' := [.slice A4948 r4947.length c4949]) rfl rfl rfl rfl rfl rfl sz129 rfl rfl ?_)
  refine RA_nil ?_
  refine at_normal ?_
  refine SA_seq ?_
  refine SA_region ?_
  refine RA_step rfl (OA_v (v := .bool (decide (r3685.1 = (p0.f0.length : Int)))) rfl (V_move rfl) ?_)
  refine RA_step rfl (OA_v (v := .bool (decide (r3685.1 = (p0.f0.length : Int)))) rfl (V_assign rfl) ?_)
  refine RA_step rfl (OA_v (v := .int .i64 0) rfl (V_assign rfl) ?_)
  refine RA_nil ?_
  refine at_normal ?_
  refine SA_ret ?_
  have hr_ := Option.some.inj H
  subst hr_
  exact BQ_R2 [Blk b0_ 162 [.slice A4948 r4947.length c4949], Ro k128 A4948 c4949 r4947] rfl rfl rfl ((Gh.freeze (k := 0) rfl).trans (Gh.sel [1, 0] rfl rfl)) ⟨A4948, c4949, rfl, rfl⟩

/-! ### function 97: (*wayfarer/wayfarerref23.Receiver).at -/
def F97b0.l0 (p0 : S121) (a1 : Int) : Nat → Int → Option (Out (Int) (Unit))
  | 0, _ => none
  | k + 1, x5_4 => if x5_4 < (p0.f0.length : Int) then (if 0 ≤ x5_4 ∧ x5_4 < (p0.f0.length : Int) then (if ((rd p0.f0 x5_4).f0) = a1 then (some (Out.ret (x5_4))) else (lt (IntKind.i64.wrap (x5_4 + 1)) fun n11 => F97b0.l0 p0 a1 k n11)) else none) else (some (Out.go ()))
def F97b0.f (k : Nat) (p0 : S121) (a1 : Int) : Option (Int) := (F97b0.l0 p0 a1 k 0 : Option (Out (Int) (Unit))).bind (fun t3 => Out.el t3 (fun r_ => some r_) (fun s4 => some ((-1))))
set_option maxHeartbeats 2000000 in
set_option maxRecDepth 100000 in
theorem F97b0.ok {k : Nat} {p0 : S121} {a1 : Int} {b0_ : Nat} {A0_0 : Option Addr} {c0_0 : Nat} {r : Int} (H : F97b0.f k p0 a1 = some r) : SCA Try.prog 97 #[.pointer (some ⟨b0_, 0, none⟩), .int .u64 a1] [Blk b0_ 121 [.slice A0_0 p0.f0.length c0_0], Buf k63 63 A0_0 c0_0 p0.f0] (fun v B => v = .int .i64 r ∧ B = [Blk b0_ 121 [.slice A0_0 p0.f0.length c0_0], Buf k63 63 A0_0 c0_0 p0.f0]) := by
  refine SCA_of_body Try.func97 rfl rfl ?_
  unfold F97b0.f at H
  refine SA_seq ?_
  refine SA_region ?_
  refine RA_step rfl (OA_v (v := .int .i64 0) rfl (V_assign rfl) ?_)
  refine RA_nil ?_
  refine at_normal ?_
  refine SA_seq ?_
  refine SA_seq ?_
  refine SA_region ?_
  refine RA_step rfl (OA_v (v := .int .i64 0) rfl (V_assign rfl) ?_)
  refine RA_nil ?_
  refine at_normal ?_
  obtain ⟨t3, H, Bt3⟩ := g_bind H
  refine SA_mid (fun e ds As => ∃ (s4 : Unit), t3 = Out.go s4 ∧ St [] [Blk b0_ 121 [.slice A0_0 p0.f0.length c0_0], Buf k63 63 A0_0 c0_0 p0.f0] e ds As) ?_ ?_
  · refine SA_block ?_
    refine SA_loop (fun k_ e ds As => ∃ (x5_4 : Int), F97b0.l0 p0 a1 k_ x5_4 = some t3 ∧ St [(0, .pointer (some ⟨b0_, 0, none⟩)), (1, .int .u64 a1), (5, .int .i64 x5_4)] [Blk b0_ 121 [.slice A0_0 p0.f0.length c0_0], Buf k63 63 A0_0 c0_0 p0.f0] e ds As) (k := k) ⟨_, H, St.mk1 (aeq rfl (aeq rfl (aeq rfl aeq0))) (Gh.sel [0, 1] rfl rfl)⟩ ?_
    clear H
    rintro k5 e ds As ⟨x5_4, H, hst6⟩
    obtain _ | k5 := k5
    · cases H
    rw [F97b0.l0] at H
    refine SA.of_St hst6 fun junk => ?_
    refine SA_seq ?_
    refine SA_seq ?_
    refine SA_region ?_
    refine RA_step rfl (OA_v (v := .int .i64 x5_4) rfl (V_move rfl) ?_)
    refine RA_step rfl (OA_v (v := .pointer (some ⟨b0_, 0, none⟩)) rfl (V_move rfl) ?_)
    refine RA_step rfl (OA_v (v := .pointer (some ⟨b0_, 0, none⟩)) rfl (V_nilCheck rfl) ?_)
    refine RA_step rfl (OA_v (v := .pointer (some ⟨b0_, 0, none⟩)) rfl (V_fieldAddrN (B := ⟨b0_, 0, none⟩) (m := 0) (o := 0) Try.underlying121 rfl nz47 rfl rfl) ?_)
    refine RA_step rfl (OA_r rfl (VR_load_blk (b := b0_) (m := 0) (k := 0) Try.underlying47 rfl rfl rfl rfl) ?_)
    refine RA_step rfl (OA_v (v := .int .i64 (p0.f0.length : Int)) rfl (V_len Try.underlying47 rfl) ?_)
    refine RA_step rfl (OA_v (v := .bool (decide (x5_4 < (p0.f0.length : Int)))) rfl (V_lss rfl rfl) ?_)
    refine RA_nil ?_
    refine at_normal ?_
    by_cases h7 : x5_4 < (p0.f0.length : Int)
    · replace H := g_ift h7 H
      refine SA_condT rfl h7 ?_
      refine SA_skip ?_
      refine at_normal ?_
      refine SA_seq ?_
      refine SA_block ?_
      refine SA_seq ?_
      refine SA_region ?_
      refine RA_step rfl (OA_v (v := .pointer (some ⟨b0_, 0, none⟩)) rfl (V_move rfl) ?_)
      refine RA_step rfl (OA_v (v := .pointer (some ⟨b0_, 0, none⟩)) rfl (V_nilCheck rfl) ?_)
      refine RA_step rfl (OA_v (v := .pointer (some ⟨b0_, 0, none⟩)) rfl (V_fieldAddrN (B := ⟨b0_, 0, none⟩) (m := 0) (o := 0) Try.underlying121 rfl nz47 rfl rfl) ?_)
      refine RA_step rfl (OA_r rfl (VR_load_blk (b := b0_) (m := 0) (k := 0) Try.underlying47 rfl rfl rfl rfl) ?_)
      refine RA_step rfl (OA_v (v := .int .i64 x5_4) rfl (V_move rfl) ?_)
      obtain ⟨⟨g8, g9⟩, H⟩ := g_pos H
      refine RA_step rfl (OA_r rfl (VR_index (i := x5_4) Try.underlying47 sz63 rfl rfl (Src.buf (k := 1) rfl) g8 g9) ?_)
      refine RA_step rfl (OA_v (v := .pointer (some ((el A0_0 (x5_4.toNat * 3)).add 0))) rfl (V_fieldAddrN (B := el A0_0 (x5_4.toNat * 3)) (m := 0) (o := 0) Try.underlying63 rfl nz44 rfl rfl) ?_)
      refine RA_step rfl (OA_r rfl (VR_load_el (enc := enc63) (i := x5_4) (j := x5_4.toNat * 3) (m := 0) (sz := 3) Try.underlying44 rfl rfl rfl rfl (Src.buf (k := 1) rfl) g8 g9 (fun _ _ h => h) rfl) ?_)
      refine RA_step rfl (OA_v (v := .int .u64 a1) rfl (V_move rfl) ?_)
      refine RA_step rfl (OA_v (v := .bool (decide (((rd p0.f0 x5_4).f0) = a1))) rfl (V_eql rfl rfl) ?_)
      refine RA_nil ?_
      refine at_normal ?_
      by_cases h10 : ((rd p0.f0 x5_4).f0) = a1
      · replace H := g_ift h10 H
        refine SA_condT rfl h10 ?_
        refine SA_seq ?_
        refine SA_region ?_
        refine RA_step rfl (OA_v (v := .int .i64 x5_4) rfl (V_move rfl) ?_)
        refine RA_step rfl (OA_v (v := .int .i64 x5_4) rfl (V_assign rfl) ?_)
        refine RA_nil ?_
        refine at_normal ?_
        refine SA_ret ?_
        refine inb_ret ?_
        refine thn_ret ?_
        refine thn_ret ?_
        refine inb_ret ?_
        refine thn_ret ?_
        refine thn_ret ?_
        have hr_ := Option.some.inj H
        subst hr_
        have hb_ := el_ret Bt3
        have hr_ := Option.some.inj hb_
        clear hb_
        subst hr_
        exact BQ_R1 [Blk b0_ 121 [.slice A0_0 p0.f0.length c0_0], Buf k63 63 A0_0 c0_0 p0.f0] rfl rfl (Gh.sel [0, 1] rfl rfl) ⟨rfl, rfl⟩
      replace H := g_iff h10 H
      refine SA_condF rfl h10 ?_
      refine SA_skip ?_
      refine inb_normal ?_
      refine at_normal ?_
      refine SA_region ?_
      refine RA_step rfl (OA_v (v := .int .i64 x5_4) rfl (V_move rfl) ?_)
      refine RA_step rfl (OA_v (v := .int .i64 (IntKind.i64.wrap (x5_4 + 1))) rfl (V_add rfl rfl) ?_)
      obtain ⟨n11, hn11, H⟩ := g_lt H
      refine RA_step rfl (OA_v (v := .int .i64 n11) rfl (V_assign (v := .int .i64 n11) (congrArg (Value.int .i64) hn11.symm)) ?_)
      refine RA_nil ?_
      exact at_normal ⟨k5, Nat.lt_succ_self _, _, H, St.mk1 (aeq rfl (aeq rfl (aeq rfl aeq0))) (Gh.sel [0, 1] rfl rfl)⟩
    replace H := g_iff h7 H
    refine SA_condF rfl h7 ?_
    refine SA_exit ?_
    refine thn_exit ?_
    refine thn_exit ?_
    refine inb_hit ?_
    have hr_ := Option.some.inj H
    subst hr_
    exact at_normal ⟨(), rfl, St.mk1 aeq0 (Gh.sel [0, 1] rfl rfl)⟩
  rintro e ds As ⟨s4, ht, hst12⟩
  clear H
  subst ht
  replace Bt3 := el_go Bt3
  have H := Bt3
  clear Bt3
  refine at_normal ?_
  refine SA.of_St hst12 fun junk => ?_
  refine SA_seq ?_
  refine SA_region ?_
  refine RA_step rfl (OA_v (v := .int .i64 (-1)) rfl (V_assign rfl) ?_)
  refine RA_nil ?_
  refine at_normal ?_
  refine SA_ret ?_
  have hr_ := Option.some.inj H
  subst hr_
  exact BQ_R1 [Blk b0_ 121 [.slice A0_0 p0.f0.length c0_0], Buf k63 63 A0_0 c0_0 p0.f0] rfl rfl (Gh.sel [0, 1] rfl rfl) ⟨rfl, rfl⟩
end Go.Proofs.Ytodkeoibebimgaa.Sq

/- What functions compute, and that they do: 144, 25b0, 64, 65, 66. -/
import Derived.Test.YtodkeoibebimgaaSq0
import Derived.Test.YtodkeoibebimgaaSq1
namespace Go.Proofs.Ytodkeoibebimgaa.Sq
open Go Go.RowKit Go.Proofs.Ytodkeoibebimgaa.SL
set_option linter.unusedVariables false
set_option linter.unusedSimpArgs false
attribute [local irreducible] IntKind.wrap minI maxI shrI shlI andI orI xorI andNotI cplI rd sub bytesOf strOf slA
/-! ### function 66: wayfarer/wayfarerref23.Suffix -/
def F66.f (a0 : ByteArray) (a1 : ByteArray) : Option (ByteArray × Bool) := lt ((⟨#[]⟩ : ByteArray)) fun n1 => (if (a0.size : Int) > (a1.size : Int) then (some true) else (if 0 ≤ (0 : Int) ∧ (0 : Int) ≤ (a0.size : Int) ∧ (a0.size : Int) ≤ (a1.size : Int) then (some (decide ((a1.extract (0 : Int).toNat (a0.size : Int).toNat) ≠ a0))) else none) : Option Bool).bind (fun q2 => if q2 = true then (lt ((⟨#[]⟩ : ByteArray)) fun n9 => some ((n9, false))) else (if 0 ≤ (a0.size : Int) ∧ (a0.size : Int) ≤ (a1.size : Int) ∧ (a1.size : Int) ≤ (a1.size : Int) then (lt (a1.extract (a0.size : Int).toNat (a1.size : Int).toNat) fun n13 => some ((n13, true))) else none))
set_option maxHeartbeats 2000000 in
set_option maxRecDepth 100000 in
theorem F66.ok {a0 : ByteArray} {a1 : ByteArray} {r : ByteArray × Bool} (H : F66.f a0 a1 = some r) : SCA Try.prog 66 #[.string a0, .string a1] [] (fun v B => v = .tuple #[.string r.1, .bool r.2] ∧ B = []) := by
  refine SCA_of_body Try.func66 rfl rfl ?_
  unfold F66.f at H
  refine SA_seq ?_
  refine SA_region ?_
  obtain ⟨n1, hn1, H⟩ := g_lt H
  refine RA_step rfl (OA_v (v := .string n1) rfl (V_assign (v := .string n1) (congrArg (Value.string) hn1.symm)) ?_)
  refine RA_step rfl (OA_v (v := .bool false) rfl (V_assign rfl) ?_)
  refine RA_nil ?_
  refine at_normal ?_
  refine SA_seq ?_
  refine SA_seq ?_
  refine SA_region ?_
  refine RA_step rfl (OA_v (v := .string a0) rfl (V_move rfl) ?_)
  refine RA_step rfl (OA_v (v := .int .i64 (a0.size : Int)) rfl (V_lenS Try.underlying9 rfl) ?_)
  refine RA_step rfl (OA_v (v := .string a1) rfl (V_move rfl) ?_)
  refine RA_step rfl (OA_v (v := .int .i64 (a1.size : Int)) rfl (V_lenS Try.underlying9 rfl) ?_)
  refine RA_step rfl (OA_v (v := .bool (decide ((a0.size : Int) > (a1.size : Int)))) rfl (V_gtr rfl rfl) ?_)
  refine RA_step rfl (OA_v (v := .bool (decide ((a0.size : Int) > (a1.size : Int)))) rfl (V_move rfl) ?_)
  obtain ⟨q2, H, Bq2⟩ := g_bind H
  refine RA_cut 7 (fun e ds As => St [(0, .string a0), (1, .string a1), (18, .bool q2)] [] e ds As) ?_ ?_
  · by_cases h3 : (a0.size : Int) > (a1.size : Int)
    · replace H := g_ift h3 H
      refine RA_noB rfl rfl rfl rfl (dec_t h3) rfl ?_
      refine RA_noB rfl rfl rfl rfl (dec_t h3) rfl ?_
      refine RA_noB rfl rfl rfl rfl (dec_t h3) rfl ?_
      refine RA_noB rfl rfl rfl rfl (dec_t h3) rfl ?_
      refine RA_noB rfl rfl rfl rfl (dec_t h3) rfl ?_
      refine RA_noB rfl rfl rfl rfl (dec_t h3) rfl ?_
      refine RA_step rfl (OA_v rfl (V_pickT rfl (dec_t h3) rfl) ?_)
      have hr_ := Option.some.inj H
      subst hr_
      refine RA_nil ?_
      exact at_normal (St.mk1 (aeq rfl (aeq rfl (aeq rfl aeq0))) (Gh.sel [] rfl rfl))
    replace H := g_iff h3 H
    refine RA_yesB rfl rfl rfl rfl (dec_f h3) (OA_v (v := .string a1) rfl (V_move rfl) ?_)
    refine RA_yesB rfl rfl rfl rfl (dec_f h3) (OA_v (v := .string a0) rfl (V_move rfl) ?_)
    refine RA_yesB rfl rfl rfl rfl (dec_f h3) (OA_v (v := .int .i64 (a0.size : Int)) rfl (V_lenS Try.underlying9 rfl) ?_)
    obtain ⟨⟨g4, g5, g6⟩, H⟩ := g_pos H
    refine RA_yesB rfl rfl rfl rfl (dec_f h3) (OA_v (v := .string (a1.extract (0 : Int).toNat (a0.size : Int).toNat)) rfl (V_sliceStr (l := (0 : Int)) (h := (a0.size : Int)) Try.underlying9 rfl rfl rfl ⟨.inl ⟨rfl, rfl⟩, .inr ⟨_, rfl⟩⟩ g4 g5 g6) ?_)
    refine RA_yesB rfl rfl rfl rfl (dec_f h3) (OA_v (v := .string a0) rfl (V_move rfl) ?_)
    refine RA_yesB rfl rfl rfl rfl (dec_f h3) (OA_v (v := .bool (decide ((a1.extract (0 : Int).toNat (a0.size : Int).toNat) ≠ a0))) rfl (V_neqS rfl rfl) ?_)
    refine RA_step rfl (OA_v rfl (V_pickF rfl (dec_f h3) rfl) ?_)
    have hr_ := Option.some.inj H
    subst hr_
    refine RA_nil ?_
    exact at_normal (St.mk1 (aeq rfl (aeq rfl (aeq rfl aeq0))) (Gh.sel [] rfl rfl))
  rintro e ds As hst7
  clear H
  have H := Bq2
  clear Bq2
  refine RA_nil ?_
  refine at_normal ?_
  refine SA.of_St hst7 fun junk => ?_
  by_cases h8 : q2 = true
  · replace H := g_ift h8 H
    refine SA_condTb rfl h8 ?_
    refine SA_seq ?_
    refine SA_region ?_
    obtain ⟨n9, hn9, H⟩ := g_lt H
    refine RA_step rfl (OA_v (v := .string n9) rfl (V_assign (v := .string n9) (congrArg (Value.string) hn9.symm)) ?_)
    refine RA_step rfl (OA_v (v := .bool false) rfl (V_assign rfl) ?_)
    refine RA_nil ?_
    refine at_normal ?_
    refine SA_ret ?_
    refine thn_ret ?_
    have hr_ := Option.some.inj H
    subst hr_
    exact BQ_R2 [] rfl rfl rfl (Gh.sel [] rfl rfl) ⟨rfl, rfl⟩
  replace H := g_iff h8 H
  refine SA_condFb rfl h8 ?_
  refine SA_skip ?_
  refine at_normal ?_
  refine SA_seq ?_
  refine SA_region ?_
  refine RA_step rfl (OA_v (v := .string a1) rfl (V_move rfl) ?_)
  refine RA_step rfl (OA_v (v := .string a0) rfl (V_move rfl) ?_)
  refine RA_step rfl (OA_v (v := .int .i64 (a0.size : Int)) rfl (V_lenS Try.underlying9 rfl) ?_)
  obtain ⟨⟨g10, g11, g12⟩, H⟩ := g_pos H
  refine RA_step rfl (OA_v (v := .string (a1.extract (a0.size : Int).toNat (a1.size : Int).toNat)) rfl (V_sliceStr (l := (a0.size : Int)) (h := (a1.size : Int)) Try.underlying9 rfl rfl rfl ⟨.inr ⟨_, rfl⟩, .inl ⟨rfl, rfl⟩⟩ g10 g11 g12) ?_)
  obtain ⟨n13, hn13, H⟩ := g_lt H
  refine RA_step rfl (OA_v (v := .string n13) rfl (V_assign (v := .string n13) (congrArg (Value.string) hn13.symm)) ?_)
  refine RA_step rfl (OA_v (v := .bool true) rfl (V_assign rfl) ?_)
  refine RA_nil ?_
  refine at_normal ?_
  refine SA_ret ?_
  have hr_ := Option.some.inj H
  subst hr_
  exact BQ_R2 [] rfl rfl rfl (Gh.sel [] rfl rfl) ⟨rfl, rfl⟩

/-! ### function 144: (wayfarer/wayfarerlaw23.text).Diff -/
def F144.f (a0 : S41) (a1 : S41) : Option ((List Int) × Int) := (F66.f a1.f0 a0.f0).bind (fun r5 => if (!r5.2) = true then (some ((([] : (List Int)), 99))) else (if r5.1.size ≤ 9223372036854775807 then lt (bytesOf r5.1) fun n11 => (some ((n11, 0))) else none))
set_option maxHeartbeats 2000000 in
set_option maxRecDepth 100000 in
theorem F144.ok {a0 : S41} {a1 : S41} {r : (List Int) × Int} (H : F144.f a0 a1 = some r) : SCA Try.prog 144 #[.agg #[.string a0.f0], .agg #[.string a1.f0]] [] (fun v B => ∃ (A0_0_ : Option Addr) (c0_0_ : Nat), v = .tuple #[.slice A0_0_ r.1.length c0_0_, .int .i64 r.2] ∧ B = [Buf (Kd.int .u8) 5 A0_0_ c0_0_ r.1]) := by
  refine SCA_of_body Try.func144 rfl rfl ?_
  unfold F144.f at H
  refine SA_seq ?_
  refine SA_region ?_
  refine RA_step rfl (OA_box rfl rfl fun b1 => ?_)
  refine RA_step rfl (OA_box rfl rfl fun b3 => ?_)
  refine RA_step rfl (OA_v (v := .slice none 0 0) rfl (V_assign rfl) ?_)
  refine RA_step rfl (OA_v (v := .int .i64 0) rfl (V_assign rfl) ?_)
  refine RA_nil ?_
  refine at_normal ?_
  refine SA_seq ?_
  refine SA_region ?_
  refine RA_step rfl (OA_v (v := .pointer (some ⟨b3, 0, none⟩)) rfl (V_fieldAddrN (B := ⟨b3, 0, none⟩) (m := 0) (o := 0) Try.underlying41 rfl nz9 rfl rfl) ?_)
  refine RA_step rfl (OA_r rfl (VR_load_blk (b := b3) (m := 0) (k := 1) Try.underlying9 rfl rfl rfl rfl) ?_)
  refine RA_step rfl (OA_v (v := .pointer (some ⟨b1, 0, none⟩)) rfl (V_fieldAddrN (B := ⟨b1, 0, none⟩) (m := 0) (o := 0) Try.underlying41 rfl nz9 rfl rfl) ?_)
  refine RA_step rfl (OA_r rfl (VR_load_blk (b := b1) (m := 0) (k := 0) Try.underlying9 rfl rfl rfl rfl) ?_)
  obtain ⟨r5, C13, H⟩ := g_bind H
  refine RA_step rfl (OA_callA [] [0, 1] rfl (X_fn (vs := [.string a1.f0, .string a0.f0]) Try.func66 nm66 rfl rfl) rfl (F66.ok (a0 := a1.f0) (a1 := a0.f0) C13) rfl ?_)
  rintro _ _ ⟨rfl, rfl⟩
  refine RA_step rfl (OA_v (v := .tuple #[.string r5.1, .bool r5.2]) rfl (V_move rfl) ?_)
  refine RA_step rfl (OA_v (v := .string r5.1) rfl (V_extract rfl rfl) ?_)
  refine RA_step rfl (OA_v (v := .bool r5.2) rfl (V_extract rfl rfl) ?_)
  refine RA_step rfl (OA_v (v := .string r5.1) rfl (V_assign rfl) ?_)
  refine RA_step rfl (OA_v (v := .bool r5.2) rfl (V_assign rfl) ?_)
  refine RA_nil ?_
  refine at_normal ?_
  refine SA_seq ?_
  refine SA_seq ?_
  refine SA_region ?_
  refine RA_step rfl (OA_v (v := .bool r5.2) rfl (V_move rfl) ?_)
  refine RA_step rfl (OA_v (v := .bool (!r5.2)) rfl (V_not rfl) ?_)
  refine RA_nil ?_
  refine at_normal ?_
  by_cases h6 : (!r5.2) = true
  · replace H := g_ift h6 H
    refine SA_condTb rfl h6 ?_
    refine SA_seq ?_
    refine SA_region ?_
    refine RA_step rfl (OA_v (v := .slice none 0 0) rfl (V_assign rfl) ?_)
    refine RA_step rfl (OA_v (v := .int .i64 99) rfl (V_assign rfl) ?_)
    refine RA_nil ?_
    refine at_normal ?_
    refine SA_ret ?_
    refine thn_ret ?_
    have hr_ := Option.some.inj H
    subst hr_
    exact BQ_R2 [Buf (Kd.int .u8) 5 none 0 ([] : (List Int))] rfl rfl rfl ((Gh.nilBuf (Kd.int .u8) 5).trans (Gh.sel [2] rfl rfl)) ⟨none, 0, rfl, rfl⟩
  replace H := g_iff h6 H
  refine SA_condFb rfl h6 ?_
  refine SA_skip ?_
  refine at_normal ?_
  refine SA_seq ?_
  refine SA_region ?_
  refine RA_step rfl (OA_v (v := .string r5.1) rfl (V_move rfl) ?_)
  obtain ⟨g12, H⟩ := g_pos H
  obtain ⟨n11, hn11, H⟩ := g_lt H
  refine RA_step rfl (OA_bytesS (s := r5.1) n11 hn11 rfl Try.underlying9 Try.underlying23 Try.underlying5 rfl g12 fun b8 c9 => ?_)
  refine RA_step rfl (OA_v (v := .slice (some ⟨b8, 0, none⟩) n11.length c9) rfl (V_assign rfl) ?_)
  refine RA_step rfl (OA_v (v := .int .i64 0) rfl (V_assign rfl) ?_)
  refine RA_nil ?_
  refine at_normal ?_
  refine SA_ret ?_
  have hr_ := Option.some.inj H
  subst hr_
  exact BQ_R2 [Buf (Kd.int .u8) 5 (some ⟨b8, 0, none⟩) c9 n11] rfl rfl rfl (Gh.sel [2] rfl rfl) ⟨some ⟨b8, 0, none⟩, c9, rfl, rfl⟩

/-! ### function 64: slices.Clone[[]byte,byte] -/
def F64.f (l0 : (List Int)) : Option ((List Int)) := if ([] : (List Int)).length + l0.length ≤ 140737488355328 then lt (([] : (List Int)) ++ l0) fun n9 => (some (n9)) else none
set_option maxHeartbeats 2000000 in
set_option maxRecDepth 100000 in
theorem F64.ok {l0 : (List Int)} {A0 : Option Addr} {c0 : Nat} {r : (List Int)} (H : F64.f l0 = some r) : SCA Try.prog 64 #[.slice A0 l0.length c0] [Ro (Kd.int .u8) A0 c0 l0] (fun v B => ∃ (A0_0_ : Option Addr) (c0_0_ : Nat), v = .slice A0_0_ r.length c0_0_ ∧ B = [Buf (Kd.int .u8) 5 A0_0_ c0_0_ r]) := by
  refine SCA_of_body Try.func64 rfl rfl ?_
  unfold F64.f at H
  refine SA_seq ?_
  refine SA_region ?_
  refine RA_step rfl (OA_v (v := .slice none 0 0) rfl (V_assign rfl) ?_)
  refine RA_nil ?_
  refine at_normal ?_
  refine SA_seq ?_
  refine SA_seq ?_
  refine SA_region ?_
  refine RA_step rfl (OA_v (v := .slice A0 l0.length c0) rfl (V_move rfl) ?_)
  refine RA_step rfl (OA_v (v := .bool A0.isNone) rfl (V_eqlNil Try.underlying23 rfl rfl) ?_)
  refine RA_nil ?_
  refine at_normal ?_
  by_cases h2 : A0 = none
  · subst h2
    refine SA_nilRo (k := 0) rfl fun e_ => ?_
    subst e_
    replace H := g_nil (x := some (([] : (List Int)))) H (by simp [lt])
    refine SA_condTb rfl rfl ?_
    refine SA_seq ?_
    refine SA_region ?_
    refine RA_step rfl (OA_v (v := .slice none 0 0) rfl (V_assign rfl) ?_)
    refine RA_nil ?_
    refine at_normal ?_
    refine SA_ret ?_
    refine thn_ret ?_
    have hr_ := Option.some.inj H
    subst hr_
    exact BQ_R1 [Buf (Kd.int .u8) 5 none 0 ([] : (List Int))] rfl rfl ((Gh.nilBuf (Kd.int .u8) 5).trans (Gh.sel [1] rfl rfl)) ⟨none, 0, rfl, rfl⟩
  obtain ⟨a_, rfl⟩ := Option.ne_none_iff_exists'.1 h2
  refine SA_condFb rfl (by first | decide | simp) ?_
  refine SA_skip ?_
  refine at_normal ?_
  refine SA_seq ?_
  refine SA_region ?_
  refine RA_step rfl (OA_bs (kd := (Kd.int .u8)) (zv := (.int .u8 0)) (sz := 1) (cells := []) (xs := ([] : (List Int))) rfl Try.underlying23 zero5 sz5 rfl rfl rfl (by kernel_rfl) rfl rfl (RL_enc (fun x_ : Int => [Value.int .u8 x_]) (fun _ _ => rfl) (by kernel_rfl)) fun b3 => ?_)
  refine RA_step rfl (OA_v (v := .slice (some a_) l0.length c0) rfl (V_move rfl) ?_)
  obtain ⟨g6, H⟩ := g_pos H
  obtain ⟨n9, hn9, H⟩ := g_lt H
  refine RA_step rfl (OA_app (k := 1) (A := some ⟨b3, 0, none⟩) (c := 0) (xs := ([] : (List Int))) (ys := l0) n9 hn9 rfl Try.underlying23 inf5 rfl rfl rfl rfl rfl (Yld.slice Try.underlying23 (Src.ro (k := 0) rfl)) (by omega) (by omega) fun A7 c8 => ?_)
  refine RA_step rfl (OA_v (v := .slice A7 n9.length c8) rfl (V_assign rfl) ?_)
  refine RA_nil ?_
  refine at_normal ?_
  refine SA_ret ?_
  have hr_ := Option.some.inj H
  subst hr_
  exact BQ_R1 [Buf (Kd.int .u8) 5 A7 c8 n9] rfl rfl (Gh.sel [1] rfl rfl) ⟨A7, c8, rfl, rfl⟩

/-! ### function 25: (*wayfarer/ssp.Sender[wayfarer/wayfarerlaw23.text]).Tick -/
def F25b0.f (p0 : S131) (a1 : Int) (a2 : Int) (a3 : Int) : Option (S54 × Bool × Int × S131) := (F60b0.f p0).bind (fun r6 => if (!r6) = true then (some (((S54.mk 0 0 0 0 ([] : (List Int))), false, 1, p0))) else (lt ((decide (a2 < 0)) || (decide (a3 < 0))) fun q9 => lt (q9 || (decide (a1 < p0.f4))) fun q12 => if q12 = true then (some (((S54.mk 0 0 0 0 ([] : (List Int))), false, 2, p0))) else ((F63b0.f p0 a1 a2 a3).bind (fun r17 => if r17.1 = 0 then (if r17.2.1 < 0 then (some (((S54.mk 0 0 0 0 ([] : (List Int))), false, 0, (S131.mk p0.f0 p0.f1 p0.f2 p0.f3 a1)))) else (if 0 ≤ (0 : Int) ∧ (0 : Int) < (r17.2.2.length : Int) then (if 0 ≤ r17.2.1 ∧ r17.2.1 < (r17.2.2.length : Int) then ((if r17.2.1 > 0 then (if 0 ≤ r17.2.1 ∧ r17.2.1 < (r17.2.2.length : Int) then ((F144.f ((rd r17.2.2 r17.2.1).f1) ((rd r17.2.2 (0 : Int)).f1)).bind (fun r1175 => if r1175.2 ≠ 0 then (some (Out.ret (((S54.mk 0 0 0 0 ([] : (List Int))), false, r1175.2, p0)))) else ((F64.f r1175.1).bind (fun r1598 => some (Out.go (S54.mk ((rd r17.2.2 (0 : Int)).f0) ((rd r17.2.2 r17.2.1).f0) 0 ((rd r17.2.2 (0 : Int)).f0) r1598)))))) else none) else (some (Out.go (S54.mk ((rd r17.2.2 (0 : Int)).f0) ((rd r17.2.2 r17.2.1).f0) 0 ((rd r17.2.2 (0 : Int)).f0) ([] : (List Int))))) : Option (Out (S54 × Bool × Int × S131) (S54))).bind (fun t688 => Out.el t688 (fun r_ => some r_) (fun s689 => if 0 ≤ r17.2.1 ∧ r17.2.1 < (r17.2.2.length : Int) then (lt (r17.2.2.set r17.2.1.toNat (S128.mk ((rd r17.2.2 r17.2.1).f0) ((rd r17.2.2 r17.2.1).f1) a1)) fun n1607 => (some ((s689, true, 0, (S131.mk n1607 p0.f1 a1 true a1))))) else none))) else none) else none)) else (if r17.1 = 1 then (if r17.2.1 < 0 then (some (((S54.mk 0 0 0 0 ([] : (List Int))), false, 0, (S131.mk p0.f0 p0.f1 p0.f2 p0.f3 a1)))) else (if 0 ≤ (0 : Int) ∧ (0 : Int) < (p0.f0.length : Int) then (if 0 ≤ r17.2.1 ∧ r17.2.1 < (p0.f0.length : Int) then ((if r17.2.1 > 0 then (if 0 ≤ r17.2.1 ∧ r17.2.1 < (p0.f0.length : Int) then ((F144.f ((rd p0.f0 r17.2.1).f1) ((rd p0.f0 (0 : Int)).f1)).bind (fun r2765 => if r2765.2 ≠ 0 then (some (Out.ret (((S54.mk 0 0 0 0 ([] : (List Int))), false, r2765.2, p0)))) else ((F64.f r2765.1).bind (fun r3188 => some (Out.go (S54.mk ((rd p0.f0 (0 : Int)).f0) ((rd p0.f0 r17.2.1).f0) 0 ((rd p0.f0 (0 : Int)).f0) r3188)))))) else none) else (some (Out.go (S54.mk ((rd p0.f0 (0 : Int)).f0) ((rd p0.f0 r17.2.1).f0) 0 ((rd p0.f0 (0 : Int)).f0) ([] : (List Int))))) : Option (Out (S54 × Bool × Int × S131) (S54))).bind (fun t2278 => Out.el t2278 (fun r_ => some r_) (fun s2279 => if 0 ≤ r17.2.1 ∧ r17.2.1 < (p0.f0.length : Int) then (lt (p0.f0.set r17.2.1.toNat (S128.mk ((rd p0.f0 r17.2.1).f0) ((rd p0.f0 r17.2.1).f1) a1)) fun n3197 => (some ((s2279, true, 0, (S131.mk n3197 p0.f1 a1 true a1))))) else none))) else none) else none)) else (none))))))
set_option maxHeartbeats 2000000 in
set_option maxRecDepth 100000 in
theorem F25b0.ok {p0 : S131} {a1 : Int} {a2 : Int} {a3 : Int} {b0_ : Nat} {A0_0 : Option Addr} {c0_0 : Nat} {r : S54 × Bool × Int × S131} (H : F25b0.f p0 a1 a2 a3 = some r) : SCA Try.prog 25 #[.pointer (some ⟨b0_, 0, none⟩), .int .u64 a1, .int .i64 a2, .int .i64 a3] [Blk b0_ 131 [.slice A0_0 p0.f0.length c0_0, .string p0.f1.f0, .int .u64 p0.f2, .bool p0.f3, .int .u64 p0.f4], Buf k128 128 A0_0 c0_0 p0.f0] (fun v B => ∃ (A0_0_ : Option Addr) (c0_0_ : Nat), ∃ (P0_0_ : Option Addr) (q0_0_ : Nat), v = .tuple #[.agg #[.int .u64 r.1.f0, .int .u64 r.1.f1, .int .u64 r.1.f2, .int .u64 r.1.f3, .slice A0_0_ r.1.f4.length c0_0_], .bool r.2.1, .int .i64 r.2.2.1] ∧ B = [Buf (Kd.int .u8) 5 A0_0_ c0_0_ r.1.f4, Blk b0_ 131 [.slice P0_0_ r.2.2.2.f0.length q0_0_, .string r.2.2.2.f1.f0, .int .u64 r.2.2.2.f2, .bool r.2.2.2.f3, .int .u64 r.2.2.2.f4], Buf k128 128 P0_0_ q0_0_ r.2.2.2.f0]) := by
  refine SCA_of_body Try.func25 rfl rfl ?_
  unfold F25b0.f at H
  refine SA_seq ?_
  refine SA_region ?_
  refine RA_step rfl (OA_alloc rfl zero54 fun b3 => ?_)
  refine RA_step rfl (OA_v (v := .bool false) rfl (V_assign rfl) ?_)
  refine RA_step rfl (OA_v (v := .int .i64 0) rfl (V_assign rfl) ?_)
  refine RA_nil ?_
  refine at_normal ?_
  refine SA_seq ?_
  refine SA_block ?_
  refine SA_seq ?_
  refine SA.fact (cap_of (k := 1) rfl) fun hc5 => ?_
  refine SA_region ?_
  refine RA_step rfl (OA_v (v := .pointer (some ⟨b0_, 0, none⟩)) rfl (V_move rfl) ?_)
  obtain ⟨r6, C3200, H⟩ := g_bind H
  refine RA_step rfl (OA_callA [0, 1] [2] rfl (X_fn (vs := [.pointer (some ⟨b0_, 0, none⟩)]) Try.func60 nm60 rfl rfl) rfl (F60b0.ok (b0_ := b0_) (A0_0 := A0_0) (c0_0 := c0_0) (p0 := p0) C3200) rfl ?_)
  rintro _ _ ⟨rfl, rfl⟩
  refine RA_step rfl (OA_v (v := .bool (!r6)) rfl (V_not rfl) ?_)
  refine RA_step rfl (OA_v (v := .bool (!r6)) rfl (V_assign rfl) ?_)
  refine RA_nil ?_
  refine at_normal ?_
  by_cases h7 : (!r6) = true
  · replace H := g_ift h7 H
    refine SA_condTb rfl h7 ?_
    refine SA_seq ?_
    refine SA_region ?_
    refine RA_step rfl (OA_r rfl (VR_loadA_blk (b := b3) (m := 0) (k := 2) (vs := [.int .u64 0, .int .u64 0, .int .u64 0, .int .u64 0, .slice none 0 0]) Try.underlying54 rfl sz54 rfl rfl rfl) ?_)
    refine RA_step rfl (OA_st (b := b3) (m := 0) (k := 2) (vs := [.int .u64 0, .int .u64 0, .int .u64 0, .int .u64 0, .slice none 0 0]) (cs' := [.int .u64 0, .int .u64 0, .int .u64 0, .int .u64 0, .slice none 0 0]) rfl rfl rfl rfl rfl rfl sz54 rfl rfl ?_)
    refine RA_step rfl (OA_v (v := .bool false) rfl (V_assign rfl) ?_)
    refine RA_step rfl (OA_v (v := .int .i64 1) rfl (V_assign rfl) ?_)
    refine RA_nil ?_
    refine at_normal ?_
    refine SA_ret ?_
    refine inb_ret ?_
    refine thn_ret ?_
    have hr_ := Option.some.inj H
    subst hr_
    exact BQ_RL (rs := [.cell 8 54, .tmp 9, .tmp 10]) (vs := [.agg #[.int .u64 0, .int .u64 0, .int .u64 0, .int .u64 0, .slice none 0 0], .bool false, .int .i64 1]) [Buf (Kd.int .u8) 5 none 0 ([] : (List Int)), Blk b0_ 131 [.slice A0_0 p0.f0.length c0_0, .string p0.f1.f0, .int .u64 p0.f2, .bool p0.f3, .int .u64 p0.f4], Buf k128 128 A0_0 c0_0 p0.f0] rfl ⟨RV.cell (k := 2) rfl rfl Try.underlying54 rfl sz54, RV.tmp rfl, RV.tmp rfl, trivial⟩ rfl ((Gh.nilBuf (Kd.int .u8) 5).trans (Gh.sel [3, 0, 1] rfl rfl)) ⟨none, 0, A0_0, c0_0, rfl, rfl⟩
  replace H := g_iff h7 H
  refine SA_condFb rfl h7 ?_
  refine SA_seq ?_
  refine SA_region ?_
  refine RA_step rfl (OA_v (v := .int .i64 a2) rfl (V_move rfl) ?_)
  refine RA_step rfl (OA_v (v := .bool (decide (a2 < 0))) rfl (V_lss rfl rfl) ?_)
  refine RA_step rfl (OA_v (v := .bool (decide (a2 < 0))) rfl (V_move rfl) ?_)
  obtain ⟨q9, hq9, H⟩ := g_lt H
  refine RA_cut 3 (fun e ds As => St [(0, .pointer (some ⟨b0_, 0, none⟩)), (1, .int .u64 a1), (2, .int .i64 a2), (3, .int .i64 a3), (8, .pointer (some ⟨b3, 0, none⟩)), (25, .bool q9)] [Blk b0_ 131 [.slice A0_0 p0.f0.length c0_0, .string p0.f1.f0, .int .u64 p0.f2, .bool p0.f3, .int .u64 p0.f4], Buf k128 128 A0_0 c0_0 p0.f0, Blk b3 54 [.int .u64 0, .int .u64 0, .int .u64 0, .int .u64 0, .slice none 0 0]] e ds As) ?_ ?_
  · by_cases h10 : a2 < 0
    · refine RA_noB rfl rfl rfl rfl (dec_t h10) rfl ?_
      refine RA_noB rfl rfl rfl rfl (dec_t h10) rfl ?_
      refine RA_step rfl (OA_v rfl (V_pickT rfl (dec_t h10) rfl) ?_)
      refine RA_nil ?_
      exact at_normal (St.mk1 (aeq rfl (aeq rfl (aeq rfl (aeq rfl (aeq rfl (aeq (congrArg Value.bool (or_t hq9 (dec_t h10))) aeq0)))))) (Gh.sel [0, 1, 2] rfl rfl))
    refine RA_yesB rfl rfl rfl rfl (dec_f h10) (OA_v (v := .int .i64 a3) rfl (V_move rfl) ?_)
    refine RA_yesB rfl rfl rfl rfl (dec_f h10) (OA_v (v := .bool (decide (a3 < 0))) rfl (V_lss rfl rfl) ?_)
    refine RA_step rfl (OA_v rfl (V_pickF rfl (dec_f h10) rfl) ?_)
    refine RA_nil ?_
    exact at_normal (St.mk1 (aeq rfl (aeq rfl (aeq rfl (aeq rfl (aeq rfl (aeq (congrArg Value.bool (or_f hq9 (dec_f h10))) aeq0)))))) (Gh.sel [0, 1, 2] rfl rfl))
  rintro e ds As hst11
  refine RA.of_St rfl hst11 fun junk => ?_
  refine RA_step rfl (OA_v (v := .bool q9) rfl (V_move rfl) ?_)
  obtain ⟨q12, hq12, H⟩ := g_lt H
  refine RA_cut 7 (fun e ds As => St [(0, .pointer (some ⟨b0_, 0, none⟩)), (1, .int .u64 a1), (2, .int .i64 a2), (3, .int .i64 a3), (8, .pointer (some ⟨b3, 0, none⟩)), (33, .bool q12)] [Blk b0_ 131 [.slice A0_0 p0.f0.length c0_0, .string p0.f1.f0, .int .u64 p0.f2, .bool p0.f3, .int .u64 p0.f4], Buf k128 128 A0_0 c0_0 p0.f0, Blk b3 54 [.int .u64 0, .int .u64 0, .int .u64 0, .int .u64 0, .slice none 0 0]] e ds As) ?_ ?_
  · by_cases h13 : q9 = true
    · refine RA_noB rfl rfl rfl rfl (h13) rfl ?_
      refine RA_noB rfl rfl rfl rfl (h13) rfl ?_
      refine RA_noB rfl rfl rfl rfl (h13) rfl ?_
      refine RA_noB rfl rfl rfl rfl (h13) rfl ?_
      refine RA_noB rfl rfl rfl rfl (h13) rfl ?_
      refine RA_noB rfl rfl rfl rfl (h13) rfl ?_
      refine RA_step rfl (OA_v rfl (V_pickT rfl (h13) rfl) ?_)
      refine RA_nil ?_
      exact at_normal (St.mk1 (aeq rfl (aeq rfl (aeq rfl (aeq rfl (aeq rfl (aeq (congrArg Value.bool (or_t hq12 (h13))) aeq0)))))) (Gh.sel [0, 1, 2] rfl rfl))
    refine RA_yesB rfl rfl rfl rfl (bno h13) (OA_v (v := .int .u64 a1) rfl (V_move rfl) ?_)
    refine RA_yesB rfl rfl rfl rfl (bno h13) (OA_v (v := .pointer (some ⟨b0_, 0, none⟩)) rfl (V_move rfl) ?_)
    refine RA_yesB rfl rfl rfl rfl (bno h13) (OA_v (v := .pointer (some ⟨b0_, 0, none⟩)) rfl (V_nilCheck rfl) ?_)
    refine RA_yesB rfl rfl rfl rfl (bno h13) (OA_v (v := .pointer (some ((⟨b0_, 0, none⟩ : Addr).add 4))) rfl (V_fieldAddrN (B := ⟨b0_, 0, none⟩) (m := 0) (o := 4) Try.underlying131 rfl nz44 rfl rfl) ?_)
    refine RA_yesB rfl rfl rfl rfl (bno h13) (OA_r rfl (VR_load_blk (b := b0_) (m := 4) (k := 0) Try.underlying44 rfl rfl rfl rfl) ?_)
    refine RA_yesB rfl rfl rfl rfl (bno h13) (OA_v (v := .bool (decide (a1 < p0.f4))) rfl (V_lss rfl rfl) ?_)
    refine RA_step rfl (OA_v rfl (V_pickF rfl (bno h13) rfl) ?_)
    refine RA_nil ?_
    exact at_normal (St.mk1 (aeq rfl (aeq rfl (aeq rfl (aeq rfl (aeq rfl (aeq (congrArg Value.bool (or_f hq12 (bno h13))) aeq0)))))) (Gh.sel [0, 1, 2] rfl rfl))
  rintro e ds As hst14
  refine RA.of_St rfl hst14 fun junk => ?_
  refine RA_step rfl (OA_v (v := .bool q12) rfl (V_assign rfl) ?_)
  refine RA_nil ?_
  refine at_normal ?_
  by_cases h15 : q12 = true
  · replace H := g_ift h15 H
    refine SA_condTb rfl h15 ?_
    refine SA_seq ?_
    refine SA_region ?_
    refine RA_step rfl (OA_r rfl (VR_loadA_blk (b := b3) (m := 0) (k := 2) (vs := [.int .u64 0, .int .u64 0, .int .u64 0, .int .u64 0, .slice none 0 0]) Try.underlying54 rfl sz54 rfl rfl rfl) ?_)
    refine RA_step rfl (OA_st (b := b3) (m := 0) (k := 2) (vs := [.int .u64 0, .int .u64 0, .int .u64 0, .int .u64 0, .slice none 0 0]) (cs' := [.int .u64 0, .int .u64 0, .int .u64 0, .int .u64 0, .slice none 0 0]) rfl rfl rfl rfl rfl rfl sz54 rfl rfl ?_)
    refine RA_step rfl (OA_v (v := .bool false) rfl (V_assign rfl) ?_)
    refine RA_step rfl (OA_v (v := .int .i64 2) rfl (V_assign rfl) ?_)
    refine RA_nil ?_
    refine at_normal ?_
    refine SA_ret ?_
    refine inb_ret ?_
    refine thn_ret ?_
    have hr_ := Option.some.inj H
    subst hr_
    exact BQ_RL (rs := [.cell 8 54, .tmp 9, .tmp 10]) (vs := [.agg #[.int .u64 0, .int .u64 0, .int .u64 0, .int .u64 0, .slice none 0 0], .bool false, .int .i64 2]) [Buf (Kd.int .u8) 5 none 0 ([] : (List Int)), Blk b0_ 131 [.slice A0_0 p0.f0.length c0_0, .string p0.f1.f0, .int .u64 p0.f2, .bool p0.f3, .int .u64 p0.f4], Buf k128 128 A0_0 c0_0 p0.f0] rfl ⟨RV.cell (k := 2) rfl rfl Try.underlying54 rfl sz54, RV.tmp rfl, RV.tmp rfl, trivial⟩ rfl ((Gh.nilBuf (Kd.int .u8) 5).trans (Gh.sel [3, 0, 1] rfl rfl)) ⟨none, 0, A0_0, c0_0, rfl, rfl⟩
  replace H := g_iff h15 H
  refine SA_condFb rfl h15 ?_
  refine SA_skip ?_
  refine inb_normal ?_
  refine at_normal ?_
  refine SA_seq ?_
  refine SA_region ?_
  refine RA_step rfl (OA_v (v := .pointer (some ⟨b0_, 0, none⟩)) rfl (V_move rfl) ?_)
  refine RA_step rfl (OA_v (v := .int .u64 a1) rfl (V_move rfl) ?_)
  refine RA_step rfl (OA_v (v := .int .i64 a2) rfl (V_move rfl) ?_)
  refine RA_step rfl (OA_v (v := .int .i64 a3) rfl (V_move rfl) ?_)
  obtain ⟨r17, C3198, H⟩ := g_bind H
  refine RA_step rfl (OA_callA [0, 1] [2] rfl (X_fn (vs := [.pointer (some ⟨b0_, 0, none⟩), .int .u64 a1, .int .i64 a2, .int .i64 a3]) Try.func63 nm63 rfl rfl) rfl (F63b0.ok (b0_ := b0_) (A0_0 := A0_0) (c0_0 := c0_0) (p0 := p0) (a1 := a1) (a2 := a2) (a3 := a3) C3198) rfl ?_)
  rintro _ _ (⟨ht3199, A18, c19, rfl, rfl⟩ | ⟨ht3199, rfl, rfl⟩)
  · replace H := g_ift ht3199 H
    refine RA_step rfl (OA_v (v := .tuple #[.int .i64 r17.2.1, .slice A18 r17.2.2.length c19]) rfl (V_move rfl) ?_)
    refine RA_step rfl (OA_v (v := .int .i64 r17.2.1) rfl (V_extract rfl rfl) ?_)
    refine RA_step rfl (OA_v (v := .slice A18 r17.2.2.length c19) rfl (V_extract rfl rfl) ?_)
    refine RA_step rfl (OA_v (v := .int .i64 r17.2.1) rfl (V_assign rfl) ?_)
    refine RA_step rfl (OA_v (v := .slice A18 r17.2.2.length c19) rfl (V_assign rfl) ?_)
    refine RA_nil ?_
    refine at_normal ?_
    refine SA_seq ?_
    refine SA_seq ?_
    refine SA_region ?_
    refine RA_step rfl (OA_v (v := .int .i64 r17.2.1) rfl (V_move rfl) ?_)
    refine RA_step rfl (OA_v (v := .bool (decide (r17.2.1 < 0))) rfl (V_lss rfl rfl) ?_)
    refine RA_nil ?_
    refine at_normal ?_
    by_cases h21 : r17.2.1 < 0
    · replace H := g_ift h21 H
      refine SA_condT rfl h21 ?_
      refine SA_seq ?_
      refine SA_region ?_
      refine RA_step rfl (OA_v (v := .pointer (some ⟨b0_, 0, none⟩)) rfl (V_move rfl) ?_)
      refine RA_step rfl (OA_v (v := .int .u64 a1) rfl (V_move rfl) ?_)
      refine RA_step rfl (OA_v (v := .pointer (some ⟨b0_, 0, none⟩)) rfl (V_nilCheck rfl) ?_)
      refine RA_step rfl (OA_v (v := .pointer (some ((⟨b0_, 0, none⟩ : Addr).add 4))) rfl (V_fieldAddrN (B := ⟨b0_, 0, none⟩) (m := 0) (o := 4) Try.underlying131 rfl nz44 rfl rfl) ?_)
      refine RA_step rfl (OA_st (b := b0_) (m := 4) (k := 1) (vs := [.int .u64 a1]) (cs' := [.slice A0_0 p0.f0.length c0_0, .string p0.f1.f0, .int .u64 p0.f2, .bool p0.f3, .int .u64 a1]) rfl rfl rfl rfl rfl rfl sz44 rfl rfl ?_)
      refine RA_nil ?_
      refine at_normal ?_
      refine SA_seq ?_
      refine SA_region ?_
      refine RA_step rfl (OA_r rfl (VR_loadA_blk (b := b3) (m := 0) (k := 3) (vs := [.int .u64 0, .int .u64 0, .int .u64 0, .int .u64 0, .slice none 0 0]) Try.underlying54 rfl sz54 rfl rfl rfl) ?_)
      refine RA_step rfl (OA_st (b := b3) (m := 0) (k := 3) (vs := [.int .u64 0, .int .u64 0, .int .u64 0, .int .u64 0, .slice none 0 0]) (cs' := [.int .u64 0, .int .u64 0, .int .u64 0, .int .u64 0, .slice none 0 0]) rfl rfl rfl rfl rfl rfl sz54 rfl rfl ?_)
      refine RA_step rfl (OA_v (v := .bool false) rfl (V_assign rfl) ?_)
      refine RA_step rfl (OA_v (v := .int .i64 0) rfl (V_assign rfl) ?_)
      refine RA_nil ?_
      refine at_normal ?_
      refine SA_ret ?_
      refine thn_ret ?_
      have hr_ := Option.some.inj H
      subst hr_
      exact BQ_RL (rs := [.cell 8 54, .tmp 9, .tmp 10]) (vs := [.agg #[.int .u64 0, .int .u64 0, .int .u64 0, .int .u64 0, .slice none 0 0], .bool false, .int .i64 0]) [Buf (Kd.int .u8) 5 none 0 ([] : (List Int)), Blk b0_ 131 [.slice A0_0 p0.f0.length c0_0, .string p0.f1.f0, .int .u64 p0.f2, .bool p0.f3, .int .u64 a1], Buf k128 128 A0_0 c0_0 p0.f0] rfl ⟨RV.cell (k := 3) rfl rfl Try.underlying54 rfl sz54, RV.tmp rfl, RV.tmp rfl, trivial⟩ rfl ((Gh.nilBuf (Kd.int .u8) 5).trans (Gh.sel [4, 1, 2] rfl rfl)) ⟨none, 0, A0_0, c0_0, rfl, rfl⟩
    replace H := g_iff h21 H
    refine SA_condF rfl h21 ?_
    refine SA_skip ?_
    refine at_normal ?_
    refine SA_seq ?_
    refine SA_region ?_
    refine RA_step rfl (OA_v (v := .slice A18 r17.2.2.length c19) rfl (V_move rfl) ?_)
    obtain ⟨⟨g23, g24⟩, H⟩ := g_pos H
    refine RA_step rfl (OA_r rfl (VR_index (i := (0 : Int)) Try.underlying129 sz128 rfl rfl (Src.buf (k := 0) rfl) g23 g24) ?_)
    refine RA_step rfl (OA_r rfl (VR_loadA_el (enc := enc128) (i := (0 : Int)) (j := (0 : Int).toNat * 3) (m := 0) (sz := 3) (vs := [.int .u64 ((rd r17.2.2 (0 : Int)).f0), .string (((rd r17.2.2 (0 : Int)).f1).f0), .int .u64 ((rd r17.2.2 (0 : Int)).f2)]) Try.underlying128 rfl sz128 rfl rfl rfl (Src.buf (k := 0) rfl) g23 g24 (fun _ _ h => h) rfl) ?_)
    refine RA_step rfl (OA_alloc rfl zero128 fun b25 => ?_)
    refine RA_step rfl (OA_st (b := b25) (m := 0) (k := 4) (vs := [.int .u64 ((rd r17.2.2 (0 : Int)).f0), .string (((rd r17.2.2 (0 : Int)).f1).f0), .int .u64 ((rd r17.2.2 (0 : Int)).f2)]) (cs' := [.int .u64 ((rd r17.2.2 (0 : Int)).f0), .string (((rd r17.2.2 (0 : Int)).f1).f0), .int .u64 ((rd r17.2.2 (0 : Int)).f2)]) rfl rfl rfl rfl rfl rfl sz128 rfl rfl ?_)
    refine RA_nil ?_
    refine at_normal ?_
    refine SA_seq ?_
    refine SA_drawHq [0, 1, 2, 3, 4, 5, 6, 7, 8, 9] #[[], [0], [], [], [2, 3], [2, 3, 4], [2, 3, 4, 5], [], [7], [0, 1, 2, 3, 4, 5, 6, 7, 8], [0, 1, 2, 3, 4, 5, 6, 7, 8, 9]] [0, 4] [1, 2, 3] mixed rfl rfl rfl (PanOk.thn PanOk.body) fun I0 hS h0 hh0 w0 sH dd pk => ?_
    refine DH_take (v := .pointer (some ⟨b25, 0, none⟩)) 0 (by kernel_rfl) rfl rfl (.no rfl) pk sH rfl (VR.ofV (V_fieldAddrN (B := ⟨b25, 0, none⟩) (m := 0) (o := 0) Try.underlying128 rfl nz44 rfl rfl)) ?_
    refine DH_take 1 (by kernel_rfl) rfl rfl (.no rfl) pk sH rfl (VR_load_blk (b := b25) (m := 0) (k := 1) Try.underlying44 rfl rfl rfl rfl) ?_
    refine DH_take (v := .slice A18 r17.2.2.length c19) 2 (by kernel_rfl) rfl rfl (.no rfl) pk sH rfl (VR.ofV (V_move rfl)) ?_
    refine DH_take (v := .int .i64 r17.2.1) 3 (by kernel_rfl) rfl rfl (.no rfl) pk sH rfl (VR.ofV (V_move rfl)) ?_
    obtain ⟨⟨g267, g268⟩, H⟩ := g_pos H
    refine DH_take 4 (by kernel_rfl) rfl rfl (.no rfl) pk sH rfl (VR_index (i := r17.2.1) Try.underlying129 sz128 rfl rfl (Src.buf (k := 0) rfl) g267 g268) ?_
    refine DH_take (v := .pointer (some ((el A18 (r17.2.1.toNat * 3)).add 0))) 5 (by kernel_rfl) rfl rfl (.no rfl) pk sH rfl (VR.ofV (V_fieldAddrN (B := el A18 (r17.2.1.toNat * 3)) (m := 0) (o := 0) Try.underlying128 rfl nz44 rfl rfl)) ?_
    refine DH_take 6 (by kernel_rfl) rfl rfl (.no rfl) pk sH rfl (VR_load_el (enc := enc128) (i := r17.2.1) (j := r17.2.1.toNat * 3) (m := 0) (sz := 3) Try.underlying44 rfl rfl rfl rfl (Src.buf (k := 0) rfl) g267 g268 (fun _ _ h => h) rfl) ?_
    refine DH_take (v := .pointer (some ⟨b25, 0, none⟩)) 7 (by kernel_rfl) rfl rfl (.no rfl) pk sH rfl (VR.ofV (V_fieldAddrN (B := ⟨b25, 0, none⟩) (m := 0) (o := 0) Try.underlying128 rfl nz44 rfl rfl)) ?_
    refine DH_take 8 (by kernel_rfl) rfl rfl (.no rfl) pk sH rfl (VR_load_blk (b := b25) (m := 0) (k := 1) Try.underlying44 rfl rfl rfl rfl) ?_
    refine DH_take (v := .agg #[.int .u64 ((rd r17.2.2 (0 : Int)).f0), .int .u64 ((rd r17.2.2 r17.2.1).f0), .int .u64 0, .int .u64 ((rd r17.2.2 (0 : Int)).f0), .slice none 0 0]) 9 (by kernel_rfl) rfl rfl (.no rfl) pk sH rfl (VR.ofV (V_build (cells := [.int .u64 ((rd r17.2.2 (0 : Int)).f0), .int .u64 ((rd r17.2.2 r17.2.1).f0), .int .u64 0, .int .u64 ((rd r17.2.2 (0 : Int)).f0), .slice none 0 0]) zero54 Try.underlying54 plc54 (by kernel_rfl))) ?_
    refine DH_one 10 dd (by kernel_rfl) rfl (.no rfl) (OA_st (b := b3) (m := 0) (k := 2) (vs := [.int .u64 ((rd r17.2.2 (0 : Int)).f0), .int .u64 ((rd r17.2.2 r17.2.1).f0), .int .u64 0, .int .u64 ((rd r17.2.2 (0 : Int)).f0), .slice none 0 0]) (cs' := [.int .u64 ((rd r17.2.2 (0 : Int)).f0), .int .u64 ((rd r17.2.2 r17.2.1).f0), .int .u64 0, .int .u64 ((rd r17.2.2 (0 : Int)).f0), .slice none 0 0]) rfl rfl rfl rfl rfl rfl sz54 rfl rfl ?_)
    refine DH_open dd sH ?_
    refine DN_done (by kernel_rfl) ?_
    refine at_normal ?_
    refine SA.of_St (l := [(0, .pointer (some ⟨b0_, 0, none⟩)), (1, .int .u64 a1), (8, .pointer (some ⟨b3, 0, none⟩)), (11, .int .i64 r17.2.1), (12, .slice A18 r17.2.2.length c19), (13, .pointer (some ⟨b25, 0, none⟩))]) (B := [Blk b0_ 131 [.slice A0_0 p0.f0.length c0_0, .string p0.f1.f0, .int .u64 p0.f2, .bool p0.f3, .int .u64 p0.f4], Buf k128 128 A0_0 c0_0 p0.f0, Blk b3 54 [.int .u64 ((rd r17.2.2 (0 : Int)).f0), .int .u64 ((rd r17.2.2 r17.2.1).f0), .int .u64 0, .int .u64 ((rd r17.2.2 (0 : Int)).f0), .slice none 0 0], Buf k128 128 A18 c19 r17.2.2, Blk b25 128 [.int .u64 ((rd r17.2.2 (0 : Int)).f0), .string (((rd r17.2.2 (0 : Int)).f1).f0), .int .u64 ((rd r17.2.2 (0 : Int)).f2)]]) (St.mk1 (aeq rfl (aeq rfl (aeq rfl (aeq rfl (aeq rfl (aeq rfl aeq0)))))) (Gh.sel [2, 3, 4, 0, 1] (by kernel_rfl) (by kernel_rfl))) fun junk => ?_
    refine SA_seq ?_
    refine SA_seq ?_
    refine SA_region ?_
    refine RA_step rfl (OA_v (v := .int .i64 r17.2.1) rfl (V_move rfl) ?_)
    refine RA_step rfl (OA_v (v := .bool (decide (r17.2.1 > 0))) rfl (V_gtr rfl rfl) ?_)
    refine RA_nil ?_
    refine at_normal ?_
    obtain ⟨t688, H, Bt688⟩ := g_bind H
    refine SA_mid (fun e ds As => ∃ (s689 : S54), t688 = Out.go s689 ∧ ∃ (b690 : Nat), ∃ (A691 : Option Addr) (c692 : Nat), St [(0, .pointer (some ⟨b0_, 0, none⟩)), (1, .int .u64 a1), (8, .pointer (some ⟨b690, 0, none⟩)), (11, .int .i64 r17.2.1), (12, .slice A18 r17.2.2.length c19)] [Blk b690 54 [.int .u64 s689.f0, .int .u64 s689.f1, .int .u64 s689.f2, .int .u64 s689.f3, .slice A691 s689.f4.length c692], Buf (Kd.int .u8) 5 A691 c692 s689.f4, Blk b0_ 131 [.slice A0_0 p0.f0.length c0_0, .string p0.f1.f0, .int .u64 p0.f2, .bool p0.f3, .int .u64 p0.f4], Buf k128 128 A0_0 c0_0 p0.f0, Buf k128 128 A18 c19 r17.2.2] e ds As) ?_ ?_
    · by_cases h694 : r17.2.1 > 0
      · replace H := g_ift h694 H
        refine SA_condT rfl h694 ?_
        refine SA_seq ?_
        refine SA_seq ?_
        refine SA_drawHq (0 :: 1 :: 2 :: 3 :: 4 :: 5 :: 6 :: 7 :: 9 :: 10 :: 11 :: 12 :: 14 :: []) (List.toArray ([] :: [] :: [0, 1] :: [0, 1, 2] :: [0, 1, 2, 3] :: [0, 1, 2, 3, 4] :: [] :: [6] :: [0, 1, 2, 3, 4, 5, 6, 7] :: [0, 1, 2, 3, 4, 5, 6, 7] :: [0, 1, 2, 3, 4, 5, 6, 7, 9] :: [0, 1, 2, 3, 4, 5, 6, 7, 9] :: [0, 1, 2, 3, 4, 5, 6, 7, 9, 10] :: [0, 1, 2, 3, 4, 5, 6, 7, 9, 10, 12] :: [0, 1, 2, 3, 4, 5, 6, 7, 9, 10, 11, 12] :: [])) [3, 4] [0, 1, 2] mixed rfl rfl rfl (PanOk.thn (PanOk.thn (PanOk.thn (PanOk.thn PanOk.body)))) fun I0 hS h0 hh0 w0 sH dd pk => ?_
        refine DH_take (v := .slice A18 r17.2.2.length c19) 0 (by kernel_rfl) rfl rfl (.no rfl) pk sH rfl (VR.ofV (V_move rfl)) ?_
        refine DH_take (v := .int .i64 r17.2.1) 1 (by kernel_rfl) rfl rfl (.no rfl) pk sH rfl (VR.ofV (V_move rfl)) ?_
        obtain ⟨⟨g815, g816⟩, H⟩ := g_pos H
        refine DH_take 2 (by kernel_rfl) rfl rfl (.no rfl) pk sH rfl (VR_index (i := r17.2.1) Try.underlying129 sz128 rfl rfl (Src.buf (k := 0) rfl) g815 g816) ?_
        refine DH_take (v := .pointer (some ((el A18 (r17.2.1.toNat * 3)).add 1))) 3 (by kernel_rfl) rfl rfl (.no rfl) pk sH rfl (VR.ofV (V_fieldAddrN (B := el A18 (r17.2.1.toNat * 3)) (m := 0) (o := 1) Try.underlying128 rfl nz41 rfl rfl)) ?_
        refine DH_take 4 (by kernel_rfl) rfl rfl (.no rfl) pk sH rfl (VR_loadA_el (enc := enc128) (i := r17.2.1) (j := r17.2.1.toNat * 3) (m := 1) (sz := 3) (vs := [.string (((rd r17.2.2 r17.2.1).f1).f0)]) Try.underlying41 rfl sz41 rfl rfl rfl (Src.buf (k := 0) rfl) g815 g816 (fun _ _ h => h) rfl) ?_
        refine DH_take (v := .iface 41 (.agg #[.string (((rd r17.2.2 r17.2.1).f1).f0)])) 5 (by kernel_rfl) rfl rfl (.no rfl) pk sH rfl (VR.ofV (V_iface con41 rfl)) ?_
        refine DH_take (v := .pointer (some ((⟨b25, 0, none⟩ : Addr).add 1))) 6 (by kernel_rfl) rfl rfl (.no rfl) pk sH rfl (VR.ofV (V_fieldAddrN (B := ⟨b25, 0, none⟩) (m := 0) (o := 1) Try.underlying128 rfl nz41 rfl rfl)) ?_
        refine DH_take 7 (by kernel_rfl) rfl rfl (.no rfl) pk sH rfl (VR_loadA_blk (b := b25) (m := 1) (k := 1) (vs := [.string (((rd r17.2.2 (0 : Int)).f1).f0)]) Try.underlying41 rfl sz41 rfl rfl rfl) ?_
        obtain ⟨r1175, C1179, H⟩ := g_bind H
        refine DH_one 8 dd (by kernel_rfl) rfl (.no rfl) (OA_callA [] [0, 1, 2] rfl (X_inv (vs := [.agg #[.string (((rd r17.2.2 (0 : Int)).f1).f0)]]) rfl met41_144 Try.func144 nm144 rfl rfl) rfl (F144.ok (a0 := ((rd r17.2.2 r17.2.1).f1)) (a1 := ((rd r17.2.2 (0 : Int)).f1)) C1179) rfl ?_)
        rintro _ _ ⟨A1176, c1177, rfl, rfl⟩
        refine DH_take (v := .tuple #[.slice A1176 r1175.1.length c1177, .int .i64 r1175.2]) 9 (by kernel_rfl) rfl rfl (.no rfl) pk sH rfl (VR.ofV (V_move rfl)) ?_
        refine DH_take (v := .slice A1176 r1175.1.length c1177) 10 (by kernel_rfl) rfl rfl (.no rfl) pk sH rfl (VR.ofV (V_extract rfl rfl)) ?_
        refine DH_take (v := .int .i64 r1175.2) 11 (by kernel_rfl) rfl rfl (.no rfl) pk sH rfl (VR.ofV (V_extract rfl rfl)) ?_
        refine DH_take (v := .pointer (some ((⟨b3, 0, none⟩ : Addr).add 4))) 12 (by kernel_rfl) rfl rfl (.no rfl) pk sH rfl (VR.ofV (V_fieldAddrN (B := ⟨b3, 0, none⟩) (m := 0) (o := 4) Try.underlying54 rfl nz23 rfl rfl)) ?_
        refine DH_one 13 dd (by kernel_rfl) rfl (.no rfl) (OA_st (b := b3) (m := 4) (k := 3) (vs := [.slice A1176 r1175.1.length c1177]) (cs' := [.int .u64 ((rd r17.2.2 (0 : Int)).f0), .int .u64 ((rd r17.2.2 r17.2.1).f0), .int .u64 0, .int .u64 ((rd r17.2.2 (0 : Int)).f0), .slice A1176 r1175.1.length c1177]) rfl rfl rfl rfl rfl rfl sz23 rfl rfl ?_)
        refine DH_take (v := .int .i64 r1175.2) 14 (by kernel_rfl) rfl rfl (.no rfl) pk sH rfl (VR.ofV (V_assign rfl)) ?_
        refine DH_open dd sH ?_
        refine DN_done (by kernel_rfl) ?_
        refine at_normal ?_
        refine SA_seq ?_
        refine SA_region ?_
        refine RA_step rfl (OA_v (v := .int .i64 r1175.2) rfl (V_move rfl) ?_)
        refine RA_step rfl (OA_v (v := .bool (decide (r1175.2 ≠ 0))) rfl (V_neq rfl rfl) ?_)
        refine RA_nil ?_
        refine at_normal ?_
        by_cases h1596 : r1175.2 ≠ 0
        · replace H := g_ift h1596 H
          refine SA_condT rfl h1596 ?_
          refine SA_seq ?_
          refine SA_region ?_
          refine RA_step rfl (OA_v (v := .agg #[.int .u64 0, .int .u64 0, .int .u64 0, .int .u64 0, .slice none 0 0]) rfl (V_build (cells := [.int .u64 0, .int .u64 0, .int .u64 0, .int .u64 0, .slice none 0 0]) zero54 Try.underlying54 plc54 (by kernel_rfl)) ?_)
          refine RA_step rfl (OA_v (v := .int .i64 r1175.2) rfl (V_move rfl) ?_)
          refine RA_step rfl (OA_st (b := b3) (m := 0) (k := 5) (vs := [.int .u64 0, .int .u64 0, .int .u64 0, .int .u64 0, .slice none 0 0]) (cs' := [.int .u64 0, .int .u64 0, .int .u64 0, .int .u64 0, .slice none 0 0]) rfl rfl rfl rfl rfl rfl sz54 rfl rfl ?_)
          refine RA_step rfl (OA_v (v := .bool false) rfl (V_assign rfl) ?_)
          refine RA_step rfl (OA_v (v := .int .i64 r1175.2) rfl (V_assign rfl) ?_)
          refine RA_nil ?_
          refine at_normal ?_
          refine SA_ret ?_
          refine thn_ret ?_
          refine thn_ret ?_
          refine thn_ret ?_
          have hr_ := Option.some.inj H
          subst hr_
          have hb_ := el_ret Bt688
          have hr_ := Option.some.inj hb_
          clear hb_
          subst hr_
          exact BQ_RL (rs := [.cell 8 54, .tmp 9, .tmp 10]) (vs := [.agg #[.int .u64 0, .int .u64 0, .int .u64 0, .int .u64 0, .slice none 0 0], .bool false, .int .i64 r1175.2]) [Buf (Kd.int .u8) 5 none 0 ([] : (List Int)), Blk b0_ 131 [.slice A0_0 p0.f0.length c0_0, .string p0.f1.f0, .int .u64 p0.f2, .bool p0.f3, .int .u64 p0.f4], Buf k128 128 A0_0 c0_0 p0.f0] rfl ⟨RV.cell (k := 5) rfl rfl Try.underlying54 rfl sz54, RV.tmp rfl, RV.tmp rfl, trivial⟩ rfl ((Gh.nilBuf (Kd.int .u8) 5).trans (Gh.sel [6, 3, 4] rfl rfl)) ⟨none, 0, A0_0, c0_0, rfl, rfl⟩
        replace H := g_iff h1596 H
        refine SA_condF rfl h1596 ?_
        refine SA_skip ?_
        refine at_normal ?_
        refine SA_region ?_
        refine RA_step rfl (OA_v (v := .pointer (some ((⟨b3, 0, none⟩ : Addr).add 4))) rfl (V_fieldAddrN (B := ⟨b3, 0, none⟩) (m := 0) (o := 4) Try.underlying54 rfl nz23 rfl rfl) ?_)
        refine RA_step rfl (OA_r rfl (VR_load_blk (b := b3) (m := 4) (k := 5) Try.underlying23 rfl rfl rfl rfl) ?_)
        obtain ⟨r1598, C1602, H⟩ := g_bind H
        refine RA_step rfl (OA.ghost (Gh.freeze (k := 2) rfl) (OA_callA [2] [0, 1, 2, 3, 4, 5] rfl (X_fn (vs := [.slice A1176 r1175.1.length c1177]) Try.func64 nm64 rfl rfl) rfl (F64.ok (l0 := r1175.1) (A0 := A1176) (c0 := c1177) C1602) rfl ?_))
        rintro _ _ ⟨A1599, c1600, rfl, rfl⟩
        refine RA_step rfl (OA_v (v := .pointer (some ((⟨b3, 0, none⟩ : Addr).add 4))) rfl (V_fieldAddrN (B := ⟨b3, 0, none⟩) (m := 0) (o := 4) Try.underlying54 rfl nz23 rfl rfl) ?_)
        refine RA_step rfl (OA_st (b := b3) (m := 4) (k := 6) (vs := [.slice A1599 r1598.length c1600]) (cs' := [.int .u64 ((rd r17.2.2 (0 : Int)).f0), .int .u64 ((rd r17.2.2 r17.2.1).f0), .int .u64 0, .int .u64 ((rd r17.2.2 (0 : Int)).f0), .slice A1599 r1598.length c1600]) rfl rfl rfl rfl rfl rfl sz23 rfl rfl ?_)
        refine RA_nil ?_
        have hr_ := Option.some.inj H
        subst hr_
        exact at_normal ⟨(S54.mk ((rd r17.2.2 (0 : Int)).f0) ((rd r17.2.2 r17.2.1).f0) 0 ((rd r17.2.2 (0 : Int)).f0) r1598), rfl, b3, A1599, c1600, St.mk1 (aeq rfl (aeq rfl (aeq rfl (aeq rfl (aeq rfl aeq0))))) (Gh.sel [6, 0, 4, 5, 1] rfl rfl)⟩
      replace H := g_iff h694 H
      refine SA_condF rfl h694 ?_
      refine SA_skip ?_
      have hr_ := Option.some.inj H
      subst hr_
      exact at_normal ⟨(S54.mk ((rd r17.2.2 (0 : Int)).f0) ((rd r17.2.2 r17.2.1).f0) 0 ((rd r17.2.2 (0 : Int)).f0) ([] : (List Int))), rfl, b3, none, 0, St.mk1 (aeq rfl (aeq rfl (aeq rfl (aeq rfl (aeq rfl aeq0))))) ((Gh.nilBuf (Kd.int .u8) 5).trans (Gh.sel [2, 5, 0, 1, 3] rfl rfl))⟩
    rintro e ds As ⟨s689, ht, b690, A691, c692, hst1604⟩
    clear H
    subst ht
    replace Bt688 := el_go Bt688
    have H := Bt688
    clear Bt688
    refine at_normal ?_
    refine SA.of_St hst1604 fun junk => ?_
    refine SA_seq ?_
    refine SA_region ?_
    refine RA_step rfl (OA_v (v := .slice A18 r17.2.2.length c19) rfl (V_move rfl) ?_)
    refine RA_step rfl (OA_v (v := .int .i64 r17.2.1) rfl (V_move rfl) ?_)
    refine RA_step rfl (OA_v (v := .int .u64 a1) rfl (V_move rfl) ?_)
    obtain ⟨⟨g1605, g1606⟩, H⟩ := g_pos H
    refine RA_step rfl (OA_r rfl (VR_index (i := r17.2.1) Try.underlying129 sz128 rfl rfl (Src.buf (k := 4) rfl) g1605 g1606) ?_)
    refine RA_step rfl (OA_v (v := .pointer (some ((el A18 (r17.2.1.toNat * 3)).add 2))) rfl (V_fieldAddrN (B := el A18 (r17.2.1.toNat * 3)) (m := 0) (o := 2) Try.underlying128 rfl nz44 rfl rfl) ?_)
    obtain ⟨n1607, hn1607, H⟩ := g_lt H
    have hl_n1607 : n1607.length = r17.2.2.length := by rw [hn1607]; exact List.length_set
    refine RA_step rfl (OA_stEl (k := 4) (i := r17.2.1) (j := r17.2.1.toNat * 3) (m := 2) (sz := 3) (xs := r17.2.2) (vs := [.int .u64 a1]) (S128.mk ((rd r17.2.2 r17.2.1).f0) ((rd r17.2.2 r17.2.1).f1) a1) rfl rfl rfl rfl rfl rfl rfl rfl sz44 g1605 g1606 rfl (fun _ _ h_ => by subst h_; rfl) ?_)
    rewrite [← hn1607]
    try rewrite [← hl_n1607]
    refine RA_nil ?_
    refine at_normal ?_
    refine SA_seq ?_
    refine SA_region ?_
    refine RA_step rfl (OA_v (v := .pointer (some ⟨b0_, 0, none⟩)) rfl (V_move rfl) ?_)
    refine RA_step rfl (OA_v (v := .pointer (some ⟨b0_, 0, none⟩)) rfl (V_move rfl) ?_)
    refine RA_step rfl (OA_v (v := .pointer (some ⟨b0_, 0, none⟩)) rfl (V_move rfl) ?_)
    refine RA_step rfl (OA_v (v := .pointer (some ⟨b0_, 0, none⟩)) rfl (V_move rfl) ?_)
    refine RA_step rfl (OA_v (v := .slice A18 n1607.length c19) rfl (V_move rfl) ?_)
    refine RA_step rfl (OA_v (v := .int .u64 a1) rfl (V_move rfl) ?_)
    refine RA_step rfl (OA_v (v := .int .u64 a1) rfl (V_move rfl) ?_)
    refine RA_step rfl (OA_v (v := .pointer (some ⟨b0_, 0, none⟩)) rfl (V_nilCheck rfl) ?_)
    refine RA_step rfl (OA_v (v := .pointer (some ⟨b0_, 0, none⟩)) rfl (V_fieldAddrN (B := ⟨b0_, 0, none⟩) (m := 0) (o := 0) Try.underlying131 rfl nz129 rfl rfl) ?_)
    refine RA_step rfl (OA_st (b := b0_) (m := 0) (k := 2) (vs := [.slice A18 n1607.length c19]) (cs' := [.slice A18 n1607.length c19, .string p0.f1.f0, .int .u64 p0.f2, .bool p0.f3, .int .u64 p0.f4]) rfl rfl rfl rfl rfl rfl sz129 rfl rfl ?_)
    refine RA_step rfl (OA_v (v := .pointer (some ⟨b0_, 0, none⟩)) rfl (V_nilCheck rfl) ?_)
    refine RA_step rfl (OA_v (v := .pointer (some ((⟨b0_, 0, none⟩ : Addr).add 2))) rfl (V_fieldAddrN (B := ⟨b0_, 0, none⟩) (m := 0) (o := 2) Try.underlying131 rfl nz44 rfl rfl) ?_)
    refine RA_step rfl (OA_st (b := b0_) (m := 2) (k := 2) (vs := [.int .u64 a1]) (cs' := [.slice A18 n1607.length c19, .string p0.f1.f0, .int .u64 a1, .bool p0.f3, .int .u64 p0.f4]) rfl rfl rfl rfl rfl rfl sz44 rfl rfl ?_)
    refine RA_step rfl (OA_v (v := .pointer (some ⟨b0_, 0, none⟩)) rfl (V_nilCheck rfl) ?_)
    refine RA_step rfl (OA_v (v := .pointer (some ((⟨b0_, 0, none⟩ : Addr).add 3))) rfl (V_fieldAddrN (B := ⟨b0_, 0, none⟩) (m := 0) (o := 3) Try.underlying131 rfl nz4 rfl rfl) ?_)
    refine RA_step rfl (OA_st (b := b0_) (m := 3) (k := 2) (vs := [.bool true]) (cs' := [.slice A18 n1607.length c19, .string p0.f1.f0, .int .u64 a1, .bool true, .int .u64 p0.f4]) rfl rfl rfl rfl rfl rfl sz4 rfl rfl ?_)
    refine RA_step rfl (OA_v (v := .pointer (some ⟨b0_, 0, none⟩)) rfl (V_nilCheck rfl) ?_)
    refine RA_step rfl (OA_v (v := .pointer (some ((⟨b0_, 0, none⟩ : Addr).add 4))) rfl (V_fieldAddrN (B := ⟨b0_, 0, none⟩) (m := 0) (o := 4) Try.underlying131 rfl nz44 rfl rfl) ?_)
    refine RA_step rfl (OA_st (b := b0_) (m := 4) (k := 2) (vs := [.int .u64 a1]) (cs' := [.slice A18 n1607.length c19, .string p0.f1.f0, .int .u64 a1, .bool true, .int .u64 a1]) rfl rfl rfl rfl rfl rfl sz44 rfl rfl ?_)
    refine RA_nil ?_
    refine at_normal ?_
    refine SA.of_St (l := [(8, .pointer (some ⟨b690, 0, none⟩))]) (B := [Blk b0_ 131 [.slice A18 n1607.length c19, .string p0.f1.f0, .int .u64 a1, .bool true, .int .u64 a1], Buf k128 128 A18 c19 n1607, Blk b690 54 [.int .u64 s689.f0, .int .u64 s689.f1, .int .u64 s689.f2, .int .u64 s689.f3, .slice A691 s689.f4.length c692], Buf (Kd.int .u8) 5 A691 c692 s689.f4]) (St.mk1 (aeq rfl aeq0) (Gh.sel [2, 4, 0, 1] (by kernel_rfl) (by kernel_rfl))) fun junk => ?_
    refine SA_seq ?_
    refine SA_region ?_
    refine RA_step rfl (OA_r rfl (VR_loadA_blk (b := b690) (m := 0) (k := 2) (vs := [.int .u64 s689.f0, .int .u64 s689.f1, .int .u64 s689.f2, .int .u64 s689.f3, .slice A691 s689.f4.length c692]) Try.underlying54 rfl sz54 rfl rfl rfl) ?_)
    refine RA_step rfl (OA_st (b := b690) (m := 0) (k := 2) (vs := [.int .u64 s689.f0, .int .u64 s689.f1, .int .u64 s689.f2, .int .u64 s689.f3, .slice A691 s689.f4.length c692]) (cs' := [.int .u64 s689.f0, .int .u64 s689.f1, .int .u64 s689.f2, .int .u64 s689.f3, .slice A691 s689.f4.length c692]) rfl rfl rfl rfl rfl rfl sz54 rfl rfl ?_)
    refine RA_step rfl (OA_v (v := .bool true) rfl (V_assign rfl) ?_)
    refine RA_step rfl (OA_v (v := .int .i64 0) rfl (V_assign rfl) ?_)
    refine RA_nil ?_
    refine at_normal ?_
    refine SA_ret ?_
    have hr_ := Option.some.inj H
    subst hr_
    exact BQ_RL (rs := [.cell 8 54, .tmp 9, .tmp 10]) (vs := [.agg #[.int .u64 s689.f0, .int .u64 s689.f1, .int .u64 s689.f2, .int .u64 s689.f3, .slice A691 s689.f4.length c692], .bool true, .int .i64 0]) [Buf (Kd.int .u8) 5 A691 c692 s689.f4, Blk b0_ 131 [.slice A18 n1607.length c19, .string p0.f1.f0, .int .u64 a1, .bool true, .int .u64 a1], Buf k128 128 A18 c19 n1607] rfl ⟨RV.cell (k := 2) rfl rfl Try.underlying54 rfl sz54, RV.tmp rfl, RV.tmp rfl, trivial⟩ rfl (Gh.sel [3, 0, 1] rfl rfl) ⟨A691, c692, A18, c19, rfl, rfl⟩
  replace H := g_iff (by rw [ht3199]; decide) H
  replace H := g_ift ht3199 H
  refine RA_step rfl (OA_v (v := .tuple #[.int .i64 r17.2.1, .slice A0_0 p0.f0.length c0_0]) rfl (V_move rfl) ?_)
  refine RA_step rfl (OA_v (v := .int .i64 r17.2.1) rfl (V_extract rfl rfl) ?_)
  refine RA_step rfl (OA_v (v := .slice A0_0 p0.f0.length c0_0) rfl (V_extract rfl rfl) ?_)
  refine RA_step rfl (OA_v (v := .int .i64 r17.2.1) rfl (V_assign rfl) ?_)
  refine RA_step rfl (OA_v (v := .slice A0_0 p0.f0.length c0_0) rfl (V_assign rfl) ?_)
  refine RA_nil ?_
  refine at_normal ?_
  refine SA_seq ?_
  refine SA_seq ?_
  refine SA_region ?_
  refine RA_step rfl (OA_v (v := .int .i64 r17.2.1) rfl (V_move rfl) ?_)
  refine RA_step rfl (OA_v (v := .bool (decide (r17.2.1 < 0))) rfl (V_lss rfl rfl) ?_)
  refine RA_nil ?_
  refine at_normal ?_
  by_cases h1611 : r17.2.1 < 0
  · replace H := g_ift h1611 H
    refine SA_condT rfl h1611 ?_
    refine SA_seq ?_
    refine SA_region ?_
    refine RA_step rfl (OA_v (v := .pointer (some ⟨b0_, 0, none⟩)) rfl (V_move rfl) ?_)
    refine RA_step rfl (OA_v (v := .int .u64 a1) rfl (V_move rfl) ?_)
    refine RA_step rfl (OA_v (v := .pointer (some ⟨b0_, 0, none⟩)) rfl (V_nilCheck rfl) ?_)
    refine RA_step rfl (OA_v (v := .pointer (some ((⟨b0_, 0, none⟩ : Addr).add 4))) rfl (V_fieldAddrN (B := ⟨b0_, 0, none⟩) (m := 0) (o := 4) Try.underlying131 rfl nz44 rfl rfl) ?_)
    refine RA_step rfl (OA_st (b := b0_) (m := 4) (k := 0) (vs := [.int .u64 a1]) (cs' := [.slice A0_0 p0.f0.length c0_0, .string p0.f1.f0, .int .u64 p0.f2, .bool p0.f3, .int .u64 a1]) rfl rfl rfl rfl rfl rfl sz44 rfl rfl ?_)
    refine RA_nil ?_
    refine at_normal ?_
    refine SA_seq ?_
    refine SA_region ?_
    refine RA_step rfl (OA_r rfl (VR_loadA_blk (b := b3) (m := 0) (k := 2) (vs := [.int .u64 0, .int .u64 0, .int .u64 0, .int .u64 0, .slice none 0 0]) Try.underlying54 rfl sz54 rfl rfl rfl) ?_)
    refine RA_step rfl (OA_st (b := b3) (m := 0) (k := 2) (vs := [.int .u64 0, .int .u64 0, .int .u64 0, .int .u64 0, .slice none 0 0]) (cs' := [.int .u64 0, .int .u64 0, .int .u64 0, .int .u64 0, .slice none 0 0]) rfl rfl rfl rfl rfl rfl sz54 rfl rfl ?_)
    refine RA_step rfl (OA_v (v := .bool false) rfl (V_assign rfl) ?_)
    refine RA_step rfl (OA_v (v := .int .i64 0) rfl (V_assign rfl) ?_)
    refine RA_nil ?_
    refine at_normal ?_
    refine SA_ret ?_
    refine thn_ret ?_
    have hr_ := Option.some.inj H
    subst hr_
    exact BQ_RL (rs := [.cell 8 54, .tmp 9, .tmp 10]) (vs := [.agg #[.int .u64 0, .int .u64 0, .int .u64 0, .int .u64 0, .slice none 0 0], .bool false, .int .i64 0]) [Buf (Kd.int .u8) 5 none 0 ([] : (List Int)), Blk b0_ 131 [.slice A0_0 p0.f0.length c0_0, .string p0.f1.f0, .int .u64 p0.f2, .bool p0.f3, .int .u64 a1], Buf k128 128 A0_0 c0_0 p0.f0] rfl ⟨RV.cell (k := 2) rfl rfl Try.underlying54 rfl sz54, RV.tmp rfl, RV.tmp rfl, trivial⟩ rfl ((Gh.nilBuf (Kd.int .u8) 5).trans (Gh.sel [3, 0, 1] rfl rfl)) ⟨none, 0, A0_0, c0_0, rfl, rfl⟩
  replace H := g_iff h1611 H
  refine SA_condF rfl h1611 ?_
  refine SA_skip ?_
  refine at_normal ?_
  refine SA_seq ?_
  refine SA_region ?_
  refine RA_step rfl (OA_v (v := .slice A0_0 p0.f0.length c0_0) rfl (V_move rfl) ?_)
  obtain ⟨⟨g1613, g1614⟩, H⟩ := g_pos H
  refine RA_step rfl (OA_r rfl (VR_index (i := (0 : Int)) Try.underlying129 sz128 rfl rfl (Src.buf (k := 1) rfl) g1613 g1614) ?_)
  refine RA_step rfl (OA_r rfl (VR_loadA_el (enc := enc128) (i := (0 : Int)) (j := (0 : Int).toNat * 3) (m := 0) (sz := 3) (vs := [.int .u64 ((rd p0.f0 (0 : Int)).f0), .string (((rd p0.f0 (0 : Int)).f1).f0), .int .u64 ((rd p0.f0 (0 : Int)).f2)]) Try.underlying128 rfl sz128 rfl rfl rfl (Src.buf (k := 1) rfl) g1613 g1614 (fun _ _ h => h) rfl) ?_)
  refine RA_step rfl (OA_alloc rfl zero128 fun b1615 => ?_)
  refine RA_step rfl (OA_st (b := b1615) (m := 0) (k := 3) (vs := [.int .u64 ((rd p0.f0 (0 : Int)).f0), .string (((rd p0.f0 (0 : Int)).f1).f0), .int .u64 ((rd p0.f0 (0 : Int)).f2)]) (cs' := [.int .u64 ((rd p0.f0 (0 : Int)).f0), .string (((rd p0.f0 (0 : Int)).f1).f0), .int .u64 ((rd p0.f0 (0 : Int)).f2)]) rfl rfl rfl rfl rfl rfl sz128 rfl rfl ?_)
  refine RA_nil ?_
  refine at_normal ?_
  refine SA_seq ?_
  refine SA_drawHq [0, 1, 2, 3, 4, 5, 6, 7, 8, 9] #[[], [0], [], [], [2, 3], [2, 3, 4], [2, 3, 4, 5], [], [7], [0, 1, 2, 3, 4, 5, 6, 7, 8], [0, 1, 2, 3, 4, 5, 6, 7, 8, 9]] [1, 3] [0, 2] mixed rfl rfl rfl (PanOk.thn PanOk.body) fun I0 hS h0 hh0 w0 sH dd pk => ?_
  refine DH_take (v := .pointer (some ⟨b1615, 0, none⟩)) 0 (by kernel_rfl) rfl rfl (.no rfl) pk sH rfl (VR.ofV (V_fieldAddrN (B := ⟨b1615, 0, none⟩) (m := 0) (o := 0) Try.underlying128 rfl nz44 rfl rfl)) ?_
  refine DH_take 1 (by kernel_rfl) rfl rfl (.no rfl) pk sH rfl (VR_load_blk (b := b1615) (m := 0) (k := 1) Try.underlying44 rfl rfl rfl rfl) ?_
  refine DH_take (v := .slice A0_0 p0.f0.length c0_0) 2 (by kernel_rfl) rfl rfl (.no rfl) pk sH rfl (VR.ofV (V_move rfl)) ?_
  refine DH_take (v := .int .i64 r17.2.1) 3 (by kernel_rfl) rfl rfl (.no rfl) pk sH rfl (VR.ofV (V_move rfl)) ?_
  obtain ⟨⟨g1857, g1858⟩, H⟩ := g_pos H
  refine DH_take 4 (by kernel_rfl) rfl rfl (.no rfl) pk sH rfl (VR_index (i := r17.2.1) Try.underlying129 sz128 rfl rfl (Src.buf (k := 0) rfl) g1857 g1858) ?_
  refine DH_take (v := .pointer (some ((el A0_0 (r17.2.1.toNat * 3)).add 0))) 5 (by kernel_rfl) rfl rfl (.no rfl) pk sH rfl (VR.ofV (V_fieldAddrN (B := el A0_0 (r17.2.1.toNat * 3)) (m := 0) (o := 0) Try.underlying128 rfl nz44 rfl rfl)) ?_
  refine DH_take 6 (by kernel_rfl) rfl rfl (.no rfl) pk sH rfl (VR_load_el (enc := enc128) (i := r17.2.1) (j := r17.2.1.toNat * 3) (m := 0) (sz := 3) Try.underlying44 rfl rfl rfl rfl (Src.buf (k := 0) rfl) g1857 g1858 (fun _ _ h => h) rfl) ?_
  refine DH_take (v := .pointer (some ⟨b1615, 0, none⟩)) 7 (by kernel_rfl) rfl rfl (.no rfl) pk sH rfl (VR.ofV (V_fieldAddrN (B := ⟨b1615, 0, none⟩) (m := 0) (o := 0) Try.underlying128 rfl nz44 rfl rfl)) ?_
  refine DH_take 8 (by kernel_rfl) rfl rfl (.no rfl) pk sH rfl (VR_load_blk (b := b1615) (m := 0) (k := 1) Try.underlying44 rfl rfl rfl rfl) ?_
  refine DH_take (v := .agg #[.int .u64 ((rd p0.f0 (0 : Int)).f0), .int .u64 ((rd p0.f0 r17.2.1).f0), .int .u64 0, .int .u64 ((rd p0.f0 (0 : Int)).f0), .slice none 0 0]) 9 (by kernel_rfl) rfl rfl (.no rfl) pk sH rfl (VR.ofV (V_build (cells := [.int .u64 ((rd p0.f0 (0 : Int)).f0), .int .u64 ((rd p0.f0 r17.2.1).f0), .int .u64 0, .int .u64 ((rd p0.f0 (0 : Int)).f0), .slice none 0 0]) zero54 Try.underlying54 plc54 (by kernel_rfl))) ?_
  refine DH_one 10 dd (by kernel_rfl) rfl (.no rfl) (OA_st (b := b3) (m := 0) (k := 1) (vs := [.int .u64 ((rd p0.f0 (0 : Int)).f0), .int .u64 ((rd p0.f0 r17.2.1).f0), .int .u64 0, .int .u64 ((rd p0.f0 (0 : Int)).f0), .slice none 0 0]) (cs' := [.int .u64 ((rd p0.f0 (0 : Int)).f0), .int .u64 ((rd p0.f0 r17.2.1).f0), .int .u64 0, .int .u64 ((rd p0.f0 (0 : Int)).f0), .slice none 0 0]) rfl rfl rfl rfl rfl rfl sz54 rfl rfl ?_)
  refine DH_open dd sH ?_
  refine DN_done (by kernel_rfl) ?_
  refine at_normal ?_
  refine SA.of_St (l := [(0, .pointer (some ⟨b0_, 0, none⟩)), (1, .int .u64 a1), (8, .pointer (some ⟨b3, 0, none⟩)), (11, .int .i64 r17.2.1), (12, .slice A0_0 p0.f0.length c0_0), (13, .pointer (some ⟨b1615, 0, none⟩))]) (B := [Blk b0_ 131 [.slice A0_0 p0.f0.length c0_0, .string p0.f1.f0, .int .u64 p0.f2, .bool p0.f3, .int .u64 p0.f4], Buf k128 128 A0_0 c0_0 p0.f0, Blk b3 54 [.int .u64 ((rd p0.f0 (0 : Int)).f0), .int .u64 ((rd p0.f0 r17.2.1).f0), .int .u64 0, .int .u64 ((rd p0.f0 (0 : Int)).f0), .slice none 0 0], Blk b1615 128 [.int .u64 ((rd p0.f0 (0 : Int)).f0), .string (((rd p0.f0 (0 : Int)).f1).f0), .int .u64 ((rd p0.f0 (0 : Int)).f2)]]) (St.mk1 (aeq rfl (aeq rfl (aeq rfl (aeq rfl (aeq rfl (aeq rfl aeq0)))))) (Gh.sel [2, 0, 3, 1] (by kernel_rfl) (by kernel_rfl))) fun junk => ?_
  refine SA_seq ?_
  refine SA_seq ?_
  refine SA_region ?_
  refine RA_step rfl (OA_v (v := .int .i64 r17.2.1) rfl (V_move rfl) ?_)
  refine RA_step rfl (OA_v (v := .bool (decide (r17.2.1 > 0))) rfl (V_gtr rfl rfl) ?_)
  refine RA_nil ?_
  refine at_normal ?_
  obtain ⟨t2278, H, Bt2278⟩ := g_bind H
  refine SA_mid (fun e ds As => ∃ (s2279 : S54), t2278 = Out.go s2279 ∧ ∃ (b2280 : Nat), ∃ (A2281 : Option Addr) (c2282 : Nat), St [(0, .pointer (some ⟨b0_, 0, none⟩)), (1, .int .u64 a1), (8, .pointer (some ⟨b2280, 0, none⟩)), (11, .int .i64 r17.2.1), (12, .slice A0_0 p0.f0.length c0_0)] [Blk b2280 54 [.int .u64 s2279.f0, .int .u64 s2279.f1, .int .u64 s2279.f2, .int .u64 s2279.f3, .slice A2281 s2279.f4.length c2282], Buf (Kd.int .u8) 5 A2281 c2282 s2279.f4, Blk b0_ 131 [.slice A0_0 p0.f0.length c0_0, .string p0.f1.f0, .int .u64 p0.f2, .bool p0.f3, .int .u64 p0.f4], Buf k128 128 A0_0 c0_0 p0.f0] e ds As) ?_ ?_
  · by_cases h2284 : r17.2.1 > 0
    · replace H := g_ift h2284 H
      refine SA_condT rfl h2284 ?_
      refine SA_seq ?_
      refine SA_seq ?_
      refine SA_drawHq (0 :: 1 :: 2 :: 3 :: 4 :: 5 :: 6 :: 7 :: 9 :: 10 :: 11 :: 12 :: 14 :: []) (List.toArray ([] :: [] :: [0, 1] :: [0, 1, 2] :: [0, 1, 2, 3] :: [0, 1, 2, 3, 4] :: [] :: [6] :: [0, 1, 2, 3, 4, 5, 6, 7] :: [0, 1, 2, 3, 4, 5, 6, 7] :: [0, 1, 2, 3, 4, 5, 6, 7, 9] :: [0, 1, 2, 3, 4, 5, 6, 7, 9] :: [0, 1, 2, 3, 4, 5, 6, 7, 9, 10] :: [0, 1, 2, 3, 4, 5, 6, 7, 9, 10, 12] :: [0, 1, 2, 3, 4, 5, 6, 7, 9, 10, 11, 12] :: [])) [1, 3] [0, 2] mixed rfl rfl rfl (PanOk.thn (PanOk.thn (PanOk.thn (PanOk.thn PanOk.body)))) fun I0 hS h0 hh0 w0 sH dd pk => ?_
      refine DH_take (v := .slice A0_0 p0.f0.length c0_0) 0 (by kernel_rfl) rfl rfl (.no rfl) pk sH rfl (VR.ofV (V_move rfl)) ?_
      refine DH_take (v := .int .i64 r17.2.1) 1 (by kernel_rfl) rfl rfl (.no rfl) pk sH rfl (VR.ofV (V_move rfl)) ?_
      obtain ⟨⟨g2405, g2406⟩, H⟩ := g_pos H
      refine DH_take 2 (by kernel_rfl) rfl rfl (.no rfl) pk sH rfl (VR_index (i := r17.2.1) Try.underlying129 sz128 rfl rfl (Src.buf (k := 0) rfl) g2405 g2406) ?_
      refine DH_take (v := .pointer (some ((el A0_0 (r17.2.1.toNat * 3)).add 1))) 3 (by kernel_rfl) rfl rfl (.no rfl) pk sH rfl (VR.ofV (V_fieldAddrN (B := el A0_0 (r17.2.1.toNat * 3)) (m := 0) (o := 1) Try.underlying128 rfl nz41 rfl rfl)) ?_
      refine DH_take 4 (by kernel_rfl) rfl rfl (.no rfl) pk sH rfl (VR_loadA_el (enc := enc128) (i := r17.2.1) (j := r17.2.1.toNat * 3) (m := 1) (sz := 3) (vs := [.string (((rd p0.f0 r17.2.1).f1).f0)]) Try.underlying41 rfl sz41 rfl rfl rfl (Src.buf (k := 0) rfl) g2405 g2406 (fun _ _ h => h) rfl) ?_
      refine DH_take (v := .iface 41 (.agg #[.string (((rd p0.f0 r17.2.1).f1).f0)])) 5 (by kernel_rfl) rfl rfl (.no rfl) pk sH rfl (VR.ofV (V_iface con41 rfl)) ?_
      refine DH_take (v := .pointer (some ((⟨b1615, 0, none⟩ : Addr).add 1))) 6 (by kernel_rfl) rfl rfl (.no rfl) pk sH rfl (VR.ofV (V_fieldAddrN (B := ⟨b1615, 0, none⟩) (m := 0) (o := 1) Try.underlying128 rfl nz41 rfl rfl)) ?_
      refine DH_take 7 (by kernel_rfl) rfl rfl (.no rfl) pk sH rfl (VR_loadA_blk (b := b1615) (m := 1) (k := 1) (vs := [.string (((rd p0.f0 (0 : Int)).f1).f0)]) Try.underlying41 rfl sz41 rfl rfl rfl) ?_
      obtain ⟨r2765, C2769, H⟩ := g_bind H
      refine DH_one 8 dd (by kernel_rfl) rfl (.no rfl) (OA_callA [] [0, 1] rfl (X_inv (vs := [.agg #[.string (((rd p0.f0 (0 : Int)).f1).f0)]]) rfl met41_144 Try.func144 nm144 rfl rfl) rfl (F144.ok (a0 := ((rd p0.f0 r17.2.1).f1)) (a1 := ((rd p0.f0 (0 : Int)).f1)) C2769) rfl ?_)
      rintro _ _ ⟨A2766, c2767, rfl, rfl⟩
      refine DH_take (v := .tuple #[.slice A2766 r2765.1.length c2767, .int .i64 r2765.2]) 9 (by kernel_rfl) rfl rfl (.no rfl) pk sH rfl (VR.ofV (V_move rfl)) ?_
      refine DH_take (v := .slice A2766 r2765.1.length c2767) 10 (by kernel_rfl) rfl rfl (.no rfl) pk sH rfl (VR.ofV (V_extract rfl rfl)) ?_
      refine DH_take (v := .int .i64 r2765.2) 11 (by kernel_rfl) rfl rfl (.no rfl) pk sH rfl (VR.ofV (V_extract rfl rfl)) ?_
      refine DH_take (v := .pointer (some ((⟨b3, 0, none⟩ : Addr).add 4))) 12 (by kernel_rfl) rfl rfl (.no rfl) pk sH rfl (VR.ofV (V_fieldAddrN (B := ⟨b3, 0, none⟩) (m := 0) (o := 4) Try.underlying54 rfl nz23 rfl rfl)) ?_
      refine DH_one 13 dd (by kernel_rfl) rfl (.no rfl) (OA_st (b := b3) (m := 4) (k := 2) (vs := [.slice A2766 r2765.1.length c2767]) (cs' := [.int .u64 ((rd p0.f0 (0 : Int)).f0), .int .u64 ((rd p0.f0 r17.2.1).f0), .int .u64 0, .int .u64 ((rd p0.f0 (0 : Int)).f0), .slice A2766 r2765.1.length c2767]) rfl rfl rfl rfl rfl rfl sz23 rfl rfl ?_)
      refine DH_take (v := .int .i64 r2765.2) 14 (by kernel_rfl) rfl rfl (.no rfl) pk sH rfl (VR.ofV (V_assign rfl)) ?_
      refine DH_open dd sH ?_
      refine DN_done (by kernel_rfl) ?_
      refine at_normal ?_
      refine SA_seq ?_
      refine SA_region ?_
      refine RA_step rfl (OA_v (v := .int .i64 r2765.2) rfl (V_move rfl) ?_)
      refine RA_step rfl (OA_v (v := .bool (decide (r2765.2 ≠ 0))) rfl (V_neq rfl rfl) ?_)
      refine RA_nil ?_
      refine at_normal ?_
      by_cases h3186 : r2765.2 ≠ 0
      · replace H := g_ift h3186 H
        refine SA_condT rfl h3186 ?_
        refine SA_seq ?_
        refine SA_region ?_
        refine RA_step rfl (OA_v (v := .agg #[.int .u64 0, .int .u64 0, .int .u64 0, .int .u64 0, .slice none 0 0]) rfl (V_build (cells := [.int .u64 0, .int .u64 0, .int .u64 0, .int .u64 0, .slice none 0 0]) zero54 Try.underlying54 plc54 (by kernel_rfl)) ?_)
        refine RA_step rfl (OA_v (v := .int .i64 r2765.2) rfl (V_move rfl) ?_)
        refine RA_step rfl (OA_st (b := b3) (m := 0) (k := 4) (vs := [.int .u64 0, .int .u64 0, .int .u64 0, .int .u64 0, .slice none 0 0]) (cs' := [.int .u64 0, .int .u64 0, .int .u64 0, .int .u64 0, .slice none 0 0]) rfl rfl rfl rfl rfl rfl sz54 rfl rfl ?_)
        refine RA_step rfl (OA_v (v := .bool false) rfl (V_assign rfl) ?_)
        refine RA_step rfl (OA_v (v := .int .i64 r2765.2) rfl (V_assign rfl) ?_)
        refine RA_nil ?_
        refine at_normal ?_
        refine SA_ret ?_
        refine thn_ret ?_
        refine thn_ret ?_
        refine thn_ret ?_
        have hr_ := Option.some.inj H
        subst hr_
        have hb_ := el_ret Bt2278
        have hr_ := Option.some.inj hb_
        clear hb_
        subst hr_
        exact BQ_RL (rs := [.cell 8 54, .tmp 9, .tmp 10]) (vs := [.agg #[.int .u64 0, .int .u64 0, .int .u64 0, .int .u64 0, .slice none 0 0], .bool false, .int .i64 r2765.2]) [Buf (Kd.int .u8) 5 none 0 ([] : (List Int)), Blk b0_ 131 [.slice A0_0 p0.f0.length c0_0, .string p0.f1.f0, .int .u64 p0.f2, .bool p0.f3, .int .u64 p0.f4], Buf k128 128 A0_0 c0_0 p0.f0] rfl ⟨RV.cell (k := 4) rfl rfl Try.underlying54 rfl sz54, RV.tmp rfl, RV.tmp rfl, trivial⟩ rfl ((Gh.nilBuf (Kd.int .u8) 5).trans (Gh.sel [5, 3, 0] rfl rfl)) ⟨none, 0, A0_0, c0_0, rfl, rfl⟩
      replace H := g_iff h3186 H
      refine SA_condF rfl h3186 ?_
      refine SA_skip ?_
      refine at_normal ?_
      refine SA_region ?_
      refine RA_step rfl (OA_v (v := .pointer (some ((⟨b3, 0, none⟩ : Addr).add 4))) rfl (V_fieldAddrN (B := ⟨b3, 0, none⟩) (m := 0) (o := 4) Try.underlying54 rfl nz23 rfl rfl) ?_)
      refine RA_step rfl (OA_r rfl (VR_load_blk (b := b3) (m := 4) (k := 4) Try.underlying23 rfl rfl rfl rfl) ?_)
      obtain ⟨r3188, C3192, H⟩ := g_bind H
      refine RA_step rfl (OA.ghost (Gh.freeze (k := 2) rfl) (OA_callA [2] [0, 1, 2, 3, 4] rfl (X_fn (vs := [.slice A2766 r2765.1.length c2767]) Try.func64 nm64 rfl rfl) rfl (F64.ok (l0 := r2765.1) (A0 := A2766) (c0 := c2767) C3192) rfl ?_))
      rintro _ _ ⟨A3189, c3190, rfl, rfl⟩
      refine RA_step rfl (OA_v (v := .pointer (some ((⟨b3, 0, none⟩ : Addr).add 4))) rfl (V_fieldAddrN (B := ⟨b3, 0, none⟩) (m := 0) (o := 4) Try.underlying54 rfl nz23 rfl rfl) ?_)
      refine RA_step rfl (OA_st (b := b3) (m := 4) (k := 5) (vs := [.slice A3189 r3188.length c3190]) (cs' := [.int .u64 ((rd p0.f0 (0 : Int)).f0), .int .u64 ((rd p0.f0 r17.2.1).f0), .int .u64 0, .int .u64 ((rd p0.f0 (0 : Int)).f0), .slice A3189 r3188.length c3190]) rfl rfl rfl rfl rfl rfl sz23 rfl rfl ?_)
      refine RA_nil ?_
      have hr_ := Option.some.inj H
      subst hr_
      exact at_normal ⟨(S54.mk ((rd p0.f0 (0 : Int)).f0) ((rd p0.f0 r17.2.1).f0) 0 ((rd p0.f0 (0 : Int)).f0) r3188), rfl, b3, A3189, c3190, St.mk1 (aeq rfl (aeq rfl (aeq rfl (aeq rfl (aeq rfl aeq0))))) (Gh.sel [5, 0, 4, 1] rfl rfl)⟩
    replace H := g_iff h2284 H
    refine SA_condF rfl h2284 ?_
    refine SA_skip ?_
    have hr_ := Option.some.inj H
    subst hr_
    exact at_normal ⟨(S54.mk ((rd p0.f0 (0 : Int)).f0) ((rd p0.f0 r17.2.1).f0) 0 ((rd p0.f0 (0 : Int)).f0) ([] : (List Int))), rfl, b3, none, 0, St.mk1 (aeq rfl (aeq rfl (aeq rfl (aeq rfl (aeq rfl aeq0))))) ((Gh.nilBuf (Kd.int .u8) 5).trans (Gh.sel [2, 4, 0, 1] rfl rfl))⟩
  rintro e ds As ⟨s2279, ht, b2280, A2281, c2282, hst3194⟩
  clear H
  subst ht
  replace Bt2278 := el_go Bt2278
  have H := Bt2278
  clear Bt2278
  refine at_normal ?_
  refine SA.of_St hst3194 fun junk => ?_
  refine SA_seq ?_
  refine SA_region ?_
  refine RA_step rfl (OA_v (v := .slice A0_0 p0.f0.length c0_0) rfl (V_move rfl) ?_)
  refine RA_step rfl (OA_v (v := .int .i64 r17.2.1) rfl (V_move rfl) ?_)
  refine RA_step rfl (OA_v (v := .int .u64 a1) rfl (V_move rfl) ?_)
  obtain ⟨⟨g3195, g3196⟩, H⟩ := g_pos H
  refine RA_step rfl (OA_r rfl (VR_index (i := r17.2.1) Try.underlying129 sz128 rfl rfl (Src.buf (k := 3) rfl) g3195 g3196) ?_)
  refine RA_step rfl (OA_v (v := .pointer (some ((el A0_0 (r17.2.1.toNat * 3)).add 2))) rfl (V_fieldAddrN (B := el A0_0 (r17.2.1.toNat * 3)) (m := 0) (o := 2) Try.underlying128 rfl nz44 rfl rfl) ?_)
  obtain ⟨n3197, hn3197, H⟩ := g_lt H
  have hl_n3197 : n3197.length = p0.f0.length := by rw [hn3197]; exact List.length_set
  refine RA_step rfl (OA_stEl (k := 3) (i := r17.2.1) (j := r17.2.1.toNat * 3) (m := 2) (sz := 3) (xs := p0.f0) (vs := [.int .u64 a1]) (S128.mk ((rd p0.f0 r17.2.1).f0) ((rd p0.f0 r17.2.1).f1) a1) rfl rfl rfl rfl rfl rfl rfl rfl sz44 g3195 g3196 rfl (fun _ _ h_ => by subst h_; rfl) ?_)
  rewrite [← hn3197]
  try rewrite [← hl_n3197]
  refine RA_nil ?_
  refine at_normal ?_
  refine SA_seq ?_
  refine SA_region ?_
  refine RA_step rfl (OA_v (v := .pointer (some ⟨b0_, 0, none⟩)) rfl (V_move rfl) ?_)
  refine RA_step rfl (OA_v (v := .pointer (some ⟨b0_, 0, none⟩)) rfl (V_move rfl) ?_)
  refine RA_step rfl (OA_v (v := .pointer (some ⟨b0_, 0, none⟩)) rfl (V_move rfl) ?_)
  refine RA_step rfl (OA_v (v := .pointer (some ⟨b0_, 0, none⟩)) rfl (V_move rfl) ?_)
  refine RA_step rfl (OA_v (v := .slice A0_0 n3197.length c0_0) rfl (V_move rfl) ?_)
  refine RA_step rfl (OA_v (v := .int .u64 a1) rfl (V_move rfl) ?_)
  refine RA_step rfl (OA_v (v := .int .u64 a1) rfl (V_move rfl) ?_)
  refine RA_step rfl (OA_v (v := .pointer (some ⟨b0_, 0, none⟩)) rfl (V_nilCheck rfl) ?_)
  refine RA_step rfl (OA_v (v := .pointer (some ⟨b0_, 0, none⟩)) rfl (V_fieldAddrN (B := ⟨b0_, 0, none⟩) (m := 0) (o := 0) Try.underlying131 rfl nz129 rfl rfl) ?_)
  refine RA_step rfl (OA_st (b := b0_) (m := 0) (k := 2) (vs := [.slice A0_0 n3197.length c0_0]) (cs' := [.slice A0_0 n3197.length c0_0, .string p0.f1.f0, .int .u64 p0.f2, .bool p0.f3, .int .u64 p0.f4]) rfl rfl rfl rfl rfl rfl sz129 rfl rfl ?_)
  refine RA_step rfl (OA_v (v := .pointer (some ⟨b0_, 0, none⟩)) rfl (V_nilCheck rfl) ?_)
  refine RA_step rfl (OA_v (v := .pointer (some ((⟨b0_, 0, none⟩ : Addr).add 2))) rfl (V_fieldAddrN (B := ⟨b0_, 0, none⟩) (m := 0) (o := 2) Try.underlying131 rfl nz44 rfl rfl) ?_)
  refine RA_step rfl (OA_st (b := b0_) (m := 2) (k := 2) (vs := [.int .u64 a1]) (cs' := [.slice A0_0 n3197.length c0_0, .string p0.f1.f0, .int .u64 a1, .bool p0.f3, .int .u64 p0.f4]) rfl rfl rfl rfl rfl rfl sz44 rfl rfl ?_)
  refine RA_step rfl (OA_v (v := .pointer (some ⟨b0_, 0, none⟩)) rfl (V_nilCheck rfl) ?_)
  refine RA_step rfl (OA_v (v := .pointer (some ((⟨b0_, 0, none⟩ : Addr).add 3))) rfl (V_fieldAddrN (B := ⟨b0_, 0, none⟩) (m := 0) (o := 3) Try.underlying131 rfl nz4 rfl rfl) ?_)
  refine RA_step rfl (OA_st (b := b0_) (m := 3) (k := 2) (vs := [.bool true]) (cs' := [.slice A0_0 n3197.length c0_0, .string p0.f1.f0, .int .u64 a1, .bool true, .int .u64 p0.f4]) rfl rfl rfl rfl rfl rfl sz4 rfl rfl ?_)
  refine RA_step rfl (OA_v (v := .pointer (some ⟨b0_, 0, none⟩)) rfl (V_nilCheck rfl) ?_)
  refine RA_step rfl (OA_v (v := .pointer (some ((⟨b0_, 0, none⟩ : Addr).add 4))) rfl (V_fieldAddrN (B := ⟨b0_, 0, none⟩) (m := 0) (o := 4) Try.underlying131 rfl nz44 rfl rfl) ?_)
  refine RA_step rfl (OA_st (b := b0_) (m := 4) (k := 2) (vs := [.int .u64 a1]) (cs' := [.slice A0_0 n3197.length c0_0, .string p0.f1.f0, .int .u64 a1, .bool true, .int .u64 a1]) rfl rfl rfl rfl rfl rfl sz44 rfl rfl ?_)
  refine RA_nil ?_
  refine at_normal ?_
  refine SA.of_St (l := [(8, .pointer (some ⟨b2280, 0, none⟩))]) (B := [Blk b0_ 131 [.slice A0_0 n3197.length c0_0, .string p0.f1.f0, .int .u64 a1, .bool true, .int .u64 a1], Buf k128 128 A0_0 c0_0 n3197, Blk b2280 54 [.int .u64 s2279.f0, .int .u64 s2279.f1, .int .u64 s2279.f2, .int .u64 s2279.f3, .slice A2281 s2279.f4.length c2282], Buf (Kd.int .u8) 5 A2281 c2282 s2279.f4]) (St.mk1 (aeq rfl aeq0) (Gh.sel [2, 3, 0, 1] (by kernel_rfl) (by kernel_rfl))) fun junk => ?_
  refine SA_seq ?_
  refine SA_region ?_
  refine RA_step rfl (OA_r rfl (VR_loadA_blk (b := b2280) (m := 0) (k := 2) (vs := [.int .u64 s2279.f0, .int .u64 s2279.f1, .int .u64 s2279.f2, .int .u64 s2279.f3, .slice A2281 s2279.f4.length c2282]) Try.underlying54 rfl sz54 rfl rfl rfl) ?_)
  refine RA_step rfl (OA_st (b := b2280) (m := 0) (k := 2) (vs := [.int .u64 s2279.f0, .int .u64 s2279.f1, .int .u64 s2279.f2, .int .u64 s2279.f3, .slice A2281 s2279.f4.length c2282]) (cs' := [.int .u64 s2279.f0, .int .u64 s2279.f1, .int .u64 s2279.f2, .int .u64 s2279.f3, .slice A2281 s2279.f4.length c2282]) rfl rfl rfl rfl rfl rfl sz54 rfl rfl ?_)
  refine RA_step rfl (OA_v (v := .bool true) rfl (V_assign rfl) ?_)
  refine RA_step rfl (OA_v (v := .int .i64 0) rfl (V_assign rfl) ?_)
  refine RA_nil ?_
  refine at_normal ?_
  refine SA_ret ?_
  have hr_ := Option.some.inj H
  subst hr_
  exact BQ_RL (rs := [.cell 8 54, .tmp 9, .tmp 10]) (vs := [.agg #[.int .u64 s2279.f0, .int .u64 s2279.f1, .int .u64 s2279.f2, .int .u64 s2279.f3, .slice A2281 s2279.f4.length c2282], .bool true, .int .i64 0]) [Buf (Kd.int .u8) 5 A2281 c2282 s2279.f4, Blk b0_ 131 [.slice A0_0 n3197.length c0_0, .string p0.f1.f0, .int .u64 a1, .bool true, .int .u64 a1], Buf k128 128 A0_0 c0_0 n3197] rfl ⟨RV.cell (k := 2) rfl rfl Try.underlying54 rfl sz54, RV.tmp rfl, RV.tmp rfl, trivial⟩ rfl (Gh.sel [3, 0, 1] rfl rfl) ⟨A2281, c2282, A0_0, c0_0, rfl, rfl⟩

/-! ### function 65: wayfarer/wayfarerref23.past -/
def F65.f (a0 : Int) (a1 : Int) (a2 : Int) : Option (Bool) := lt ((decide (a0 ≥ a1)) && (decide ((IntKind.u64.wrap (a0 - a1)) ≥ (IntKind.u64.wrap (a2))))) fun q1 => some (q1)
set_option maxHeartbeats 2000000 in
set_option maxRecDepth 100000 in
theorem F65.ok {a0 : Int} {a1 : Int} {a2 : Int} {r : Bool} (H : F65.f a0 a1 a2 = some r) : SCA Try.prog 65 #[.int .u64 a0, .int .u64 a1, .int .i64 a2] [] (fun v B => v = .bool r ∧ B = []) := by
  refine SCA_of_body Try.func65 rfl rfl ?_
  unfold F65.f at H
  refine SA_seq ?_
  refine SA_region ?_
  refine RA_step rfl (OA_v (v := .bool false) rfl (V_assign rfl) ?_)
  refine RA_nil ?_
  refine at_normal ?_
  refine SA_seq ?_
  refine SA_region ?_
  refine RA_step rfl (OA_v (v := .int .u64 a0) rfl (V_move rfl) ?_)
  refine RA_step rfl (OA_v (v := .int .u64 a1) rfl (V_move rfl) ?_)
  refine RA_step rfl (OA_v (v := .bool (decide (a0 ≥ a1))) rfl (V_geq rfl rfl) ?_)
  refine RA_step rfl (OA_v (v := .bool (decide (a0 ≥ a1))) rfl (V_move rfl) ?_)
  obtain ⟨q1, hq1, H⟩ := g_lt H
  refine RA_cut 7 (fun e ds As => St [(17, .bool q1)] [] e ds As) ?_ ?_
  · by_cases h2 : a0 ≥ a1
    · refine RA_yesB rfl rfl rfl rfl (dec_t h2) (OA_v (v := .int .u64 a0) rfl (V_move rfl) ?_)
      refine RA_yesB rfl rfl rfl rfl (dec_t h2) (OA_v (v := .int .u64 a1) rfl (V_move rfl) ?_)
      refine RA_yesB rfl rfl rfl rfl (dec_t h2) (OA_v (v := .int .u64 (IntKind.u64.wrap (a0 - a1))) rfl (V_sub rfl rfl) ?_)
      refine RA_yesB rfl rfl rfl rfl (dec_t h2) (OA_v (v := .int .i64 a2) rfl (V_move rfl) ?_)
      refine RA_yesB rfl rfl rfl rfl (dec_t h2) (OA_v (v := .int .u64 (IntKind.u64.wrap (a2))) rfl (V_conv (T := 3) (by kernel_rfl) Try.underlying44 rfl) ?_)
      refine RA_yesB rfl rfl rfl rfl (dec_t h2) (OA_v (v := .bool (decide ((IntKind.u64.wrap (a0 - a1)) ≥ (IntKind.u64.wrap (a2))))) rfl (V_geq rfl rfl) ?_)
      refine RA_step rfl (OA_v rfl (V_pickT rfl (dec_t h2) rfl) ?_)
      refine RA_nil ?_
      exact at_normal (St.mk1 (aeq (congrArg Value.bool (and_t hq1 (dec_t h2))) aeq0) (Gh.sel [] rfl rfl))
    refine RA_noB rfl rfl rfl rfl (dec_f h2) rfl ?_
    refine RA_noB rfl rfl rfl rfl (dec_f h2) rfl ?_
    refine RA_noB rfl rfl rfl rfl (dec_f h2) rfl ?_
    refine RA_noB rfl rfl rfl rfl (dec_f h2) rfl ?_
    refine RA_noB rfl rfl rfl rfl (dec_f h2) rfl ?_
    refine RA_noB rfl rfl rfl rfl (dec_f h2) rfl ?_
    refine RA_step rfl (OA_v rfl (V_pickF rfl (dec_f h2) rfl) ?_)
    refine RA_nil ?_
    exact at_normal (St.mk1 (aeq (congrArg Value.bool (and_f hq1 (dec_f h2))) aeq0) (Gh.sel [] rfl rfl))
  rintro e ds As hst3
  refine RA.of_St rfl hst3 fun junk => ?_
  refine RA_step rfl (OA_v (v := .bool q1) rfl (V_assign rfl) ?_)
  refine RA_nil ?_
  refine at_normal ?_
  refine SA_ret ?_
  have hr_ := Option.some.inj H
  subst hr_
  exact BQ_R1 [] rfl rfl (Gh.sel [] rfl rfl) ⟨rfl, rfl⟩
end Go.Proofs.Ytodkeoibebimgaa.Sq

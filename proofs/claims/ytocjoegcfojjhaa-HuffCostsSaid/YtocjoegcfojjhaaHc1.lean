/- What functions compute, and that they do: 23, 28, 29, 43, 47, 52, 53, 57, 81, 82, 96. -/
import Derived.Test.YtocjoegcfojjhaaHc0
namespace Go.Proofs.Ytocjoegcfojjhaa.Hc
open Go Go.RowKit Go.Proofs.Ytocjoegcfojjhaa.SL
set_option linter.unusedVariables false
set_option linter.unusedSimpArgs false
attribute [local irreducible] IntKind.wrap minI maxI shrI shlI andI orI xorI andNotI cplI rd sub bytesOf strOf slA
/-! ### function 96: slices.IndexFunc[[]int,int] -/
def F96.l0 (l0 : (List Int)) (g1 : Int → Option (Bool)) : Nat → Int → Option (Out (Int) (Unit))
  | 0, _ => none
  | k + 1, x8_4 => if x8_4 < (l0.length : Int) then (if 0 ≤ x8_4 ∧ x8_4 < (l0.length : Int) then ((g1 (rd l0 x8_4)).bind (fun r10 => if r10 = true then (some (Out.ret (x8_4))) else (F96.l0 l0 g1 k (IntKind.i64.wrap (x8_4 + 1))))) else none) else (some (Out.go ()))
def F96.f (k : Nat) (l0 : (List Int)) (g1 : Int → Option (Bool)) : Option (Int) := (F96.l0 l0 g1 k 0 : Option (Out (Int) (Unit))).bind (fun t3 => Out.el t3 (fun r_ => some r_) (fun s4 => some ((-1))))
set_option maxHeartbeats 2000000 in
set_option maxRecDepth 100000 in
theorem F96.ok {k : Nat} {l0 : (List Int)} {g1 : Int → Option (Bool)} {A0 : Option Addr} {c0 : Nat} {fv1 : Value} {Fr1 : Asrt} (hg1 : ∀ {x0_ : Int} {r_ : Bool}, g1 x0_ = some r_ → FC Try.prog fv1 [.int .i64 x0_] [Fr1] (fun v B => ∃ B0, (v = .bool r_ ∧ B0 = []) ∧ B = B0 ++ [Fr1])) {r : Int} (H : F96.f k l0 g1 = some r) : SCA Try.prog 96 #[.slice A0 l0.length c0, fv1] [Ro (Kd.int .i64) A0 c0 l0, Fr1] (fun v B => v = .int .i64 r ∧ B = [Fr1]) := by
  refine SCA_of_body Try.func96 rfl rfl ?_
  unfold F96.f at H
  refine SA_seq ?_
  refine SA_region ?_
  refine RA_step rfl (OA_v (v := .int .i64 0) rfl (V_assign rfl) ?_)
  refine RA_nil ?_
  refine at_normal ?_
  refine SA_seq ?_
  refine SA_seq ?_
  refine SA_region ?_
  refine RA_step rfl (OA_v (v := .slice A0 l0.length c0) rfl (V_move rfl) ?_)
  refine RA_step rfl (OA_v (v := .int .i64 (l0.length : Int)) rfl (V_len Try.underlying34 rfl) ?_)
  refine RA_step rfl (OA_v (v := .int .i64 0) rfl (V_move rfl) ?_)
  refine RA_nil ?_
  refine at_normal ?_
  obtain ⟨t3, H, Bt3⟩ := g_bind H
  refine SA_mid (fun e ds As => ∃ (s4 : Unit), t3 = Out.go s4 ∧ St [] [Fr1] e ds As) ?_ ?_
  · refine SA_block ?_
    refine SA_loop (fun k_ e ds As => ∃ (x8_4 : Int), F96.l0 l0 g1 k_ x8_4 = some t3 ∧ St [(0, .slice A0 l0.length c0), (1, fv1), (7, .int .i64 (l0.length : Int)), (8, .int .i64 x8_4)] [Fr1, Ro (Kd.int .i64) A0 c0 l0] e ds As) (k := k) ⟨_, H, St.mk1 (aeq rfl (aeq rfl (aeq rfl (aeq rfl aeq0)))) (Gh.sel [1, 0] rfl rfl)⟩ ?_
    clear H
    rintro k5 e ds As ⟨x8_4, H, hst6⟩
    obtain _ | k5 := k5
    · cases H
    rw [F96.l0] at H
    refine SA.of_St hst6 fun junk => ?_
    refine SA_seq ?_
    refine SA_region ?_
    refine RA_step rfl (OA_v (v := .bool (decide (x8_4 < (l0.length : Int)))) rfl (V_lss rfl rfl) ?_)
    refine RA_nil ?_
    refine at_normal ?_
    refine SA_seq ?_
    by_cases h7 : x8_4 < (l0.length : Int)
    · replace H := g_ift h7 H
      refine SA_condT rfl h7 ?_
      refine SA_skip ?_
      refine at_normal ?_
      refine SA_seq ?_
      refine SA_block ?_
      refine SA_seq ?_
      refine SA_region ?_
      refine RA_step rfl (OA_v (v := .int .i64 x8_4) rfl (V_move rfl) ?_)
      refine RA_step rfl (OA_v (v := .int .i64 x8_4) rfl (V_assign rfl) ?_)
      refine RA_nil ?_
      refine at_normal ?_
      refine SA_seq ?_
      refine SA_region ?_
      refine RA_step rfl (OA_v (v := fv1) rfl (V_move rfl) ?_)
      refine RA_step rfl (OA_v (v := .slice A0 l0.length c0) rfl (V_move rfl) ?_)
      refine RA_step rfl (OA_v (v := .int .i64 x8_4) rfl (V_move rfl) ?_)
      obtain ⟨⟨g8, g9⟩, H⟩ := g_pos H
      refine RA_step rfl (OA_r rfl (VR_index (i := x8_4) Try.underlying34 sz3 rfl rfl (Src.ro (k := 1) rfl) g8 g9) ?_)
      refine RA_step rfl (OA_r rfl (VR_load_el (enc := (fun x_ : Int => [Value.int .i64 x_])) (i := x8_4) (j := x8_4.toNat * 1) (m := 0) (sz := 1) Try.underlying3 rfl rfl rfl rfl (Src.ro (k := 1) rfl) g8 g9 (fun _ _ h => h) rfl) ?_)
      obtain ⟨r10, C12, H⟩ := g_bind H
      refine RA_step rfl (OA_callF (vs := [.int .i64 (rd l0 x8_4)]) [0] [1] rfl rfl rfl rfl (hg1 (x0_ := rd l0 x8_4) C12) rfl ?_)
      rintro _ _ ⟨_, ⟨rfl, rfl⟩, rfl⟩
      refine RA_nil ?_
      refine at_normal ?_
      by_cases h11 : r10 = true
      · replace H := g_ift h11 H
        refine SA_condTb rfl h11 ?_
        refine SA_seq ?_
        refine SA_region ?_
        refine RA_step rfl (OA_v (v := .int .i64 x8_4) rfl (V_move rfl) ?_)
        refine RA_step rfl (OA_v (v := .int .i64 x8_4) rfl (V_assign rfl) ?_)
        refine RA_nil ?_
        refine at_normal ?_
        refine SA_ret ?_
        refine inb_ret ?_
        refine thn_ret ?_
        refine thn_ret ?_
        refine inb_ret ?_
        refine thn_ret ?_
        refine thn_ret ?_
        have hr_ := Option.some.inj H
        subst hr_
        have hb_ := el_ret Bt3
        have hr_ := Option.some.inj hb_
        clear hb_
        subst hr_
        exact BQ_R1 [Fr1] rfl rfl (Gh.sel [0] rfl rfl) ⟨rfl, rfl⟩
      · replace H := g_iff h11 H
        refine SA_condFb rfl h11 ?_
        refine SA_skip ?_
        refine inb_normal ?_
        refine at_normal ?_
        refine SA_region ?_
        refine RA_step rfl (OA_v (v := .int .i64 (IntKind.i64.wrap (x8_4 + 1))) rfl (V_add rfl rfl) ?_)
        refine RA_step rfl (OA_v (v := .int .i64 (IntKind.i64.wrap (x8_4 + 1))) rfl (V_move rfl) ?_)
        refine RA_nil ?_
        exact at_normal ⟨k5, Nat.lt_succ_self _, _, H, St.mk1 (aeq rfl (aeq rfl (aeq rfl (aeq rfl aeq0)))) (Gh.sel [0, 1] rfl rfl)⟩
    · replace H := g_iff h7 H
      refine SA_condF rfl h7 ?_
      refine SA_exit ?_
      refine thn_exit ?_
      refine thn_exit ?_
      refine inb_hit ?_
      have hr_ := Option.some.inj H
      subst hr_
      exact at_normal ⟨(), rfl, St.mk1 aeq0 (Gh.sel [0] rfl rfl)⟩
  · rintro e ds As ⟨s4, ht, hst13⟩
    clear H
    subst ht
    replace Bt3 := el_go Bt3
    have H := Bt3
    clear Bt3
    refine at_normal ?_
    refine SA.of_St hst13 fun junk => ?_
    refine SA_seq ?_
    refine SA_region ?_
    refine RA_step rfl (OA_v (v := .int .i64 (-1)) rfl (V_assign rfl) ?_)
    refine RA_nil ?_
    refine at_normal ?_
    refine SA_ret ?_
    have hr_ := Option.some.inj H
    subst hr_
    exact BQ_R1 [Fr1] rfl rfl (Gh.sel [0] rfl rfl) ⟨rfl, rfl⟩

/-! ### function 81: slices.ContainsFunc[[]int,int] -/
def F81.f (k : Nat) (l0 : (List Int)) (g1 : Int → Option (Bool)) : Option (Bool) := (F96.f k l0 g1).bind (fun r3 => some (decide (r3 ≥ 0)))
set_option maxHeartbeats 2000000 in
set_option maxRecDepth 100000 in
theorem F81.ok {k : Nat} {l0 : (List Int)} {g1 : Int → Option (Bool)} {A0 : Option Addr} {c0 : Nat} {fv1 : Value} {Fr1 : Asrt} (hg1 : ∀ {x0_ : Int} {r_ : Bool}, g1 x0_ = some r_ → FC Try.prog fv1 [.int .i64 x0_] [Fr1] (fun v B => ∃ B0, (v = .bool r_ ∧ B0 = []) ∧ B = B0 ++ [Fr1])) {r : Bool} (H : F81.f k l0 g1 = some r) : SCA Try.prog 81 #[.slice A0 l0.length c0, fv1] [Ro (Kd.int .i64) A0 c0 l0, Fr1] (fun v B => v = .bool r ∧ B = [Fr1]) := by
  refine SCA_of_body Try.func81 rfl rfl ?_
  unfold F81.f at H
  refine SA_seq ?_
  refine SA_region ?_
  refine RA_step rfl (OA_v (v := .bool false) rfl (V_assign rfl) ?_)
  refine RA_nil ?_
  refine at_normal ?_
  refine SA_seq ?_
  refine SA_region ?_
  refine RA_step rfl (OA_v (v := .slice A0 l0.length c0) rfl (V_move rfl) ?_)
  refine RA_step rfl (OA_v (v := fv1) rfl (V_move rfl) ?_)
  obtain ⟨r3, C4, H⟩ := g_bind H
  refine RA_step rfl (OA_callA [0, 1] [0] rfl (X_fn (vs := [.slice A0 l0.length c0, fv1]) Try.func96 nm96 rfl rfl) rfl (F96.ok (l0 := l0) (A0 := A0) (c0 := c0) (g1 := g1) (fv1 := fv1) (Fr1 := Fr1) (hg1 := hg1) C4) rfl ?_)
  rintro _ _ ⟨rfl, rfl⟩
  refine RA_step rfl (OA_v (v := .bool (decide (r3 ≥ 0))) rfl (V_geq rfl rfl) ?_)
  refine RA_step rfl (OA_v (v := .bool (decide (r3 ≥ 0))) rfl (V_assign rfl) ?_)
  refine RA_nil ?_
  refine at_normal ?_
  refine SA_ret ?_
  have hr_ := Option.some.inj H
  subst hr_
  exact BQ_R1 [Fr1] rfl rfl (Gh.sel [0] rfl rfl) ⟨rfl, rfl⟩

/-! ### function 82: wayfarer/huff.in$1 -/
def F82.f (a0 : Int) (p1 : Int) : Option (Bool) := lt ((decide (a0 < 0)) || (decide (a0 > p1))) fun q2 => some (q2)
set_option maxHeartbeats 2000000 in
set_option maxRecDepth 100000 in
theorem F82.ok {a0 : Int} {p1 : Int} {b1_ : Nat} {r : Bool} (H : F82.f a0 p1 = some r) : SCA Try.prog 82 #[.int .i64 a0, .pointer (some ⟨b1_, 0, none⟩)] [Blk b1_ 3 [.int .i64 p1]] (fun v B => v = .bool r ∧ B = [Blk b1_ 3 [.int .i64 p1]]) := by
  refine SCA_of_body Try.func82 rfl rfl ?_
  unfold F82.f at H
  refine SA_seq ?_
  refine SA_region ?_
  refine RA_step rfl (OA_v (v := .bool false) rfl (V_assign rfl) ?_)
  refine RA_nil ?_
  refine at_normal ?_
  refine SA_seq ?_
  refine SA_region ?_
  refine RA_step rfl (OA_v (v := .int .i64 a0) rfl (V_move rfl) ?_)
  refine RA_step rfl (OA_v (v := .bool (decide (a0 < 0))) rfl (V_lss rfl rfl) ?_)
  refine RA_step rfl (OA_v (v := .bool (decide (a0 < 0))) rfl (V_move rfl) ?_)
  obtain ⟨q2, hq2, H⟩ := g_lt H
  refine RA_cut 4 (fun e ds As => St [(10, .bool q2)] [Blk b1_ 3 [.int .i64 p1]] e ds As) ?_ ?_
  · by_cases h3 : a0 < 0
    · refine RA_noB rfl rfl rfl rfl (dec_t h3) rfl ?_
      refine RA_noB rfl rfl rfl rfl (dec_t h3) rfl ?_
      refine RA_noB rfl rfl rfl rfl (dec_t h3) rfl ?_
      refine RA_step rfl (OA_v rfl (V_pickT rfl (dec_t h3) rfl) ?_)
      refine RA_nil ?_
      exact at_normal (St.mk1 (aeq (congrArg Value.bool (or_t hq2 (dec_t h3))) aeq0) (Gh.sel [0] rfl rfl))
    · refine RA_yesB rfl rfl rfl rfl (dec_f h3) (OA_v (v := .int .i64 a0) rfl (V_move rfl) ?_)
      refine RA_yesB rfl rfl rfl rfl (dec_f h3) (OA_r rfl (VR_load_blk (b := b1_) (m := 0) (k := 0) Try.underlying3 rfl rfl rfl rfl) ?_)
      refine RA_yesB rfl rfl rfl rfl (dec_f h3) (OA_v (v := .bool (decide (a0 > p1))) rfl (V_gtr rfl rfl) ?_)
      refine RA_step rfl (OA_v rfl (V_pickF rfl (dec_f h3) rfl) ?_)
      refine RA_nil ?_
      exact at_normal (St.mk1 (aeq (congrArg Value.bool (or_f hq2 (dec_f h3))) aeq0) (Gh.sel [0] rfl rfl))
  · rintro e ds As hst4
    refine RA.of_St rfl hst4 fun junk => ?_
    refine RA_step rfl (OA_v (v := .bool q2) rfl (V_assign rfl) ?_)
    refine RA_nil ?_
    refine at_normal ?_
    refine SA_ret ?_
    have hr_ := Option.some.inj H
    subst hr_
    exact BQ_R1 [Blk b1_ 3 [.int .i64 p1]] rfl rfl (Gh.sel [0] rfl rfl) ⟨rfl, rfl⟩

/-! ### function 52: wayfarer/huff.in -/
def F52.f (k : Nat) (l0 : (List Int)) (a1 : Int) : Option (Bool) := (F81.f k l0 (fun (x0_ : Int) => F82.f x0_ a1)).bind (fun r4 => some (!r4))
set_option maxHeartbeats 2000000 in
set_option maxRecDepth 100000 in
theorem F52.ok {k : Nat} {l0 : (List Int)} {a1 : Int} {A0 : Option Addr} {c0 : Nat} {r : Bool} (H : F52.f k l0 a1 = some r) : SCA Try.prog 52 #[.slice A0 l0.length c0, .int .i64 a1] [Ro (Kd.int .i64) A0 c0 l0] (fun v B => v = .bool r ∧ B = []) := by
  refine SCA_of_body Try.func52 rfl rfl ?_
  unfold F52.f at H
  refine SA_seq ?_
  refine SA_region ?_
  refine RA_step rfl (OA_box rfl rfl fun b2 => ?_)
  refine RA_step rfl (OA_v (v := .bool false) rfl (V_assign rfl) ?_)
  refine RA_nil ?_
  refine at_normal ?_
  refine SA_seq ?_
  refine SA_region ?_
  refine RA_step rfl (OA_v (v := .slice A0 l0.length c0) rfl (V_move rfl) ?_)
  refine RA_step rfl (OA_v (v := .func (.func 82) #[] #[.pointer (some ⟨b2, 0, none⟩)]) rfl (V_makeFuncL (us := [.pointer (some ⟨b2, 0, none⟩)]) rfl) ?_)
  obtain ⟨r4, C5, H⟩ := g_bind H
  refine RA_step rfl (OA_callA [0, 1] [0] rfl (X_fn (vs := [.slice A0 l0.length c0, .func (.func 82) #[] #[.pointer (some ⟨b2, 0, none⟩)]]) Try.func81 nm81 rfl rfl) rfl (SCA.unpk (pre0 := [Ro (Kd.int .i64) A0 c0 l0]) (Bs := [Blk b2 3 [.int .i64 a1]]) ((F81.ok (l0 := l0) (A0 := A0) (c0 := c0) (g1 := (fun (x0_ : Int) => F82.f x0_ a1)) (fv1 := .func (.func 82) #[] #[.pointer (some ⟨b2, 0, none⟩)]) (Fr1 := Pk [Blk b2 3 [.int .i64 a1]]) (hg1 := (fun {x0_} {r_} C_ => FC.of (pre0 := []) (Bs := [Blk b2 3 [.int .i64 a1]]) (cap := [.pointer (some ⟨b2, 0, none⟩)]) Try.func82 nm82 rfl ((F82.ok (a0 := x0_) (b1_ := b2) (p1 := a1) C_).mono (fun _ _ ⟨hv_, hB_⟩ => ⟨_, ⟨hv_, rfl⟩, hB_⟩)))) C5).mono (fun (v_ : Value) (B_ : List Asrt) ⟨hv_, hB_⟩ => (⟨[], ⟨hv_, rfl⟩, hB_⟩ : ∃ B0_ : List Asrt, (v_ = (.bool r4 : Value) ∧ B0_ = []) ∧ B_ = B0_ ++ [Pk [Blk b2 3 [.int .i64 a1]]])))) rfl ?_)
  rintro _ _ ⟨_, ⟨rfl, rfl⟩, rfl⟩
  refine RA_step rfl (OA_v (v := .bool (!r4)) rfl (V_not rfl) ?_)
  refine RA_step rfl (OA_v (v := .bool (!r4)) rfl (V_assign rfl) ?_)
  refine RA_nil ?_
  refine at_normal ?_
  refine SA_ret ?_
  have hr_ := Option.some.inj H
  subst hr_
  exact BQ_R1 [] rfl rfl (Gh.sel [] rfl rfl) ⟨rfl, rfl⟩

/-! ### function 53: wayfarer/huff.weight -/
def F53.l0 (l0 : (List Int)) : Nat → Int → Int → Option (Int)
  | 0, _, _ => none
  | k + 1, x3_2, x8_2 => if x8_2 < (l0.length : Int) then (if 0 ≤ x8_2 ∧ x8_2 < (l0.length : Int) then (lt (rd l0 x8_2) fun n8 => if n8 > 0 then (if 0 ≤ (IntKind.u64.wrap (n8)) then (lt (IntKind.i64.wrap (x3_2 + (shrI .i64 32768 (IntKind.u64.wrap (n8))))) fun n11 => F53.l0 l0 k n11 (IntKind.i64.wrap (x8_2 + 1))) else none) else (F53.l0 l0 k x3_2 (IntKind.i64.wrap (x8_2 + 1)))) else none) else (some x3_2)
def F53.f (k : Nat) (l0 : (List Int)) : Option (Int) := (F53.l0 l0 k 0 0 : Option (Int)).bind (fun t2 => some (t2))
set_option maxHeartbeats 2000000 in
set_option maxRecDepth 100000 in
theorem F53.ok {k : Nat} {l0 : (List Int)} {A0 : Option Addr} {c0 : Nat} {r : Int} (H : F53.f k l0 = some r) : SCA Try.prog 53 #[.slice A0 l0.length c0] [Ro (Kd.int .i64) A0 c0 l0] (fun v B => v = .int .i64 r ∧ B = []) := by
  refine SCA_of_body Try.func53 rfl rfl ?_
  unfold F53.f at H
  refine SA_seq ?_
  refine SA_region ?_
  refine RA_step rfl (OA_v (v := .int .i64 0) rfl (V_assign rfl) ?_)
  refine RA_nil ?_
  refine at_normal ?_
  refine SA_seq ?_
  refine SA_region ?_
  refine RA_step rfl (OA_v (v := .int .i64 0) rfl (V_assign rfl) ?_)
  refine RA_nil ?_
  refine at_normal ?_
  refine SA_seq ?_
  refine SA_seq ?_
  refine SA_region ?_
  refine RA_step rfl (OA_v (v := .slice A0 l0.length c0) rfl (V_move rfl) ?_)
  refine RA_step rfl (OA_v (v := .int .i64 (l0.length : Int)) rfl (V_len Try.underlying34 rfl) ?_)
  refine RA_step rfl (OA_v (v := .int .i64 0) rfl (V_move rfl) ?_)
  refine RA_nil ?_
  refine at_normal ?_
  obtain ⟨t2, H, Bt2⟩ := g_bind H
  refine SA_mid (fun e ds As => St [(3, .int .i64 t2)] [] e ds As) ?_ ?_
  · refine SA_block ?_
    refine SA_loop (fun k_ e ds As => ∃ (x3_2 : Int) (x8_2 : Int), F53.l0 l0 k_ x3_2 x8_2 = some t2 ∧ St [(3, .int .i64 x3_2), (6, .slice A0 l0.length c0), (7, .int .i64 (l0.length : Int)), (8, .int .i64 x8_2)] [Ro (Kd.int .i64) A0 c0 l0] e ds As) (k := k) ⟨_, _, H, St.mk1 (aeq rfl (aeq rfl (aeq rfl (aeq rfl aeq0)))) (Gh.sel [0] rfl rfl)⟩ ?_
    clear H
    rintro k3 e ds As ⟨x3_2, x8_2, H, hst4⟩
    obtain _ | k3 := k3
    · cases H
    rw [F53.l0] at H
    refine SA.of_St hst4 fun junk => ?_
    refine SA_seq ?_
    refine SA_region ?_
    refine RA_step rfl (OA_v (v := .bool (decide (x8_2 < (l0.length : Int)))) rfl (V_lss rfl rfl) ?_)
    refine RA_nil ?_
    refine at_normal ?_
    refine SA_seq ?_
    by_cases h5 : x8_2 < (l0.length : Int)
    · replace H := g_ift h5 H
      refine SA_condT rfl h5 ?_
      refine SA_skip ?_
      refine at_normal ?_
      refine SA_seq ?_
      refine SA_block ?_
      refine SA_seq ?_
      refine SA_region ?_
      obtain ⟨⟨g6, g7⟩, H⟩ := g_pos H
      refine RA_step rfl (OA_r rfl (VR_index (i := x8_2) Try.underlying34 sz3 rfl rfl (Src.ro (k := 0) rfl) g6 g7) ?_)
      refine RA_step rfl (OA_r rfl (VR_load_el (enc := (fun x_ : Int => [Value.int .i64 x_])) (i := x8_2) (j := x8_2.toNat * 1) (m := 0) (sz := 1) Try.underlying3 rfl rfl rfl rfl (Src.ro (k := 0) rfl) g6 g7 (fun _ _ h => h) rfl) ?_)
      obtain ⟨n8, hn8, H⟩ := g_lt H
      refine RA_step rfl (OA_v (v := .int .i64 n8) rfl (V_assign (v := .int .i64 n8) (congrArg (Value.int .i64) hn8.symm)) ?_)
      refine RA_nil ?_
      refine at_normal ?_
      refine SA_seq ?_
      refine SA_region ?_
      refine RA_step rfl (OA_v (v := .int .i64 n8) rfl (V_move rfl) ?_)
      refine RA_step rfl (OA_v (v := .bool (decide (n8 > 0))) rfl (V_gtr rfl rfl) ?_)
      refine RA_nil ?_
      refine at_normal ?_
      by_cases h9 : n8 > 0
      · replace H := g_ift h9 H
        refine SA_condT rfl h9 ?_
        refine SA_region ?_
        refine RA_step rfl (OA_v (v := .int .i64 x3_2) rfl (V_move rfl) ?_)
        refine RA_step rfl (OA_v (v := .int .i64 n8) rfl (V_move rfl) ?_)
        refine RA_step rfl (OA_v (v := .int .u64 (IntKind.u64.wrap (n8))) rfl (V_conv (T := 3) (by kernel_rfl) Try.underlying53 rfl) ?_)
        obtain ⟨g10, H⟩ := g_pos H
        refine RA_step rfl (OA_v (v := .int .i64 (shrI .i64 32768 (IntKind.u64.wrap (n8)))) rfl (V_shr rfl rfl g10) ?_)
        refine RA_step rfl (OA_v (v := .int .i64 (IntKind.i64.wrap (x3_2 + (shrI .i64 32768 (IntKind.u64.wrap (n8)))))) rfl (V_add rfl rfl) ?_)
        obtain ⟨n11, hn11, H⟩ := g_lt H
        refine RA_step rfl (OA_v (v := .int .i64 n11) rfl (V_assign (v := .int .i64 n11) (congrArg (Value.int .i64) hn11.symm)) ?_)
        refine RA_nil ?_
        refine inb_normal ?_
        refine at_normal ?_
        refine SA_region ?_
        refine RA_step rfl (OA_v (v := .int .i64 (IntKind.i64.wrap (x8_2 + 1))) rfl (V_add rfl rfl) ?_)
        refine RA_step rfl (OA_v (v := .int .i64 (IntKind.i64.wrap (x8_2 + 1))) rfl (V_move rfl) ?_)
        refine RA_nil ?_
        exact at_normal ⟨k3, Nat.lt_succ_self _, _, _, H, St.mk1 (aeq rfl (aeq rfl (aeq rfl (aeq rfl aeq0)))) (Gh.sel [0] rfl rfl)⟩
      · replace H := g_iff h9 H
        refine SA_condF rfl h9 ?_
        refine SA_skip ?_
        refine inb_normal ?_
        refine at_normal ?_
        refine SA_region ?_
        refine RA_step rfl (OA_v (v := .int .i64 (IntKind.i64.wrap (x8_2 + 1))) rfl (V_add rfl rfl) ?_)
        refine RA_step rfl (OA_v (v := .int .i64 (IntKind.i64.wrap (x8_2 + 1))) rfl (V_move rfl) ?_)
        refine RA_nil ?_
        exact at_normal ⟨k3, Nat.lt_succ_self _, _, _, H, St.mk1 (aeq rfl (aeq rfl (aeq rfl (aeq rfl aeq0)))) (Gh.sel [0] rfl rfl)⟩
    · replace H := g_iff h5 H
      refine SA_condF rfl h5 ?_
      refine SA_exit ?_
      refine thn_exit ?_
      refine thn_exit ?_
      refine inb_hit ?_
      have hr_ := Option.some.inj H
      subst hr_
      exact at_normal (St.mk1 (aeq rfl aeq0) (Gh.sel [] rfl rfl))
  · rintro e ds As hst12
    clear H
    have H := Bt2
    clear Bt2
    refine at_normal ?_
    refine SA.of_St hst12 fun junk => ?_
    refine SA_seq ?_
    refine SA_region ?_
    refine RA_step rfl (OA_v (v := .int .i64 t2) rfl (V_move rfl) ?_)
    refine RA_step rfl (OA_v (v := .int .i64 t2) rfl (V_assign rfl) ?_)
    refine RA_nil ?_
    refine at_normal ?_
    refine SA_ret ?_
    have hr_ := Option.some.inj H
    subst hr_
    exact BQ_R1 [] rfl rfl (Gh.sel [] rfl rfl) ⟨rfl, rfl⟩

/-! ### function 28: wayfarer/huff.Cost -/
def F28.l0 (l0 : (List Int)) (l1 : (List Int)) : Nat → Int → Int → Option (Int)
  | 0, _, _ => none
  | k + 1, x6_19, x35_19 => if x35_19 < (l0.length : Int) then (if 0 ≤ x35_19 ∧ x35_19 < (l0.length : Int) then (if 0 ≤ x35_19 ∧ x35_19 < (l1.length : Int) then (lt (IntKind.i64.wrap (x6_19 + (IntKind.i64.wrap ((rd l0 x35_19) * (rd l1 x35_19))))) fun n683 => F28.l0 l0 l1 k n683 (IntKind.i64.wrap (x35_19 + 1))) else none) else none) else (some x6_19)
def F28.f (k : Nat) (l0 : (List Int)) (l1 : (List Int)) : Option (Int × Int) := (F52.f k l0 1048576).bind (fun r3 => lt ((!r3) || (decide ((l0.length : Int) ≠ (l1.length : Int)))) fun q4 => (if q4 = true then (some true) else ((F52.f k l1 15).bind (fun r9 => some (!r9))) : Option Bool).bind (fun q7 => (if q7 = true then (some true) else ((F53.f k l1).bind (fun r14 => some (decide (r14 > 32768)))) : Option Bool).bind (fun q12 => if q12 = true then (some ((0, 2))) else (if (l0.length : Int) > 512 then (some ((0, 4))) else ((F28.l0 l0 l1 k 0 0 : Option (Int)).bind (fun t19 => some ((t19, 0))))))))
set_option maxHeartbeats 2000000 in
set_option maxRecDepth 100000 in
theorem F28.ok {k : Nat} {l0 : (List Int)} {l1 : (List Int)} {A0 : Option Addr} {c0 : Nat} {A1 : Option Addr} {c1 : Nat} {r : Int × Int} (H : F28.f k l0 l1 = some r) : SCA Try.prog 28 #[.slice A0 l0.length c0, .slice A1 l1.length c1] [Ro (Kd.int .i64) A0 c0 l0, Ro (Kd.int .i64) A1 c1 l1] (fun v B => v = .tuple #[.int .i64 r.1, .int .i64 r.2] ∧ B = []) := by
  refine SCA_of_body Try.func28 rfl rfl ?_
  unfold F28.f at H
  refine SA_seq ?_
  refine SA_region ?_
  refine RA_step rfl (OA_v (v := .int .i64 0) rfl (V_assign rfl) ?_)
  refine RA_step rfl (OA_v (v := .int .i64 0) rfl (V_assign rfl) ?_)
  refine RA_nil ?_
  refine at_normal ?_
  refine SA_seq ?_
  refine SA_block ?_
  refine SA_seq ?_
  refine SA_region ?_
  refine RA_step rfl (OA_v (v := .slice A0 l0.length c0) rfl (V_move rfl) ?_)
  obtain ⟨r3, C745, H⟩ := g_bind H
  refine RA_step rfl (OA_callA [0] [0, 1] rfl (X_fn (vs := [.slice A0 l0.length c0, .int .i64 1048576]) Try.func52 nm52 rfl rfl) rfl (F52.ok (l0 := l0) (A0 := A0) (c0 := c0) (a1 := 1048576) C745) rfl ?_)
  rintro _ _ ⟨rfl, rfl⟩
  refine RA_step rfl (OA_v (v := .bool (!r3)) rfl (V_not rfl) ?_)
  refine RA_step rfl (OA_v (v := .bool (!r3)) rfl (V_move rfl) ?_)
  obtain ⟨q4, hq4, H⟩ := g_lt H
  refine RA_cut 6 (fun e ds As => St [(0, .slice A0 l0.length c0), (1, .slice A1 l1.length c1), (18, .bool q4)] [Ro (Kd.int .i64) A0 c0 l0, Ro (Kd.int .i64) A1 c1 l1] e ds As) ?_ ?_
  · by_cases h5 : (!r3) = true
    · refine RA_noB rfl rfl rfl rfl (h5) rfl ?_
      refine RA_noB rfl rfl rfl rfl (h5) rfl ?_
      refine RA_noB rfl rfl rfl rfl (h5) rfl ?_
      refine RA_noB rfl rfl rfl rfl (h5) rfl ?_
      refine RA_noB rfl rfl rfl rfl (h5) rfl ?_
      refine RA_step rfl (OA_v rfl (V_pickT rfl (h5) rfl) ?_)
      refine RA_nil ?_
      exact at_normal (St.mk1 (aeq rfl (aeq rfl (aeq (congrArg Value.bool (or_t hq4 (h5))) aeq0))) (Gh.sel [0, 1] rfl rfl))
    · refine RA_yesB rfl rfl rfl rfl (bno h5) (OA_v (v := .slice A0 l0.length c0) rfl (V_move rfl) ?_)
      refine RA_yesB rfl rfl rfl rfl (bno h5) (OA_v (v := .int .i64 (l0.length : Int)) rfl (V_len Try.underlying34 rfl) ?_)
      refine RA_yesB rfl rfl rfl rfl (bno h5) (OA_v (v := .slice A1 l1.length c1) rfl (V_move rfl) ?_)
      refine RA_yesB rfl rfl rfl rfl (bno h5) (OA_v (v := .int .i64 (l1.length : Int)) rfl (V_len Try.underlying34 rfl) ?_)
      refine RA_yesB rfl rfl rfl rfl (bno h5) (OA_v (v := .bool (decide ((l0.length : Int) ≠ (l1.length : Int)))) rfl (V_neq rfl rfl) ?_)
      refine RA_step rfl (OA_v rfl (V_pickF rfl (bno h5) rfl) ?_)
      refine RA_nil ?_
      exact at_normal (St.mk1 (aeq rfl (aeq rfl (aeq (congrArg Value.bool (or_f hq4 (bno h5))) aeq0))) (Gh.sel [0, 1] rfl rfl))
  · rintro e ds As hst6
    refine RA.of_St rfl hst6 fun junk => ?_
    refine RA_step rfl (OA_v (v := .bool q4) rfl (V_move rfl) ?_)
    obtain ⟨q7, H, Bq7⟩ := g_bind H
    refine RA_cut 4 (fun e ds As => St [(0, .slice A0 l0.length c0), (1, .slice A1 l1.length c1), (23, .bool q7)] [Ro (Kd.int .i64) A0 c0 l0, Ro (Kd.int .i64) A1 c1 l1] e ds As) ?_ ?_
    · by_cases h8 : q4 = true
      · replace H := g_ift h8 H
        refine RA_noB rfl rfl rfl rfl (h8) rfl ?_
        refine RA_noB rfl rfl rfl rfl (h8) rfl ?_
        refine RA_noB rfl rfl rfl rfl (h8) rfl ?_
        refine RA_step rfl (OA_v rfl (V_pickT rfl (h8) rfl) ?_)
        have hr_ := Option.some.inj H
        subst hr_
        refine RA_nil ?_
        exact at_normal (St.mk1 (aeq rfl (aeq rfl (aeq rfl aeq0))) (Gh.sel [0, 1] rfl rfl))
      · replace H := g_iff h8 H
        refine RA_yesB rfl rfl rfl rfl (bno h8) (OA_v (v := .slice A1 l1.length c1) rfl (V_move rfl) ?_)
        obtain ⟨r9, C10, H⟩ := g_bind H
        refine RA_yesB rfl rfl rfl rfl (bno h8) (OA_callA [1] [0, 1] rfl (X_fn (vs := [.slice A1 l1.length c1, .int .i64 15]) Try.func52 nm52 rfl rfl) rfl (F52.ok (l0 := l1) (A0 := A1) (c0 := c1) (a1 := 15) C10) rfl ?_)
        rintro _ _ ⟨rfl, rfl⟩
        refine RA_yesB rfl rfl rfl rfl (bno h8) (OA_v (v := .bool (!r9)) rfl (V_not rfl) ?_)
        refine RA_step rfl (OA_v rfl (V_pickF rfl (bno h8) rfl) ?_)
        have hr_ := Option.some.inj H
        subst hr_
        refine RA_nil ?_
        exact at_normal (St.mk1 (aeq rfl (aeq rfl (aeq rfl aeq0))) (Gh.sel [0, 1] rfl rfl))
    · rintro e ds As hst11
      clear H
      have H := Bq7
      clear Bq7
      refine RA.of_St rfl hst11 fun junk => ?_
      refine RA_step rfl (OA_v (v := .bool q7) rfl (V_move rfl) ?_)
      obtain ⟨q12, H, Bq12⟩ := g_bind H
      refine RA_cut 4 (fun e ds As => St [(0, .slice A0 l0.length c0), (1, .slice A1 l1.length c1), (28, .bool q12)] [Ro (Kd.int .i64) A0 c0 l0, Ro (Kd.int .i64) A1 c1 l1] e ds As) ?_ ?_
      · by_cases h13 : q7 = true
        · replace H := g_ift h13 H
          refine RA_noB rfl rfl rfl rfl (h13) rfl ?_
          refine RA_noB rfl rfl rfl rfl (h13) rfl ?_
          refine RA_noB rfl rfl rfl rfl (h13) rfl ?_
          refine RA_step rfl (OA_v rfl (V_pickT rfl (h13) rfl) ?_)
          have hr_ := Option.some.inj H
          subst hr_
          refine RA_nil ?_
          exact at_normal (St.mk1 (aeq rfl (aeq rfl (aeq rfl aeq0))) (Gh.sel [0, 1] rfl rfl))
        · replace H := g_iff h13 H
          refine RA_yesB rfl rfl rfl rfl (bno h13) (OA_v (v := .slice A1 l1.length c1) rfl (V_move rfl) ?_)
          obtain ⟨r14, C15, H⟩ := g_bind H
          refine RA_yesB rfl rfl rfl rfl (bno h13) (OA_callA [1] [0, 1] rfl (X_fn (vs := [.slice A1 l1.length c1]) Try.func53 nm53 rfl rfl) rfl (F53.ok (l0 := l1) (A0 := A1) (c0 := c1) C15) rfl ?_)
          rintro _ _ ⟨rfl, rfl⟩
          refine RA_yesB rfl rfl rfl rfl (bno h13) (OA_v (v := .bool (decide (r14 > 32768))) rfl (V_gtr rfl rfl) ?_)
          refine RA_step rfl (OA_v rfl (V_pickF rfl (bno h13) rfl) ?_)
          have hr_ := Option.some.inj H
          subst hr_
          refine RA_nil ?_
          exact at_normal (St.mk1 (aeq rfl (aeq rfl (aeq rfl aeq0))) (Gh.sel [0, 1] rfl rfl))
      · rintro e ds As hst16
        clear H
        have H := Bq12
        clear Bq12
        refine RA.of_St rfl hst16 fun junk => ?_
        refine RA_step rfl (OA_v (v := .bool q12) rfl (V_assign rfl) ?_)
        refine RA_nil ?_
        refine at_normal ?_
        by_cases h17 : q12 = true
        · replace H := g_ift h17 H
          refine SA_condTb rfl h17 ?_
          refine SA_seq ?_
          refine SA_region ?_
          refine RA_step rfl (OA_v (v := .int .i64 0) rfl (V_assign rfl) ?_)
          refine RA_step rfl (OA_v (v := .int .i64 2) rfl (V_assign rfl) ?_)
          refine RA_nil ?_
          refine at_normal ?_
          refine SA_ret ?_
          refine inb_ret ?_
          refine thn_ret ?_
          have hr_ := Option.some.inj H
          subst hr_
          exact BQ_R2 [] rfl rfl rfl (Gh.sel [] rfl rfl) ⟨rfl, rfl⟩
        · replace H := g_iff h17 H
          refine SA_condFb rfl h17 ?_
          refine SA_seq ?_
          refine SA_region ?_
          refine RA_step rfl (OA_v (v := .slice A0 l0.length c0) rfl (V_move rfl) ?_)
          refine RA_step rfl (OA_v (v := .int .i64 (l0.length : Int)) rfl (V_len Try.underlying34 rfl) ?_)
          refine RA_step rfl (OA_v (v := .bool (decide ((l0.length : Int) > 512))) rfl (V_gtr rfl rfl) ?_)
          refine RA_step rfl (OA_v (v := .bool (decide ((l0.length : Int) > 512))) rfl (V_assign rfl) ?_)
          refine RA_nil ?_
          refine at_normal ?_
          by_cases h18 : (l0.length : Int) > 512
          · replace H := g_ift h18 H
            refine SA_condT rfl h18 ?_
            refine SA_seq ?_
            refine SA_region ?_
            refine RA_step rfl (OA_v (v := .int .i64 0) rfl (V_assign rfl) ?_)
            refine RA_step rfl (OA_v (v := .int .i64 4) rfl (V_assign rfl) ?_)
            refine RA_nil ?_
            refine at_normal ?_
            refine SA_ret ?_
            refine inb_ret ?_
            refine thn_ret ?_
            have hr_ := Option.some.inj H
            subst hr_
            exact BQ_R2 [] rfl rfl rfl (Gh.sel [] rfl rfl) ⟨rfl, rfl⟩
          · replace H := g_iff h18 H
            refine SA_condF rfl h18 ?_
            refine SA_skip ?_
            refine inb_normal ?_
            refine at_normal ?_
            refine SA_seq ?_
            refine SA_region ?_
            refine RA_step rfl (OA_v (v := .int .i64 0) rfl (V_assign rfl) ?_)
            refine RA_nil ?_
            refine at_normal ?_
            refine SA_seq ?_
            refine SA_seq ?_
            refine SA_region ?_
            refine RA_step rfl (OA_v (v := .slice A0 l0.length c0) rfl (V_move rfl) ?_)
            refine RA_step rfl (OA_v (v := .int .i64 (l0.length : Int)) rfl (V_len Try.underlying34 rfl) ?_)
            refine RA_step rfl (OA_v (v := .int .i64 0) rfl (V_move rfl) ?_)
            refine RA_nil ?_
            refine at_normal ?_
            obtain ⟨t19, H, Bt19⟩ := g_bind H
            refine SA_mid (fun e ds As => St [(6, .int .i64 t19)] [] e ds As) ?_ ?_
            · refine SA_block ?_
              refine SA_loop (fun k_ e ds As => ∃ (x6_19 : Int) (x35_19 : Int), F28.l0 l0 l1 k_ x6_19 x35_19 = some t19 ∧ St [(0, .slice A0 l0.length c0), (1, .slice A1 l1.length c1), (6, .int .i64 x6_19), (34, .int .i64 (l0.length : Int)), (35, .int .i64 x35_19)] [Ro (Kd.int .i64) A0 c0 l0, Ro (Kd.int .i64) A1 c1 l1] e ds As) (k := k) ⟨_, _, H, St.mk1 (aeq rfl (aeq rfl (aeq rfl (aeq rfl (aeq rfl aeq0))))) (Gh.sel [0, 1] rfl rfl)⟩ ?_
              clear H
              rintro k20 e ds As ⟨x6_19, x35_19, H, hst21⟩
              obtain _ | k20 := k20
              · cases H
              rw [F28.l0] at H
              refine SA.of_St hst21 fun junk => ?_
              refine SA_seq ?_
              refine SA_region ?_
              refine RA_step rfl (OA_v (v := .bool (decide (x35_19 < (l0.length : Int)))) rfl (V_lss rfl rfl) ?_)
              refine RA_nil ?_
              refine at_normal ?_
              refine SA_seq ?_
              by_cases h22 : x35_19 < (l0.length : Int)
              · replace H := g_ift h22 H
                refine SA_condT rfl h22 ?_
                refine SA_skip ?_
                refine at_normal ?_
                refine SA_seq ?_
                refine SA_block ?_
                refine SA_seq ?_
                refine SA_region ?_
                refine RA_step rfl (OA_v (v := .int .i64 x35_19) rfl (V_move rfl) ?_)
                refine RA_step rfl (OA_v (v := .int .i64 x35_19) rfl (V_assign rfl) ?_)
                refine RA_nil ?_
                refine at_normal ?_
                refine SA_drawH [0, 1, 2, 3, 4, 5, 6, 7, 8, 9, 10, 11] #[[], [], [], [1, 2], [1, 2, 3], [], [], [5, 6], [5, 6, 7], [1, 2, 3, 4, 5, 6, 7, 8], [0, 1, 2, 3, 4, 5, 6, 7, 8, 9], [0, 1, 2, 3, 4, 5, 6, 7, 8, 9, 10]] [0, 1] [0, 1] mixed rfl rfl rfl fun I0 hS h0 hh0 w0 sH dd => ?_
                refine DH_take (v := .int .i64 x6_19) 0 (by kernel_rfl) rfl rfl (.no rfl) (PanOk.inb (PanOk.thn (PanOk.thn (PanOk.inb (PanOk.thn (PanOk.thn PanOk.body)))))) sH rfl (VR.ofV (V_move rfl)) ?_
                refine DH_take (v := .slice A0 l0.length c0) 1 (by kernel_rfl) rfl rfl (.no rfl) (PanOk.inb (PanOk.thn (PanOk.thn (PanOk.inb (PanOk.thn (PanOk.thn PanOk.body)))))) sH rfl (VR.ofV (V_move rfl)) ?_
                refine DH_take (v := .int .i64 x35_19) 2 (by kernel_rfl) rfl rfl (.no rfl) (PanOk.inb (PanOk.thn (PanOk.thn (PanOk.inb (PanOk.thn (PanOk.thn PanOk.body)))))) sH rfl (VR.ofV (V_move rfl)) ?_
                obtain ⟨⟨g203, g204⟩, H⟩ := g_pos H
                refine DH_take 3 (by kernel_rfl) rfl rfl (.no rfl) (PanOk.inb (PanOk.thn (PanOk.thn (PanOk.inb (PanOk.thn (PanOk.thn PanOk.body)))))) sH rfl (VR_index (i := x35_19) Try.underlying34 sz3 rfl rfl (Src.ro (k := 0) rfl) g203 g204) ?_
                refine DH_take 4 (by kernel_rfl) rfl rfl (.no rfl) (PanOk.inb (PanOk.thn (PanOk.thn (PanOk.inb (PanOk.thn (PanOk.thn PanOk.body)))))) sH rfl (VR_load_el (enc := (fun x_ : Int => [Value.int .i64 x_])) (i := x35_19) (j := x35_19.toNat * 1) (m := 0) (sz := 1) Try.underlying3 rfl rfl rfl rfl (Src.ro (k := 0) rfl) g203 g204 (fun _ _ h => h) rfl) ?_
                refine DH_take (v := .slice A1 l1.length c1) 5 (by kernel_rfl) rfl rfl (.no rfl) (PanOk.inb (PanOk.thn (PanOk.thn (PanOk.inb (PanOk.thn (PanOk.thn PanOk.body)))))) sH rfl (VR.ofV (V_move rfl)) ?_
                refine DH_take (v := .int .i64 x35_19) 6 (by kernel_rfl) rfl rfl (.no rfl) (PanOk.inb (PanOk.thn (PanOk.thn (PanOk.inb (PanOk.thn (PanOk.thn PanOk.body)))))) sH rfl (VR.ofV (V_move rfl)) ?_
                obtain ⟨⟨g443, g444⟩, H⟩ := g_pos H
                refine DH_take 7 (by kernel_rfl) rfl rfl (.no rfl) (PanOk.inb (PanOk.thn (PanOk.thn (PanOk.inb (PanOk.thn (PanOk.thn PanOk.body)))))) sH rfl (VR_index (i := x35_19) Try.underlying34 sz3 rfl rfl (Src.ro (k := 1) rfl) g443 g444) ?_
                refine DH_take 8 (by kernel_rfl) rfl rfl (.no rfl) (PanOk.inb (PanOk.thn (PanOk.thn (PanOk.inb (PanOk.thn (PanOk.thn PanOk.body)))))) sH rfl (VR_load_el (enc := (fun x_ : Int => [Value.int .i64 x_])) (i := x35_19) (j := x35_19.toNat * 1) (m := 0) (sz := 1) Try.underlying3 rfl rfl rfl rfl (Src.ro (k := 1) rfl) g443 g444 (fun _ _ h => h) rfl) ?_
                refine DH_take (v := .int .i64 (IntKind.i64.wrap ((rd l0 x35_19) * (rd l1 x35_19)))) 9 (by kernel_rfl) rfl rfl (.no rfl) (PanOk.inb (PanOk.thn (PanOk.thn (PanOk.inb (PanOk.thn (PanOk.thn PanOk.body)))))) sH rfl (VR.ofV (V_mul rfl rfl)) ?_
                refine DH_take (v := .int .i64 (IntKind.i64.wrap (x6_19 + (IntKind.i64.wrap ((rd l0 x35_19) * (rd l1 x35_19)))))) 10 (by kernel_rfl) rfl rfl (.no rfl) (PanOk.inb (PanOk.thn (PanOk.thn (PanOk.inb (PanOk.thn (PanOk.thn PanOk.body)))))) sH rfl (VR.ofV (V_add rfl rfl)) ?_
                obtain ⟨n683, hn683, H⟩ := g_lt H
                refine DH_take (v := .int .i64 n683) 11 (by kernel_rfl) rfl rfl (.no rfl) (PanOk.inb (PanOk.thn (PanOk.thn (PanOk.inb (PanOk.thn (PanOk.thn PanOk.body)))))) sH rfl (VR.ofV (V_assign (v := .int .i64 n683) (congrArg (Value.int .i64) hn683.symm))) ?_
                refine DH_open dd sH ?_
                refine DN_done (by kernel_rfl) ?_
                refine inb_normal ?_
                refine at_normal ?_
                refine SA_region ?_
                refine RA_step rfl (OA_v (v := .int .i64 (IntKind.i64.wrap (x35_19 + 1))) rfl (V_add rfl rfl) ?_)
                refine RA_step rfl (OA_v (v := .int .i64 (IntKind.i64.wrap (x35_19 + 1))) rfl (V_move rfl) ?_)
                refine RA_nil ?_
                exact at_normal ⟨k20, Nat.lt_succ_self _, _, _, H, St.mk1 (aeq rfl (aeq rfl (aeq rfl (aeq rfl (aeq rfl aeq0))))) (Gh.sel [0, 1] rfl rfl)⟩
              · replace H := g_iff h22 H
                refine SA_condF rfl h22 ?_
                refine SA_exit ?_
                refine thn_exit ?_
                refine thn_exit ?_
                refine inb_hit ?_
                have hr_ := Option.some.inj H
                subst hr_
                exact at_normal (St.mk1 (aeq rfl aeq0) (Gh.sel [] rfl rfl))
            · rintro e ds As hst744
              clear H
              have H := Bt19
              clear Bt19
              refine at_normal ?_
              refine SA.of_St hst744 fun junk => ?_
              refine SA_seq ?_
              refine SA_region ?_
              refine RA_step rfl (OA_v (v := .int .i64 t19) rfl (V_move rfl) ?_)
              refine RA_step rfl (OA_v (v := .int .i64 t19) rfl (V_assign rfl) ?_)
              refine RA_step rfl (OA_v (v := .int .i64 0) rfl (V_assign rfl) ?_)
              refine RA_nil ?_
              refine at_normal ?_
              refine SA_ret ?_
              have hr_ := Option.some.inj H
              subst hr_
              exact BQ_R2 [] rfl rfl rfl (Gh.sel [] rfl rfl) ⟨rfl, rfl⟩

/-! ### function 57: wayfarer/wayfarerref04.badCounts -/
def F57.l0 (l0 : (List Int)) : Nat → Int → Option (Out (Int) (Unit))
  | 0, _ => none
  | k + 1, x3_3 => if x3_3 < (l0.length : Int) then (if 0 ≤ x3_3 ∧ x3_3 < (l0.length : Int) then ((if (rd l0 x3_3) < 0 then (some true) else (if 0 ≤ x3_3 ∧ x3_3 < (l0.length : Int) then (some (decide ((rd l0 x3_3) > 1048576))) else none) : Option Bool).bind (fun q9 => if q9 = true then (some (Out.ret (2))) else (lt (IntKind.i64.wrap (x3_3 + 1)) fun n15 => F57.l0 l0 k n15))) else none) else (some (Out.go ()))
def F57.f (k : Nat) (l0 : (List Int)) : Option (Int) := (F57.l0 l0 k 0 : Option (Out (Int) (Unit))).bind (fun t2 => Out.el t2 (fun r_ => some r_) (fun s3 => if (l0.length : Int) > 512 then (some (4)) else (some (0))))
set_option maxHeartbeats 2000000 in
set_option maxRecDepth 100000 in
theorem F57.ok {k : Nat} {l0 : (List Int)} {A0 : Option Addr} {c0 : Nat} {r : Int} (H : F57.f k l0 = some r) : SCA Try.prog 57 #[.slice A0 l0.length c0] [Ro (Kd.int .i64) A0 c0 l0] (fun v B => v = .int .i64 r ∧ B = []) := by
  refine SCA_of_body Try.func57 rfl rfl ?_
  unfold F57.f at H
  refine SA_seq ?_
  refine SA_region ?_
  refine RA_step rfl (OA_v (v := .int .i64 0) rfl (V_assign rfl) ?_)
  refine RA_nil ?_
  refine at_normal ?_
  refine SA_seq ?_
  refine SA_seq ?_
  refine SA_region ?_
  refine RA_step rfl (OA_v (v := .int .i64 0) rfl (V_assign rfl) ?_)
  refine RA_nil ?_
  refine at_normal ?_
  obtain ⟨t2, H, Bt2⟩ := g_bind H
  refine SA_mid (fun e ds As => ∃ (s3 : Unit), t2 = Out.go s3 ∧ St [(0, .slice A0 l0.length c0)] [Ro (Kd.int .i64) A0 c0 l0] e ds As) ?_ ?_
  · refine SA_block ?_
    refine SA_loop (fun k_ e ds As => ∃ (x3_3 : Int), F57.l0 l0 k_ x3_3 = some t2 ∧ St [(0, .slice A0 l0.length c0), (3, .int .i64 x3_3)] [Ro (Kd.int .i64) A0 c0 l0] e ds As) (k := k) ⟨_, H, St.mk1 (aeq rfl (aeq rfl aeq0)) (Gh.sel [0] rfl rfl)⟩ ?_
    clear H
    rintro k4 e ds As ⟨x3_3, H, hst5⟩
    obtain _ | k4 := k4
    · cases H
    rw [F57.l0] at H
    refine SA.of_St hst5 fun junk => ?_
    refine SA_seq ?_
    refine SA_seq ?_
    refine SA_region ?_
    refine RA_step rfl (OA_v (v := .int .i64 x3_3) rfl (V_move rfl) ?_)
    refine RA_step rfl (OA_v (v := .slice A0 l0.length c0) rfl (V_move rfl) ?_)
    refine RA_step rfl (OA_v (v := .int .i64 (l0.length : Int)) rfl (V_len Try.underlying34 rfl) ?_)
    refine RA_step rfl (OA_v (v := .bool (decide (x3_3 < (l0.length : Int)))) rfl (V_lss rfl rfl) ?_)
    refine RA_nil ?_
    refine at_normal ?_
    by_cases h6 : x3_3 < (l0.length : Int)
    · replace H := g_ift h6 H
      refine SA_condT rfl h6 ?_
      refine SA_skip ?_
      refine at_normal ?_
      refine SA_seq ?_
      refine SA_block ?_
      refine SA_seq ?_
      refine SA_region ?_
      refine RA_step rfl (OA_v (v := .slice A0 l0.length c0) rfl (V_move rfl) ?_)
      refine RA_step rfl (OA_v (v := .int .i64 x3_3) rfl (V_move rfl) ?_)
      obtain ⟨⟨g7, g8⟩, H⟩ := g_pos H
      refine RA_step rfl (OA_r rfl (VR_index (i := x3_3) Try.underlying34 sz3 rfl rfl (Src.ro (k := 0) rfl) g7 g8) ?_)
      refine RA_step rfl (OA_r rfl (VR_load_el (enc := (fun x_ : Int => [Value.int .i64 x_])) (i := x3_3) (j := x3_3.toNat * 1) (m := 0) (sz := 1) Try.underlying3 rfl rfl rfl rfl (Src.ro (k := 0) rfl) g7 g8 (fun _ _ h => h) rfl) ?_)
      refine RA_step rfl (OA_v (v := .bool (decide ((rd l0 x3_3) < 0))) rfl (V_lss rfl rfl) ?_)
      refine RA_step rfl (OA_v (v := .bool (decide ((rd l0 x3_3) < 0))) rfl (V_move rfl) ?_)
      obtain ⟨q9, H, Bq9⟩ := g_bind H
      refine RA_cut 6 (fun e ds As => St [(0, .slice A0 l0.length c0), (3, .int .i64 x3_3), (21, .bool q9)] [Ro (Kd.int .i64) A0 c0 l0] e ds As) ?_ ?_
      · by_cases h10 : (rd l0 x3_3) < 0
        · replace H := g_ift h10 H
          refine RA_noB rfl rfl rfl rfl (dec_t h10) rfl ?_
          refine RA_noB rfl rfl rfl rfl (dec_t h10) rfl ?_
          refine RA_noB rfl rfl rfl rfl (dec_t h10) rfl ?_
          refine RA_noB rfl rfl rfl rfl (dec_t h10) rfl ?_
          refine RA_noB rfl rfl rfl rfl (dec_t h10) rfl ?_
          refine RA_step rfl (OA_v rfl (V_pickT rfl (dec_t h10) rfl) ?_)
          have hr_ := Option.some.inj H
          subst hr_
          refine RA_nil ?_
          exact at_normal (St.mk1 (aeq rfl (aeq rfl (aeq rfl aeq0))) (Gh.sel [0] rfl rfl))
        · replace H := g_iff h10 H
          refine RA_yesB rfl rfl rfl rfl (dec_f h10) (OA_v (v := .slice A0 l0.length c0) rfl (V_move rfl) ?_)
          refine RA_yesB rfl rfl rfl rfl (dec_f h10) (OA_v (v := .int .i64 x3_3) rfl (V_move rfl) ?_)
          obtain ⟨⟨g11, g12⟩, H⟩ := g_pos H
          refine RA_yesB rfl rfl rfl rfl (dec_f h10) (OA_r rfl (VR_index (i := x3_3) Try.underlying34 sz3 rfl rfl (Src.ro (k := 0) rfl) g11 g12) ?_)
          refine RA_yesB rfl rfl rfl rfl (dec_f h10) (OA_r rfl (VR_load_el (enc := (fun x_ : Int => [Value.int .i64 x_])) (i := x3_3) (j := x3_3.toNat * 1) (m := 0) (sz := 1) Try.underlying3 rfl rfl rfl rfl (Src.ro (k := 0) rfl) g11 g12 (fun _ _ h => h) rfl) ?_)
          refine RA_yesB rfl rfl rfl rfl (dec_f h10) (OA_v (v := .bool (decide ((rd l0 x3_3) > 1048576))) rfl (V_gtr rfl rfl) ?_)
          refine RA_step rfl (OA_v rfl (V_pickF rfl (dec_f h10) rfl) ?_)
          have hr_ := Option.some.inj H
          subst hr_
          refine RA_nil ?_
          exact at_normal (St.mk1 (aeq rfl (aeq rfl (aeq rfl aeq0))) (Gh.sel [0] rfl rfl))
      · rintro e ds As hst13
        clear H
        have H := Bq9
        clear Bq9
        refine RA_nil ?_
        refine at_normal ?_
        refine SA.of_St hst13 fun junk => ?_
        by_cases h14 : q9 = true
        · replace H := g_ift h14 H
          refine SA_condTb rfl h14 ?_
          refine SA_seq ?_
          refine SA_region ?_
          refine RA_step rfl (OA_v (v := .int .i64 2) rfl (V_assign rfl) ?_)
          refine RA_nil ?_
          refine at_normal ?_
          refine SA_ret ?_
          refine inb_ret ?_
          refine thn_ret ?_
          refine thn_ret ?_
          refine inb_ret ?_
          refine thn_ret ?_
          refine thn_ret ?_
          have hr_ := Option.some.inj H
          subst hr_
          have hb_ := el_ret Bt2
          have hr_ := Option.some.inj hb_
          clear hb_
          subst hr_
          exact BQ_R1 [] rfl rfl (Gh.sel [] rfl rfl) ⟨rfl, rfl⟩
        · replace H := g_iff h14 H
          refine SA_condFb rfl h14 ?_
          refine SA_skip ?_
          refine inb_normal ?_
          refine at_normal ?_
          refine SA_region ?_
          refine RA_step rfl (OA_v (v := .int .i64 x3_3) rfl (V_move rfl) ?_)
          refine RA_step rfl (OA_v (v := .int .i64 (IntKind.i64.wrap (x3_3 + 1))) rfl (V_add rfl rfl) ?_)
          obtain ⟨n15, hn15, H⟩ := g_lt H
          refine RA_step rfl (OA_v (v := .int .i64 n15) rfl (V_assign (v := .int .i64 n15) (congrArg (Value.int .i64) hn15.symm)) ?_)
          refine RA_nil ?_
          exact at_normal ⟨k4, Nat.lt_succ_self _, _, H, St.mk1 (aeq rfl (aeq rfl aeq0)) (Gh.sel [0] rfl rfl)⟩
    · replace H := g_iff h6 H
      refine SA_condF rfl h6 ?_
      refine SA_exit ?_
      refine thn_exit ?_
      refine thn_exit ?_
      refine inb_hit ?_
      have hr_ := Option.some.inj H
      subst hr_
      exact at_normal ⟨(), rfl, St.mk1 (aeq rfl aeq0) (Gh.sel [0] rfl rfl)⟩
  · rintro e ds As ⟨s3, ht, hst16⟩
    clear H
    subst ht
    replace Bt2 := el_go Bt2
    have H := Bt2
    clear Bt2
    refine at_normal ?_
    refine SA.of_St hst16 fun junk => ?_
    refine SA_seq ?_
    refine SA_seq ?_
    refine SA_region ?_
    refine RA_step rfl (OA_v (v := .slice A0 l0.length c0) rfl (V_move rfl) ?_)
    refine RA_step rfl (OA_v (v := .int .i64 (l0.length : Int)) rfl (V_len Try.underlying34 rfl) ?_)
    refine RA_step rfl (OA_v (v := .bool (decide ((l0.length : Int) > 512))) rfl (V_gtr rfl rfl) ?_)
    refine RA_nil ?_
    refine at_normal ?_
    by_cases h17 : (l0.length : Int) > 512
    · replace H := g_ift h17 H
      refine SA_condT rfl h17 ?_
      refine SA_seq ?_
      refine SA_region ?_
      refine RA_step rfl (OA_v (v := .int .i64 4) rfl (V_assign rfl) ?_)
      refine RA_nil ?_
      refine at_normal ?_
      refine SA_ret ?_
      refine thn_ret ?_
      have hr_ := Option.some.inj H
      subst hr_
      exact BQ_R1 [] rfl rfl (Gh.sel [] rfl rfl) ⟨rfl, rfl⟩
    · replace H := g_iff h17 H
      refine SA_condF rfl h17 ?_
      refine SA_skip ?_
      refine at_normal ?_
      refine SA_seq ?_
      refine SA_region ?_
      refine RA_step rfl (OA_v (v := .int .i64 0) rfl (V_assign rfl) ?_)
      refine RA_nil ?_
      refine at_normal ?_
      refine SA_ret ?_
      have hr_ := Option.some.inj H
      subst hr_
      exact BQ_R1 [] rfl rfl (Gh.sel [] rfl rfl) ⟨rfl, rfl⟩

/-! ### function 23: wayfarer/wayfarerref04.Weight -/
def F23.l0 (l0 : (List Int)) : Nat → Int → Int → Option (Out (Int × Int) (Int))
  | 0, _, _ => none
  | k + 1, x4_3, x5_3 => if x5_3 < (l0.length : Int) then (if 0 ≤ x5_3 ∧ x5_3 < (l0.length : Int) then ((if (rd l0 x5_3) < 0 then (some true) else (if 0 ≤ x5_3 ∧ x5_3 < (l0.length : Int) then (some (decide ((rd l0 x5_3) > 15))) else none) : Option Bool).bind (fun q9 => if q9 = true then (some (Out.ret ((0, 2)))) else (if 0 ≤ x5_3 ∧ x5_3 < (l0.length : Int) then (if (rd l0 x5_3) > 0 then (if 0 ≤ x5_3 ∧ x5_3 < (l0.length : Int) then (if 0 ≤ (IntKind.u64.wrap (IntKind.i64.wrap (15 - (rd l0 x5_3)))) then (lt (IntKind.i64.wrap (x4_3 + (shlI .i64 1 (IntKind.u64.wrap (IntKind.i64.wrap (15 - (rd l0 x5_3))))))) fun n21 => lt (IntKind.i64.wrap (x5_3 + 1)) fun n22 => F23.l0 l0 k n21 n22) else none) else none) else (lt (IntKind.i64.wrap (x5_3 + 1)) fun n23 => F23.l0 l0 k x4_3 n23)) else none))) else none) else (some (Out.go x4_3))
def F23.f (k : Nat) (l0 : (List Int)) : Option (Int × Int) := (F23.l0 l0 k 0 0 : Option (Out (Int × Int) (Int))).bind (fun t2 => Out.el t2 (fun r_ => some r_) (fun s3 => if (l0.length : Int) > 512 then (some ((0, 4))) else (some ((s3, 0)))))
set_option maxHeartbeats 2000000 in
set_option maxRecDepth 100000 in
theorem F23.ok {k : Nat} {l0 : (List Int)} {A0 : Option Addr} {c0 : Nat} {r : Int × Int} (H : F23.f k l0 = some r) : SCA Try.prog 23 #[.slice A0 l0.length c0] [Ro (Kd.int .i64) A0 c0 l0] (fun v B => v = .tuple #[.int .i64 r.1, .int .i64 r.2] ∧ B = []) := by
  refine SCA_of_body Try.func23 rfl rfl ?_
  unfold F23.f at H
  refine SA_seq ?_
  refine SA_region ?_
  refine RA_step rfl (OA_v (v := .int .i64 0) rfl (V_assign rfl) ?_)
  refine RA_step rfl (OA_v (v := .int .i64 0) rfl (V_assign rfl) ?_)
  refine RA_nil ?_
  refine at_normal ?_
  refine SA_seq ?_
  refine SA_region ?_
  refine RA_step rfl (OA_v (v := .int .i64 0) rfl (V_assign rfl) ?_)
  refine RA_nil ?_
  refine at_normal ?_
  refine SA_seq ?_
  refine SA_seq ?_
  refine SA_region ?_
  refine RA_step rfl (OA_v (v := .int .i64 0) rfl (V_assign rfl) ?_)
  refine RA_nil ?_
  refine at_normal ?_
  obtain ⟨t2, H, Bt2⟩ := g_bind H
  refine SA_mid (fun e ds As => ∃ (s3 : Int), t2 = Out.go s3 ∧ St [(0, .slice A0 l0.length c0), (4, .int .i64 s3)] [Ro (Kd.int .i64) A0 c0 l0] e ds As) ?_ ?_
  · refine SA_block ?_
    refine SA_loop (fun k_ e ds As => ∃ (x4_3 : Int) (x5_3 : Int), F23.l0 l0 k_ x4_3 x5_3 = some t2 ∧ St [(0, .slice A0 l0.length c0), (4, .int .i64 x4_3), (5, .int .i64 x5_3)] [Ro (Kd.int .i64) A0 c0 l0] e ds As) (k := k) ⟨_, _, H, St.mk1 (aeq rfl (aeq rfl (aeq rfl aeq0))) (Gh.sel [0] rfl rfl)⟩ ?_
    clear H
    rintro k4 e ds As ⟨x4_3, x5_3, H, hst5⟩
    obtain _ | k4 := k4
    · cases H
    rw [F23.l0] at H
    refine SA.of_St hst5 fun junk => ?_
    refine SA_seq ?_
    refine SA_seq ?_
    refine SA_region ?_
    refine RA_step rfl (OA_v (v := .int .i64 x5_3) rfl (V_move rfl) ?_)
    refine RA_step rfl (OA_v (v := .slice A0 l0.length c0) rfl (V_move rfl) ?_)
    refine RA_step rfl (OA_v (v := .int .i64 (l0.length : Int)) rfl (V_len Try.underlying34 rfl) ?_)
    refine RA_step rfl (OA_v (v := .bool (decide (x5_3 < (l0.length : Int)))) rfl (V_lss rfl rfl) ?_)
    refine RA_nil ?_
    refine at_normal ?_
    by_cases h6 : x5_3 < (l0.length : Int)
    · replace H := g_ift h6 H
      refine SA_condT rfl h6 ?_
      refine SA_skip ?_
      refine at_normal ?_
      refine SA_seq ?_
      refine SA_block ?_
      refine SA_seq ?_
      refine SA_seq ?_
      refine SA_region ?_
      refine RA_step rfl (OA_v (v := .slice A0 l0.length c0) rfl (V_move rfl) ?_)
      refine RA_step rfl (OA_v (v := .int .i64 x5_3) rfl (V_move rfl) ?_)
      obtain ⟨⟨g7, g8⟩, H⟩ := g_pos H
      refine RA_step rfl (OA_r rfl (VR_index (i := x5_3) Try.underlying34 sz3 rfl rfl (Src.ro (k := 0) rfl) g7 g8) ?_)
      refine RA_step rfl (OA_r rfl (VR_load_el (enc := (fun x_ : Int => [Value.int .i64 x_])) (i := x5_3) (j := x5_3.toNat * 1) (m := 0) (sz := 1) Try.underlying3 rfl rfl rfl rfl (Src.ro (k := 0) rfl) g7 g8 (fun _ _ h => h) rfl) ?_)
      refine RA_step rfl (OA_v (v := .bool (decide ((rd l0 x5_3) < 0))) rfl (V_lss rfl rfl) ?_)
      refine RA_step rfl (OA_v (v := .bool (decide ((rd l0 x5_3) < 0))) rfl (V_move rfl) ?_)
      obtain ⟨q9, H, Bq9⟩ := g_bind H
      refine RA_cut 6 (fun e ds As => St [(0, .slice A0 l0.length c0), (4, .int .i64 x4_3), (5, .int .i64 x5_3), (23, .bool q9)] [Ro (Kd.int .i64) A0 c0 l0] e ds As) ?_ ?_
      · by_cases h10 : (rd l0 x5_3) < 0
        · replace H := g_ift h10 H
          refine RA_noB rfl rfl rfl rfl (dec_t h10) rfl ?_
          refine RA_noB rfl rfl rfl rfl (dec_t h10) rfl ?_
          refine RA_noB rfl rfl rfl rfl (dec_t h10) rfl ?_
          refine RA_noB rfl rfl rfl rfl (dec_t h10) rfl ?_
          refine RA_noB rfl rfl rfl rfl (dec_t h10) rfl ?_
          refine RA_step rfl (OA_v rfl (V_pickT rfl (dec_t h10) rfl) ?_)
          have hr_ := Option.some.inj H
          subst hr_
          refine RA_nil ?_
          exact at_normal (St.mk1 (aeq rfl (aeq rfl (aeq rfl (aeq rfl aeq0)))) (Gh.sel [0] rfl rfl))
        · replace H := g_iff h10 H
          refine RA_yesB rfl rfl rfl rfl (dec_f h10) (OA_v (v := .slice A0 l0.length c0) rfl (V_move rfl) ?_)
          refine RA_yesB rfl rfl rfl rfl (dec_f h10) (OA_v (v := .int .i64 x5_3) rfl (V_move rfl) ?_)
          obtain ⟨⟨g11, g12⟩, H⟩ := g_pos H
          refine RA_yesB rfl rfl rfl rfl (dec_f h10) (OA_r rfl (VR_index (i := x5_3) Try.underlying34 sz3 rfl rfl (Src.ro (k := 0) rfl) g11 g12) ?_)
          refine RA_yesB rfl rfl rfl rfl (dec_f h10) (OA_r rfl (VR_load_el (enc := (fun x_ : Int => [Value.int .i64 x_])) (i := x5_3) (j := x5_3.toNat * 1) (m := 0) (sz := 1) Try.underlying3 rfl rfl rfl rfl (Src.ro (k := 0) rfl) g11 g12 (fun _ _ h => h) rfl) ?_)
          refine RA_yesB rfl rfl rfl rfl (dec_f h10) (OA_v (v := .bool (decide ((rd l0 x5_3) > 15))) rfl (V_gtr rfl rfl) ?_)
          refine RA_step rfl (OA_v rfl (V_pickF rfl (dec_f h10) rfl) ?_)
          have hr_ := Option.some.inj H
          subst hr_
          refine RA_nil ?_
          exact at_normal (St.mk1 (aeq rfl (aeq rfl (aeq rfl (aeq rfl aeq0)))) (Gh.sel [0] rfl rfl))
      · rintro e ds As hst13
        clear H
        have H := Bq9
        clear Bq9
        refine RA_nil ?_
        refine at_normal ?_
        refine SA.of_St hst13 fun junk => ?_
        by_cases h14 : q9 = true
        · replace H := g_ift h14 H
          refine SA_condTb rfl h14 ?_
          refine SA_seq ?_
          refine SA_region ?_
          refine RA_step rfl (OA_v (v := .int .i64 0) rfl (V_assign rfl) ?_)
          refine RA_step rfl (OA_v (v := .int .i64 2) rfl (V_assign rfl) ?_)
          refine RA_nil ?_
          refine at_normal ?_
          refine SA_ret ?_
          refine thn_ret ?_
          refine inb_ret ?_
          refine thn_ret ?_
          refine thn_ret ?_
          refine inb_ret ?_
          refine thn_ret ?_
          refine thn_ret ?_
          have hr_ := Option.some.inj H
          subst hr_
          have hb_ := el_ret Bt2
          have hr_ := Option.some.inj hb_
          clear hb_
          subst hr_
          exact BQ_R2 [] rfl rfl rfl (Gh.sel [] rfl rfl) ⟨rfl, rfl⟩
        · replace H := g_iff h14 H
          refine SA_condFb rfl h14 ?_
          refine SA_skip ?_
          refine at_normal ?_
          refine SA_seq ?_
          refine SA_region ?_
          refine RA_step rfl (OA_v (v := .slice A0 l0.length c0) rfl (V_move rfl) ?_)
          refine RA_step rfl (OA_v (v := .int .i64 x5_3) rfl (V_move rfl) ?_)
          obtain ⟨⟨g15, g16⟩, H⟩ := g_pos H
          refine RA_step rfl (OA_r rfl (VR_index (i := x5_3) Try.underlying34 sz3 rfl rfl (Src.ro (k := 0) rfl) g15 g16) ?_)
          refine RA_step rfl (OA_r rfl (VR_load_el (enc := (fun x_ : Int => [Value.int .i64 x_])) (i := x5_3) (j := x5_3.toNat * 1) (m := 0) (sz := 1) Try.underlying3 rfl rfl rfl rfl (Src.ro (k := 0) rfl) g15 g16 (fun _ _ h => h) rfl) ?_)
          refine RA_step rfl (OA_v (v := .bool (decide ((rd l0 x5_3) > 0))) rfl (V_gtr rfl rfl) ?_)
          refine RA_nil ?_
          refine at_normal ?_
          by_cases h17 : (rd l0 x5_3) > 0
          · replace H := g_ift h17 H
            refine SA_condT rfl h17 ?_
            refine SA_region ?_
            refine RA_step rfl (OA_v (v := .int .i64 x4_3) rfl (V_move rfl) ?_)
            refine RA_step rfl (OA_v (v := .slice A0 l0.length c0) rfl (V_move rfl) ?_)
            refine RA_step rfl (OA_v (v := .int .i64 x5_3) rfl (V_move rfl) ?_)
            obtain ⟨⟨g18, g19⟩, H⟩ := g_pos H
            refine RA_step rfl (OA_r rfl (VR_index (i := x5_3) Try.underlying34 sz3 rfl rfl (Src.ro (k := 0) rfl) g18 g19) ?_)
            refine RA_step rfl (OA_r rfl (VR_load_el (enc := (fun x_ : Int => [Value.int .i64 x_])) (i := x5_3) (j := x5_3.toNat * 1) (m := 0) (sz := 1) Try.underlying3 rfl rfl rfl rfl (Src.ro (k := 0) rfl) g18 g19 (fun _ _ h => h) rfl) ?_)
            refine RA_step rfl (OA_v (v := .int .i64 (IntKind.i64.wrap (15 - (rd l0 x5_3)))) rfl (V_sub rfl rfl) ?_)
            refine RA_step rfl (OA_v (v := .int .u64 (IntKind.u64.wrap (IntKind.i64.wrap (15 - (rd l0 x5_3))))) rfl (V_conv (T := 3) (by kernel_rfl) Try.underlying53 rfl) ?_)
            obtain ⟨g20, H⟩ := g_pos H
            refine RA_step rfl (OA_v (v := .int .i64 (shlI .i64 1 (IntKind.u64.wrap (IntKind.i64.wrap (15 - (rd l0 x5_3)))))) rfl (V_shl rfl rfl g20) ?_)
            refine RA_step rfl (OA_v (v := .int .i64 (IntKind.i64.wrap (x4_3 + (shlI .i64 1 (IntKind.u64.wrap (IntKind.i64.wrap (15 - (rd l0 x5_3)))))))) rfl (V_add rfl rfl) ?_)
            obtain ⟨n21, hn21, H⟩ := g_lt H
            refine RA_step rfl (OA_v (v := .int .i64 n21) rfl (V_assign (v := .int .i64 n21) (congrArg (Value.int .i64) hn21.symm)) ?_)
            refine RA_nil ?_
            refine inb_normal ?_
            refine at_normal ?_
            refine SA_region ?_
            refine RA_step rfl (OA_v (v := .int .i64 x5_3) rfl (V_move rfl) ?_)
            refine RA_step rfl (OA_v (v := .int .i64 (IntKind.i64.wrap (x5_3 + 1))) rfl (V_add rfl rfl) ?_)
            obtain ⟨n22, hn22, H⟩ := g_lt H
            refine RA_step rfl (OA_v (v := .int .i64 n22) rfl (V_assign (v := .int .i64 n22) (congrArg (Value.int .i64) hn22.symm)) ?_)
            refine RA_nil ?_
            exact at_normal ⟨k4, Nat.lt_succ_self _, _, _, H, St.mk1 (aeq rfl (aeq rfl (aeq rfl aeq0))) (Gh.sel [0] rfl rfl)⟩
          · replace H := g_iff h17 H
            refine SA_condF rfl h17 ?_
            refine SA_skip ?_
            refine inb_normal ?_
            refine at_normal ?_
            refine SA_region ?_
            refine RA_step rfl (OA_v (v := .int .i64 x5_3) rfl (V_move rfl) ?_)
            refine RA_step rfl (OA_v (v := .int .i64 (IntKind.i64.wrap (x5_3 + 1))) rfl (V_add rfl rfl) ?_)
            obtain ⟨n23, hn23, H⟩ := g_lt H
            refine RA_step rfl (OA_v (v := .int .i64 n23) rfl (V_assign (v := .int .i64 n23) (congrArg (Value.int .i64) hn23.symm)) ?_)
            refine RA_nil ?_
            exact at_normal ⟨k4, Nat.lt_succ_self _, _, _, H, St.mk1 (aeq rfl (aeq rfl (aeq rfl aeq0))) (Gh.sel [0] rfl rfl)⟩
    · replace H := g_iff h6 H
      refine SA_condF rfl h6 ?_
      refine SA_exit ?_
      refine thn_exit ?_
      refine thn_exit ?_
      refine inb_hit ?_
      have hr_ := Option.some.inj H
      subst hr_
      exact at_normal ⟨x4_3, rfl, St.mk1 (aeq rfl (aeq rfl aeq0)) (Gh.sel [0] rfl rfl)⟩
  · rintro e ds As ⟨s3, ht, hst24⟩
    clear H
    subst ht
    replace Bt2 := el_go Bt2
    have H := Bt2
    clear Bt2
    refine at_normal ?_
    refine SA.of_St hst24 fun junk => ?_
    refine SA_seq ?_
    refine SA_seq ?_
    refine SA_region ?_
    refine RA_step rfl (OA_v (v := .slice A0 l0.length c0) rfl (V_move rfl) ?_)
    refine RA_step rfl (OA_v (v := .int .i64 (l0.length : Int)) rfl (V_len Try.underlying34 rfl) ?_)
    refine RA_step rfl (OA_v (v := .bool (decide ((l0.length : Int) > 512))) rfl (V_gtr rfl rfl) ?_)
    refine RA_nil ?_
    refine at_normal ?_
    by_cases h25 : (l0.length : Int) > 512
    · replace H := g_ift h25 H
      refine SA_condT rfl h25 ?_
      refine SA_seq ?_
      refine SA_region ?_
      refine RA_step rfl (OA_v (v := .int .i64 0) rfl (V_assign rfl) ?_)
      refine RA_step rfl (OA_v (v := .int .i64 4) rfl (V_assign rfl) ?_)
      refine RA_nil ?_
      refine at_normal ?_
      refine SA_ret ?_
      refine thn_ret ?_
      have hr_ := Option.some.inj H
      subst hr_
      exact BQ_R2 [] rfl rfl rfl (Gh.sel [] rfl rfl) ⟨rfl, rfl⟩
    · replace H := g_iff h25 H
      refine SA_condF rfl h25 ?_
      refine SA_skip ?_
      refine at_normal ?_
      refine SA_seq ?_
      refine SA_region ?_
      refine RA_step rfl (OA_v (v := .int .i64 s3) rfl (V_move rfl) ?_)
      refine RA_step rfl (OA_v (v := .int .i64 s3) rfl (V_assign rfl) ?_)
      refine RA_step rfl (OA_v (v := .int .i64 0) rfl (V_assign rfl) ?_)
      refine RA_nil ?_
      refine at_normal ?_
      refine SA_ret ?_
      have hr_ := Option.some.inj H
      subst hr_
      exact BQ_R2 [] rfl rfl rfl (Gh.sel [] rfl rfl) ⟨rfl, rfl⟩

/-! ### function 43: wayfarer/wayfarerref04.Bad -/
def F43.l0 (l0 : (List Int)) : Nat → Int → Int → Option (Int)
  | 0, _, _ => none
  | k + 1, x3_8, x5_8 => if x5_8 < (l0.length : Int) then (if 0 ≤ x5_8 ∧ x5_8 < (l0.length : Int) then (if (rd l0 x5_8) > 0 then (if 0 ≤ x5_8 ∧ x5_8 < (l0.length : Int) then (if 0 ≤ (IntKind.u64.wrap (IntKind.i64.wrap (15 - (rd l0 x5_8)))) then (lt (IntKind.i64.wrap (x3_8 + (shlI .i64 1 (IntKind.u64.wrap (IntKind.i64.wrap (15 - (rd l0 x5_8))))))) fun n18 => lt (IntKind.i64.wrap (x5_8 + 1)) fun n19 => F43.l0 l0 k n18 n19) else none) else none) else (lt (IntKind.i64.wrap (x5_8 + 1)) fun n20 => F43.l0 l0 k x3_8 n20)) else none) else (some x3_8)
def F43.f (k : Nat) (l0 : (List Int)) : Option (Int) := (F23.f k l0).bind (fun r2 => lt ((decide (r2.2 = 2)) || (decide (r2.1 > 32768))) fun q3 => if q3 = true then (some (2)) else (if r2.2 = 0 then (some (0)) else ((F43.l0 l0 k 0 0 : Option (Int)).bind (fun t8 => if t8 > 32768 then (some (2)) else (some (r2.2))))))
set_option maxHeartbeats 2000000 in
set_option maxRecDepth 100000 in
theorem F43.ok {k : Nat} {l0 : (List Int)} {A0 : Option Addr} {c0 : Nat} {r : Int} (H : F43.f k l0 = some r) : SCA Try.prog 43 #[.slice A0 l0.length c0] [Ro (Kd.int .i64) A0 c0 l0] (fun v B => v = .int .i64 r ∧ B = []) := by
  refine SCA_of_body Try.func43 rfl rfl ?_
  unfold F43.f at H
  refine SA_seq ?_
  refine SA_region ?_
  refine RA_step rfl (OA_v (v := .int .i64 0) rfl (V_assign rfl) ?_)
  refine RA_nil ?_
  refine at_normal ?_
  refine SA_seq ?_
  refine SA_region ?_
  refine RA_step rfl (OA_v (v := .slice A0 l0.length c0) rfl (V_move rfl) ?_)
  obtain ⟨r2, C23, H⟩ := g_bind H
  refine RA_step rfl (OA_callA [0] [0] rfl (X_fn (vs := [.slice A0 l0.length c0]) Try.func23 nm23 rfl rfl) rfl (F23.ok (l0 := l0) (A0 := A0) (c0 := c0) C23) rfl ?_)
  rintro _ _ ⟨rfl, rfl⟩
  refine RA_step rfl (OA_v (v := .tuple #[.int .i64 r2.1, .int .i64 r2.2]) rfl (V_move rfl) ?_)
  refine RA_step rfl (OA_v (v := .int .i64 r2.1) rfl (V_extract rfl rfl) ?_)
  refine RA_step rfl (OA_v (v := .int .i64 r2.2) rfl (V_extract rfl rfl) ?_)
  refine RA_step rfl (OA_v (v := .int .i64 r2.1) rfl (V_assign rfl) ?_)
  refine RA_step rfl (OA_v (v := .int .i64 r2.2) rfl (V_assign rfl) ?_)
  refine RA_nil ?_
  refine at_normal ?_
  refine SA_seq ?_
  refine SA_seq ?_
  refine SA_region ?_
  refine RA_step rfl (OA_v (v := .int .i64 r2.2) rfl (V_move rfl) ?_)
  refine RA_step rfl (OA_v (v := .bool (decide (r2.2 = 2))) rfl (V_eql rfl rfl) ?_)
  refine RA_step rfl (OA_v (v := .bool (decide (r2.2 = 2))) rfl (V_move rfl) ?_)
  obtain ⟨q3, hq3, H⟩ := g_lt H
  refine RA_cut 3 (fun e ds As => St [(0, .slice A0 l0.length c0), (4, .int .i64 r2.2), (16, .bool q3)] [Ro (Kd.int .i64) A0 c0 l0] e ds As) ?_ ?_
  · by_cases h4 : r2.2 = 2
    · refine RA_noB rfl rfl rfl rfl (dec_t h4) rfl ?_
      refine RA_noB rfl rfl rfl rfl (dec_t h4) rfl ?_
      refine RA_step rfl (OA_v rfl (V_pickT rfl (dec_t h4) rfl) ?_)
      refine RA_nil ?_
      exact at_normal (St.mk1 (aeq rfl (aeq rfl (aeq (congrArg Value.bool (or_t hq3 (dec_t h4))) aeq0))) (Gh.sel [0] rfl rfl))
    · refine RA_yesB rfl rfl rfl rfl (dec_f h4) (OA_v (v := .int .i64 r2.1) rfl (V_move rfl) ?_)
      refine RA_yesB rfl rfl rfl rfl (dec_f h4) (OA_v (v := .bool (decide (r2.1 > 32768))) rfl (V_gtr rfl rfl) ?_)
      refine RA_step rfl (OA_v rfl (V_pickF rfl (dec_f h4) rfl) ?_)
      refine RA_nil ?_
      exact at_normal (St.mk1 (aeq rfl (aeq rfl (aeq (congrArg Value.bool (or_f hq3 (dec_f h4))) aeq0))) (Gh.sel [0] rfl rfl))
  · rintro e ds As hst5
    refine RA_nil ?_
    refine at_normal ?_
    refine SA.of_St hst5 fun junk => ?_
    by_cases h6 : q3 = true
    · replace H := g_ift h6 H
      refine SA_condTb rfl h6 ?_
      refine SA_seq ?_
      refine SA_region ?_
      refine RA_step rfl (OA_v (v := .int .i64 2) rfl (V_assign rfl) ?_)
      refine RA_nil ?_
      refine at_normal ?_
      refine SA_ret ?_
      refine thn_ret ?_
      have hr_ := Option.some.inj H
      subst hr_
      exact BQ_R1 [] rfl rfl (Gh.sel [] rfl rfl) ⟨rfl, rfl⟩
    · replace H := g_iff h6 H
      refine SA_condFb rfl h6 ?_
      refine SA_skip ?_
      refine at_normal ?_
      refine SA_seq ?_
      refine SA_seq ?_
      refine SA_region ?_
      refine RA_step rfl (OA_v (v := .int .i64 r2.2) rfl (V_move rfl) ?_)
      refine RA_step rfl (OA_v (v := .bool (decide (r2.2 = 0))) rfl (V_eql rfl rfl) ?_)
      refine RA_nil ?_
      refine at_normal ?_
      by_cases h7 : r2.2 = 0
      · replace H := g_ift h7 H
        refine SA_condT rfl h7 ?_
        refine SA_seq ?_
        refine SA_region ?_
        refine RA_step rfl (OA_v (v := .int .i64 0) rfl (V_assign rfl) ?_)
        refine RA_nil ?_
        refine at_normal ?_
        refine SA_ret ?_
        refine thn_ret ?_
        have hr_ := Option.some.inj H
        subst hr_
        exact BQ_R1 [] rfl rfl (Gh.sel [] rfl rfl) ⟨rfl, rfl⟩
      · replace H := g_iff h7 H
        refine SA_condF rfl h7 ?_
        refine SA_skip ?_
        refine at_normal ?_
        refine SA_seq ?_
        refine SA_region ?_
        refine RA_step rfl (OA_v (v := .int .i64 0) rfl (V_assign rfl) ?_)
        refine RA_nil ?_
        refine at_normal ?_
        refine SA_seq ?_
        refine SA_seq ?_
        refine SA_region ?_
        refine RA_step rfl (OA_v (v := .int .i64 0) rfl (V_assign rfl) ?_)
        refine RA_nil ?_
        refine at_normal ?_
        obtain ⟨t8, H, Bt8⟩ := g_bind H
        refine SA_mid (fun e ds As => St [(3, .int .i64 t8), (4, .int .i64 r2.2)] [] e ds As) ?_ ?_
        · refine SA_block ?_
          refine SA_loop (fun k_ e ds As => ∃ (x3_8 : Int) (x5_8 : Int), F43.l0 l0 k_ x3_8 x5_8 = some t8 ∧ St [(0, .slice A0 l0.length c0), (3, .int .i64 x3_8), (4, .int .i64 r2.2), (5, .int .i64 x5_8)] [Ro (Kd.int .i64) A0 c0 l0] e ds As) (k := k) ⟨_, _, H, St.mk1 (aeq rfl (aeq rfl (aeq rfl (aeq rfl aeq0)))) (Gh.sel [0] rfl rfl)⟩ ?_
          clear H
          rintro k9 e ds As ⟨x3_8, x5_8, H, hst10⟩
          obtain _ | k9 := k9
          · cases H
          rw [F43.l0] at H
          refine SA.of_St hst10 fun junk => ?_
          refine SA_seq ?_
          refine SA_seq ?_
          refine SA_region ?_
          refine RA_step rfl (OA_v (v := .int .i64 x5_8) rfl (V_move rfl) ?_)
          refine RA_step rfl (OA_v (v := .slice A0 l0.length c0) rfl (V_move rfl) ?_)
          refine RA_step rfl (OA_v (v := .int .i64 (l0.length : Int)) rfl (V_len Try.underlying34 rfl) ?_)
          refine RA_step rfl (OA_v (v := .bool (decide (x5_8 < (l0.length : Int)))) rfl (V_lss rfl rfl) ?_)
          refine RA_nil ?_
          refine at_normal ?_
          by_cases h11 : x5_8 < (l0.length : Int)
          · replace H := g_ift h11 H
            refine SA_condT rfl h11 ?_
            refine SA_skip ?_
            refine at_normal ?_
            refine SA_seq ?_
            refine SA_block ?_
            refine SA_seq ?_
            refine SA_region ?_
            refine RA_step rfl (OA_v (v := .slice A0 l0.length c0) rfl (V_move rfl) ?_)
            refine RA_step rfl (OA_v (v := .int .i64 x5_8) rfl (V_move rfl) ?_)
            obtain ⟨⟨g12, g13⟩, H⟩ := g_pos H
            refine RA_step rfl (OA_r rfl (VR_index (i := x5_8) Try.underlying34 sz3 rfl rfl (Src.ro (k := 0) rfl) g12 g13) ?_)
            refine RA_step rfl (OA_r rfl (VR_load_el (enc := (fun x_ : Int => [Value.int .i64 x_])) (i := x5_8) (j := x5_8.toNat * 1) (m := 0) (sz := 1) Try.underlying3 rfl rfl rfl rfl (Src.ro (k := 0) rfl) g12 g13 (fun _ _ h => h) rfl) ?_)
            refine RA_step rfl (OA_v (v := .bool (decide ((rd l0 x5_8) > 0))) rfl (V_gtr rfl rfl) ?_)
            refine RA_nil ?_
            refine at_normal ?_
            by_cases h14 : (rd l0 x5_8) > 0
            · replace H := g_ift h14 H
              refine SA_condT rfl h14 ?_
              refine SA_region ?_
              refine RA_step rfl (OA_v (v := .int .i64 x3_8) rfl (V_move rfl) ?_)
              refine RA_step rfl (OA_v (v := .slice A0 l0.length c0) rfl (V_move rfl) ?_)
              refine RA_step rfl (OA_v (v := .int .i64 x5_8) rfl (V_move rfl) ?_)
              obtain ⟨⟨g15, g16⟩, H⟩ := g_pos H
              refine RA_step rfl (OA_r rfl (VR_index (i := x5_8) Try.underlying34 sz3 rfl rfl (Src.ro (k := 0) rfl) g15 g16) ?_)
              refine RA_step rfl (OA_r rfl (VR_load_el (enc := (fun x_ : Int => [Value.int .i64 x_])) (i := x5_8) (j := x5_8.toNat * 1) (m := 0) (sz := 1) Try.underlying3 rfl rfl rfl rfl (Src.ro (k := 0) rfl) g15 g16 (fun _ _ h => h) rfl) ?_)
              refine RA_step rfl (OA_v (v := .int .i64 (IntKind.i64.wrap (15 - (rd l0 x5_8)))) rfl (V_sub rfl rfl) ?_)
              refine RA_step rfl (OA_v (v := .int .u64 (IntKind.u64.wrap (IntKind.i64.wrap (15 - (rd l0 x5_8))))) rfl (V_conv (T := 3) (by kernel_rfl) Try.underlying53 rfl) ?_)
              obtain ⟨g17, H⟩ := g_pos H
              refine RA_step rfl (OA_v (v := .int .i64 (shlI .i64 1 (IntKind.u64.wrap (IntKind.i64.wrap (15 - (rd l0 x5_8)))))) rfl (V_shl rfl rfl g17) ?_)
              refine RA_step rfl (OA_v (v := .int .i64 (IntKind.i64.wrap (x3_8 + (shlI .i64 1 (IntKind.u64.wrap (IntKind.i64.wrap (15 - (rd l0 x5_8)))))))) rfl (V_add rfl rfl) ?_)
              obtain ⟨n18, hn18, H⟩ := g_lt H
              refine RA_step rfl (OA_v (v := .int .i64 n18) rfl (V_assign (v := .int .i64 n18) (congrArg (Value.int .i64) hn18.symm)) ?_)
              refine RA_nil ?_
              refine inb_normal ?_
              refine at_normal ?_
              refine SA_region ?_
              refine RA_step rfl (OA_v (v := .int .i64 x5_8) rfl (V_move rfl) ?_)
              refine RA_step rfl (OA_v (v := .int .i64 (IntKind.i64.wrap (x5_8 + 1))) rfl (V_add rfl rfl) ?_)
              obtain ⟨n19, hn19, H⟩ := g_lt H
              refine RA_step rfl (OA_v (v := .int .i64 n19) rfl (V_assign (v := .int .i64 n19) (congrArg (Value.int .i64) hn19.symm)) ?_)
              refine RA_nil ?_
              exact at_normal ⟨k9, Nat.lt_succ_self _, _, _, H, St.mk1 (aeq rfl (aeq rfl (aeq rfl (aeq rfl aeq0)))) (Gh.sel [0] rfl rfl)⟩
            · replace H := g_iff h14 H
              refine SA_condF rfl h14 ?_
              refine SA_skip ?_
              refine inb_normal ?_
              refine at_normal ?_
              refine SA_region ?_
              refine RA_step rfl (OA_v (v := .int .i64 x5_8) rfl (V_move rfl) ?_)
              refine RA_step rfl (OA_v (v := .int .i64 (IntKind.i64.wrap (x5_8 + 1))) rfl (V_add rfl rfl) ?_)
              obtain ⟨n20, hn20, H⟩ := g_lt H
              refine RA_step rfl (OA_v (v := .int .i64 n20) rfl (V_assign (v := .int .i64 n20) (congrArg (Value.int .i64) hn20.symm)) ?_)
              refine RA_nil ?_
              exact at_normal ⟨k9, Nat.lt_succ_self _, _, _, H, St.mk1 (aeq rfl (aeq rfl (aeq rfl (aeq rfl aeq0)))) (Gh.sel [0] rfl rfl)⟩
          · replace H := g_iff h11 H
            refine SA_condF rfl h11 ?_
            refine SA_exit ?_
            refine thn_exit ?_
            refine thn_exit ?_
            refine inb_hit ?_
            have hr_ := Option.some.inj H
            subst hr_
            exact at_normal (St.mk1 (aeq rfl (aeq rfl aeq0)) (Gh.sel [] rfl rfl))
        · rintro e ds As hst21
          clear H
          have H := Bt8
          clear Bt8
          refine at_normal ?_
          refine SA.of_St hst21 fun junk => ?_
          refine SA_seq ?_
          refine SA_seq ?_
          refine SA_region ?_
          refine RA_step rfl (OA_v (v := .int .i64 t8) rfl (V_move rfl) ?_)
          refine RA_step rfl (OA_v (v := .bool (decide (t8 > 32768))) rfl (V_gtr rfl rfl) ?_)
          refine RA_nil ?_
          refine at_normal ?_
          by_cases h22 : t8 > 32768
          · replace H := g_ift h22 H
            refine SA_condT rfl h22 ?_
            refine SA_seq ?_
            refine SA_region ?_
            refine RA_step rfl (OA_v (v := .int .i64 2) rfl (V_assign rfl) ?_)
            refine RA_nil ?_
            refine at_normal ?_
            refine SA_ret ?_
            refine thn_ret ?_
            have hr_ := Option.some.inj H
            subst hr_
            exact BQ_R1 [] rfl rfl (Gh.sel [] rfl rfl) ⟨rfl, rfl⟩
          · replace H := g_iff h22 H
            refine SA_condF rfl h22 ?_
            refine SA_skip ?_
            refine at_normal ?_
            refine SA_seq ?_
            refine SA_region ?_
            refine RA_step rfl (OA_v (v := .int .i64 r2.2) rfl (V_move rfl) ?_)
            refine RA_step rfl (OA_v (v := .int .i64 r2.2) rfl (V_assign rfl) ?_)
            refine RA_nil ?_
            refine at_normal ?_
            refine SA_ret ?_
            have hr_ := Option.some.inj H
            subst hr_
            exact BQ_R1 [] rfl rfl (Gh.sel [] rfl rfl) ⟨rfl, rfl⟩

/-! ### function 29: wayfarer/wayfarerref04.Cost -/
def F29.l0 (l0 : (List Int)) (l1 : (List Int)) : Nat → Int → Int → Option (Int)
  | 0, _, _ => none
  | k + 1, x8_13, x9_13 => if x9_13 < (l0.length : Int) then (if 0 ≤ x9_13 ∧ x9_13 < (l0.length : Int) then (if 0 ≤ x9_13 ∧ x9_13 < (l1.length : Int) then (lt (IntKind.i64.wrap (x8_13 + (IntKind.i64.wrap ((rd l0 x9_13) * (rd l1 x9_13))))) fun n677 => lt (IntKind.i64.wrap (x9_13 + 1)) fun n738 => F29.l0 l0 l1 k n677 n738) else none) else none) else (some x8_13)
def F29.f (k : Nat) (l0 : (List Int)) (l1 : (List Int)) : Option (Int × Int) := (F57.f k l0).bind (fun r3 => (F43.f k l1).bind (fun r4 => lt ((decide (r3 = 2)) || (decide (r4 = 2))) fun q5 => lt (q5 || (decide ((l0.length : Int) ≠ (l1.length : Int)))) fun q8 => if q8 = true then (some ((0, 2))) else (if r3 ≠ 0 then (some ((0, r3))) else ((F29.l0 l0 l1 k 0 0 : Option (Int)).bind (fun t13 => some ((t13, 0)))))))
set_option maxHeartbeats 2000000 in
set_option maxRecDepth 100000 in
theorem F29.ok {k : Nat} {l0 : (List Int)} {l1 : (List Int)} {A0 : Option Addr} {c0 : Nat} {A1 : Option Addr} {c1 : Nat} {r : Int × Int} (H : F29.f k l0 l1 = some r) : SCA Try.prog 29 #[.slice A0 l0.length c0, .slice A1 l1.length c1] [Ro (Kd.int .i64) A0 c0 l0, Ro (Kd.int .i64) A1 c1 l1] (fun v B => v = .tuple #[.int .i64 r.1, .int .i64 r.2] ∧ B = []) := by
  refine SCA_of_body Try.func29 rfl rfl ?_
  unfold F29.f at H
  refine SA_seq ?_
  refine SA_region ?_
  refine RA_step rfl (OA_v (v := .int .i64 0) rfl (V_assign rfl) ?_)
  refine RA_step rfl (OA_v (v := .int .i64 0) rfl (V_assign rfl) ?_)
  refine RA_nil ?_
  refine at_normal ?_
  refine SA_seq ?_
  refine SA_region ?_
  refine RA_step rfl (OA_v (v := .slice A0 l0.length c0) rfl (V_move rfl) ?_)
  obtain ⟨r3, C741, H⟩ := g_bind H
  refine RA_step rfl (OA_callA [0] [0, 1] rfl (X_fn (vs := [.slice A0 l0.length c0]) Try.func57 nm57 rfl rfl) rfl (F57.ok (l0 := l0) (A0 := A0) (c0 := c0) C741) rfl ?_)
  rintro _ _ ⟨rfl, rfl⟩
  refine RA_step rfl (OA_v (v := .slice A1 l1.length c1) rfl (V_move rfl) ?_)
  obtain ⟨r4, C740, H⟩ := g_bind H
  refine RA_step rfl (OA_callA [1] [0, 1] rfl (X_fn (vs := [.slice A1 l1.length c1]) Try.func43 nm43 rfl rfl) rfl (F43.ok (l0 := l1) (A0 := A1) (c0 := c1) C740) rfl ?_)
  rintro _ _ ⟨rfl, rfl⟩
  refine RA_step rfl (OA_v (v := .int .i64 r3) rfl (V_assign rfl) ?_)
  refine RA_step rfl (OA_v (v := .int .i64 r4) rfl (V_assign rfl) ?_)
  refine RA_nil ?_
  refine at_normal ?_
  refine SA_seq ?_
  refine SA_seq ?_
  refine SA_region ?_
  refine RA_step rfl (OA_v (v := .int .i64 r3) rfl (V_move rfl) ?_)
  refine RA_step rfl (OA_v (v := .bool (decide (r3 = 2))) rfl (V_eql rfl rfl) ?_)
  refine RA_step rfl (OA_v (v := .bool (decide (r3 = 2))) rfl (V_move rfl) ?_)
  obtain ⟨q5, hq5, H⟩ := g_lt H
  refine RA_cut 3 (fun e ds As => St [(0, .slice A0 l0.length c0), (1, .slice A1 l1.length c1), (6, .int .i64 r3), (19, .bool q5)] [Ro (Kd.int .i64) A0 c0 l0, Ro (Kd.int .i64) A1 c1 l1] e ds As) ?_ ?_
  · by_cases h6 : r3 = 2
    · refine RA_noB rfl rfl rfl rfl (dec_t h6) rfl ?_
      refine RA_noB rfl rfl rfl rfl (dec_t h6) rfl ?_
      refine RA_step rfl (OA_v rfl (V_pickT rfl (dec_t h6) rfl) ?_)
      refine RA_nil ?_
      exact at_normal (St.mk1 (aeq rfl (aeq rfl (aeq rfl (aeq (congrArg Value.bool (or_t hq5 (dec_t h6))) aeq0)))) (Gh.sel [0, 1] rfl rfl))
    · refine RA_yesB rfl rfl rfl rfl (dec_f h6) (OA_v (v := .int .i64 r4) rfl (V_move rfl) ?_)
      refine RA_yesB rfl rfl rfl rfl (dec_f h6) (OA_v (v := .bool (decide (r4 = 2))) rfl (V_eql rfl rfl) ?_)
      refine RA_step rfl (OA_v rfl (V_pickF rfl (dec_f h6) rfl) ?_)
      refine RA_nil ?_
      exact at_normal (St.mk1 (aeq rfl (aeq rfl (aeq rfl (aeq (congrArg Value.bool (or_f hq5 (dec_f h6))) aeq0)))) (Gh.sel [0, 1] rfl rfl))
  · rintro e ds As hst7
    refine RA.of_St rfl hst7 fun junk => ?_
    refine RA_step rfl (OA_v (v := .bool q5) rfl (V_move rfl) ?_)
    obtain ⟨q8, hq8, H⟩ := g_lt H
    refine RA_cut 6 (fun e ds As => St [(0, .slice A0 l0.length c0), (1, .slice A1 l1.length c1), (6, .int .i64 r3), (26, .bool q8)] [Ro (Kd.int .i64) A0 c0 l0, Ro (Kd.int .i64) A1 c1 l1] e ds As) ?_ ?_
    · by_cases h9 : q5 = true
      · refine RA_noB rfl rfl rfl rfl (h9) rfl ?_
        refine RA_noB rfl rfl rfl rfl (h9) rfl ?_
        refine RA_noB rfl rfl rfl rfl (h9) rfl ?_
        refine RA_noB rfl rfl rfl rfl (h9) rfl ?_
        refine RA_noB rfl rfl rfl rfl (h9) rfl ?_
        refine RA_step rfl (OA_v rfl (V_pickT rfl (h9) rfl) ?_)
        refine RA_nil ?_
        exact at_normal (St.mk1 (aeq rfl (aeq rfl (aeq rfl (aeq (congrArg Value.bool (or_t hq8 (h9))) aeq0)))) (Gh.sel [0, 1] rfl rfl))
      · refine RA_yesB rfl rfl rfl rfl (bno h9) (OA_v (v := .slice A0 l0.length c0) rfl (V_move rfl) ?_)
        refine RA_yesB rfl rfl rfl rfl (bno h9) (OA_v (v := .int .i64 (l0.length : Int)) rfl (V_len Try.underlying34 rfl) ?_)
        refine RA_yesB rfl rfl rfl rfl (bno h9) (OA_v (v := .slice A1 l1.length c1) rfl (V_move rfl) ?_)
        refine RA_yesB rfl rfl rfl rfl (bno h9) (OA_v (v := .int .i64 (l1.length : Int)) rfl (V_len Try.underlying34 rfl) ?_)
        refine RA_yesB rfl rfl rfl rfl (bno h9) (OA_v (v := .bool (decide ((l0.length : Int) ≠ (l1.length : Int)))) rfl (V_neq rfl rfl) ?_)
        refine RA_step rfl (OA_v rfl (V_pickF rfl (bno h9) rfl) ?_)
        refine RA_nil ?_
        exact at_normal (St.mk1 (aeq rfl (aeq rfl (aeq rfl (aeq (congrArg Value.bool (or_f hq8 (bno h9))) aeq0)))) (Gh.sel [0, 1] rfl rfl))
    · rintro e ds As hst10
      refine RA_nil ?_
      refine at_normal ?_
      refine SA.of_St hst10 fun junk => ?_
      by_cases h11 : q8 = true
      · replace H := g_ift h11 H
        refine SA_condTb rfl h11 ?_
        refine SA_seq ?_
        refine SA_region ?_
        refine RA_step rfl (OA_v (v := .int .i64 0) rfl (V_assign rfl) ?_)
        refine RA_step rfl (OA_v (v := .int .i64 2) rfl (V_assign rfl) ?_)
        refine RA_nil ?_
        refine at_normal ?_
        refine SA_ret ?_
        refine thn_ret ?_
        have hr_ := Option.some.inj H
        subst hr_
        exact BQ_R2 [] rfl rfl rfl (Gh.sel [] rfl rfl) ⟨rfl, rfl⟩
      · replace H := g_iff h11 H
        refine SA_condFb rfl h11 ?_
        refine SA_skip ?_
        refine at_normal ?_
        refine SA_seq ?_
        refine SA_seq ?_
        refine SA_region ?_
        refine RA_step rfl (OA_v (v := .int .i64 r3) rfl (V_move rfl) ?_)
        refine RA_step rfl (OA_v (v := .bool (decide (r3 ≠ 0))) rfl (V_neq rfl rfl) ?_)
        refine RA_nil ?_
        refine at_normal ?_
        by_cases h12 : r3 ≠ 0
        · replace H := g_ift h12 H
          refine SA_condT rfl h12 ?_
          refine SA_seq ?_
          refine SA_region ?_
          refine RA_step rfl (OA_v (v := .int .i64 r3) rfl (V_move rfl) ?_)
          refine RA_step rfl (OA_v (v := .int .i64 0) rfl (V_assign rfl) ?_)
          refine RA_step rfl (OA_v (v := .int .i64 r3) rfl (V_assign rfl) ?_)
          refine RA_nil ?_
          refine at_normal ?_
          refine SA_ret ?_
          refine thn_ret ?_
          have hr_ := Option.some.inj H
          subst hr_
          exact BQ_R2 [] rfl rfl rfl (Gh.sel [] rfl rfl) ⟨rfl, rfl⟩
        · replace H := g_iff h12 H
          refine SA_condF rfl h12 ?_
          refine SA_skip ?_
          refine at_normal ?_
          refine SA_seq ?_
          refine SA_region ?_
          refine RA_step rfl (OA_v (v := .int .i64 0) rfl (V_assign rfl) ?_)
          refine RA_nil ?_
          refine at_normal ?_
          refine SA_seq ?_
          refine SA_seq ?_
          refine SA_region ?_
          refine RA_step rfl (OA_v (v := .int .i64 0) rfl (V_assign rfl) ?_)
          refine RA_nil ?_
          refine at_normal ?_
          obtain ⟨t13, H, Bt13⟩ := g_bind H
          refine SA_mid (fun e ds As => St [(8, .int .i64 t13)] [] e ds As) ?_ ?_
          · refine SA_block ?_
            refine SA_loop (fun k_ e ds As => ∃ (x8_13 : Int) (x9_13 : Int), F29.l0 l0 l1 k_ x8_13 x9_13 = some t13 ∧ St [(0, .slice A0 l0.length c0), (1, .slice A1 l1.length c1), (8, .int .i64 x8_13), (9, .int .i64 x9_13)] [Ro (Kd.int .i64) A0 c0 l0, Ro (Kd.int .i64) A1 c1 l1] e ds As) (k := k) ⟨_, _, H, St.mk1 (aeq rfl (aeq rfl (aeq rfl (aeq rfl aeq0)))) (Gh.sel [0, 1] rfl rfl)⟩ ?_
            clear H
            rintro k14 e ds As ⟨x8_13, x9_13, H, hst15⟩
            obtain _ | k14 := k14
            · cases H
            rw [F29.l0] at H
            refine SA.of_St hst15 fun junk => ?_
            refine SA_seq ?_
            refine SA_seq ?_
            refine SA_region ?_
            refine RA_step rfl (OA_v (v := .int .i64 x9_13) rfl (V_move rfl) ?_)
            refine RA_step rfl (OA_v (v := .slice A0 l0.length c0) rfl (V_move rfl) ?_)
            refine RA_step rfl (OA_v (v := .int .i64 (l0.length : Int)) rfl (V_len Try.underlying34 rfl) ?_)
            refine RA_step rfl (OA_v (v := .bool (decide (x9_13 < (l0.length : Int)))) rfl (V_lss rfl rfl) ?_)
            refine RA_nil ?_
            refine at_normal ?_
            by_cases h16 : x9_13 < (l0.length : Int)
            · replace H := g_ift h16 H
              refine SA_condT rfl h16 ?_
              refine SA_skip ?_
              refine at_normal ?_
              refine SA_seq ?_
              refine SA_block ?_
              refine SA_drawH [0, 1, 2, 3, 4, 5, 6, 7, 8, 9, 10, 11] #[[], [], [], [1, 2], [1, 2, 3], [], [], [5, 6], [5, 6, 7], [1, 2, 3, 4, 5, 6, 7, 8], [0, 1, 2, 3, 4, 5, 6, 7, 8, 9], [0, 1, 2, 3, 4, 5, 6, 7, 8, 9, 10]] [0, 1] [0, 1] mixed rfl rfl rfl fun I0 hS h0 hh0 w0 sH dd => ?_
              refine DH_take (v := .int .i64 x8_13) 0 (by kernel_rfl) rfl rfl (.no rfl) (PanOk.inb (PanOk.thn (PanOk.thn (PanOk.inb (PanOk.thn (PanOk.thn PanOk.body)))))) sH rfl (VR.ofV (V_move rfl)) ?_
              refine DH_take (v := .slice A0 l0.length c0) 1 (by kernel_rfl) rfl rfl (.no rfl) (PanOk.inb (PanOk.thn (PanOk.thn (PanOk.inb (PanOk.thn (PanOk.thn PanOk.body)))))) sH rfl (VR.ofV (V_move rfl)) ?_
              refine DH_take (v := .int .i64 x9_13) 2 (by kernel_rfl) rfl rfl (.no rfl) (PanOk.inb (PanOk.thn (PanOk.thn (PanOk.inb (PanOk.thn (PanOk.thn PanOk.body)))))) sH rfl (VR.ofV (V_move rfl)) ?_
              obtain ⟨⟨g197, g198⟩, H⟩ := g_pos H
              refine DH_take 3 (by kernel_rfl) rfl rfl (.no rfl) (PanOk.inb (PanOk.thn (PanOk.thn (PanOk.inb (PanOk.thn (PanOk.thn PanOk.body)))))) sH rfl (VR_index (i := x9_13) Try.underlying34 sz3 rfl rfl (Src.ro (k := 0) rfl) g197 g198) ?_
              refine DH_take 4 (by kernel_rfl) rfl rfl (.no rfl) (PanOk.inb (PanOk.thn (PanOk.thn (PanOk.inb (PanOk.thn (PanOk.thn PanOk.body)))))) sH rfl (VR_load_el (enc := (fun x_ : Int => [Value.int .i64 x_])) (i := x9_13) (j := x9_13.toNat * 1) (m := 0) (sz := 1) Try.underlying3 rfl rfl rfl rfl (Src.ro (k := 0) rfl) g197 g198 (fun _ _ h => h) rfl) ?_
              refine DH_take (v := .slice A1 l1.length c1) 5 (by kernel_rfl) rfl rfl (.no rfl) (PanOk.inb (PanOk.thn (PanOk.thn (PanOk.inb (PanOk.thn (PanOk.thn PanOk.body)))))) sH rfl (VR.ofV (V_move rfl)) ?_
              refine DH_take (v := .int .i64 x9_13) 6 (by kernel_rfl) rfl rfl (.no rfl) (PanOk.inb (PanOk.thn (PanOk.thn (PanOk.inb (PanOk.thn (PanOk.thn PanOk.body)))))) sH rfl (VR.ofV (V_move rfl)) ?_
              obtain ⟨⟨g437, g438⟩, H⟩ := g_pos H
              refine DH_take 7 (by kernel_rfl) rfl rfl (.no rfl) (PanOk.inb (PanOk.thn (PanOk.thn (PanOk.inb (PanOk.thn (PanOk.thn PanOk.body)))))) sH rfl (VR_index (i := x9_13) Try.underlying34 sz3 rfl rfl (Src.ro (k := 1) rfl) g437 g438) ?_
              refine DH_take 8 (by kernel_rfl) rfl rfl (.no rfl) (PanOk.inb (PanOk.thn (PanOk.thn (PanOk.inb (PanOk.thn (PanOk.thn PanOk.body)))))) sH rfl (VR_load_el (enc := (fun x_ : Int => [Value.int .i64 x_])) (i := x9_13) (j := x9_13.toNat * 1) (m := 0) (sz := 1) Try.underlying3 rfl rfl rfl rfl (Src.ro (k := 1) rfl) g437 g438 (fun _ _ h => h) rfl) ?_
              refine DH_take (v := .int .i64 (IntKind.i64.wrap ((rd l0 x9_13) * (rd l1 x9_13)))) 9 (by kernel_rfl) rfl rfl (.no rfl) (PanOk.inb (PanOk.thn (PanOk.thn (PanOk.inb (PanOk.thn (PanOk.thn PanOk.body)))))) sH rfl (VR.ofV (V_mul rfl rfl)) ?_
              refine DH_take (v := .int .i64 (IntKind.i64.wrap (x8_13 + (IntKind.i64.wrap ((rd l0 x9_13) * (rd l1 x9_13)))))) 10 (by kernel_rfl) rfl rfl (.no rfl) (PanOk.inb (PanOk.thn (PanOk.thn (PanOk.inb (PanOk.thn (PanOk.thn PanOk.body)))))) sH rfl (VR.ofV (V_add rfl rfl)) ?_
              obtain ⟨n677, hn677, H⟩ := g_lt H
              refine DH_take (v := .int .i64 n677) 11 (by kernel_rfl) rfl rfl (.no rfl) (PanOk.inb (PanOk.thn (PanOk.thn (PanOk.inb (PanOk.thn (PanOk.thn PanOk.body)))))) sH rfl (VR.ofV (V_assign (v := .int .i64 n677) (congrArg (Value.int .i64) hn677.symm))) ?_
              refine DH_open dd sH ?_
              refine DN_done (by kernel_rfl) ?_
              refine inb_normal ?_
              refine at_normal ?_
              refine SA_region ?_
              refine RA_step rfl (OA_v (v := .int .i64 x9_13) rfl (V_move rfl) ?_)
              refine RA_step rfl (OA_v (v := .int .i64 (IntKind.i64.wrap (x9_13 + 1))) rfl (V_add rfl rfl) ?_)
              obtain ⟨n738, hn738, H⟩ := g_lt H
              refine RA_step rfl (OA_v (v := .int .i64 n738) rfl (V_assign (v := .int .i64 n738) (congrArg (Value.int .i64) hn738.symm)) ?_)
              refine RA_nil ?_
              exact at_normal ⟨k14, Nat.lt_succ_self _, _, _, H, St.mk1 (aeq rfl (aeq rfl (aeq rfl (aeq rfl aeq0)))) (Gh.sel [0, 1] rfl rfl)⟩
            · replace H := g_iff h16 H
              refine SA_condF rfl h16 ?_
              refine SA_exit ?_
              refine thn_exit ?_
              refine thn_exit ?_
              refine inb_hit ?_
              have hr_ := Option.some.inj H
              subst hr_
              exact at_normal (St.mk1 (aeq rfl aeq0) (Gh.sel [] rfl rfl))
          · rintro e ds As hst739
            clear H
            have H := Bt13
            clear Bt13
            refine at_normal ?_
            refine SA.of_St hst739 fun junk => ?_
            refine SA_seq ?_
            refine SA_region ?_
            refine RA_step rfl (OA_v (v := .int .i64 t13) rfl (V_move rfl) ?_)
            refine RA_step rfl (OA_v (v := .int .i64 t13) rfl (V_assign rfl) ?_)
            refine RA_step rfl (OA_v (v := .int .i64 0) rfl (V_assign rfl) ?_)
            refine RA_nil ?_
            refine at_normal ?_
            refine SA_ret ?_
            have hr_ := Option.some.inj H
            subst hr_
            exact BQ_R2 [] rfl rfl rfl (Gh.sel [] rfl rfl) ⟨rfl, rfl⟩

/-! ### function 47: wayfarer/huff.may -/
def F47.f (k : Nat) (l0 : (List Int)) : Option (Int) := (F52.f k l0 15).bind (fun r2 => (if (!r2) = true then (some true) else ((F53.f k l0).bind (fun r5 => some (decide (r5 > 32768)))) : Option Bool).bind (fun q3 => if q3 = true then (some (2)) else (if (l0.length : Int) > 512 then (some (4)) else (some (0)))))
set_option maxHeartbeats 2000000 in
set_option maxRecDepth 100000 in
theorem F47.ok {k : Nat} {l0 : (List Int)} {A0 : Option Addr} {c0 : Nat} {r : Int} (H : F47.f k l0 = some r) : SCA Try.prog 47 #[.slice A0 l0.length c0] [Ro (Kd.int .i64) A0 c0 l0] (fun v B => v = .int .i64 r ∧ B = []) := by
  refine SCA_of_body Try.func47 rfl rfl ?_
  unfold F47.f at H
  refine SA_seq ?_
  refine SA_region ?_
  refine RA_step rfl (OA_v (v := .int .i64 0) rfl (V_assign rfl) ?_)
  refine RA_nil ?_
  refine at_normal ?_
  refine SA_seq ?_
  refine SA_block ?_
  refine SA_seq ?_
  refine SA_region ?_
  refine RA_step rfl (OA_v (v := .slice A0 l0.length c0) rfl (V_move rfl) ?_)
  obtain ⟨r2, C10, H⟩ := g_bind H
  refine RA_step rfl (OA_callA [0] [0] rfl (X_fn (vs := [.slice A0 l0.length c0, .int .i64 15]) Try.func52 nm52 rfl rfl) rfl (F52.ok (l0 := l0) (A0 := A0) (c0 := c0) (a1 := 15) C10) rfl ?_)
  rintro _ _ ⟨rfl, rfl⟩
  refine RA_step rfl (OA_v (v := .bool (!r2)) rfl (V_not rfl) ?_)
  refine RA_step rfl (OA_v (v := .bool (!r2)) rfl (V_move rfl) ?_)
  obtain ⟨q3, H, Bq3⟩ := g_bind H
  refine RA_cut 4 (fun e ds As => St [(0, .slice A0 l0.length c0), (11, .bool q3)] [Ro (Kd.int .i64) A0 c0 l0] e ds As) ?_ ?_
  · by_cases h4 : (!r2) = true
    · replace H := g_ift h4 H
      refine RA_noB rfl rfl rfl rfl (h4) rfl ?_
      refine RA_noB rfl rfl rfl rfl (h4) rfl ?_
      refine RA_noB rfl rfl rfl rfl (h4) rfl ?_
      refine RA_step rfl (OA_v rfl (V_pickT rfl (h4) rfl) ?_)
      have hr_ := Option.some.inj H
      subst hr_
      refine RA_nil ?_
      exact at_normal (St.mk1 (aeq rfl (aeq rfl aeq0)) (Gh.sel [0] rfl rfl))
    · replace H := g_iff h4 H
      refine RA_yesB rfl rfl rfl rfl (bno h4) (OA_v (v := .slice A0 l0.length c0) rfl (V_move rfl) ?_)
      obtain ⟨r5, C6, H⟩ := g_bind H
      refine RA_yesB rfl rfl rfl rfl (bno h4) (OA_callA [0] [0] rfl (X_fn (vs := [.slice A0 l0.length c0]) Try.func53 nm53 rfl rfl) rfl (F53.ok (l0 := l0) (A0 := A0) (c0 := c0) C6) rfl ?_)
      rintro _ _ ⟨rfl, rfl⟩
      refine RA_yesB rfl rfl rfl rfl (bno h4) (OA_v (v := .bool (decide (r5 > 32768))) rfl (V_gtr rfl rfl) ?_)
      refine RA_step rfl (OA_v rfl (V_pickF rfl (bno h4) rfl) ?_)
      have hr_ := Option.some.inj H
      subst hr_
      refine RA_nil ?_
      exact at_normal (St.mk1 (aeq rfl (aeq rfl aeq0)) (Gh.sel [0] rfl rfl))
  · rintro e ds As hst7
    clear H
    have H := Bq3
    clear Bq3
    refine RA.of_St rfl hst7 fun junk => ?_
    refine RA_step rfl (OA_v (v := .bool q3) rfl (V_assign rfl) ?_)
    refine RA_nil ?_
    refine at_normal ?_
    by_cases h8 : q3 = true
    · replace H := g_ift h8 H
      refine SA_condTb rfl h8 ?_
      refine SA_seq ?_
      refine SA_region ?_
      refine RA_step rfl (OA_v (v := .int .i64 2) rfl (V_assign rfl) ?_)
      refine RA_nil ?_
      refine at_normal ?_
      refine SA_ret ?_
      refine inb_ret ?_
      refine thn_ret ?_
      have hr_ := Option.some.inj H
      subst hr_
      exact BQ_R1 [] rfl rfl (Gh.sel [] rfl rfl) ⟨rfl, rfl⟩
    · replace H := g_iff h8 H
      refine SA_condFb rfl h8 ?_
      refine SA_seq ?_
      refine SA_region ?_
      refine RA_step rfl (OA_v (v := .slice A0 l0.length c0) rfl (V_move rfl) ?_)
      refine RA_step rfl (OA_v (v := .int .i64 (l0.length : Int)) rfl (V_len Try.underlying34 rfl) ?_)
      refine RA_step rfl (OA_v (v := .bool (decide ((l0.length : Int) > 512))) rfl (V_gtr rfl rfl) ?_)
      refine RA_step rfl (OA_v (v := .bool (decide ((l0.length : Int) > 512))) rfl (V_assign rfl) ?_)
      refine RA_nil ?_
      refine at_normal ?_
      by_cases h9 : (l0.length : Int) > 512
      · replace H := g_ift h9 H
        refine SA_condT rfl h9 ?_
        refine SA_seq ?_
        refine SA_region ?_
        refine RA_step rfl (OA_v (v := .int .i64 4) rfl (V_assign rfl) ?_)
        refine RA_nil ?_
        refine at_normal ?_
        refine SA_ret ?_
        refine inb_ret ?_
        refine thn_ret ?_
        have hr_ := Option.some.inj H
        subst hr_
        exact BQ_R1 [] rfl rfl (Gh.sel [] rfl rfl) ⟨rfl, rfl⟩
      · replace H := g_iff h9 H
        refine SA_condF rfl h9 ?_
        refine SA_skip ?_
        refine inb_normal ?_
        refine at_normal ?_
        refine SA_seq ?_
        refine SA_region ?_
        refine RA_step rfl (OA_v (v := .int .i64 0) rfl (V_assign rfl) ?_)
        refine RA_nil ?_
        refine at_normal ?_
        refine SA_ret ?_
        have hr_ := Option.some.inj H
        subst hr_
        exact BQ_R1 [] rfl rfl (Gh.sel [] rfl rfl) ⟨rfl, rfl⟩
end Go.Proofs.Ytocjoegcfojjhaa.Hc

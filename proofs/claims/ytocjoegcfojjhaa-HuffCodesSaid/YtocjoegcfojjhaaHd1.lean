/- What functions compute, and that they do: 20, 23, 43, 47, 48, 49, 52, 53, 79, 81, 82, 96. -/
import Derived.Test.YtocjoegcfojjhaaHd0
namespace Go.Proofs.Ytocjoegcfojjhaa.Hd
open Go Go.RowKit Go.Proofs.Ytocjoegcfojjhaa.SL
set_option linter.unusedVariables false
set_option linter.unusedSimpArgs false
attribute [local irreducible] IntKind.wrap minI maxI shrI shlI andI orI xorI andNotI cplI rd sub bytesOf strOf slA
/-! ### function 96: slices.IndexFunc[[]int,int] -/
def F96.l0 (l0 : (List Int)) (g1 : Int → Option (Bool)) : Nat → Int → Option (Out (Int) (Unit))
  | 0, _ => none
  | k + 1, x8_4 => if x8_4 < (l0.length : Int) then (if 0 ≤ x8_4 ∧ x8_4 < (l0.length : Int) then ((g1 (rd l0 x8_4)).bind (fun r10 => if r10 = true then (some (Out.ret (x8_4))) else (F96.l0 l0 g1 k (IntKind.i64.wrap (x8_4 + 1))))) else none) else (some (Out.go ()))
def F96.f (k : Nat) (l0 : (List Int)) (g1 : Int → Option (Bool)) : Option (Int) := (F96.l0 l0 g1 k 0 : Option (Out (Int) (Unit))).bind (fun t3 => Out.el t3 (fun r_ => some r_) (fun s4 => some ((-1))))
set_option maxHeartbeats 2000000 in
set_option maxRecDepth 100000 in
theorem F96.ok {k : Nat} {l0 : (List Int)} {g1 : Int → Option (Bool)} {A0 : Option Addr} {c0 : Nat} {fv1 : Value} {Fr1 : Asrt} (hg1 : ∀ {x0_ : Int} {r_ : Bool}, g1 x0_ = some r_ → FC Try.prog fv1 [.int .i64 x0_] [Fr1] (fun v B => ∃ B0, (v = .bool r_ ∧ B0 = []) ∧ B = B0 ++ [Fr1])) {r : Int} (H : F96.f k l0 g1 = some r) : SCA Try.prog 96 #[.slice A0 l0.length c0, fv1] [Ro (Kd.int .i64) A0 c0 l0, Fr1] (fun v B => v = .int .i64 r ∧ B = [Fr1]) := by
  refine SCA_of_body Try.func96 rfl rfl ?_
  unfold F96.f at H
  refine SA_seq ?_
  refine SA_region ?_
  refine RA_step rfl (OA_v (v := .int .i64 0) rfl (V_assign rfl) ?_)
  refine RA_nil ?_
  refine at_normal ?_
  refine SA_seq ?_
  refine SA_seq ?_
  refine SA_region ?_
  refine RA_step rfl (OA_v (v := .slice A0 l0.length c0) rfl (V_move rfl) ?_)
  refine RA_step rfl (OA_v (v := .int .i64 (l0.length : Int)) rfl (V_len Try.underlying34 rfl) ?_)
  refine RA_step rfl (OA_v (v := .int .i64 0) rfl (V_move rfl) ?_)
  refine RA_nil ?_
  refine at_normal ?_
  obtain ⟨t3, H, Bt3⟩ := g_bind H
  refine SA_mid (fun e ds As => ∃ (s4 : Unit), t3 = Out.go s4 ∧ St [] [Fr1] e ds As) ?_ ?_
  · refine SA_block ?_
    refine SA_loop (fun k_ e ds As => ∃ (x8_4 : Int), F96.l0 l0 g1 k_ x8_4 = some t3 ∧ St [(0, .slice A0 l0.length c0), (1, fv1), (7, .int .i64 (l0.length : Int)), (8, .int .i64 x8_4)] [Fr1, Ro (Kd.int .i64) A0 c0 l0] e ds As) (k := k) ⟨_, H, St.mk1 (aeq rfl (aeq rfl (aeq rfl (aeq rfl aeq0)))) (Gh.sel [1, 0] rfl rfl)⟩ ?_
    clear H
    rintro k5 e ds As ⟨x8_4, H, hst6⟩
    obtain _ | k5 := k5
    · cases H
    rw [F96.l0] at H
    refine SA.of_St hst6 fun junk => ?_
    refine SA_seq ?_
    refine SA_region ?_
    refine RA_step rfl (OA_v (v := .bool (decide (x8_4 < (l0.length : Int)))) rfl (V_lss rfl rfl) ?_)
    refine RA_nil ?_
    refine at_normal ?_
    refine SA_seq ?_
    by_cases h7 : x8_4 < (l0.length : Int)
    · replace H := g_ift h7 H
      refine SA_condT rfl h7 ?_
      refine SA_skip ?_
      refine at_normal ?_
      refine SA_seq ?_
      refine SA_block ?_
      refine SA_seq ?_
      refine SA_region ?_
      refine RA_step rfl (OA_v (v := .int .i64 x8_4) rfl (V_move rfl) ?_)
      refine RA_step rfl (OA_v (v := .int .i64 x8_4) rfl (V_assign rfl) ?_)
      refine RA_nil ?_
      refine at_normal ?_
      refine SA_seq ?_
      refine SA_region ?_
      refine RA_step rfl (OA_v (v := fv1) rfl (V_move rfl) ?_)
      refine RA_step rfl (OA_v (v := .slice A0 l0.length c0) rfl (V_move rfl) ?_)
      refine RA_step rfl (OA_v (v := .int .i64 x8_4) rfl (V_move rfl) ?_)
      obtain ⟨⟨g8, g9⟩, H⟩ := g_pos H
      refine RA_step rfl (OA_r rfl (VR_index (i := x8_4) Try.underlying34 sz3 rfl rfl (Src.ro (k := 1) rfl) g8 g9) ?_)
      refine RA_step rfl (OA_r rfl (VR_load_el (enc := (fun x_ : Int => [Value.int .i64 x_])) (i := x8_4) (j := x8_4.toNat * 1) (m := 0) (sz := 1) Try.underlying3 rfl rfl rfl rfl (Src.ro (k := 1) rfl) g8 g9 (fun _ _ h => h) rfl) ?_)
      obtain ⟨r10, C12, H⟩ := g_bind H
      refine RA_step rfl (OA_callF (vs := [.int .i64 (rd l0 x8_4)]) [0] [1] rfl rfl rfl rfl (hg1 (x0_ := rd l0 x8_4) C12) rfl ?_)
      rintro _ _ ⟨_, ⟨rfl, rfl⟩, rfl⟩
      refine RA_nil ?_
      refine at_normal ?_
      by_cases h11 : r10 = true
      · replace H := g_ift h11 H
        refine SA_condTb rfl h11 ?_
        refine SA_seq ?_
        refine SA_region ?_
        refine RA_step rfl (OA_v (v := .int .i64 x8_4) rfl (V_move rfl) ?_)
        refine RA_step rfl (OA_v (v := .int .i64 x8_4) rfl (V_assign rfl) ?_)
        refine RA_nil ?_
        refine at_normal ?_
        refine SA_ret ?_
        refine inb_ret ?_
        refine thn_ret ?_
        refine thn_ret ?_
        refine inb_ret ?_
        refine thn_ret ?_
        refine thn_ret ?_
        have hr_ := Option.some.inj H
        subst hr_
        have hb_ := el_ret Bt3
        have hr_ := Option.some.inj hb_
        clear hb_
        subst hr_
        exact BQ_R1 [Fr1] rfl rfl (Gh.sel [0] rfl rfl) ⟨rfl, rfl⟩
      · replace H := g_iff h11 H
        refine SA_condFb rfl h11 ?_
        refine SA_skip ?_
        refine inb_normal ?_
        refine at_normal ?_
        refine SA_region ?_
        refine RA_step rfl (OA_v (v := .int .i64 (IntKind.i64.wrap (x8_4 + 1))) rfl (V_add rfl rfl) ?_)
        refine RA_step rfl (OA_v (v := .int .i64 (IntKind.i64.wrap (x8_4 + 1))) rfl (V_move rfl) ?_)
        refine RA_nil ?_
        exact at_normal ⟨k5, Nat.lt_succ_self _, _, H, St.mk1 (aeq rfl (aeq rfl (aeq rfl (aeq rfl aeq0)))) (Gh.sel [0, 1] rfl rfl)⟩
    · replace H := g_iff h7 H
      refine SA_condF rfl h7 ?_
      refine SA_exit ?_
      refine thn_exit ?_
      refine thn_exit ?_
      refine inb_hit ?_
      have hr_ := Option.some.inj H
      subst hr_
      exact at_normal ⟨(), rfl, St.mk1 aeq0 (Gh.sel [0] rfl rfl)⟩
  · rintro e ds As ⟨s4, ht, hst13⟩
    clear H
    subst ht
    replace Bt3 := el_go Bt3
    have H := Bt3
    clear Bt3
    refine at_normal ?_
    refine SA.of_St hst13 fun junk => ?_
    refine SA_seq ?_
    refine SA_region ?_
    refine RA_step rfl (OA_v (v := .int .i64 (-1)) rfl (V_assign rfl) ?_)
    refine RA_nil ?_
    refine at_normal ?_
    refine SA_ret ?_
    have hr_ := Option.some.inj H
    subst hr_
    exact BQ_R1 [Fr1] rfl rfl (Gh.sel [0] rfl rfl) ⟨rfl, rfl⟩

/-! ### function 81: slices.ContainsFunc[[]int,int] -/
def F81.f (k : Nat) (l0 : (List Int)) (g1 : Int → Option (Bool)) : Option (Bool) := (F96.f k l0 g1).bind (fun r3 => some (decide (r3 ≥ 0)))
set_option maxHeartbeats 2000000 in
set_option maxRecDepth 100000 in
theorem F81.ok {k : Nat} {l0 : (List Int)} {g1 : Int → Option (Bool)} {A0 : Option Addr} {c0 : Nat} {fv1 : Value} {Fr1 : Asrt} (hg1 : ∀ {x0_ : Int} {r_ : Bool}, g1 x0_ = some r_ → FC Try.prog fv1 [.int .i64 x0_] [Fr1] (fun v B => ∃ B0, (v = .bool r_ ∧ B0 = []) ∧ B = B0 ++ [Fr1])) {r : Bool} (H : F81.f k l0 g1 = some r) : SCA Try.prog 81 #[.slice A0 l0.length c0, fv1] [Ro (Kd.int .i64) A0 c0 l0, Fr1] (fun v B => v = .bool r ∧ B = [Fr1]) := by
  refine SCA_of_body Try.func81 rfl rfl ?_
  unfold F81.f at H
  refine SA_seq ?_
  refine SA_region ?_
  refine RA_step rfl (OA_v (v := .bool false) rfl (V_assign rfl) ?_)
  refine RA_nil ?_
  refine at_normal ?_
  refine SA_seq ?_
  refine SA_region ?_
  refine RA_step rfl (OA_v (v := .slice A0 l0.length c0) rfl (V_move rfl) ?_)
  refine RA_step rfl (OA_v (v := fv1) rfl (V_move rfl) ?_)
  obtain ⟨r3, C4, H⟩ := g_bind H
  refine RA_step rfl (OA_callA [0, 1] [0] rfl (X_fn (vs := [.slice A0 l0.length c0, fv1]) Try.func96 nm96 rfl rfl) rfl (F96.ok (l0 := l0) (A0 := A0) (c0 := c0) (g1 := g1) (fv1 := fv1) (Fr1 := Fr1) (hg1 := hg1) C4) rfl ?_)
  rintro _ _ ⟨rfl, rfl⟩
  refine RA_step rfl (OA_v (v := .bool (decide (r3 ≥ 0))) rfl (V_geq rfl rfl) ?_)
  refine RA_step rfl (OA_v (v := .bool (decide (r3 ≥ 0))) rfl (V_assign rfl) ?_)
  refine RA_nil ?_
  refine at_normal ?_
  refine SA_ret ?_
  have hr_ := Option.some.inj H
  subst hr_
  exact BQ_R1 [Fr1] rfl rfl (Gh.sel [0] rfl rfl) ⟨rfl, rfl⟩

/-! ### function 82: wayfarer/huff.in$1 -/
def F82.f (a0 : Int) (p1 : Int) : Option (Bool) := lt ((decide (a0 < 0)) || (decide (a0 > p1))) fun q2 => some (q2)
set_option maxHeartbeats 2000000 in
set_option maxRecDepth 100000 in
theorem F82.ok {a0 : Int} {p1 : Int} {b1_ : Nat} {r : Bool} (H : F82.f a0 p1 = some r) : SCA Try.prog 82 #[.int .i64 a0, .pointer (some ⟨b1_, 0, none⟩)] [Blk b1_ 3 [.int .i64 p1]] (fun v B => v = .bool r ∧ B = [Blk b1_ 3 [.int .i64 p1]]) := by
  refine SCA_of_body Try.func82 rfl rfl ?_
  unfold F82.f at H
  refine SA_seq ?_
  refine SA_region ?_
  refine RA_step rfl (OA_v (v := .bool false) rfl (V_assign rfl) ?_)
  refine RA_nil ?_
  refine at_normal ?_
  refine SA_seq ?_
  refine SA_region ?_
  refine RA_step rfl (OA_v (v := .int .i64 a0) rfl (V_move rfl) ?_)
  refine RA_step rfl (OA_v (v := .bool (decide (a0 < 0))) rfl (V_lss rfl rfl) ?_)
  refine RA_step rfl (OA_v (v := .bool (decide (a0 < 0))) rfl (V_move rfl) ?_)
  obtain ⟨q2, hq2, H⟩ := g_lt H
  refine RA_cut 4 (fun e ds As => St [(10, .bool q2)] [Blk b1_ 3 [.int .i64 p1]] e ds As) ?_ ?_
  · by_cases h3 : a0 < 0
    · refine RA_noB rfl rfl rfl rfl (dec_t h3) rfl ?_
      refine RA_noB rfl rfl rfl rfl (dec_t h3) rfl ?_
      refine RA_noB rfl rfl rfl rfl (dec_t h3) rfl ?_
      refine RA_step rfl (OA_v rfl (V_pickT rfl (dec_t h3) rfl) ?_)
      refine RA_nil ?_
      exact at_normal (St.mk1 (aeq (congrArg Value.bool (or_t hq2 (dec_t h3))) aeq0) (Gh.sel [0] rfl rfl))
    · refine RA_yesB rfl rfl rfl rfl (dec_f h3) (OA_v (v := .int .i64 a0) rfl (V_move rfl) ?_)
      refine RA_yesB rfl rfl rfl rfl (dec_f h3) (OA_r rfl (VR_load_blk (b := b1_) (m := 0) (k := 0) Try.underlying3 rfl rfl rfl rfl) ?_)
      refine RA_yesB rfl rfl rfl rfl (dec_f h3) (OA_v (v := .bool (decide (a0 > p1))) rfl (V_gtr rfl rfl) ?_)
      refine RA_step rfl (OA_v rfl (V_pickF rfl (dec_f h3) rfl) ?_)
      refine RA_nil ?_
      exact at_normal (St.mk1 (aeq (congrArg Value.bool (or_f hq2 (dec_f h3))) aeq0) (Gh.sel [0] rfl rfl))
  · rintro e ds As hst4
    refine RA.of_St rfl hst4 fun junk => ?_
    refine RA_step rfl (OA_v (v := .bool q2) rfl (V_assign rfl) ?_)
    refine RA_nil ?_
    refine at_normal ?_
    refine SA_ret ?_
    have hr_ := Option.some.inj H
    subst hr_
    exact BQ_R1 [Blk b1_ 3 [.int .i64 p1]] rfl rfl (Gh.sel [0] rfl rfl) ⟨rfl, rfl⟩

/-! ### function 52: wayfarer/huff.in -/
def F52.f (k : Nat) (l0 : (List Int)) (a1 : Int) : Option (Bool) := (F81.f k l0 (fun (x0_ : Int) => F82.f x0_ a1)).bind (fun r4 => some (!r4))
set_option maxHeartbeats 2000000 in
set_option maxRecDepth 100000 in
theorem F52.ok {k : Nat} {l0 : (List Int)} {a1 : Int} {A0 : Option Addr} {c0 : Nat} {r : Bool} (H : F52.f k l0 a1 = some r) : SCA Try.prog 52 #[.slice A0 l0.length c0, .int .i64 a1] [Ro (Kd.int .i64) A0 c0 l0] (fun v B => v = .bool r ∧ B = []) := by
  refine SCA_of_body Try.func52 rfl rfl ?_
  unfold F52.f at H
  refine SA_seq ?_
  refine SA_region ?_
  refine RA_step rfl (OA_box rfl rfl fun b2 => ?_)
  refine RA_step rfl (OA_v (v := .bool false) rfl (V_assign rfl) ?_)
  refine RA_nil ?_
  refine at_normal ?_
  refine SA_seq ?_
  refine SA_region ?_
  refine RA_step rfl (OA_v (v := .slice A0 l0.length c0) rfl (V_move rfl) ?_)
  refine RA_step rfl (OA_v (v := .func (.func 82) #[] #[.pointer (some ⟨b2, 0, none⟩)]) rfl (V_makeFuncL (us := [.pointer (some ⟨b2, 0, none⟩)]) rfl) ?_)
  obtain ⟨r4, C5, H⟩ := g_bind H
  refine RA_step rfl (OA_callA [0, 1] [0] rfl (X_fn (vs := [.slice A0 l0.length c0, .func (.func 82) #[] #[.pointer (some ⟨b2, 0, none⟩)]]) Try.func81 nm81 rfl rfl) rfl (SCA.unpk (pre0 := [Ro (Kd.int .i64) A0 c0 l0]) (Bs := [Blk b2 3 [.int .i64 a1]]) ((F81.ok (l0 := l0) (A0 := A0) (c0 := c0) (g1 := (fun (x0_ : Int) => F82.f x0_ a1)) (fv1 := .func (.func 82) #[] #[.pointer (some ⟨b2, 0, none⟩)]) (Fr1 := Pk [Blk b2 3 [.int .i64 a1]]) (hg1 := (fun {x0_} {r_} C_ => FC.of (pre0 := []) (Bs := [Blk b2 3 [.int .i64 a1]]) (cap := [.pointer (some ⟨b2, 0, none⟩)]) Try.func82 nm82 rfl ((F82.ok (a0 := x0_) (b1_ := b2) (p1 := a1) C_).mono (fun _ _ ⟨hv_, hB_⟩ => ⟨_, ⟨hv_, rfl⟩, hB_⟩)))) C5).mono (fun (v_ : Value) (B_ : List Asrt) ⟨hv_, hB_⟩ => (⟨[], ⟨hv_, rfl⟩, hB_⟩ : ∃ B0_ : List Asrt, (v_ = (.bool r4 : Value) ∧ B0_ = []) ∧ B_ = B0_ ++ [Pk [Blk b2 3 [.int .i64 a1]]])))) rfl ?_)
  rintro _ _ ⟨_, ⟨rfl, rfl⟩, rfl⟩
  refine RA_step rfl (OA_v (v := .bool (!r4)) rfl (V_not rfl) ?_)
  refine RA_step rfl (OA_v (v := .bool (!r4)) rfl (V_assign rfl) ?_)
  refine RA_nil ?_
  refine at_normal ?_
  refine SA_ret ?_
  have hr_ := Option.some.inj H
  subst hr_
  exact BQ_R1 [] rfl rfl (Gh.sel [] rfl rfl) ⟨rfl, rfl⟩

/-! ### function 53: wayfarer/huff.weight -/
def F53.l0 (l0 : (List Int)) : Nat → Int → Int → Option (Int)
  | 0, _, _ => none
  | k + 1, x3_2, x8_2 => if x8_2 < (l0.length : Int) then (if 0 ≤ x8_2 ∧ x8_2 < (l0.length : Int) then (lt (rd l0 x8_2) fun n8 => if n8 > 0 then (if 0 ≤ (IntKind.u64.wrap (n8)) then (lt (IntKind.i64.wrap (x3_2 + (shrI .i64 32768 (IntKind.u64.wrap (n8))))) fun n11 => F53.l0 l0 k n11 (IntKind.i64.wrap (x8_2 + 1))) else none) else (F53.l0 l0 k x3_2 (IntKind.i64.wrap (x8_2 + 1)))) else none) else (some x3_2)
def F53.f (k : Nat) (l0 : (List Int)) : Option (Int) := (F53.l0 l0 k 0 0 : Option (Int)).bind (fun t2 => some (t2))
set_option maxHeartbeats 2000000 in
set_option maxRecDepth 100000 in
theorem F53.ok {k : Nat} {l0 : (List Int)} {A0 : Option Addr} {c0 : Nat} {r : Int} (H : F53.f k l0 = some r) : SCA Try.prog 53 #[.slice A0 l0.length c0] [Ro (Kd.int .i64) A0 c0 l0] (fun v B => v = .int .i64 r ∧ B = []) := by
  refine SCA_of_body Try.func53 rfl rfl ?_
  unfold F53.f at H
  refine SA_seq ?_
  refine SA_region ?_
  refine RA_step rfl (OA_v (v := .int .i64 0) rfl (V_assign rfl) ?_)
  refine RA_nil ?_
  refine at_normal ?_
  refine SA_seq ?_
  refine SA_region ?_
  refine RA_step rfl (OA_v (v := .int .i64 0) rfl (V_assign rfl) ?_)
  refine RA_nil ?_
  refine at_normal ?_
  refine SA_seq ?_
  refine SA_seq ?_
  refine SA_region ?_
  refine RA_step rfl (OA_v (v := .slice A0 l0.length c0) rfl (V_move rfl) ?_)
  refine RA_step rfl (OA_v (v := .int .i64 (l0.length : Int)) rfl (V_len Try.underlying34 rfl) ?_)
  refine RA_step rfl (OA_v (v := .int .i64 0) rfl (V_move rfl) ?_)
  refine RA_nil ?_
  refine at_normal ?_
  obtain ⟨t2, H, Bt2⟩ := g_bind H
  refine SA_mid (fun e ds As => St [(3, .int .i64 t2)] [] e ds As) ?_ ?_
  · refine SA_block ?_
    refine SA_loop (fun k_ e ds As => ∃ (x3_2 : Int) (x8_2 : Int), F53.l0 l0 k_ x3_2 x8_2 = some t2 ∧ St [(3, .int .i64 x3_2), (6, .slice A0 l0.length c0), (7, .int .i64 (l0.length : Int)), (8, .int .i64 x8_2)] [Ro (Kd.int .i64) A0 c0 l0] e ds As) (k := k) ⟨_, _, H, St.mk1 (aeq rfl (aeq rfl (aeq rfl (aeq rfl aeq0)))) (Gh.sel [0] rfl rfl)⟩ ?_
    clear H
    rintro k3 e ds As ⟨x3_2, x8_2, H, hst4⟩
    obtain _ | k3 := k3
    · cases H
    rw [F53.l0] at H
    refine SA.of_St hst4 fun junk => ?_
    refine SA_seq ?_
    refine SA_region ?_
    refine RA_step rfl (OA_v (v := .bool (decide (x8_2 < (l0.length : Int)))) rfl (V_lss rfl rfl) ?_)
    refine RA_nil ?_
    refine at_normal ?_
    refine SA_seq ?_
    by_cases h5 : x8_2 < (l0.length : Int)
    · replace H := g_ift h5 H
      refine SA_condT rfl h5 ?_
      refine SA_skip ?_
      refine at_normal ?_
      refine SA_seq ?_
      refine SA_block ?_
      refine SA_seq ?_
      refine SA_region ?_
      obtain ⟨⟨g6, g7⟩, H⟩ := g_pos H
      refine RA_step rfl (OA_r rfl (VR_index (i := x8_2) Try.underlying34 sz3 rfl rfl (Src.ro (k := 0) rfl) g6 g7) ?_)
      refine RA_step rfl (OA_r rfl (VR_load_el (enc := (fun x_ : Int => [Value.int .i64 x_])) (i := x8_2) (j := x8_2.toNat * 1) (m := 0) (sz := 1) Try.underlying3 rfl rfl rfl rfl (Src.ro (k := 0) rfl) g6 g7 (fun _ _ h => h) rfl) ?_)
      obtain ⟨n8, hn8, H⟩ := g_lt H
      refine RA_step rfl (OA_v (v := .int .i64 n8) rfl (V_assign (v := .int .i64 n8) (congrArg (Value.int .i64) hn8.symm)) ?_)
      refine RA_nil ?_
      refine at_normal ?_
      refine SA_seq ?_
      refine SA_region ?_
      refine RA_step rfl (OA_v (v := .int .i64 n8) rfl (V_move rfl) ?_)
      refine RA_step rfl (OA_v (v := .bool (decide (n8 > 0))) rfl (V_gtr rfl rfl) ?_)
      refine RA_nil ?_
      refine at_normal ?_
      by_cases h9 : n8 > 0
      · replace H := g_ift h9 H
        refine SA_condT rfl h9 ?_
        refine SA_region ?_
        refine RA_step rfl (OA_v (v := .int .i64 x3_2) rfl (V_move rfl) ?_)
        refine RA_step rfl (OA_v (v := .int .i64 n8) rfl (V_move rfl) ?_)
        refine RA_step rfl (OA_v (v := .int .u64 (IntKind.u64.wrap (n8))) rfl (V_conv (T := 3) (by kernel_rfl) Try.underlying53 rfl) ?_)
        obtain ⟨g10, H⟩ := g_pos H
        refine RA_step rfl (OA_v (v := .int .i64 (shrI .i64 32768 (IntKind.u64.wrap (n8)))) rfl (V_shr rfl rfl g10) ?_)
        refine RA_step rfl (OA_v (v := .int .i64 (IntKind.i64.wrap (x3_2 + (shrI .i64 32768 (IntKind.u64.wrap (n8)))))) rfl (V_add rfl rfl) ?_)
        obtain ⟨n11, hn11, H⟩ := g_lt H
        refine RA_step rfl (OA_v (v := .int .i64 n11) rfl (V_assign (v := .int .i64 n11) (congrArg (Value.int .i64) hn11.symm)) ?_)
        refine RA_nil ?_
        refine inb_normal ?_
        refine at_normal ?_
        refine SA_region ?_
        refine RA_step rfl (OA_v (v := .int .i64 (IntKind.i64.wrap (x8_2 + 1))) rfl (V_add rfl rfl) ?_)
        refine RA_step rfl (OA_v (v := .int .i64 (IntKind.i64.wrap (x8_2 + 1))) rfl (V_move rfl) ?_)
        refine RA_nil ?_
        exact at_normal ⟨k3, Nat.lt_succ_self _, _, _, H, St.mk1 (aeq rfl (aeq rfl (aeq rfl (aeq rfl aeq0)))) (Gh.sel [0] rfl rfl)⟩
      · replace H := g_iff h9 H
        refine SA_condF rfl h9 ?_
        refine SA_skip ?_
        refine inb_normal ?_
        refine at_normal ?_
        refine SA_region ?_
        refine RA_step rfl (OA_v (v := .int .i64 (IntKind.i64.wrap (x8_2 + 1))) rfl (V_add rfl rfl) ?_)
        refine RA_step rfl (OA_v (v := .int .i64 (IntKind.i64.wrap (x8_2 + 1))) rfl (V_move rfl) ?_)
        refine RA_nil ?_
        exact at_normal ⟨k3, Nat.lt_succ_self _, _, _, H, St.mk1 (aeq rfl (aeq rfl (aeq rfl (aeq rfl aeq0)))) (Gh.sel [0] rfl rfl)⟩
    · replace H := g_iff h5 H
      refine SA_condF rfl h5 ?_
      refine SA_exit ?_
      refine thn_exit ?_
      refine thn_exit ?_
      refine inb_hit ?_
      have hr_ := Option.some.inj H
      subst hr_
      exact at_normal (St.mk1 (aeq rfl aeq0) (Gh.sel [] rfl rfl))
  · rintro e ds As hst12
    clear H
    have H := Bt2
    clear Bt2
    refine at_normal ?_
    refine SA.of_St hst12 fun junk => ?_
    refine SA_seq ?_
    refine SA_region ?_
    refine RA_step rfl (OA_v (v := .int .i64 t2) rfl (V_move rfl) ?_)
    refine RA_step rfl (OA_v (v := .int .i64 t2) rfl (V_assign rfl) ?_)
    refine RA_nil ?_
    refine at_normal ?_
    refine SA_ret ?_
    have hr_ := Option.some.inj H
    subst hr_
    exact BQ_R1 [] rfl rfl (Gh.sel [] rfl rfl) ⟨rfl, rfl⟩

/-! ### function 47: wayfarer/huff.may -/
def F47.f (k : Nat) (l0 : (List Int)) : Option (Int) := (F52.f k l0 15).bind (fun r2 => (if (!r2) = true then (some true) else ((F53.f k l0).bind (fun r5 => some (decide (r5 > 32768)))) : Option Bool).bind (fun q3 => if q3 = true then (some (2)) else (if (l0.length : Int) > 512 then (some (4)) else (some (0)))))
set_option maxHeartbeats 2000000 in
set_option maxRecDepth 100000 in
theorem F47.ok {k : Nat} {l0 : (List Int)} {A0 : Option Addr} {c0 : Nat} {r : Int} (H : F47.f k l0 = some r) : SCA Try.prog 47 #[.slice A0 l0.length c0] [Ro (Kd.int .i64) A0 c0 l0] (fun v B => v = .int .i64 r ∧ B = []) := by
  refine SCA_of_body Try.func47 rfl rfl ?_
  unfold F47.f at H
  refine SA_seq ?_
  refine SA_region ?_
  refine RA_step rfl (OA_v (v := .int .i64 0) rfl (V_assign rfl) ?_)
  refine RA_nil ?_
  refine at_normal ?_
  refine SA_seq ?_
  refine SA_block ?_
  refine SA_seq ?_
  refine SA_region ?_
  refine RA_step rfl (OA_v (v := .slice A0 l0.length c0) rfl (V_move rfl) ?_)
  obtain ⟨r2, C10, H⟩ := g_bind H
  refine RA_step rfl (OA_callA [0] [0] rfl (X_fn (vs := [.slice A0 l0.length c0, .int .i64 15]) Try.func52 nm52 rfl rfl) rfl (F52.ok (l0 := l0) (A0 := A0) (c0 := c0) (a1 := 15) C10) rfl ?_)
  rintro _ _ ⟨rfl, rfl⟩
  refine RA_step rfl (OA_v (v := .bool (!r2)) rfl (V_not rfl) ?_)
  refine RA_step rfl (OA_v (v := .bool (!r2)) rfl (V_move rfl) ?_)
  obtain ⟨q3, H, Bq3⟩ := g_bind H
  refine RA_cut 4 (fun e ds As => St [(0, .slice A0 l0.length c0), (11, .bool q3)] [Ro (Kd.int .i64) A0 c0 l0] e ds As) ?_ ?_
  · by_cases h4 : (!r2) = true
    · replace H := g_ift h4 H
      refine RA_noB rfl rfl rfl rfl (h4) rfl ?_
      refine RA_noB rfl rfl rfl rfl (h4) rfl ?_
      refine RA_noB rfl rfl rfl rfl (h4) rfl ?_
      refine RA_step rfl (OA_v rfl (V_pickT rfl (h4) rfl) ?_)
      have hr_ := Option.some.inj H
      subst hr_
      refine RA_nil ?_
      exact at_normal (St.mk1 (aeq rfl (aeq rfl aeq0)) (Gh.sel [0] rfl rfl))
    · replace H := g_iff h4 H
      refine RA_yesB rfl rfl rfl rfl (bno h4) (OA_v (v := .slice A0 l0.length c0) rfl (V_move rfl) ?_)
      obtain ⟨r5, C6, H⟩ := g_bind H
      refine RA_yesB rfl rfl rfl rfl (bno h4) (OA_callA [0] [0] rfl (X_fn (vs := [.slice A0 l0.length c0]) Try.func53 nm53 rfl rfl) rfl (F53.ok (l0 := l0) (A0 := A0) (c0 := c0) C6) rfl ?_)
      rintro _ _ ⟨rfl, rfl⟩
      refine RA_yesB rfl rfl rfl rfl (bno h4) (OA_v (v := .bool (decide (r5 > 32768))) rfl (V_gtr rfl rfl) ?_)
      refine RA_step rfl (OA_v rfl (V_pickF rfl (bno h4) rfl) ?_)
      have hr_ := Option.some.inj H
      subst hr_
      refine RA_nil ?_
      exact at_normal (St.mk1 (aeq rfl (aeq rfl aeq0)) (Gh.sel [0] rfl rfl))
  · rintro e ds As hst7
    clear H
    have H := Bq3
    clear Bq3
    refine RA.of_St rfl hst7 fun junk => ?_
    refine RA_step rfl (OA_v (v := .bool q3) rfl (V_assign rfl) ?_)
    refine RA_nil ?_
    refine at_normal ?_
    by_cases h8 : q3 = true
    · replace H := g_ift h8 H
      refine SA_condTb rfl h8 ?_
      refine SA_seq ?_
      refine SA_region ?_
      refine RA_step rfl (OA_v (v := .int .i64 2) rfl (V_assign rfl) ?_)
      refine RA_nil ?_
      refine at_normal ?_
      refine SA_ret ?_
      refine inb_ret ?_
      refine thn_ret ?_
      have hr_ := Option.some.inj H
      subst hr_
      exact BQ_R1 [] rfl rfl (Gh.sel [] rfl rfl) ⟨rfl, rfl⟩
    · replace H := g_iff h8 H
      refine SA_condFb rfl h8 ?_
      refine SA_seq ?_
      refine SA_region ?_
      refine RA_step rfl (OA_v (v := .slice A0 l0.length c0) rfl (V_move rfl) ?_)
      refine RA_step rfl (OA_v (v := .int .i64 (l0.length : Int)) rfl (V_len Try.underlying34 rfl) ?_)
      refine RA_step rfl (OA_v (v := .bool (decide ((l0.length : Int) > 512))) rfl (V_gtr rfl rfl) ?_)
      refine RA_step rfl (OA_v (v := .bool (decide ((l0.length : Int) > 512))) rfl (V_assign rfl) ?_)
      refine RA_nil ?_
      refine at_normal ?_
      by_cases h9 : (l0.length : Int) > 512
      · replace H := g_ift h9 H
        refine SA_condT rfl h9 ?_
        refine SA_seq ?_
        refine SA_region ?_
        refine RA_step rfl (OA_v (v := .int .i64 4) rfl (V_assign rfl) ?_)
        refine RA_nil ?_
        refine at_normal ?_
        refine SA_ret ?_
        refine inb_ret ?_
        refine thn_ret ?_
        have hr_ := Option.some.inj H
        subst hr_
        exact BQ_R1 [] rfl rfl (Gh.sel [] rfl rfl) ⟨rfl, rfl⟩
      · replace H := g_iff h9 H
        refine SA_condF rfl h9 ?_
        refine SA_skip ?_
        refine inb_normal ?_
        refine at_normal ?_
        refine SA_seq ?_
        refine SA_region ?_
        refine RA_step rfl (OA_v (v := .int .i64 0) rfl (V_assign rfl) ?_)
        refine RA_nil ?_
        refine at_normal ?_
        refine SA_ret ?_
        have hr_ := Option.some.inj H
        subst hr_
        exact BQ_R1 [] rfl rfl (Gh.sel [] rfl rfl) ⟨rfl, rfl⟩

/-! ### function 48: wayfarer/huff.codes -/
def F48.l1 (l0 : (List Int)) (x5_10 : Int) : Nat → (List S88) → Int → Int → Option ((List S88) × Int)
  | 0, _, _, _ => none
  | k + 1, x3_20, x4_20, x17_20 => if x17_20 < (l0.length : Int) then (if 0 ≤ x17_20 ∧ x17_20 < (l0.length : Int) then (lt (rd l0 x17_20) fun n29 => if n29 = x5_10 then (if 0 ≤ (IntKind.u64.wrap (IntKind.i64.wrap (15 - x5_10))) then (if 0 ≤ x17_20 ∧ x17_20 < (x3_20.length : Int) then (lt (x3_20.set x17_20.toNat (S88.mk x5_10 (shrI .u64 x4_20 (IntKind.u64.wrap (IntKind.i64.wrap (15 - x5_10)))))) fun n34 => (if 0 ≤ (IntKind.u64.wrap (x5_10)) then (lt (IntKind.u64.wrap (x4_20 + (shrI .u64 32768 (IntKind.u64.wrap (x5_10))))) fun n36 => F48.l1 l0 x5_10 k n34 n36 (IntKind.i64.wrap (x17_20 + 1))) else none)) else none) else none) else (F48.l1 l0 x5_10 k x3_20 x4_20 (IntKind.i64.wrap (x17_20 + 1)))) else none) else (some (x3_20, x4_20))
def F48.l0 (l0 : (List Int)) : Nat → (List S88) → Int → Int → Option ((List S88))
  | 0, _, _, _ => none
  | k + 1, x3_10, x4_10, x5_10 => if x5_10 ≤ 15 then ((F48.l1 l0 x5_10 k x3_10 x4_10 0 : Option ((List S88) × Int)).bind (fun t17 => lt (IntKind.i64.wrap (x5_10 + 1)) fun n38 => F48.l0 l0 k t17.1 t17.2 n38)) else (some x3_10)
def F48.f (k : Nat) (l0 : (List Int)) : Option ((List S88)) := if 0 ≤ (l0.length : Int) ∧ (l0.length : Int) ≤ 8796093022208 then lt (List.replicate (l0.length : Int).toNat (S88.mk 0 0)) fun n6 => ((F48.l0 l0 k n6 0 1 : Option ((List S88))).bind (fun t7 => some (t7))) else none
set_option maxHeartbeats 2000000 in
set_option maxRecDepth 100000 in
theorem F48.ok {k : Nat} {l0 : (List Int)} {A0 : Option Addr} {c0 : Nat} {r : (List S88)} (H : F48.f k l0 = some r) : SCA Try.prog 48 #[.slice A0 l0.length c0] [Ro (Kd.int .i64) A0 c0 l0] (fun v B => ∃ (A0_0_ : Option Addr) (c0_0_ : Nat), v = .slice A0_0_ r.length c0_0_ ∧ B = [Buf k88 88 A0_0_ c0_0_ r]) := by
  refine SCA_of_body Try.func48 rfl rfl ?_
  unfold F48.f at H
  refine SA_seq ?_
  refine SA_region ?_
  refine RA_step rfl (OA_v (v := .slice none 0 0) rfl (V_assign rfl) ?_)
  refine RA_nil ?_
  refine at_normal ?_
  refine SA_seq ?_
  refine SA_region ?_
  refine RA_step rfl (OA_v (v := .slice A0 l0.length c0) rfl (V_move rfl) ?_)
  refine RA_step rfl (OA_v (v := .int .i64 (l0.length : Int)) rfl (V_len Try.underlying34 rfl) ?_)
  obtain ⟨⟨g4, g5⟩, H⟩ := g_pos H
  obtain ⟨n6, hn6, H⟩ := g_lt H
  refine RA_step rfl (OA_mk (kd := k88) (sz := 2) (l := (l0.length : Int)) (S88.mk 0 0) n6 hn6 rfl Try.underlying85 inf88 rfl rfl g4 (by omega) (by omega) rfl rfl (fun _ => rfl) fun b2 => ?_)
  refine RA_step rfl (OA_v (v := .slice (some ⟨b2, 0, none⟩) n6.length ((l0.length : Int).toNat)) rfl (V_assign rfl) ?_)
  refine RA_nil ?_
  refine at_normal ?_
  refine SA_seq ?_
  refine SA_region ?_
  refine RA_step rfl (OA_v (v := .int .u64 0) rfl (V_assign rfl) ?_)
  refine RA_nil ?_
  refine at_normal ?_
  refine SA_seq ?_
  refine SA_seq ?_
  refine SA_region ?_
  refine RA_step rfl (OA_v (v := .int .i64 1) rfl (V_assign rfl) ?_)
  refine RA_nil ?_
  refine at_normal ?_
  obtain ⟨t7, H, Bt7⟩ := g_bind H
  refine SA_mid (fun e ds As => ∃ (A8 : Option Addr) (c9 : Nat), St [(3, .slice A8 t7.length c9)] [Buf k88 88 A8 c9 t7] e ds As) ?_ ?_
  · refine SA_block ?_
    refine SA_loop (fun k_ e ds As => ∃ (x3_10 : (List S88)) (x4_10 : Int) (x5_10 : Int), ∃ (A11 : Option Addr) (c12 : Nat), F48.l0 l0 k_ x3_10 x4_10 x5_10 = some t7 ∧ St [(0, .slice A0 l0.length c0), (3, .slice A11 x3_10.length c12), (4, .int .u64 x4_10), (5, .int .i64 x5_10)] [Ro (Kd.int .i64) A0 c0 l0, Buf k88 88 A11 c12 x3_10] e ds As) (k := k) ⟨_, _, _, some ⟨b2, 0, none⟩, (l0.length : Int).toNat, H, St.mk1 (aeq rfl (aeq rfl (aeq rfl (aeq rfl aeq0)))) (Gh.sel [0, 1] rfl rfl)⟩ ?_
    clear H
    rintro k14 e ds As ⟨x3_10, x4_10, x5_10, A11, c12, H, hst15⟩
    obtain _ | k14 := k14
    · cases H
    rw [F48.l0] at H
    refine SA.of_St hst15 fun junk => ?_
    refine SA_seq ?_
    refine SA_seq ?_
    refine SA_region ?_
    refine RA_step rfl (OA_v (v := .int .i64 x5_10) rfl (V_move rfl) ?_)
    refine RA_step rfl (OA_v (v := .bool (decide (x5_10 ≤ 15))) rfl (V_leq rfl rfl) ?_)
    refine RA_nil ?_
    refine at_normal ?_
    by_cases h16 : x5_10 ≤ 15
    · replace H := g_ift h16 H
      refine SA_condT rfl h16 ?_
      refine SA_skip ?_
      refine at_normal ?_
      refine SA_seq ?_
      refine SA_block ?_
      refine SA_seq ?_
      refine SA_region ?_
      refine RA_step rfl (OA_v (v := .slice A0 l0.length c0) rfl (V_move rfl) ?_)
      refine RA_step rfl (OA_v (v := .int .i64 (l0.length : Int)) rfl (V_len Try.underlying34 rfl) ?_)
      refine RA_step rfl (OA_v (v := .int .i64 0) rfl (V_move rfl) ?_)
      refine RA_nil ?_
      refine at_normal ?_
      obtain ⟨t17, H, Bt17⟩ := g_bind H
      refine SA_mid (fun e ds As => ∃ (A18 : Option Addr) (c19 : Nat), St [(0, .slice A0 l0.length c0), (3, .slice A18 t17.1.length c19), (4, .int .u64 t17.2), (5, .int .i64 x5_10)] [Buf k88 88 A18 c19 t17.1, Ro (Kd.int .i64) A0 c0 l0] e ds As) ?_ ?_
      · refine SA_block ?_
        refine SA_loop (fun k_ e ds As => ∃ (x3_20 : (List S88)) (x4_20 : Int) (x17_20 : Int), ∃ (A21 : Option Addr) (c22 : Nat), F48.l1 l0 x5_10 k_ x3_20 x4_20 x17_20 = some t17 ∧ St [(0, .slice A0 l0.length c0), (3, .slice A21 x3_20.length c22), (4, .int .u64 x4_20), (5, .int .i64 x5_10), (15, .slice A0 l0.length c0), (16, .int .i64 (l0.length : Int)), (17, .int .i64 x17_20)] [Ro (Kd.int .i64) A0 c0 l0, Buf k88 88 A21 c22 x3_20] e ds As) (k := k14) ⟨_, _, _, A11, c12, H, St.mk1 (aeq rfl (aeq rfl (aeq rfl (aeq rfl (aeq rfl (aeq rfl (aeq rfl aeq0))))))) (Gh.sel [0, 1] rfl rfl)⟩ ?_
        clear H
        rintro k24 e ds As ⟨x3_20, x4_20, x17_20, A21, c22, H, hst25⟩
        obtain _ | k24 := k24
        · cases H
        rw [F48.l1] at H
        refine SA.of_St hst25 fun junk => ?_
        refine SA_seq ?_
        refine SA_region ?_
        refine RA_step rfl (OA_v (v := .bool (decide (x17_20 < (l0.length : Int)))) rfl (V_lss rfl rfl) ?_)
        refine RA_nil ?_
        refine at_normal ?_
        refine SA_seq ?_
        by_cases h26 : x17_20 < (l0.length : Int)
        · replace H := g_ift h26 H
          refine SA_condT rfl h26 ?_
          refine SA_skip ?_
          refine at_normal ?_
          refine SA_seq ?_
          refine SA_block ?_
          refine SA_seq ?_
          refine SA_region ?_
          refine RA_step rfl (OA_v (v := .int .i64 x17_20) rfl (V_move rfl) ?_)
          obtain ⟨⟨g27, g28⟩, H⟩ := g_pos H
          refine RA_step rfl (OA_r rfl (VR_index (i := x17_20) Try.underlying34 sz3 rfl rfl (Src.ro (k := 0) rfl) g27 g28) ?_)
          refine RA_step rfl (OA_r rfl (VR_load_el (enc := (fun x_ : Int => [Value.int .i64 x_])) (i := x17_20) (j := x17_20.toNat * 1) (m := 0) (sz := 1) Try.underlying3 rfl rfl rfl rfl (Src.ro (k := 0) rfl) g27 g28 (fun _ _ h => h) rfl) ?_)
          refine RA_step rfl (OA_v (v := .int .i64 x17_20) rfl (V_assign rfl) ?_)
          obtain ⟨n29, hn29, H⟩ := g_lt H
          refine RA_step rfl (OA_v (v := .int .i64 n29) rfl (V_assign (v := .int .i64 n29) (congrArg (Value.int .i64) hn29.symm)) ?_)
          refine RA_nil ?_
          refine at_normal ?_
          refine SA_seq ?_
          refine SA_region ?_
          refine RA_step rfl (OA_v (v := .int .i64 n29) rfl (V_move rfl) ?_)
          refine RA_step rfl (OA_v (v := .int .i64 x5_10) rfl (V_move rfl) ?_)
          refine RA_step rfl (OA_v (v := .bool (decide (n29 = x5_10))) rfl (V_eql rfl rfl) ?_)
          refine RA_nil ?_
          refine at_normal ?_
          by_cases h30 : n29 = x5_10
          · replace H := g_ift h30 H
            refine SA_condT rfl h30 ?_
            refine SA_seq ?_
            refine SA_region ?_
            refine RA_step rfl (OA_v (v := .slice A21 x3_20.length c22) rfl (V_move rfl) ?_)
            refine RA_step rfl (OA_v (v := .int .i64 x17_20) rfl (V_move rfl) ?_)
            refine RA_step rfl (OA_v (v := .int .i64 x5_10) rfl (V_move rfl) ?_)
            refine RA_step rfl (OA_v (v := .int .u64 x4_20) rfl (V_move rfl) ?_)
            refine RA_step rfl (OA_v (v := .int .i64 x5_10) rfl (V_move rfl) ?_)
            refine RA_step rfl (OA_v (v := .int .i64 (IntKind.i64.wrap (15 - x5_10))) rfl (V_sub rfl rfl) ?_)
            refine RA_step rfl (OA_v (v := .int .u64 (IntKind.u64.wrap (IntKind.i64.wrap (15 - x5_10)))) rfl (V_conv (T := 3) (by kernel_rfl) Try.underlying53 rfl) ?_)
            obtain ⟨g31, H⟩ := g_pos H
            refine RA_step rfl (OA_v (v := .int .u64 (shrI .u64 x4_20 (IntKind.u64.wrap (IntKind.i64.wrap (15 - x5_10))))) rfl (V_shr rfl rfl g31) ?_)
            refine RA_step rfl (OA_v (v := .agg #[.int .i64 x5_10, .int .u64 (shrI .u64 x4_20 (IntKind.u64.wrap (IntKind.i64.wrap (15 - x5_10))))]) rfl (V_build (cells := [.int .i64 x5_10, .int .u64 (shrI .u64 x4_20 (IntKind.u64.wrap (IntKind.i64.wrap (15 - x5_10))))]) zero88 Try.underlying88 plc88 (by kernel_rfl)) ?_)
            obtain ⟨⟨g32, g33⟩, H⟩ := g_pos H
            refine RA_step rfl (OA_r rfl (VR_index (i := x17_20) Try.underlying85 sz88 rfl rfl (Src.buf (k := 1) rfl) g32 g33) ?_)
            obtain ⟨n34, hn34, H⟩ := g_lt H
            have hl_n34 : n34.length = x3_20.length := by rw [hn34]; exact List.length_set
            refine RA_step rfl (OA_stEl (k := 1) (i := x17_20) (j := x17_20.toNat * 2) (m := 0) (sz := 2) (xs := x3_20) (vs := [.int .i64 x5_10, .int .u64 (shrI .u64 x4_20 (IntKind.u64.wrap (IntKind.i64.wrap (15 - x5_10))))]) (S88.mk x5_10 (shrI .u64 x4_20 (IntKind.u64.wrap (IntKind.i64.wrap (15 - x5_10))))) rfl rfl rfl rfl rfl rfl rfl rfl sz88 g32 g33 rfl (fun _ _ h_ => by subst h_; rfl) ?_)
            rewrite [← hn34]
            try rewrite [← hl_n34]
            refine RA_nil ?_
            refine at_normal ?_
            refine SA_region ?_
            refine RA_step rfl (OA_v (v := .int .u64 x4_20) rfl (V_move rfl) ?_)
            refine RA_step rfl (OA_v (v := .int .i64 x5_10) rfl (V_move rfl) ?_)
            refine RA_step rfl (OA_v (v := .int .u64 (IntKind.u64.wrap (x5_10))) rfl (V_conv (T := 3) (by kernel_rfl) Try.underlying53 rfl) ?_)
            obtain ⟨g35, H⟩ := g_pos H
            refine RA_step rfl (OA_v (v := .int .u64 (shrI .u64 32768 (IntKind.u64.wrap (x5_10)))) rfl (V_shr rfl rfl g35) ?_)
            refine RA_step rfl (OA_v (v := .int .u64 (IntKind.u64.wrap (x4_20 + (shrI .u64 32768 (IntKind.u64.wrap (x5_10)))))) rfl (V_add rfl rfl) ?_)
            obtain ⟨n36, hn36, H⟩ := g_lt H
            refine RA_step rfl (OA_v (v := .int .u64 n36) rfl (V_assign (v := .int .u64 n36) (congrArg (Value.int .u64) hn36.symm)) ?_)
            refine RA_nil ?_
            refine inb_normal ?_
            refine at_normal ?_
            refine SA.of_St (l := [(0, .slice A0 l0.length c0), (3, .slice A21 n34.length c22), (4, .int .u64 n36), (5, .int .i64 x5_10), (15, .slice A0 l0.length c0), (16, .int .i64 (l0.length : Int)), (17, .int .i64 x17_20)]) (B := [Ro (Kd.int .i64) A0 c0 l0, Buf k88 88 A21 c22 n34]) (St.mk1 (aeq rfl (aeq rfl (aeq rfl (aeq rfl (aeq rfl (aeq rfl (aeq rfl aeq0))))))) (Gh.sel [0, 1] rfl rfl)) fun junk => ?_
            refine SA_region ?_
            refine RA_step rfl (OA_v (v := .int .i64 (IntKind.i64.wrap (x17_20 + 1))) rfl (V_add rfl rfl) ?_)
            refine RA_step rfl (OA_v (v := .int .i64 (IntKind.i64.wrap (x17_20 + 1))) rfl (V_move rfl) ?_)
            refine RA_nil ?_
            exact at_normal ⟨k24, Nat.lt_succ_self _, _, _, _, A21, c22, H, St.mk1 (aeq rfl (aeq rfl (aeq rfl (aeq rfl (aeq rfl (aeq rfl (aeq rfl aeq0))))))) (Gh.sel [0, 1] rfl rfl)⟩
          · replace H := g_iff h30 H
            refine SA_condF rfl h30 ?_
            refine SA_skip ?_
            refine inb_normal ?_
            refine at_normal ?_
            refine SA_region ?_
            refine RA_step rfl (OA_v (v := .int .i64 (IntKind.i64.wrap (x17_20 + 1))) rfl (V_add rfl rfl) ?_)
            refine RA_step rfl (OA_v (v := .int .i64 (IntKind.i64.wrap (x17_20 + 1))) rfl (V_move rfl) ?_)
            refine RA_nil ?_
            exact at_normal ⟨k24, Nat.lt_succ_self _, _, _, _, A21, c22, H, St.mk1 (aeq rfl (aeq rfl (aeq rfl (aeq rfl (aeq rfl (aeq rfl (aeq rfl aeq0))))))) (Gh.sel [0, 1] rfl rfl)⟩
        · replace H := g_iff h26 H
          refine SA_condF rfl h26 ?_
          refine SA_exit ?_
          refine thn_exit ?_
          refine thn_exit ?_
          refine inb_hit ?_
          have hr_ := Option.some.inj H
          subst hr_
          exact at_normal ⟨A21, c22, St.mk1 (aeq rfl (aeq rfl (aeq rfl (aeq rfl aeq0)))) (Gh.sel [1, 0] rfl rfl)⟩
      · rintro e ds As ⟨A18, c19, hst37⟩
        clear H
        have H := Bt17
        clear Bt17
        refine inb_normal ?_
        refine at_normal ?_
        refine SA.of_St hst37 fun junk => ?_
        refine SA_region ?_
        refine RA_step rfl (OA_v (v := .int .i64 x5_10) rfl (V_move rfl) ?_)
        refine RA_step rfl (OA_v (v := .int .i64 (IntKind.i64.wrap (x5_10 + 1))) rfl (V_add rfl rfl) ?_)
        obtain ⟨n38, hn38, H⟩ := g_lt H
        refine RA_step rfl (OA_v (v := .int .i64 n38) rfl (V_assign (v := .int .i64 n38) (congrArg (Value.int .i64) hn38.symm)) ?_)
        refine RA_nil ?_
        exact at_normal ⟨k14, Nat.lt_succ_self _, _, _, _, A18, c19, H, St.mk1 (aeq rfl (aeq rfl (aeq rfl (aeq rfl aeq0)))) (Gh.sel [1, 0] rfl rfl)⟩
    · replace H := g_iff h16 H
      refine SA_condF rfl h16 ?_
      refine SA_exit ?_
      refine thn_exit ?_
      refine thn_exit ?_
      refine inb_hit ?_
      have hr_ := Option.some.inj H
      subst hr_
      exact at_normal ⟨A11, c12, St.mk1 (aeq rfl aeq0) (Gh.sel [1] rfl rfl)⟩
  · rintro e ds As ⟨A8, c9, hst39⟩
    clear H
    have H := Bt7
    clear Bt7
    refine at_normal ?_
    refine SA.of_St hst39 fun junk => ?_
    refine SA_seq ?_
    refine SA_region ?_
    refine RA_step rfl (OA_v (v := .slice A8 t7.length c9) rfl (V_move rfl) ?_)
    refine RA_step rfl (OA_v (v := .slice A8 t7.length c9) rfl (V_assign rfl) ?_)
    refine RA_nil ?_
    refine at_normal ?_
    refine SA_ret ?_
    have hr_ := Option.some.inj H
    subst hr_
    exact BQ_R1 [Buf k88 88 A8 c9 t7] rfl rfl (Gh.sel [0] rfl rfl) ⟨A8, c9, rfl, rfl⟩

/-! ### function 79: wayfarer/bits.may -/
def F79.f (a0 : S52) : Option (Bool) := lt ((decide (a0.f1 ≥ 0)) && (decide (a0.f1 ≤ 64))) fun q3 => (if q3 = true then (if a0.f1 = 64 then (some true) else (if 0 ≤ (IntKind.u64.wrap (a0.f1)) then (some (decide ((shrI .u64 a0.f0 (IntKind.u64.wrap (a0.f1))) = 0))) else none)) else (some false) : Option Bool).bind (fun q6 => some (q6))
set_option maxHeartbeats 2000000 in
set_option maxRecDepth 100000 in
theorem F79.ok {a0 : S52} {r : Bool} (H : F79.f a0 = some r) : SCA Try.prog 79 #[.agg #[.int .u64 a0.f0, .int .i64 a0.f1]] [] (fun v B => v = .bool r ∧ B = []) := by
  refine SCA_of_body Try.func79 rfl rfl ?_
  unfold F79.f at H
  refine SA_seq ?_
  refine SA_region ?_
  refine RA_step rfl (OA_box rfl rfl fun b1 => ?_)
  refine RA_step rfl (OA_v (v := .bool false) rfl (V_assign rfl) ?_)
  refine RA_nil ?_
  refine at_normal ?_
  refine SA_seq ?_
  refine SA_region ?_
  refine RA_step rfl (OA_v (v := .pointer (some ((⟨b1, 0, none⟩ : Addr).add 1))) rfl (V_fieldAddrN (B := ⟨b1, 0, none⟩) (m := 0) (o := 1) Try.underlying52 rfl nz3 rfl rfl) ?_)
  refine RA_step rfl (OA_r rfl (VR_load_blk (b := b1) (m := 1) (k := 0) Try.underlying3 rfl rfl rfl rfl) ?_)
  refine RA_step rfl (OA_v (v := .bool (decide (a0.f1 ≥ 0))) rfl (V_geq rfl rfl) ?_)
  refine RA_step rfl (OA_v (v := .bool (decide (a0.f1 ≥ 0))) rfl (V_move rfl) ?_)
  obtain ⟨q3, hq3, H⟩ := g_lt H
  refine RA_cut 4 (fun e ds As => St [(1, .pointer (some ⟨b1, 0, none⟩)), (10, .bool q3)] [Blk b1 52 [.int .u64 a0.f0, .int .i64 a0.f1]] e ds As) ?_ ?_
  · by_cases h4 : a0.f1 ≥ 0
    · refine RA_yesB rfl rfl rfl rfl (dec_t h4) (OA_v (v := .pointer (some ((⟨b1, 0, none⟩ : Addr).add 1))) rfl (V_fieldAddrN (B := ⟨b1, 0, none⟩) (m := 0) (o := 1) Try.underlying52 rfl nz3 rfl rfl) ?_)
      refine RA_yesB rfl rfl rfl rfl (dec_t h4) (OA_r rfl (VR_load_blk (b := b1) (m := 1) (k := 0) Try.underlying3 rfl rfl rfl rfl) ?_)
      refine RA_yesB rfl rfl rfl rfl (dec_t h4) (OA_v (v := .bool (decide (a0.f1 ≤ 64))) rfl (V_leq rfl rfl) ?_)
      refine RA_step rfl (OA_v rfl (V_pickT rfl (dec_t h4) rfl) ?_)
      refine RA_nil ?_
      exact at_normal (St.mk1 (aeq rfl (aeq (congrArg Value.bool (and_t hq3 (dec_t h4))) aeq0)) (Gh.sel [0] rfl rfl))
    · refine RA_noB rfl rfl rfl rfl (dec_f h4) rfl ?_
      refine RA_noB rfl rfl rfl rfl (dec_f h4) rfl ?_
      refine RA_noB rfl rfl rfl rfl (dec_f h4) rfl ?_
      refine RA_step rfl (OA_v rfl (V_pickF rfl (dec_f h4) rfl) ?_)
      refine RA_nil ?_
      exact at_normal (St.mk1 (aeq rfl (aeq (congrArg Value.bool (and_f hq3 (dec_f h4))) aeq0)) (Gh.sel [0] rfl rfl))
  · rintro e ds As hst5
    refine RA.of_St rfl hst5 fun junk => ?_
    refine RA_step rfl (OA_v (v := .bool q3) rfl (V_move rfl) ?_)
    obtain ⟨q6, H, Bq6⟩ := g_bind H
    refine RA_cut 13 (fun e ds As => St [(24, .bool q6)] [] e ds As) ?_ ?_
    · by_cases h7 : q3 = true
      · replace H := g_ift h7 H
        refine RA_yesB rfl rfl rfl rfl (h7) (OA_v (v := .pointer (some ((⟨b1, 0, none⟩ : Addr).add 1))) rfl (V_fieldAddrN (B := ⟨b1, 0, none⟩) (m := 0) (o := 1) Try.underlying52 rfl nz3 rfl rfl) ?_)
        refine RA_yesB rfl rfl rfl rfl (h7) (OA_r rfl (VR_load_blk (b := b1) (m := 1) (k := 0) Try.underlying3 rfl rfl rfl rfl) ?_)
        refine RA_yesB rfl rfl rfl rfl (h7) (OA_v (v := .bool (decide (a0.f1 = 64))) rfl (V_eql rfl rfl) ?_)
        refine RA_yesB rfl rfl rfl rfl (h7) (OA_v (v := .bool (decide (a0.f1 = 64))) rfl (V_move rfl) ?_)
        by_cases h8 : a0.f1 = 64
        · replace H := g_ift h8 H
          refine RA_noB rfl rfl rfl rfl (dec_t h8) rfl ?_
          refine RA_noB rfl rfl rfl rfl (dec_t h8) rfl ?_
          refine RA_noB rfl rfl rfl rfl (dec_t h8) rfl ?_
          refine RA_noB rfl rfl rfl rfl (dec_t h8) rfl ?_
          refine RA_noB rfl rfl rfl rfl (dec_t h8) rfl ?_
          refine RA_noB rfl rfl rfl rfl (dec_t h8) rfl ?_
          refine RA_noB rfl rfl rfl rfl (dec_t h8) rfl ?_
          refine RA_yesB rfl rfl rfl rfl (h7) (OA_v rfl (V_pickT rfl (dec_t h8) rfl) ?_)
          refine RA_step rfl (OA_v rfl (V_pickT rfl (h7) rfl) ?_)
          have hr_ := Option.some.inj H
          subst hr_
          refine RA_nil ?_
          exact at_normal (St.mk1 (aeq rfl aeq0) (Gh.sel [] rfl rfl))
        · replace H := g_iff h8 H
          refine RA_yesB rfl rfl rfl rfl (dec_f h8) (OA_v (v := .pointer (some ⟨b1, 0, none⟩)) rfl (V_fieldAddrN (B := ⟨b1, 0, none⟩) (m := 0) (o := 0) Try.underlying52 rfl nz50 rfl rfl) ?_)
          refine RA_yesB rfl rfl rfl rfl (dec_f h8) (OA_r rfl (VR_load_blk (b := b1) (m := 0) (k := 0) Try.underlying50 rfl rfl rfl rfl) ?_)
          refine RA_yesB rfl rfl rfl rfl (dec_f h8) (OA_v (v := .pointer (some ((⟨b1, 0, none⟩ : Addr).add 1))) rfl (V_fieldAddrN (B := ⟨b1, 0, none⟩) (m := 0) (o := 1) Try.underlying52 rfl nz3 rfl rfl) ?_)
          refine RA_yesB rfl rfl rfl rfl (dec_f h8) (OA_r rfl (VR_load_blk (b := b1) (m := 1) (k := 0) Try.underlying3 rfl rfl rfl rfl) ?_)
          refine RA_yesB rfl rfl rfl rfl (dec_f h8) (OA_v (v := .int .u64 (IntKind.u64.wrap (a0.f1))) rfl (V_conv (T := 3) (by kernel_rfl) Try.underlying53 rfl) ?_)
          obtain ⟨g9, H⟩ := g_pos H
          refine RA_yesB rfl rfl rfl rfl (dec_f h8) (OA_v (v := .int .u64 (shrI .u64 a0.f0 (IntKind.u64.wrap (a0.f1)))) rfl (V_shr rfl rfl g9) ?_)
          refine RA_yesB rfl rfl rfl rfl (dec_f h8) (OA_v (v := .bool (decide ((shrI .u64 a0.f0 (IntKind.u64.wrap (a0.f1))) = 0))) rfl (V_eql rfl rfl) ?_)
          refine RA_yesB rfl rfl rfl rfl (h7) (OA_v rfl (V_pickF rfl (dec_f h8) rfl) ?_)
          refine RA_step rfl (OA_v rfl (V_pickT rfl (h7) rfl) ?_)
          have hr_ := Option.some.inj H
          subst hr_
          refine RA_nil ?_
          exact at_normal (St.mk1 (aeq rfl aeq0) (Gh.sel [] rfl rfl))
      · replace H := g_iff h7 H
        refine RA_noB rfl rfl rfl rfl (bno h7) rfl ?_
        refine RA_noB rfl rfl rfl rfl (bno h7) rfl ?_
        refine RA_noB rfl rfl rfl rfl (bno h7) rfl ?_
        refine RA_noB rfl rfl rfl rfl (bno h7) rfl ?_
        refine RA_noU rfl rfl rfl rfl rfl ?_
        refine RA_noU rfl rfl rfl rfl rfl ?_
        refine RA_noU rfl rfl rfl rfl rfl ?_
        refine RA_noU rfl rfl rfl rfl rfl ?_
        refine RA_noU rfl rfl rfl rfl rfl ?_
        refine RA_noU rfl rfl rfl rfl rfl ?_
        refine RA_noU rfl rfl rfl rfl rfl ?_
        refine RA_noB rfl rfl rfl rfl (bno h7) rfl ?_
        refine RA_step rfl (OA_v rfl (V_pickF rfl (bno h7) rfl) ?_)
        have hr_ := Option.some.inj H
        subst hr_
        refine RA_nil ?_
        exact at_normal (St.mk1 (aeq rfl aeq0) (Gh.sel [] rfl rfl))
    · rintro e ds As hst10
      clear H
      have H := Bq6
      clear Bq6
      refine RA.of_St rfl hst10 fun junk => ?_
      refine RA_step rfl (OA_v (v := .bool q6) rfl (V_assign rfl) ?_)
      refine RA_nil ?_
      refine at_normal ?_
      refine SA_ret ?_
      have hr_ := Option.some.inj H
      subst hr_
      exact BQ_R1 [] rfl rfl (Gh.sel [] rfl rfl) ⟨rfl, rfl⟩

/-! ### function 49: wayfarer/bits.Reverse -/
def F49.l0 (a0 : S52) : Nat → S52 → S52 → Int → Option (S52)
  | 0, _, _, _ => none
  | k + 1, x1_10, x4_10, x14_10 => if x14_10 < a0.f1 then (F49.l0 a0 k (S52.mk (shrI .u64 x1_10.f0 1) x1_10.f1) (S52.mk (orI .u64 (shlI .u64 x4_10.f0 1) (andI .u64 x1_10.f0 1)) x4_10.f1) (IntKind.i64.wrap (x14_10 + 1))) else (some x4_10)
def F49.f (k : Nat) (a0 : S52) : Option (S52 × Int) := (F79.f a0).bind (fun r5 => if (!r5) = true then (some (((S52.mk 0 0), 2))) else ((F49.l0 a0 k a0 (S52.mk 0 a0.f1) 0 : Option (S52)).bind (fun t9 => some ((t9, 0)))))
set_option maxHeartbeats 2000000 in
set_option maxRecDepth 100000 in
theorem F49.ok {k : Nat} {a0 : S52} {r : S52 × Int} (H : F49.f k a0 = some r) : SCA Try.prog 49 #[.agg #[.int .u64 a0.f0, .int .i64 a0.f1]] [] (fun v B => v = .tuple #[.agg #[.int .u64 r.1.f0, .int .i64 r.1.f1], .int .i64 r.2] ∧ B = []) := by
  refine SCA_of_body Try.func49 rfl rfl ?_
  unfold F49.f at H
  refine SA_seq ?_
  refine SA_region ?_
  refine RA_step rfl (OA_box rfl rfl fun b1 => ?_)
  refine RA_step rfl (OA_alloc rfl zero52 fun b3 => ?_)
  refine RA_step rfl (OA_v (v := .int .i64 0) rfl (V_assign rfl) ?_)
  refine RA_nil ?_
  refine at_normal ?_
  refine SA_seq ?_
  refine SA_seq ?_
  refine SA_region ?_
  refine RA_step rfl (OA_r rfl (VR_loadA_blk (b := b1) (m := 0) (k := 0) (vs := [.int .u64 a0.f0, .int .i64 a0.f1]) Try.underlying52 rfl sz52 rfl rfl rfl) ?_)
  obtain ⟨r5, C17, H⟩ := g_bind H
  refine RA_step rfl (OA_callA [] [0, 1] rfl (X_fn (vs := [.agg #[.int .u64 a0.f0, .int .i64 a0.f1]]) Try.func79 nm79 rfl rfl) rfl (F79.ok (a0 := a0) C17) rfl ?_)
  rintro _ _ ⟨rfl, rfl⟩
  refine RA_step rfl (OA_v (v := .bool (!r5)) rfl (V_not rfl) ?_)
  refine RA_nil ?_
  refine at_normal ?_
  by_cases h6 : (!r5) = true
  · replace H := g_ift h6 H
    refine SA_condTb rfl h6 ?_
    refine SA_seq ?_
    refine SA_region ?_
    refine RA_step rfl (OA_v (v := .agg #[.int .u64 0, .int .i64 0]) rfl (V_build (cells := [.int .u64 0, .int .i64 0]) zero52 Try.underlying52 plc52 (by kernel_rfl)) ?_)
    refine RA_step rfl (OA_st (b := b3) (m := 0) (k := 1) (vs := [.int .u64 0, .int .i64 0]) (cs' := [.int .u64 0, .int .i64 0]) rfl rfl rfl rfl rfl rfl sz52 rfl rfl ?_)
    refine RA_step rfl (OA_v (v := .int .i64 2) rfl (V_assign rfl) ?_)
    refine RA_nil ?_
    refine at_normal ?_
    refine SA_ret ?_
    refine thn_ret ?_
    have hr_ := Option.some.inj H
    subst hr_
    exact BQ_RL (rs := [.cell 2 52, .tmp 3]) (vs := [.agg #[.int .u64 0, .int .i64 0], .int .i64 2]) [] rfl ⟨RV.cell (k := 1) rfl rfl Try.underlying52 rfl sz52, RV.tmp rfl, trivial⟩ rfl (Gh.sel [] rfl rfl) ⟨rfl, rfl⟩
  · replace H := g_iff h6 H
    refine SA_condFb rfl h6 ?_
    refine SA_skip ?_
    refine at_normal ?_
    refine SA_seq ?_
    refine SA_region ?_
    refine RA_step rfl (OA_v (v := .pointer (some ((⟨b1, 0, none⟩ : Addr).add 1))) rfl (V_fieldAddrN (B := ⟨b1, 0, none⟩) (m := 0) (o := 1) Try.underlying52 rfl nz3 rfl rfl) ?_)
    refine RA_step rfl (OA_r rfl (VR_load_blk (b := b1) (m := 1) (k := 0) Try.underlying3 rfl rfl rfl rfl) ?_)
    refine RA_step rfl (OA_v (v := .agg #[.int .u64 0, .int .i64 a0.f1]) rfl (V_build (cells := [.int .u64 0, .int .i64 a0.f1]) zero52 Try.underlying52 plc52 (by kernel_rfl)) ?_)
    refine RA_step rfl (OA_alloc rfl zero52 fun b7 => ?_)
    refine RA_step rfl (OA_st (b := b7) (m := 0) (k := 2) (vs := [.int .u64 0, .int .i64 a0.f1]) (cs' := [.int .u64 0, .int .i64 a0.f1]) rfl rfl rfl rfl rfl rfl sz52 rfl rfl ?_)
    refine RA_nil ?_
    refine at_normal ?_
    refine SA_seq ?_
    refine SA_seq ?_
    refine SA_region ?_
    refine RA_step rfl (OA_v (v := .pointer (some ((⟨b1, 0, none⟩ : Addr).add 1))) rfl (V_fieldAddrN (B := ⟨b1, 0, none⟩) (m := 0) (o := 1) Try.underlying52 rfl nz3 rfl rfl) ?_)
    refine RA_step rfl (OA_r rfl (VR_load_blk (b := b1) (m := 1) (k := 0) Try.underlying3 rfl rfl rfl rfl) ?_)
    refine RA_step rfl (OA_v (v := .int .i64 0) rfl (V_move rfl) ?_)
    refine RA_nil ?_
    refine at_normal ?_
    obtain ⟨t9, H, Bt9⟩ := g_bind H
    refine SA_mid (fun e ds As => ∃ (b10 : Nat), St [(2, .pointer (some ⟨b3, 0, none⟩)), (4, .pointer (some ⟨b10, 0, none⟩))] [Blk b10 52 [.int .u64 t9.f0, .int .i64 t9.f1], Blk b3 52 [.int .u64 0, .int .i64 0]] e ds As) ?_ ?_
    · refine SA_block ?_
      refine SA_loop (fun k_ e ds As => ∃ (x1_10 : S52) (x4_10 : S52) (x14_10 : Int), ∃ (b11 : Nat), ∃ (b12 : Nat), F49.l0 a0 k_ x1_10 x4_10 x14_10 = some t9 ∧ St [(1, .pointer (some ⟨b11, 0, none⟩)), (2, .pointer (some ⟨b3, 0, none⟩)), (4, .pointer (some ⟨b12, 0, none⟩)), (13, .int .i64 a0.f1), (14, .int .i64 x14_10)] [Blk b11 52 [.int .u64 x1_10.f0, .int .i64 x1_10.f1], Blk b3 52 [.int .u64 0, .int .i64 0], Blk b12 52 [.int .u64 x4_10.f0, .int .i64 x4_10.f1]] e ds As) (k := k) ⟨_, _, _, b1, b7, H, St.mk1 (aeq rfl (aeq rfl (aeq rfl (aeq rfl (aeq rfl aeq0))))) (Gh.sel [0, 1, 2] rfl rfl)⟩ ?_
      clear H
      rintro k13 e ds As ⟨x1_10, x4_10, x14_10, b11, b12, H, hst14⟩
      obtain _ | k13 := k13
      · cases H
      rw [F49.l0] at H
      refine SA.of_St hst14 fun junk => ?_
      refine SA_seq ?_
      refine SA_region ?_
      refine RA_step rfl (OA_v (v := .bool (decide (x14_10 < a0.f1))) rfl (V_lss rfl rfl) ?_)
      refine RA_nil ?_
      refine at_normal ?_
      refine SA_seq ?_
      by_cases h15 : x14_10 < a0.f1
      · replace H := g_ift h15 H
        refine SA_condT rfl h15 ?_
        refine SA_skip ?_
        refine at_normal ?_
        refine SA_seq ?_
        refine SA_block ?_
        refine SA_seq ?_
        refine SA_region ?_
        refine RA_step rfl (OA_v (v := .pointer (some ⟨b12, 0, none⟩)) rfl (V_fieldAddrN (B := ⟨b12, 0, none⟩) (m := 0) (o := 0) Try.underlying52 rfl nz50 rfl rfl) ?_)
        refine RA_step rfl (OA_r rfl (VR_load_blk (b := b12) (m := 0) (k := 2) Try.underlying50 rfl rfl rfl rfl) ?_)
        refine RA_step rfl (OA_v (v := .int .u64 (shlI .u64 x4_10.f0 1)) rfl (V_shl rfl rfl (by decide)) ?_)
        refine RA_step rfl (OA_v (v := .pointer (some ⟨b11, 0, none⟩)) rfl (V_fieldAddrN (B := ⟨b11, 0, none⟩) (m := 0) (o := 0) Try.underlying52 rfl nz50 rfl rfl) ?_)
        refine RA_step rfl (OA_r rfl (VR_load_blk (b := b11) (m := 0) (k := 0) Try.underlying50 rfl rfl rfl rfl) ?_)
        refine RA_step rfl (OA_v (v := .int .u64 (andI .u64 x1_10.f0 1)) rfl (V_and rfl rfl) ?_)
        refine RA_step rfl (OA_v (v := .int .u64 (orI .u64 (shlI .u64 x4_10.f0 1) (andI .u64 x1_10.f0 1))) rfl (V_or rfl rfl) ?_)
        refine RA_step rfl (OA_v (v := .pointer (some ⟨b12, 0, none⟩)) rfl (V_fieldAddrN (B := ⟨b12, 0, none⟩) (m := 0) (o := 0) Try.underlying52 rfl nz50 rfl rfl) ?_)
        refine RA_step rfl (OA_st (b := b12) (m := 0) (k := 2) (vs := [.int .u64 (orI .u64 (shlI .u64 x4_10.f0 1) (andI .u64 x1_10.f0 1))]) (cs' := [.int .u64 (orI .u64 (shlI .u64 x4_10.f0 1) (andI .u64 x1_10.f0 1)), .int .i64 x4_10.f1]) rfl rfl rfl rfl rfl rfl sz50 rfl rfl ?_)
        refine RA_nil ?_
        refine at_normal ?_
        refine SA_region ?_
        refine RA_step rfl (OA_v (v := .pointer (some ⟨b11, 0, none⟩)) rfl (V_fieldAddrN (B := ⟨b11, 0, none⟩) (m := 0) (o := 0) Try.underlying52 rfl nz50 rfl rfl) ?_)
        refine RA_step rfl (OA_r rfl (VR_load_blk (b := b11) (m := 0) (k := 0) Try.underlying50 rfl rfl rfl rfl) ?_)
        refine RA_step rfl (OA_v (v := .int .u64 (shrI .u64 x1_10.f0 1)) rfl (V_shr rfl rfl (by decide)) ?_)
        refine RA_step rfl (OA_v (v := .pointer (some ⟨b11, 0, none⟩)) rfl (V_fieldAddrN (B := ⟨b11, 0, none⟩) (m := 0) (o := 0) Try.underlying52 rfl nz50 rfl rfl) ?_)
        refine RA_step rfl (OA_st (b := b11) (m := 0) (k := 0) (vs := [.int .u64 (shrI .u64 x1_10.f0 1)]) (cs' := [.int .u64 (shrI .u64 x1_10.f0 1), .int .i64 x1_10.f1]) rfl rfl rfl rfl rfl rfl sz50 rfl rfl ?_)
        refine RA_nil ?_
        refine inb_normal ?_
        refine at_normal ?_
        refine SA_region ?_
        refine RA_step rfl (OA_v (v := .int .i64 (IntKind.i64.wrap (x14_10 + 1))) rfl (V_add rfl rfl) ?_)
        refine RA_step rfl (OA_v (v := .int .i64 (IntKind.i64.wrap (x14_10 + 1))) rfl (V_move rfl) ?_)
        refine RA_nil ?_
        exact at_normal ⟨k13, Nat.lt_succ_self _, _, _, _, b11, b12, H, St.mk1 (aeq rfl (aeq rfl (aeq rfl (aeq rfl (aeq rfl aeq0))))) (Gh.sel [0, 1, 2] rfl rfl)⟩
      · replace H := g_iff h15 H
        refine SA_condF rfl h15 ?_
        refine SA_exit ?_
        refine thn_exit ?_
        refine thn_exit ?_
        refine inb_hit ?_
        have hr_ := Option.some.inj H
        subst hr_
        exact at_normal ⟨b12, St.mk1 (aeq rfl (aeq rfl aeq0)) (Gh.sel [2, 1] rfl rfl)⟩
    · rintro e ds As ⟨b10, hst16⟩
      clear H
      have H := Bt9
      clear Bt9
      refine at_normal ?_
      refine SA.of_St hst16 fun junk => ?_
      refine SA_seq ?_
      refine SA_region ?_
      refine RA_step rfl (OA_r rfl (VR_loadA_blk (b := b10) (m := 0) (k := 0) (vs := [.int .u64 t9.f0, .int .i64 t9.f1]) Try.underlying52 rfl sz52 rfl rfl rfl) ?_)
      refine RA_step rfl (OA_st (b := b3) (m := 0) (k := 1) (vs := [.int .u64 t9.f0, .int .i64 t9.f1]) (cs' := [.int .u64 t9.f0, .int .i64 t9.f1]) rfl rfl rfl rfl rfl rfl sz52 rfl rfl ?_)
      refine RA_step rfl (OA_v (v := .int .i64 0) rfl (V_assign rfl) ?_)
      refine RA_nil ?_
      refine at_normal ?_
      refine SA_ret ?_
      have hr_ := Option.some.inj H
      subst hr_
      exact BQ_RL (rs := [.cell 2 52, .tmp 3]) (vs := [.agg #[.int .u64 t9.f0, .int .i64 t9.f1], .int .i64 0]) [] rfl ⟨RV.cell (k := 1) rfl rfl Try.underlying52 rfl sz52, RV.tmp rfl, trivial⟩ rfl (Gh.sel [] rfl rfl) ⟨rfl, rfl⟩

/-! ### function 20: wayfarer/huff.Codes -/
def F20.l0 (r5 : (List S88)) : Nat → (List S52) → Int → Option (Out ((List S52) × Int) ((List S52)))
  | 0, _, _ => none
  | k + 1, x5_13, x18_13 => if x18_13 < (r5.length : Int) then (if 0 ≤ x18_13 ∧ x18_13 < (r5.length : Int) then ((F49.f k (S52.mk ((rd r5 x18_13).f1) ((rd r5 x18_13).f0))).bind (fun r25 => if r25.2 ≠ 0 then (some (Out.ret ((([] : (List S52)), r25.2)))) else (if x5_13.length + ([r25.1] : (List S52)).length ≤ 8796093022208 then lt (x5_13 ++ ([r25.1] : (List S52))) fun n36 => (F20.l0 r5 k n36 (IntKind.i64.wrap (x18_13 + 1))) else none))) else none) else (some (Out.go x5_13))
def F20.f (k : Nat) (l0 : (List Int)) : Option ((List S52) × Int) := (F47.f k l0).bind (fun r2 => if r2 ≠ 0 then (some ((([] : (List S52)), r2))) else ((F48.f k l0).bind (fun r5 => (F20.l0 r5 k ([]) 0 : Option (Out ((List S52) × Int) ((List S52)))).bind (fun t9 => Out.el t9 (fun r_ => some r_) (fun s10 => some ((s10, 0)))))))
set_option maxHeartbeats 2000000 in
set_option maxRecDepth 100000 in
theorem F20.ok {k : Nat} {l0 : (List Int)} {A0 : Option Addr} {c0 : Nat} {r : (List S52) × Int} (H : F20.f k l0 = some r) : SCA Try.prog 20 #[.slice A0 l0.length c0] [Ro (Kd.int .i64) A0 c0 l0] (fun v B => ∃ (A0_0_ : Option Addr) (c0_0_ : Nat), v = .tuple #[.slice A0_0_ r.1.length c0_0_, .int .i64 r.2] ∧ B = [Buf k52 52 A0_0_ c0_0_ r.1]) := by
  refine SCA_of_body Try.func20 rfl rfl ?_
  unfold F20.f at H
  refine SA_seq ?_
  refine SA_region ?_
  refine RA_step rfl (OA_v (v := .slice none 0 0) rfl (V_assign rfl) ?_)
  refine RA_step rfl (OA_v (v := .int .i64 0) rfl (V_assign rfl) ?_)
  refine RA_nil ?_
  refine at_normal ?_
  refine SA_seq ?_
  refine SA_seq ?_
  refine SA_region ?_
  refine RA_step rfl (OA_v (v := .slice A0 l0.length c0) rfl (V_move rfl) ?_)
  obtain ⟨r2, C40, H⟩ := g_bind H
  refine RA_step rfl (OA_callA [0] [0] rfl (X_fn (vs := [.slice A0 l0.length c0]) Try.func47 nm47 rfl rfl) rfl (F47.ok (l0 := l0) (A0 := A0) (c0 := c0) C40) rfl ?_)
  rintro _ _ ⟨rfl, rfl⟩
  refine RA_step rfl (OA_v (v := .int .i64 r2) rfl (V_assign rfl) ?_)
  refine RA_nil ?_
  refine at_normal ?_
  refine SA_seq ?_
  refine SA_region ?_
  refine RA_step rfl (OA_v (v := .int .i64 r2) rfl (V_move rfl) ?_)
  refine RA_step rfl (OA_v (v := .bool (decide (r2 ≠ 0))) rfl (V_neq rfl rfl) ?_)
  refine RA_nil ?_
  refine at_normal ?_
  by_cases h3 : r2 ≠ 0
  · replace H := g_ift h3 H
    refine SA_condT rfl h3 ?_
    refine SA_seq ?_
    refine SA_region ?_
    refine RA_step rfl (OA_v (v := .int .i64 r2) rfl (V_move rfl) ?_)
    refine RA_step rfl (OA_v (v := .slice none 0 0) rfl (V_assign rfl) ?_)
    refine RA_step rfl (OA_v (v := .int .i64 r2) rfl (V_assign rfl) ?_)
    refine RA_nil ?_
    refine at_normal ?_
    refine SA_ret ?_
    refine thn_ret ?_
    have hr_ := Option.some.inj H
    subst hr_
    exact BQ_R2 [Buf k52 52 none 0 ([] : (List S52))] rfl rfl rfl ((Gh.nilBuf k52 52).trans (Gh.sel [1] rfl rfl)) ⟨none, 0, rfl, rfl⟩
  · replace H := g_iff h3 H
    refine SA_condF rfl h3 ?_
    refine SA_skip ?_
    refine at_normal ?_
    refine SA_seq ?_
    refine SA_region ?_
    refine RA_step rfl (OA_v (v := .slice none 0 0) rfl (V_assign rfl) ?_)
    refine RA_nil ?_
    refine at_normal ?_
    refine SA_seq ?_
    refine SA_seq ?_
    refine SA_region ?_
    refine RA_step rfl (OA_v (v := .slice A0 l0.length c0) rfl (V_move rfl) ?_)
    obtain ⟨r5, C39, H⟩ := g_bind H
    refine RA_step rfl (OA_callA [0] [0] rfl (X_fn (vs := [.slice A0 l0.length c0]) Try.func48 nm48 rfl rfl) rfl (F48.ok (l0 := l0) (A0 := A0) (c0 := c0) C39) rfl ?_)
    rintro _ _ ⟨A6, c7, rfl, rfl⟩
    refine RA_step rfl (OA_v (v := .int .i64 (r5.length : Int)) rfl (V_len Try.underlying85 rfl) ?_)
    refine RA_step rfl (OA_v (v := .int .i64 0) rfl (V_move rfl) ?_)
    refine RA_nil ?_
    refine at_normal ?_
    obtain ⟨t9, H, Bt9⟩ := g_bind H
    refine SA_mid (fun e ds As => ∃ (s10 : (List S52)), t9 = Out.go s10 ∧ ∃ (A11 : Option Addr) (c12 : Nat), St [(5, .slice A11 s10.length c12)] [Buf k52 52 A11 c12 s10] e ds As) ?_ ?_
    · refine SA_block ?_
      refine SA_loop (fun k_ e ds As => ∃ (x5_13 : (List S52)) (x18_13 : Int), ∃ (A14 : Option Addr) (c15 : Nat), F20.l0 r5 k_ x5_13 x18_13 = some t9 ∧ St [(5, .slice A14 x5_13.length c15), (16, .slice A6 r5.length c7), (17, .int .i64 (r5.length : Int)), (18, .int .i64 x18_13)] [Buf k52 52 A14 c15 x5_13, Buf k88 88 A6 c7 r5] e ds As) (k := k) ⟨_, _, none, 0, H, St.mk1 (aeq rfl (aeq rfl (aeq rfl (aeq rfl aeq0)))) ((Gh.nilBuf k52 52).trans (Gh.sel [2, 0] rfl rfl))⟩ ?_
      clear H
      rintro k18 e ds As ⟨x5_13, x18_13, A14, c15, H, hst19⟩
      obtain _ | k18 := k18
      · cases H
      rw [F20.l0] at H
      refine SA.of_St hst19 fun junk => ?_
      refine SA_seq ?_
      refine SA_region ?_
      refine RA_step rfl (OA_v (v := .bool (decide (x18_13 < (r5.length : Int)))) rfl (V_lss rfl rfl) ?_)
      refine RA_nil ?_
      refine at_normal ?_
      refine SA_seq ?_
      by_cases h20 : x18_13 < (r5.length : Int)
      · replace H := g_ift h20 H
        refine SA_condT rfl h20 ?_
        refine SA_skip ?_
        refine at_normal ?_
        refine SA_seq ?_
        refine SA_block ?_
        refine SA_seq ?_
        refine SA_region ?_
        obtain ⟨⟨g21, g22⟩, H⟩ := g_pos H
        refine RA_step rfl (OA_r rfl (VR_index (i := x18_13) Try.underlying85 sz88 rfl rfl (Src.buf (k := 1) rfl) g21 g22) ?_)
        refine RA_step rfl (OA_r rfl (VR_loadA_el (enc := enc88) (i := x18_13) (j := x18_13.toNat * 2) (m := 0) (sz := 2) (vs := [.int .i64 ((rd r5 x18_13).f0), .int .u64 ((rd r5 x18_13).f1)]) Try.underlying88 rfl sz88 rfl rfl rfl (Src.buf (k := 1) rfl) g21 g22 (fun _ _ h => h) rfl) ?_)
        refine RA_step rfl (OA_alloc rfl zero88 fun b23 => ?_)
        refine RA_step rfl (OA_st (b := b23) (m := 0) (k := 2) (vs := [.int .i64 ((rd r5 x18_13).f0), .int .u64 ((rd r5 x18_13).f1)]) (cs' := [.int .i64 ((rd r5 x18_13).f0), .int .u64 ((rd r5 x18_13).f1)]) rfl rfl rfl rfl rfl rfl sz88 rfl rfl ?_)
        refine RA_nil ?_
        refine at_normal ?_
        refine SA_seq ?_
        refine SA_region ?_
        refine RA_step rfl (OA_v (v := .pointer (some ((⟨b23, 0, none⟩ : Addr).add 1))) rfl (V_fieldAddrN (B := ⟨b23, 0, none⟩) (m := 0) (o := 1) Try.underlying88 rfl nz50 rfl rfl) ?_)
        refine RA_step rfl (OA_r rfl (VR_load_blk (b := b23) (m := 1) (k := 2) Try.underlying50 rfl rfl rfl rfl) ?_)
        refine RA_step rfl (OA_v (v := .pointer (some ⟨b23, 0, none⟩)) rfl (V_fieldAddrN (B := ⟨b23, 0, none⟩) (m := 0) (o := 0) Try.underlying88 rfl nz3 rfl rfl) ?_)
        refine RA_step rfl (OA_r rfl (VR_load_blk (b := b23) (m := 0) (k := 2) Try.underlying3 rfl rfl rfl rfl) ?_)
        refine RA_step rfl (OA_v (v := .agg #[.int .u64 ((rd r5 x18_13).f1), .int .i64 ((rd r5 x18_13).f0)]) rfl (V_build (cells := [.int .u64 ((rd r5 x18_13).f1), .int .i64 ((rd r5 x18_13).f0)]) zero52 Try.underlying52 plc52 (by kernel_rfl)) ?_)
        obtain ⟨r25, C37, H⟩ := g_bind H
        refine RA_step rfl (OA_callA [] [0, 1, 2] rfl (X_fn (vs := [.agg #[.int .u64 ((rd r5 x18_13).f1), .int .i64 ((rd r5 x18_13).f0)]]) Try.func49 nm49 rfl rfl) rfl (F49.ok (a0 := (S52.mk ((rd r5 x18_13).f1) ((rd r5 x18_13).f0))) C37) rfl ?_)
        rintro _ _ ⟨rfl, rfl⟩
        refine RA_step rfl (OA_v (v := .tuple #[.agg #[.int .u64 r25.1.f0, .int .i64 r25.1.f1], .int .i64 r25.2]) rfl (V_move rfl) ?_)
        refine RA_step rfl (OA_v (v := .agg #[.int .u64 r25.1.f0, .int .i64 r25.1.f1]) rfl (V_extract rfl rfl) ?_)
        refine RA_step rfl (OA_v (v := .int .i64 r25.2) rfl (V_extract rfl rfl) ?_)
        refine RA_step rfl (OA_alloc rfl zero52 fun b26 => ?_)
        refine RA_step rfl (OA_st (b := b26) (m := 0) (k := 3) (vs := [.int .u64 r25.1.f0, .int .i64 r25.1.f1]) (cs' := [.int .u64 r25.1.f0, .int .i64 r25.1.f1]) rfl rfl rfl rfl rfl rfl sz52 rfl rfl ?_)
        refine RA_step rfl (OA_v (v := .int .i64 r25.2) rfl (V_assign rfl) ?_)
        refine RA_nil ?_
        refine at_normal ?_
        refine SA_seq ?_
        refine SA_seq ?_
        refine SA_region ?_
        refine RA_step rfl (OA_v (v := .int .i64 r25.2) rfl (V_move rfl) ?_)
        refine RA_step rfl (OA_v (v := .bool (decide (r25.2 ≠ 0))) rfl (V_neq rfl rfl) ?_)
        refine RA_nil ?_
        refine at_normal ?_
        by_cases h28 : r25.2 ≠ 0
        · replace H := g_ift h28 H
          refine SA_condT rfl h28 ?_
          refine SA_seq ?_
          refine SA_region ?_
          refine RA_step rfl (OA_v (v := .int .i64 r25.2) rfl (V_move rfl) ?_)
          refine RA_step rfl (OA_v (v := .slice none 0 0) rfl (V_assign rfl) ?_)
          refine RA_step rfl (OA_v (v := .int .i64 r25.2) rfl (V_assign rfl) ?_)
          refine RA_nil ?_
          refine at_normal ?_
          refine SA_ret ?_
          refine thn_ret ?_
          refine inb_ret ?_
          refine thn_ret ?_
          refine thn_ret ?_
          refine inb_ret ?_
          refine thn_ret ?_
          refine thn_ret ?_
          have hr_ := Option.some.inj H
          subst hr_
          have hb_ := el_ret Bt9
          have hr_ := Option.some.inj hb_
          clear hb_
          subst hr_
          exact BQ_R2 [Buf k52 52 none 0 ([] : (List S52))] rfl rfl rfl ((Gh.nilBuf k52 52).trans (Gh.sel [4] rfl rfl)) ⟨none, 0, rfl, rfl⟩
        · replace H := g_iff h28 H
          refine SA_condF rfl h28 ?_
          refine SA_skip ?_
          refine at_normal ?_
          refine SA_region ?_
          refine RA_step rfl (OA_v (v := .slice A14 x5_13.length c15) rfl (V_move rfl) ?_)
          refine RA_step rfl (OA_r rfl (VR_loadA_blk (b := b26) (m := 0) (k := 3) (vs := [.int .u64 r25.1.f0, .int .i64 r25.1.f1]) Try.underlying52 rfl sz52 rfl rfl rfl) ?_)
          refine RA_step rfl (OA_bs (kd := k52) (zv := (.agg #[.int .u64 0, .int .i64 0])) (sz := 2) (cells := [.int .u64 r25.1.f0, .int .i64 r25.1.f1]) (xs := ([r25.1] : (List S52))) rfl Try.underlying35 zero52 sz52 rfl rfl rfl (by kernel_rfl) rfl rfl (RL_enc enc52 (fun _ _ => rfl) (by kernel_rfl)) fun b30 => ?_)
          obtain ⟨g33, H⟩ := g_pos H
          obtain ⟨n36, hn36, H⟩ := g_lt H
          refine RA_step rfl (OA_app (k := 0) (A := A14) (c := c15) (xs := x5_13) (ys := ([r25.1] : (List S52))) n36 hn36 rfl Try.underlying35 inf52 rfl rfl rfl rfl rfl (Yld.slice Try.underlying35 (Src.buf (k := 4) rfl)) (by omega) (by omega) fun A34 c35 => ?_)
          refine RA_step rfl (OA_v (v := .slice A34 n36.length c35) rfl (V_assign rfl) ?_)
          refine RA_nil ?_
          refine inb_normal ?_
          refine at_normal ?_
          refine SA_region ?_
          refine RA_step rfl (OA_v (v := .int .i64 (IntKind.i64.wrap (x18_13 + 1))) rfl (V_add rfl rfl) ?_)
          refine RA_step rfl (OA_v (v := .int .i64 (IntKind.i64.wrap (x18_13 + 1))) rfl (V_move rfl) ?_)
          refine RA_nil ?_
          exact at_normal ⟨k18, Nat.lt_succ_self _, _, _, A34, c35, H, St.mk1 (aeq rfl (aeq rfl (aeq rfl (aeq rfl aeq0)))) (Gh.sel [0, 1] rfl rfl)⟩
      · replace H := g_iff h20 H
        refine SA_condF rfl h20 ?_
        refine SA_exit ?_
        refine thn_exit ?_
        refine thn_exit ?_
        refine inb_hit ?_
        have hr_ := Option.some.inj H
        subst hr_
        exact at_normal ⟨x5_13, rfl, A14, c15, St.mk1 (aeq rfl aeq0) (Gh.sel [0] rfl rfl)⟩
    · rintro e ds As ⟨s10, ht, A11, c12, hst38⟩
      clear H
      subst ht
      replace Bt9 := el_go Bt9
      have H := Bt9
      clear Bt9
      refine at_normal ?_
      refine SA.of_St hst38 fun junk => ?_
      refine SA_seq ?_
      refine SA_region ?_
      refine RA_step rfl (OA_v (v := .slice A11 s10.length c12) rfl (V_move rfl) ?_)
      refine RA_step rfl (OA_v (v := .slice A11 s10.length c12) rfl (V_assign rfl) ?_)
      refine RA_step rfl (OA_v (v := .int .i64 0) rfl (V_assign rfl) ?_)
      refine RA_nil ?_
      refine at_normal ?_
      refine SA_ret ?_
      have hr_ := Option.some.inj H
      subst hr_
      exact BQ_R2 [Buf k52 52 A11 c12 s10] rfl rfl rfl (Gh.sel [0] rfl rfl) ⟨A11, c12, rfl, rfl⟩

/-! ### function 23: wayfarer/wayfarerref04.Weight -/
def F23.l0 (l0 : (List Int)) : Nat → Int → Int → Option (Out (Int × Int) (Int))
  | 0, _, _ => none
  | k + 1, x4_3, x5_3 => if x5_3 < (l0.length : Int) then (if 0 ≤ x5_3 ∧ x5_3 < (l0.length : Int) then ((if (rd l0 x5_3) < 0 then (some true) else (if 0 ≤ x5_3 ∧ x5_3 < (l0.length : Int) then (some (decide ((rd l0 x5_3) > 15))) else none) : Option Bool).bind (fun q9 => if q9 = true then (some (Out.ret ((0, 2)))) else (if 0 ≤ x5_3 ∧ x5_3 < (l0.length : Int) then (if (rd l0 x5_3) > 0 then (if 0 ≤ x5_3 ∧ x5_3 < (l0.length : Int) then (if 0 ≤ (IntKind.u64.wrap (IntKind.i64.wrap (15 - (rd l0 x5_3)))) then (lt (IntKind.i64.wrap (x4_3 + (shlI .i64 1 (IntKind.u64.wrap (IntKind.i64.wrap (15 - (rd l0 x5_3))))))) fun n21 => lt (IntKind.i64.wrap (x5_3 + 1)) fun n22 => F23.l0 l0 k n21 n22) else none) else none) else (lt (IntKind.i64.wrap (x5_3 + 1)) fun n23 => F23.l0 l0 k x4_3 n23)) else none))) else none) else (some (Out.go x4_3))
def F23.f (k : Nat) (l0 : (List Int)) : Option (Int × Int) := (F23.l0 l0 k 0 0 : Option (Out (Int × Int) (Int))).bind (fun t2 => Out.el t2 (fun r_ => some r_) (fun s3 => if (l0.length : Int) > 512 then (some ((0, 4))) else (some ((s3, 0)))))
set_option maxHeartbeats 2000000 in
set_option maxRecDepth 100000 in
theorem F23.ok {k : Nat} {l0 : (List Int)} {A0 : Option Addr} {c0 : Nat} {r : Int × Int} (H : F23.f k l0 = some r) : SCA Try.prog 23 #[.slice A0 l0.length c0] [Ro (Kd.int .i64) A0 c0 l0] (fun v B => v = .tuple #[.int .i64 r.1, .int .i64 r.2] ∧ B = []) := by
  refine SCA_of_body Try.func23 rfl rfl ?_
  unfold F23.f at H
  refine SA_seq ?_
  refine SA_region ?_
  refine RA_step rfl (OA_v (v := .int .i64 0) rfl (V_assign rfl) ?_)
  refine RA_step rfl (OA_v (v := .int .i64 0) rfl (V_assign rfl) ?_)
  refine RA_nil ?_
  refine at_normal ?_
  refine SA_seq ?_
  refine SA_region ?_
  refine RA_step rfl (OA_v (v := .int .i64 0) rfl (V_assign rfl) ?_)
  refine RA_nil ?_
  refine at_normal ?_
  refine SA_seq ?_
  refine SA_seq ?_
  refine SA_region ?_
  refine RA_step rfl (OA_v (v := .int .i64 0) rfl (V_assign rfl) ?_)
  refine RA_nil ?_
  refine at_normal ?_
  obtain ⟨t2, H, Bt2⟩ := g_bind H
  refine SA_mid (fun e ds As => ∃ (s3 : Int), t2 = Out.go s3 ∧ St [(0, .slice A0 l0.length c0), (4, .int .i64 s3)] [Ro (Kd.int .i64) A0 c0 l0] e ds As) ?_ ?_
  · refine SA_block ?_
    refine SA_loop (fun k_ e ds As => ∃ (x4_3 : Int) (x5_3 : Int), F23.l0 l0 k_ x4_3 x5_3 = some t2 ∧ St [(0, .slice A0 l0.length c0), (4, .int .i64 x4_3), (5, .int .i64 x5_3)] [Ro (Kd.int .i64) A0 c0 l0] e ds As) (k := k) ⟨_, _, H, St.mk1 (aeq rfl (aeq rfl (aeq rfl aeq0))) (Gh.sel [0] rfl rfl)⟩ ?_
    clear H
    rintro k4 e ds As ⟨x4_3, x5_3, H, hst5⟩
    obtain _ | k4 := k4
    · cases H
    rw [F23.l0] at H
    refine SA.of_St hst5 fun junk => ?_
    refine SA_seq ?_
    refine SA_seq ?_
    refine SA_region ?_
    refine RA_step rfl (OA_v (v := .int .i64 x5_3) rfl (V_move rfl) ?_)
    refine RA_step rfl (OA_v (v := .slice A0 l0.length c0) rfl (V_move rfl) ?_)
    refine RA_step rfl (OA_v (v := .int .i64 (l0.length : Int)) rfl (V_len Try.underlying34 rfl) ?_)
    refine RA_step rfl (OA_v (v := .bool (decide (x5_3 < (l0.length : Int)))) rfl (V_lss rfl rfl) ?_)
    refine RA_nil ?_
    refine at_normal ?_
    by_cases h6 : x5_3 < (l0.length : Int)
    · replace H := g_ift h6 H
      refine SA_condT rfl h6 ?_
      refine SA_skip ?_
      refine at_normal ?_
      refine SA_seq ?_
      refine SA_block ?_
      refine SA_seq ?_
      refine SA_seq ?_
      refine SA_region ?_
      refine RA_step rfl (OA_v (v := .slice A0 l0.length c0) rfl (V_move rfl) ?_)
      refine RA_step rfl (OA_v (v := .int .i64 x5_3) rfl (V_move rfl) ?_)
      obtain ⟨⟨g7, g8⟩, H⟩ := g_pos H
      refine RA_step rfl (OA_r rfl (VR_index (i := x5_3) Try.underlying34 sz3 rfl rfl (Src.ro (k := 0) rfl) g7 g8) ?_)
      refine RA_step rfl (OA_r rfl (VR_load_el (enc := (fun x_ : Int => [Value.int .i64 x_])) (i := x5_3) (j := x5_3.toNat * 1) (m := 0) (sz := 1) Try.underlying3 rfl rfl rfl rfl (Src.ro (k := 0) rfl) g7 g8 (fun _ _ h => h) rfl) ?_)
      refine RA_step rfl (OA_v (v := .bool (decide ((rd l0 x5_3) < 0))) rfl (V_lss rfl rfl) ?_)
      refine RA_step rfl (OA_v (v := .bool (decide ((rd l0 x5_3) < 0))) rfl (V_move rfl) ?_)
      obtain ⟨q9, H, Bq9⟩ := g_bind H
      refine RA_cut 6 (fun e ds As => St [(0, .slice A0 l0.length c0), (4, .int .i64 x4_3), (5, .int .i64 x5_3), (23, .bool q9)] [Ro (Kd.int .i64) A0 c0 l0] e ds As) ?_ ?_
      · by_cases h10 : (rd l0 x5_3) < 0
        · replace H := g_ift h10 H
          refine RA_noB rfl rfl rfl rfl (dec_t h10) rfl ?_
          refine RA_noB rfl rfl rfl rfl (dec_t h10) rfl ?_
          refine RA_noB rfl rfl rfl rfl (dec_t h10) rfl ?_
          refine RA_noB rfl rfl rfl rfl (dec_t h10) rfl ?_
          refine RA_noB rfl rfl rfl rfl (dec_t h10) rfl ?_
          refine RA_step rfl (OA_v rfl (V_pickT rfl (dec_t h10) rfl) ?_)
          have hr_ := Option.some.inj H
          subst hr_
          refine RA_nil ?_
          exact at_normal (St.mk1 (aeq rfl (aeq rfl (aeq rfl (aeq rfl aeq0)))) (Gh.sel [0] rfl rfl))
        · replace H := g_iff h10 H
          refine RA_yesB rfl rfl rfl rfl (dec_f h10) (OA_v (v := .slice A0 l0.length c0) rfl (V_move rfl) ?_)
          refine RA_yesB rfl rfl rfl rfl (dec_f h10) (OA_v (v := .int .i64 x5_3) rfl (V_move rfl) ?_)
          obtain ⟨⟨g11, g12⟩, H⟩ := g_pos H
          refine RA_yesB rfl rfl rfl rfl (dec_f h10) (OA_r rfl (VR_index (i := x5_3) Try.underlying34 sz3 rfl rfl (Src.ro (k := 0) rfl) g11 g12) ?_)
          refine RA_yesB rfl rfl rfl rfl (dec_f h10) (OA_r rfl (VR_load_el (enc := (fun x_ : Int => [Value.int .i64 x_])) (i := x5_3) (j := x5_3.toNat * 1) (m := 0) (sz := 1) Try.underlying3 rfl rfl rfl rfl (Src.ro (k := 0) rfl) g11 g12 (fun _ _ h => h) rfl) ?_)
          refine RA_yesB rfl rfl rfl rfl (dec_f h10) (OA_v (v := .bool (decide ((rd l0 x5_3) > 15))) rfl (V_gtr rfl rfl) ?_)
          refine RA_step rfl (OA_v rfl (V_pickF rfl (dec_f h10) rfl) ?_)
          have hr_ := Option.some.inj H
          subst hr_
          refine RA_nil ?_
          exact at_normal (St.mk1 (aeq rfl (aeq rfl (aeq rfl (aeq rfl aeq0)))) (Gh.sel [0] rfl rfl))
      · rintro e ds As hst13
        clear H
        have H := Bq9
        clear Bq9
        refine RA_nil ?_
        refine at_normal ?_
        refine SA.of_St hst13 fun junk => ?_
        by_cases h14 : q9 = true
        · replace H := g_ift h14 H
          refine SA_condTb rfl h14 ?_
          refine SA_seq ?_
          refine SA_region ?_
          refine RA_step rfl (OA_v (v := .int .i64 0) rfl (V_assign rfl) ?_)
          refine RA_step rfl (OA_v (v := .int .i64 2) rfl (V_assign rfl) ?_)
          refine RA_nil ?_
          refine at_normal ?_
          refine SA_ret ?_
          refine thn_ret ?_
          refine inb_ret ?_
          refine thn_ret ?_
          refine thn_ret ?_
          refine inb_ret ?_
          refine thn_ret ?_
          refine thn_ret ?_
          have hr_ := Option.some.inj H
          subst hr_
          have hb_ := el_ret Bt2
          have hr_ := Option.some.inj hb_
          clear hb_
          subst hr_
          exact BQ_R2 [] rfl rfl rfl (Gh.sel [] rfl rfl) ⟨rfl, rfl⟩
        · replace H := g_iff h14 H
          refine SA_condFb rfl h14 ?_
          refine SA_skip ?_
          refine at_normal ?_
          refine SA_seq ?_
          refine SA_region ?_
          refine RA_step rfl (OA_v (v := .slice A0 l0.length c0) rfl (V_move rfl) ?_)
          refine RA_step rfl (OA_v (v := .int .i64 x5_3) rfl (V_move rfl) ?_)
          obtain ⟨⟨g15, g16⟩, H⟩ := g_pos H
          refine RA_step rfl (OA_r rfl (VR_index (i := x5_3) Try.underlying34 sz3 rfl rfl (Src.ro (k := 0) rfl) g15 g16) ?_)
          refine RA_step rfl (OA_r rfl (VR_load_el (enc := (fun x_ : Int => [Value.int .i64 x_])) (i := x5_3) (j := x5_3.toNat * 1) (m := 0) (sz := 1) Try.underlying3 rfl rfl rfl rfl (Src.ro (k := 0) rfl) g15 g16 (fun _ _ h => h) rfl) ?_)
          refine RA_step rfl (OA_v (v := .bool (decide ((rd l0 x5_3) > 0))) rfl (V_gtr rfl rfl) ?_)
          refine RA_nil ?_
          refine at_normal ?_
          by_cases h17 : (rd l0 x5_3) > 0
          · replace H := g_ift h17 H
            refine SA_condT rfl h17 ?_
            refine SA_region ?_
            refine RA_step rfl (OA_v (v := .int .i64 x4_3) rfl (V_move rfl) ?_)
            refine RA_step rfl (OA_v (v := .slice A0 l0.length c0) rfl (V_move rfl) ?_)
            refine RA_step rfl (OA_v (v := .int .i64 x5_3) rfl (V_move rfl) ?_)
            obtain ⟨⟨g18, g19⟩, H⟩ := g_pos H
            refine RA_step rfl (OA_r rfl (VR_index (i := x5_3) Try.underlying34 sz3 rfl rfl (Src.ro (k := 0) rfl) g18 g19) ?_)
            refine RA_step rfl (OA_r rfl (VR_load_el (enc := (fun x_ : Int => [Value.int .i64 x_])) (i := x5_3) (j := x5_3.toNat * 1) (m := 0) (sz := 1) Try.underlying3 rfl rfl rfl rfl (Src.ro (k := 0) rfl) g18 g19 (fun _ _ h => h) rfl) ?_)
            refine RA_step rfl (OA_v (v := .int .i64 (IntKind.i64.wrap (15 - (rd l0 x5_3)))) rfl (V_sub rfl rfl) ?_)
            refine RA_step rfl (OA_v (v := .int .u64 (IntKind.u64.wrap (IntKind.i64.wrap (15 - (rd l0 x5_3))))) rfl (V_conv (T := 3) (by kernel_rfl) Try.underlying53 rfl) ?_)
            obtain ⟨g20, H⟩ := g_pos H
            refine RA_step rfl (OA_v (v := .int .i64 (shlI .i64 1 (IntKind.u64.wrap (IntKind.i64.wrap (15 - (rd l0 x5_3)))))) rfl (V_shl rfl rfl g20) ?_)
            refine RA_step rfl (OA_v (v := .int .i64 (IntKind.i64.wrap (x4_3 + (shlI .i64 1 (IntKind.u64.wrap (IntKind.i64.wrap (15 - (rd l0 x5_3)))))))) rfl (V_add rfl rfl) ?_)
            obtain ⟨n21, hn21, H⟩ := g_lt H
            refine RA_step rfl (OA_v (v := .int .i64 n21) rfl (V_assign (v := .int .i64 n21) (congrArg (Value.int .i64) hn21.symm)) ?_)
            refine RA_nil ?_
            refine inb_normal ?_
            refine at_normal ?_
            refine SA_region ?_
            refine RA_step rfl (OA_v (v := .int .i64 x5_3) rfl (V_move rfl) ?_)
            refine RA_step rfl (OA_v (v := .int .i64 (IntKind.i64.wrap (x5_3 + 1))) rfl (V_add rfl rfl) ?_)
            obtain ⟨n22, hn22, H⟩ := g_lt H
            refine RA_step rfl (OA_v (v := .int .i64 n22) rfl (V_assign (v := .int .i64 n22) (congrArg (Value.int .i64) hn22.symm)) ?_)
            refine RA_nil ?_
            exact at_normal ⟨k4, Nat.lt_succ_self _, _, _, H, St.mk1 (aeq rfl (aeq rfl (aeq rfl aeq0))) (Gh.sel [0] rfl rfl)⟩
          · replace H := g_iff h17 H
            refine SA_condF rfl h17 ?_
            refine SA_skip ?_
            refine inb_normal ?_
            refine at_normal ?_
            refine SA_region ?_
            refine RA_step rfl (OA_v (v := .int .i64 x5_3) rfl (V_move rfl) ?_)
            refine RA_step rfl (OA_v (v := .int .i64 (IntKind.i64.wrap (x5_3 + 1))) rfl (V_add rfl rfl) ?_)
            obtain ⟨n23, hn23, H⟩ := g_lt H
            refine RA_step rfl (OA_v (v := .int .i64 n23) rfl (V_assign (v := .int .i64 n23) (congrArg (Value.int .i64) hn23.symm)) ?_)
            refine RA_nil ?_
            exact at_normal ⟨k4, Nat.lt_succ_self _, _, _, H, St.mk1 (aeq rfl (aeq rfl (aeq rfl aeq0))) (Gh.sel [0] rfl rfl)⟩
    · replace H := g_iff h6 H
      refine SA_condF rfl h6 ?_
      refine SA_exit ?_
      refine thn_exit ?_
      refine thn_exit ?_
      refine inb_hit ?_
      have hr_ := Option.some.inj H
      subst hr_
      exact at_normal ⟨x4_3, rfl, St.mk1 (aeq rfl (aeq rfl aeq0)) (Gh.sel [0] rfl rfl)⟩
  · rintro e ds As ⟨s3, ht, hst24⟩
    clear H
    subst ht
    replace Bt2 := el_go Bt2
    have H := Bt2
    clear Bt2
    refine at_normal ?_
    refine SA.of_St hst24 fun junk => ?_
    refine SA_seq ?_
    refine SA_seq ?_
    refine SA_region ?_
    refine RA_step rfl (OA_v (v := .slice A0 l0.length c0) rfl (V_move rfl) ?_)
    refine RA_step rfl (OA_v (v := .int .i64 (l0.length : Int)) rfl (V_len Try.underlying34 rfl) ?_)
    refine RA_step rfl (OA_v (v := .bool (decide ((l0.length : Int) > 512))) rfl (V_gtr rfl rfl) ?_)
    refine RA_nil ?_
    refine at_normal ?_
    by_cases h25 : (l0.length : Int) > 512
    · replace H := g_ift h25 H
      refine SA_condT rfl h25 ?_
      refine SA_seq ?_
      refine SA_region ?_
      refine RA_step rfl (OA_v (v := .int .i64 0) rfl (V_assign rfl) ?_)
      refine RA_step rfl (OA_v (v := .int .i64 4) rfl (V_assign rfl) ?_)
      refine RA_nil ?_
      refine at_normal ?_
      refine SA_ret ?_
      refine thn_ret ?_
      have hr_ := Option.some.inj H
      subst hr_
      exact BQ_R2 [] rfl rfl rfl (Gh.sel [] rfl rfl) ⟨rfl, rfl⟩
    · replace H := g_iff h25 H
      refine SA_condF rfl h25 ?_
      refine SA_skip ?_
      refine at_normal ?_
      refine SA_seq ?_
      refine SA_region ?_
      refine RA_step rfl (OA_v (v := .int .i64 s3) rfl (V_move rfl) ?_)
      refine RA_step rfl (OA_v (v := .int .i64 s3) rfl (V_assign rfl) ?_)
      refine RA_step rfl (OA_v (v := .int .i64 0) rfl (V_assign rfl) ?_)
      refine RA_nil ?_
      refine at_normal ?_
      refine SA_ret ?_
      have hr_ := Option.some.inj H
      subst hr_
      exact BQ_R2 [] rfl rfl rfl (Gh.sel [] rfl rfl) ⟨rfl, rfl⟩

/-! ### function 43: wayfarer/wayfarerref04.Bad -/
def F43.l0 (l0 : (List Int)) : Nat → Int → Int → Option (Int)
  | 0, _, _ => none
  | k + 1, x3_8, x5_8 => if x5_8 < (l0.length : Int) then (if 0 ≤ x5_8 ∧ x5_8 < (l0.length : Int) then (if (rd l0 x5_8) > 0 then (if 0 ≤ x5_8 ∧ x5_8 < (l0.length : Int) then (if 0 ≤ (IntKind.u64.wrap (IntKind.i64.wrap (15 - (rd l0 x5_8)))) then (lt (IntKind.i64.wrap (x3_8 + (shlI .i64 1 (IntKind.u64.wrap (IntKind.i64.wrap (15 - (rd l0 x5_8))))))) fun n18 => lt (IntKind.i64.wrap (x5_8 + 1)) fun n19 => F43.l0 l0 k n18 n19) else none) else none) else (lt (IntKind.i64.wrap (x5_8 + 1)) fun n20 => F43.l0 l0 k x3_8 n20)) else none) else (some x3_8)
def F43.f (k : Nat) (l0 : (List Int)) : Option (Int) := (F23.f k l0).bind (fun r2 => lt ((decide (r2.2 = 2)) || (decide (r2.1 > 32768))) fun q3 => if q3 = true then (some (2)) else (if r2.2 = 0 then (some (0)) else ((F43.l0 l0 k 0 0 : Option (Int)).bind (fun t8 => if t8 > 32768 then (some (2)) else (some (r2.2))))))
set_option maxHeartbeats 2000000 in
set_option maxRecDepth 100000 in
theorem F43.ok {k : Nat} {l0 : (List Int)} {A0 : Option Addr} {c0 : Nat} {r : Int} (H : F43.f k l0 = some r) : SCA Try.prog 43 #[.slice A0 l0.length c0] [Ro (Kd.int .i64) A0 c0 l0] (fun v B => v = .int .i64 r ∧ B = []) := by
  refine SCA_of_body Try.func43 rfl rfl ?_
  unfold F43.f at H
  refine SA_seq ?_
  refine SA_region ?_
  refine RA_step rfl (OA_v (v := .int .i64 0) rfl (V_assign rfl) ?_)
  refine RA_nil ?_
  refine at_normal ?_
  refine SA_seq ?_
  refine SA_region ?_
  refine RA_step rfl (OA_v (v := .slice A0 l0.length c0) rfl (V_move rfl) ?_)
  obtain ⟨r2, C23, H⟩ := g_bind H
  refine RA_step rfl (OA_callA [0] [0] rfl (X_fn (vs := [.slice A0 l0.length c0]) Try.func23 nm23 rfl rfl) rfl (F23.ok (l0 := l0) (A0 := A0) (c0 := c0) C23) rfl ?_)
  rintro _ _ ⟨rfl, rfl⟩
  refine RA_step rfl (OA_v (v := .tuple #[.int .i64 r2.1, .int .i64 r2.2]) rfl (V_move rfl) ?_)
  refine RA_step rfl (OA_v (v := .int .i64 r2.1) rfl (V_extract rfl rfl) ?_)
  refine RA_step rfl (OA_v (v := .int .i64 r2.2) rfl (V_extract rfl rfl) ?_)
  refine RA_step rfl (OA_v (v := .int .i64 r2.1) rfl (V_assign rfl) ?_)
  refine RA_step rfl (OA_v (v := .int .i64 r2.2) rfl (V_assign rfl) ?_)
  refine RA_nil ?_
  refine at_normal ?_
  refine SA_seq ?_
  refine SA_seq ?_
  refine SA_region ?_
  refine RA_step rfl (OA_v (v := .int .i64 r2.2) rfl (V_move rfl) ?_)
  refine RA_step rfl (OA_v (v := .bool (decide (r2.2 = 2))) rfl (V_eql rfl rfl) ?_)
  refine RA_step rfl (OA_v (v := .bool (decide (r2.2 = 2))) rfl (V_move rfl) ?_)
  obtain ⟨q3, hq3, H⟩ := g_lt H
  refine RA_cut 3 (fun e ds As => St [(0, .slice A0 l0.length c0), (4, .int .i64 r2.2), (16, .bool q3)] [Ro (Kd.int .i64) A0 c0 l0] e ds As) ?_ ?_
  · by_cases h4 : r2.2 = 2
    · refine RA_noB rfl rfl rfl rfl (dec_t h4) rfl ?_
      refine RA_noB rfl rfl rfl rfl (dec_t h4) rfl ?_
      refine RA_step rfl (OA_v rfl (V_pickT rfl (dec_t h4) rfl) ?_)
      refine RA_nil ?_
      exact at_normal (St.mk1 (aeq rfl (aeq rfl (aeq (congrArg Value.bool (or_t hq3 (dec_t h4))) aeq0))) (Gh.sel [0] rfl rfl))
    · refine RA_yesB rfl rfl rfl rfl (dec_f h4) (OA_v (v := .int .i64 r2.1) rfl (V_move rfl) ?_)
      refine RA_yesB rfl rfl rfl rfl (dec_f h4) (OA_v (v := .bool (decide (r2.1 > 32768))) rfl (V_gtr rfl rfl) ?_)
      refine RA_step rfl (OA_v rfl (V_pickF rfl (dec_f h4) rfl) ?_)
      refine RA_nil ?_
      exact at_normal (St.mk1 (aeq rfl (aeq rfl (aeq (congrArg Value.bool (or_f hq3 (dec_f h4))) aeq0))) (Gh.sel [0] rfl rfl))
  · rintro e ds As hst5
    refine RA_nil ?_
    refine at_normal ?_
    refine SA.of_St hst5 fun junk => ?_
    by_cases h6 : q3 = true
    · replace H := g_ift h6 H
      refine SA_condTb rfl h6 ?_
      refine SA_seq ?_
      refine SA_region ?_
      refine RA_step rfl (OA_v (v := .int .i64 2) rfl (V_assign rfl) ?_)
      refine RA_nil ?_
      refine at_normal ?_
      refine SA_ret ?_
      refine thn_ret ?_
      have hr_ := Option.some.inj H
      subst hr_
      exact BQ_R1 [] rfl rfl (Gh.sel [] rfl rfl) ⟨rfl, rfl⟩
    · replace H := g_iff h6 H
      refine SA_condFb rfl h6 ?_
      refine SA_skip ?_
      refine at_normal ?_
      refine SA_seq ?_
      refine SA_seq ?_
      refine SA_region ?_
      refine RA_step rfl (OA_v (v := .int .i64 r2.2) rfl (V_move rfl) ?_)
      refine RA_step rfl (OA_v (v := .bool (decide (r2.2 = 0))) rfl (V_eql rfl rfl) ?_)
      refine RA_nil ?_
      refine at_normal ?_
      by_cases h7 : r2.2 = 0
      · replace H := g_ift h7 H
        refine SA_condT rfl h7 ?_
        refine SA_seq ?_
        refine SA_region ?_
        refine RA_step rfl (OA_v (v := .int .i64 0) rfl (V_assign rfl) ?_)
        refine RA_nil ?_
        refine at_normal ?_
        refine SA_ret ?_
        refine thn_ret ?_
        have hr_ := Option.some.inj H
        subst hr_
        exact BQ_R1 [] rfl rfl (Gh.sel [] rfl rfl) ⟨rfl, rfl⟩
      · replace H := g_iff h7 H
        refine SA_condF rfl h7 ?_
        refine SA_skip ?_
        refine at_normal ?_
        refine SA_seq ?_
        refine SA_region ?_
        refine RA_step rfl (OA_v (v := .int .i64 0) rfl (V_assign rfl) ?_)
        refine RA_nil ?_
        refine at_normal ?_
        refine SA_seq ?_
        refine SA_seq ?_
        refine SA_region ?_
        refine RA_step rfl (OA_v (v := .int .i64 0) rfl (V_assign rfl) ?_)
        refine RA_nil ?_
        refine at_normal ?_
        obtain ⟨t8, H, Bt8⟩ := g_bind H
        refine SA_mid (fun e ds As => St [(3, .int .i64 t8), (4, .int .i64 r2.2)] [] e ds As) ?_ ?_
        · refine SA_block ?_
          refine SA_loop (fun k_ e ds As => ∃ (x3_8 : Int) (x5_8 : Int), F43.l0 l0 k_ x3_8 x5_8 = some t8 ∧ St [(0, .slice A0 l0.length c0), (3, .int .i64 x3_8), (4, .int .i64 r2.2), (5, .int .i64 x5_8)] [Ro (Kd.int .i64) A0 c0 l0] e ds As) (k := k) ⟨_, _, H, St.mk1 (aeq rfl (aeq rfl (aeq rfl (aeq rfl aeq0)))) (Gh.sel [0] rfl rfl)⟩ ?_
          clear H
          rintro k9 e ds As ⟨x3_8, x5_8, H, hst10⟩
          obtain _ | k9 := k9
          · cases H
          rw [F43.l0] at H
          refine SA.of_St hst10 fun junk => ?_
          refine SA_seq ?_
          refine SA_seq ?_
          refine SA_region ?_
          refine RA_step rfl (OA_v (v := .int .i64 x5_8) rfl (V_move rfl) ?_)
          refine RA_step rfl (OA_v (v := .slice A0 l0.length c0) rfl (V_move rfl) ?_)
          refine RA_step rfl (OA_v (v := .int .i64 (l0.length : Int)) rfl (V_len Try.underlying34 rfl) ?_)
          refine RA_step rfl (OA_v (v := .bool (decide (x5_8 < (l0.length : Int)))) rfl (V_lss rfl rfl) ?_)
          refine RA_nil ?_
          refine at_normal ?_
          by_cases h11 : x5_8 < (l0.length : Int)
          · replace H := g_ift h11 H
            refine SA_condT rfl h11 ?_
            refine SA_skip ?_
            refine at_normal ?_
            refine SA_seq ?_
            refine SA_block ?_
            refine SA_seq ?_
            refine SA_region ?_
            refine RA_step rfl (OA_v (v := .slice A0 l0.length c0) rfl (V_move rfl) ?_)
            refine RA_step rfl (OA_v (v := .int .i64 x5_8) rfl (V_move rfl) ?_)
            obtain ⟨⟨g12, g13⟩, H⟩ := g_pos H
            refine RA_step rfl (OA_r rfl (VR_index (i := x5_8) Try.underlying34 sz3 rfl rfl (Src.ro (k := 0) rfl) g12 g13) ?_)
            refine RA_step rfl (OA_r rfl (VR_load_el (enc := (fun x_ : Int => [Value.int .i64 x_])) (i := x5_8) (j := x5_8.toNat * 1) (m := 0) (sz := 1) Try.underlying3 rfl rfl rfl rfl (Src.ro (k := 0) rfl) g12 g13 (fun _ _ h => h) rfl) ?_)
            refine RA_step rfl (OA_v (v := .bool (decide ((rd l0 x5_8) > 0))) rfl (V_gtr rfl rfl) ?_)
            refine RA_nil ?_
            refine at_normal ?_
            by_cases h14 : (rd l0 x5_8) > 0
            · replace H := g_ift h14 H
              refine SA_condT rfl h14 ?_
              refine SA_region ?_
              refine RA_step rfl (OA_v (v := .int .i64 x3_8) rfl (V_move rfl) ?_)
              refine RA_step rfl (OA_v (v := .slice A0 l0.length c0) rfl (V_move rfl) ?_)
              refine RA_step rfl (OA_v (v := .int .i64 x5_8) rfl (V_move rfl) ?_)
              obtain ⟨⟨g15, g16⟩, H⟩ := g_pos H
              refine RA_step rfl (OA_r rfl (VR_index (i := x5_8) Try.underlying34 sz3 rfl rfl (Src.ro (k := 0) rfl) g15 g16) ?_)
              refine RA_step rfl (OA_r rfl (VR_load_el (enc := (fun x_ : Int => [Value.int .i64 x_])) (i := x5_8) (j := x5_8.toNat * 1) (m := 0) (sz := 1) Try.underlying3 rfl rfl rfl rfl (Src.ro (k := 0) rfl) g15 g16 (fun _ _ h => h) rfl) ?_)
              refine RA_step rfl (OA_v (v := .int .i64 (IntKind.i64.wrap (15 - (rd l0 x5_8)))) rfl (V_sub rfl rfl) ?_)
              refine RA_step rfl (OA_v (v := .int .u64 (IntKind.u64.wrap (IntKind.i64.wrap (15 - (rd l0 x5_8))))) rfl (V_conv (T := 3) (by kernel_rfl) Try.underlying53 rfl) ?_)
              obtain ⟨g17, H⟩ := g_pos H
              refine RA_step rfl (OA_v (v := .int .i64 (shlI .i64 1 (IntKind.u64.wrap (IntKind.i64.wrap (15 - (rd l0 x5_8)))))) rfl (V_shl rfl rfl g17) ?_)
              refine RA_step rfl (OA_v (v := .int .i64 (IntKind.i64.wrap (x3_8 + (shlI .i64 1 (IntKind.u64.wrap (IntKind.i64.wrap (15 - (rd l0 x5_8)))))))) rfl (V_add rfl rfl) ?_)
              obtain ⟨n18, hn18, H⟩ := g_lt H
              refine RA_step rfl (OA_v (v := .int .i64 n18) rfl (V_assign (v := .int .i64 n18) (congrArg (Value.int .i64) hn18.symm)) ?_)
              refine RA_nil ?_
              refine inb_normal ?_
              refine at_normal ?_
              refine SA_region ?_
              refine RA_step rfl (OA_v (v := .int .i64 x5_8) rfl (V_move rfl) ?_)
              refine RA_step rfl (OA_v (v := .int .i64 (IntKind.i64.wrap (x5_8 + 1))) rfl (V_add rfl rfl) ?_)
              obtain ⟨n19, hn19, H⟩ := g_lt H
              refine RA_step rfl (OA_v (v := .int .i64 n19) rfl (V_assign (v := .int .i64 n19) (congrArg (Value.int .i64) hn19.symm)) ?_)
              refine RA_nil ?_
              exact at_normal ⟨k9, Nat.lt_succ_self _, _, _, H, St.mk1 (aeq rfl (aeq rfl (aeq rfl (aeq rfl aeq0)))) (Gh.sel [0] rfl rfl)⟩
            · replace H := g_iff h14 H
              refine SA_condF rfl h14 ?_
              refine SA_skip ?_
              refine inb_normal ?_
              refine at_normal ?_
              refine SA_region ?_
              refine RA_step rfl (OA_v (v := .int .i64 x5_8) rfl (V_move rfl) ?_)
              refine RA_step rfl (OA_v (v := .int .i64 (IntKind.i64.wrap (x5_8 + 1))) rfl (V_add rfl rfl) ?_)
              obtain ⟨n20, hn20, H⟩ := g_lt H
              refine RA_step rfl (OA_v (v := .int .i64 n20) rfl (V_assign (v := .int .i64 n20) (congrArg (Value.int .i64) hn20.symm)) ?_)
              refine RA_nil ?_
              exact at_normal ⟨k9, Nat.lt_succ_self _, _, _, H, St.mk1 (aeq rfl (aeq rfl (aeq rfl (aeq rfl aeq0)))) (Gh.sel [0] rfl rfl)⟩
          · replace H := g_iff h11 H
            refine SA_condF rfl h11 ?_
            refine SA_exit ?_
            refine thn_exit ?_
            refine thn_exit ?_
            refine inb_hit ?_
            have hr_ := Option.some.inj H
            subst hr_
            exact at_normal (St.mk1 (aeq rfl (aeq rfl aeq0)) (Gh.sel [] rfl rfl))
        · rintro e ds As hst21
          clear H
          have H := Bt8
          clear Bt8
          refine at_normal ?_
          refine SA.of_St hst21 fun junk => ?_
          refine SA_seq ?_
          refine SA_seq ?_
          refine SA_region ?_
          refine RA_step rfl (OA_v (v := .int .i64 t8) rfl (V_move rfl) ?_)
          refine RA_step rfl (OA_v (v := .bool (decide (t8 > 32768))) rfl (V_gtr rfl rfl) ?_)
          refine RA_nil ?_
          refine at_normal ?_
          by_cases h22 : t8 > 32768
          · replace H := g_ift h22 H
            refine SA_condT rfl h22 ?_
            refine SA_seq ?_
            refine SA_region ?_
            refine RA_step rfl (OA_v (v := .int .i64 2) rfl (V_assign rfl) ?_)
            refine RA_nil ?_
            refine at_normal ?_
            refine SA_ret ?_
            refine thn_ret ?_
            have hr_ := Option.some.inj H
            subst hr_
            exact BQ_R1 [] rfl rfl (Gh.sel [] rfl rfl) ⟨rfl, rfl⟩
          · replace H := g_iff h22 H
            refine SA_condF rfl h22 ?_
            refine SA_skip ?_
            refine at_normal ?_
            refine SA_seq ?_
            refine SA_region ?_
            refine RA_step rfl (OA_v (v := .int .i64 r2.2) rfl (V_move rfl) ?_)
            refine RA_step rfl (OA_v (v := .int .i64 r2.2) rfl (V_assign rfl) ?_)
            refine RA_nil ?_
            refine at_normal ?_
            refine SA_ret ?_
            have hr_ := Option.some.inj H
            subst hr_
            exact BQ_R1 [] rfl rfl (Gh.sel [] rfl rfl) ⟨rfl, rfl⟩
end Go.Proofs.Ytocjoegcfojjhaa.Hd

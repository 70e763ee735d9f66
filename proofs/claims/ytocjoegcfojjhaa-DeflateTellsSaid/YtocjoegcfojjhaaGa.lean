import Derived.Test.YtocjoegcfojjhaaProg
import Derived.Test.YtocjoegcfojjhaaSl6
namespace Go.Proofs.Ytocjoegcfojjhaa.Ga
open Go Go.RowKit Go.Proofs.Ytocjoegcfojjhaa.SL
set_option linter.unusedVariables false
set_option linter.unusedSimpArgs false
attribute [local irreducible] IntKind.wrap minI maxI shrI shlI andI orI xorI andNotI cplI rd sub bytesOf strOf slA
structure S82 where
  f0 : Int
  f1 : Int
  f2 : Int
  deriving Inhabited, DecidableEq
def enc82 (x : S82) : List Value := [.int .u8 x.f0, .int .i64 x.f1, .int .i64 x.f2]
def k82 : Kd S82 := Kd.fl 3 enc82 (fun _ => rfl) (fun x v h => by simp only [enc82, List.mem_cons, List.not_mem_nil, or_false] at h; rcases h with rfl | rfl | rfl <;> rfl)
theorem sz3 : (Try.prog.info? 3).map (·.size) = some 1 := by kernel_rfl
theorem nz3 : ((Try.prog.info? 3).map fun i => decide (i.size = 0)) = some false := by kernel_rfl
theorem sz5 : (Try.prog.info? 5).map (·.size) = some 1 := by kernel_rfl
theorem nz5 : ((Try.prog.info? 5).map fun i => decide (i.size = 0)) = some false := by kernel_rfl
theorem sz82 : (Try.prog.info? 82).map (·.size) = some 3 := by kernel_rfl
theorem nz82 : ((Try.prog.info? 82).map fun i => decide (i.size = 0)) = some false := by kernel_rfl
theorem zero5 : (Try.prog.info? 5).bind (·.zero) = some (.int .u8 0) := by kernel_rfl
theorem inf5 : (Try.prog.info? 5).map (fun i => (i.zero, i.size, i.bytes)) = some (some (.int .u8 0), 1, 1) := by kernel_rfl
theorem zero82 : (Try.prog.info? 82).bind (·.zero) = some (.agg #[.int .u8 0, .int .i64 0, .int .i64 0]) := by kernel_rfl
theorem inf82 : (Try.prog.info? 82).map (fun i => (i.zero, i.size, i.bytes)) = some (some (.agg #[.int .u8 0, .int .i64 0, .int .i64 0]), 3, 24) := by kernel_rfl
theorem plc82 : ∀ fs, Try.prog.underlying 82 = some (.struct fs) → ∀ w, (fs.mapM (fun f => do pure (f.offset, ← sizeOf f.type) : Field → Sem (Nat × Nat))).run Try.prog w = .ok ([(0, 1), (1, 1), (2, 1)] : List (Nat × Nat)).toArray w := fun fs h w => by rw [Try.underlying82] at h; cases h; kernel_rfl
theorem nm14 : (Try.f14.name == "runtime.NumGoroutine") = false := by kernel_rfl
theorem nm15 : (Try.f15.name == "runtime.NumGoroutine") = false := by kernel_rfl
theorem nm16 : (Try.f16.name == "runtime.NumGoroutine") = false := by kernel_rfl
theorem nm17 : (Try.f17.name == "runtime.NumGoroutine") = false := by kernel_rfl
theorem nm18 : (Try.f18.name == "runtime.NumGoroutine") = false := by kernel_rfl
theorem nm19 : (Try.f19.name == "runtime.NumGoroutine") = false := by kernel_rfl
theorem nm46 : (Try.f46.name == "runtime.NumGoroutine") = false := by kernel_rfl
/-! ### function 18: wayfarer/wayfarerref02.Same -/
def F18.f (l0 : (List Int)) (l1 : (List Int)) : Option (Bool) := some (decide ((strOf l0) = (strOf l1)))
set_option maxHeartbeats 2000000 in
set_option maxRecDepth 100000 in
theorem F18.ok {l0 : (List Int)} {l1 : (List Int)} {A0 : Option Addr} {c0 : Nat} {A1 : Option Addr} {c1 : Nat} {r : Bool} (H : F18.f l0 l1 = some r) : SCA Try.prog 18 #[.slice A0 l0.length c0, .slice A1 l1.length c1] [Ro (Kd.int .u8) A0 c0 l0, Ro (Kd.int .u8) A1 c1 l1] (fun v B => v = .bool r ∧ B = []) := by
  refine SCA_of_body Try.func18 rfl rfl ?_
  unfold F18.f at H
  refine SA_seq ?_
  refine SA_region ?_
  refine RA_step rfl (OA_v rfl (V_assign rfl) ?_)
  refine RA_nil ?_
  refine at_normal ?_
  refine SA_seq ?_
  refine SA_region ?_
  refine RA_step rfl (OA_v rfl (V_move rfl) ?_)
  refine RA_step rfl (OA_r rfl (VR_str Try.underlying23 Try.underlying5 Try.underlying9 rfl (Src.ro (k := 0) rfl)) ?_)
  refine RA_step rfl (OA_v rfl (V_move rfl) ?_)
  refine RA_step rfl (OA_r rfl (VR_str Try.underlying23 Try.underlying5 Try.underlying9 rfl (Src.ro (k := 1) rfl)) ?_)
  refine RA_step rfl (OA_v rfl (V_eqlS rfl rfl) ?_)
  refine RA_step rfl (OA_v rfl (V_assign rfl) ?_)
  refine RA_nil ?_
  refine at_normal ?_
  refine SA_ret ?_
  have hr_ := Option.some.inj H
  subst hr_
  exact BQ_R1 [] rfl rfl (Gh.sel [] rfl rfl) ⟨rfl, rfl⟩

/-! ### function 46: wayfarer/deflate.may -/
def F46.f (a0 : S82) (a1 : Int) : Option (Bool) := if a0.f1 = 0 then (some (decide (a0.f2 = 0))) else (lt ((decide (a0.f1 ≥ 3)) && (decide (a0.f1 ≤ 258))) fun q4 => lt (q4 && (decide (a0.f2 ≥ 1))) fun q7 => lt (q7 && (decide (a0.f2 ≤ 32768))) fun q10 => lt (q10 && (decide (a0.f2 ≤ a1))) fun q13 => lt (q13 && (decide (a0.f0 = 0))) fun q16 => some (q16))
set_option maxHeartbeats 2000000 in
set_option maxRecDepth 100000 in
theorem F46.ok {a0 : S82} {a1 : Int} {r : Bool} (H : F46.f a0 a1 = some r) : SCA Try.prog 46 #[.agg #[.int .u8 a0.f0, .int .i64 a0.f1, .int .i64 a0.f2], .int .i64 a1] [] (fun v B => v = .bool r ∧ B = []) := by
  refine SCA_of_body Try.func46 rfl rfl ?_
  unfold F46.f at H
  refine SA_seq ?_
  refine SA_region ?_
  refine RA_step rfl (OA_box rfl rfl fun b1 => ?_)
  refine RA_step rfl (OA_v rfl (V_assign rfl) ?_)
  refine RA_nil ?_
  refine at_normal ?_
  refine SA_seq ?_
  refine SA_seq ?_
  refine SA_region ?_
  refine RA_step rfl (OA_v rfl (V_fieldAddrAt (B := ⟨b1, 0, none⟩) (m := 0) Try.underlying82 rfl nz3 rfl) ?_)
  refine RA_step rfl (OA_r rfl (VR_load_blk (b := b1) (m := 1) (k := 0) Try.underlying3 rfl rfl rfl rfl) ?_)
  refine RA_step rfl (OA_v rfl (V_eql rfl rfl) ?_)
  refine RA_nil ?_
  refine at_normal ?_
  by_cases h3 : a0.f1 = 0
  · replace H := g_ift h3 H
    refine SA_condT rfl h3 ?_
    refine SA_seq ?_
    refine SA_region ?_
    refine RA_step rfl (OA_v rfl (V_fieldAddrAt (B := ⟨b1, 0, none⟩) (m := 0) Try.underlying82 rfl nz3 rfl) ?_)
    refine RA_step rfl (OA_r rfl (VR_load_blk (b := b1) (m := 2) (k := 0) Try.underlying3 rfl rfl rfl rfl) ?_)
    refine RA_step rfl (OA_v rfl (V_eql rfl rfl) ?_)
    refine RA_step rfl (OA_v rfl (V_assign rfl) ?_)
    refine RA_nil ?_
    refine at_normal ?_
    refine SA_ret ?_
    refine thn_ret ?_
    have hr_ := Option.some.inj H
    subst hr_
    exact BQ_R1 [] rfl rfl (Gh.sel [] rfl rfl) ⟨rfl, rfl⟩
  · replace H := g_iff h3 H
    refine SA_condF rfl h3 ?_
    refine SA_skip ?_
    refine at_normal ?_
    refine SA_seq ?_
    refine SA_region ?_
    refine RA_step rfl (OA_v rfl (V_fieldAddrAt (B := ⟨b1, 0, none⟩) (m := 0) Try.underlying82 rfl nz3 rfl) ?_)
    refine RA_step rfl (OA_r rfl (VR_load_blk (b := b1) (m := 1) (k := 0) Try.underlying3 rfl rfl rfl rfl) ?_)
    refine RA_step rfl (OA_v rfl (V_geq rfl rfl) ?_)
    refine RA_step rfl (OA_v rfl (V_move rfl) ?_)
    obtain ⟨q4, hq4, H⟩ := g_lt H
    refine RA_cut 4 (fun e ds As => St [(1, .int .i64 a1), (2, .pointer (some ⟨b1, 0, none⟩)), (18, .bool q4)] [Blk b1 82 [.int .u8 a0.f0, .int .i64 a0.f1, .int .i64 a0.f2]] e ds As) ?_ ?_
    · by_cases h5 : a0.f1 ≥ 3
      · refine RA_yesB rfl rfl rfl rfl (dec_t h5) (OA_v rfl (V_fieldAddrAt (B := ⟨b1, 0, none⟩) (m := 0) Try.underlying82 rfl nz3 rfl) ?_)
        refine RA_yesB rfl rfl rfl rfl (dec_t h5) (OA_r rfl (VR_load_blk (b := b1) (m := 1) (k := 0) Try.underlying3 rfl rfl rfl rfl) ?_)
        refine RA_yesB rfl rfl rfl rfl (dec_t h5) (OA_v rfl (V_leq rfl rfl) ?_)
        refine RA_step rfl (OA_v rfl (V_pickT rfl (dec_t h5) rfl) ?_)
        refine RA_nil ?_
        exact at_normal (St.mk1 (aeq rfl (aeq rfl (aeq (congrArg Value.bool (and_t hq4 (dec_t h5))) aeq0))) (Gh.sel [0] rfl rfl))
      · refine RA_noB rfl rfl rfl rfl (dec_f h5) rfl ?_
        refine RA_noB rfl rfl rfl rfl (dec_f h5) rfl ?_
        refine RA_noB rfl rfl rfl rfl (dec_f h5) rfl ?_
        refine RA_step rfl (OA_v rfl (V_pickF rfl (dec_f h5) rfl) ?_)
        refine RA_nil ?_
        exact at_normal (St.mk1 (aeq rfl (aeq rfl (aeq (congrArg Value.bool (and_f hq4 (dec_f h5))) aeq0))) (Gh.sel [0] rfl rfl))
    · rintro e ds As hst6
      refine RA.of_St rfl hst6 fun junk => ?_
      refine RA_step rfl (OA_v rfl (V_move rfl) ?_)
      obtain ⟨q7, hq7, H⟩ := g_lt H
      refine RA_cut 4 (fun e ds As => St [(1, .int .i64 a1), (2, .pointer (some ⟨b1, 0, none⟩)), (23, .bool q7)] [Blk b1 82 [.int .u8 a0.f0, .int .i64 a0.f1, .int .i64 a0.f2]] e ds As) ?_ ?_
      · by_cases h8 : q4 = true
        · refine RA_yesB rfl rfl rfl rfl (h8) (OA_v rfl (V_fieldAddrAt (B := ⟨b1, 0, none⟩) (m := 0) Try.underlying82 rfl nz3 rfl) ?_)
          refine RA_yesB rfl rfl rfl rfl (h8) (OA_r rfl (VR_load_blk (b := b1) (m := 2) (k := 0) Try.underlying3 rfl rfl rfl rfl) ?_)
          refine RA_yesB rfl rfl rfl rfl (h8) (OA_v rfl (V_geq rfl rfl) ?_)
          refine RA_step rfl (OA_v rfl (V_pickT rfl (h8) rfl) ?_)
          refine RA_nil ?_
          exact at_normal (St.mk1 (aeq rfl (aeq rfl (aeq (congrArg Value.bool (and_t hq7 (h8))) aeq0))) (Gh.sel [0] rfl rfl))
        · refine RA_noB rfl rfl rfl rfl (bno h8) rfl ?_
          refine RA_noB rfl rfl rfl rfl (bno h8) rfl ?_
          refine RA_noB rfl rfl rfl rfl (bno h8) rfl ?_
          refine RA_step rfl (OA_v rfl (V_pickF rfl (bno h8) rfl) ?_)
          refine RA_nil ?_
          exact at_normal (St.mk1 (aeq rfl (aeq rfl (aeq (congrArg Value.bool (and_f hq7 (bno h8))) aeq0))) (Gh.sel [0] rfl rfl))
      · rintro e ds As hst9
        refine RA.of_St rfl hst9 fun junk => ?_
        refine RA_step rfl (OA_v rfl (V_move rfl) ?_)
        obtain ⟨q10, hq10, H⟩ := g_lt H
        refine RA_cut 4 (fun e ds As => St [(1, .int .i64 a1), (2, .pointer (some ⟨b1, 0, none⟩)), (28, .bool q10)] [Blk b1 82 [.int .u8 a0.f0, .int .i64 a0.f1, .int .i64 a0.f2]] e ds As) ?_ ?_
        · by_cases h11 : q7 = true
          · refine RA_yesB rfl rfl rfl rfl (h11) (OA_v rfl (V_fieldAddrAt (B := ⟨b1, 0, none⟩) (m := 0) Try.underlying82 rfl nz3 rfl) ?_)
            refine RA_yesB rfl rfl rfl rfl (h11) (OA_r rfl (VR_load_blk (b := b1) (m := 2) (k := 0) Try.underlying3 rfl rfl rfl rfl) ?_)
            refine RA_yesB rfl rfl rfl rfl (h11) (OA_v rfl (V_leq rfl rfl) ?_)
            refine RA_step rfl (OA_v rfl (V_pickT rfl (h11) rfl) ?_)
            refine RA_nil ?_
            exact at_normal (St.mk1 (aeq rfl (aeq rfl (aeq (congrArg Value.bool (and_t hq10 (h11))) aeq0))) (Gh.sel [0] rfl rfl))
          · refine RA_noB rfl rfl rfl rfl (bno h11) rfl ?_
            refine RA_noB rfl rfl rfl rfl (bno h11) rfl ?_
            refine RA_noB rfl rfl rfl rfl (bno h11) rfl ?_
            refine RA_step rfl (OA_v rfl (V_pickF rfl (bno h11) rfl) ?_)
            refine RA_nil ?_
            exact at_normal (St.mk1 (aeq rfl (aeq rfl (aeq (congrArg Value.bool (and_f hq10 (bno h11))) aeq0))) (Gh.sel [0] rfl rfl))
        · rintro e ds As hst12
          refine RA.of_St rfl hst12 fun junk => ?_
          refine RA_step rfl (OA_v rfl (V_move rfl) ?_)
          obtain ⟨q13, hq13, H⟩ := g_lt H
          refine RA_cut 5 (fun e ds As => St [(2, .pointer (some ⟨b1, 0, none⟩)), (34, .bool q13)] [Blk b1 82 [.int .u8 a0.f0, .int .i64 a0.f1, .int .i64 a0.f2]] e ds As) ?_ ?_
          · by_cases h14 : q10 = true
            · refine RA_yesB rfl rfl rfl rfl (h14) (OA_v rfl (V_fieldAddrAt (B := ⟨b1, 0, none⟩) (m := 0) Try.underlying82 rfl nz3 rfl) ?_)
              refine RA_yesB rfl rfl rfl rfl (h14) (OA_r rfl (VR_load_blk (b := b1) (m := 2) (k := 0) Try.underlying3 rfl rfl rfl rfl) ?_)
              refine RA_yesB rfl rfl rfl rfl (h14) (OA_v rfl (V_move rfl) ?_)
              refine RA_yesB rfl rfl rfl rfl (h14) (OA_v rfl (V_leq rfl rfl) ?_)
              refine RA_step rfl (OA_v rfl (V_pickT rfl (h14) rfl) ?_)
              refine RA_nil ?_
              exact at_normal (St.mk1 (aeq rfl (aeq (congrArg Value.bool (and_t hq13 (h14))) aeq0)) (Gh.sel [0] rfl rfl))
            · refine RA_noB rfl rfl rfl rfl (bno h14) rfl ?_
              refine RA_noB rfl rfl rfl rfl (bno h14) rfl ?_
              refine RA_noB rfl rfl rfl rfl (bno h14) rfl ?_
              refine RA_noB rfl rfl rfl rfl (bno h14) rfl ?_
              refine RA_step rfl (OA_v rfl (V_pickF rfl (bno h14) rfl) ?_)
              refine RA_nil ?_
              exact at_normal (St.mk1 (aeq rfl (aeq (congrArg Value.bool (and_f hq13 (bno h14))) aeq0)) (Gh.sel [0] rfl rfl))
          · rintro e ds As hst15
            refine RA.of_St rfl hst15 fun junk => ?_
            refine RA_step rfl (OA_v rfl (V_move rfl) ?_)
            obtain ⟨q16, hq16, H⟩ := g_lt H
            refine RA_cut 4 (fun e ds As => St [(39, .bool q16)] [] e ds As) ?_ ?_
            · by_cases h17 : q13 = true
              · refine RA_yesB rfl rfl rfl rfl (h17) (OA_v rfl (V_fieldAddrAt (B := ⟨b1, 0, none⟩) (m := 0) Try.underlying82 rfl nz5 rfl) ?_)
                refine RA_yesB rfl rfl rfl rfl (h17) (OA_r rfl (VR_load_blk (b := b1) (m := 0) (k := 0) Try.underlying5 rfl rfl rfl rfl) ?_)
                refine RA_yesB rfl rfl rfl rfl (h17) (OA_v rfl (V_eql rfl rfl) ?_)
                refine RA_step rfl (OA_v rfl (V_pickT rfl (h17) rfl) ?_)
                refine RA_nil ?_
                exact at_normal (St.mk1 (aeq (congrArg Value.bool (and_t hq16 (h17))) aeq0) (Gh.sel [] rfl rfl))
              · refine RA_noB rfl rfl rfl rfl (bno h17) rfl ?_
                refine RA_noB rfl rfl rfl rfl (bno h17) rfl ?_
                refine RA_noB rfl rfl rfl rfl (bno h17) rfl ?_
                refine RA_step rfl (OA_v rfl (V_pickF rfl (bno h17) rfl) ?_)
                refine RA_nil ?_
                exact at_normal (St.mk1 (aeq (congrArg Value.bool (and_f hq16 (bno h17))) aeq0) (Gh.sel [] rfl rfl))
            · rintro e ds As hst18
              refine RA.of_St rfl hst18 fun junk => ?_
              refine RA_step rfl (OA_v rfl (V_assign rfl) ?_)
              refine RA_nil ?_
              refine at_normal ?_
              refine SA_ret ?_
              have hr_ := Option.some.inj H
              subst hr_
              exact BQ_R1 [] rfl rfl (Gh.sel [] rfl rfl) ⟨rfl, rfl⟩

/-! ### function 14: wayfarer/deflate.Expand -/
def F14.l1 (l0 : (List S82)) (x9_6 : Int) : Nat → (List Int) → Int → Option ((List Int))
  | 0, _, _ => none
  | k + 1, x4_39, x35_39 => if x35_39 < ((rd l0 x9_6).f1) then (if 0 ≤ (IntKind.i64.wrap ((x4_39.length : Int) - ((rd l0 x9_6).f2))) ∧ (IntKind.i64.wrap ((x4_39.length : Int) - ((rd l0 x9_6).f2))) < (x4_39.length : Int) then (if x4_39.length + ([rd x4_39 (IntKind.i64.wrap ((x4_39.length : Int) - ((rd l0 x9_6).f2)))] : (List Int)).length ≤ 140737488355328 then lt (x4_39 ++ ([rd x4_39 (IntKind.i64.wrap ((x4_39.length : Int) - ((rd l0 x9_6).f2)))] : (List Int))) fun n54 => (F14.l1 l0 x9_6 k n54 (IntKind.i64.wrap (x35_39 + 1))) else none) else none) else (some x4_39)
def F14.l0 (l0 : (List S82)) : Nat → (List Int) → Int → Option (Out ((List Int) × Int) ((List Int)))
  | 0, _, _ => none
  | k + 1, x4_6, x9_6 => if x9_6 < (l0.length : Int) then (if 0 ≤ x9_6 ∧ x9_6 < (l0.length : Int) then ((F46.f (rd l0 x9_6) (x4_6.length : Int)).bind (fun r18 => if (!r18) = true then (some (Out.ret ((([] : (List Int)), 2)))) else (if (maxI ((rd l0 x9_6).f1) 1) > (IntKind.i64.wrap (65536 - (x4_6.length : Int))) then (some (Out.ret ((([] : (List Int)), 4)))) else ((if ((rd l0 x9_6).f1) = 0 then (if x4_6.length + ([(rd l0 x9_6).f0] : (List Int)).length ≤ 140737488355328 then lt (x4_6 ++ ([(rd l0 x9_6).f0] : (List Int))) fun n34 => (some n34) else none) else (some x4_6) : Option ((List Int))).bind (fun t23 => (F14.l1 l0 x9_6 k t23 0 : Option ((List Int))).bind (fun t36 => F14.l0 l0 k t36 (IntKind.i64.wrap (x9_6 + 1)))))))) else none) else (some (Out.go x4_6))
def F14.f (k : Nat) (l0 : (List S82)) : Option ((List Int) × Int) := (F14.l0 l0 k ([]) 0 : Option (Out ((List Int) × Int) ((List Int)))).bind (fun t2 => Out.el t2 (fun r_ => some r_) (fun s3 => some ((s3, 0))))
set_option maxHeartbeats 2000000 in
set_option maxRecDepth 100000 in
theorem F14.ok {k : Nat} {l0 : (List S82)} {A0 : Option Addr} {c0 : Nat} {r : (List Int) × Int} (H : F14.f k l0 = some r) : SCA Try.prog 14 #[.slice A0 l0.length c0] [Ro k82 A0 c0 l0] (fun v B => ∃ (A0_ : Option Addr) (c0_ : Nat), v = .tuple #[.slice A0_ r.1.length c0_, .int .i64 r.2] ∧ B = [Buf (Kd.int .u8) 5 A0_ c0_ r.1]) := by
  refine SCA_of_body Try.func14 rfl rfl ?_
  unfold F14.f at H
  refine SA_seq ?_
  refine SA_region ?_
  refine RA_step rfl (OA_v rfl (V_assign rfl) ?_)
  refine RA_step rfl (OA_v rfl (V_assign rfl) ?_)
  refine RA_nil ?_
  refine at_normal ?_
  refine SA_seq ?_
  refine SA_region ?_
  refine RA_step rfl (OA_v rfl (V_assign rfl) ?_)
  refine RA_nil ?_
  refine at_normal ?_
  refine SA_seq ?_
  refine SA_seq ?_
  refine SA_region ?_
  refine RA_step rfl (OA_v rfl (V_move rfl) ?_)
  refine RA_step rfl (OA_v rfl (V_len Try.underlying22 rfl) ?_)
  refine RA_step rfl (OA_v rfl (V_move rfl) ?_)
  refine RA_nil ?_
  refine at_normal ?_
  obtain ⟨t2, H, Bt2⟩ := g_bind H
  refine SA_mid (fun e ds As => ∃ (s3 : (List Int)), t2 = Out.go s3 ∧ ∃ (A4 : Option Addr) (c5 : Nat), St [(4, .slice A4 s3.length c5)] [Buf (Kd.int .u8) 5 A4 c5 s3] e ds As) ?_ ?_
  · refine SA_block ?_
    refine SA_loop (fun k_ e ds As => ∃ (x4_6 : (List Int)) (x9_6 : Int), ∃ (A7 : Option Addr) (c8 : Nat), F14.l0 l0 k_ x4_6 x9_6 = some t2 ∧ St [(4, .slice A7 x4_6.length c8), (7, .slice A0 l0.length c0), (8, .int .i64 (l0.length : Int)), (9, .int .i64 x9_6)] [Buf (Kd.int .u8) 5 A7 c8 x4_6, Ro k82 A0 c0 l0] e ds As) (k := k) ⟨_, _, none, 0, H, St.mk1 (aeq rfl (aeq rfl (aeq rfl (aeq rfl aeq0)))) ((Gh.nilBuf (Kd.int .u8) 5).trans (Gh.sel [1, 0] rfl rfl))⟩ ?_
    clear H
    rintro k11 e ds As ⟨x4_6, x9_6, A7, c8, H, hst12⟩
    obtain _ | k11 := k11
    · cases H
    rw [F14.l0] at H
    refine SA.of_St hst12 fun junk => ?_
    refine SA_seq ?_
    refine SA_region ?_
    refine RA_step rfl (OA_v rfl (V_lss rfl rfl) ?_)
    refine RA_nil ?_
    refine at_normal ?_
    refine SA_seq ?_
    by_cases h13 : x9_6 < (l0.length : Int)
    · replace H := g_ift h13 H
      refine SA_condT rfl h13 ?_
      refine SA_skip ?_
      refine at_normal ?_
      refine SA_seq ?_
      refine SA_block ?_
      refine SA_seq ?_
      refine SA_region ?_
      obtain ⟨⟨g14, g15⟩, H⟩ := g_pos H
      refine RA_step rfl (OA_r rfl (VR_index (i := x9_6) Try.underlying22 sz82 rfl rfl (Src.ro (k := 1) rfl) g14 g15) ?_)
      refine RA_step rfl (OA_r rfl (VR_loadA_el (enc := enc82) (i := x9_6) (j := x9_6.toNat * 3) (m := 0) (sz := 3) (vs := [.int .u8 ((rd l0 x9_6).f0), .int .i64 ((rd l0 x9_6).f1), .int .i64 ((rd l0 x9_6).f2)]) Try.underlying82 rfl sz82 rfl rfl rfl (Src.ro (k := 1) rfl) g14 g15 (fun _ _ h => h) rfl) ?_)
      refine RA_step rfl (OA_alloc rfl zero82 fun b16 => ?_)
      refine RA_step rfl (OA_st (b := b16) (m := 0) (k := 2) (vs := [.int .u8 ((rd l0 x9_6).f0), .int .i64 ((rd l0 x9_6).f1), .int .i64 ((rd l0 x9_6).f2)]) (cs' := [.int .u8 ((rd l0 x9_6).f0), .int .i64 ((rd l0 x9_6).f1), .int .i64 ((rd l0 x9_6).f2)]) rfl rfl rfl rfl rfl rfl sz82 rfl rfl ?_)
      refine RA_nil ?_
      refine at_normal ?_
      refine SA_seq ?_
      refine SA_seq ?_
      refine SA_region ?_
      refine RA_step rfl (OA_r rfl (VR_loadA_blk (b := b16) (m := 0) (k := 2) (vs := [.int .u8 ((rd l0 x9_6).f0), .int .i64 ((rd l0 x9_6).f1), .int .i64 ((rd l0 x9_6).f2)]) Try.underlying82 rfl sz82 rfl rfl rfl) ?_)
      refine RA_step rfl (OA_v rfl (V_move rfl) ?_)
      refine RA_step rfl (OA_v rfl (V_len Try.underlying23 rfl) ?_)
      obtain ⟨r18, C56, H⟩ := g_bind H
      refine RA_step rfl (OA_callA [] [0, 1, 2] rfl (X_fn Try.func46 nm46 rfl rfl) rfl (F46.ok C56) rfl ?_)
      rintro _ _ ⟨rfl, rfl⟩
      refine RA_step rfl (OA_v rfl (V_not rfl) ?_)
      refine RA_nil ?_
      refine at_normal ?_
      by_cases h19 : (!r18) = true
      · replace H := g_ift h19 H
        refine SA_condTb rfl h19 ?_
        refine SA_seq ?_
        refine SA_region ?_
        refine RA_step rfl (OA_v rfl (V_assign rfl) ?_)
        refine RA_step rfl (OA_v rfl (V_assign rfl) ?_)
        refine RA_nil ?_
        refine at_normal ?_
        refine SA_ret ?_
        refine thn_ret ?_
        refine inb_ret ?_
        refine thn_ret ?_
        refine thn_ret ?_
        refine inb_ret ?_
        refine thn_ret ?_
        refine thn_ret ?_
        have hr_ := Option.some.inj H
        subst hr_
        have hb_ := el_ret Bt2
        have hr_ := Option.some.inj hb_
        clear hb_
        subst hr_
        exact BQ_R2 [Buf (Kd.int .u8) 5 none 0 ([] : (List Int))] rfl rfl rfl ((Gh.nilBuf (Kd.int .u8) 5).trans (Gh.sel [3] rfl rfl)) ⟨none, 0, rfl, rfl⟩
      · replace H := g_iff h19 H
        refine SA_condFb rfl h19 ?_
        refine SA_skip ?_
        refine at_normal ?_
        refine SA_seq ?_
        refine SA_seq ?_
        refine SA_region ?_
        refine RA_step rfl (OA_v rfl (V_fieldAddrAt (B := ⟨b16, 0, none⟩) (m := 0) Try.underlying82 rfl nz3 rfl) ?_)
        refine RA_step rfl (OA_r rfl (VR_load_blk (b := b16) (m := 1) (k := 2) Try.underlying3 rfl rfl rfl rfl) ?_)
        refine RA_step rfl (OA_v rfl (V_max rfl rfl) ?_)
        refine RA_step rfl (OA_v rfl (V_move rfl) ?_)
        refine RA_step rfl (OA_v rfl (V_len Try.underlying23 rfl) ?_)
        refine RA_step rfl (OA_v rfl (V_sub rfl rfl) ?_)
        refine RA_step rfl (OA_v rfl (V_gtr rfl rfl) ?_)
        refine RA_nil ?_
        refine at_normal ?_
        by_cases h21 : (maxI ((rd l0 x9_6).f1) 1) > (IntKind.i64.wrap (65536 - (x4_6.length : Int)))
        · replace H := g_ift h21 H
          refine SA_condT rfl h21 ?_
          refine SA_seq ?_
          refine SA_region ?_
          refine RA_step rfl (OA_v rfl (V_assign rfl) ?_)
          refine RA_step rfl (OA_v rfl (V_assign rfl) ?_)
          refine RA_nil ?_
          refine at_normal ?_
          refine SA_ret ?_
          refine thn_ret ?_
          refine inb_ret ?_
          refine thn_ret ?_
          refine thn_ret ?_
          refine inb_ret ?_
          refine thn_ret ?_
          refine thn_ret ?_
          have hr_ := Option.some.inj H
          subst hr_
          have hb_ := el_ret Bt2
          have hr_ := Option.some.inj hb_
          clear hb_
          subst hr_
          exact BQ_R2 [Buf (Kd.int .u8) 5 none 0 ([] : (List Int))] rfl rfl rfl ((Gh.nilBuf (Kd.int .u8) 5).trans (Gh.sel [3] rfl rfl)) ⟨none, 0, rfl, rfl⟩
        · replace H := g_iff h21 H
          refine SA_condF rfl h21 ?_
          refine SA_skip ?_
          refine at_normal ?_
          refine SA_seq ?_
          refine SA_seq ?_
          refine SA_region ?_
          refine RA_step rfl (OA_v rfl (V_fieldAddrAt (B := ⟨b16, 0, none⟩) (m := 0) Try.underlying82 rfl nz3 rfl) ?_)
          refine RA_step rfl (OA_r rfl (VR_load_blk (b := b16) (m := 1) (k := 2) Try.underlying3 rfl rfl rfl rfl) ?_)
          refine RA_step rfl (OA_v rfl (V_eql rfl rfl) ?_)
          refine RA_nil ?_
          refine at_normal ?_
          obtain ⟨t23, H, Bt23⟩ := g_bind H
          refine SA_mid (fun e ds As => ∃ (A24 : Option Addr) (c25 : Nat), St [(4, .slice A24 t23.length c25), (6, .pointer (some ⟨b16, 0, none⟩)), (7, .slice A0 l0.length c0), (8, .int .i64 (l0.length : Int)), (9, .int .i64 x9_6)] [Buf (Kd.int .u8) 5 A24 c25 t23, Blk b16 82 [.int .u8 ((rd l0 x9_6).f0), .int .i64 ((rd l0 x9_6).f1), .int .i64 ((rd l0 x9_6).f2)], Ro k82 A0 c0 l0] e ds As) ?_ ?_
          · by_cases h27 : ((rd l0 x9_6).f1) = 0
            · replace H := g_ift h27 H
              refine SA_condT rfl h27 ?_
              refine SA_region ?_
              refine RA_step rfl (OA_v rfl (V_move rfl) ?_)
              refine RA_step rfl (OA_v rfl (V_fieldAddrAt (B := ⟨b16, 0, none⟩) (m := 0) Try.underlying82 rfl nz5 rfl) ?_)
              refine RA_step rfl (OA_r rfl (VR_load_blk (b := b16) (m := 0) (k := 2) Try.underlying5 rfl rfl rfl rfl) ?_)
              refine RA_step rfl (OA_bs (kd := (Kd.int .u8)) (zv := (.int .u8 0)) (sz := 1) (cells := [.int .u8 ((rd l0 x9_6).f0)]) (xs := ([(rd l0 x9_6).f0] : (List Int))) rfl Try.underlying23 zero5 sz5 rfl rfl rfl (by kernel_rfl) rfl rfl (RL_enc (fun x_ : Int => [Value.int .u8 x_]) (fun _ _ => rfl) (by kernel_rfl)) fun b28 => ?_)
              obtain ⟨g31, H⟩ := g_pos H
              obtain ⟨n34, hn34, H⟩ := g_lt H
              refine RA_step rfl (OA_app (k := 0) (A := A7) (c := c8) (xs := x4_6) (ys := ([(rd l0 x9_6).f0] : (List Int))) n34 hn34 rfl Try.underlying23 inf5 rfl rfl rfl rfl rfl (Yld.slice Try.underlying23 (Src.buf (k := 3) rfl)) (by omega) (by omega) fun A32 c33 => ?_)
              refine RA_step rfl (OA_v rfl (V_assign rfl) ?_)
              refine RA_nil ?_
              have hr_ := Option.some.inj H
              subst hr_
              exact at_normal ⟨A32, c33, St.mk1 (aeq rfl (aeq rfl (aeq rfl (aeq rfl (aeq rfl aeq0))))) (Gh.sel [0, 2, 1] rfl rfl)⟩
            · replace H := g_iff h27 H
              refine SA_condF rfl h27 ?_
              refine SA_skip ?_
              have hr_ := Option.some.inj H
              subst hr_
              exact at_normal ⟨A7, c8, St.mk1 (aeq rfl (aeq rfl (aeq rfl (aeq rfl (aeq rfl aeq0))))) (Gh.sel [0, 2, 1] rfl rfl)⟩
          · rintro e ds As ⟨A24, c25, hst35⟩
            clear H
            have H := Bt23
            clear Bt23
            refine at_normal ?_
            refine SA.of_St hst35 fun junk => ?_
            refine SA_seq ?_
            refine SA_region ?_
            refine RA_step rfl (OA_v rfl (V_fieldAddrAt (B := ⟨b16, 0, none⟩) (m := 0) Try.underlying82 rfl nz3 rfl) ?_)
            refine RA_step rfl (OA_r rfl (VR_load_blk (b := b16) (m := 1) (k := 1) Try.underlying3 rfl rfl rfl rfl) ?_)
            refine RA_step rfl (OA_v rfl (V_move rfl) ?_)
            refine RA_nil ?_
            refine at_normal ?_
            obtain ⟨t36, H, Bt36⟩ := g_bind H
            refine SA_mid (fun e ds As => ∃ (A37 : Option Addr) (c38 : Nat), St [(4, .slice A37 t36.length c38), (7, .slice A0 l0.length c0), (8, .int .i64 (l0.length : Int)), (9, .int .i64 x9_6)] [Buf (Kd.int .u8) 5 A37 c38 t36, Ro k82 A0 c0 l0] e ds As) ?_ ?_
            · refine SA_block ?_
              refine SA_loop (fun k_ e ds As => ∃ (x4_39 : (List Int)) (x35_39 : Int), ∃ (A40 : Option Addr) (c41 : Nat), F14.l1 l0 x9_6 k_ x4_39 x35_39 = some t36 ∧ St [(4, .slice A40 x4_39.length c41), (6, .pointer (some ⟨b16, 0, none⟩)), (7, .slice A0 l0.length c0), (8, .int .i64 (l0.length : Int)), (9, .int .i64 x9_6), (34, .int .i64 ((rd l0 x9_6).f1)), (35, .int .i64 x35_39)] [Buf (Kd.int .u8) 5 A40 c41 x4_39, Blk b16 82 [.int .u8 ((rd l0 x9_6).f0), .int .i64 ((rd l0 x9_6).f1), .int .i64 ((rd l0 x9_6).f2)], Ro k82 A0 c0 l0] e ds As) (k := k11) ⟨_, _, A24, c25, H, St.mk1 (aeq rfl (aeq rfl (aeq rfl (aeq rfl (aeq rfl (aeq rfl (aeq rfl aeq0))))))) (Gh.sel [0, 1, 2] rfl rfl)⟩ ?_
              clear H
              rintro k43 e ds As ⟨x4_39, x35_39, A40, c41, H, hst44⟩
              obtain _ | k43 := k43
              · cases H
              rw [F14.l1] at H
              refine SA.of_St hst44 fun junk => ?_
              refine SA_seq ?_
              refine SA_region ?_
              refine RA_step rfl (OA_v rfl (V_lss rfl rfl) ?_)
              refine RA_nil ?_
              refine at_normal ?_
              refine SA_seq ?_
              by_cases h45 : x35_39 < ((rd l0 x9_6).f1)
              · replace H := g_ift h45 H
                refine SA_condT rfl h45 ?_
                refine SA_skip ?_
                refine at_normal ?_
                refine SA_seq ?_
                refine SA_block ?_
                refine SA_region ?_
                refine RA_step rfl (OA_v rfl (V_move rfl) ?_)
                refine RA_step rfl (OA_v rfl (V_move rfl) ?_)
                refine RA_step rfl (OA_v rfl (V_move rfl) ?_)
                refine RA_step rfl (OA_v rfl (V_len Try.underlying23 rfl) ?_)
                refine RA_step rfl (OA_v rfl (V_fieldAddrAt (B := ⟨b16, 0, none⟩) (m := 0) Try.underlying82 rfl nz3 rfl) ?_)
                refine RA_step rfl (OA_r rfl (VR_load_blk (b := b16) (m := 2) (k := 1) Try.underlying3 rfl rfl rfl rfl) ?_)
                refine RA_step rfl (OA_v rfl (V_sub rfl rfl) ?_)
                obtain ⟨⟨g46, g47⟩, H⟩ := g_pos H
                refine RA_step rfl (OA_r rfl (VR_index (i := IntKind.i64.wrap ((x4_39.length : Int) - ((rd l0 x9_6).f2))) Try.underlying23 sz5 rfl rfl (Src.buf (k := 0) rfl) g46 g47) ?_)
                refine RA_step rfl (OA_r rfl (VR_load_el (enc := (fun x_ : Int => [Value.int .u8 x_])) (i := IntKind.i64.wrap ((x4_39.length : Int) - ((rd l0 x9_6).f2))) (j := (IntKind.i64.wrap ((x4_39.length : Int) - ((rd l0 x9_6).f2))).toNat * 1) (m := 0) (sz := 1) Try.underlying5 rfl rfl rfl rfl (Src.buf (k := 0) rfl) g46 g47 (fun _ _ h => h) rfl) ?_)
                refine RA_step rfl (OA_bs (kd := (Kd.int .u8)) (zv := (.int .u8 0)) (sz := 1) (cells := [.int .u8 (rd x4_39 (IntKind.i64.wrap ((x4_39.length : Int) - ((rd l0 x9_6).f2))))]) (xs := ([rd x4_39 (IntKind.i64.wrap ((x4_39.length : Int) - ((rd l0 x9_6).f2)))] : (List Int))) rfl Try.underlying23 zero5 sz5 rfl rfl rfl (by kernel_rfl) rfl rfl (RL_enc (fun x_ : Int => [Value.int .u8 x_]) (fun _ _ => rfl) (by kernel_rfl)) fun b48 => ?_)
                obtain ⟨g51, H⟩ := g_pos H
                obtain ⟨n54, hn54, H⟩ := g_lt H
                refine RA_step rfl (OA_app (k := 0) (A := A40) (c := c41) (xs := x4_39) (ys := ([rd x4_39 (IntKind.i64.wrap ((x4_39.length : Int) - ((rd l0 x9_6).f2)))] : (List Int))) n54 hn54 rfl Try.underlying23 inf5 rfl rfl rfl rfl rfl (Yld.slice Try.underlying23 (Src.buf (k := 3) rfl)) (by omega) (by omega) fun A52 c53 => ?_)
                refine RA_step rfl (OA_v rfl (V_assign rfl) ?_)
                refine RA_nil ?_
                refine inb_normal ?_
                refine at_normal ?_
                refine SA_region ?_
                refine RA_step rfl (OA_v rfl (V_add rfl rfl) ?_)
                refine RA_step rfl (OA_v rfl (V_move rfl) ?_)
                refine RA_nil ?_
                exact at_normal ⟨k43, Nat.lt_succ_self _, _, _, A52, c53, H, St.mk1 (aeq rfl (aeq rfl (aeq rfl (aeq rfl (aeq rfl (aeq rfl (aeq rfl aeq0))))))) (Gh.sel [0, 1, 2] rfl rfl)⟩
              · replace H := g_iff h45 H
                refine SA_condF rfl h45 ?_
                refine SA_exit ?_
                refine thn_exit ?_
                refine thn_exit ?_
                refine inb_hit ?_
                have hr_ := Option.some.inj H
                subst hr_
                exact at_normal ⟨A40, c41, St.mk1 (aeq rfl (aeq rfl (aeq rfl (aeq rfl aeq0)))) (Gh.sel [0, 2] rfl rfl)⟩
            · rintro e ds As ⟨A37, c38, hst55⟩
              clear H
              have H := Bt36
              clear Bt36
              refine inb_normal ?_
              refine at_normal ?_
              refine SA.of_St hst55 fun junk => ?_
              refine SA_region ?_
              refine RA_step rfl (OA_v rfl (V_add rfl rfl) ?_)
              refine RA_step rfl (OA_v rfl (V_move rfl) ?_)
              refine RA_nil ?_
              exact at_normal ⟨k11, Nat.lt_succ_self _, _, _, A37, c38, H, St.mk1 (aeq rfl (aeq rfl (aeq rfl (aeq rfl aeq0)))) (Gh.sel [0, 1] rfl rfl)⟩
    · replace H := g_iff h13 H
      refine SA_condF rfl h13 ?_
      refine SA_exit ?_
      refine thn_exit ?_
      refine thn_exit ?_
      refine inb_hit ?_
      have hr_ := Option.some.inj H
      subst hr_
      exact at_normal ⟨x4_6, rfl, A7, c8, St.mk1 (aeq rfl aeq0) (Gh.sel [0] rfl rfl)⟩
  · rintro e ds As ⟨s3, ht, A4, c5, hst57⟩
    clear H
    subst ht
    replace Bt2 := el_go Bt2
    have H := Bt2
    clear Bt2
    refine at_normal ?_
    refine SA.of_St hst57 fun junk => ?_
    refine SA_seq ?_
    refine SA_region ?_
    refine RA_step rfl (OA_v rfl (V_move rfl) ?_)
    refine RA_step rfl (OA_v rfl (V_assign rfl) ?_)
    refine RA_step rfl (OA_v rfl (V_assign rfl) ?_)
    refine RA_nil ?_
    refine at_normal ?_
    refine SA_ret ?_
    have hr_ := Option.some.inj H
    subst hr_
    exact BQ_R2 [Buf (Kd.int .u8) 5 A4 c5 s3] rfl rfl rfl (Gh.sel [0] rfl rfl) ⟨A4, c5, rfl, rfl⟩

/-! ### function 17: wayfarer/wayfarerref06.Stored -/
def F17.l0 : Nat → (List Int) → (List Int) → Option ((List Int) × Int)
  | 0, _, _ => none
  | k + 1, x0_3, x4_3 => lt (minI (x0_3.length : Int) 65535) fun n13 => (if n13 = (x0_3.length : Int) then (some 1) else (some 0) : Option (Int)).bind (fun t14 => if x4_3.length + ([t14, IntKind.u8.wrap (n13), IntKind.u8.wrap (shrI .i64 n13 8), IntKind.u8.wrap (cplI .i64 n13), IntKind.u8.wrap (shrI .i64 (cplI .i64 n13) 8)] : (List Int)).length ≤ 140737488355328 then lt (x4_3 ++ ([t14, IntKind.u8.wrap (n13), IntKind.u8.wrap (shrI .i64 n13 8), IntKind.u8.wrap (cplI .i64 n13), IntKind.u8.wrap (shrI .i64 (cplI .i64 n13) 8)] : (List Int))) fun n23 => (if 0 ≤ (0 : Int) ∧ (0 : Int) ≤ n13 ∧ n13 ≤ (x0_3.length : Int) then lt (sub x0_3 (0 : Int) n13) fun n30 => (if n23.length + n30.length ≤ 140737488355328 then lt (n23 ++ n30) fun n35 => (if 0 ≤ n13 ∧ n13 ≤ (x0_3.length : Int) ∧ (x0_3.length : Int) ≤ (x0_3.length : Int) then lt (sub x0_3 n13 (x0_3.length : Int)) fun n42 => (if t14 = 1 then (some ((n35, 0))) else (F17.l0 k n42 n35)) else none) else none) else none) else none)
def F17.f (k : Nat) (l0 : (List Int)) : Option ((List Int) × Int) := if (l0.length : Int) > 65536 then (some ((([] : (List Int)), 4))) else (F17.l0 k l0 ([]))
set_option maxHeartbeats 2000000 in
set_option maxRecDepth 100000 in
theorem F17.ok {k : Nat} {l0 : (List Int)} {A0 : Option Addr} {c0 : Nat} {r : (List Int) × Int} (H : F17.f k l0 = some r) : SCA Try.prog 17 #[.slice A0 l0.length c0] [Ro (Kd.int .u8) A0 c0 l0] (fun v B => ∃ (A0_ : Option Addr) (c0_ : Nat), v = .tuple #[.slice A0_ r.1.length c0_, .int .i64 r.2] ∧ B = [Buf (Kd.int .u8) 5 A0_ c0_ r.1]) := by
  refine SCA_of_body Try.func17 rfl rfl ?_
  unfold F17.f at H
  refine SA_seq ?_
  refine SA_region ?_
  refine RA_step rfl (OA_v rfl (V_assign rfl) ?_)
  refine RA_step rfl (OA_v rfl (V_assign rfl) ?_)
  refine RA_nil ?_
  refine at_normal ?_
  refine SA_seq ?_
  refine SA_seq ?_
  refine SA_region ?_
  refine RA_step rfl (OA_v rfl (V_move rfl) ?_)
  refine RA_step rfl (OA_v rfl (V_len Try.underlying23 rfl) ?_)
  refine RA_step rfl (OA_v rfl (V_gtr rfl rfl) ?_)
  refine RA_nil ?_
  refine at_normal ?_
  by_cases h2 : (l0.length : Int) > 65536
  · replace H := g_ift h2 H
    refine SA_condT rfl h2 ?_
    refine SA_seq ?_
    refine SA_region ?_
    refine RA_step rfl (OA_v rfl (V_assign rfl) ?_)
    refine RA_step rfl (OA_v rfl (V_assign rfl) ?_)
    refine RA_nil ?_
    refine at_normal ?_
    refine SA_ret ?_
    refine thn_ret ?_
    have hr_ := Option.some.inj H
    subst hr_
    exact BQ_R2 [Buf (Kd.int .u8) 5 none 0 ([] : (List Int))] rfl rfl rfl ((Gh.nilBuf (Kd.int .u8) 5).trans (Gh.sel [1] rfl rfl)) ⟨none, 0, rfl, rfl⟩
  · replace H := g_iff h2 H
    refine SA_condF rfl h2 ?_
    refine SA_skip ?_
    refine at_normal ?_
    refine SA_seq ?_
    refine SA_region ?_
    refine RA_step rfl (OA_v rfl (V_assign rfl) ?_)
    refine RA_nil ?_
    refine at_normal ?_
    refine SA_block ?_
    refine SA_loop (fun k_ e ds As => ∃ (x0_3 : (List Int)) (x4_3 : (List Int)), ∃ (A4 : Option Addr) (c5 : Nat), ∃ (A7 : Option Addr) (c8 : Nat), F17.l0 k_ x0_3 x4_3 = some r ∧ St [(0, .slice A4 x0_3.length c5), (4, .slice A7 x4_3.length c8)] [Ro (Kd.int .u8) A4 c5 x0_3, Buf (Kd.int .u8) 5 A7 c8 x4_3] e ds As) (k := k) ⟨_, _, A0, c0, none, 0, H, St.mk1 (aeq rfl (aeq rfl aeq0)) ((Gh.nilBuf (Kd.int .u8) 5).trans (Gh.sel [0, 1] rfl rfl))⟩ ?_
    clear H
    rintro k11 e ds As ⟨x0_3, x4_3, A4, c5, A7, c8, H, hst12⟩
    obtain _ | k11 := k11
    · cases H
    rw [F17.l0] at H
    refine SA.of_St hst12 fun junk => ?_
    refine SA_block ?_
    refine SA_seq ?_
    refine SA_region ?_
    refine RA_step rfl (OA_v rfl (V_move rfl) ?_)
    refine RA_step rfl (OA_v rfl (V_len Try.underlying23 rfl) ?_)
    refine RA_step rfl (OA_v rfl (V_min rfl rfl) ?_)
    obtain ⟨n13, hn13, H⟩ := g_lt H
    refine RA_step rfl (OA_v rfl (V_assign (v := .int .i64 n13) (congrArg (Value.int .i64) hn13.symm)) ?_)
    refine RA_nil ?_
    refine at_normal ?_
    refine SA_seq ?_
    refine SA_region ?_
    refine RA_step rfl (OA_v rfl (V_assign rfl) ?_)
    refine RA_nil ?_
    refine at_normal ?_
    refine SA_seq ?_
    refine SA_seq ?_
    refine SA_region ?_
    refine RA_step rfl (OA_v rfl (V_move rfl) ?_)
    refine RA_step rfl (OA_v rfl (V_move rfl) ?_)
    refine RA_step rfl (OA_v rfl (V_len Try.underlying23 rfl) ?_)
    refine RA_step rfl (OA_v rfl (V_eql rfl rfl) ?_)
    refine RA_nil ?_
    refine at_normal ?_
    obtain ⟨t14, H, Bt14⟩ := g_bind H
    refine SA_mid (fun e ds As => St [(0, .slice A4 x0_3.length c5), (4, .slice A7 x4_3.length c8), (5, .int .i64 n13), (6, .int .u8 t14)] [Ro (Kd.int .u8) A4 c5 x0_3, Buf (Kd.int .u8) 5 A7 c8 x4_3] e ds As) ?_ ?_
    · by_cases h15 : n13 = (x0_3.length : Int)
      · replace H := g_ift h15 H
        refine SA_condT rfl h15 ?_
        refine SA_region ?_
        refine RA_step rfl (OA_v rfl (V_assign rfl) ?_)
        refine RA_nil ?_
        have hr_ := Option.some.inj H
        subst hr_
        exact at_normal (St.mk1 (aeq rfl (aeq rfl (aeq rfl (aeq rfl aeq0)))) (Gh.sel [0, 1] rfl rfl))
      · replace H := g_iff h15 H
        refine SA_condF rfl h15 ?_
        refine SA_skip ?_
        have hr_ := Option.some.inj H
        subst hr_
        exact at_normal (St.mk1 (aeq rfl (aeq rfl (aeq rfl (aeq rfl aeq0)))) (Gh.sel [0, 1] rfl rfl))
    · rintro e ds As hst16
      clear H
      have H := Bt14
      clear Bt14
      refine at_normal ?_
      refine SA.of_St hst16 fun junk => ?_
      refine SA_seq ?_
      refine SA_region ?_
      refine RA_step rfl (OA_v rfl (V_move rfl) ?_)
      refine RA_step rfl (OA_v rfl (V_move rfl) ?_)
      refine RA_step rfl (OA_v rfl (V_move rfl) ?_)
      refine RA_step rfl (OA_v rfl (V_conv (T := 3) (by kernel_rfl) Try.underlying5 rfl) ?_)
      refine RA_step rfl (OA_v rfl (V_move rfl) ?_)
      refine RA_step rfl (OA_v rfl (V_shr rfl rfl (by decide)) ?_)
      refine RA_step rfl (OA_v rfl (V_conv (T := 3) (by kernel_rfl) Try.underlying5 rfl) ?_)
      refine RA_step rfl (OA_v rfl (V_move rfl) ?_)
      refine RA_step rfl (OA_v rfl (V_cpl rfl) ?_)
      refine RA_step rfl (OA_v rfl (V_conv (T := 3) (by kernel_rfl) Try.underlying5 rfl) ?_)
      refine RA_step rfl (OA_v rfl (V_move rfl) ?_)
      refine RA_step rfl (OA_v rfl (V_cpl rfl) ?_)
      refine RA_step rfl (OA_v rfl (V_shr rfl rfl (by decide)) ?_)
      refine RA_step rfl (OA_v rfl (V_conv (T := 3) (by kernel_rfl) Try.underlying5 rfl) ?_)
      refine RA_step rfl (OA_bs (kd := (Kd.int .u8)) (zv := (.int .u8 0)) (sz := 1) (cells := [.int .u8 t14, .int .u8 (IntKind.u8.wrap (n13)), .int .u8 (IntKind.u8.wrap (shrI .i64 n13 8)), .int .u8 (IntKind.u8.wrap (cplI .i64 n13)), .int .u8 (IntKind.u8.wrap (shrI .i64 (cplI .i64 n13) 8))]) (xs := ([t14, IntKind.u8.wrap (n13), IntKind.u8.wrap (shrI .i64 n13 8), IntKind.u8.wrap (cplI .i64 n13), IntKind.u8.wrap (shrI .i64 (cplI .i64 n13) 8)] : (List Int))) rfl Try.underlying23 zero5 sz5 rfl rfl rfl (by kernel_rfl) rfl rfl (RL_enc (fun x_ : Int => [Value.int .u8 x_]) (fun _ _ => rfl) (by kernel_rfl)) fun b17 => ?_)
      obtain ⟨g20, H⟩ := g_pos H
      obtain ⟨n23, hn23, H⟩ := g_lt H
      refine RA_step rfl (OA_app (k := 1) (A := A7) (c := c8) (xs := x4_3) (ys := ([t14, IntKind.u8.wrap (n13), IntKind.u8.wrap (shrI .i64 n13 8), IntKind.u8.wrap (cplI .i64 n13), IntKind.u8.wrap (shrI .i64 (cplI .i64 n13) 8)] : (List Int))) n23 hn23 rfl Try.underlying23 inf5 rfl rfl rfl rfl rfl (Yld.slice Try.underlying23 (Src.buf (k := 2) rfl)) (by omega) (by omega) fun A21 c22 => ?_)
      refine RA_step rfl (OA_v rfl (V_assign rfl) ?_)
      refine RA_nil ?_
      refine at_normal ?_
      refine SA_seq ?_
      refine SA_region ?_
      refine RA_step rfl (OA_v rfl (V_move rfl) ?_)
      refine RA_step rfl (OA_v rfl (V_move rfl) ?_)
      refine RA_step rfl (OA_v rfl (V_move rfl) ?_)
      obtain ⟨⟨g24, g25, g26⟩, H⟩ := g_pos H
      obtain ⟨n30, hn30, H⟩ := g_lt H
      refine RA_step rfl (OA.ghost (Gh.subN (k := 0) (l := (0 : Int)) (h := n13) (m := (c5 : Int)) (sz := 1) hn30 rfl rfl g24 g25 g26 (.inl rfl)) (OA_r rfl (VR_sub (k := 0) (l := (0 : Int)) (h := n13) (m := (c5 : Int)) hn30 rfl Try.underlying23 sz5 rfl rfl rfl rfl (.inl ⟨rfl, rfl⟩) (.inr ⟨_, rfl⟩) (.inl ⟨rfl, rfl⟩) g24 g25 g26) ?_))
      obtain ⟨g32, H⟩ := g_pos H
      obtain ⟨n35, hn35, H⟩ := g_lt H
      refine RA_step rfl (OA_app (k := 1) (A := A21) (c := c22) (xs := n23) (ys := n30) n35 hn35 rfl Try.underlying23 inf5 rfl rfl rfl rfl rfl (Yld.slice Try.underlying23 (Src.ro (k := 3) rfl)) (by omega) (by omega) fun A33 c34 => ?_)
      refine RA_step rfl (OA_v rfl (V_assign rfl) ?_)
      refine RA_nil ?_
      refine at_normal ?_
      refine SA_seq ?_
      refine SA_region ?_
      refine RA_step rfl (OA_v rfl (V_move rfl) ?_)
      refine RA_step rfl (OA_v rfl (V_move rfl) ?_)
      obtain ⟨⟨g36, g37, g38⟩, H⟩ := g_pos H
      obtain ⟨n42, hn42, H⟩ := g_lt H
      refine RA_step rfl (OA.ghost (Gh.subN (k := 0) (l := n13) (h := (x0_3.length : Int)) (m := (c5 : Int)) (sz := 1) hn42 rfl rfl g36 g37 g38 (.inl rfl)) (OA_r rfl (VR_sub (k := 0) (l := n13) (h := (x0_3.length : Int)) (m := (c5 : Int)) hn42 rfl Try.underlying23 sz5 rfl rfl rfl rfl (.inr ⟨_, rfl⟩) (.inl ⟨rfl, rfl, rfl⟩) (.inl ⟨rfl, rfl⟩) g36 g37 g38) ?_))
      refine RA_step rfl (OA_v rfl (V_assign rfl) ?_)
      refine RA_nil ?_
      refine at_normal ?_
      refine SA_seq ?_
      refine SA_region ?_
      refine RA_step rfl (OA_v rfl (V_move rfl) ?_)
      refine RA_step rfl (OA_v rfl (V_eql rfl rfl) ?_)
      refine RA_nil ?_
      refine at_normal ?_
      by_cases h43 : t14 = 1
      · replace H := g_ift h43 H
        refine SA_condT rfl h43 ?_
        refine SA_seq ?_
        refine SA_region ?_
        refine RA_step rfl (OA_v rfl (V_move rfl) ?_)
        refine RA_step rfl (OA_v rfl (V_assign rfl) ?_)
        refine RA_step rfl (OA_v rfl (V_assign rfl) ?_)
        refine RA_nil ?_
        refine at_normal ?_
        refine SA_ret ?_
        refine inb_ret ?_
        refine thn_ret ?_
        refine inb_ret ?_
        have hr_ := Option.some.inj H
        subst hr_
        exact BQ_R2 [Buf (Kd.int .u8) 5 A33 c34 n35] rfl rfl rfl (Gh.sel [1] rfl rfl) ⟨A33, c34, rfl, rfl⟩
      · replace H := g_iff h43 H
        refine SA_condF rfl h43 ?_
        refine SA_skip ?_
        refine inb_normal ?_
        exact at_normal ⟨k11, Nat.lt_succ_self _, _, _, slA A4 n13 (c5 : Int) 1, (c5 : Int).toNat - n13.toNat, A33, c34, H, St.mk1 (aeq rfl (aeq rfl aeq0)) (Gh.sel [4, 1] rfl rfl)⟩

/-! ### function 15: wayfarer/wayfarerref06.Expand -/
def F15.l1 (l0 : (List S82)) (x5_6 : Int) : Nat → (List Int) → Int → Option ((List Int))
  | 0, _, _ => none
  | k + 1, x4_53, x7_53 => if x7_53 < ((rd l0 x5_6).f1) then (if 0 ≤ (IntKind.i64.wrap ((x4_53.length : Int) - ((rd l0 x5_6).f2))) ∧ (IntKind.i64.wrap ((x4_53.length : Int) - ((rd l0 x5_6).f2))) < (x4_53.length : Int) then (if x4_53.length + ([rd x4_53 (IntKind.i64.wrap ((x4_53.length : Int) - ((rd l0 x5_6).f2)))] : (List Int)).length ≤ 140737488355328 then lt (x4_53 ++ ([rd x4_53 (IntKind.i64.wrap ((x4_53.length : Int) - ((rd l0 x5_6).f2)))] : (List Int))) fun n68 => (lt (IntKind.i64.wrap (x7_53 + 1)) fun n69 => F15.l1 l0 x5_6 k n68 n69) else none) else none) else (some x4_53)
def F15.l0 (l0 : (List S82)) : Nat → (List Int) → Int → Option (Out ((List Int) × Int) ((List Int)))
  | 0, _, _ => none
  | k + 1, x4_6, x5_6 => if x5_6 < (l0.length : Int) then (if 0 ≤ x5_6 ∧ x5_6 < (l0.length : Int) then ((if ((rd l0 x5_6).f1) = 0 then (if ((rd l0 x5_6).f2) ≠ 0 then (some (Out.ret ((([] : (List Int)), 2)))) else (if x4_6.length + ([(rd l0 x5_6).f0] : (List Int)).length ≤ 140737488355328 then lt (x4_6 ++ ([(rd l0 x5_6).f0] : (List Int))) fun n32 => (some (Out.go n32)) else none)) else (lt ((decide (((rd l0 x5_6).f0) ≠ 0)) || (decide (((rd l0 x5_6).f1) < 3))) fun q33 => lt (q33 || (decide (((rd l0 x5_6).f1) > 258))) fun q36 => lt (q36 || (decide (((rd l0 x5_6).f2) < 1))) fun q39 => lt (q39 || (decide (((rd l0 x5_6).f2) > 32768))) fun q42 => lt (q42 || (decide (((rd l0 x5_6).f2) > (x4_6.length : Int)))) fun q45 => if q45 = true then (some (Out.ret ((([] : (List Int)), 2)))) else ((F15.l1 l0 x5_6 k x4_6 0 : Option ((List Int))).bind (fun t50 => some (Out.go t50)))) : Option (Out ((List Int) × Int) ((List Int)))).bind (fun t18 => Out.el t18 (fun r_ => some (Out.ret r_)) (fun s19 => if (s19.length : Int) > 65536 then (some (Out.ret ((([] : (List Int)), 4)))) else (lt (IntKind.i64.wrap (x5_6 + 1)) fun n74 => F15.l0 l0 k s19 n74)))) else none) else (some (Out.go x4_6))
def F15.f (k : Nat) (l0 : (List S82)) : Option ((List Int) × Int) := (F15.l0 l0 k ([]) 0 : Option (Out ((List Int) × Int) ((List Int)))).bind (fun t2 => Out.el t2 (fun r_ => some r_) (fun s3 => some ((s3, 0))))
set_option maxHeartbeats 2000000 in
set_option maxRecDepth 100000 in
theorem F15.ok {k : Nat} {l0 : (List S82)} {A0 : Option Addr} {c0 : Nat} {r : (List Int) × Int} (H : F15.f k l0 = some r) : SCA Try.prog 15 #[.slice A0 l0.length c0] [Ro k82 A0 c0 l0] (fun v B => ∃ (A0_ : Option Addr) (c0_ : Nat), v = .tuple #[.slice A0_ r.1.length c0_, .int .i64 r.2] ∧ B = [Buf (Kd.int .u8) 5 A0_ c0_ r.1]) := by
  refine SCA_of_body Try.func15 rfl rfl ?_
  unfold F15.f at H
  refine SA_seq ?_
  refine SA_region ?_
  refine RA_step rfl (OA_v rfl (V_assign rfl) ?_)
  refine RA_step rfl (OA_v rfl (V_assign rfl) ?_)
  refine RA_nil ?_
  refine at_normal ?_
  refine SA_seq ?_
  refine SA_region ?_
  refine RA_step rfl (OA_v rfl (V_assign rfl) ?_)
  refine RA_nil ?_
  refine at_normal ?_
  refine SA_seq ?_
  refine SA_seq ?_
  refine SA_region ?_
  refine RA_step rfl (OA_v rfl (V_assign rfl) ?_)
  refine RA_nil ?_
  refine at_normal ?_
  obtain ⟨t2, H, Bt2⟩ := g_bind H
  refine SA_mid (fun e ds As => ∃ (s3 : (List Int)), t2 = Out.go s3 ∧ ∃ (A4 : Option Addr) (c5 : Nat), St [(4, .slice A4 s3.length c5)] [Buf (Kd.int .u8) 5 A4 c5 s3] e ds As) ?_ ?_
  · refine SA_block ?_
    refine SA_loop (fun k_ e ds As => ∃ (x4_6 : (List Int)) (x5_6 : Int), ∃ (A7 : Option Addr) (c8 : Nat), F15.l0 l0 k_ x4_6 x5_6 = some t2 ∧ St [(0, .slice A0 l0.length c0), (4, .slice A7 x4_6.length c8), (5, .int .i64 x5_6)] [Ro k82 A0 c0 l0, Buf (Kd.int .u8) 5 A7 c8 x4_6] e ds As) (k := k) ⟨_, _, none, 0, H, St.mk1 (aeq rfl (aeq rfl (aeq rfl aeq0))) ((Gh.nilBuf (Kd.int .u8) 5).trans (Gh.sel [0, 1] rfl rfl))⟩ ?_
    clear H
    rintro k11 e ds As ⟨x4_6, x5_6, A7, c8, H, hst12⟩
    obtain _ | k11 := k11
    · cases H
    rw [F15.l0] at H
    refine SA.of_St hst12 fun junk => ?_
    refine SA_seq ?_
    refine SA_seq ?_
    refine SA_region ?_
    refine RA_step rfl (OA_v rfl (V_move rfl) ?_)
    refine RA_step rfl (OA_v rfl (V_move rfl) ?_)
    refine RA_step rfl (OA_v rfl (V_len Try.underlying22 rfl) ?_)
    refine RA_step rfl (OA_v rfl (V_lss rfl rfl) ?_)
    refine RA_nil ?_
    refine at_normal ?_
    by_cases h13 : x5_6 < (l0.length : Int)
    · replace H := g_ift h13 H
      refine SA_condT rfl h13 ?_
      refine SA_skip ?_
      refine at_normal ?_
      refine SA_seq ?_
      refine SA_block ?_
      refine SA_seq ?_
      refine SA_region ?_
      refine RA_step rfl (OA_v rfl (V_move rfl) ?_)
      refine RA_step rfl (OA_v rfl (V_move rfl) ?_)
      obtain ⟨⟨g14, g15⟩, H⟩ := g_pos H
      refine RA_step rfl (OA_r rfl (VR_index (i := x5_6) Try.underlying22 sz82 rfl rfl (Src.ro (k := 0) rfl) g14 g15) ?_)
      refine RA_step rfl (OA_r rfl (VR_loadA_el (enc := enc82) (i := x5_6) (j := x5_6.toNat * 3) (m := 0) (sz := 3) (vs := [.int .u8 ((rd l0 x5_6).f0), .int .i64 ((rd l0 x5_6).f1), .int .i64 ((rd l0 x5_6).f2)]) Try.underlying82 rfl sz82 rfl rfl rfl (Src.ro (k := 0) rfl) g14 g15 (fun _ _ h => h) rfl) ?_)
      refine RA_step rfl (OA_alloc rfl zero82 fun b16 => ?_)
      refine RA_step rfl (OA_st (b := b16) (m := 0) (k := 2) (vs := [.int .u8 ((rd l0 x5_6).f0), .int .i64 ((rd l0 x5_6).f1), .int .i64 ((rd l0 x5_6).f2)]) (cs' := [.int .u8 ((rd l0 x5_6).f0), .int .i64 ((rd l0 x5_6).f1), .int .i64 ((rd l0 x5_6).f2)]) rfl rfl rfl rfl rfl rfl sz82 rfl rfl ?_)
      refine RA_nil ?_
      refine at_normal ?_
      refine SA_seq ?_
      refine SA_seq ?_
      refine SA_region ?_
      refine RA_step rfl (OA_v rfl (V_fieldAddrAt (B := ⟨b16, 0, none⟩) (m := 0) Try.underlying82 rfl nz3 rfl) ?_)
      refine RA_step rfl (OA_r rfl (VR_load_blk (b := b16) (m := 1) (k := 2) Try.underlying3 rfl rfl rfl rfl) ?_)
      refine RA_step rfl (OA_v rfl (V_eql rfl rfl) ?_)
      refine RA_nil ?_
      refine at_normal ?_
      obtain ⟨t18, H, Bt18⟩ := g_bind H
      refine SA_mid (fun e ds As => ∃ (s19 : (List Int)), t18 = Out.go s19 ∧ ∃ (A20 : Option Addr) (c21 : Nat), St [(0, .slice A0 l0.length c0), (4, .slice A20 s19.length c21), (5, .int .i64 x5_6)] [Buf (Kd.int .u8) 5 A20 c21 s19, Ro k82 A0 c0 l0] e ds As) ?_ ?_
      · by_cases h23 : ((rd l0 x5_6).f1) = 0
        · replace H := g_ift h23 H
          refine SA_condT rfl h23 ?_
          refine SA_seq ?_
          refine SA_seq ?_
          refine SA_region ?_
          refine RA_step rfl (OA_v rfl (V_fieldAddrAt (B := ⟨b16, 0, none⟩) (m := 0) Try.underlying82 rfl nz3 rfl) ?_)
          refine RA_step rfl (OA_r rfl (VR_load_blk (b := b16) (m := 2) (k := 2) Try.underlying3 rfl rfl rfl rfl) ?_)
          refine RA_step rfl (OA_v rfl (V_neq rfl rfl) ?_)
          refine RA_nil ?_
          refine at_normal ?_
          by_cases h24 : ((rd l0 x5_6).f2) ≠ 0
          · replace H := g_ift h24 H
            refine SA_condT rfl h24 ?_
            refine SA_seq ?_
            refine SA_region ?_
            refine RA_step rfl (OA_v rfl (V_assign rfl) ?_)
            refine RA_step rfl (OA_v rfl (V_assign rfl) ?_)
            refine RA_nil ?_
            refine at_normal ?_
            refine SA_ret ?_
            refine thn_ret ?_
            refine thn_ret ?_
            refine thn_ret ?_
            refine inb_ret ?_
            refine thn_ret ?_
            refine thn_ret ?_
            refine inb_ret ?_
            refine thn_ret ?_
            refine thn_ret ?_
            have hr_ := Option.some.inj H
            subst hr_
            have hb_ := el_ret Bt18
            have hr_ := Option.some.inj hb_
            clear hb_
            subst hr_
            have hb_ := el_ret Bt2
            have hr_ := Option.some.inj hb_
            clear hb_
            subst hr_
            exact BQ_R2 [Buf (Kd.int .u8) 5 none 0 ([] : (List Int))] rfl rfl rfl ((Gh.nilBuf (Kd.int .u8) 5).trans (Gh.sel [3] rfl rfl)) ⟨none, 0, rfl, rfl⟩
          · replace H := g_iff h24 H
            refine SA_condF rfl h24 ?_
            refine SA_skip ?_
            refine at_normal ?_
            refine SA_region ?_
            refine RA_step rfl (OA_v rfl (V_move rfl) ?_)
            refine RA_step rfl (OA_v rfl (V_fieldAddrAt (B := ⟨b16, 0, none⟩) (m := 0) Try.underlying82 rfl nz5 rfl) ?_)
            refine RA_step rfl (OA_r rfl (VR_load_blk (b := b16) (m := 0) (k := 2) Try.underlying5 rfl rfl rfl rfl) ?_)
            refine RA_step rfl (OA_bs (kd := (Kd.int .u8)) (zv := (.int .u8 0)) (sz := 1) (cells := [.int .u8 ((rd l0 x5_6).f0)]) (xs := ([(rd l0 x5_6).f0] : (List Int))) rfl Try.underlying23 zero5 sz5 rfl rfl rfl (by kernel_rfl) rfl rfl (RL_enc (fun x_ : Int => [Value.int .u8 x_]) (fun _ _ => rfl) (by kernel_rfl)) fun b26 => ?_)
            obtain ⟨g29, H⟩ := g_pos H
            obtain ⟨n32, hn32, H⟩ := g_lt H
            refine RA_step rfl (OA_app (k := 1) (A := A7) (c := c8) (xs := x4_6) (ys := ([(rd l0 x5_6).f0] : (List Int))) n32 hn32 rfl Try.underlying23 inf5 rfl rfl rfl rfl rfl (Yld.slice Try.underlying23 (Src.buf (k := 3) rfl)) (by omega) (by omega) fun A30 c31 => ?_)
            refine RA_step rfl (OA_v rfl (V_assign rfl) ?_)
            refine RA_nil ?_
            have hr_ := Option.some.inj H
            subst hr_
            exact at_normal ⟨n32, rfl, A30, c31, St.mk1 (aeq rfl (aeq rfl (aeq rfl aeq0))) (Gh.sel [1, 0] rfl rfl)⟩
        · replace H := g_iff h23 H
          refine SA_condF rfl h23 ?_
          refine SA_seq ?_
          refine SA_seq ?_
          refine SA_region ?_
          refine RA_step rfl (OA_v rfl (V_fieldAddrAt (B := ⟨b16, 0, none⟩) (m := 0) Try.underlying82 rfl nz5 rfl) ?_)
          refine RA_step rfl (OA_r rfl (VR_load_blk (b := b16) (m := 0) (k := 2) Try.underlying5 rfl rfl rfl rfl) ?_)
          refine RA_step rfl (OA_v rfl (V_neq rfl rfl) ?_)
          refine RA_step rfl (OA_v rfl (V_move rfl) ?_)
          obtain ⟨q33, hq33, H⟩ := g_lt H
          refine RA_cut 4 (fun e ds As => St [(0, .slice A0 l0.length c0), (4, .slice A7 x4_6.length c8), (5, .int .i64 x5_6), (6, .pointer (some ⟨b16, 0, none⟩)), (36, .bool q33)] [Ro k82 A0 c0 l0, Buf (Kd.int .u8) 5 A7 c8 x4_6, Blk b16 82 [.int .u8 ((rd l0 x5_6).f0), .int .i64 ((rd l0 x5_6).f1), .int .i64 ((rd l0 x5_6).f2)]] e ds As) ?_ ?_
          · by_cases h34 : ((rd l0 x5_6).f0) ≠ 0
            · refine RA_noB rfl rfl rfl rfl (dec_t h34) rfl ?_
              refine RA_noB rfl rfl rfl rfl (dec_t h34) rfl ?_
              refine RA_noB rfl rfl rfl rfl (dec_t h34) rfl ?_
              refine RA_step rfl (OA_v rfl (V_pickT rfl (dec_t h34) rfl) ?_)
              refine RA_nil ?_
              exact at_normal (St.mk1 (aeq rfl (aeq rfl (aeq rfl (aeq rfl (aeq (congrArg Value.bool (or_t hq33 (dec_t h34))) aeq0))))) (Gh.sel [0, 1, 2] rfl rfl))
            · refine RA_yesB rfl rfl rfl rfl (dec_f h34) (OA_v rfl (V_fieldAddrAt (B := ⟨b16, 0, none⟩) (m := 0) Try.underlying82 rfl nz3 rfl) ?_)
              refine RA_yesB rfl rfl rfl rfl (dec_f h34) (OA_r rfl (VR_load_blk (b := b16) (m := 1) (k := 2) Try.underlying3 rfl rfl rfl rfl) ?_)
              refine RA_yesB rfl rfl rfl rfl (dec_f h34) (OA_v rfl (V_lss rfl rfl) ?_)
              refine RA_step rfl (OA_v rfl (V_pickF rfl (dec_f h34) rfl) ?_)
              refine RA_nil ?_
              exact at_normal (St.mk1 (aeq rfl (aeq rfl (aeq rfl (aeq rfl (aeq (congrArg Value.bool (or_f hq33 (dec_f h34))) aeq0))))) (Gh.sel [0, 1, 2] rfl rfl))
          · rintro e ds As hst35
            refine RA.of_St rfl hst35 fun junk => ?_
            refine RA_step rfl (OA_v rfl (V_move rfl) ?_)
            obtain ⟨q36, hq36, H⟩ := g_lt H
            refine RA_cut 4 (fun e ds As => St [(0, .slice A0 l0.length c0), (4, .slice A7 x4_6.length c8), (5, .int .i64 x5_6), (6, .pointer (some ⟨b16, 0, none⟩)), (41, .bool q36)] [Ro k82 A0 c0 l0, Buf (Kd.int .u8) 5 A7 c8 x4_6, Blk b16 82 [.int .u8 ((rd l0 x5_6).f0), .int .i64 ((rd l0 x5_6).f1), .int .i64 ((rd l0 x5_6).f2)]] e ds As) ?_ ?_
            · by_cases h37 : q33 = true
              · refine RA_noB rfl rfl rfl rfl (h37) rfl ?_
                refine RA_noB rfl rfl rfl rfl (h37) rfl ?_
                refine RA_noB rfl rfl rfl rfl (h37) rfl ?_
                refine RA_step rfl (OA_v rfl (V_pickT rfl (h37) rfl) ?_)
                refine RA_nil ?_
                exact at_normal (St.mk1 (aeq rfl (aeq rfl (aeq rfl (aeq rfl (aeq (congrArg Value.bool (or_t hq36 (h37))) aeq0))))) (Gh.sel [0, 1, 2] rfl rfl))
              · refine RA_yesB rfl rfl rfl rfl (bno h37) (OA_v rfl (V_fieldAddrAt (B := ⟨b16, 0, none⟩) (m := 0) Try.underlying82 rfl nz3 rfl) ?_)
                refine RA_yesB rfl rfl rfl rfl (bno h37) (OA_r rfl (VR_load_blk (b := b16) (m := 1) (k := 2) Try.underlying3 rfl rfl rfl rfl) ?_)
                refine RA_yesB rfl rfl rfl rfl (bno h37) (OA_v rfl (V_gtr rfl rfl) ?_)
                refine RA_step rfl (OA_v rfl (V_pickF rfl (bno h37) rfl) ?_)
                refine RA_nil ?_
                exact at_normal (St.mk1 (aeq rfl (aeq rfl (aeq rfl (aeq rfl (aeq (congrArg Value.bool (or_f hq36 (bno h37))) aeq0))))) (Gh.sel [0, 1, 2] rfl rfl))
            · rintro e ds As hst38
              refine RA.of_St rfl hst38 fun junk => ?_
              refine RA_step rfl (OA_v rfl (V_move rfl) ?_)
              obtain ⟨q39, hq39, H⟩ := g_lt H
              refine RA_cut 4 (fun e ds As => St [(0, .slice A0 l0.length c0), (4, .slice A7 x4_6.length c8), (5, .int .i64 x5_6), (6, .pointer (some ⟨b16, 0, none⟩)), (46, .bool q39)] [Ro k82 A0 c0 l0, Buf (Kd.int .u8) 5 A7 c8 x4_6, Blk b16 82 [.int .u8 ((rd l0 x5_6).f0), .int .i64 ((rd l0 x5_6).f1), .int .i64 ((rd l0 x5_6).f2)]] e ds As) ?_ ?_
              · by_cases h40 : q36 = true
                · refine RA_noB rfl rfl rfl rfl (h40) rfl ?_
                  refine RA_noB rfl rfl rfl rfl (h40) rfl ?_
                  refine RA_noB rfl rfl rfl rfl (h40) rfl ?_
                  refine RA_step rfl (OA_v rfl (V_pickT rfl (h40) rfl) ?_)
                  refine RA_nil ?_
                  exact at_normal (St.mk1 (aeq rfl (aeq rfl (aeq rfl (aeq rfl (aeq (congrArg Value.bool (or_t hq39 (h40))) aeq0))))) (Gh.sel [0, 1, 2] rfl rfl))
                · refine RA_yesB rfl rfl rfl rfl (bno h40) (OA_v rfl (V_fieldAddrAt (B := ⟨b16, 0, none⟩) (m := 0) Try.underlying82 rfl nz3 rfl) ?_)
                  refine RA_yesB rfl rfl rfl rfl (bno h40) (OA_r rfl (VR_load_blk (b := b16) (m := 2) (k := 2) Try.underlying3 rfl rfl rfl rfl) ?_)
                  refine RA_yesB rfl rfl rfl rfl (bno h40) (OA_v rfl (V_lss rfl rfl) ?_)
                  refine RA_step rfl (OA_v rfl (V_pickF rfl (bno h40) rfl) ?_)
                  refine RA_nil ?_
                  exact at_normal (St.mk1 (aeq rfl (aeq rfl (aeq rfl (aeq rfl (aeq (congrArg Value.bool (or_f hq39 (bno h40))) aeq0))))) (Gh.sel [0, 1, 2] rfl rfl))
              · rintro e ds As hst41
                refine RA.of_St rfl hst41 fun junk => ?_
                refine RA_step rfl (OA_v rfl (V_move rfl) ?_)
                obtain ⟨q42, hq42, H⟩ := g_lt H
                refine RA_cut 4 (fun e ds As => St [(0, .slice A0 l0.length c0), (4, .slice A7 x4_6.length c8), (5, .int .i64 x5_6), (6, .pointer (some ⟨b16, 0, none⟩)), (51, .bool q42)] [Ro k82 A0 c0 l0, Buf (Kd.int .u8) 5 A7 c8 x4_6, Blk b16 82 [.int .u8 ((rd l0 x5_6).f0), .int .i64 ((rd l0 x5_6).f1), .int .i64 ((rd l0 x5_6).f2)]] e ds As) ?_ ?_
                · by_cases h43 : q39 = true
                  · refine RA_noB rfl rfl rfl rfl (h43) rfl ?_
                    refine RA_noB rfl rfl rfl rfl (h43) rfl ?_
                    refine RA_noB rfl rfl rfl rfl (h43) rfl ?_
                    refine RA_step rfl (OA_v rfl (V_pickT rfl (h43) rfl) ?_)
                    refine RA_nil ?_
                    exact at_normal (St.mk1 (aeq rfl (aeq rfl (aeq rfl (aeq rfl (aeq (congrArg Value.bool (or_t hq42 (h43))) aeq0))))) (Gh.sel [0, 1, 2] rfl rfl))
                  · refine RA_yesB rfl rfl rfl rfl (bno h43) (OA_v rfl (V_fieldAddrAt (B := ⟨b16, 0, none⟩) (m := 0) Try.underlying82 rfl nz3 rfl) ?_)
                    refine RA_yesB rfl rfl rfl rfl (bno h43) (OA_r rfl (VR_load_blk (b := b16) (m := 2) (k := 2) Try.underlying3 rfl rfl rfl rfl) ?_)
                    refine RA_yesB rfl rfl rfl rfl (bno h43) (OA_v rfl (V_gtr rfl rfl) ?_)
                    refine RA_step rfl (OA_v rfl (V_pickF rfl (bno h43) rfl) ?_)
                    refine RA_nil ?_
                    exact at_normal (St.mk1 (aeq rfl (aeq rfl (aeq rfl (aeq rfl (aeq (congrArg Value.bool (or_f hq42 (bno h43))) aeq0))))) (Gh.sel [0, 1, 2] rfl rfl))
                · rintro e ds As hst44
                  refine RA.of_St rfl hst44 fun junk => ?_
                  refine RA_step rfl (OA_v rfl (V_move rfl) ?_)
                  obtain ⟨q45, hq45, H⟩ := g_lt H
                  refine RA_cut 6 (fun e ds As => St [(0, .slice A0 l0.length c0), (4, .slice A7 x4_6.length c8), (5, .int .i64 x5_6), (6, .pointer (some ⟨b16, 0, none⟩)), (58, .bool q45)] [Ro k82 A0 c0 l0, Buf (Kd.int .u8) 5 A7 c8 x4_6, Blk b16 82 [.int .u8 ((rd l0 x5_6).f0), .int .i64 ((rd l0 x5_6).f1), .int .i64 ((rd l0 x5_6).f2)]] e ds As) ?_ ?_
                  · by_cases h46 : q42 = true
                    · refine RA_noB rfl rfl rfl rfl (h46) rfl ?_
                      refine RA_noB rfl rfl rfl rfl (h46) rfl ?_
                      refine RA_noB rfl rfl rfl rfl (h46) rfl ?_
                      refine RA_noB rfl rfl rfl rfl (h46) rfl ?_
                      refine RA_noB rfl rfl rfl rfl (h46) rfl ?_
                      refine RA_step rfl (OA_v rfl (V_pickT rfl (h46) rfl) ?_)
                      refine RA_nil ?_
                      exact at_normal (St.mk1 (aeq rfl (aeq rfl (aeq rfl (aeq rfl (aeq (congrArg Value.bool (or_t hq45 (h46))) aeq0))))) (Gh.sel [0, 1, 2] rfl rfl))
                    · refine RA_yesB rfl rfl rfl rfl (bno h46) (OA_v rfl (V_fieldAddrAt (B := ⟨b16, 0, none⟩) (m := 0) Try.underlying82 rfl nz3 rfl) ?_)
                      refine RA_yesB rfl rfl rfl rfl (bno h46) (OA_r rfl (VR_load_blk (b := b16) (m := 2) (k := 2) Try.underlying3 rfl rfl rfl rfl) ?_)
                      refine RA_yesB rfl rfl rfl rfl (bno h46) (OA_v rfl (V_move rfl) ?_)
                      refine RA_yesB rfl rfl rfl rfl (bno h46) (OA_v rfl (V_len Try.underlying23 rfl) ?_)
                      refine RA_yesB rfl rfl rfl rfl (bno h46) (OA_v rfl (V_gtr rfl rfl) ?_)
                      refine RA_step rfl (OA_v rfl (V_pickF rfl (bno h46) rfl) ?_)
                      refine RA_nil ?_
                      exact at_normal (St.mk1 (aeq rfl (aeq rfl (aeq rfl (aeq rfl (aeq (congrArg Value.bool (or_f hq45 (bno h46))) aeq0))))) (Gh.sel [0, 1, 2] rfl rfl))
                  · rintro e ds As hst47
                    refine RA_nil ?_
                    refine at_normal ?_
                    refine SA.of_St hst47 fun junk => ?_
                    by_cases h48 : q45 = true
                    · replace H := g_ift h48 H
                      refine SA_condTb rfl h48 ?_
                      refine SA_seq ?_
                      refine SA_region ?_
                      refine RA_step rfl (OA_v rfl (V_assign rfl) ?_)
                      refine RA_step rfl (OA_v rfl (V_assign rfl) ?_)
                      refine RA_nil ?_
                      refine at_normal ?_
                      refine SA_ret ?_
                      refine thn_ret ?_
                      refine thn_ret ?_
                      refine thn_ret ?_
                      refine inb_ret ?_
                      refine thn_ret ?_
                      refine thn_ret ?_
                      refine inb_ret ?_
                      refine thn_ret ?_
                      refine thn_ret ?_
                      have hr_ := Option.some.inj H
                      subst hr_
                      have hb_ := el_ret Bt18
                      have hr_ := Option.some.inj hb_
                      clear hb_
                      subst hr_
                      have hb_ := el_ret Bt2
                      have hr_ := Option.some.inj hb_
                      clear hb_
                      subst hr_
                      exact BQ_R2 [Buf (Kd.int .u8) 5 none 0 ([] : (List Int))] rfl rfl rfl ((Gh.nilBuf (Kd.int .u8) 5).trans (Gh.sel [3] rfl rfl)) ⟨none, 0, rfl, rfl⟩
                    · replace H := g_iff h48 H
                      refine SA_condFb rfl h48 ?_
                      refine SA_skip ?_
                      refine at_normal ?_
                      refine SA_seq ?_
                      refine SA_region ?_
                      refine RA_step rfl (OA_v rfl (V_assign rfl) ?_)
                      refine RA_nil ?_
                      refine at_normal ?_
                      obtain ⟨t50, H, Bt50⟩ := g_bind H
                      refine SA_mid (fun e ds As => ∃ (A51 : Option Addr) (c52 : Nat), St [(0, .slice A0 l0.length c0), (4, .slice A51 t50.length c52), (5, .int .i64 x5_6)] [Buf (Kd.int .u8) 5 A51 c52 t50, Ro k82 A0 c0 l0] e ds As) ?_ ?_
                      · refine SA_block ?_
                        refine SA_loop (fun k_ e ds As => ∃ (x4_53 : (List Int)) (x7_53 : Int), ∃ (A54 : Option Addr) (c55 : Nat), F15.l1 l0 x5_6 k_ x4_53 x7_53 = some t50 ∧ St [(0, .slice A0 l0.length c0), (4, .slice A54 x4_53.length c55), (5, .int .i64 x5_6), (6, .pointer (some ⟨b16, 0, none⟩)), (7, .int .i64 x7_53)] [Ro k82 A0 c0 l0, Buf (Kd.int .u8) 5 A54 c55 x4_53, Blk b16 82 [.int .u8 ((rd l0 x5_6).f0), .int .i64 ((rd l0 x5_6).f1), .int .i64 ((rd l0 x5_6).f2)]] e ds As) (k := k11) ⟨_, _, A7, c8, H, St.mk1 (aeq rfl (aeq rfl (aeq rfl (aeq rfl (aeq rfl aeq0))))) (Gh.sel [0, 1, 2] rfl rfl)⟩ ?_
                        clear H
                        rintro k57 e ds As ⟨x4_53, x7_53, A54, c55, H, hst58⟩
                        obtain _ | k57 := k57
                        · cases H
                        rw [F15.l1] at H
                        refine SA.of_St hst58 fun junk => ?_
                        refine SA_seq ?_
                        refine SA_seq ?_
                        refine SA_region ?_
                        refine RA_step rfl (OA_v rfl (V_move rfl) ?_)
                        refine RA_step rfl (OA_v rfl (V_fieldAddrAt (B := ⟨b16, 0, none⟩) (m := 0) Try.underlying82 rfl nz3 rfl) ?_)
                        refine RA_step rfl (OA_r rfl (VR_load_blk (b := b16) (m := 1) (k := 2) Try.underlying3 rfl rfl rfl rfl) ?_)
                        refine RA_step rfl (OA_v rfl (V_lss rfl rfl) ?_)
                        refine RA_nil ?_
                        refine at_normal ?_
                        by_cases h59 : x7_53 < ((rd l0 x5_6).f1)
                        · replace H := g_ift h59 H
                          refine SA_condT rfl h59 ?_
                          refine SA_skip ?_
                          refine at_normal ?_
                          refine SA_seq ?_
                          refine SA_block ?_
                          refine SA_region ?_
                          refine RA_step rfl (OA_v rfl (V_move rfl) ?_)
                          refine RA_step rfl (OA_v rfl (V_move rfl) ?_)
                          refine RA_step rfl (OA_v rfl (V_move rfl) ?_)
                          refine RA_step rfl (OA_v rfl (V_len Try.underlying23 rfl) ?_)
                          refine RA_step rfl (OA_v rfl (V_fieldAddrAt (B := ⟨b16, 0, none⟩) (m := 0) Try.underlying82 rfl nz3 rfl) ?_)
                          refine RA_step rfl (OA_r rfl (VR_load_blk (b := b16) (m := 2) (k := 2) Try.underlying3 rfl rfl rfl rfl) ?_)
                          refine RA_step rfl (OA_v rfl (V_sub rfl rfl) ?_)
                          obtain ⟨⟨g60, g61⟩, H⟩ := g_pos H
                          refine RA_step rfl (OA_r rfl (VR_index (i := IntKind.i64.wrap ((x4_53.length : Int) - ((rd l0 x5_6).f2))) Try.underlying23 sz5 rfl rfl (Src.buf (k := 1) rfl) g60 g61) ?_)
                          refine RA_step rfl (OA_r rfl (VR_load_el (enc := (fun x_ : Int => [Value.int .u8 x_])) (i := IntKind.i64.wrap ((x4_53.length : Int) - ((rd l0 x5_6).f2))) (j := (IntKind.i64.wrap ((x4_53.length : Int) - ((rd l0 x5_6).f2))).toNat * 1) (m := 0) (sz := 1) Try.underlying5 rfl rfl rfl rfl (Src.buf (k := 1) rfl) g60 g61 (fun _ _ h => h) rfl) ?_)
                          refine RA_step rfl (OA_bs (kd := (Kd.int .u8)) (zv := (.int .u8 0)) (sz := 1) (cells := [.int .u8 (rd x4_53 (IntKind.i64.wrap ((x4_53.length : Int) - ((rd l0 x5_6).f2))))]) (xs := ([rd x4_53 (IntKind.i64.wrap ((x4_53.length : Int) - ((rd l0 x5_6).f2)))] : (List Int))) rfl Try.underlying23 zero5 sz5 rfl rfl rfl (by kernel_rfl) rfl rfl (RL_enc (fun x_ : Int => [Value.int .u8 x_]) (fun _ _ => rfl) (by kernel_rfl)) fun b62 => ?_)
                          obtain ⟨g65, H⟩ := g_pos H
                          obtain ⟨n68, hn68, H⟩ := g_lt H
                          refine RA_step rfl (OA_app (k := 1) (A := A54) (c := c55) (xs := x4_53) (ys := ([rd x4_53 (IntKind.i64.wrap ((x4_53.length : Int) - ((rd l0 x5_6).f2)))] : (List Int))) n68 hn68 rfl Try.underlying23 inf5 rfl rfl rfl rfl rfl (Yld.slice Try.underlying23 (Src.buf (k := 3) rfl)) (by omega) (by omega) fun A66 c67 => ?_)
                          refine RA_step rfl (OA_v rfl (V_assign rfl) ?_)
                          refine RA_nil ?_
                          refine inb_normal ?_
                          refine at_normal ?_
                          refine SA_region ?_
                          refine RA_step rfl (OA_v rfl (V_move rfl) ?_)
                          refine RA_step rfl (OA_v rfl (V_add rfl rfl) ?_)
                          obtain ⟨n69, hn69, H⟩ := g_lt H
                          refine RA_step rfl (OA_v rfl (V_assign (v := .int .i64 n69) (congrArg (Value.int .i64) hn69.symm)) ?_)
                          refine RA_nil ?_
                          exact at_normal ⟨k57, Nat.lt_succ_self _, _, _, A66, c67, H, St.mk1 (aeq rfl (aeq rfl (aeq rfl (aeq rfl (aeq rfl aeq0))))) (Gh.sel [0, 1, 2] rfl rfl)⟩
                        · replace H := g_iff h59 H
                          refine SA_condF rfl h59 ?_
                          refine SA_exit ?_
                          refine thn_exit ?_
                          refine thn_exit ?_
                          refine inb_hit ?_
                          have hr_ := Option.some.inj H
                          subst hr_
                          exact at_normal ⟨A54, c55, St.mk1 (aeq rfl (aeq rfl (aeq rfl aeq0))) (Gh.sel [1, 0] rfl rfl)⟩
                      · rintro e ds As ⟨A51, c52, hst70⟩
                        clear H
                        have H := Bt50
                        clear Bt50
                        have hr_ := Option.some.inj H
                        subst hr_
                        exact at_normal ⟨t50, rfl, A51, c52, St.conv hst70 fun junk => St.mk1 (aeq rfl (aeq rfl (aeq rfl aeq0))) (Gh.sel [0, 1] rfl rfl)⟩
      · rintro e ds As ⟨s19, ht, A20, c21, hst71⟩
        clear H
        subst ht
        replace Bt18 := el_go Bt18
        have H := Bt18
        clear Bt18
        refine at_normal ?_
        refine SA.of_St hst71 fun junk => ?_
        refine SA_seq ?_
        refine SA_region ?_
        refine RA_step rfl (OA_v rfl (V_move rfl) ?_)
        refine RA_step rfl (OA_v rfl (V_len Try.underlying23 rfl) ?_)
        refine RA_step rfl (OA_v rfl (V_gtr rfl rfl) ?_)
        refine RA_nil ?_
        refine at_normal ?_
        by_cases h72 : (s19.length : Int) > 65536
        · replace H := g_ift h72 H
          refine SA_condT rfl h72 ?_
          refine SA_seq ?_
          refine SA_region ?_
          refine RA_step rfl (OA_v rfl (V_assign rfl) ?_)
          refine RA_step rfl (OA_v rfl (V_assign rfl) ?_)
          refine RA_nil ?_
          refine at_normal ?_
          refine SA_ret ?_
          refine inb_ret ?_
          refine thn_ret ?_
          refine thn_ret ?_
          refine inb_ret ?_
          refine thn_ret ?_
          refine thn_ret ?_
          have hr_ := Option.some.inj H
          subst hr_
          have hb_ := el_ret Bt2
          have hr_ := Option.some.inj hb_
          clear hb_
          subst hr_
          exact BQ_R2 [Buf (Kd.int .u8) 5 none 0 ([] : (List Int))] rfl rfl rfl ((Gh.nilBuf (Kd.int .u8) 5).trans (Gh.sel [2] rfl rfl)) ⟨none, 0, rfl, rfl⟩
        · replace H := g_iff h72 H
          refine SA_condF rfl h72 ?_
          refine SA_skip ?_
          refine inb_normal ?_
          refine at_normal ?_
          refine SA_region ?_
          refine RA_step rfl (OA_v rfl (V_move rfl) ?_)
          refine RA_step rfl (OA_v rfl (V_add rfl rfl) ?_)
          obtain ⟨n74, hn74, H⟩ := g_lt H
          refine RA_step rfl (OA_v rfl (V_assign (v := .int .i64 n74) (congrArg (Value.int .i64) hn74.symm)) ?_)
          refine RA_nil ?_
          exact at_normal ⟨k11, Nat.lt_succ_self _, _, _, A20, c21, H, St.mk1 (aeq rfl (aeq rfl (aeq rfl aeq0))) (Gh.sel [1, 0] rfl rfl)⟩
    · replace H := g_iff h13 H
      refine SA_condF rfl h13 ?_
      refine SA_exit ?_
      refine thn_exit ?_
      refine thn_exit ?_
      refine inb_hit ?_
      have hr_ := Option.some.inj H
      subst hr_
      exact at_normal ⟨x4_6, rfl, A7, c8, St.mk1 (aeq rfl aeq0) (Gh.sel [1] rfl rfl)⟩
  · rintro e ds As ⟨s3, ht, A4, c5, hst75⟩
    clear H
    subst ht
    replace Bt2 := el_go Bt2
    have H := Bt2
    clear Bt2
    refine at_normal ?_
    refine SA.of_St hst75 fun junk => ?_
    refine SA_seq ?_
    refine SA_region ?_
    refine RA_step rfl (OA_v rfl (V_move rfl) ?_)
    refine RA_step rfl (OA_v rfl (V_assign rfl) ?_)
    refine RA_step rfl (OA_v rfl (V_assign rfl) ?_)
    refine RA_nil ?_
    refine at_normal ?_
    refine SA_ret ?_
    have hr_ := Option.some.inj H
    subst hr_
    exact BQ_R2 [Buf (Kd.int .u8) 5 A4 c5 s3] rfl rfl rfl (Gh.sel [0] rfl rfl) ⟨A4, c5, rfl, rfl⟩

/-! ### function 16: wayfarer/deflate.Stored -/
def F16.l0 : Nat → (List Int) → (List Int) → Option ((List Int) × Int)
  | 0, _, _ => none
  | k + 1, x0_3, x4_3 => lt (minI (x0_3.length : Int) 65535) fun n13 => (if n13 = (x0_3.length : Int) then (some 1) else (some 0) : Option (Int)).bind (fun t14 => if x4_3.length + ([t14, IntKind.u8.wrap (n13), IntKind.u8.wrap (shrI .i64 n13 8), cplI .u8 (IntKind.u8.wrap (n13)), cplI .u8 (IntKind.u8.wrap (shrI .i64 n13 8))] : (List Int)).length ≤ 140737488355328 then lt (x4_3 ++ ([t14, IntKind.u8.wrap (n13), IntKind.u8.wrap (shrI .i64 n13 8), cplI .u8 (IntKind.u8.wrap (n13)), cplI .u8 (IntKind.u8.wrap (shrI .i64 n13 8))] : (List Int))) fun n23 => (if 0 ≤ (0 : Int) ∧ (0 : Int) ≤ n13 ∧ n13 ≤ (x0_3.length : Int) ∧ n13 ≤ n13 ∧ n13 ≤ (x0_3.length : Int) then lt (sub x0_3 (0 : Int) n13) fun n30 => (if n23.length + n30.length ≤ 140737488355328 then lt (n23 ++ n30) fun n35 => (if 0 ≤ n13 ∧ n13 ≤ (x0_3.length : Int) ∧ (x0_3.length : Int) ≤ (x0_3.length : Int) ∧ (x0_3.length : Int) ≤ (x0_3.length : Int) ∧ (x0_3.length : Int) ≤ (x0_3.length : Int) then lt (sub x0_3 n13 (x0_3.length : Int)) fun n42 => (if t14 = 1 then (some ((n35, 0))) else (F16.l0 k n42 n35)) else none) else none) else none) else none)
def F16.f (k : Nat) (l0 : (List Int)) : Option ((List Int) × Int) := if (l0.length : Int) > 65536 then (some ((([] : (List Int)), 4))) else (F16.l0 k l0 ([]))
set_option maxHeartbeats 2000000 in
set_option maxRecDepth 100000 in
theorem F16.ok {k : Nat} {l0 : (List Int)} {A0 : Option Addr} {c0 : Nat} {r : (List Int) × Int} (H : F16.f k l0 = some r) : SCA Try.prog 16 #[.slice A0 l0.length c0] [Ro (Kd.int .u8) A0 c0 l0] (fun v B => ∃ (A0_ : Option Addr) (c0_ : Nat), v = .tuple #[.slice A0_ r.1.length c0_, .int .i64 r.2] ∧ B = [Buf (Kd.int .u8) 5 A0_ c0_ r.1]) := by
  refine SCA_of_body Try.func16 rfl rfl ?_
  unfold F16.f at H
  refine SA_seq ?_
  refine SA_region ?_
  refine RA_step rfl (OA_v rfl (V_assign rfl) ?_)
  refine RA_step rfl (OA_v rfl (V_assign rfl) ?_)
  refine RA_nil ?_
  refine at_normal ?_
  refine SA_seq ?_
  refine SA_seq ?_
  refine SA_region ?_
  refine RA_step rfl (OA_v rfl (V_move rfl) ?_)
  refine RA_step rfl (OA_v rfl (V_len Try.underlying23 rfl) ?_)
  refine RA_step rfl (OA_v rfl (V_gtr rfl rfl) ?_)
  refine RA_nil ?_
  refine at_normal ?_
  by_cases h2 : (l0.length : Int) > 65536
  · replace H := g_ift h2 H
    refine SA_condT rfl h2 ?_
    refine SA_seq ?_
    refine SA_region ?_
    refine RA_step rfl (OA_v rfl (V_assign rfl) ?_)
    refine RA_step rfl (OA_v rfl (V_assign rfl) ?_)
    refine RA_nil ?_
    refine at_normal ?_
    refine SA_ret ?_
    refine thn_ret ?_
    have hr_ := Option.some.inj H
    subst hr_
    exact BQ_R2 [Buf (Kd.int .u8) 5 none 0 ([] : (List Int))] rfl rfl rfl ((Gh.nilBuf (Kd.int .u8) 5).trans (Gh.sel [1] rfl rfl)) ⟨none, 0, rfl, rfl⟩
  · replace H := g_iff h2 H
    refine SA_condF rfl h2 ?_
    refine SA_skip ?_
    refine at_normal ?_
    refine SA_seq ?_
    refine SA_region ?_
    refine RA_step rfl (OA_v rfl (V_assign rfl) ?_)
    refine RA_nil ?_
    refine at_normal ?_
    refine SA_block ?_
    refine SA_loop (fun k_ e ds As => ∃ (x0_3 : (List Int)) (x4_3 : (List Int)), ∃ (A4 : Option Addr) (c5 : Nat), ∃ (A7 : Option Addr) (c8 : Nat), F16.l0 k_ x0_3 x4_3 = some r ∧ St [(0, .slice A4 x0_3.length c5), (4, .slice A7 x4_3.length c8)] [Ro (Kd.int .u8) A4 c5 x0_3, Buf (Kd.int .u8) 5 A7 c8 x4_3] e ds As) (k := k) ⟨_, _, A0, c0, none, 0, H, St.mk1 (aeq rfl (aeq rfl aeq0)) ((Gh.nilBuf (Kd.int .u8) 5).trans (Gh.sel [0, 1] rfl rfl))⟩ ?_
    clear H
    rintro k11 e ds As ⟨x0_3, x4_3, A4, c5, A7, c8, H, hst12⟩
    obtain _ | k11 := k11
    · cases H
    rw [F16.l0] at H
    refine SA.of_St hst12 fun junk => ?_
    refine SA_block ?_
    refine SA_seq ?_
    refine SA_region ?_
    refine RA_step rfl (OA_v rfl (V_move rfl) ?_)
    refine RA_step rfl (OA_v rfl (V_len Try.underlying23 rfl) ?_)
    refine RA_step rfl (OA_v rfl (V_min rfl rfl) ?_)
    obtain ⟨n13, hn13, H⟩ := g_lt H
    refine RA_step rfl (OA_v rfl (V_assign (v := .int .i64 n13) (congrArg (Value.int .i64) hn13.symm)) ?_)
    refine RA_nil ?_
    refine at_normal ?_
    refine SA_seq ?_
    refine SA_region ?_
    refine RA_step rfl (OA_v rfl (V_assign rfl) ?_)
    refine RA_nil ?_
    refine at_normal ?_
    refine SA_seq ?_
    refine SA_seq ?_
    refine SA_region ?_
    refine RA_step rfl (OA_v rfl (V_move rfl) ?_)
    refine RA_step rfl (OA_v rfl (V_move rfl) ?_)
    refine RA_step rfl (OA_v rfl (V_len Try.underlying23 rfl) ?_)
    refine RA_step rfl (OA_v rfl (V_eql rfl rfl) ?_)
    refine RA_nil ?_
    refine at_normal ?_
    obtain ⟨t14, H, Bt14⟩ := g_bind H
    refine SA_mid (fun e ds As => St [(0, .slice A4 x0_3.length c5), (4, .slice A7 x4_3.length c8), (5, .int .i64 n13), (6, .int .u8 t14)] [Ro (Kd.int .u8) A4 c5 x0_3, Buf (Kd.int .u8) 5 A7 c8 x4_3] e ds As) ?_ ?_
    · by_cases h15 : n13 = (x0_3.length : Int)
      · replace H := g_ift h15 H
        refine SA_condT rfl h15 ?_
        refine SA_region ?_
        refine RA_step rfl (OA_v rfl (V_assign rfl) ?_)
        refine RA_nil ?_
        have hr_ := Option.some.inj H
        subst hr_
        exact at_normal (St.mk1 (aeq rfl (aeq rfl (aeq rfl (aeq rfl aeq0)))) (Gh.sel [0, 1] rfl rfl))
      · replace H := g_iff h15 H
        refine SA_condF rfl h15 ?_
        refine SA_skip ?_
        have hr_ := Option.some.inj H
        subst hr_
        exact at_normal (St.mk1 (aeq rfl (aeq rfl (aeq rfl (aeq rfl aeq0)))) (Gh.sel [0, 1] rfl rfl))
    · rintro e ds As hst16
      clear H
      have H := Bt14
      clear Bt14
      refine at_normal ?_
      refine SA.of_St hst16 fun junk => ?_
      refine SA_seq ?_
      refine SA_region ?_
      refine RA_step rfl (OA_v rfl (V_move rfl) ?_)
      refine RA_step rfl (OA_v rfl (V_move rfl) ?_)
      refine RA_step rfl (OA_v rfl (V_move rfl) ?_)
      refine RA_step rfl (OA_v rfl (V_conv (T := 3) (by kernel_rfl) Try.underlying5 rfl) ?_)
      refine RA_step rfl (OA_v rfl (V_move rfl) ?_)
      refine RA_step rfl (OA_v rfl (V_shr rfl rfl (by decide)) ?_)
      refine RA_step rfl (OA_v rfl (V_conv (T := 3) (by kernel_rfl) Try.underlying5 rfl) ?_)
      refine RA_step rfl (OA_v rfl (V_move rfl) ?_)
      refine RA_step rfl (OA_v rfl (V_conv (T := 3) (by kernel_rfl) Try.underlying5 rfl) ?_)
      refine RA_step rfl (OA_v rfl (V_cpl rfl) ?_)
      refine RA_step rfl (OA_v rfl (V_move rfl) ?_)
      refine RA_step rfl (OA_v rfl (V_shr rfl rfl (by decide)) ?_)
      refine RA_step rfl (OA_v rfl (V_conv (T := 3) (by kernel_rfl) Try.underlying5 rfl) ?_)
      refine RA_step rfl (OA_v rfl (V_cpl rfl) ?_)
      refine RA_step rfl (OA_bs (kd := (Kd.int .u8)) (zv := (.int .u8 0)) (sz := 1) (cells := [.int .u8 t14, .int .u8 (IntKind.u8.wrap (n13)), .int .u8 (IntKind.u8.wrap (shrI .i64 n13 8)), .int .u8 (cplI .u8 (IntKind.u8.wrap (n13))), .int .u8 (cplI .u8 (IntKind.u8.wrap (shrI .i64 n13 8)))]) (xs := ([t14, IntKind.u8.wrap (n13), IntKind.u8.wrap (shrI .i64 n13 8), cplI .u8 (IntKind.u8.wrap (n13)), cplI .u8 (IntKind.u8.wrap (shrI .i64 n13 8))] : (List Int))) rfl Try.underlying23 zero5 sz5 rfl rfl rfl (by kernel_rfl) rfl rfl (RL_enc (fun x_ : Int => [Value.int .u8 x_]) (fun _ _ => rfl) (by kernel_rfl)) fun b17 => ?_)
      obtain ⟨g20, H⟩ := g_pos H
      obtain ⟨n23, hn23, H⟩ := g_lt H
      refine RA_step rfl (OA_app (k := 1) (A := A7) (c := c8) (xs := x4_3) (ys := ([t14, IntKind.u8.wrap (n13), IntKind.u8.wrap (shrI .i64 n13 8), cplI .u8 (IntKind.u8.wrap (n13)), cplI .u8 (IntKind.u8.wrap (shrI .i64 n13 8))] : (List Int))) n23 hn23 rfl Try.underlying23 inf5 rfl rfl rfl rfl rfl (Yld.slice Try.underlying23 (Src.buf (k := 2) rfl)) (by omega) (by omega) fun A21 c22 => ?_)
      refine RA_step rfl (OA_v rfl (V_assign rfl) ?_)
      refine RA_nil ?_
      refine at_normal ?_
      refine SA_seq ?_
      refine SA_region ?_
      refine RA_step rfl (OA_v rfl (V_move rfl) ?_)
      refine RA_step rfl (OA_v rfl (V_move rfl) ?_)
      refine RA_step rfl (OA_v rfl (V_move rfl) ?_)
      refine RA_step rfl (OA_v rfl (V_move rfl) ?_)
      obtain ⟨⟨g24, g25, g26, g27, g28⟩, H⟩ := g_pos H
      obtain ⟨n30, hn30, H⟩ := g_lt H
      refine RA_step rfl (OA.ghost (Gh.subN (k := 0) (l := (0 : Int)) (h := n13) (m := n13) (sz := 1) hn30 rfl rfl g24 g25 g26 (.inr g27)) (OA_r rfl (VR_sub (k := 0) (l := (0 : Int)) (h := n13) (m := n13) hn30 rfl Try.underlying23 sz5 rfl rfl rfl rfl (.inl ⟨rfl, rfl⟩) (.inr ⟨_, rfl⟩) (.inr ⟨⟨_, rfl⟩, ⟨_, rfl⟩, g27, g28⟩) g24 g25 g26) ?_))
      obtain ⟨g32, H⟩ := g_pos H
      obtain ⟨n35, hn35, H⟩ := g_lt H
      refine RA_step rfl (OA_app (k := 1) (A := A21) (c := c22) (xs := n23) (ys := n30) n35 hn35 rfl Try.underlying23 inf5 rfl rfl rfl rfl rfl (Yld.slice Try.underlying23 (Src.ro (k := 3) rfl)) (by omega) (by omega) fun A33 c34 => ?_)
      refine RA_step rfl (OA_v rfl (V_assign rfl) ?_)
      refine RA_nil ?_
      refine at_normal ?_
      refine SA_seq ?_
      refine SA_region ?_
      refine RA_step rfl (OA_v rfl (V_move rfl) ?_)
      refine RA_step rfl (OA_v rfl (V_move rfl) ?_)
      refine RA_step rfl (OA_v rfl (V_move rfl) ?_)
      refine RA_step rfl (OA_v rfl (V_len Try.underlying23 rfl) ?_)
      refine RA_step rfl (OA_v rfl (V_move rfl) ?_)
      refine RA_step rfl (OA_v rfl (V_len Try.underlying23 rfl) ?_)
      obtain ⟨⟨g36, g37, g38, g39, g40⟩, H⟩ := g_pos H
      obtain ⟨n42, hn42, H⟩ := g_lt H
      refine RA_step rfl (OA.ghost (Gh.subN (k := 0) (l := n13) (h := (x0_3.length : Int)) (m := (x0_3.length : Int)) (sz := 1) hn42 rfl rfl g36 g37 g38 (.inr g39)) (OA_r rfl (VR_sub (k := 0) (l := n13) (h := (x0_3.length : Int)) (m := (x0_3.length : Int)) hn42 rfl Try.underlying23 sz5 rfl rfl rfl rfl (.inr ⟨_, rfl⟩) (.inr ⟨_, rfl⟩) (.inr ⟨⟨_, rfl⟩, ⟨_, rfl⟩, g39, g40⟩) g36 g37 g38) ?_))
      refine RA_step rfl (OA_v rfl (V_assign rfl) ?_)
      refine RA_nil ?_
      refine at_normal ?_
      refine SA_seq ?_
      refine SA_region ?_
      refine RA_step rfl (OA_v rfl (V_move rfl) ?_)
      refine RA_step rfl (OA_v rfl (V_eql rfl rfl) ?_)
      refine RA_nil ?_
      refine at_normal ?_
      by_cases h43 : t14 = 1
      · replace H := g_ift h43 H
        refine SA_condT rfl h43 ?_
        refine SA_seq ?_
        refine SA_region ?_
        refine RA_step rfl (OA_v rfl (V_move rfl) ?_)
        refine RA_step rfl (OA_v rfl (V_assign rfl) ?_)
        refine RA_step rfl (OA_v rfl (V_assign rfl) ?_)
        refine RA_nil ?_
        refine at_normal ?_
        refine SA_ret ?_
        refine inb_ret ?_
        refine thn_ret ?_
        refine inb_ret ?_
        have hr_ := Option.some.inj H
        subst hr_
        exact BQ_R2 [Buf (Kd.int .u8) 5 A33 c34 n35] rfl rfl rfl (Gh.sel [1] rfl rfl) ⟨A33, c34, rfl, rfl⟩
      · replace H := g_iff h43 H
        refine SA_condF rfl h43 ?_
        refine SA_skip ?_
        refine inb_normal ?_
        exact at_normal ⟨k11, Nat.lt_succ_self _, _, _, slA A4 n13 (x0_3.length : Int) 1, (x0_3.length : Int).toNat - n13.toNat, A33, c34, H, St.mk1 (aeq rfl (aeq rfl aeq0)) (Gh.sel [4, 1] rfl rfl)⟩

/-! ### function 19: wayfarer/wayfarerlaw06.anchored -/
def F19.f (k : Nat)  : Option (Bool) := (F14.f k ([(S82.mk 97 0 0), (S82.mk 0 4 1)] : (List S82))).bind (fun r3 => (F16.f k ([7] : (List Int))).bind (fun r9 => (F14.f k ([(S82.mk 0 3 1)] : (List S82))).bind (fun r15 => lt ((decide (r3.2 = 0)) && (decide (r9.2 = 0))) fun q19 => lt (q19 && (decide (r15.2 = 2))) fun q22 => (if q22 = true then ((F18.f r3.1 ([97, 97, 97, 97, 97] : (List Int))).bind (fun r29 => some r29)) else (some false) : Option Bool).bind (fun q25 => (if q25 = true then ((F18.f r9.1 ([1, 1, 0, 254, 255, 7] : (List Int))).bind (fun r36 => some r36)) else (some false) : Option Bool).bind (fun q32 => some (q32))))))
set_option maxHeartbeats 2000000 in
set_option maxRecDepth 100000 in
theorem F19.ok {k : Nat}  {r : Bool} (H : F19.f k  = some r) : SCA Try.prog 19 #[] [] (fun v B => v = .bool r ∧ B = []) := by
  refine SCA_of_body Try.func19 rfl rfl ?_
  unfold F19.f at H
  refine SA_seq ?_
  refine SA_region ?_
  refine RA_step rfl (OA_v rfl (V_assign rfl) ?_)
  refine RA_nil ?_
  refine at_normal ?_
  refine SA_seq ?_
  refine SA_region ?_
  refine RA_step rfl (OA_v rfl (V_build (cells := [.int .u8 97, .int .i64 0, .int .i64 0]) zero82 Try.underlying82 plc82 rfl) ?_)
  refine RA_step rfl (OA_v rfl (V_build (cells := [.int .u8 0, .int .i64 4, .int .i64 1]) zero82 Try.underlying82 plc82 rfl) ?_)
  refine RA_step rfl (OA_bs (kd := k82) (zv := (.agg #[.int .u8 0, .int .i64 0, .int .i64 0])) (sz := 3) (cells := [.int .u8 97, .int .i64 0, .int .i64 0, .int .u8 0, .int .i64 4, .int .i64 1]) (xs := ([(S82.mk 97 0 0), (S82.mk 0 4 1)] : (List S82))) rfl Try.underlying22 zero82 sz82 rfl rfl rfl (by kernel_rfl) rfl rfl (RL_enc enc82 (fun _ _ => rfl) (by kernel_rfl)) fun b1 => ?_)
  obtain ⟨r3, C41, H⟩ := g_bind H
  refine RA_step rfl (OA.ghost (Gh.freeze (k := 0) rfl) (OA_callA [0] [0] rfl (X_fn Try.func14 nm14 rfl rfl) rfl (F14.ok C41) rfl ?_))
  rintro _ _ ⟨A4, c5, rfl, rfl⟩
  refine RA_step rfl (OA_v rfl (V_move rfl) ?_)
  refine RA_step rfl (OA_v rfl (V_extract rfl rfl) ?_)
  refine RA_step rfl (OA_v rfl (V_extract rfl rfl) ?_)
  refine RA_step rfl (OA_v rfl (V_assign rfl) ?_)
  refine RA_step rfl (OA_v rfl (V_assign rfl) ?_)
  refine RA_nil ?_
  refine at_normal ?_
  refine SA_seq ?_
  refine SA_region ?_
  refine RA_step rfl (OA_bs (kd := (Kd.int .u8)) (zv := (.int .u8 0)) (sz := 1) (cells := [.int .u8 7]) (xs := ([7] : (List Int))) rfl Try.underlying23 zero5 sz5 rfl rfl rfl (by kernel_rfl) rfl rfl (RL_enc (fun x_ : Int => [Value.int .u8 x_]) (fun _ _ => rfl) (by kernel_rfl)) fun b7 => ?_)
  obtain ⟨r9, C40, H⟩ := g_bind H
  refine RA_step rfl (OA.ghost (Gh.freeze (k := 2) rfl) (OA_callA [2] [0, 1, 2] rfl (X_fn Try.func16 nm16 rfl rfl) rfl (F16.ok C40) rfl ?_))
  rintro _ _ ⟨A10, c11, rfl, rfl⟩
  refine RA_step rfl (OA_v rfl (V_move rfl) ?_)
  refine RA_step rfl (OA_v rfl (V_extract rfl rfl) ?_)
  refine RA_step rfl (OA_v rfl (V_extract rfl rfl) ?_)
  refine RA_step rfl (OA_v rfl (V_assign rfl) ?_)
  refine RA_step rfl (OA_v rfl (V_assign rfl) ?_)
  refine RA_nil ?_
  refine at_normal ?_
  refine SA_seq ?_
  refine SA_region ?_
  refine RA_step rfl (OA_v rfl (V_build (cells := [.int .u8 0, .int .i64 3, .int .i64 1]) zero82 Try.underlying82 plc82 rfl) ?_)
  refine RA_step rfl (OA_bs (kd := k82) (zv := (.agg #[.int .u8 0, .int .i64 0, .int .i64 0])) (sz := 3) (cells := [.int .u8 0, .int .i64 3, .int .i64 1]) (xs := ([(S82.mk 0 3 1)] : (List S82))) rfl Try.underlying22 zero82 sz82 rfl rfl rfl (by kernel_rfl) rfl rfl (RL_enc enc82 (fun _ _ => rfl) (by kernel_rfl)) fun b13 => ?_)
  obtain ⟨r15, C39, H⟩ := g_bind H
  refine RA_step rfl (OA.ghost (Gh.freeze (k := 4) rfl) (OA_callA [4] [0, 1, 2, 3, 4] rfl (X_fn Try.func14 nm14 rfl rfl) rfl (F14.ok C39) rfl ?_))
  rintro _ _ ⟨A16, c17, rfl, rfl⟩
  refine RA_step rfl (OA_v rfl (V_move rfl) ?_)
  refine RA_step rfl (OA_v rfl (V_extract rfl rfl) ?_)
  refine RA_step rfl (OA_v rfl (V_extract rfl rfl) ?_)
  refine RA_step rfl (OA_v rfl (V_assign rfl) ?_)
  refine RA_step rfl (OA_v rfl (V_assign rfl) ?_)
  refine RA_nil ?_
  refine at_normal ?_
  refine SA_seq ?_
  refine SA_region ?_
  refine RA_step rfl (OA_v rfl (V_move rfl) ?_)
  refine RA_step rfl (OA_v rfl (V_eql rfl rfl) ?_)
  refine RA_step rfl (OA_v rfl (V_move rfl) ?_)
  obtain ⟨q19, hq19, H⟩ := g_lt H
  refine RA_cut 3 (fun e ds As => St [(1, .slice A4 r3.1.length c5), (3, .slice A10 r9.1.length c11), (6, .int .i64 r15.2), (30, .bool q19)] [Buf (Kd.int .u8) 5 A4 c5 r3.1, Buf (Kd.int .u8) 5 A10 c11 r9.1] e ds As) ?_ ?_
  · by_cases h20 : r3.2 = 0
    · refine RA_yesB rfl rfl rfl rfl (dec_t h20) (OA_v rfl (V_move rfl) ?_)
      refine RA_yesB rfl rfl rfl rfl (dec_t h20) (OA_v rfl (V_eql rfl rfl) ?_)
      refine RA_step rfl (OA_v rfl (V_pickT rfl (dec_t h20) rfl) ?_)
      refine RA_nil ?_
      exact at_normal (St.mk1 (aeq rfl (aeq rfl (aeq rfl (aeq (congrArg Value.bool (and_t hq19 (dec_t h20))) aeq0)))) (Gh.sel [2, 1] rfl rfl))
    · refine RA_noB rfl rfl rfl rfl (dec_f h20) rfl ?_
      refine RA_noB rfl rfl rfl rfl (dec_f h20) rfl ?_
      refine RA_step rfl (OA_v rfl (V_pickF rfl (dec_f h20) rfl) ?_)
      refine RA_nil ?_
      exact at_normal (St.mk1 (aeq rfl (aeq rfl (aeq rfl (aeq (congrArg Value.bool (and_f hq19 (dec_f h20))) aeq0)))) (Gh.sel [2, 1] rfl rfl))
  · rintro e ds As hst21
    refine RA.of_St rfl hst21 fun junk => ?_
    refine RA_step rfl (OA_v rfl (V_move rfl) ?_)
    obtain ⟨q22, hq22, H⟩ := g_lt H
    refine RA_cut 3 (fun e ds As => St [(1, .slice A4 r3.1.length c5), (3, .slice A10 r9.1.length c11), (34, .bool q22)] [Buf (Kd.int .u8) 5 A4 c5 r3.1, Buf (Kd.int .u8) 5 A10 c11 r9.1] e ds As) ?_ ?_
    · by_cases h23 : q19 = true
      · refine RA_yesB rfl rfl rfl rfl (h23) (OA_v rfl (V_move rfl) ?_)
        refine RA_yesB rfl rfl rfl rfl (h23) (OA_v rfl (V_eql rfl rfl) ?_)
        refine RA_step rfl (OA_v rfl (V_pickT rfl (h23) rfl) ?_)
        refine RA_nil ?_
        exact at_normal (St.mk1 (aeq rfl (aeq rfl (aeq (congrArg Value.bool (and_t hq22 (h23))) aeq0))) (Gh.sel [0, 1] rfl rfl))
      · refine RA_noB rfl rfl rfl rfl (bno h23) rfl ?_
        refine RA_noB rfl rfl rfl rfl (bno h23) rfl ?_
        refine RA_step rfl (OA_v rfl (V_pickF rfl (bno h23) rfl) ?_)
        refine RA_nil ?_
        exact at_normal (St.mk1 (aeq rfl (aeq rfl (aeq (congrArg Value.bool (and_f hq22 (bno h23))) aeq0))) (Gh.sel [0, 1] rfl rfl))
    · rintro e ds As hst24
      refine RA.of_St rfl hst24 fun junk => ?_
      refine RA_step rfl (OA_v rfl (V_move rfl) ?_)
      obtain ⟨q25, H, Bq25⟩ := g_bind H
      refine RA_cut 5 (fun e ds As => St [(3, .slice A10 r9.1.length c11), (40, .bool q25)] [Buf (Kd.int .u8) 5 A10 c11 r9.1] e ds As) ?_ ?_
      · by_cases h26 : q22 = true
        · replace H := g_ift h26 H
          refine RA_yesB rfl rfl rfl rfl (h26) (OA_v rfl (V_move rfl) ?_)
          refine RA_yesB rfl rfl rfl rfl (h26) (OA_bs (kd := (Kd.int .u8)) (zv := (.int .u8 0)) (sz := 1) (cells := [.int .u8 97, .int .u8 97, .int .u8 97, .int .u8 97, .int .u8 97]) (xs := ([97, 97, 97, 97, 97] : (List Int))) rfl Try.underlying23 zero5 sz5 rfl rfl rfl (by kernel_rfl) rfl rfl (RL_enc (fun x_ : Int => [Value.int .u8 x_]) (fun _ _ => rfl) (by kernel_rfl)) fun b27 => ?_)
          refine RA_yesB rfl rfl rfl rfl (h26) (OA_bytesConst (k := 2) rfl Try.underlying23 Try.underlying5 rfl (by simp) rfl ?_)
          obtain ⟨r29, C30, H⟩ := g_bind H
          refine RA_yesB rfl rfl rfl rfl (h26) (OA.ghost (Gh.freeze (k := 0) rfl) (OA_callA [0, 2] [0, 1, 2] rfl (X_fn Try.func18 nm18 rfl rfl) rfl (F18.ok C30) rfl ?_))
          rintro _ _ ⟨rfl, rfl⟩
          refine RA_step rfl (OA_v rfl (V_pickT rfl (h26) rfl) ?_)
          have hr_ := Option.some.inj H
          subst hr_
          refine RA_nil ?_
          exact at_normal (St.mk1 (aeq rfl (aeq rfl aeq0)) (Gh.sel [1] rfl rfl))
        · replace H := g_iff h26 H
          refine RA_noB rfl rfl rfl rfl (bno h26) rfl ?_
          refine RA_noB rfl rfl rfl rfl (bno h26) rfl ?_
          refine RA_noB rfl rfl rfl rfl (bno h26) rfl ?_
          refine RA_noB rfl rfl rfl rfl (bno h26) rfl ?_
          refine RA_step rfl (OA_v rfl (V_pickF rfl (bno h26) rfl) ?_)
          have hr_ := Option.some.inj H
          subst hr_
          refine RA_nil ?_
          exact at_normal (St.mk1 (aeq rfl (aeq rfl aeq0)) (Gh.sel [1] rfl rfl))
      · rintro e ds As hst31
        clear H
        have H := Bq25
        clear Bq25
        refine RA.of_St rfl hst31 fun junk => ?_
        refine RA_step rfl (OA_v rfl (V_move rfl) ?_)
        obtain ⟨q32, H, Bq32⟩ := g_bind H
        refine RA_cut 4 (fun e ds As => St [(45, .bool q32)] [] e ds As) ?_ ?_
        · by_cases h33 : q25 = true
          · replace H := g_ift h33 H
            refine RA_yesB rfl rfl rfl rfl (h33) (OA_v rfl (V_move rfl) ?_)
            refine RA_yesB rfl rfl rfl rfl (h33) (OA_bs (kd := (Kd.int .u8)) (zv := (.int .u8 0)) (sz := 1) (cells := [.int .u8 1, .int .u8 1, .int .u8 0, .int .u8 254, .int .u8 255, .int .u8 7]) (xs := ([1, 1, 0, 254, 255, 7] : (List Int))) rfl Try.underlying23 zero5 sz5 rfl rfl rfl (by kernel_rfl) rfl rfl (RL_enc (fun x_ : Int => [Value.int .u8 x_]) (fun _ _ => rfl) (by kernel_rfl)) fun b34 => ?_)
            obtain ⟨r36, C37, H⟩ := g_bind H
            refine RA_yesB rfl rfl rfl rfl (h33) (OA.ghost (Gh.freeze (k := 0) rfl) (OA.ghost (Gh.freeze (k := 1) rfl) (OA_callA [0, 1] [0, 1] rfl (X_fn Try.func18 nm18 rfl rfl) rfl (F18.ok C37) rfl ?_)))
            rintro _ _ ⟨rfl, rfl⟩
            refine RA_step rfl (OA_v rfl (V_pickT rfl (h33) rfl) ?_)
            have hr_ := Option.some.inj H
            subst hr_
            refine RA_nil ?_
            exact at_normal (St.mk1 (aeq rfl aeq0) (Gh.sel [] rfl rfl))
          · replace H := g_iff h33 H
            refine RA_noB rfl rfl rfl rfl (bno h33) rfl ?_
            refine RA_noB rfl rfl rfl rfl (bno h33) rfl ?_
            refine RA_noB rfl rfl rfl rfl (bno h33) rfl ?_
            refine RA_step rfl (OA_v rfl (V_pickF rfl (bno h33) rfl) ?_)
            have hr_ := Option.some.inj H
            subst hr_
            refine RA_nil ?_
            exact at_normal (St.mk1 (aeq rfl aeq0) (Gh.sel [] rfl rfl))
        · rintro e ds As hst38
          clear H
          have H := Bq32
          clear Bq32
          refine RA.of_St rfl hst38 fun junk => ?_
          refine RA_step rfl (OA_v rfl (V_assign rfl) ?_)
          refine RA_nil ?_
          refine at_normal ?_
          refine SA_ret ?_
          have hr_ := Option.some.inj H
          subst hr_
          exact BQ_R1 [] rfl rfl (Gh.sel [] rfl rfl) ⟨rfl, rfl⟩

/-! ### function 3: wayfarer/wayfarerlaw06.DeflateTells -/
def F3.f (k : Nat) (l0 : (List S82)) (l1 : (List Int)) : Option (Bool) := (F14.f k l0).bind (fun r3 => (F15.f k l0).bind (fun r7 => (F16.f k l1).bind (fun r11 => (F17.f k l1).bind (fun r15 => (F18.f r3.1 r7.1).bind (fun r19 => lt (r19 && (decide (r3.2 = r7.2))) fun q20 => (if q20 = true then ((F18.f r11.1 r15.1).bind (fun r25 => some r25)) else (some false) : Option Bool).bind (fun q23 => lt (q23 && (decide (r11.2 = r15.2))) fun q28 => (if q28 = true then ((F19.f k ).bind (fun r33 => some r33)) else (some false) : Option Bool).bind (fun q31 => some (q31))))))))
set_option maxHeartbeats 2000000 in
set_option maxRecDepth 100000 in
theorem F3.ok {k : Nat} {l0 : (List S82)} {l1 : (List Int)} {A0 : Option Addr} {c0 : Nat} {A1 : Option Addr} {c1 : Nat} {r : Bool} (H : F3.f k l0 l1 = some r) : SCA Try.prog 3 #[.slice A0 l0.length c0, .slice A1 l1.length c1] [Ro k82 A0 c0 l0, Ro (Kd.int .u8) A1 c1 l1] (fun v B => v = .bool r ∧ B = []) := by
  refine SCA_of_body Try.func3 rfl rfl ?_
  unfold F3.f at H
  refine SA_seq ?_
  refine SA_region ?_
  refine RA_step rfl (OA_v rfl (V_assign rfl) ?_)
  refine RA_nil ?_
  refine at_normal ?_
  refine SA_seq ?_
  refine SA_region ?_
  refine RA_step rfl (OA_v rfl (V_move rfl) ?_)
  obtain ⟨r3, C40, H⟩ := g_bind H
  refine RA_step rfl (OA_callA [0] [0, 1] rfl (X_fn Try.func14 nm14 rfl rfl) rfl (F14.ok C40) rfl ?_)
  rintro _ _ ⟨A4, c5, rfl, rfl⟩
  refine RA_step rfl (OA_v rfl (V_move rfl) ?_)
  refine RA_step rfl (OA_v rfl (V_extract rfl rfl) ?_)
  refine RA_step rfl (OA_v rfl (V_extract rfl rfl) ?_)
  refine RA_step rfl (OA_v rfl (V_assign rfl) ?_)
  refine RA_step rfl (OA_v rfl (V_assign rfl) ?_)
  refine RA_nil ?_
  refine at_normal ?_
  refine SA_seq ?_
  refine SA_region ?_
  refine RA_step rfl (OA_v rfl (V_move rfl) ?_)
  obtain ⟨r7, C39, H⟩ := g_bind H
  refine RA_step rfl (OA_callA [1] [0, 1, 2] rfl (X_fn Try.func15 nm15 rfl rfl) rfl (F15.ok C39) rfl ?_)
  rintro _ _ ⟨A8, c9, rfl, rfl⟩
  refine RA_step rfl (OA_v rfl (V_move rfl) ?_)
  refine RA_step rfl (OA_v rfl (V_extract rfl rfl) ?_)
  refine RA_step rfl (OA_v rfl (V_extract rfl rfl) ?_)
  refine RA_step rfl (OA_v rfl (V_assign rfl) ?_)
  refine RA_step rfl (OA_v rfl (V_assign rfl) ?_)
  refine RA_nil ?_
  refine at_normal ?_
  refine SA_seq ?_
  refine SA_region ?_
  refine RA_step rfl (OA_v rfl (V_move rfl) ?_)
  obtain ⟨r11, C38, H⟩ := g_bind H
  refine RA_step rfl (OA_callA [3] [0, 1, 2, 3] rfl (X_fn Try.func16 nm16 rfl rfl) rfl (F16.ok C38) rfl ?_)
  rintro _ _ ⟨A12, c13, rfl, rfl⟩
  refine RA_step rfl (OA_v rfl (V_move rfl) ?_)
  refine RA_step rfl (OA_v rfl (V_extract rfl rfl) ?_)
  refine RA_step rfl (OA_v rfl (V_extract rfl rfl) ?_)
  refine RA_step rfl (OA_v rfl (V_assign rfl) ?_)
  refine RA_step rfl (OA_v rfl (V_assign rfl) ?_)
  refine RA_nil ?_
  refine at_normal ?_
  refine SA_seq ?_
  refine SA_region ?_
  refine RA_step rfl (OA_v rfl (V_move rfl) ?_)
  obtain ⟨r15, C37, H⟩ := g_bind H
  refine RA_step rfl (OA_callA [4] [0, 1, 2, 3, 4] rfl (X_fn Try.func17 nm17 rfl rfl) rfl (F17.ok C37) rfl ?_)
  rintro _ _ ⟨A16, c17, rfl, rfl⟩
  refine RA_step rfl (OA_v rfl (V_move rfl) ?_)
  refine RA_step rfl (OA_v rfl (V_extract rfl rfl) ?_)
  refine RA_step rfl (OA_v rfl (V_extract rfl rfl) ?_)
  refine RA_step rfl (OA_v rfl (V_assign rfl) ?_)
  refine RA_step rfl (OA_v rfl (V_assign rfl) ?_)
  refine RA_nil ?_
  refine at_normal ?_
  refine SA_seq ?_
  refine SA_region ?_
  refine RA_step rfl (OA_v rfl (V_move rfl) ?_)
  refine RA_step rfl (OA_v rfl (V_move rfl) ?_)
  obtain ⟨r19, C36, H⟩ := g_bind H
  refine RA_step rfl (OA.ghost (Gh.freeze (k := 3) rfl) (OA.ghost (Gh.freeze (k := 2) rfl) (OA_callA [3, 2] [0, 1, 2, 3, 4, 5] rfl (X_fn Try.func18 nm18 rfl rfl) rfl (F18.ok C36) rfl ?_)))
  rintro _ _ ⟨rfl, rfl⟩
  refine RA_step rfl (OA_v rfl (V_move rfl) ?_)
  obtain ⟨q20, hq20, H⟩ := g_lt H
  refine RA_cut 4 (fun e ds As => St [(9, .slice A12 r11.1.length c13), (10, .int .i64 r11.2), (11, .slice A16 r15.1.length c17), (12, .int .i64 r15.2), (40, .bool q20)] [Buf (Kd.int .u8) 5 A12 c13 r11.1, Buf (Kd.int .u8) 5 A16 c17 r15.1] e ds As) ?_ ?_
  · by_cases h21 : r19 = true
    · refine RA_yesB rfl rfl rfl rfl (h21) (OA_v rfl (V_move rfl) ?_)
      refine RA_yesB rfl rfl rfl rfl (h21) (OA_v rfl (V_move rfl) ?_)
      refine RA_yesB rfl rfl rfl rfl (h21) (OA_v rfl (V_eql rfl rfl) ?_)
      refine RA_step rfl (OA_v rfl (V_pickT rfl (h21) rfl) ?_)
      refine RA_nil ?_
      exact at_normal (St.mk1 (aeq rfl (aeq rfl (aeq rfl (aeq rfl (aeq (congrArg Value.bool (and_t hq20 (h21))) aeq0))))) (Gh.sel [1, 0] rfl rfl))
    · refine RA_noB rfl rfl rfl rfl (bno h21) rfl ?_
      refine RA_noB rfl rfl rfl rfl (bno h21) rfl ?_
      refine RA_noB rfl rfl rfl rfl (bno h21) rfl ?_
      refine RA_step rfl (OA_v rfl (V_pickF rfl (bno h21) rfl) ?_)
      refine RA_nil ?_
      exact at_normal (St.mk1 (aeq rfl (aeq rfl (aeq rfl (aeq rfl (aeq (congrArg Value.bool (and_f hq20 (bno h21))) aeq0))))) (Gh.sel [1, 0] rfl rfl))
  · rintro e ds As hst22
    refine RA.of_St rfl hst22 fun junk => ?_
    refine RA_step rfl (OA_v rfl (V_move rfl) ?_)
    obtain ⟨q23, H, Bq23⟩ := g_bind H
    refine RA_cut 4 (fun e ds As => St [(10, .int .i64 r11.2), (12, .int .i64 r15.2), (45, .bool q23)] [] e ds As) ?_ ?_
    · by_cases h24 : q20 = true
      · replace H := g_ift h24 H
        refine RA_yesB rfl rfl rfl rfl (h24) (OA_v rfl (V_move rfl) ?_)
        refine RA_yesB rfl rfl rfl rfl (h24) (OA_v rfl (V_move rfl) ?_)
        obtain ⟨r25, C26, H⟩ := g_bind H
        refine RA_yesB rfl rfl rfl rfl (h24) (OA.ghost (Gh.freeze (k := 0) rfl) (OA.ghost (Gh.freeze (k := 1) rfl) (OA_callA [0, 1] [0, 1] rfl (X_fn Try.func18 nm18 rfl rfl) rfl (F18.ok C26) rfl ?_)))
        rintro _ _ ⟨rfl, rfl⟩
        refine RA_step rfl (OA_v rfl (V_pickT rfl (h24) rfl) ?_)
        have hr_ := Option.some.inj H
        subst hr_
        refine RA_nil ?_
        exact at_normal (St.mk1 (aeq rfl (aeq rfl (aeq rfl aeq0))) (Gh.sel [] rfl rfl))
      · replace H := g_iff h24 H
        refine RA_noB rfl rfl rfl rfl (bno h24) rfl ?_
        refine RA_noB rfl rfl rfl rfl (bno h24) rfl ?_
        refine RA_noB rfl rfl rfl rfl (bno h24) rfl ?_
        refine RA_step rfl (OA_v rfl (V_pickF rfl (bno h24) rfl) ?_)
        have hr_ := Option.some.inj H
        subst hr_
        refine RA_nil ?_
        exact at_normal (St.mk1 (aeq rfl (aeq rfl (aeq rfl aeq0))) (Gh.sel [] rfl rfl))
    · rintro e ds As hst27
      clear H
      have H := Bq23
      clear Bq23
      refine RA.of_St rfl hst27 fun junk => ?_
      refine RA_step rfl (OA_v rfl (V_move rfl) ?_)
      obtain ⟨q28, hq28, H⟩ := g_lt H
      refine RA_cut 4 (fun e ds As => St [(50, .bool q28)] [] e ds As) ?_ ?_
      · by_cases h29 : q23 = true
        · refine RA_yesB rfl rfl rfl rfl (h29) (OA_v rfl (V_move rfl) ?_)
          refine RA_yesB rfl rfl rfl rfl (h29) (OA_v rfl (V_move rfl) ?_)
          refine RA_yesB rfl rfl rfl rfl (h29) (OA_v rfl (V_eql rfl rfl) ?_)
          refine RA_step rfl (OA_v rfl (V_pickT rfl (h29) rfl) ?_)
          refine RA_nil ?_
          exact at_normal (St.mk1 (aeq (congrArg Value.bool (and_t hq28 (h29))) aeq0) (Gh.sel [] rfl rfl))
        · refine RA_noB rfl rfl rfl rfl (bno h29) rfl ?_
          refine RA_noB rfl rfl rfl rfl (bno h29) rfl ?_
          refine RA_noB rfl rfl rfl rfl (bno h29) rfl ?_
          refine RA_step rfl (OA_v rfl (V_pickF rfl (bno h29) rfl) ?_)
          refine RA_nil ?_
          exact at_normal (St.mk1 (aeq (congrArg Value.bool (and_f hq28 (bno h29))) aeq0) (Gh.sel [] rfl rfl))
      · rintro e ds As hst30
        refine RA.of_St rfl hst30 fun junk => ?_
        refine RA_step rfl (OA_v rfl (V_move rfl) ?_)
        obtain ⟨q31, H, Bq31⟩ := g_bind H
        refine RA_cut 2 (fun e ds As => St [(53, .bool q31)] [] e ds As) ?_ ?_
        · by_cases h32 : q28 = true
          · replace H := g_ift h32 H
            obtain ⟨r33, C34, H⟩ := g_bind H
            refine RA_yesB rfl rfl rfl rfl (h32) (OA_callA [] [] rfl (X_fn Try.func19 nm19 rfl rfl) rfl (F19.ok C34) rfl ?_)
            rintro _ _ ⟨rfl, rfl⟩
            refine RA_step rfl (OA_v rfl (V_pickT rfl (h32) rfl) ?_)
            have hr_ := Option.some.inj H
            subst hr_
            refine RA_nil ?_
            exact at_normal (St.mk1 (aeq rfl aeq0) (Gh.sel [] rfl rfl))
          · replace H := g_iff h32 H
            refine RA_noB rfl rfl rfl rfl (bno h32) rfl ?_
            refine RA_step rfl (OA_v rfl (V_pickF rfl (bno h32) rfl) ?_)
            have hr_ := Option.some.inj H
            subst hr_
            refine RA_nil ?_
            exact at_normal (St.mk1 (aeq rfl aeq0) (Gh.sel [] rfl rfl))
        · rintro e ds As hst35
          clear H
          have H := Bq31
          clear Bq31
          refine RA.of_St rfl hst35 fun junk => ?_
          refine RA_step rfl (OA_v rfl (V_assign rfl) ?_)
          refine RA_nil ?_
          refine at_normal ?_
          refine SA_ret ?_
          have hr_ := Option.some.inj H
          subst hr_
          exact BQ_R1 [] rfl rfl (Gh.sel [] rfl rfl) ⟨rfl, rfl⟩
end Go.Proofs.Ytocjoegcfojjhaa.Ga

import Derived.Test.YtodkeoibebimgaaProg
import Derived.Test.YtodkeoibebimgaaSl7
namespace Go.Proofs.Ytodkeoibebimgaa.Ka
open Go Go.RowKit Go.Proofs.Ytodkeoibebimgaa.SL
set_option linter.unusedVariables false
set_option linter.unusedSimpArgs false
attribute [local irreducible] IntKind.wrap minI maxI shrI shlI andI orI xorI andNotI cplI rd sub bytesOf strOf slA
structure S25 where
  f0 : Int
  f1 : (List Int)
  f2 : Int
  f3 : Int
  f4 : Int
  deriving Inhabited, DecidableEq
structure S27 where
  f0 : Bool
  f1 : Bool
  deriving Inhabited, DecidableEq
def D25 (x : S25) (cs_ : List Value) (Bs_ : List Asrt) : Prop := ∃ (A1 : Option Addr) (c2 : Nat), cs_ = [.int .u8 x.f0, .slice A1 x.f1.length c2, .int .i64 x.f2, .int .i64 x.f3, .int .u8 x.f4] ∧ Bs_ = [Ro (Kd.int .u8) A1 c2 x.f1]
def k25 : Kd S25 := Kd.ofD 5 D25 (fun ⟨_, _, e, _⟩ => by rw [e]; rfl) (fun ⟨_, _, e, _⟩ v h => by rw [e] at h; simp only [List.mem_cons, List.not_mem_nil, or_false] at h; rcases h with rfl | rfl | rfl | rfl | rfl <;> rfl)
def enc27 (x : S27) : List Value := [.bool x.f0, .bool x.f1]
def k27 : Kd S27 := Kd.fl 2 enc27 (fun _ => rfl) (fun x v h => by simp only [enc27, List.mem_cons, List.not_mem_nil, or_false] at h; rcases h with rfl | rfl <;> rfl)
theorem sz3 : (Try.prog.info? 3).map (·.size) = some 1 := by kernel_rfl
theorem nz3 : ((Try.prog.info? 3).map fun i => decide (i.size = 0)) = some false := by kernel_rfl
theorem sz4 : (Try.prog.info? 4).map (·.size) = some 1 := by kernel_rfl
theorem nz4 : ((Try.prog.info? 4).map fun i => decide (i.size = 0)) = some false := by kernel_rfl
theorem sz5 : (Try.prog.info? 5).map (·.size) = some 1 := by kernel_rfl
theorem nz5 : ((Try.prog.info? 5).map fun i => decide (i.size = 0)) = some false := by kernel_rfl
theorem sz22 : (Try.prog.info? 22).map (·.size) = some 1 := by kernel_rfl
theorem nz22 : ((Try.prog.info? 22).map fun i => decide (i.size = 0)) = some false := by kernel_rfl
theorem sz23 : (Try.prog.info? 23).map (·.size) = some 1 := by kernel_rfl
theorem nz23 : ((Try.prog.info? 23).map fun i => decide (i.size = 0)) = some false := by kernel_rfl
theorem sz25 : (Try.prog.info? 25).map (·.size) = some 5 := by kernel_rfl
theorem nz25 : ((Try.prog.info? 25).map fun i => decide (i.size = 0)) = some false := by kernel_rfl
theorem zero5 : (Try.prog.info? 5).bind (·.zero) = some (.int .u8 0) := by kernel_rfl
theorem inf5 : (Try.prog.info? 5).map (fun i => (i.zero, i.size, i.bytes)) = some (some (.int .u8 0), 1, 1) := by kernel_rfl
theorem zero25 : (Try.prog.info? 25).bind (·.zero) = some (.agg #[.int .u8 0, .slice none 0 0, .int .i64 0, .int .i64 0, .int .u8 0]) := by kernel_rfl
theorem inf25 : (Try.prog.info? 25).map (fun i => (i.zero, i.size, i.bytes)) = some (some (.agg #[.int .u8 0, .slice none 0 0, .int .i64 0, .int .i64 0, .int .u8 0]), 5, 56) := by kernel_rfl
theorem plc25 : ∀ fs, Try.prog.underlying 25 = some (.struct fs) → ∀ w, (fs.mapM (fun f => do pure (f.offset, ← sizeOf f.type) : Field → Sem (Nat × Nat))).run Try.prog w = .ok ([(0, 1), (1, 1), (2, 1), (3, 1), (4, 1)] : List (Nat × Nat)).toArray w := fun fs h w => by rw [Try.underlying25] at h; cases h; kernel_rfl
theorem nm14 : (Try.f14.name == "runtime.NumGoroutine") = false := by kernel_rfl
theorem nm15 : (Try.f15.name == "runtime.NumGoroutine") = false := by kernel_rfl
theorem nm16 : (Try.f16.name == "runtime.NumGoroutine") = false := by kernel_rfl
theorem nm17 : (Try.f17.name == "runtime.NumGoroutine") = false := by kernel_rfl
theorem nm18 : (Try.f18.name == "runtime.NumGoroutine") = false := by kernel_rfl
theorem nm19 : (Try.f19.name == "runtime.NumGoroutine") = false := by kernel_rfl
theorem nm57 : (Try.f57.name == "runtime.NumGoroutine") = false := by kernel_rfl
theorem nm58 : (Try.f58.name == "runtime.NumGoroutine") = false := by kernel_rfl
theorem nm59 : (Try.f59.name == "runtime.NumGoroutine") = false := by kernel_rfl
/-! ### function 57: wayfarer/wire.May -/
def F57.f (a0 : S25) : Option (Bool) := lt ((decide (a0.f2 = 0)) && (decide (a0.f3 = 0))) fun q4 => if a0.f0 = 1 then (lt (q4 && (decide (a0.f4 = 0))) fun q8 => lt (q8 && (decide ((a0.f1.length : Int) ≥ 1))) fun q11 => lt (q11 && (decide ((a0.f1.length : Int) ≤ 4096))) fun q14 => some (q14)) else (if a0.f0 = 3 then (lt (q4 && (decide (a0.f4 = 0))) fun q18 => lt (q18 && (decide ((a0.f1.length : Int) ≤ 4096))) fun q21 => some (q21)) else (if a0.f0 = 2 then (lt ((decide (a0.f4 = 0)) && (decide ((a0.f1.length : Int) = 0))) fun q25 => lt (q25 && (decide (a0.f2 ≥ 1))) fun q28 => lt (q28 && (decide (a0.f2 ≤ 512))) fun q31 => lt (q31 && (decide (a0.f3 ≥ 1))) fun q34 => lt (q34 && (decide (a0.f3 ≤ 512))) fun q37 => some (q37)) else (if a0.f0 = 4 then (lt (q4 && (decide ((a0.f1.length : Int) = 0))) fun q41 => lt (q41 && (decide (a0.f4 ≥ 65))) fun q44 => lt (q44 && (decide (a0.f4 ≤ 68))) fun q47 => some (q47)) else (some (false)))))
set_option maxHeartbeats 2000000 in
set_option maxRecDepth 100000 in
theorem F57.ok {a0 : S25} {A0_0 : Option Addr} {c0_0 : Nat} {r : Bool} (H : F57.f a0 = some r) : SCA Try.prog 57 #[.agg #[.int .u8 a0.f0, .slice A0_0 a0.f1.length c0_0, .int .i64 a0.f2, .int .i64 a0.f3, .int .u8 a0.f4]] [Ro (Kd.int .u8) A0_0 c0_0 a0.f1] (fun v B => v = .bool r ∧ B = []) := by
  refine SCA_of_body Try.func57 rfl rfl ?_
  unfold F57.f at H
  refine SA_seq ?_
  refine SA_region ?_
  refine RA_step rfl (OA_box rfl rfl fun b2 => ?_)
  refine RA_step rfl (OA_v (v := .bool false) rfl (V_assign rfl) ?_)
  refine RA_nil ?_
  refine at_normal ?_
  refine SA_seq ?_
  refine SA_region ?_
  refine RA_step rfl (OA_v (v := .pointer (some ((⟨b2, 0, none⟩ : Addr).add 2))) rfl (V_fieldAddrN (B := ⟨b2, 0, none⟩) (m := 0) (o := 2) Try.underlying25 rfl nz3 rfl rfl) ?_)
  refine RA_step rfl (OA_r rfl (VR_load_blk (b := b2) (m := 2) (k := 1) Try.underlying3 rfl rfl rfl rfl) ?_)
  refine RA_step rfl (OA_v (v := .bool (decide (a0.f2 = 0))) rfl (V_eql rfl rfl) ?_)
  refine RA_step rfl (OA_v (v := .bool (decide (a0.f2 = 0))) rfl (V_move rfl) ?_)
  obtain ⟨q4, hq4, H⟩ := g_lt H
  refine RA_cut 4 (fun e ds As => St [(1, .pointer (some ⟨b2, 0, none⟩)), (11, .bool q4)] [Blk b2 25 [.int .u8 a0.f0, .slice A0_0 a0.f1.length c0_0, .int .i64 a0.f2, .int .i64 a0.f3, .int .u8 a0.f4], Ro (Kd.int .u8) A0_0 c0_0 a0.f1] e ds As) ?_ ?_
  · by_cases h5 : a0.f2 = 0
    · refine RA_yesB rfl rfl rfl rfl (dec_t h5) (OA_v (v := .pointer (some ((⟨b2, 0, none⟩ : Addr).add 3))) rfl (V_fieldAddrN (B := ⟨b2, 0, none⟩) (m := 0) (o := 3) Try.underlying25 rfl nz3 rfl rfl) ?_)
      refine RA_yesB rfl rfl rfl rfl (dec_t h5) (OA_r rfl (VR_load_blk (b := b2) (m := 3) (k := 1) Try.underlying3 rfl rfl rfl rfl) ?_)
      refine RA_yesB rfl rfl rfl rfl (dec_t h5) (OA_v (v := .bool (decide (a0.f3 = 0))) rfl (V_eql rfl rfl) ?_)
      refine RA_step rfl (OA_v rfl (V_pickT rfl (dec_t h5) rfl) ?_)
      refine RA_nil ?_
      exact at_normal (St.mk1 (aeq rfl (aeq (congrArg Value.bool (and_t hq4 (dec_t h5))) aeq0)) (Gh.sel [1, 0] rfl rfl))
    · refine RA_noB rfl rfl rfl rfl (dec_f h5) rfl ?_
      refine RA_noB rfl rfl rfl rfl (dec_f h5) rfl ?_
      refine RA_noB rfl rfl rfl rfl (dec_f h5) rfl ?_
      refine RA_step rfl (OA_v rfl (V_pickF rfl (dec_f h5) rfl) ?_)
      refine RA_nil ?_
      exact at_normal (St.mk1 (aeq rfl (aeq (congrArg Value.bool (and_f hq4 (dec_f h5))) aeq0)) (Gh.sel [1, 0] rfl rfl))
  · rintro e ds As hst6
    refine RA.of_St rfl hst6 fun junk => ?_
    refine RA_step rfl (OA_v (v := .bool q4) rfl (V_assign rfl) ?_)
    refine RA_nil ?_
    refine at_normal ?_
    refine SA_seq ?_
    refine SA_seq ?_
    refine SA_region ?_
    refine RA_step rfl (OA_v (v := .pointer (some ⟨b2, 0, none⟩)) rfl (V_fieldAddrN (B := ⟨b2, 0, none⟩) (m := 0) (o := 0) Try.underlying25 rfl nz22 rfl rfl) ?_)
    refine RA_step rfl (OA_r rfl (VR_load_blk (b := b2) (m := 0) (k := 0) Try.underlying22 rfl rfl rfl rfl) ?_)
    refine RA_nil ?_
    refine at_normal ?_
    refine SA_block ?_
    refine SA_seq ?_
    refine SA_region ?_
    refine RA_step rfl (OA_v (v := .bool (decide (a0.f0 = 1))) rfl (V_eql rfl rfl) ?_)
    refine RA_step rfl (OA_v (v := .bool (decide (a0.f0 = 1))) rfl (V_assign rfl) ?_)
    refine RA_nil ?_
    refine at_normal ?_
    by_cases h7 : a0.f0 = 1
    · replace H := g_ift h7 H
      refine SA_condT rfl h7 ?_
      refine SA_seq ?_
      refine SA_region ?_
      refine RA_step rfl (OA_v (v := .bool q4) rfl (V_move rfl) ?_)
      refine RA_step rfl (OA_v (v := .bool q4) rfl (V_move rfl) ?_)
      obtain ⟨q8, hq8, H⟩ := g_lt H
      refine RA_cut 4 (fun e ds As => St [(1, .pointer (some ⟨b2, 0, none⟩)), (21, .bool q8)] [Blk b2 25 [.int .u8 a0.f0, .slice A0_0 a0.f1.length c0_0, .int .i64 a0.f2, .int .i64 a0.f3, .int .u8 a0.f4], Ro (Kd.int .u8) A0_0 c0_0 a0.f1] e ds As) ?_ ?_
      · by_cases h9 : q4 = true
        · refine RA_yesB rfl rfl rfl rfl (h9) (OA_v (v := .pointer (some ((⟨b2, 0, none⟩ : Addr).add 4))) rfl (V_fieldAddrN (B := ⟨b2, 0, none⟩) (m := 0) (o := 4) Try.underlying25 rfl nz5 rfl rfl) ?_)
          refine RA_yesB rfl rfl rfl rfl (h9) (OA_r rfl (VR_load_blk (b := b2) (m := 4) (k := 0) Try.underlying5 rfl rfl rfl rfl) ?_)
          refine RA_yesB rfl rfl rfl rfl (h9) (OA_v (v := .bool (decide (a0.f4 = 0))) rfl (V_eql rfl rfl) ?_)
          refine RA_step rfl (OA_v rfl (V_pickT rfl (h9) rfl) ?_)
          refine RA_nil ?_
          exact at_normal (St.mk1 (aeq rfl (aeq (congrArg Value.bool (and_t hq8 (h9))) aeq0)) (Gh.sel [0, 1] rfl rfl))
        · refine RA_noB rfl rfl rfl rfl (bno h9) rfl ?_
          refine RA_noB rfl rfl rfl rfl (bno h9) rfl ?_
          refine RA_noB rfl rfl rfl rfl (bno h9) rfl ?_
          refine RA_step rfl (OA_v rfl (V_pickF rfl (bno h9) rfl) ?_)
          refine RA_nil ?_
          exact at_normal (St.mk1 (aeq rfl (aeq (congrArg Value.bool (and_f hq8 (bno h9))) aeq0)) (Gh.sel [0, 1] rfl rfl))
      · rintro e ds As hst10
        refine RA.of_St rfl hst10 fun junk => ?_
        refine RA_step rfl (OA_v (v := .bool q8) rfl (V_move rfl) ?_)
        obtain ⟨q11, hq11, H⟩ := g_lt H
        refine RA_cut 5 (fun e ds As => St [(1, .pointer (some ⟨b2, 0, none⟩)), (27, .bool q11)] [Blk b2 25 [.int .u8 a0.f0, .slice A0_0 a0.f1.length c0_0, .int .i64 a0.f2, .int .i64 a0.f3, .int .u8 a0.f4], Ro (Kd.int .u8) A0_0 c0_0 a0.f1] e ds As) ?_ ?_
        · by_cases h12 : q8 = true
          · refine RA_yesB rfl rfl rfl rfl (h12) (OA_v (v := .pointer (some ((⟨b2, 0, none⟩ : Addr).add 1))) rfl (V_fieldAddrN (B := ⟨b2, 0, none⟩) (m := 0) (o := 1) Try.underlying25 rfl nz23 rfl rfl) ?_)
            refine RA_yesB rfl rfl rfl rfl (h12) (OA_r rfl (VR_load_blk (b := b2) (m := 1) (k := 0) Try.underlying23 rfl rfl rfl rfl) ?_)
            refine RA_yesB rfl rfl rfl rfl (h12) (OA_v (v := .int .i64 (a0.f1.length : Int)) rfl (V_len Try.underlying23 rfl) ?_)
            refine RA_yesB rfl rfl rfl rfl (h12) (OA_v (v := .bool (decide ((a0.f1.length : Int) ≥ 1))) rfl (V_geq rfl rfl) ?_)
            refine RA_step rfl (OA_v rfl (V_pickT rfl (h12) rfl) ?_)
            refine RA_nil ?_
            exact at_normal (St.mk1 (aeq rfl (aeq (congrArg Value.bool (and_t hq11 (h12))) aeq0)) (Gh.sel [0, 1] rfl rfl))
          · refine RA_noB rfl rfl rfl rfl (bno h12) rfl ?_
            refine RA_noB rfl rfl rfl rfl (bno h12) rfl ?_
            refine RA_noB rfl rfl rfl rfl (bno h12) rfl ?_
            refine RA_noB rfl rfl rfl rfl (bno h12) rfl ?_
            refine RA_step rfl (OA_v rfl (V_pickF rfl (bno h12) rfl) ?_)
            refine RA_nil ?_
            exact at_normal (St.mk1 (aeq rfl (aeq (congrArg Value.bool (and_f hq11 (bno h12))) aeq0)) (Gh.sel [0, 1] rfl rfl))
        · rintro e ds As hst13
          refine RA.of_St rfl hst13 fun junk => ?_
          refine RA_step rfl (OA_v (v := .bool q11) rfl (V_move rfl) ?_)
          obtain ⟨q14, hq14, H⟩ := g_lt H
          refine RA_cut 5 (fun e ds As => St [(33, .bool q14)] [] e ds As) ?_ ?_
          · by_cases h15 : q11 = true
            · refine RA_yesB rfl rfl rfl rfl (h15) (OA_v (v := .pointer (some ((⟨b2, 0, none⟩ : Addr).add 1))) rfl (V_fieldAddrN (B := ⟨b2, 0, none⟩) (m := 0) (o := 1) Try.underlying25 rfl nz23 rfl rfl) ?_)
              refine RA_yesB rfl rfl rfl rfl (h15) (OA_r rfl (VR_load_blk (b := b2) (m := 1) (k := 0) Try.underlying23 rfl rfl rfl rfl) ?_)
              refine RA_yesB rfl rfl rfl rfl (h15) (OA_v (v := .int .i64 (a0.f1.length : Int)) rfl (V_len Try.underlying23 rfl) ?_)
              refine RA_yesB rfl rfl rfl rfl (h15) (OA_v (v := .bool (decide ((a0.f1.length : Int) ≤ 4096))) rfl (V_leq rfl rfl) ?_)
              refine RA_step rfl (OA_v rfl (V_pickT rfl (h15) rfl) ?_)
              refine RA_nil ?_
              exact at_normal (St.mk1 (aeq (congrArg Value.bool (and_t hq14 (h15))) aeq0) (Gh.sel [] rfl rfl))
            · refine RA_noB rfl rfl rfl rfl (bno h15) rfl ?_
              refine RA_noB rfl rfl rfl rfl (bno h15) rfl ?_
              refine RA_noB rfl rfl rfl rfl (bno h15) rfl ?_
              refine RA_noB rfl rfl rfl rfl (bno h15) rfl ?_
              refine RA_step rfl (OA_v rfl (V_pickF rfl (bno h15) rfl) ?_)
              refine RA_nil ?_
              exact at_normal (St.mk1 (aeq (congrArg Value.bool (and_f hq14 (bno h15))) aeq0) (Gh.sel [] rfl rfl))
          · rintro e ds As hst16
            refine RA.of_St rfl hst16 fun junk => ?_
            refine RA_step rfl (OA_v (v := .bool q14) rfl (V_assign rfl) ?_)
            refine RA_nil ?_
            refine at_normal ?_
            refine SA_ret ?_
            refine inb_ret ?_
            refine thn_ret ?_
            have hr_ := Option.some.inj H
            subst hr_
            exact BQ_R1 [] rfl rfl (Gh.sel [] rfl rfl) ⟨rfl, rfl⟩
    · replace H := g_iff h7 H
      refine SA_condF rfl h7 ?_
      refine SA_seq ?_
      refine SA_region ?_
      refine RA_step rfl (OA_v (v := .bool (decide (a0.f0 = 3))) rfl (V_eql rfl rfl) ?_)
      refine RA_step rfl (OA_v (v := .bool (decide (a0.f0 = 3))) rfl (V_assign rfl) ?_)
      refine RA_nil ?_
      refine at_normal ?_
      by_cases h17 : a0.f0 = 3
      · replace H := g_ift h17 H
        refine SA_condT rfl h17 ?_
        refine SA_seq ?_
        refine SA_region ?_
        refine RA_step rfl (OA_v (v := .bool q4) rfl (V_move rfl) ?_)
        refine RA_step rfl (OA_v (v := .bool q4) rfl (V_move rfl) ?_)
        obtain ⟨q18, hq18, H⟩ := g_lt H
        refine RA_cut 4 (fun e ds As => St [(1, .pointer (some ⟨b2, 0, none⟩)), (41, .bool q18)] [Blk b2 25 [.int .u8 a0.f0, .slice A0_0 a0.f1.length c0_0, .int .i64 a0.f2, .int .i64 a0.f3, .int .u8 a0.f4], Ro (Kd.int .u8) A0_0 c0_0 a0.f1] e ds As) ?_ ?_
        · by_cases h19 : q4 = true
          · refine RA_yesB rfl rfl rfl rfl (h19) (OA_v (v := .pointer (some ((⟨b2, 0, none⟩ : Addr).add 4))) rfl (V_fieldAddrN (B := ⟨b2, 0, none⟩) (m := 0) (o := 4) Try.underlying25 rfl nz5 rfl rfl) ?_)
            refine RA_yesB rfl rfl rfl rfl (h19) (OA_r rfl (VR_load_blk (b := b2) (m := 4) (k := 0) Try.underlying5 rfl rfl rfl rfl) ?_)
            refine RA_yesB rfl rfl rfl rfl (h19) (OA_v (v := .bool (decide (a0.f4 = 0))) rfl (V_eql rfl rfl) ?_)
            refine RA_step rfl (OA_v rfl (V_pickT rfl (h19) rfl) ?_)
            refine RA_nil ?_
            exact at_normal (St.mk1 (aeq rfl (aeq (congrArg Value.bool (and_t hq18 (h19))) aeq0)) (Gh.sel [0, 1] rfl rfl))
          · refine RA_noB rfl rfl rfl rfl (bno h19) rfl ?_
            refine RA_noB rfl rfl rfl rfl (bno h19) rfl ?_
            refine RA_noB rfl rfl rfl rfl (bno h19) rfl ?_
            refine RA_step rfl (OA_v rfl (V_pickF rfl (bno h19) rfl) ?_)
            refine RA_nil ?_
            exact at_normal (St.mk1 (aeq rfl (aeq (congrArg Value.bool (and_f hq18 (bno h19))) aeq0)) (Gh.sel [0, 1] rfl rfl))
        · rintro e ds As hst20
          refine RA.of_St rfl hst20 fun junk => ?_
          refine RA_step rfl (OA_v (v := .bool q18) rfl (V_move rfl) ?_)
          obtain ⟨q21, hq21, H⟩ := g_lt H
          refine RA_cut 5 (fun e ds As => St [(47, .bool q21)] [] e ds As) ?_ ?_
          · by_cases h22 : q18 = true
            · refine RA_yesB rfl rfl rfl rfl (h22) (OA_v (v := .pointer (some ((⟨b2, 0, none⟩ : Addr).add 1))) rfl (V_fieldAddrN (B := ⟨b2, 0, none⟩) (m := 0) (o := 1) Try.underlying25 rfl nz23 rfl rfl) ?_)
              refine RA_yesB rfl rfl rfl rfl (h22) (OA_r rfl (VR_load_blk (b := b2) (m := 1) (k := 0) Try.underlying23 rfl rfl rfl rfl) ?_)
              refine RA_yesB rfl rfl rfl rfl (h22) (OA_v (v := .int .i64 (a0.f1.length : Int)) rfl (V_len Try.underlying23 rfl) ?_)
              refine RA_yesB rfl rfl rfl rfl (h22) (OA_v (v := .bool (decide ((a0.f1.length : Int) ≤ 4096))) rfl (V_leq rfl rfl) ?_)
              refine RA_step rfl (OA_v rfl (V_pickT rfl (h22) rfl) ?_)
              refine RA_nil ?_
              exact at_normal (St.mk1 (aeq (congrArg Value.bool (and_t hq21 (h22))) aeq0) (Gh.sel [] rfl rfl))
            · refine RA_noB rfl rfl rfl rfl (bno h22) rfl ?_
              refine RA_noB rfl rfl rfl rfl (bno h22) rfl ?_
              refine RA_noB rfl rfl rfl rfl (bno h22) rfl ?_
              refine RA_noB rfl rfl rfl rfl (bno h22) rfl ?_
              refine RA_step rfl (OA_v rfl (V_pickF rfl (bno h22) rfl) ?_)
              refine RA_nil ?_
              exact at_normal (St.mk1 (aeq (congrArg Value.bool (and_f hq21 (bno h22))) aeq0) (Gh.sel [] rfl rfl))
          · rintro e ds As hst23
            refine RA.of_St rfl hst23 fun junk => ?_
            refine RA_step rfl (OA_v (v := .bool q21) rfl (V_assign rfl) ?_)
            refine RA_nil ?_
            refine at_normal ?_
            refine SA_ret ?_
            refine inb_ret ?_
            refine thn_ret ?_
            have hr_ := Option.some.inj H
            subst hr_
            exact BQ_R1 [] rfl rfl (Gh.sel [] rfl rfl) ⟨rfl, rfl⟩
      · replace H := g_iff h17 H
        refine SA_condF rfl h17 ?_
        refine SA_seq ?_
        refine SA_region ?_
        refine RA_step rfl (OA_v (v := .bool (decide (a0.f0 = 2))) rfl (V_eql rfl rfl) ?_)
        refine RA_step rfl (OA_v (v := .bool (decide (a0.f0 = 2))) rfl (V_assign rfl) ?_)
        refine RA_nil ?_
        refine at_normal ?_
        by_cases h24 : a0.f0 = 2
        · replace H := g_ift h24 H
          refine SA_condT rfl h24 ?_
          refine SA_seq ?_
          refine SA_region ?_
          refine RA_step rfl (OA_v (v := .pointer (some ((⟨b2, 0, none⟩ : Addr).add 4))) rfl (V_fieldAddrN (B := ⟨b2, 0, none⟩) (m := 0) (o := 4) Try.underlying25 rfl nz5 rfl rfl) ?_)
          refine RA_step rfl (OA_r rfl (VR_load_blk (b := b2) (m := 4) (k := 0) Try.underlying5 rfl rfl rfl rfl) ?_)
          refine RA_step rfl (OA_v (v := .bool (decide (a0.f4 = 0))) rfl (V_eql rfl rfl) ?_)
          refine RA_step rfl (OA_v (v := .bool (decide (a0.f4 = 0))) rfl (V_move rfl) ?_)
          obtain ⟨q25, hq25, H⟩ := g_lt H
          refine RA_cut 5 (fun e ds As => St [(1, .pointer (some ⟨b2, 0, none⟩)), (58, .bool q25)] [Blk b2 25 [.int .u8 a0.f0, .slice A0_0 a0.f1.length c0_0, .int .i64 a0.f2, .int .i64 a0.f3, .int .u8 a0.f4], Ro (Kd.int .u8) A0_0 c0_0 a0.f1] e ds As) ?_ ?_
          · by_cases h26 : a0.f4 = 0
            · refine RA_yesB rfl rfl rfl rfl (dec_t h26) (OA_v (v := .pointer (some ((⟨b2, 0, none⟩ : Addr).add 1))) rfl (V_fieldAddrN (B := ⟨b2, 0, none⟩) (m := 0) (o := 1) Try.underlying25 rfl nz23 rfl rfl) ?_)
              refine RA_yesB rfl rfl rfl rfl (dec_t h26) (OA_r rfl (VR_load_blk (b := b2) (m := 1) (k := 0) Try.underlying23 rfl rfl rfl rfl) ?_)
              refine RA_yesB rfl rfl rfl rfl (dec_t h26) (OA_v (v := .int .i64 (a0.f1.length : Int)) rfl (V_len Try.underlying23 rfl) ?_)
              refine RA_yesB rfl rfl rfl rfl (dec_t h26) (OA_v (v := .bool (decide ((a0.f1.length : Int) = 0))) rfl (V_eql rfl rfl) ?_)
              refine RA_step rfl (OA_v rfl (V_pickT rfl (dec_t h26) rfl) ?_)
              refine RA_nil ?_
              exact at_normal (St.mk1 (aeq rfl (aeq (congrArg Value.bool (and_t hq25 (dec_t h26))) aeq0)) (Gh.sel [0, 1] rfl rfl))
            · refine RA_noB rfl rfl rfl rfl (dec_f h26) rfl ?_
              refine RA_noB rfl rfl rfl rfl (dec_f h26) rfl ?_
              refine RA_noB rfl rfl rfl rfl (dec_f h26) rfl ?_
              refine RA_noB rfl rfl rfl rfl (dec_f h26) rfl ?_
              refine RA_step rfl (OA_v rfl (V_pickF rfl (dec_f h26) rfl) ?_)
              refine RA_nil ?_
              exact at_normal (St.mk1 (aeq rfl (aeq (congrArg Value.bool (and_f hq25 (dec_f h26))) aeq0)) (Gh.sel [0, 1] rfl rfl))
          · rintro e ds As hst27
            refine RA.of_St rfl hst27 fun junk => ?_
            refine RA_step rfl (OA_v (v := .bool q25) rfl (V_move rfl) ?_)
            obtain ⟨q28, hq28, H⟩ := g_lt H
            refine RA_cut 4 (fun e ds As => St [(1, .pointer (some ⟨b2, 0, none⟩)), (63, .bool q28)] [Blk b2 25 [.int .u8 a0.f0, .slice A0_0 a0.f1.length c0_0, .int .i64 a0.f2, .int .i64 a0.f3, .int .u8 a0.f4], Ro (Kd.int .u8) A0_0 c0_0 a0.f1] e ds As) ?_ ?_
            · by_cases h29 : q25 = true
              · refine RA_yesB rfl rfl rfl rfl (h29) (OA_v (v := .pointer (some ((⟨b2, 0, none⟩ : Addr).add 2))) rfl (V_fieldAddrN (B := ⟨b2, 0, none⟩) (m := 0) (o := 2) Try.underlying25 rfl nz3 rfl rfl) ?_)
                refine RA_yesB rfl rfl rfl rfl (h29) (OA_r rfl (VR_load_blk (b := b2) (m := 2) (k := 0) Try.underlying3 rfl rfl rfl rfl) ?_)
                refine RA_yesB rfl rfl rfl rfl (h29) (OA_v (v := .bool (decide (a0.f2 ≥ 1))) rfl (V_geq rfl rfl) ?_)
                refine RA_step rfl (OA_v rfl (V_pickT rfl (h29) rfl) ?_)
                refine RA_nil ?_
                exact at_normal (St.mk1 (aeq rfl (aeq (congrArg Value.bool (and_t hq28 (h29))) aeq0)) (Gh.sel [0, 1] rfl rfl))
              · refine RA_noB rfl rfl rfl rfl (bno h29) rfl ?_
                refine RA_noB rfl rfl rfl rfl (bno h29) rfl ?_
                refine RA_noB rfl rfl rfl rfl (bno h29) rfl ?_
                refine RA_step rfl (OA_v rfl (V_pickF rfl (bno h29) rfl) ?_)
                refine RA_nil ?_
                exact at_normal (St.mk1 (aeq rfl (aeq (congrArg Value.bool (and_f hq28 (bno h29))) aeq0)) (Gh.sel [0, 1] rfl rfl))
            · rintro e ds As hst30
              refine RA.of_St rfl hst30 fun junk => ?_
              refine RA_step rfl (OA_v (v := .bool q28) rfl (V_move rfl) ?_)
              obtain ⟨q31, hq31, H⟩ := g_lt H
              refine RA_cut 4 (fun e ds As => St [(1, .pointer (some ⟨b2, 0, none⟩)), (68, .bool q31)] [Blk b2 25 [.int .u8 a0.f0, .slice A0_0 a0.f1.length c0_0, .int .i64 a0.f2, .int .i64 a0.f3, .int .u8 a0.f4], Ro (Kd.int .u8) A0_0 c0_0 a0.f1] e ds As) ?_ ?_
              · by_cases h32 : q28 = true
                · refine RA_yesB rfl rfl rfl rfl (h32) (OA_v (v := .pointer (some ((⟨b2, 0, none⟩ : Addr).add 2))) rfl (V_fieldAddrN (B := ⟨b2, 0, none⟩) (m := 0) (o := 2) Try.underlying25 rfl nz3 rfl rfl) ?_)
                  refine RA_yesB rfl rfl rfl rfl (h32) (OA_r rfl (VR_load_blk (b := b2) (m := 2) (k := 0) Try.underlying3 rfl rfl rfl rfl) ?_)
                  refine RA_yesB rfl rfl rfl rfl (h32) (OA_v (v := .bool (decide (a0.f2 ≤ 512))) rfl (V_leq rfl rfl) ?_)
                  refine RA_step rfl (OA_v rfl (V_pickT rfl (h32) rfl) ?_)
                  refine RA_nil ?_
                  exact at_normal (St.mk1 (aeq rfl (aeq (congrArg Value.bool (and_t hq31 (h32))) aeq0)) (Gh.sel [0, 1] rfl rfl))
                · refine RA_noB rfl rfl rfl rfl (bno h32) rfl ?_
                  refine RA_noB rfl rfl rfl rfl (bno h32) rfl ?_
                  refine RA_noB rfl rfl rfl rfl (bno h32) rfl ?_
                  refine RA_step rfl (OA_v rfl (V_pickF rfl (bno h32) rfl) ?_)
                  refine RA_nil ?_
                  exact at_normal (St.mk1 (aeq rfl (aeq (congrArg Value.bool (and_f hq31 (bno h32))) aeq0)) (Gh.sel [0, 1] rfl rfl))
              · rintro e ds As hst33
                refine RA.of_St rfl hst33 fun junk => ?_
                refine RA_step rfl (OA_v (v := .bool q31) rfl (V_move rfl) ?_)
                obtain ⟨q34, hq34, H⟩ := g_lt H
                refine RA_cut 4 (fun e ds As => St [(1, .pointer (some ⟨b2, 0, none⟩)), (73, .bool q34)] [Blk b2 25 [.int .u8 a0.f0, .slice A0_0 a0.f1.length c0_0, .int .i64 a0.f2, .int .i64 a0.f3, .int .u8 a0.f4], Ro (Kd.int .u8) A0_0 c0_0 a0.f1] e ds As) ?_ ?_
                · by_cases h35 : q31 = true
                  · refine RA_yesB rfl rfl rfl rfl (h35) (OA_v (v := .pointer (some ((⟨b2, 0, none⟩ : Addr).add 3))) rfl (V_fieldAddrN (B := ⟨b2, 0, none⟩) (m := 0) (o := 3) Try.underlying25 rfl nz3 rfl rfl) ?_)
                    refine RA_yesB rfl rfl rfl rfl (h35) (OA_r rfl (VR_load_blk (b := b2) (m := 3) (k := 0) Try.underlying3 rfl rfl rfl rfl) ?_)
                    refine RA_yesB rfl rfl rfl rfl (h35) (OA_v (v := .bool (decide (a0.f3 ≥ 1))) rfl (V_geq rfl rfl) ?_)
                    refine RA_step rfl (OA_v rfl (V_pickT rfl (h35) rfl) ?_)
                    refine RA_nil ?_
                    exact at_normal (St.mk1 (aeq rfl (aeq (congrArg Value.bool (and_t hq34 (h35))) aeq0)) (Gh.sel [0, 1] rfl rfl))
                  · refine RA_noB rfl rfl rfl rfl (bno h35) rfl ?_
                    refine RA_noB rfl rfl rfl rfl (bno h35) rfl ?_
                    refine RA_noB rfl rfl rfl rfl (bno h35) rfl ?_
                    refine RA_step rfl (OA_v rfl (V_pickF rfl (bno h35) rfl) ?_)
                    refine RA_nil ?_
                    exact at_normal (St.mk1 (aeq rfl (aeq (congrArg Value.bool (and_f hq34 (bno h35))) aeq0)) (Gh.sel [0, 1] rfl rfl))
                · rintro e ds As hst36
                  refine RA.of_St rfl hst36 fun junk => ?_
                  refine RA_step rfl (OA_v (v := .bool q34) rfl (V_move rfl) ?_)
                  obtain ⟨q37, hq37, H⟩ := g_lt H
                  refine RA_cut 4 (fun e ds As => St [(78, .bool q37)] [] e ds As) ?_ ?_
                  · by_cases h38 : q34 = true
                    · refine RA_yesB rfl rfl rfl rfl (h38) (OA_v (v := .pointer (some ((⟨b2, 0, none⟩ : Addr).add 3))) rfl (V_fieldAddrN (B := ⟨b2, 0, none⟩) (m := 0) (o := 3) Try.underlying25 rfl nz3 rfl rfl) ?_)
                      refine RA_yesB rfl rfl rfl rfl (h38) (OA_r rfl (VR_load_blk (b := b2) (m := 3) (k := 0) Try.underlying3 rfl rfl rfl rfl) ?_)
                      refine RA_yesB rfl rfl rfl rfl (h38) (OA_v (v := .bool (decide (a0.f3 ≤ 512))) rfl (V_leq rfl rfl) ?_)
                      refine RA_step rfl (OA_v rfl (V_pickT rfl (h38) rfl) ?_)
                      refine RA_nil ?_
                      exact at_normal (St.mk1 (aeq (congrArg Value.bool (and_t hq37 (h38))) aeq0) (Gh.sel [] rfl rfl))
                    · refine RA_noB rfl rfl rfl rfl (bno h38) rfl ?_
                      refine RA_noB rfl rfl rfl rfl (bno h38) rfl ?_
                      refine RA_noB rfl rfl rfl rfl (bno h38) rfl ?_
                      refine RA_step rfl (OA_v rfl (V_pickF rfl (bno h38) rfl) ?_)
                      refine RA_nil ?_
                      exact at_normal (St.mk1 (aeq (congrArg Value.bool (and_f hq37 (bno h38))) aeq0) (Gh.sel [] rfl rfl))
                  · rintro e ds As hst39
                    refine RA.of_St rfl hst39 fun junk => ?_
                    refine RA_step rfl (OA_v (v := .bool q37) rfl (V_assign rfl) ?_)
                    refine RA_nil ?_
                    refine at_normal ?_
                    refine SA_ret ?_
                    refine inb_ret ?_
                    refine thn_ret ?_
                    have hr_ := Option.some.inj H
                    subst hr_
                    exact BQ_R1 [] rfl rfl (Gh.sel [] rfl rfl) ⟨rfl, rfl⟩
        · replace H := g_iff h24 H
          refine SA_condF rfl h24 ?_
          refine SA_seq ?_
          refine SA_region ?_
          refine RA_step rfl (OA_v (v := .bool (decide (a0.f0 = 4))) rfl (V_eql rfl rfl) ?_)
          refine RA_step rfl (OA_v (v := .bool (decide (a0.f0 = 4))) rfl (V_assign rfl) ?_)
          refine RA_nil ?_
          refine at_normal ?_
          by_cases h40 : a0.f0 = 4
          · replace H := g_ift h40 H
            refine SA_condT rfl h40 ?_
            refine SA_seq ?_
            refine SA_region ?_
            refine RA_step rfl (OA_v (v := .bool q4) rfl (V_move rfl) ?_)
            refine RA_step rfl (OA_v (v := .bool q4) rfl (V_move rfl) ?_)
            obtain ⟨q41, hq41, H⟩ := g_lt H
            refine RA_cut 5 (fun e ds As => St [(1, .pointer (some ⟨b2, 0, none⟩)), (87, .bool q41)] [Blk b2 25 [.int .u8 a0.f0, .slice A0_0 a0.f1.length c0_0, .int .i64 a0.f2, .int .i64 a0.f3, .int .u8 a0.f4], Ro (Kd.int .u8) A0_0 c0_0 a0.f1] e ds As) ?_ ?_
            · by_cases h42 : q4 = true
              · refine RA_yesB rfl rfl rfl rfl (h42) (OA_v (v := .pointer (some ((⟨b2, 0, none⟩ : Addr).add 1))) rfl (V_fieldAddrN (B := ⟨b2, 0, none⟩) (m := 0) (o := 1) Try.underlying25 rfl nz23 rfl rfl) ?_)
                refine RA_yesB rfl rfl rfl rfl (h42) (OA_r rfl (VR_load_blk (b := b2) (m := 1) (k := 0) Try.underlying23 rfl rfl rfl rfl) ?_)
                refine RA_yesB rfl rfl rfl rfl (h42) (OA_v (v := .int .i64 (a0.f1.length : Int)) rfl (V_len Try.underlying23 rfl) ?_)
                refine RA_yesB rfl rfl rfl rfl (h42) (OA_v (v := .bool (decide ((a0.f1.length : Int) = 0))) rfl (V_eql rfl rfl) ?_)
                refine RA_step rfl (OA_v rfl (V_pickT rfl (h42) rfl) ?_)
                refine RA_nil ?_
                exact at_normal (St.mk1 (aeq rfl (aeq (congrArg Value.bool (and_t hq41 (h42))) aeq0)) (Gh.sel [0, 1] rfl rfl))
              · refine RA_noB rfl rfl rfl rfl (bno h42) rfl ?_
                refine RA_noB rfl rfl rfl rfl (bno h42) rfl ?_
                refine RA_noB rfl rfl rfl rfl (bno h42) rfl ?_
                refine RA_noB rfl rfl rfl rfl (bno h42) rfl ?_
                refine RA_step rfl (OA_v rfl (V_pickF rfl (bno h42) rfl) ?_)
                refine RA_nil ?_
                exact at_normal (St.mk1 (aeq rfl (aeq (congrArg Value.bool (and_f hq41 (bno h42))) aeq0)) (Gh.sel [0, 1] rfl rfl))
            · rintro e ds As hst43
              refine RA.of_St rfl hst43 fun junk => ?_
              refine RA_step rfl (OA_v (v := .bool q41) rfl (V_move rfl) ?_)
              obtain ⟨q44, hq44, H⟩ := g_lt H
              refine RA_cut 4 (fun e ds As => St [(1, .pointer (some ⟨b2, 0, none⟩)), (92, .bool q44)] [Blk b2 25 [.int .u8 a0.f0, .slice A0_0 a0.f1.length c0_0, .int .i64 a0.f2, .int .i64 a0.f3, .int .u8 a0.f4], Ro (Kd.int .u8) A0_0 c0_0 a0.f1] e ds As) ?_ ?_
              · by_cases h45 : q41 = true
                · refine RA_yesB rfl rfl rfl rfl (h45) (OA_v (v := .pointer (some ((⟨b2, 0, none⟩ : Addr).add 4))) rfl (V_fieldAddrN (B := ⟨b2, 0, none⟩) (m := 0) (o := 4) Try.underlying25 rfl nz5 rfl rfl) ?_)
                  refine RA_yesB rfl rfl rfl rfl (h45) (OA_r rfl (VR_load_blk (b := b2) (m := 4) (k := 0) Try.underlying5 rfl rfl rfl rfl) ?_)
                  refine RA_yesB rfl rfl rfl rfl (h45) (OA_v (v := .bool (decide (a0.f4 ≥ 65))) rfl (V_geq rfl rfl) ?_)
                  refine RA_step rfl (OA_v rfl (V_pickT rfl (h45) rfl) ?_)
                  refine RA_nil ?_
                  exact at_normal (St.mk1 (aeq rfl (aeq (congrArg Value.bool (and_t hq44 (h45))) aeq0)) (Gh.sel [0, 1] rfl rfl))
                · refine RA_noB rfl rfl rfl rfl (bno h45) rfl ?_
                  refine RA_noB rfl rfl rfl rfl (bno h45) rfl ?_
                  refine RA_noB rfl rfl rfl rfl (bno h45) rfl ?_
                  refine RA_step rfl (OA_v rfl (V_pickF rfl (bno h45) rfl) ?_)
                  refine RA_nil ?_
                  exact at_normal (St.mk1 (aeq rfl (aeq (congrArg Value.bool (and_f hq44 (bno h45))) aeq0)) (Gh.sel [0, 1] rfl rfl))
              · rintro e ds As hst46
                refine RA.of_St rfl hst46 fun junk => ?_
                refine RA_step rfl (OA_v (v := .bool q44) rfl (V_move rfl) ?_)
                obtain ⟨q47, hq47, H⟩ := g_lt H
                refine RA_cut 4 (fun e ds As => St [(97, .bool q47)] [] e ds As) ?_ ?_
                · by_cases h48 : q44 = true
                  · refine RA_yesB rfl rfl rfl rfl (h48) (OA_v (v := .pointer (some ((⟨b2, 0, none⟩ : Addr).add 4))) rfl (V_fieldAddrN (B := ⟨b2, 0, none⟩) (m := 0) (o := 4) Try.underlying25 rfl nz5 rfl rfl) ?_)
                    refine RA_yesB rfl rfl rfl rfl (h48) (OA_r rfl (VR_load_blk (b := b2) (m := 4) (k := 0) Try.underlying5 rfl rfl rfl rfl) ?_)
                    refine RA_yesB rfl rfl rfl rfl (h48) (OA_v (v := .bool (decide (a0.f4 ≤ 68))) rfl (V_leq rfl rfl) ?_)
                    refine RA_step rfl (OA_v rfl (V_pickT rfl (h48) rfl) ?_)
                    refine RA_nil ?_
                    exact at_normal (St.mk1 (aeq (congrArg Value.bool (and_t hq47 (h48))) aeq0) (Gh.sel [] rfl rfl))
                  · refine RA_noB rfl rfl rfl rfl (bno h48) rfl ?_
                    refine RA_noB rfl rfl rfl rfl (bno h48) rfl ?_
                    refine RA_noB rfl rfl rfl rfl (bno h48) rfl ?_
                    refine RA_step rfl (OA_v rfl (V_pickF rfl (bno h48) rfl) ?_)
                    refine RA_nil ?_
                    exact at_normal (St.mk1 (aeq (congrArg Value.bool (and_f hq47 (bno h48))) aeq0) (Gh.sel [] rfl rfl))
                · rintro e ds As hst49
                  refine RA.of_St rfl hst49 fun junk => ?_
                  refine RA_step rfl (OA_v (v := .bool q47) rfl (V_assign rfl) ?_)
                  refine RA_nil ?_
                  refine at_normal ?_
                  refine SA_ret ?_
                  refine inb_ret ?_
                  refine thn_ret ?_
                  have hr_ := Option.some.inj H
                  subst hr_
                  exact BQ_R1 [] rfl rfl (Gh.sel [] rfl rfl) ⟨rfl, rfl⟩
          · replace H := g_iff h40 H
            refine SA_condF rfl h40 ?_
            refine SA_skip ?_
            refine inb_normal ?_
            refine at_normal ?_
            refine SA_seq ?_
            refine SA_region ?_
            refine RA_step rfl (OA_v (v := .bool false) rfl (V_assign rfl) ?_)
            refine RA_nil ?_
            refine at_normal ?_
            refine SA_ret ?_
            have hr_ := Option.some.inj H
            subst hr_
            exact BQ_R1 [] rfl rfl (Gh.sel [] rfl rfl) ⟨rfl, rfl⟩

/-! ### function 58: wayfarer/keys.put -/
def F58.f (l0 : (List Int)) (l1 : (List Int)) : Option ((List Int)) := if 0 ≤ (IntKind.i64.wrap ((l0.length : Int) + (l1.length : Int))) ∧ (IntKind.i64.wrap ((l0.length : Int) + (l1.length : Int))) ≤ 140737488355328 then lt (List.replicate (IntKind.i64.wrap ((l0.length : Int) + (l1.length : Int))).toNat 0) fun n7 => (lt (over n7 0 (l0.take n7.length)) fun n8 => (lt (minI (l0.length : Int) (n8.length : Int)) fun n9 => if 0 ≤ n9 ∧ n9 ≤ (n8.length : Int) ∧ (n8.length : Int) ≤ (n8.length : Int) ∧ (n8.length : Int) ≤ (n8.length : Int) ∧ (n8.length : Int) ≤ (n8.length : Int) then (lt (over n8 n9.toNat (l1.take ((n8.length : Int).toNat - n9.toNat))) fun n15 => (some (n15))) else none)) else none
set_option maxHeartbeats 2000000 in
set_option maxRecDepth 100000 in
theorem F58.ok {l0 : (List Int)} {l1 : (List Int)} {A0 : Option Addr} {c0 : Nat} {A1 : Option Addr} {c1 : Nat} {r : (List Int)} (H : F58.f l0 l1 = some r) : SCA Try.prog 58 #[.slice A0 l0.length c0, .slice A1 l1.length c1] [Ro (Kd.int .u8) A0 c0 l0, Ro (Kd.int .u8) A1 c1 l1] (fun v B => ∃ (A0_0_ : Option Addr) (c0_0_ : Nat), v = .slice A0_0_ r.length c0_0_ ∧ B = [Buf (Kd.int .u8) 5 A0_0_ c0_0_ r]) := by
  refine SCA_of_body Try.func58 rfl rfl ?_
  unfold F58.f at H
  refine SA_seq ?_
  refine SA_region ?_
  refine RA_step rfl (OA_v (v := .slice none 0 0) rfl (V_assign rfl) ?_)
  refine RA_nil ?_
  refine at_normal ?_
  refine SA_seq ?_
  refine SA_region ?_
  refine RA_step rfl (OA_v (v := .slice A0 l0.length c0) rfl (V_move rfl) ?_)
  refine RA_step rfl (OA_v (v := .int .i64 (l0.length : Int)) rfl (V_len Try.underlying23 rfl) ?_)
  refine RA_step rfl (OA_v (v := .slice A1 l1.length c1) rfl (V_move rfl) ?_)
  refine RA_step rfl (OA_v (v := .int .i64 (l1.length : Int)) rfl (V_len Try.underlying23 rfl) ?_)
  refine RA_step rfl (OA_v (v := .int .i64 (IntKind.i64.wrap ((l0.length : Int) + (l1.length : Int)))) rfl (V_add rfl rfl) ?_)
  obtain ⟨⟨g5, g6⟩, H⟩ := g_pos H
  obtain ⟨n7, hn7, H⟩ := g_lt H
  refine RA_step rfl (OA_mk (kd := (Kd.int .u8)) (sz := 1) (l := IntKind.i64.wrap ((l0.length : Int) + (l1.length : Int))) 0 n7 hn7 rfl Try.underlying23 inf5 rfl rfl g5 (by omega) (by omega) rfl rfl (fun _ => rfl) fun b3 => ?_)
  refine RA_step rfl (OA_v (v := .slice (some ⟨b3, 0, none⟩) n7.length ((IntKind.i64.wrap ((l0.length : Int) + (l1.length : Int))).toNat)) rfl (V_assign rfl) ?_)
  refine RA_nil ?_
  refine at_normal ?_
  refine SA_seq ?_
  refine SA_region ?_
  refine RA_step rfl (OA_v (v := .slice (some ⟨b3, 0, none⟩) n7.length ((IntKind.i64.wrap ((l0.length : Int) + (l1.length : Int))).toNat)) rfl (V_move rfl) ?_)
  refine RA_step rfl (OA_v (v := .slice A0 l0.length c0) rfl (V_move rfl) ?_)
  obtain ⟨n8, hn8, H⟩ := g_lt H
  have hl_n8 : n8.length = n7.length := by rw [hn8]; exact over_len (by rw [List.length_take]; omega)
  refine RA_step rfl (OA_copyF (k := 2) (xs := n7) (ys := l0) n8 hn8 rfl Try.underlying23 sz5 rfl rfl rfl rfl (Cpy.slice (Src.ro (k := 0) rfl)) ?_)
  try rewrite [← hl_n8]
  obtain ⟨n9, hn9, H⟩ := g_lt H
  refine RA_step rfl (OA_v (v := .int .i64 n9) rfl (V_assign (v := .int .i64 n9) (congrArg (Value.int .i64) hn9.symm)) ?_)
  refine RA_nil ?_
  refine at_normal ?_
  refine SA_seq ?_
  refine SA_region ?_
  refine RA_step rfl (OA_v (v := .slice (some ⟨b3, 0, none⟩) n8.length ((IntKind.i64.wrap ((l0.length : Int) + (l1.length : Int))).toNat)) rfl (V_move rfl) ?_)
  refine RA_step rfl (OA_v (v := .int .i64 n9) rfl (V_move rfl) ?_)
  refine RA_step rfl (OA_v (v := .slice (some ⟨b3, 0, none⟩) n8.length ((IntKind.i64.wrap ((l0.length : Int) + (l1.length : Int))).toNat)) rfl (V_move rfl) ?_)
  refine RA_step rfl (OA_v (v := .int .i64 (n8.length : Int)) rfl (V_len Try.underlying23 rfl) ?_)
  refine RA_step rfl (OA_v (v := .slice (some ⟨b3, 0, none⟩) n8.length ((IntKind.i64.wrap ((l0.length : Int) + (l1.length : Int))).toNat)) rfl (V_move rfl) ?_)
  refine RA_step rfl (OA_v (v := .int .i64 (n8.length : Int)) rfl (V_len Try.underlying23 rfl) ?_)
  obtain ⟨⟨g10, g11, g12, g13, g14⟩, H⟩ := g_pos H
  refine RA_step rfl (OA_r rfl (VR_win (k := 2) (l := n9) (h := (n8.length : Int)) (m := (n8.length : Int)) rfl Try.underlying23 sz5 rfl rfl rfl rfl (.inr ⟨_, rfl⟩) (.inr ⟨_, rfl⟩) (.inr ⟨⟨_, rfl⟩, ⟨_, rfl⟩, g13, g14⟩) g10 g11 g12) ?_)
  refine RA_step rfl (OA_v (v := .slice A1 l1.length c1) rfl (V_move rfl) ?_)
  obtain ⟨n15, hn15, H⟩ := g_lt H
  have hl_n15 : n15.length = n8.length := by rw [hn15]; exact over_len (by rw [List.length_take]; omega)
  refine RA_step rfl (OA_copyW (k := 2) (l := n9) (h := (n8.length : Int)) (m := (n8.length : Int)) (xs := n8) (ys := l1) n15 hn15 rfl Try.underlying23 sz5 rfl rfl rfl g10 g11 g12 (.inr g13) rfl (Cpy.slice (Src.ro (k := 1) rfl)) ?_)
  try rewrite [← hl_n15]
  refine RA_nil ?_
  refine at_normal ?_
  refine SA_seq ?_
  refine SA_region ?_
  refine RA_step rfl (OA_v (v := .slice (some ⟨b3, 0, none⟩) n15.length ((IntKind.i64.wrap ((l0.length : Int) + (l1.length : Int))).toNat)) rfl (V_move rfl) ?_)
  refine RA_step rfl (OA_v (v := .slice (some ⟨b3, 0, none⟩) n15.length ((IntKind.i64.wrap ((l0.length : Int) + (l1.length : Int))).toNat)) rfl (V_assign rfl) ?_)
  refine RA_nil ?_
  refine at_normal ?_
  refine SA_ret ?_
  have hr_ := Option.some.inj H
  subst hr_
  exact BQ_R1 [Buf (Kd.int .u8) 5 (some ⟨b3, 0, none⟩) ((IntKind.i64.wrap ((l0.length : Int) + (l1.length : Int))).toNat) n15] rfl rfl (Gh.sel [2] rfl rfl) ⟨some ⟨b3, 0, none⟩, (IntKind.i64.wrap ((l0.length : Int) + (l1.length : Int))).toNat, rfl, rfl⟩

/-! ### function 17: wayfarer/keys.Clean -/
def F17.l0 (l0 : (List Int)) : Nat → (List Int) → Int → Option ((List Int))
  | 0, _, _ => none
  | k + 1, x3_5, x8_5 => if x8_5 < (l0.length : Int) then (if 0 ≤ x8_5 ∧ x8_5 < (l0.length : Int) then (lt (rd l0 x8_5) fun n15 => (if n15 = 27 then (some (decide (n15 = 27))) else (some (decide (n15 = 155))) : Option (Bool)).bind (fun t16 => if t16 = true then (F17.l0 l0 k x3_5 (IntKind.i64.wrap (x8_5 + 1))) else (if n15 = 10 then (if x3_5.length + ([13] : (List Int)).length ≤ 140737488355328 then lt (x3_5 ++ ([13] : (List Int))) fun n27 => (F17.l0 l0 k n27 (IntKind.i64.wrap (x8_5 + 1))) else none) else (if x3_5.length + ([n15] : (List Int)).length ≤ 140737488355328 then lt (x3_5 ++ ([n15] : (List Int))) fun n34 => (F17.l0 l0 k n34 (IntKind.i64.wrap (x8_5 + 1))) else none)))) else none) else (some x3_5)
def F17.f (k : Nat) (l0 : (List Int)) : Option ((List Int)) := (F17.l0 l0 k ([]) 0 : Option ((List Int))).bind (fun t2 => some (t2))
set_option maxHeartbeats 2000000 in
set_option maxRecDepth 100000 in
theorem F17.ok {k : Nat} {l0 : (List Int)} {A0 : Option Addr} {c0 : Nat} {r : (List Int)} (H : F17.f k l0 = some r) : SCA Try.prog 17 #[.slice A0 l0.length c0] [Ro (Kd.int .u8) A0 c0 l0] (fun v B => ∃ (A0_0_ : Option Addr) (c0_0_ : Nat), v = .slice A0_0_ r.length c0_0_ ∧ B = [Buf (Kd.int .u8) 5 A0_0_ c0_0_ r]) := by
  refine SCA_of_body Try.func17 rfl rfl ?_
  unfold F17.f at H
  refine SA_seq ?_
  refine SA_region ?_
  refine RA_step rfl (OA_v (v := .slice none 0 0) rfl (V_assign rfl) ?_)
  refine RA_nil ?_
  refine at_normal ?_
  refine SA_seq ?_
  refine SA_region ?_
  refine RA_step rfl (OA_v (v := .slice none 0 0) rfl (V_assign rfl) ?_)
  refine RA_nil ?_
  refine at_normal ?_
  refine SA_seq ?_
  refine SA_seq ?_
  refine SA_region ?_
  refine RA_step rfl (OA_v (v := .slice A0 l0.length c0) rfl (V_move rfl) ?_)
  refine RA_step rfl (OA_v (v := .int .i64 (l0.length : Int)) rfl (V_len Try.underlying23 rfl) ?_)
  refine RA_step rfl (OA_v (v := .int .i64 0) rfl (V_move rfl) ?_)
  refine RA_nil ?_
  refine at_normal ?_
  obtain ⟨t2, H, Bt2⟩ := g_bind H
  refine SA_mid (fun e ds As => ∃ (A3 : Option Addr) (c4 : Nat), St [(3, .slice A3 t2.length c4)] [Buf (Kd.int .u8) 5 A3 c4 t2] e ds As) ?_ ?_
  · refine SA_block ?_
    refine SA_loop (fun k_ e ds As => ∃ (x3_5 : (List Int)) (x8_5 : Int), ∃ (A6 : Option Addr) (c7 : Nat), F17.l0 l0 k_ x3_5 x8_5 = some t2 ∧ St [(3, .slice A6 x3_5.length c7), (6, .slice A0 l0.length c0), (7, .int .i64 (l0.length : Int)), (8, .int .i64 x8_5)] [Buf (Kd.int .u8) 5 A6 c7 x3_5, Ro (Kd.int .u8) A0 c0 l0] e ds As) (k := k) ⟨_, _, none, 0, H, St.mk1 (aeq rfl (aeq rfl (aeq rfl (aeq rfl aeq0)))) ((Gh.nilBuf (Kd.int .u8) 5).trans (Gh.sel [1, 0] rfl rfl))⟩ ?_
    clear H
    rintro k10 e ds As ⟨x3_5, x8_5, A6, c7, H, hst11⟩
    obtain _ | k10 := k10
    · cases H
    rw [F17.l0] at H
    refine SA.of_St hst11 fun junk => ?_
    refine SA_seq ?_
    refine SA_region ?_
    refine RA_step rfl (OA_v (v := .bool (decide (x8_5 < (l0.length : Int)))) rfl (V_lss rfl rfl) ?_)
    refine RA_nil ?_
    refine at_normal ?_
    refine SA_seq ?_
    by_cases h12 : x8_5 < (l0.length : Int)
    · replace H := g_ift h12 H
      refine SA_condT rfl h12 ?_
      refine SA_skip ?_
      refine at_normal ?_
      refine SA_seq ?_
      refine SA_block ?_
      refine SA_seq ?_
      refine SA_region ?_
      obtain ⟨⟨g13, g14⟩, H⟩ := g_pos H
      refine RA_step rfl (OA_r rfl (VR_index (i := x8_5) Try.underlying23 sz5 rfl rfl (Src.ro (k := 1) rfl) g13 g14) ?_)
      refine RA_step rfl (OA_r rfl (VR_load_el (enc := (fun x_ : Int => [Value.int .u8 x_])) (i := x8_5) (j := x8_5.toNat * 1) (m := 0) (sz := 1) Try.underlying5 rfl rfl rfl rfl (Src.ro (k := 1) rfl) g13 g14 (fun _ _ h => h) rfl) ?_)
      obtain ⟨n15, hn15, H⟩ := g_lt H
      refine RA_step rfl (OA_v (v := .int .u8 n15) rfl (V_assign (v := .int .u8 n15) (congrArg (Value.int .u8) hn15.symm)) ?_)
      refine RA_nil ?_
      refine at_normal ?_
      refine SA_seq ?_
      refine SA_region ?_
      refine RA_step rfl (OA_v (v := .int .u8 n15) rfl (V_move rfl) ?_)
      refine RA_nil ?_
      refine at_normal ?_
      refine SA_block ?_
      refine SA_seq ?_
      refine SA_seq ?_
      refine SA_region ?_
      refine RA_step rfl (OA_v (v := .bool (decide (n15 = 27))) rfl (V_eql rfl rfl) ?_)
      refine RA_step rfl (OA_v (v := .bool (decide (n15 = 27))) rfl (V_assign rfl) ?_)
      refine RA_nil ?_
      refine at_normal ?_
      obtain ⟨t16, H, Bt16⟩ := g_bind H
      refine SA_mid (fun e ds As => St [(3, .slice A6 x3_5.length c7), (5, .int .u8 n15), (6, .slice A0 l0.length c0), (7, .int .i64 (l0.length : Int)), (8, .int .i64 x8_5), (12, .int .u8 n15), (17, .bool t16)] [Buf (Kd.int .u8) 5 A6 c7 x3_5, Ro (Kd.int .u8) A0 c0 l0] e ds As) ?_ ?_
      · by_cases h17 : n15 = 27
        · replace H := g_ift h17 H
          refine SA_condT rfl h17 ?_
          refine SA_skip ?_
          have hr_ := Option.some.inj H
          subst hr_
          exact at_normal (St.mk1 (aeq rfl (aeq rfl (aeq rfl (aeq rfl (aeq rfl (aeq rfl (aeq rfl aeq0))))))) (Gh.sel [0, 1] rfl rfl))
        · replace H := g_iff h17 H
          refine SA_condF rfl h17 ?_
          refine SA_region ?_
          refine RA_step rfl (OA_v (v := .bool (decide (n15 = 155))) rfl (V_eql rfl rfl) ?_)
          refine RA_step rfl (OA_v (v := .bool (decide (n15 = 155))) rfl (V_assign rfl) ?_)
          refine RA_nil ?_
          have hr_ := Option.some.inj H
          subst hr_
          exact at_normal (St.mk1 (aeq rfl (aeq rfl (aeq rfl (aeq rfl (aeq rfl (aeq rfl (aeq rfl aeq0))))))) (Gh.sel [0, 1] rfl rfl))
      · rintro e ds As hst18
        clear H
        have H := Bt16
        clear Bt16
        refine at_normal ?_
        refine SA.of_St hst18 fun junk => ?_
        by_cases h19 : t16 = true
        · replace H := g_ift h19 H
          refine SA_condTb rfl h19 ?_
          refine SA_skip ?_
          refine inb_normal ?_
          refine inb_normal ?_
          refine at_normal ?_
          refine SA_region ?_
          refine RA_step rfl (OA_v (v := .int .i64 (IntKind.i64.wrap (x8_5 + 1))) rfl (V_add rfl rfl) ?_)
          refine RA_step rfl (OA_v (v := .int .i64 (IntKind.i64.wrap (x8_5 + 1))) rfl (V_move rfl) ?_)
          refine RA_nil ?_
          exact at_normal ⟨k10, Nat.lt_succ_self _, _, _, A6, c7, H, St.mk1 (aeq rfl (aeq rfl (aeq rfl (aeq rfl aeq0)))) (Gh.sel [0, 1] rfl rfl)⟩
        · replace H := g_iff h19 H
          refine SA_condFb rfl h19 ?_
          refine SA_seq ?_
          refine SA_region ?_
          refine RA_step rfl (OA_v (v := .bool (decide (n15 = 10))) rfl (V_eql rfl rfl) ?_)
          refine RA_step rfl (OA_v (v := .bool (decide (n15 = 10))) rfl (V_assign rfl) ?_)
          refine RA_nil ?_
          refine at_normal ?_
          by_cases h20 : n15 = 10
          · replace H := g_ift h20 H
            refine SA_condT rfl h20 ?_
            refine SA_region ?_
            refine RA_step rfl (OA_v (v := .slice A6 x3_5.length c7) rfl (V_move rfl) ?_)
            refine RA_step rfl (OA_bs (kd := (Kd.int .u8)) (zv := (.int .u8 0)) (sz := 1) (cells := [.int .u8 13]) (xs := ([13] : (List Int))) rfl Try.underlying23 zero5 sz5 rfl rfl rfl (by kernel_rfl) rfl rfl (RL_enc (fun x_ : Int => [Value.int .u8 x_]) (fun _ _ => rfl) (by kernel_rfl)) fun b21 => ?_)
            obtain ⟨g24, H⟩ := g_pos H
            obtain ⟨n27, hn27, H⟩ := g_lt H
            refine RA_step rfl (OA_app (k := 0) (A := A6) (c := c7) (xs := x3_5) (ys := ([13] : (List Int))) n27 hn27 rfl Try.underlying23 inf5 rfl rfl rfl rfl rfl (Yld.slice Try.underlying23 (Src.buf (k := 2) rfl)) (by omega) (by omega) fun A25 c26 => ?_)
            refine RA_step rfl (OA_v (v := .slice A25 n27.length c26) rfl (V_assign rfl) ?_)
            refine RA_nil ?_
            refine inb_normal ?_
            refine inb_normal ?_
            refine at_normal ?_
            refine SA_region ?_
            refine RA_step rfl (OA_v (v := .int .i64 (IntKind.i64.wrap (x8_5 + 1))) rfl (V_add rfl rfl) ?_)
            refine RA_step rfl (OA_v (v := .int .i64 (IntKind.i64.wrap (x8_5 + 1))) rfl (V_move rfl) ?_)
            refine RA_nil ?_
            exact at_normal ⟨k10, Nat.lt_succ_self _, _, _, A25, c26, H, St.mk1 (aeq rfl (aeq rfl (aeq rfl (aeq rfl aeq0)))) (Gh.sel [0, 1] rfl rfl)⟩
          · replace H := g_iff h20 H
            refine SA_condF rfl h20 ?_
            refine SA_region ?_
            refine RA_step rfl (OA_v (v := .slice A6 x3_5.length c7) rfl (V_move rfl) ?_)
            refine RA_step rfl (OA_v (v := .int .u8 n15) rfl (V_move rfl) ?_)
            refine RA_step rfl (OA_bs (kd := (Kd.int .u8)) (zv := (.int .u8 0)) (sz := 1) (cells := [.int .u8 n15]) (xs := ([n15] : (List Int))) rfl Try.underlying23 zero5 sz5 rfl rfl rfl (by kernel_rfl) rfl rfl (RL_enc (fun x_ : Int => [Value.int .u8 x_]) (fun _ _ => rfl) (by kernel_rfl)) fun b28 => ?_)
            obtain ⟨g31, H⟩ := g_pos H
            obtain ⟨n34, hn34, H⟩ := g_lt H
            refine RA_step rfl (OA_app (k := 0) (A := A6) (c := c7) (xs := x3_5) (ys := ([n15] : (List Int))) n34 hn34 rfl Try.underlying23 inf5 rfl rfl rfl rfl rfl (Yld.slice Try.underlying23 (Src.buf (k := 2) rfl)) (by omega) (by omega) fun A32 c33 => ?_)
            refine RA_step rfl (OA_v (v := .slice A32 n34.length c33) rfl (V_assign rfl) ?_)
            refine RA_nil ?_
            refine inb_normal ?_
            refine inb_normal ?_
            refine at_normal ?_
            refine SA_region ?_
            refine RA_step rfl (OA_v (v := .int .i64 (IntKind.i64.wrap (x8_5 + 1))) rfl (V_add rfl rfl) ?_)
            refine RA_step rfl (OA_v (v := .int .i64 (IntKind.i64.wrap (x8_5 + 1))) rfl (V_move rfl) ?_)
            refine RA_nil ?_
            exact at_normal ⟨k10, Nat.lt_succ_self _, _, _, A32, c33, H, St.mk1 (aeq rfl (aeq rfl (aeq rfl (aeq rfl aeq0)))) (Gh.sel [0, 1] rfl rfl)⟩
    · replace H := g_iff h12 H
      refine SA_condF rfl h12 ?_
      refine SA_exit ?_
      refine thn_exit ?_
      refine thn_exit ?_
      refine inb_hit ?_
      have hr_ := Option.some.inj H
      subst hr_
      exact at_normal ⟨A6, c7, St.mk1 (aeq rfl aeq0) (Gh.sel [0] rfl rfl)⟩
  · rintro e ds As ⟨A3, c4, hst35⟩
    clear H
    have H := Bt2
    clear Bt2
    refine at_normal ?_
    refine SA.of_St hst35 fun junk => ?_
    refine SA_seq ?_
    refine SA_region ?_
    refine RA_step rfl (OA_v (v := .slice A3 t2.length c4) rfl (V_move rfl) ?_)
    refine RA_step rfl (OA_v (v := .slice A3 t2.length c4) rfl (V_assign rfl) ?_)
    refine RA_nil ?_
    refine at_normal ?_
    refine SA_ret ?_
    have hr_ := Option.some.inj H
    subst hr_
    exact BQ_R1 [Buf (Kd.int .u8) 5 A3 c4 t2] rfl rfl (Gh.sel [0] rfl rfl) ⟨A3, c4, rfl, rfl⟩

/-! ### function 14: wayfarer/keys.Encode -/
def F14.f (k : Nat) (a0 : S25) (a1 : Bool) (a2 : Bool) : Option ((List Int) × Int) := (F57.f a0).bind (fun r4 => if (!r4) = true then (some ((([] : (List Int)), 2))) else (if a0.f0 = 1 then ((F58.f ([] : (List Int)) a0.f1).bind (fun r9 => some ((r9, 0)))) else (lt ((decide (a0.f0 = 4)) && a1) fun q14 => if q14 = true then (some ((([27, 79, a0.f4] : (List Int)), 0))) else (if a0.f0 = 4 then (some ((([27, 91, a0.f4] : (List Int)), 0))) else (lt ((decide (a0.f0 = 3)) && a2) fun q23 => if q23 = true then ((F17.f k a0.f1).bind (fun r29 => (F58.f ([27, 91, 50, 48, 48, 126] : (List Int)) r29).bind (fun r33 => (F58.f r33 ([27, 91, 50, 48, 49, 126] : (List Int))).bind (fun r39 => some ((r39, 0)))))) else (if a0.f0 = 3 then ((F17.f k a0.f1).bind (fun r47 => some ((r47, 0)))) else (some ((([] : (List Int)), 0)))))))))
set_option maxHeartbeats 2000000 in
set_option maxRecDepth 100000 in
theorem F14.ok {k : Nat} {a0 : S25} {a1 : Bool} {a2 : Bool} {A0_0 : Option Addr} {c0_0 : Nat} {r : (List Int) × Int} (H : F14.f k a0 a1 a2 = some r) : SCA Try.prog 14 #[.agg #[.int .u8 a0.f0, .slice A0_0 a0.f1.length c0_0, .int .i64 a0.f2, .int .i64 a0.f3, .int .u8 a0.f4], .bool a1, .bool a2] [Ro (Kd.int .u8) A0_0 c0_0 a0.f1] (fun v B => ∃ (A0_0_ : Option Addr) (c0_0_ : Nat), v = .tuple #[.slice A0_0_ r.1.length c0_0_, .int .i64 r.2] ∧ B = [Buf (Kd.int .u8) 5 A0_0_ c0_0_ r.1]) := by
  refine SCA_of_body Try.func14 rfl rfl ?_
  unfold F14.f at H
  refine SA_seq ?_
  refine SA_region ?_
  refine RA_step rfl (OA_box rfl rfl fun b2 => ?_)
  refine RA_step rfl (OA_v (v := .slice none 0 0) rfl (V_assign rfl) ?_)
  refine RA_step rfl (OA_v (v := .int .i64 0) rfl (V_assign rfl) ?_)
  refine RA_nil ?_
  refine at_normal ?_
  refine SA_seq ?_
  refine SA_seq ?_
  refine SA_region ?_
  refine RA_step rfl (OA_r rfl (VR_loadA_blk (b := b2) (m := 0) (k := 1) (vs := [.int .u8 a0.f0, .slice A0_0 a0.f1.length c0_0, .int .i64 a0.f2, .int .i64 a0.f3, .int .u8 a0.f4]) Try.underlying25 rfl sz25 rfl rfl rfl) ?_)
  obtain ⟨r4, C53, H⟩ := g_bind H
  refine RA_step rfl (OA_callA [0] [0, 1] rfl (X_fn (vs := [.agg #[.int .u8 a0.f0, .slice A0_0 a0.f1.length c0_0, .int .i64 a0.f2, .int .i64 a0.f3, .int .u8 a0.f4]]) Try.func57 nm57 rfl rfl) rfl (F57.ok (a0 := a0) (A0_0 := A0_0) (c0_0 := c0_0) C53) rfl ?_)
  rintro _ _ ⟨rfl, rfl⟩
  refine RA_step rfl (OA_v (v := .bool (!r4)) rfl (V_not rfl) ?_)
  refine RA_nil ?_
  refine at_normal ?_
  by_cases h5 : (!r4) = true
  · replace H := g_ift h5 H
    refine SA_condTb rfl h5 ?_
    refine SA_seq ?_
    refine SA_region ?_
    refine RA_step rfl (OA_v (v := .slice none 0 0) rfl (V_assign rfl) ?_)
    refine RA_step rfl (OA_v (v := .int .i64 2) rfl (V_assign rfl) ?_)
    refine RA_nil ?_
    refine at_normal ?_
    refine SA_ret ?_
    refine thn_ret ?_
    have hr_ := Option.some.inj H
    subst hr_
    exact BQ_R2 [Buf (Kd.int .u8) 5 none 0 ([] : (List Int))] rfl rfl rfl ((Gh.nilBuf (Kd.int .u8) 5).trans (Gh.sel [2] rfl rfl)) ⟨none, 0, rfl, rfl⟩
  · replace H := g_iff h5 H
    refine SA_condFb rfl h5 ?_
    refine SA_skip ?_
    refine at_normal ?_
    refine SA_seq ?_
    refine SA_block ?_
    refine SA_seq ?_
    refine SA_region ?_
    refine RA_step rfl (OA_v (v := .pointer (some ⟨b2, 0, none⟩)) rfl (V_fieldAddrN (B := ⟨b2, 0, none⟩) (m := 0) (o := 0) Try.underlying25 rfl nz22 rfl rfl) ?_)
    refine RA_step rfl (OA_r rfl (VR_load_blk (b := b2) (m := 0) (k := 1) Try.underlying22 rfl rfl rfl rfl) ?_)
    refine RA_step rfl (OA_v (v := .bool (decide (a0.f0 = 1))) rfl (V_eql rfl rfl) ?_)
    refine RA_step rfl (OA_v (v := .bool (decide (a0.f0 = 1))) rfl (V_assign rfl) ?_)
    refine RA_nil ?_
    refine at_normal ?_
    by_cases h7 : a0.f0 = 1
    · replace H := g_ift h7 H
      refine SA_condT rfl h7 ?_
      refine SA_seq ?_
      refine SA_region ?_
      refine RA_step rfl (OA_v (v := .pointer (some ((⟨b2, 0, none⟩ : Addr).add 1))) rfl (V_fieldAddrN (B := ⟨b2, 0, none⟩) (m := 0) (o := 1) Try.underlying25 rfl nz23 rfl rfl) ?_)
      refine RA_step rfl (OA_r rfl (VR_load_blk (b := b2) (m := 1) (k := 1) Try.underlying23 rfl rfl rfl rfl) ?_)
      obtain ⟨r9, C13, H⟩ := g_bind H
      refine RA_step rfl (OA.ghost (Gh.nilRo (Kd.int .u8) none 0) (OA_callA [2, 0] [0, 1, 2] rfl (X_fn (vs := [.slice none 0 0, .slice A0_0 a0.f1.length c0_0]) Try.func58 nm58 rfl rfl) rfl (F58.ok (l0 := ([] : (List Int))) (A0 := none) (c0 := 0) (l1 := a0.f1) (A1 := A0_0) (c1 := c0_0) C13) rfl ?_))
      rintro _ _ ⟨A10, c11, rfl, rfl⟩
      refine RA_step rfl (OA_v (v := .slice A10 r9.length c11) rfl (V_assign rfl) ?_)
      refine RA_step rfl (OA_v (v := .int .i64 0) rfl (V_assign rfl) ?_)
      refine RA_nil ?_
      refine at_normal ?_
      refine SA_ret ?_
      refine inb_ret ?_
      refine thn_ret ?_
      have hr_ := Option.some.inj H
      subst hr_
      exact BQ_R2 [Buf (Kd.int .u8) 5 A10 c11 r9] rfl rfl rfl (Gh.sel [0] rfl rfl) ⟨A10, c11, rfl, rfl⟩
    · replace H := g_iff h7 H
      refine SA_condF rfl h7 ?_
      refine SA_seq ?_
      refine SA_region ?_
      refine RA_step rfl (OA_v (v := .pointer (some ⟨b2, 0, none⟩)) rfl (V_fieldAddrN (B := ⟨b2, 0, none⟩) (m := 0) (o := 0) Try.underlying25 rfl nz22 rfl rfl) ?_)
      refine RA_step rfl (OA_r rfl (VR_load_blk (b := b2) (m := 0) (k := 1) Try.underlying22 rfl rfl rfl rfl) ?_)
      refine RA_step rfl (OA_v (v := .bool (decide (a0.f0 = 4))) rfl (V_eql rfl rfl) ?_)
      refine RA_step rfl (OA_v (v := .bool (decide (a0.f0 = 4))) rfl (V_move rfl) ?_)
      obtain ⟨q14, hq14, H⟩ := g_lt H
      refine RA_cut 2 (fun e ds As => St [(2, .bool a2), (3, .pointer (some ⟨b2, 0, none⟩)), (24, .bool q14)] [Blk b2 25 [.int .u8 a0.f0, .slice A0_0 a0.f1.length c0_0, .int .i64 a0.f2, .int .i64 a0.f3, .int .u8 a0.f4], Ro (Kd.int .u8) A0_0 c0_0 a0.f1] e ds As) ?_ ?_
      · by_cases h15 : a0.f0 = 4
        · refine RA_yesB rfl rfl rfl rfl (dec_t h15) (OA_v (v := .bool a1) rfl (V_move rfl) ?_)
          refine RA_step rfl (OA_v rfl (V_pickT rfl (dec_t h15) rfl) ?_)
          refine RA_nil ?_
          exact at_normal (St.mk1 (aeq rfl (aeq rfl (aeq (congrArg Value.bool (and_t hq14 (dec_t h15))) aeq0))) (Gh.sel [1, 0] rfl rfl))
        · refine RA_noB rfl rfl rfl rfl (dec_f h15) rfl ?_
          refine RA_step rfl (OA_v rfl (V_pickF rfl (dec_f h15) rfl) ?_)
          refine RA_nil ?_
          exact at_normal (St.mk1 (aeq rfl (aeq rfl (aeq (congrArg Value.bool (and_f hq14 (dec_f h15))) aeq0))) (Gh.sel [1, 0] rfl rfl))
      · rintro e ds As hst16
        refine RA.of_St rfl hst16 fun junk => ?_
        refine RA_step rfl (OA_v (v := .bool q14) rfl (V_assign rfl) ?_)
        refine RA_nil ?_
        refine at_normal ?_
        by_cases h17 : q14 = true
        · replace H := g_ift h17 H
          refine SA_condTb rfl h17 ?_
          refine SA_seq ?_
          refine SA_region ?_
          refine RA_step rfl (OA_v (v := .pointer (some ((⟨b2, 0, none⟩ : Addr).add 4))) rfl (V_fieldAddrN (B := ⟨b2, 0, none⟩) (m := 0) (o := 4) Try.underlying25 rfl nz5 rfl rfl) ?_)
          refine RA_step rfl (OA_r rfl (VR_load_blk (b := b2) (m := 4) (k := 0) Try.underlying5 rfl rfl rfl rfl) ?_)
          refine RA_step rfl (OA_bs (kd := (Kd.int .u8)) (zv := (.int .u8 0)) (sz := 1) (cells := [.int .u8 27, .int .u8 79, .int .u8 a0.f4]) (xs := ([27, 79, a0.f4] : (List Int))) rfl Try.underlying23 zero5 sz5 rfl rfl rfl (by kernel_rfl) rfl rfl (RL_enc (fun x_ : Int => [Value.int .u8 x_]) (fun _ _ => rfl) (by kernel_rfl)) fun b18 => ?_)
          refine RA_step rfl (OA_v (v := .slice (some ⟨b18, 0, none⟩) ([27, 79, a0.f4] : (List Int)).length 3) rfl (V_assign rfl) ?_)
          refine RA_step rfl (OA_v (v := .int .i64 0) rfl (V_assign rfl) ?_)
          refine RA_nil ?_
          refine at_normal ?_
          refine SA_ret ?_
          refine inb_ret ?_
          refine thn_ret ?_
          have hr_ := Option.some.inj H
          subst hr_
          exact BQ_R2 [Buf (Kd.int .u8) 5 (some ⟨b18, 0, none⟩) 3 ([27, 79, a0.f4] : (List Int))] rfl rfl rfl (Gh.sel [2] rfl rfl) ⟨some ⟨b18, 0, none⟩, 3, rfl, rfl⟩
        · replace H := g_iff h17 H
          refine SA_condFb rfl h17 ?_
          refine SA_seq ?_
          refine SA_region ?_
          refine RA_step rfl (OA_v (v := .pointer (some ⟨b2, 0, none⟩)) rfl (V_fieldAddrN (B := ⟨b2, 0, none⟩) (m := 0) (o := 0) Try.underlying25 rfl nz22 rfl rfl) ?_)
          refine RA_step rfl (OA_r rfl (VR_load_blk (b := b2) (m := 0) (k := 0) Try.underlying22 rfl rfl rfl rfl) ?_)
          refine RA_step rfl (OA_v (v := .bool (decide (a0.f0 = 4))) rfl (V_eql rfl rfl) ?_)
          refine RA_step rfl (OA_v (v := .bool (decide (a0.f0 = 4))) rfl (V_assign rfl) ?_)
          refine RA_nil ?_
          refine at_normal ?_
          by_cases h20 : a0.f0 = 4
          · replace H := g_ift h20 H
            refine SA_condT rfl h20 ?_
            refine SA_seq ?_
            refine SA_region ?_
            refine RA_step rfl (OA_v (v := .pointer (some ((⟨b2, 0, none⟩ : Addr).add 4))) rfl (V_fieldAddrN (B := ⟨b2, 0, none⟩) (m := 0) (o := 4) Try.underlying25 rfl nz5 rfl rfl) ?_)
            refine RA_step rfl (OA_r rfl (VR_load_blk (b := b2) (m := 4) (k := 0) Try.underlying5 rfl rfl rfl rfl) ?_)
            refine RA_step rfl (OA_bs (kd := (Kd.int .u8)) (zv := (.int .u8 0)) (sz := 1) (cells := [.int .u8 27, .int .u8 91, .int .u8 a0.f4]) (xs := ([27, 91, a0.f4] : (List Int))) rfl Try.underlying23 zero5 sz5 rfl rfl rfl (by kernel_rfl) rfl rfl (RL_enc (fun x_ : Int => [Value.int .u8 x_]) (fun _ _ => rfl) (by kernel_rfl)) fun b21 => ?_)
            refine RA_step rfl (OA_v (v := .slice (some ⟨b21, 0, none⟩) ([27, 91, a0.f4] : (List Int)).length 3) rfl (V_assign rfl) ?_)
            refine RA_step rfl (OA_v (v := .int .i64 0) rfl (V_assign rfl) ?_)
            refine RA_nil ?_
            refine at_normal ?_
            refine SA_ret ?_
            refine inb_ret ?_
            refine thn_ret ?_
            have hr_ := Option.some.inj H
            subst hr_
            exact BQ_R2 [Buf (Kd.int .u8) 5 (some ⟨b21, 0, none⟩) 3 ([27, 91, a0.f4] : (List Int))] rfl rfl rfl (Gh.sel [2] rfl rfl) ⟨some ⟨b21, 0, none⟩, 3, rfl, rfl⟩
          · replace H := g_iff h20 H
            refine SA_condF rfl h20 ?_
            refine SA_seq ?_
            refine SA_region ?_
            refine RA_step rfl (OA_v (v := .pointer (some ⟨b2, 0, none⟩)) rfl (V_fieldAddrN (B := ⟨b2, 0, none⟩) (m := 0) (o := 0) Try.underlying25 rfl nz22 rfl rfl) ?_)
            refine RA_step rfl (OA_r rfl (VR_load_blk (b := b2) (m := 0) (k := 0) Try.underlying22 rfl rfl rfl rfl) ?_)
            refine RA_step rfl (OA_v (v := .bool (decide (a0.f0 = 3))) rfl (V_eql rfl rfl) ?_)
            refine RA_step rfl (OA_v (v := .bool (decide (a0.f0 = 3))) rfl (V_move rfl) ?_)
            obtain ⟨q23, hq23, H⟩ := g_lt H
            refine RA_cut 2 (fun e ds As => St [(3, .pointer (some ⟨b2, 0, none⟩)), (41, .bool q23)] [Blk b2 25 [.int .u8 a0.f0, .slice A0_0 a0.f1.length c0_0, .int .i64 a0.f2, .int .i64 a0.f3, .int .u8 a0.f4], Ro (Kd.int .u8) A0_0 c0_0 a0.f1] e ds As) ?_ ?_
            · by_cases h24 : a0.f0 = 3
              · refine RA_yesB rfl rfl rfl rfl (dec_t h24) (OA_v (v := .bool a2) rfl (V_move rfl) ?_)
                refine RA_step rfl (OA_v rfl (V_pickT rfl (dec_t h24) rfl) ?_)
                refine RA_nil ?_
                exact at_normal (St.mk1 (aeq rfl (aeq (congrArg Value.bool (and_t hq23 (dec_t h24))) aeq0)) (Gh.sel [0, 1] rfl rfl))
              · refine RA_noB rfl rfl rfl rfl (dec_f h24) rfl ?_
                refine RA_step rfl (OA_v rfl (V_pickF rfl (dec_f h24) rfl) ?_)
                refine RA_nil ?_
                exact at_normal (St.mk1 (aeq rfl (aeq (congrArg Value.bool (and_f hq23 (dec_f h24))) aeq0)) (Gh.sel [0, 1] rfl rfl))
            · rintro e ds As hst25
              refine RA.of_St rfl hst25 fun junk => ?_
              refine RA_step rfl (OA_v (v := .bool q23) rfl (V_assign rfl) ?_)
              refine RA_nil ?_
              refine at_normal ?_
              by_cases h26 : q23 = true
              · replace H := g_ift h26 H
                refine SA_condTb rfl h26 ?_
                refine SA_seq ?_
                refine SA_region ?_
                refine RA_step rfl (OA_bs (kd := (Kd.int .u8)) (zv := (.int .u8 0)) (sz := 1) (cells := [.int .u8 27, .int .u8 91, .int .u8 50, .int .u8 48, .int .u8 48, .int .u8 126]) (xs := ([27, 91, 50, 48, 48, 126] : (List Int))) rfl Try.underlying23 zero5 sz5 rfl rfl rfl (by kernel_rfl) rfl rfl (RL_enc (fun x_ : Int => [Value.int .u8 x_]) (fun _ _ => rfl) (by kernel_rfl)) fun b27 => ?_)
                refine RA_step rfl (OA_bytesConst (k := 2) rfl Try.underlying23 Try.underlying5 rfl (by simp) rfl ?_)
                refine RA_step rfl (OA_v (v := .pointer (some ((⟨b2, 0, none⟩ : Addr).add 1))) rfl (V_fieldAddrN (B := ⟨b2, 0, none⟩) (m := 0) (o := 1) Try.underlying25 rfl nz23 rfl rfl) ?_)
                refine RA_step rfl (OA_r rfl (VR_load_blk (b := b2) (m := 1) (k := 0) Try.underlying23 rfl rfl rfl rfl) ?_)
                obtain ⟨r29, C45, H⟩ := g_bind H
                refine RA_step rfl (OA_callA [1] [0, 1, 2] rfl (X_fn (vs := [.slice A0_0 a0.f1.length c0_0]) Try.func17 nm17 rfl rfl) rfl (F17.ok (l0 := a0.f1) (A0 := A0_0) (c0 := c0_0) C45) rfl ?_)
                rintro _ _ ⟨A30, c31, rfl, rfl⟩
                obtain ⟨r33, C44, H⟩ := g_bind H
                refine RA_step rfl (OA.ghost (Gh.freeze (k := 3) rfl) (OA.ghost (Gh.freeze (k := 0) rfl) (OA_callA [3, 0] [0, 1, 2, 3] rfl (X_fn (vs := [.slice (some ⟨b27, 0, none⟩) ([27, 91, 50, 48, 48, 126] : (List Int)).length 6, .slice A30 r29.length c31]) Try.func58 nm58 rfl rfl) rfl (F58.ok (l0 := ([27, 91, 50, 48, 48, 126] : (List Int))) (A0 := some ⟨b27, 0, none⟩) (c0 := 6) (l1 := r29) (A1 := A30) (c1 := c31) C44) rfl ?_)))
                rintro _ _ ⟨A34, c35, rfl, rfl⟩
                refine RA_step rfl (OA_bs (kd := (Kd.int .u8)) (zv := (.int .u8 0)) (sz := 1) (cells := [.int .u8 27, .int .u8 91, .int .u8 50, .int .u8 48, .int .u8 49, .int .u8 126]) (xs := ([27, 91, 50, 48, 49, 126] : (List Int))) rfl Try.underlying23 zero5 sz5 rfl rfl rfl (by kernel_rfl) rfl rfl (RL_enc (fun x_ : Int => [Value.int .u8 x_]) (fun _ _ => rfl) (by kernel_rfl)) fun b37 => ?_)
                refine RA_step rfl (OA_bytesConst (k := 5) rfl Try.underlying23 Try.underlying5 rfl (by simp) rfl ?_)
                obtain ⟨r39, C43, H⟩ := g_bind H
                refine RA_step rfl (OA.ghost (Gh.freeze (k := 0) rfl) (OA.ghost (Gh.freeze (k := 5) rfl) (OA_callA [0, 5] [0, 1, 2, 3, 4, 5] rfl (X_fn (vs := [.slice A34 r33.length c35, .slice (some ⟨b37, 0, none⟩) ([27, 91, 50, 48, 49, 126] : (List Int)).length 6]) Try.func58 nm58 rfl rfl) rfl (F58.ok (l0 := r33) (A0 := A34) (c0 := c35) (l1 := ([27, 91, 50, 48, 49, 126] : (List Int))) (A1 := some ⟨b37, 0, none⟩) (c1 := 6) C43) rfl ?_)))
                rintro _ _ ⟨A40, c41, rfl, rfl⟩
                refine RA_step rfl (OA_v (v := .slice A40 r39.length c41) rfl (V_assign rfl) ?_)
                refine RA_step rfl (OA_v (v := .int .i64 0) rfl (V_assign rfl) ?_)
                refine RA_nil ?_
                refine at_normal ?_
                refine SA_ret ?_
                refine inb_ret ?_
                refine thn_ret ?_
                have hr_ := Option.some.inj H
                subst hr_
                exact BQ_R2 [Buf (Kd.int .u8) 5 A40 c41 r39] rfl rfl rfl (Gh.sel [0] rfl rfl) ⟨A40, c41, rfl, rfl⟩
              · replace H := g_iff h26 H
                refine SA_condFb rfl h26 ?_
                refine SA_seq ?_
                refine SA_region ?_
                refine RA_step rfl (OA_v (v := .pointer (some ⟨b2, 0, none⟩)) rfl (V_fieldAddrN (B := ⟨b2, 0, none⟩) (m := 0) (o := 0) Try.underlying25 rfl nz22 rfl rfl) ?_)
                refine RA_step rfl (OA_r rfl (VR_load_blk (b := b2) (m := 0) (k := 0) Try.underlying22 rfl rfl rfl rfl) ?_)
                refine RA_step rfl (OA_v (v := .bool (decide (a0.f0 = 3))) rfl (V_eql rfl rfl) ?_)
                refine RA_step rfl (OA_v (v := .bool (decide (a0.f0 = 3))) rfl (V_assign rfl) ?_)
                refine RA_nil ?_
                refine at_normal ?_
                by_cases h46 : a0.f0 = 3
                · replace H := g_ift h46 H
                  refine SA_condT rfl h46 ?_
                  refine SA_seq ?_
                  refine SA_region ?_
                  refine RA_step rfl (OA_v (v := .pointer (some ((⟨b2, 0, none⟩ : Addr).add 1))) rfl (V_fieldAddrN (B := ⟨b2, 0, none⟩) (m := 0) (o := 1) Try.underlying25 rfl nz23 rfl rfl) ?_)
                  refine RA_step rfl (OA_r rfl (VR_load_blk (b := b2) (m := 1) (k := 0) Try.underlying23 rfl rfl rfl rfl) ?_)
                  obtain ⟨r47, C51, H⟩ := g_bind H
                  refine RA_step rfl (OA_callA [1] [0, 1] rfl (X_fn (vs := [.slice A0_0 a0.f1.length c0_0]) Try.func17 nm17 rfl rfl) rfl (F17.ok (l0 := a0.f1) (A0 := A0_0) (c0 := c0_0) C51) rfl ?_)
                  rintro _ _ ⟨A48, c49, rfl, rfl⟩
                  refine RA_step rfl (OA_v (v := .slice A48 r47.length c49) rfl (V_assign rfl) ?_)
                  refine RA_step rfl (OA_v (v := .int .i64 0) rfl (V_assign rfl) ?_)
                  refine RA_nil ?_
                  refine at_normal ?_
                  refine SA_ret ?_
                  refine inb_ret ?_
                  refine thn_ret ?_
                  have hr_ := Option.some.inj H
                  subst hr_
                  exact BQ_R2 [Buf (Kd.int .u8) 5 A48 c49 r47] rfl rfl rfl (Gh.sel [0] rfl rfl) ⟨A48, c49, rfl, rfl⟩
                · replace H := g_iff h46 H
                  refine SA_condF rfl h46 ?_
                  refine SA_skip ?_
                  refine inb_normal ?_
                  refine at_normal ?_
                  refine SA_seq ?_
                  refine SA_region ?_
                  refine RA_step rfl (OA_v (v := .slice none 0 0) rfl (V_assign rfl) ?_)
                  refine RA_step rfl (OA_v (v := .int .i64 0) rfl (V_assign rfl) ?_)
                  refine RA_nil ?_
                  refine at_normal ?_
                  refine SA_ret ?_
                  have hr_ := Option.some.inj H
                  subst hr_
                  exact BQ_R2 [Buf (Kd.int .u8) 5 none 0 ([] : (List Int))] rfl rfl rfl ((Gh.nilBuf (Kd.int .u8) 5).trans (Gh.sel [2] rfl rfl)) ⟨none, 0, rfl, rfl⟩

/-! ### function 59: wayfarer/wayfarerref07.May -/
def F59.f (a0 : S25) : Option (Bool) := lt ((decide (a0.f2 = 0)) && (decide (a0.f3 = 0))) fun q4 => if a0.f0 = 1 then (lt ((decide ((a0.f1.length : Int) ≥ 1)) && (decide ((a0.f1.length : Int) ≤ 4096))) fun q8 => lt (q8 && q4) fun q11 => lt (q11 && (decide (a0.f4 = 0))) fun q14 => some (q14)) else (if a0.f0 = 2 then (lt ((decide ((a0.f1.length : Int) = 0)) && (decide (a0.f4 = 0))) fun q18 => lt (q18 && (decide (a0.f2 ≥ 1))) fun q21 => lt (q21 && (decide (a0.f2 ≤ 512))) fun q24 => lt (q24 && (decide (a0.f3 ≥ 1))) fun q27 => lt (q27 && (decide (a0.f3 ≤ 512))) fun q30 => some (q30)) else (if a0.f0 = 3 then (lt ((decide ((a0.f1.length : Int) ≤ 4096)) && q4) fun q34 => lt (q34 && (decide (a0.f4 = 0))) fun q37 => some (q37)) else (if a0.f0 = 4 then (lt ((decide ((a0.f1.length : Int) = 0)) && q4) fun q41 => lt (q41 && (decide (a0.f4 ≥ 65))) fun q44 => lt (q44 && (decide (a0.f4 ≤ 68))) fun q47 => some (q47)) else (some (false)))))
set_option maxHeartbeats 2000000 in
set_option maxRecDepth 100000 in
theorem F59.ok {a0 : S25} {A0_0 : Option Addr} {c0_0 : Nat} {r : Bool} (H : F59.f a0 = some r) : SCA Try.prog 59 #[.agg #[.int .u8 a0.f0, .slice A0_0 a0.f1.length c0_0, .int .i64 a0.f2, .int .i64 a0.f3, .int .u8 a0.f4]] [Ro (Kd.int .u8) A0_0 c0_0 a0.f1] (fun v B => v = .bool r ∧ B = []) := by
  refine SCA_of_body Try.func59 rfl rfl ?_
  unfold F59.f at H
  refine SA_seq ?_
  refine SA_region ?_
  refine RA_step rfl (OA_box rfl rfl fun b2 => ?_)
  refine RA_step rfl (OA_v (v := .bool false) rfl (V_assign rfl) ?_)
  refine RA_nil ?_
  refine at_normal ?_
  refine SA_seq ?_
  refine SA_region ?_
  refine RA_step rfl (OA_v (v := .pointer (some ((⟨b2, 0, none⟩ : Addr).add 2))) rfl (V_fieldAddrN (B := ⟨b2, 0, none⟩) (m := 0) (o := 2) Try.underlying25 rfl nz3 rfl rfl) ?_)
  refine RA_step rfl (OA_r rfl (VR_load_blk (b := b2) (m := 2) (k := 1) Try.underlying3 rfl rfl rfl rfl) ?_)
  refine RA_step rfl (OA_v (v := .bool (decide (a0.f2 = 0))) rfl (V_eql rfl rfl) ?_)
  refine RA_step rfl (OA_v (v := .bool (decide (a0.f2 = 0))) rfl (V_move rfl) ?_)
  obtain ⟨q4, hq4, H⟩ := g_lt H
  refine RA_cut 4 (fun e ds As => St [(1, .pointer (some ⟨b2, 0, none⟩)), (11, .bool q4)] [Blk b2 25 [.int .u8 a0.f0, .slice A0_0 a0.f1.length c0_0, .int .i64 a0.f2, .int .i64 a0.f3, .int .u8 a0.f4], Ro (Kd.int .u8) A0_0 c0_0 a0.f1] e ds As) ?_ ?_
  · by_cases h5 : a0.f2 = 0
    · refine RA_yesB rfl rfl rfl rfl (dec_t h5) (OA_v (v := .pointer (some ((⟨b2, 0, none⟩ : Addr).add 3))) rfl (V_fieldAddrN (B := ⟨b2, 0, none⟩) (m := 0) (o := 3) Try.underlying25 rfl nz3 rfl rfl) ?_)
      refine RA_yesB rfl rfl rfl rfl (dec_t h5) (OA_r rfl (VR_load_blk (b := b2) (m := 3) (k := 1) Try.underlying3 rfl rfl rfl rfl) ?_)
      refine RA_yesB rfl rfl rfl rfl (dec_t h5) (OA_v (v := .bool (decide (a0.f3 = 0))) rfl (V_eql rfl rfl) ?_)
      refine RA_step rfl (OA_v rfl (V_pickT rfl (dec_t h5) rfl) ?_)
      refine RA_nil ?_
      exact at_normal (St.mk1 (aeq rfl (aeq (congrArg Value.bool (and_t hq4 (dec_t h5))) aeq0)) (Gh.sel [1, 0] rfl rfl))
    · refine RA_noB rfl rfl rfl rfl (dec_f h5) rfl ?_
      refine RA_noB rfl rfl rfl rfl (dec_f h5) rfl ?_
      refine RA_noB rfl rfl rfl rfl (dec_f h5) rfl ?_
      refine RA_step rfl (OA_v rfl (V_pickF rfl (dec_f h5) rfl) ?_)
      refine RA_nil ?_
      exact at_normal (St.mk1 (aeq rfl (aeq (congrArg Value.bool (and_f hq4 (dec_f h5))) aeq0)) (Gh.sel [1, 0] rfl rfl))
  · rintro e ds As hst6
    refine RA.of_St rfl hst6 fun junk => ?_
    refine RA_step rfl (OA_v (v := .bool q4) rfl (V_assign rfl) ?_)
    refine RA_nil ?_
    refine at_normal ?_
    refine SA_seq ?_
    refine SA_seq ?_
    refine SA_region ?_
    refine RA_step rfl (OA_v (v := .pointer (some ⟨b2, 0, none⟩)) rfl (V_fieldAddrN (B := ⟨b2, 0, none⟩) (m := 0) (o := 0) Try.underlying25 rfl nz22 rfl rfl) ?_)
    refine RA_step rfl (OA_r rfl (VR_load_blk (b := b2) (m := 0) (k := 0) Try.underlying22 rfl rfl rfl rfl) ?_)
    refine RA_nil ?_
    refine at_normal ?_
    refine SA_block ?_
    refine SA_seq ?_
    refine SA_region ?_
    refine RA_step rfl (OA_v (v := .bool (decide (a0.f0 = 1))) rfl (V_eql rfl rfl) ?_)
    refine RA_step rfl (OA_v (v := .bool (decide (a0.f0 = 1))) rfl (V_assign rfl) ?_)
    refine RA_nil ?_
    refine at_normal ?_
    by_cases h7 : a0.f0 = 1
    · replace H := g_ift h7 H
      refine SA_condT rfl h7 ?_
      refine SA_seq ?_
      refine SA_region ?_
      refine RA_step rfl (OA_v (v := .pointer (some ((⟨b2, 0, none⟩ : Addr).add 1))) rfl (V_fieldAddrN (B := ⟨b2, 0, none⟩) (m := 0) (o := 1) Try.underlying25 rfl nz23 rfl rfl) ?_)
      refine RA_step rfl (OA_r rfl (VR_load_blk (b := b2) (m := 1) (k := 0) Try.underlying23 rfl rfl rfl rfl) ?_)
      refine RA_step rfl (OA_v (v := .int .i64 (a0.f1.length : Int)) rfl (V_len Try.underlying23 rfl) ?_)
      refine RA_step rfl (OA_v (v := .bool (decide ((a0.f1.length : Int) ≥ 1))) rfl (V_geq rfl rfl) ?_)
      refine RA_step rfl (OA_v (v := .bool (decide ((a0.f1.length : Int) ≥ 1))) rfl (V_move rfl) ?_)
      obtain ⟨q8, hq8, H⟩ := g_lt H
      refine RA_cut 5 (fun e ds As => St [(1, .pointer (some ⟨b2, 0, none⟩)), (3, .bool q4), (25, .bool q8)] [Blk b2 25 [.int .u8 a0.f0, .slice A0_0 a0.f1.length c0_0, .int .i64 a0.f2, .int .i64 a0.f3, .int .u8 a0.f4], Ro (Kd.int .u8) A0_0 c0_0 a0.f1] e ds As) ?_ ?_
      · by_cases h9 : (a0.f1.length : Int) ≥ 1
        · refine RA_yesB rfl rfl rfl rfl (dec_t h9) (OA_v (v := .pointer (some ((⟨b2, 0, none⟩ : Addr).add 1))) rfl (V_fieldAddrN (B := ⟨b2, 0, none⟩) (m := 0) (o := 1) Try.underlying25 rfl nz23 rfl rfl) ?_)
          refine RA_yesB rfl rfl rfl rfl (dec_t h9) (OA_r rfl (VR_load_blk (b := b2) (m := 1) (k := 0) Try.underlying23 rfl rfl rfl rfl) ?_)
          refine RA_yesB rfl rfl rfl rfl (dec_t h9) (OA_v (v := .int .i64 (a0.f1.length : Int)) rfl (V_len Try.underlying23 rfl) ?_)
          refine RA_yesB rfl rfl rfl rfl (dec_t h9) (OA_v (v := .bool (decide ((a0.f1.length : Int) ≤ 4096))) rfl (V_leq rfl rfl) ?_)
          refine RA_step rfl (OA_v rfl (V_pickT rfl (dec_t h9) rfl) ?_)
          refine RA_nil ?_
          exact at_normal (St.mk1 (aeq rfl (aeq rfl (aeq (congrArg Value.bool (and_t hq8 (dec_t h9))) aeq0))) (Gh.sel [0, 1] rfl rfl))
        · refine RA_noB rfl rfl rfl rfl (dec_f h9) rfl ?_
          refine RA_noB rfl rfl rfl rfl (dec_f h9) rfl ?_
          refine RA_noB rfl rfl rfl rfl (dec_f h9) rfl ?_
          refine RA_noB rfl rfl rfl rfl (dec_f h9) rfl ?_
          refine RA_step rfl (OA_v rfl (V_pickF rfl (dec_f h9) rfl) ?_)
          refine RA_nil ?_
          exact at_normal (St.mk1 (aeq rfl (aeq rfl (aeq (congrArg Value.bool (and_f hq8 (dec_f h9))) aeq0))) (Gh.sel [0, 1] rfl rfl))
      · rintro e ds As hst10
        refine RA.of_St rfl hst10 fun junk => ?_
        refine RA_step rfl (OA_v (v := .bool q8) rfl (V_move rfl) ?_)
        obtain ⟨q11, hq11, H⟩ := g_lt H
        refine RA_cut 2 (fun e ds As => St [(1, .pointer (some ⟨b2, 0, none⟩)), (28, .bool q11)] [Blk b2 25 [.int .u8 a0.f0, .slice A0_0 a0.f1.length c0_0, .int .i64 a0.f2, .int .i64 a0.f3, .int .u8 a0.f4], Ro (Kd.int .u8) A0_0 c0_0 a0.f1] e ds As) ?_ ?_
        · by_cases h12 : q8 = true
          · refine RA_yesB rfl rfl rfl rfl (h12) (OA_v (v := .bool q4) rfl (V_move rfl) ?_)
            refine RA_step rfl (OA_v rfl (V_pickT rfl (h12) rfl) ?_)
            refine RA_nil ?_
            exact at_normal (St.mk1 (aeq rfl (aeq (congrArg Value.bool (and_t hq11 (h12))) aeq0)) (Gh.sel [0, 1] rfl rfl))
          · refine RA_noB rfl rfl rfl rfl (bno h12) rfl ?_
            refine RA_step rfl (OA_v rfl (V_pickF rfl (bno h12) rfl) ?_)
            refine RA_nil ?_
            exact at_normal (St.mk1 (aeq rfl (aeq (congrArg Value.bool (and_f hq11 (bno h12))) aeq0)) (Gh.sel [0, 1] rfl rfl))
        · rintro e ds As hst13
          refine RA.of_St rfl hst13 fun junk => ?_
          refine RA_step rfl (OA_v (v := .bool q11) rfl (V_move rfl) ?_)
          obtain ⟨q14, hq14, H⟩ := g_lt H
          refine RA_cut 4 (fun e ds As => St [(33, .bool q14)] [] e ds As) ?_ ?_
          · by_cases h15 : q11 = true
            · refine RA_yesB rfl rfl rfl rfl (h15) (OA_v (v := .pointer (some ((⟨b2, 0, none⟩ : Addr).add 4))) rfl (V_fieldAddrN (B := ⟨b2, 0, none⟩) (m := 0) (o := 4) Try.underlying25 rfl nz5 rfl rfl) ?_)
              refine RA_yesB rfl rfl rfl rfl (h15) (OA_r rfl (VR_load_blk (b := b2) (m := 4) (k := 0) Try.underlying5 rfl rfl rfl rfl) ?_)
              refine RA_yesB rfl rfl rfl rfl (h15) (OA_v (v := .bool (decide (a0.f4 = 0))) rfl (V_eql rfl rfl) ?_)
              refine RA_step rfl (OA_v rfl (V_pickT rfl (h15) rfl) ?_)
              refine RA_nil ?_
              exact at_normal (St.mk1 (aeq (congrArg Value.bool (and_t hq14 (h15))) aeq0) (Gh.sel [] rfl rfl))
            · refine RA_noB rfl rfl rfl rfl (bno h15) rfl ?_
              refine RA_noB rfl rfl rfl rfl (bno h15) rfl ?_
              refine RA_noB rfl rfl rfl rfl (bno h15) rfl ?_
              refine RA_step rfl (OA_v rfl (V_pickF rfl (bno h15) rfl) ?_)
              refine RA_nil ?_
              exact at_normal (St.mk1 (aeq (congrArg Value.bool (and_f hq14 (bno h15))) aeq0) (Gh.sel [] rfl rfl))
          · rintro e ds As hst16
            refine RA.of_St rfl hst16 fun junk => ?_
            refine RA_step rfl (OA_v (v := .bool q14) rfl (V_assign rfl) ?_)
            refine RA_nil ?_
            refine at_normal ?_
            refine SA_ret ?_
            refine inb_ret ?_
            refine thn_ret ?_
            have hr_ := Option.some.inj H
            subst hr_
            exact BQ_R1 [] rfl rfl (Gh.sel [] rfl rfl) ⟨rfl, rfl⟩
    · replace H := g_iff h7 H
      refine SA_condF rfl h7 ?_
      refine SA_seq ?_
      refine SA_region ?_
      refine RA_step rfl (OA_v (v := .bool (decide (a0.f0 = 2))) rfl (V_eql rfl rfl) ?_)
      refine RA_step rfl (OA_v (v := .bool (decide (a0.f0 = 2))) rfl (V_assign rfl) ?_)
      refine RA_nil ?_
      refine at_normal ?_
      by_cases h17 : a0.f0 = 2
      · replace H := g_ift h17 H
        refine SA_condT rfl h17 ?_
        refine SA_seq ?_
        refine SA_region ?_
        refine RA_step rfl (OA_v (v := .pointer (some ((⟨b2, 0, none⟩ : Addr).add 1))) rfl (V_fieldAddrN (B := ⟨b2, 0, none⟩) (m := 0) (o := 1) Try.underlying25 rfl nz23 rfl rfl) ?_)
        refine RA_step rfl (OA_r rfl (VR_load_blk (b := b2) (m := 1) (k := 0) Try.underlying23 rfl rfl rfl rfl) ?_)
        refine RA_step rfl (OA_v (v := .int .i64 (a0.f1.length : Int)) rfl (V_len Try.underlying23 rfl) ?_)
        refine RA_step rfl (OA_v (v := .bool (decide ((a0.f1.length : Int) = 0))) rfl (V_eql rfl rfl) ?_)
        refine RA_step rfl (OA_v (v := .bool (decide ((a0.f1.length : Int) = 0))) rfl (V_move rfl) ?_)
        obtain ⟨q18, hq18, H⟩ := g_lt H
        refine RA_cut 4 (fun e ds As => St [(1, .pointer (some ⟨b2, 0, none⟩)), (44, .bool q18)] [Blk b2 25 [.int .u8 a0.f0, .slice A0_0 a0.f1.length c0_0, .int .i64 a0.f2, .int .i64 a0.f3, .int .u8 a0.f4], Ro (Kd.int .u8) A0_0 c0_0 a0.f1] e ds As) ?_ ?_
        · by_cases h19 : (a0.f1.length : Int) = 0
          · refine RA_yesB rfl rfl rfl rfl (dec_t h19) (OA_v (v := .pointer (some ((⟨b2, 0, none⟩ : Addr).add 4))) rfl (V_fieldAddrN (B := ⟨b2, 0, none⟩) (m := 0) (o := 4) Try.underlying25 rfl nz5 rfl rfl) ?_)
            refine RA_yesB rfl rfl rfl rfl (dec_t h19) (OA_r rfl (VR_load_blk (b := b2) (m := 4) (k := 0) Try.underlying5 rfl rfl rfl rfl) ?_)
            refine RA_yesB rfl rfl rfl rfl (dec_t h19) (OA_v (v := .bool (decide (a0.f4 = 0))) rfl (V_eql rfl rfl) ?_)
            refine RA_step rfl (OA_v rfl (V_pickT rfl (dec_t h19) rfl) ?_)
            refine RA_nil ?_
            exact at_normal (St.mk1 (aeq rfl (aeq (congrArg Value.bool (and_t hq18 (dec_t h19))) aeq0)) (Gh.sel [0, 1] rfl rfl))
          · refine RA_noB rfl rfl rfl rfl (dec_f h19) rfl ?_
            refine RA_noB rfl rfl rfl rfl (dec_f h19) rfl ?_
            refine RA_noB rfl rfl rfl rfl (dec_f h19) rfl ?_
            refine RA_step rfl (OA_v rfl (V_pickF rfl (dec_f h19) rfl) ?_)
            refine RA_nil ?_
            exact at_normal (St.mk1 (aeq rfl (aeq (congrArg Value.bool (and_f hq18 (dec_f h19))) aeq0)) (Gh.sel [0, 1] rfl rfl))
        · rintro e ds As hst20
          refine RA.of_St rfl hst20 fun junk => ?_
          refine RA_step rfl (OA_v (v := .bool q18) rfl (V_move rfl) ?_)
          obtain ⟨q21, hq21, H⟩ := g_lt H
          refine RA_cut 4 (fun e ds As => St [(1, .pointer (some ⟨b2, 0, none⟩)), (49, .bool q21)] [Blk b2 25 [.int .u8 a0.f0, .slice A0_0 a0.f1.length c0_0, .int .i64 a0.f2, .int .i64 a0.f3, .int .u8 a0.f4], Ro (Kd.int .u8) A0_0 c0_0 a0.f1] e ds As) ?_ ?_
          · by_cases h22 : q18 = true
            · refine RA_yesB rfl rfl rfl rfl (h22) (OA_v (v := .pointer (some ((⟨b2, 0, none⟩ : Addr).add 2))) rfl (V_fieldAddrN (B := ⟨b2, 0, none⟩) (m := 0) (o := 2) Try.underlying25 rfl nz3 rfl rfl) ?_)
              refine RA_yesB rfl rfl rfl rfl (h22) (OA_r rfl (VR_load_blk (b := b2) (m := 2) (k := 0) Try.underlying3 rfl rfl rfl rfl) ?_)
              refine RA_yesB rfl rfl rfl rfl (h22) (OA_v (v := .bool (decide (a0.f2 ≥ 1))) rfl (V_geq rfl rfl) ?_)
              refine RA_step rfl (OA_v rfl (V_pickT rfl (h22) rfl) ?_)
              refine RA_nil ?_
              exact at_normal (St.mk1 (aeq rfl (aeq (congrArg Value.bool (and_t hq21 (h22))) aeq0)) (Gh.sel [0, 1] rfl rfl))
            · refine RA_noB rfl rfl rfl rfl (bno h22) rfl ?_
              refine RA_noB rfl rfl rfl rfl (bno h22) rfl ?_
              refine RA_noB rfl rfl rfl rfl (bno h22) rfl ?_
              refine RA_step rfl (OA_v rfl (V_pickF rfl (bno h22) rfl) ?_)
              refine RA_nil ?_
              exact at_normal (St.mk1 (aeq rfl (aeq (congrArg Value.bool (and_f hq21 (bno h22))) aeq0)) (Gh.sel [0, 1] rfl rfl))
          · rintro e ds As hst23
            refine RA.of_St rfl hst23 fun junk => ?_
            refine RA_step rfl (OA_v (v := .bool q21) rfl (V_move rfl) ?_)
            obtain ⟨q24, hq24, H⟩ := g_lt H
            refine RA_cut 4 (fun e ds As => St [(1, .pointer (some ⟨b2, 0, none⟩)), (54, .bool q24)] [Blk b2 25 [.int .u8 a0.f0, .slice A0_0 a0.f1.length c0_0, .int .i64 a0.f2, .int .i64 a0.f3, .int .u8 a0.f4], Ro (Kd.int .u8) A0_0 c0_0 a0.f1] e ds As) ?_ ?_
            · by_cases h25 : q21 = true
              · refine RA_yesB rfl rfl rfl rfl (h25) (OA_v (v := .pointer (some ((⟨b2, 0, none⟩ : Addr).add 2))) rfl (V_fieldAddrN (B := ⟨b2, 0, none⟩) (m := 0) (o := 2) Try.underlying25 rfl nz3 rfl rfl) ?_)
                refine RA_yesB rfl rfl rfl rfl (h25) (OA_r rfl (VR_load_blk (b := b2) (m := 2) (k := 0) Try.underlying3 rfl rfl rfl rfl) ?_)
                refine RA_yesB rfl rfl rfl rfl (h25) (OA_v (v := .bool (decide (a0.f2 ≤ 512))) rfl (V_leq rfl rfl) ?_)
                refine RA_step rfl (OA_v rfl (V_pickT rfl (h25) rfl) ?_)
                refine RA_nil ?_
                exact at_normal (St.mk1 (aeq rfl (aeq (congrArg Value.bool (and_t hq24 (h25))) aeq0)) (Gh.sel [0, 1] rfl rfl))
              · refine RA_noB rfl rfl rfl rfl (bno h25) rfl ?_
                refine RA_noB rfl rfl rfl rfl (bno h25) rfl ?_
                refine RA_noB rfl rfl rfl rfl (bno h25) rfl ?_
                refine RA_step rfl (OA_v rfl (V_pickF rfl (bno h25) rfl) ?_)
                refine RA_nil ?_
                exact at_normal (St.mk1 (aeq rfl (aeq (congrArg Value.bool (and_f hq24 (bno h25))) aeq0)) (Gh.sel [0, 1] rfl rfl))
            · rintro e ds As hst26
              refine RA.of_St rfl hst26 fun junk => ?_
              refine RA_step rfl (OA_v (v := .bool q24) rfl (V_move rfl) ?_)
              obtain ⟨q27, hq27, H⟩ := g_lt H
              refine RA_cut 4 (fun e ds As => St [(1, .pointer (some ⟨b2, 0, none⟩)), (59, .bool q27)] [Blk b2 25 [.int .u8 a0.f0, .slice A0_0 a0.f1.length c0_0, .int .i64 a0.f2, .int .i64 a0.f3, .int .u8 a0.f4], Ro (Kd.int .u8) A0_0 c0_0 a0.f1] e ds As) ?_ ?_
              · by_cases h28 : q24 = true
                · refine RA_yesB rfl rfl rfl rfl (h28) (OA_v (v := .pointer (some ((⟨b2, 0, none⟩ : Addr).add 3))) rfl (V_fieldAddrN (B := ⟨b2, 0, none⟩) (m := 0) (o := 3) Try.underlying25 rfl nz3 rfl rfl) ?_)
                  refine RA_yesB rfl rfl rfl rfl (h28) (OA_r rfl (VR_load_blk (b := b2) (m := 3) (k := 0) Try.underlying3 rfl rfl rfl rfl) ?_)
                  refine RA_yesB rfl rfl rfl rfl (h28) (OA_v (v := .bool (decide (a0.f3 ≥ 1))) rfl (V_geq rfl rfl) ?_)
                  refine RA_step rfl (OA_v rfl (V_pickT rfl (h28) rfl) ?_)
                  refine RA_nil ?_
                  exact at_normal (St.mk1 (aeq rfl (aeq (congrArg Value.bool (and_t hq27 (h28))) aeq0)) (Gh.sel [0, 1] rfl rfl))
                · refine RA_noB rfl rfl rfl rfl (bno h28) rfl ?_
                  refine RA_noB rfl rfl rfl rfl (bno h28) rfl ?_
                  refine RA_noB rfl rfl rfl rfl (bno h28) rfl ?_
                  refine RA_step rfl (OA_v rfl (V_pickF rfl (bno h28) rfl) ?_)
                  refine RA_nil ?_
                  exact at_normal (St.mk1 (aeq rfl (aeq (congrArg Value.bool (and_f hq27 (bno h28))) aeq0)) (Gh.sel [0, 1] rfl rfl))
              · rintro e ds As hst29
                refine RA.of_St rfl hst29 fun junk => ?_
                refine RA_step rfl (OA_v (v := .bool q27) rfl (V_move rfl) ?_)
                obtain ⟨q30, hq30, H⟩ := g_lt H
                refine RA_cut 4 (fun e ds As => St [(64, .bool q30)] [] e ds As) ?_ ?_
                · by_cases h31 : q27 = true
                  · refine RA_yesB rfl rfl rfl rfl (h31) (OA_v (v := .pointer (some ((⟨b2, 0, none⟩ : Addr).add 3))) rfl (V_fieldAddrN (B := ⟨b2, 0, none⟩) (m := 0) (o := 3) Try.underlying25 rfl nz3 rfl rfl) ?_)
                    refine RA_yesB rfl rfl rfl rfl (h31) (OA_r rfl (VR_load_blk (b := b2) (m := 3) (k := 0) Try.underlying3 rfl rfl rfl rfl) ?_)
                    refine RA_yesB rfl rfl rfl rfl (h31) (OA_v (v := .bool (decide (a0.f3 ≤ 512))) rfl (V_leq rfl rfl) ?_)
                    refine RA_step rfl (OA_v rfl (V_pickT rfl (h31) rfl) ?_)
                    refine RA_nil ?_
                    exact at_normal (St.mk1 (aeq (congrArg Value.bool (and_t hq30 (h31))) aeq0) (Gh.sel [] rfl rfl))
                  · refine RA_noB rfl rfl rfl rfl (bno h31) rfl ?_
                    refine RA_noB rfl rfl rfl rfl (bno h31) rfl ?_
                    refine RA_noB rfl rfl rfl rfl (bno h31) rfl ?_
                    refine RA_step rfl (OA_v rfl (V_pickF rfl (bno h31) rfl) ?_)
                    refine RA_nil ?_
                    exact at_normal (St.mk1 (aeq (congrArg Value.bool (and_f hq30 (bno h31))) aeq0) (Gh.sel [] rfl rfl))
                · rintro e ds As hst32
                  refine RA.of_St rfl hst32 fun junk => ?_
                  refine RA_step rfl (OA_v (v := .bool q30) rfl (V_assign rfl) ?_)
                  refine RA_nil ?_
                  refine at_normal ?_
                  refine SA_ret ?_
                  refine inb_ret ?_
                  refine thn_ret ?_
                  have hr_ := Option.some.inj H
                  subst hr_
                  exact BQ_R1 [] rfl rfl (Gh.sel [] rfl rfl) ⟨rfl, rfl⟩
      · replace H := g_iff h17 H
        refine SA_condF rfl h17 ?_
        refine SA_seq ?_
        refine SA_region ?_
        refine RA_step rfl (OA_v (v := .bool (decide (a0.f0 = 3))) rfl (V_eql rfl rfl) ?_)
        refine RA_step rfl (OA_v (v := .bool (decide (a0.f0 = 3))) rfl (V_assign rfl) ?_)
        refine RA_nil ?_
        refine at_normal ?_
        by_cases h33 : a0.f0 = 3
        · replace H := g_ift h33 H
          refine SA_condT rfl h33 ?_
          refine SA_seq ?_
          refine SA_region ?_
          refine RA_step rfl (OA_v (v := .pointer (some ((⟨b2, 0, none⟩ : Addr).add 1))) rfl (V_fieldAddrN (B := ⟨b2, 0, none⟩) (m := 0) (o := 1) Try.underlying25 rfl nz23 rfl rfl) ?_)
          refine RA_step rfl (OA_r rfl (VR_load_blk (b := b2) (m := 1) (k := 0) Try.underlying23 rfl rfl rfl rfl) ?_)
          refine RA_step rfl (OA_v (v := .int .i64 (a0.f1.length : Int)) rfl (V_len Try.underlying23 rfl) ?_)
          refine RA_step rfl (OA_v (v := .bool (decide ((a0.f1.length : Int) ≤ 4096))) rfl (V_leq rfl rfl) ?_)
          refine RA_step rfl (OA_v (v := .bool (decide ((a0.f1.length : Int) ≤ 4096))) rfl (V_move rfl) ?_)
          obtain ⟨q34, hq34, H⟩ := g_lt H
          refine RA_cut 2 (fun e ds As => St [(1, .pointer (some ⟨b2, 0, none⟩)), (73, .bool q34)] [Blk b2 25 [.int .u8 a0.f0, .slice A0_0 a0.f1.length c0_0, .int .i64 a0.f2, .int .i64 a0.f3, .int .u8 a0.f4], Ro (Kd.int .u8) A0_0 c0_0 a0.f1] e ds As) ?_ ?_
          · by_cases h35 : (a0.f1.length : Int) ≤ 4096
            · refine RA_yesB rfl rfl rfl rfl (dec_t h35) (OA_v (v := .bool q4) rfl (V_move rfl) ?_)
              refine RA_step rfl (OA_v rfl (V_pickT rfl (dec_t h35) rfl) ?_)
              refine RA_nil ?_
              exact at_normal (St.mk1 (aeq rfl (aeq (congrArg Value.bool (and_t hq34 (dec_t h35))) aeq0)) (Gh.sel [0, 1] rfl rfl))
            · refine RA_noB rfl rfl rfl rfl (dec_f h35) rfl ?_
              refine RA_step rfl (OA_v rfl (V_pickF rfl (dec_f h35) rfl) ?_)
              refine RA_nil ?_
              exact at_normal (St.mk1 (aeq rfl (aeq (congrArg Value.bool (and_f hq34 (dec_f h35))) aeq0)) (Gh.sel [0, 1] rfl rfl))
          · rintro e ds As hst36
            refine RA.of_St rfl hst36 fun junk => ?_
            refine RA_step rfl (OA_v (v := .bool q34) rfl (V_move rfl) ?_)
            obtain ⟨q37, hq37, H⟩ := g_lt H
            refine RA_cut 4 (fun e ds As => St [(78, .bool q37)] [] e ds As) ?_ ?_
            · by_cases h38 : q34 = true
              · refine RA_yesB rfl rfl rfl rfl (h38) (OA_v (v := .pointer (some ((⟨b2, 0, none⟩ : Addr).add 4))) rfl (V_fieldAddrN (B := ⟨b2, 0, none⟩) (m := 0) (o := 4) Try.underlying25 rfl nz5 rfl rfl) ?_)
                refine RA_yesB rfl rfl rfl rfl (h38) (OA_r rfl (VR_load_blk (b := b2) (m := 4) (k := 0) Try.underlying5 rfl rfl rfl rfl) ?_)
                refine RA_yesB rfl rfl rfl rfl (h38) (OA_v (v := .bool (decide (a0.f4 = 0))) rfl (V_eql rfl rfl) ?_)
                refine RA_step rfl (OA_v rfl (V_pickT rfl (h38) rfl) ?_)
                refine RA_nil ?_
                exact at_normal (St.mk1 (aeq (congrArg Value.bool (and_t hq37 (h38))) aeq0) (Gh.sel [] rfl rfl))
              · refine RA_noB rfl rfl rfl rfl (bno h38) rfl ?_
                refine RA_noB rfl rfl rfl rfl (bno h38) rfl ?_
                refine RA_noB rfl rfl rfl rfl (bno h38) rfl ?_
                refine RA_step rfl (OA_v rfl (V_pickF rfl (bno h38) rfl) ?_)
                refine RA_nil ?_
                exact at_normal (St.mk1 (aeq (congrArg Value.bool (and_f hq37 (bno h38))) aeq0) (Gh.sel [] rfl rfl))
            · rintro e ds As hst39
              refine RA.of_St rfl hst39 fun junk => ?_
              refine RA_step rfl (OA_v (v := .bool q37) rfl (V_assign rfl) ?_)
              refine RA_nil ?_
              refine at_normal ?_
              refine SA_ret ?_
              refine inb_ret ?_
              refine thn_ret ?_
              have hr_ := Option.some.inj H
              subst hr_
              exact BQ_R1 [] rfl rfl (Gh.sel [] rfl rfl) ⟨rfl, rfl⟩
        · replace H := g_iff h33 H
          refine SA_condF rfl h33 ?_
          refine SA_seq ?_
          refine SA_region ?_
          refine RA_step rfl (OA_v (v := .bool (decide (a0.f0 = 4))) rfl (V_eql rfl rfl) ?_)
          refine RA_step rfl (OA_v (v := .bool (decide (a0.f0 = 4))) rfl (V_assign rfl) ?_)
          refine RA_nil ?_
          refine at_normal ?_
          by_cases h40 : a0.f0 = 4
          · replace H := g_ift h40 H
            refine SA_condT rfl h40 ?_
            refine SA_seq ?_
            refine SA_region ?_
            refine RA_step rfl (OA_v (v := .pointer (some ((⟨b2, 0, none⟩ : Addr).add 1))) rfl (V_fieldAddrN (B := ⟨b2, 0, none⟩) (m := 0) (o := 1) Try.underlying25 rfl nz23 rfl rfl) ?_)
            refine RA_step rfl (OA_r rfl (VR_load_blk (b := b2) (m := 1) (k := 0) Try.underlying23 rfl rfl rfl rfl) ?_)
            refine RA_step rfl (OA_v (v := .int .i64 (a0.f1.length : Int)) rfl (V_len Try.underlying23 rfl) ?_)
            refine RA_step rfl (OA_v (v := .bool (decide ((a0.f1.length : Int) = 0))) rfl (V_eql rfl rfl) ?_)
            refine RA_step rfl (OA_v (v := .bool (decide ((a0.f1.length : Int) = 0))) rfl (V_move rfl) ?_)
            obtain ⟨q41, hq41, H⟩ := g_lt H
            refine RA_cut 2 (fun e ds As => St [(1, .pointer (some ⟨b2, 0, none⟩)), (87, .bool q41)] [Blk b2 25 [.int .u8 a0.f0, .slice A0_0 a0.f1.length c0_0, .int .i64 a0.f2, .int .i64 a0.f3, .int .u8 a0.f4], Ro (Kd.int .u8) A0_0 c0_0 a0.f1] e ds As) ?_ ?_
            · by_cases h42 : (a0.f1.length : Int) = 0
              · refine RA_yesB rfl rfl rfl rfl (dec_t h42) (OA_v (v := .bool q4) rfl (V_move rfl) ?_)
                refine RA_step rfl (OA_v rfl (V_pickT rfl (dec_t h42) rfl) ?_)
                refine RA_nil ?_
                exact at_normal (St.mk1 (aeq rfl (aeq (congrArg Value.bool (and_t hq41 (dec_t h42))) aeq0)) (Gh.sel [0, 1] rfl rfl))
              · refine RA_noB rfl rfl rfl rfl (dec_f h42) rfl ?_
                refine RA_step rfl (OA_v rfl (V_pickF rfl (dec_f h42) rfl) ?_)
                refine RA_nil ?_
                exact at_normal (St.mk1 (aeq rfl (aeq (congrArg Value.bool (and_f hq41 (dec_f h42))) aeq0)) (Gh.sel [0, 1] rfl rfl))
            · rintro e ds As hst43
              refine RA.of_St rfl hst43 fun junk => ?_
              refine RA_step rfl (OA_v (v := .bool q41) rfl (V_move rfl) ?_)
              obtain ⟨q44, hq44, H⟩ := g_lt H
              refine RA_cut 4 (fun e ds As => St [(1, .pointer (some ⟨b2, 0, none⟩)), (92, .bool q44)] [Blk b2 25 [.int .u8 a0.f0, .slice A0_0 a0.f1.length c0_0, .int .i64 a0.f2, .int .i64 a0.f3, .int .u8 a0.f4], Ro (Kd.int .u8) A0_0 c0_0 a0.f1] e ds As) ?_ ?_
              · by_cases h45 : q41 = true
                · refine RA_yesB rfl rfl rfl rfl (h45) (OA_v (v := .pointer (some ((⟨b2, 0, none⟩ : Addr).add 4))) rfl (V_fieldAddrN (B := ⟨b2, 0, none⟩) (m := 0) (o := 4) Try.underlying25 rfl nz5 rfl rfl) ?_)
                  refine RA_yesB rfl rfl rfl rfl (h45) (OA_r rfl (VR_load_blk (b := b2) (m := 4) (k := 0) Try.underlying5 rfl rfl rfl rfl) ?_)
                  refine RA_yesB rfl rfl rfl rfl (h45) (OA_v (v := .bool (decide (a0.f4 ≥ 65))) rfl (V_geq rfl rfl) ?_)
                  refine RA_step rfl (OA_v rfl (V_pickT rfl (h45) rfl) ?_)
                  refine RA_nil ?_
                  exact at_normal (St.mk1 (aeq rfl (aeq (congrArg Value.bool (and_t hq44 (h45))) aeq0)) (Gh.sel [0, 1] rfl rfl))
                · refine RA_noB rfl rfl rfl rfl (bno h45) rfl ?_
                  refine RA_noB rfl rfl rfl rfl (bno h45) rfl ?_
                  refine RA_noB rfl rfl rfl rfl (bno h45) rfl ?_
                  refine RA_step rfl (OA_v rfl (V_pickF rfl (bno h45) rfl) ?_)
                  refine RA_nil ?_
                  exact at_normal (St.mk1 (aeq rfl (aeq (congrArg Value.bool (and_f hq44 (bno h45))) aeq0)) (Gh.sel [0, 1] rfl rfl))
              · rintro e ds As hst46
                refine RA.of_St rfl hst46 fun junk => ?_
                refine RA_step rfl (OA_v (v := .bool q44) rfl (V_move rfl) ?_)
                obtain ⟨q47, hq47, H⟩ := g_lt H
                refine RA_cut 4 (fun e ds As => St [(97, .bool q47)] [] e ds As) ?_ ?_
                · by_cases h48 : q44 = true
                  · refine RA_yesB rfl rfl rfl rfl (h48) (OA_v (v := .pointer (some ((⟨b2, 0, none⟩ : Addr).add 4))) rfl (V_fieldAddrN (B := ⟨b2, 0, none⟩) (m := 0) (o := 4) Try.underlying25 rfl nz5 rfl rfl) ?_)
                    refine RA_yesB rfl rfl rfl rfl (h48) (OA_r rfl (VR_load_blk (b := b2) (m := 4) (k := 0) Try.underlying5 rfl rfl rfl rfl) ?_)
                    refine RA_yesB rfl rfl rfl rfl (h48) (OA_v (v := .bool (decide (a0.f4 ≤ 68))) rfl (V_leq rfl rfl) ?_)
                    refine RA_step rfl (OA_v rfl (V_pickT rfl (h48) rfl) ?_)
                    refine RA_nil ?_
                    exact at_normal (St.mk1 (aeq (congrArg Value.bool (and_t hq47 (h48))) aeq0) (Gh.sel [] rfl rfl))
                  · refine RA_noB rfl rfl rfl rfl (bno h48) rfl ?_
                    refine RA_noB rfl rfl rfl rfl (bno h48) rfl ?_
                    refine RA_noB rfl rfl rfl rfl (bno h48) rfl ?_
                    refine RA_step rfl (OA_v rfl (V_pickF rfl (bno h48) rfl) ?_)
                    refine RA_nil ?_
                    exact at_normal (St.mk1 (aeq (congrArg Value.bool (and_f hq47 (bno h48))) aeq0) (Gh.sel [] rfl rfl))
                · rintro e ds As hst49
                  refine RA.of_St rfl hst49 fun junk => ?_
                  refine RA_step rfl (OA_v (v := .bool q47) rfl (V_assign rfl) ?_)
                  refine RA_nil ?_
                  refine at_normal ?_
                  refine SA_ret ?_
                  refine inb_ret ?_
                  refine thn_ret ?_
                  have hr_ := Option.some.inj H
                  subst hr_
                  exact BQ_R1 [] rfl rfl (Gh.sel [] rfl rfl) ⟨rfl, rfl⟩
          · replace H := g_iff h40 H
            refine SA_condF rfl h40 ?_
            refine SA_skip ?_
            refine inb_normal ?_
            refine at_normal ?_
            refine SA_seq ?_
            refine SA_region ?_
            refine RA_step rfl (OA_v (v := .bool false) rfl (V_assign rfl) ?_)
            refine RA_nil ?_
            refine at_normal ?_
            refine SA_ret ?_
            have hr_ := Option.some.inj H
            subst hr_
            exact BQ_R1 [] rfl rfl (Gh.sel [] rfl rfl) ⟨rfl, rfl⟩

/-! ### function 18: wayfarer/wayfarerref20.Clean -/
def F18.l0 (l0 : (List Int)) : Nat → (List Int) → Int → Option ((List Int))
  | 0, _, _ => none
  | k + 1, x3_5, x4_5 => if x4_5 < (l0.length : Int) then (if 0 ≤ x4_5 ∧ x4_5 < (l0.length : Int) then ((if (rd l0 x4_5) = 27 then (some (decide ((rd l0 x4_5) = 27))) else (some (decide ((rd l0 x4_5) = 155))) : Option (Bool)).bind (fun t15 => if t15 = true then (lt (IntKind.i64.wrap (x4_5 + 1)) fun n19 => F18.l0 l0 k x3_5 n19) else (if (rd l0 x4_5) = 10 then (if x3_5.length + ([13] : (List Int)).length ≤ 140737488355328 then lt (x3_5 ++ ([13] : (List Int))) fun n27 => (lt (IntKind.i64.wrap (x4_5 + 1)) fun n28 => F18.l0 l0 k n27 n28) else none) else (if 0 ≤ x4_5 ∧ x4_5 < (l0.length : Int) then (if x3_5.length + ([rd l0 x4_5] : (List Int)).length ≤ 140737488355328 then lt (x3_5 ++ ([rd l0 x4_5] : (List Int))) fun n37 => (lt (IntKind.i64.wrap (x4_5 + 1)) fun n38 => F18.l0 l0 k n37 n38) else none) else none)))) else none) else (some x3_5)
def F18.f (k : Nat) (l0 : (List Int)) : Option ((List Int)) := (F18.l0 l0 k ([]) 0 : Option ((List Int))).bind (fun t2 => some (t2))
set_option maxHeartbeats 2000000 in
set_option maxRecDepth 100000 in
theorem F18.ok {k : Nat} {l0 : (List Int)} {A0 : Option Addr} {c0 : Nat} {r : (List Int)} (H : F18.f k l0 = some r) : SCA Try.prog 18 #[.slice A0 l0.length c0] [Ro (Kd.int .u8) A0 c0 l0] (fun v B => ∃ (A0_0_ : Option Addr) (c0_0_ : Nat), v = .slice A0_0_ r.length c0_0_ ∧ B = [Buf (Kd.int .u8) 5 A0_0_ c0_0_ r]) := by
  refine SCA_of_body Try.func18 rfl rfl ?_
  unfold F18.f at H
  refine SA_seq ?_
  refine SA_region ?_
  refine RA_step rfl (OA_v (v := .slice none 0 0) rfl (V_assign rfl) ?_)
  refine RA_nil ?_
  refine at_normal ?_
  refine SA_seq ?_
  refine SA_region ?_
  refine RA_step rfl (OA_v (v := .slice none 0 0) rfl (V_assign rfl) ?_)
  refine RA_nil ?_
  refine at_normal ?_
  refine SA_seq ?_
  refine SA_seq ?_
  refine SA_region ?_
  refine RA_step rfl (OA_v (v := .int .i64 0) rfl (V_assign rfl) ?_)
  refine RA_nil ?_
  refine at_normal ?_
  obtain ⟨t2, H, Bt2⟩ := g_bind H
  refine SA_mid (fun e ds As => ∃ (A3 : Option Addr) (c4 : Nat), St [(3, .slice A3 t2.length c4)] [Buf (Kd.int .u8) 5 A3 c4 t2] e ds As) ?_ ?_
  · refine SA_block ?_
    refine SA_loop (fun k_ e ds As => ∃ (x3_5 : (List Int)) (x4_5 : Int), ∃ (A6 : Option Addr) (c7 : Nat), F18.l0 l0 k_ x3_5 x4_5 = some t2 ∧ St [(0, .slice A0 l0.length c0), (3, .slice A6 x3_5.length c7), (4, .int .i64 x4_5)] [Ro (Kd.int .u8) A0 c0 l0, Buf (Kd.int .u8) 5 A6 c7 x3_5] e ds As) (k := k) ⟨_, _, none, 0, H, St.mk1 (aeq rfl (aeq rfl (aeq rfl aeq0))) ((Gh.nilBuf (Kd.int .u8) 5).trans (Gh.sel [0, 1] rfl rfl))⟩ ?_
    clear H
    rintro k10 e ds As ⟨x3_5, x4_5, A6, c7, H, hst11⟩
    obtain _ | k10 := k10
    · cases H
    rw [F18.l0] at H
    refine SA.of_St hst11 fun junk => ?_
    refine SA_seq ?_
    refine SA_seq ?_
    refine SA_region ?_
    refine RA_step rfl (OA_v (v := .int .i64 x4_5) rfl (V_move rfl) ?_)
    refine RA_step rfl (OA_v (v := .slice A0 l0.length c0) rfl (V_move rfl) ?_)
    refine RA_step rfl (OA_v (v := .int .i64 (l0.length : Int)) rfl (V_len Try.underlying23 rfl) ?_)
    refine RA_step rfl (OA_v (v := .bool (decide (x4_5 < (l0.length : Int)))) rfl (V_lss rfl rfl) ?_)
    refine RA_nil ?_
    refine at_normal ?_
    by_cases h12 : x4_5 < (l0.length : Int)
    · replace H := g_ift h12 H
      refine SA_condT rfl h12 ?_
      refine SA_skip ?_
      refine at_normal ?_
      refine SA_seq ?_
      refine SA_block ?_
      refine SA_seq ?_
      refine SA_region ?_
      refine RA_step rfl (OA_v (v := .slice A0 l0.length c0) rfl (V_move rfl) ?_)
      refine RA_step rfl (OA_v (v := .int .i64 x4_5) rfl (V_move rfl) ?_)
      obtain ⟨⟨g13, g14⟩, H⟩ := g_pos H
      refine RA_step rfl (OA_r rfl (VR_index (i := x4_5) Try.underlying23 sz5 rfl rfl (Src.ro (k := 0) rfl) g13 g14) ?_)
      refine RA_step rfl (OA_r rfl (VR_load_el (enc := (fun x_ : Int => [Value.int .u8 x_])) (i := x4_5) (j := x4_5.toNat * 1) (m := 0) (sz := 1) Try.underlying5 rfl rfl rfl rfl (Src.ro (k := 0) rfl) g13 g14 (fun _ _ h => h) rfl) ?_)
      refine RA_nil ?_
      refine at_normal ?_
      refine SA_block ?_
      refine SA_seq ?_
      refine SA_seq ?_
      refine SA_region ?_
      refine RA_step rfl (OA_v (v := .bool (decide ((rd l0 x4_5) = 27))) rfl (V_eql rfl rfl) ?_)
      refine RA_step rfl (OA_v (v := .bool (decide ((rd l0 x4_5) = 27))) rfl (V_assign rfl) ?_)
      refine RA_nil ?_
      refine at_normal ?_
      obtain ⟨t15, H, Bt15⟩ := g_bind H
      refine SA_mid (fun e ds As => St [(0, .slice A0 l0.length c0), (3, .slice A6 x3_5.length c7), (4, .int .i64 x4_5), (14, .int .u8 (rd l0 x4_5)), (22, .bool t15)] [Ro (Kd.int .u8) A0 c0 l0, Buf (Kd.int .u8) 5 A6 c7 x3_5] e ds As) ?_ ?_
      · by_cases h16 : (rd l0 x4_5) = 27
        · replace H := g_ift h16 H
          refine SA_condT rfl h16 ?_
          refine SA_skip ?_
          have hr_ := Option.some.inj H
          subst hr_
          exact at_normal (St.mk1 (aeq rfl (aeq rfl (aeq rfl (aeq rfl (aeq rfl aeq0))))) (Gh.sel [0, 1] rfl rfl))
        · replace H := g_iff h16 H
          refine SA_condF rfl h16 ?_
          refine SA_region ?_
          refine RA_step rfl (OA_v (v := .bool (decide ((rd l0 x4_5) = 155))) rfl (V_eql rfl rfl) ?_)
          refine RA_step rfl (OA_v (v := .bool (decide ((rd l0 x4_5) = 155))) rfl (V_assign rfl) ?_)
          refine RA_nil ?_
          have hr_ := Option.some.inj H
          subst hr_
          exact at_normal (St.mk1 (aeq rfl (aeq rfl (aeq rfl (aeq rfl (aeq rfl aeq0))))) (Gh.sel [0, 1] rfl rfl))
      · rintro e ds As hst17
        clear H
        have H := Bt15
        clear Bt15
        refine at_normal ?_
        refine SA.of_St hst17 fun junk => ?_
        by_cases h18 : t15 = true
        · replace H := g_ift h18 H
          refine SA_condTb rfl h18 ?_
          refine SA_skip ?_
          refine inb_normal ?_
          refine inb_normal ?_
          refine at_normal ?_
          refine SA_region ?_
          refine RA_step rfl (OA_v (v := .int .i64 x4_5) rfl (V_move rfl) ?_)
          refine RA_step rfl (OA_v (v := .int .i64 (IntKind.i64.wrap (x4_5 + 1))) rfl (V_add rfl rfl) ?_)
          obtain ⟨n19, hn19, H⟩ := g_lt H
          refine RA_step rfl (OA_v (v := .int .i64 n19) rfl (V_assign (v := .int .i64 n19) (congrArg (Value.int .i64) hn19.symm)) ?_)
          refine RA_nil ?_
          exact at_normal ⟨k10, Nat.lt_succ_self _, _, _, A6, c7, H, St.mk1 (aeq rfl (aeq rfl (aeq rfl aeq0))) (Gh.sel [0, 1] rfl rfl)⟩
        · replace H := g_iff h18 H
          refine SA_condFb rfl h18 ?_
          refine SA_seq ?_
          refine SA_region ?_
          refine RA_step rfl (OA_v (v := .bool (decide ((rd l0 x4_5) = 10))) rfl (V_eql rfl rfl) ?_)
          refine RA_step rfl (OA_v (v := .bool (decide ((rd l0 x4_5) = 10))) rfl (V_assign rfl) ?_)
          refine RA_nil ?_
          refine at_normal ?_
          by_cases h20 : (rd l0 x4_5) = 10
          · replace H := g_ift h20 H
            refine SA_condT rfl h20 ?_
            refine SA_region ?_
            refine RA_step rfl (OA_v (v := .slice A6 x3_5.length c7) rfl (V_move rfl) ?_)
            refine RA_step rfl (OA_bs (kd := (Kd.int .u8)) (zv := (.int .u8 0)) (sz := 1) (cells := [.int .u8 13]) (xs := ([13] : (List Int))) rfl Try.underlying23 zero5 sz5 rfl rfl rfl (by kernel_rfl) rfl rfl (RL_enc (fun x_ : Int => [Value.int .u8 x_]) (fun _ _ => rfl) (by kernel_rfl)) fun b21 => ?_)
            obtain ⟨g24, H⟩ := g_pos H
            obtain ⟨n27, hn27, H⟩ := g_lt H
            refine RA_step rfl (OA_app (k := 1) (A := A6) (c := c7) (xs := x3_5) (ys := ([13] : (List Int))) n27 hn27 rfl Try.underlying23 inf5 rfl rfl rfl rfl rfl (Yld.slice Try.underlying23 (Src.buf (k := 2) rfl)) (by omega) (by omega) fun A25 c26 => ?_)
            refine RA_step rfl (OA_v (v := .slice A25 n27.length c26) rfl (V_assign rfl) ?_)
            refine RA_nil ?_
            refine inb_normal ?_
            refine inb_normal ?_
            refine at_normal ?_
            refine SA_region ?_
            refine RA_step rfl (OA_v (v := .int .i64 x4_5) rfl (V_move rfl) ?_)
            refine RA_step rfl (OA_v (v := .int .i64 (IntKind.i64.wrap (x4_5 + 1))) rfl (V_add rfl rfl) ?_)
            obtain ⟨n28, hn28, H⟩ := g_lt H
            refine RA_step rfl (OA_v (v := .int .i64 n28) rfl (V_assign (v := .int .i64 n28) (congrArg (Value.int .i64) hn28.symm)) ?_)
            refine RA_nil ?_
            exact at_normal ⟨k10, Nat.lt_succ_self _, _, _, A25, c26, H, St.mk1 (aeq rfl (aeq rfl (aeq rfl aeq0))) (Gh.sel [0, 1] rfl rfl)⟩
          · replace H := g_iff h20 H
            refine SA_condF rfl h20 ?_
            refine SA_region ?_
            refine RA_step rfl (OA_v (v := .slice A6 x3_5.length c7) rfl (V_move rfl) ?_)
            refine RA_step rfl (OA_v (v := .slice A0 l0.length c0) rfl (V_move rfl) ?_)
            refine RA_step rfl (OA_v (v := .int .i64 x4_5) rfl (V_move rfl) ?_)
            obtain ⟨⟨g29, g30⟩, H⟩ := g_pos H
            refine RA_step rfl (OA_r rfl (VR_index (i := x4_5) Try.underlying23 sz5 rfl rfl (Src.ro (k := 0) rfl) g29 g30) ?_)
            refine RA_step rfl (OA_r rfl (VR_load_el (enc := (fun x_ : Int => [Value.int .u8 x_])) (i := x4_5) (j := x4_5.toNat * 1) (m := 0) (sz := 1) Try.underlying5 rfl rfl rfl rfl (Src.ro (k := 0) rfl) g29 g30 (fun _ _ h => h) rfl) ?_)
            refine RA_step rfl (OA_bs (kd := (Kd.int .u8)) (zv := (.int .u8 0)) (sz := 1) (cells := [.int .u8 (rd l0 x4_5)]) (xs := ([rd l0 x4_5] : (List Int))) rfl Try.underlying23 zero5 sz5 rfl rfl rfl (by kernel_rfl) rfl rfl (RL_enc (fun x_ : Int => [Value.int .u8 x_]) (fun _ _ => rfl) (by kernel_rfl)) fun b31 => ?_)
            obtain ⟨g34, H⟩ := g_pos H
            obtain ⟨n37, hn37, H⟩ := g_lt H
            refine RA_step rfl (OA_app (k := 1) (A := A6) (c := c7) (xs := x3_5) (ys := ([rd l0 x4_5] : (List Int))) n37 hn37 rfl Try.underlying23 inf5 rfl rfl rfl rfl rfl (Yld.slice Try.underlying23 (Src.buf (k := 2) rfl)) (by omega) (by omega) fun A35 c36 => ?_)
            refine RA_step rfl (OA_v (v := .slice A35 n37.length c36) rfl (V_assign rfl) ?_)
            refine RA_nil ?_
            refine inb_normal ?_
            refine inb_normal ?_
            refine at_normal ?_
            refine SA_region ?_
            refine RA_step rfl (OA_v (v := .int .i64 x4_5) rfl (V_move rfl) ?_)
            refine RA_step rfl (OA_v (v := .int .i64 (IntKind.i64.wrap (x4_5 + 1))) rfl (V_add rfl rfl) ?_)
            obtain ⟨n38, hn38, H⟩ := g_lt H
            refine RA_step rfl (OA_v (v := .int .i64 n38) rfl (V_assign (v := .int .i64 n38) (congrArg (Value.int .i64) hn38.symm)) ?_)
            refine RA_nil ?_
            exact at_normal ⟨k10, Nat.lt_succ_self _, _, _, A35, c36, H, St.mk1 (aeq rfl (aeq rfl (aeq rfl aeq0))) (Gh.sel [0, 1] rfl rfl)⟩
    · replace H := g_iff h12 H
      refine SA_condF rfl h12 ?_
      refine SA_exit ?_
      refine thn_exit ?_
      refine thn_exit ?_
      refine inb_hit ?_
      have hr_ := Option.some.inj H
      subst hr_
      exact at_normal ⟨A6, c7, St.mk1 (aeq rfl aeq0) (Gh.sel [1] rfl rfl)⟩
  · rintro e ds As ⟨A3, c4, hst39⟩
    clear H
    have H := Bt2
    clear Bt2
    refine at_normal ?_
    refine SA.of_St hst39 fun junk => ?_
    refine SA_seq ?_
    refine SA_region ?_
    refine RA_step rfl (OA_v (v := .slice A3 t2.length c4) rfl (V_move rfl) ?_)
    refine RA_step rfl (OA_v (v := .slice A3 t2.length c4) rfl (V_assign rfl) ?_)
    refine RA_nil ?_
    refine at_normal ?_
    refine SA_ret ?_
    have hr_ := Option.some.inj H
    subst hr_
    exact BQ_R1 [Buf (Kd.int .u8) 5 A3 c4 t2] rfl rfl (Gh.sel [0] rfl rfl) ⟨A3, c4, rfl, rfl⟩

/-! ### function 15: wayfarer/wayfarerref20.Encode -/
def F15.f (k : Nat) (a0 : S25) (a1 : Bool) (a2 : Bool) : Option ((List Int) × Int) := (F59.f a0).bind (fun r4 => if (!r4) = true then (some ((([] : (List Int)), 2))) else (if a0.f0 = 1 then (if ([] : (List Int)).length + a0.f1.length ≤ 140737488355328 then lt (([] : (List Int)) ++ a0.f1) fun n14 => (some ((n14, 0))) else none) else (if a0.f0 = 3 then ((F18.f k a0.f1).bind (fun r16 => if a2 = true then (if ([27, 91, 50, 48, 48, 126] : (List Int)).length + r16.length ≤ 140737488355328 then lt (([27, 91, 50, 48, 48, 126] : (List Int)) ++ r16) fun n27 => (if n27.length + (bytesOf (⟨#[27, 91, 50, 48, 49, 126]⟩ : ByteArray)).length ≤ 140737488355328 then lt (n27 ++ (bytesOf (⟨#[27, 91, 50, 48, 49, 126]⟩ : ByteArray))) fun n32 => (some ((n32, 0))) else none) else none) else (some ((r16, 0))))) else (if a0.f0 = 4 then (if a1 = true then (some ((([27, 79, a0.f4] : (List Int)), 0))) else (some ((([27, 91, a0.f4] : (List Int)), 0)))) else (some ((([] : (List Int)), 0)))))))
set_option maxHeartbeats 2000000 in
set_option maxRecDepth 100000 in
theorem F15.ok {k : Nat} {a0 : S25} {a1 : Bool} {a2 : Bool} {A0_0 : Option Addr} {c0_0 : Nat} {r : (List Int) × Int} (H : F15.f k a0 a1 a2 = some r) : SCA Try.prog 15 #[.agg #[.int .u8 a0.f0, .slice A0_0 a0.f1.length c0_0, .int .i64 a0.f2, .int .i64 a0.f3, .int .u8 a0.f4], .bool a1, .bool a2] [Ro (Kd.int .u8) A0_0 c0_0 a0.f1] (fun v B => ∃ (A0_0_ : Option Addr) (c0_0_ : Nat), v = .tuple #[.slice A0_0_ r.1.length c0_0_, .int .i64 r.2] ∧ B = [Buf (Kd.int .u8) 5 A0_0_ c0_0_ r.1]) := by
  refine SCA_of_body Try.func15 rfl rfl ?_
  unfold F15.f at H
  refine SA_seq ?_
  refine SA_region ?_
  refine RA_step rfl (OA_box rfl rfl fun b2 => ?_)
  refine RA_step rfl (OA_v (v := .slice none 0 0) rfl (V_assign rfl) ?_)
  refine RA_step rfl (OA_v (v := .int .i64 0) rfl (V_assign rfl) ?_)
  refine RA_nil ?_
  refine at_normal ?_
  refine SA_seq ?_
  refine SA_seq ?_
  refine SA_region ?_
  refine RA_step rfl (OA_r rfl (VR_loadA_blk (b := b2) (m := 0) (k := 1) (vs := [.int .u8 a0.f0, .slice A0_0 a0.f1.length c0_0, .int .i64 a0.f2, .int .i64 a0.f3, .int .u8 a0.f4]) Try.underlying25 rfl sz25 rfl rfl rfl) ?_)
  obtain ⟨r4, C41, H⟩ := g_bind H
  refine RA_step rfl (OA_callA [0] [0, 1] rfl (X_fn (vs := [.agg #[.int .u8 a0.f0, .slice A0_0 a0.f1.length c0_0, .int .i64 a0.f2, .int .i64 a0.f3, .int .u8 a0.f4]]) Try.func59 nm59 rfl rfl) rfl (F59.ok (a0 := a0) (A0_0 := A0_0) (c0_0 := c0_0) C41) rfl ?_)
  rintro _ _ ⟨rfl, rfl⟩
  refine RA_step rfl (OA_v (v := .bool (!r4)) rfl (V_not rfl) ?_)
  refine RA_nil ?_
  refine at_normal ?_
  by_cases h5 : (!r4) = true
  · replace H := g_ift h5 H
    refine SA_condTb rfl h5 ?_
    refine SA_seq ?_
    refine SA_region ?_
    refine RA_step rfl (OA_v (v := .slice none 0 0) rfl (V_assign rfl) ?_)
    refine RA_step rfl (OA_v (v := .int .i64 2) rfl (V_assign rfl) ?_)
    refine RA_nil ?_
    refine at_normal ?_
    refine SA_ret ?_
    refine thn_ret ?_
    have hr_ := Option.some.inj H
    subst hr_
    exact BQ_R2 [Buf (Kd.int .u8) 5 none 0 ([] : (List Int))] rfl rfl rfl ((Gh.nilBuf (Kd.int .u8) 5).trans (Gh.sel [2] rfl rfl)) ⟨none, 0, rfl, rfl⟩
  · replace H := g_iff h5 H
    refine SA_condFb rfl h5 ?_
    refine SA_skip ?_
    refine at_normal ?_
    refine SA_seq ?_
    refine SA_seq ?_
    refine SA_region ?_
    refine RA_step rfl (OA_v (v := .pointer (some ⟨b2, 0, none⟩)) rfl (V_fieldAddrN (B := ⟨b2, 0, none⟩) (m := 0) (o := 0) Try.underlying25 rfl nz22 rfl rfl) ?_)
    refine RA_step rfl (OA_r rfl (VR_load_blk (b := b2) (m := 0) (k := 1) Try.underlying22 rfl rfl rfl rfl) ?_)
    refine RA_nil ?_
    refine at_normal ?_
    refine SA_block ?_
    refine SA_seq ?_
    refine SA_region ?_
    refine RA_step rfl (OA_v (v := .bool (decide (a0.f0 = 1))) rfl (V_eql rfl rfl) ?_)
    refine RA_step rfl (OA_v (v := .bool (decide (a0.f0 = 1))) rfl (V_assign rfl) ?_)
    refine RA_nil ?_
    refine at_normal ?_
    by_cases h7 : a0.f0 = 1
    · replace H := g_ift h7 H
      refine SA_condT rfl h7 ?_
      refine SA_seq ?_
      refine SA_region ?_
      refine RA_step rfl (OA_bs (kd := (Kd.int .u8)) (zv := (.int .u8 0)) (sz := 1) (cells := []) (xs := ([] : (List Int))) rfl Try.underlying23 zero5 sz5 rfl rfl rfl (by kernel_rfl) rfl rfl (RL_enc (fun x_ : Int => [Value.int .u8 x_]) (fun _ _ => rfl) (by kernel_rfl)) fun b8 => ?_)
      refine RA_step rfl (OA_v (v := .pointer (some ((⟨b2, 0, none⟩ : Addr).add 1))) rfl (V_fieldAddrN (B := ⟨b2, 0, none⟩) (m := 0) (o := 1) Try.underlying25 rfl nz23 rfl rfl) ?_)
      refine RA_step rfl (OA_r rfl (VR_load_blk (b := b2) (m := 1) (k := 1) Try.underlying23 rfl rfl rfl rfl) ?_)
      obtain ⟨g11, H⟩ := g_pos H
      obtain ⟨n14, hn14, H⟩ := g_lt H
      refine RA_step rfl (OA_app (k := 2) (A := some ⟨b8, 0, none⟩) (c := 0) (xs := ([] : (List Int))) (ys := a0.f1) n14 hn14 rfl Try.underlying23 inf5 rfl rfl rfl rfl rfl (Yld.slice Try.underlying23 (Src.ro (k := 0) rfl)) (by omega) (by omega) fun A12 c13 => ?_)
      refine RA_step rfl (OA_v (v := .slice A12 n14.length c13) rfl (V_assign rfl) ?_)
      refine RA_step rfl (OA_v (v := .int .i64 0) rfl (V_assign rfl) ?_)
      refine RA_nil ?_
      refine at_normal ?_
      refine SA_ret ?_
      refine inb_ret ?_
      refine thn_ret ?_
      have hr_ := Option.some.inj H
      subst hr_
      exact BQ_R2 [Buf (Kd.int .u8) 5 A12 c13 n14] rfl rfl rfl (Gh.sel [2] rfl rfl) ⟨A12, c13, rfl, rfl⟩
    · replace H := g_iff h7 H
      refine SA_condF rfl h7 ?_
      refine SA_seq ?_
      refine SA_region ?_
      refine RA_step rfl (OA_v (v := .bool (decide (a0.f0 = 3))) rfl (V_eql rfl rfl) ?_)
      refine RA_step rfl (OA_v (v := .bool (decide (a0.f0 = 3))) rfl (V_assign rfl) ?_)
      refine RA_nil ?_
      refine at_normal ?_
      by_cases h15 : a0.f0 = 3
      · replace H := g_ift h15 H
        refine SA_condT rfl h15 ?_
        refine SA_seq ?_
        refine SA_region ?_
        refine RA_step rfl (OA_v (v := .pointer (some ((⟨b2, 0, none⟩ : Addr).add 1))) rfl (V_fieldAddrN (B := ⟨b2, 0, none⟩) (m := 0) (o := 1) Try.underlying25 rfl nz23 rfl rfl) ?_)
        refine RA_step rfl (OA_r rfl (VR_load_blk (b := b2) (m := 1) (k := 1) Try.underlying23 rfl rfl rfl rfl) ?_)
        obtain ⟨r16, C33, H⟩ := g_bind H
        refine RA_step rfl (OA_callA [0] [0, 1] rfl (X_fn (vs := [.slice A0_0 a0.f1.length c0_0]) Try.func18 nm18 rfl rfl) rfl (F18.ok (l0 := a0.f1) (A0 := A0_0) (c0 := c0_0) C33) rfl ?_)
        rintro _ _ ⟨A17, c18, rfl, rfl⟩
        refine RA_step rfl (OA_v (v := .slice A17 r16.length c18) rfl (V_assign rfl) ?_)
        refine RA_nil ?_
        refine at_normal ?_
        refine SA_seq ?_
        refine SA_seq ?_
        refine SA_region ?_
        refine RA_step rfl (OA_v (v := .bool a2) rfl (V_move rfl) ?_)
        refine RA_nil ?_
        refine at_normal ?_
        by_cases h20 : a2 = true
        · replace H := g_ift h20 H
          refine SA_condTb rfl h20 ?_
          refine SA_region ?_
          refine RA_step rfl (OA_bs (kd := (Kd.int .u8)) (zv := (.int .u8 0)) (sz := 1) (cells := [.int .u8 27, .int .u8 91, .int .u8 50, .int .u8 48, .int .u8 48, .int .u8 126]) (xs := ([27, 91, 50, 48, 48, 126] : (List Int))) rfl Try.underlying23 zero5 sz5 rfl rfl rfl (by kernel_rfl) rfl rfl (RL_enc (fun x_ : Int => [Value.int .u8 x_]) (fun _ _ => rfl) (by kernel_rfl)) fun b21 => ?_)
          refine RA_step rfl (OA_bytesConst (k := 3) rfl Try.underlying23 Try.underlying5 rfl (by simp) rfl ?_)
          refine RA_step rfl (OA_v (v := .slice A17 r16.length c18) rfl (V_move rfl) ?_)
          obtain ⟨g24, H⟩ := g_pos H
          obtain ⟨n27, hn27, H⟩ := g_lt H
          refine RA_step rfl (OA_app (k := 3) (A := some ⟨b21, 0, none⟩) (c := 6) (xs := ([27, 91, 50, 48, 48, 126] : (List Int))) (ys := r16) n27 hn27 rfl Try.underlying23 inf5 rfl rfl rfl rfl rfl (Yld.slice Try.underlying23 (Src.buf (k := 0) rfl)) (by omega) (by omega) fun A25 c26 => ?_)
          obtain ⟨g29, H⟩ := g_pos H
          obtain ⟨n32, hn32, H⟩ := g_lt H
          refine RA_step rfl (OA_app (k := 3) (A := A25) (c := c26) (xs := n27) (ys := bytesOf (⟨#[27, 91, 50, 48, 49, 126]⟩ : ByteArray)) n32 hn32 rfl Try.underlying23 inf5 rfl rfl rfl rfl rfl (Yld.str Try.underlying9) (by omega) (by omega) fun A30 c31 => ?_)
          refine RA_step rfl (OA_v (v := .slice A30 n32.length c31) rfl (V_assign rfl) ?_)
          refine RA_nil ?_
          refine at_normal ?_
          refine SA_seq ?_
          refine SA_region ?_
          refine RA_step rfl (OA_v (v := .slice A30 n32.length c31) rfl (V_move rfl) ?_)
          refine RA_step rfl (OA_v (v := .slice A30 n32.length c31) rfl (V_assign rfl) ?_)
          refine RA_step rfl (OA_v (v := .int .i64 0) rfl (V_assign rfl) ?_)
          refine RA_nil ?_
          refine at_normal ?_
          refine SA_ret ?_
          refine inb_ret ?_
          refine thn_ret ?_
          have hr_ := Option.some.inj H
          subst hr_
          exact BQ_R2 [Buf (Kd.int .u8) 5 A30 c31 n32] rfl rfl rfl (Gh.sel [3] rfl rfl) ⟨A30, c31, rfl, rfl⟩
        · replace H := g_iff h20 H
          refine SA_condFb rfl h20 ?_
          refine SA_skip ?_
          refine at_normal ?_
          refine SA_seq ?_
          refine SA_region ?_
          refine RA_step rfl (OA_v (v := .slice A17 r16.length c18) rfl (V_move rfl) ?_)
          refine RA_step rfl (OA_v (v := .slice A17 r16.length c18) rfl (V_assign rfl) ?_)
          refine RA_step rfl (OA_v (v := .int .i64 0) rfl (V_assign rfl) ?_)
          refine RA_nil ?_
          refine at_normal ?_
          refine SA_ret ?_
          refine inb_ret ?_
          refine thn_ret ?_
          have hr_ := Option.some.inj H
          subst hr_
          exact BQ_R2 [Buf (Kd.int .u8) 5 A17 c18 r16] rfl rfl rfl (Gh.sel [0] rfl rfl) ⟨A17, c18, rfl, rfl⟩
      · replace H := g_iff h15 H
        refine SA_condF rfl h15 ?_
        refine SA_seq ?_
        refine SA_region ?_
        refine RA_step rfl (OA_v (v := .bool (decide (a0.f0 = 4))) rfl (V_eql rfl rfl) ?_)
        refine RA_step rfl (OA_v (v := .bool (decide (a0.f0 = 4))) rfl (V_assign rfl) ?_)
        refine RA_nil ?_
        refine at_normal ?_
        by_cases h34 : a0.f0 = 4
        · replace H := g_ift h34 H
          refine SA_condT rfl h34 ?_
          refine SA_seq ?_
          refine SA_seq ?_
          refine SA_region ?_
          refine RA_step rfl (OA_v (v := .bool a1) rfl (V_move rfl) ?_)
          refine RA_nil ?_
          refine at_normal ?_
          by_cases h35 : a1 = true
          · replace H := g_ift h35 H
            refine SA_condTb rfl h35 ?_
            refine SA_seq ?_
            refine SA_region ?_
            refine RA_step rfl (OA_v (v := .pointer (some ((⟨b2, 0, none⟩ : Addr).add 4))) rfl (V_fieldAddrN (B := ⟨b2, 0, none⟩) (m := 0) (o := 4) Try.underlying25 rfl nz5 rfl rfl) ?_)
            refine RA_step rfl (OA_r rfl (VR_load_blk (b := b2) (m := 4) (k := 1) Try.underlying5 rfl rfl rfl rfl) ?_)
            refine RA_step rfl (OA_bs (kd := (Kd.int .u8)) (zv := (.int .u8 0)) (sz := 1) (cells := [.int .u8 27, .int .u8 79, .int .u8 a0.f4]) (xs := ([27, 79, a0.f4] : (List Int))) rfl Try.underlying23 zero5 sz5 rfl rfl rfl (by kernel_rfl) rfl rfl (RL_enc (fun x_ : Int => [Value.int .u8 x_]) (fun _ _ => rfl) (by kernel_rfl)) fun b36 => ?_)
            refine RA_step rfl (OA_v (v := .slice (some ⟨b36, 0, none⟩) ([27, 79, a0.f4] : (List Int)).length 3) rfl (V_assign rfl) ?_)
            refine RA_step rfl (OA_v (v := .int .i64 0) rfl (V_assign rfl) ?_)
            refine RA_nil ?_
            refine at_normal ?_
            refine SA_ret ?_
            refine thn_ret ?_
            refine inb_ret ?_
            refine thn_ret ?_
            have hr_ := Option.some.inj H
            subst hr_
            exact BQ_R2 [Buf (Kd.int .u8) 5 (some ⟨b36, 0, none⟩) 3 ([27, 79, a0.f4] : (List Int))] rfl rfl rfl (Gh.sel [2] rfl rfl) ⟨some ⟨b36, 0, none⟩, 3, rfl, rfl⟩
          · replace H := g_iff h35 H
            refine SA_condFb rfl h35 ?_
            refine SA_skip ?_
            refine at_normal ?_
            refine SA_seq ?_
            refine SA_region ?_
            refine RA_step rfl (OA_v (v := .pointer (some ((⟨b2, 0, none⟩ : Addr).add 4))) rfl (V_fieldAddrN (B := ⟨b2, 0, none⟩) (m := 0) (o := 4) Try.underlying25 rfl nz5 rfl rfl) ?_)
            refine RA_step rfl (OA_r rfl (VR_load_blk (b := b2) (m := 4) (k := 1) Try.underlying5 rfl rfl rfl rfl) ?_)
            refine RA_step rfl (OA_bs (kd := (Kd.int .u8)) (zv := (.int .u8 0)) (sz := 1) (cells := [.int .u8 27, .int .u8 91, .int .u8 a0.f4]) (xs := ([27, 91, a0.f4] : (List Int))) rfl Try.underlying23 zero5 sz5 rfl rfl rfl (by kernel_rfl) rfl rfl (RL_enc (fun x_ : Int => [Value.int .u8 x_]) (fun _ _ => rfl) (by kernel_rfl)) fun b38 => ?_)
            refine RA_step rfl (OA_v (v := .slice (some ⟨b38, 0, none⟩) ([27, 91, a0.f4] : (List Int)).length 3) rfl (V_assign rfl) ?_)
            refine RA_step rfl (OA_v (v := .int .i64 0) rfl (V_assign rfl) ?_)
            refine RA_nil ?_
            refine at_normal ?_
            refine SA_ret ?_
            refine inb_ret ?_
            refine thn_ret ?_
            have hr_ := Option.some.inj H
            subst hr_
            exact BQ_R2 [Buf (Kd.int .u8) 5 (some ⟨b38, 0, none⟩) 3 ([27, 91, a0.f4] : (List Int))] rfl rfl rfl (Gh.sel [2] rfl rfl) ⟨some ⟨b38, 0, none⟩, 3, rfl, rfl⟩
        · replace H := g_iff h34 H
          refine SA_condF rfl h34 ?_
          refine SA_skip ?_
          refine inb_normal ?_
          refine at_normal ?_
          refine SA_seq ?_
          refine SA_region ?_
          refine RA_step rfl (OA_v (v := .slice none 0 0) rfl (V_assign rfl) ?_)
          refine RA_step rfl (OA_v (v := .int .i64 0) rfl (V_assign rfl) ?_)
          refine RA_nil ?_
          refine at_normal ?_
          refine SA_ret ?_
          have hr_ := Option.some.inj H
          subst hr_
          exact BQ_R2 [Buf (Kd.int .u8) 5 none 0 ([] : (List Int))] rfl rfl rfl ((Gh.nilBuf (Kd.int .u8) 5).trans (Gh.sel [2] rfl rfl)) ⟨none, 0, rfl, rfl⟩

/-! ### function 16: wayfarer/wayfarerref02.Same -/
def F16.f (l0 : (List Int)) (l1 : (List Int)) : Option (Bool) := some (decide ((strOf l0) = (strOf l1)))
set_option maxHeartbeats 2000000 in
set_option maxRecDepth 100000 in
theorem F16.ok {l0 : (List Int)} {l1 : (List Int)} {A0 : Option Addr} {c0 : Nat} {A1 : Option Addr} {c1 : Nat} {r : Bool} (H : F16.f l0 l1 = some r) : SCA Try.prog 16 #[.slice A0 l0.length c0, .slice A1 l1.length c1] [Ro (Kd.int .u8) A0 c0 l0, Ro (Kd.int .u8) A1 c1 l1] (fun v B => v = .bool r ∧ B = []) := by
  refine SCA_of_body Try.func16 rfl rfl ?_
  unfold F16.f at H
  refine SA_seq ?_
  refine SA_region ?_
  refine RA_step rfl (OA_v (v := .bool false) rfl (V_assign rfl) ?_)
  refine RA_nil ?_
  refine at_normal ?_
  refine SA_seq ?_
  refine SA_region ?_
  refine RA_step rfl (OA_v (v := .slice A0 l0.length c0) rfl (V_move rfl) ?_)
  refine RA_step rfl (OA_r rfl (VR_str Try.underlying23 Try.underlying5 Try.underlying9 rfl (Src.ro (k := 0) rfl)) ?_)
  refine RA_step rfl (OA_v (v := .slice A1 l1.length c1) rfl (V_move rfl) ?_)
  refine RA_step rfl (OA_r rfl (VR_str Try.underlying23 Try.underlying5 Try.underlying9 rfl (Src.ro (k := 1) rfl)) ?_)
  refine RA_step rfl (OA_v (v := .bool (decide ((strOf l0) = (strOf l1)))) rfl (V_eqlS rfl rfl) ?_)
  refine RA_step rfl (OA_v (v := .bool (decide ((strOf l0) = (strOf l1)))) rfl (V_assign rfl) ?_)
  refine RA_nil ?_
  refine at_normal ?_
  refine SA_ret ?_
  have hr_ := Option.some.inj H
  subst hr_
  exact BQ_R1 [] rfl rfl (Gh.sel [] rfl rfl) ⟨rfl, rfl⟩

/-! ### function 19: wayfarer/wayfarerlaw20.anchored -/
def F19.f (k : Nat)  : Option (Bool) := (F14.f k (S25.mk 4 ([] : (List Int)) 0 0 65) false false).bind (fun r2 => (F14.f k (S25.mk 4 ([] : (List Int)) 0 0 65) true false).bind (fun r7 => (F14.f k (S25.mk 3 ([97, 27, 98, 10] : (List Int)) 0 0 0) false true).bind (fun r13 => lt ((decide (r2.2 = 0)) && (decide (r7.2 = 0))) fun q17 => lt (q17 && (decide (r13.2 = 0))) fun q20 => (if q20 = true then ((F16.f r2.1 ([27, 91, 65] : (List Int))).bind (fun r27 => some r27)) else (some false) : Option Bool).bind (fun q23 => (if q23 = true then ((F16.f r7.1 ([27, 79, 65] : (List Int))).bind (fun r34 => some r34)) else (some false) : Option Bool).bind (fun q30 => (if q30 = true then ((F16.f r13.1 ([27, 91, 50, 48, 48, 126, 97, 98, 13, 27, 91, 50, 48, 49, 126] : (List Int))).bind (fun r41 => some r41)) else (some false) : Option Bool).bind (fun q37 => some (q37)))))))
set_option maxHeartbeats 2000000 in
set_option maxRecDepth 100000 in
theorem F19.ok {k : Nat}  {r : Bool} (H : F19.f k  = some r) : SCA Try.prog 19 #[] [] (fun v B => v = .bool r ∧ B = []) := by
  refine SCA_of_body Try.func19 rfl rfl ?_
  unfold F19.f at H
  refine SA_seq ?_
  refine SA_region ?_
  refine RA_step rfl (OA_v (v := .bool false) rfl (V_assign rfl) ?_)
  refine RA_nil ?_
  refine at_normal ?_
  refine SA_seq ?_
  refine SA_region ?_
  refine RA_step rfl (OA_v (v := .agg #[.int .u8 4, .slice none 0 0, .int .i64 0, .int .i64 0, .int .u8 65]) rfl (V_build (cells := [.int .u8 4, .slice none 0 0, .int .i64 0, .int .i64 0, .int .u8 65]) zero25 Try.underlying25 plc25 rfl) ?_)
  obtain ⟨r2, C46, H⟩ := g_bind H
  refine RA_step rfl (OA.ghost (Gh.nilRo (Kd.int .u8) none 0) (OA_callA [0] [0] rfl (X_fn (vs := [.agg #[.int .u8 4, .slice none 0 0, .int .i64 0, .int .i64 0, .int .u8 65], .bool false, .bool false]) Try.func14 nm14 rfl rfl) rfl (F14.ok (a0 := (S25.mk 4 ([] : (List Int)) 0 0 65)) (A0_0 := none) (c0_0 := 0) (a1 := false) (a2 := false) C46) rfl ?_))
  rintro _ _ ⟨A3, c4, rfl, rfl⟩
  refine RA_step rfl (OA_v (v := .tuple #[.slice A3 r2.1.length c4, .int .i64 r2.2]) rfl (V_move rfl) ?_)
  refine RA_step rfl (OA_v (v := .slice A3 r2.1.length c4) rfl (V_extract rfl rfl) ?_)
  refine RA_step rfl (OA_v (v := .int .i64 r2.2) rfl (V_extract rfl rfl) ?_)
  refine RA_step rfl (OA_v (v := .slice A3 r2.1.length c4) rfl (V_assign rfl) ?_)
  refine RA_step rfl (OA_v (v := .int .i64 r2.2) rfl (V_assign rfl) ?_)
  refine RA_nil ?_
  refine at_normal ?_
  refine SA_seq ?_
  refine SA_region ?_
  refine RA_step rfl (OA_v (v := .agg #[.int .u8 4, .slice none 0 0, .int .i64 0, .int .i64 0, .int .u8 65]) rfl (V_build (cells := [.int .u8 4, .slice none 0 0, .int .i64 0, .int .i64 0, .int .u8 65]) zero25 Try.underlying25 plc25 rfl) ?_)
  obtain ⟨r7, C45, H⟩ := g_bind H
  refine RA_step rfl (OA.ghost (Gh.nilRo (Kd.int .u8) none 0) (OA_callA [2] [0, 1, 2] rfl (X_fn (vs := [.agg #[.int .u8 4, .slice none 0 0, .int .i64 0, .int .i64 0, .int .u8 65], .bool true, .bool false]) Try.func14 nm14 rfl rfl) rfl (F14.ok (a0 := (S25.mk 4 ([] : (List Int)) 0 0 65)) (A0_0 := none) (c0_0 := 0) (a1 := true) (a2 := false) C45) rfl ?_))
  rintro _ _ ⟨A8, c9, rfl, rfl⟩
  refine RA_step rfl (OA_v (v := .tuple #[.slice A8 r7.1.length c9, .int .i64 r7.2]) rfl (V_move rfl) ?_)
  refine RA_step rfl (OA_v (v := .slice A8 r7.1.length c9) rfl (V_extract rfl rfl) ?_)
  refine RA_step rfl (OA_v (v := .int .i64 r7.2) rfl (V_extract rfl rfl) ?_)
  refine RA_step rfl (OA_v (v := .slice A8 r7.1.length c9) rfl (V_assign rfl) ?_)
  refine RA_step rfl (OA_v (v := .int .i64 r7.2) rfl (V_assign rfl) ?_)
  refine RA_nil ?_
  refine at_normal ?_
  refine SA_seq ?_
  refine SA_region ?_
  refine RA_step rfl (OA_bs (kd := (Kd.int .u8)) (zv := (.int .u8 0)) (sz := 1) (cells := [.int .u8 97, .int .u8 27, .int .u8 98, .int .u8 10]) (xs := ([97, 27, 98, 10] : (List Int))) rfl Try.underlying23 zero5 sz5 rfl rfl rfl (by kernel_rfl) rfl rfl (RL_enc (fun x_ : Int => [Value.int .u8 x_]) (fun _ _ => rfl) (by kernel_rfl)) fun b11 => ?_)
  refine RA_step rfl (OA_bytesConst (k := 4) rfl Try.underlying23 Try.underlying5 rfl (by simp) rfl ?_)
  refine RA_step rfl (OA_v (v := .agg #[.int .u8 3, .slice (some ⟨b11, 0, none⟩) ([97, 27, 98, 10] : (List Int)).length 4, .int .i64 0, .int .i64 0, .int .u8 0]) rfl (V_build (cells := [.int .u8 3, .slice (some ⟨b11, 0, none⟩) ([97, 27, 98, 10] : (List Int)).length 4, .int .i64 0, .int .i64 0, .int .u8 0]) zero25 Try.underlying25 plc25 rfl) ?_)
  obtain ⟨r13, C44, H⟩ := g_bind H
  refine RA_step rfl (OA.ghost (Gh.freeze (k := 4) rfl) (OA_callA [4] [0, 1, 2, 3, 4] rfl (X_fn (vs := [.agg #[.int .u8 3, .slice (some ⟨b11, 0, none⟩) ([97, 27, 98, 10] : (List Int)).length 4, .int .i64 0, .int .i64 0, .int .u8 0], .bool false, .bool true]) Try.func14 nm14 rfl rfl) rfl (F14.ok (a0 := (S25.mk 3 ([97, 27, 98, 10] : (List Int)) 0 0 0)) (A0_0 := some ⟨b11, 0, none⟩) (c0_0 := 4) (a1 := false) (a2 := true) C44) rfl ?_))
  rintro _ _ ⟨A14, c15, rfl, rfl⟩
  refine RA_step rfl (OA_v (v := .tuple #[.slice A14 r13.1.length c15, .int .i64 r13.2]) rfl (V_move rfl) ?_)
  refine RA_step rfl (OA_v (v := .slice A14 r13.1.length c15) rfl (V_extract rfl rfl) ?_)
  refine RA_step rfl (OA_v (v := .int .i64 r13.2) rfl (V_extract rfl rfl) ?_)
  refine RA_step rfl (OA_v (v := .slice A14 r13.1.length c15) rfl (V_assign rfl) ?_)
  refine RA_step rfl (OA_v (v := .int .i64 r13.2) rfl (V_assign rfl) ?_)
  refine RA_nil ?_
  refine at_normal ?_
  refine SA_seq ?_
  refine SA_region ?_
  refine RA_step rfl (OA_v (v := .int .i64 r2.2) rfl (V_move rfl) ?_)
  refine RA_step rfl (OA_v (v := .bool (decide (r2.2 = 0))) rfl (V_eql rfl rfl) ?_)
  refine RA_step rfl (OA_v (v := .bool (decide (r2.2 = 0))) rfl (V_move rfl) ?_)
  obtain ⟨q17, hq17, H⟩ := g_lt H
  refine RA_cut 3 (fun e ds As => St [(1, .slice A3 r2.1.length c4), (3, .slice A8 r7.1.length c9), (5, .slice A14 r13.1.length c15), (6, .int .i64 r13.2), (29, .bool q17)] [Buf (Kd.int .u8) 5 A3 c4 r2.1, Buf (Kd.int .u8) 5 A8 c9 r7.1, Buf (Kd.int .u8) 5 A14 c15 r13.1] e ds As) ?_ ?_
  · by_cases h18 : r2.2 = 0
    · refine RA_yesB rfl rfl rfl rfl (dec_t h18) (OA_v (v := .int .i64 r7.2) rfl (V_move rfl) ?_)
      refine RA_yesB rfl rfl rfl rfl (dec_t h18) (OA_v (v := .bool (decide (r7.2 = 0))) rfl (V_eql rfl rfl) ?_)
      refine RA_step rfl (OA_v rfl (V_pickT rfl (dec_t h18) rfl) ?_)
      refine RA_nil ?_
      exact at_normal (St.mk1 (aeq rfl (aeq rfl (aeq rfl (aeq rfl (aeq (congrArg Value.bool (and_t hq17 (dec_t h18))) aeq0))))) (Gh.sel [2, 1, 0] rfl rfl))
    · refine RA_noB rfl rfl rfl rfl (dec_f h18) rfl ?_
      refine RA_noB rfl rfl rfl rfl (dec_f h18) rfl ?_
      refine RA_step rfl (OA_v rfl (V_pickF rfl (dec_f h18) rfl) ?_)
      refine RA_nil ?_
      exact at_normal (St.mk1 (aeq rfl (aeq rfl (aeq rfl (aeq rfl (aeq (congrArg Value.bool (and_f hq17 (dec_f h18))) aeq0))))) (Gh.sel [2, 1, 0] rfl rfl))
  · rintro e ds As hst19
    refine RA.of_St rfl hst19 fun junk => ?_
    refine RA_step rfl (OA_v (v := .bool q17) rfl (V_move rfl) ?_)
    obtain ⟨q20, hq20, H⟩ := g_lt H
    refine RA_cut 3 (fun e ds As => St [(1, .slice A3 r2.1.length c4), (3, .slice A8 r7.1.length c9), (5, .slice A14 r13.1.length c15), (33, .bool q20)] [Buf (Kd.int .u8) 5 A3 c4 r2.1, Buf (Kd.int .u8) 5 A8 c9 r7.1, Buf (Kd.int .u8) 5 A14 c15 r13.1] e ds As) ?_ ?_
    · by_cases h21 : q17 = true
      · refine RA_yesB rfl rfl rfl rfl (h21) (OA_v (v := .int .i64 r13.2) rfl (V_move rfl) ?_)
        refine RA_yesB rfl rfl rfl rfl (h21) (OA_v (v := .bool (decide (r13.2 = 0))) rfl (V_eql rfl rfl) ?_)
        refine RA_step rfl (OA_v rfl (V_pickT rfl (h21) rfl) ?_)
        refine RA_nil ?_
        exact at_normal (St.mk1 (aeq rfl (aeq rfl (aeq rfl (aeq (congrArg Value.bool (and_t hq20 (h21))) aeq0)))) (Gh.sel [0, 1, 2] rfl rfl))
      · refine RA_noB rfl rfl rfl rfl (bno h21) rfl ?_
        refine RA_noB rfl rfl rfl rfl (bno h21) rfl ?_
        refine RA_step rfl (OA_v rfl (V_pickF rfl (bno h21) rfl) ?_)
        refine RA_nil ?_
        exact at_normal (St.mk1 (aeq rfl (aeq rfl (aeq rfl (aeq (congrArg Value.bool (and_f hq20 (bno h21))) aeq0)))) (Gh.sel [0, 1, 2] rfl rfl))
    · rintro e ds As hst22
      refine RA.of_St rfl hst22 fun junk => ?_
      refine RA_step rfl (OA_v (v := .bool q20) rfl (V_move rfl) ?_)
      obtain ⟨q23, H, Bq23⟩ := g_bind H
      refine RA_cut 5 (fun e ds As => St [(3, .slice A8 r7.1.length c9), (5, .slice A14 r13.1.length c15), (39, .bool q23)] [Buf (Kd.int .u8) 5 A8 c9 r7.1, Buf (Kd.int .u8) 5 A14 c15 r13.1] e ds As) ?_ ?_
      · by_cases h24 : q20 = true
        · replace H := g_ift h24 H
          refine RA_yesB rfl rfl rfl rfl (h24) (OA_v (v := .slice A3 r2.1.length c4) rfl (V_move rfl) ?_)
          refine RA_yesB rfl rfl rfl rfl (h24) (OA_bs (kd := (Kd.int .u8)) (zv := (.int .u8 0)) (sz := 1) (cells := [.int .u8 27, .int .u8 91, .int .u8 65]) (xs := ([27, 91, 65] : (List Int))) rfl Try.underlying23 zero5 sz5 rfl rfl rfl (by kernel_rfl) rfl rfl (RL_enc (fun x_ : Int => [Value.int .u8 x_]) (fun _ _ => rfl) (by kernel_rfl)) fun b25 => ?_)
          refine RA_yesB rfl rfl rfl rfl (h24) (OA_bytesConst (k := 3) rfl Try.underlying23 Try.underlying5 rfl (by simp) rfl ?_)
          obtain ⟨r27, C28, H⟩ := g_bind H
          refine RA_yesB rfl rfl rfl rfl (h24) (OA.ghost (Gh.freeze (k := 0) rfl) (OA.ghost (Gh.freeze (k := 3) rfl) (OA_callA [0, 3] [0, 1, 2, 3] rfl (X_fn (vs := [.slice A3 r2.1.length c4, .slice (some ⟨b25, 0, none⟩) ([27, 91, 65] : (List Int)).length 3]) Try.func16 nm16 rfl rfl) rfl (F16.ok (l0 := r2.1) (A0 := A3) (c0 := c4) (l1 := ([27, 91, 65] : (List Int))) (A1 := some ⟨b25, 0, none⟩) (c1 := 3) C28) rfl ?_)))
          rintro _ _ ⟨rfl, rfl⟩
          refine RA_step rfl (OA_v rfl (V_pickT rfl (h24) rfl) ?_)
          have hr_ := Option.some.inj H
          subst hr_
          refine RA_nil ?_
          exact at_normal (St.mk1 (aeq rfl (aeq rfl (aeq rfl aeq0))) (Gh.sel [1, 2] rfl rfl))
        · replace H := g_iff h24 H
          refine RA_noB rfl rfl rfl rfl (bno h24) rfl ?_
          refine RA_noB rfl rfl rfl rfl (bno h24) rfl ?_
          refine RA_noB rfl rfl rfl rfl (bno h24) rfl ?_
          refine RA_noB rfl rfl rfl rfl (bno h24) rfl ?_
          refine RA_step rfl (OA_v rfl (V_pickF rfl (bno h24) rfl) ?_)
          have hr_ := Option.some.inj H
          subst hr_
          refine RA_nil ?_
          exact at_normal (St.mk1 (aeq rfl (aeq rfl (aeq rfl aeq0))) (Gh.sel [1, 2] rfl rfl))
      · rintro e ds As hst29
        clear H
        have H := Bq23
        clear Bq23
        refine RA.of_St rfl hst29 fun junk => ?_
        refine RA_step rfl (OA_v (v := .bool q23) rfl (V_move rfl) ?_)
        obtain ⟨q30, H, Bq30⟩ := g_bind H
        refine RA_cut 5 (fun e ds As => St [(5, .slice A14 r13.1.length c15), (45, .bool q30)] [Buf (Kd.int .u8) 5 A14 c15 r13.1] e ds As) ?_ ?_
        · by_cases h31 : q23 = true
          · replace H := g_ift h31 H
            refine RA_yesB rfl rfl rfl rfl (h31) (OA_v (v := .slice A8 r7.1.length c9) rfl (V_move rfl) ?_)
            refine RA_yesB rfl rfl rfl rfl (h31) (OA_bs (kd := (Kd.int .u8)) (zv := (.int .u8 0)) (sz := 1) (cells := [.int .u8 27, .int .u8 79, .int .u8 65]) (xs := ([27, 79, 65] : (List Int))) rfl Try.underlying23 zero5 sz5 rfl rfl rfl (by kernel_rfl) rfl rfl (RL_enc (fun x_ : Int => [Value.int .u8 x_]) (fun _ _ => rfl) (by kernel_rfl)) fun b32 => ?_)
            refine RA_yesB rfl rfl rfl rfl (h31) (OA_bytesConst (k := 2) rfl Try.underlying23 Try.underlying5 rfl (by simp) rfl ?_)
            obtain ⟨r34, C35, H⟩ := g_bind H
            refine RA_yesB rfl rfl rfl rfl (h31) (OA.ghost (Gh.freeze (k := 0) rfl) (OA.ghost (Gh.freeze (k := 2) rfl) (OA_callA [0, 2] [0, 1, 2] rfl (X_fn (vs := [.slice A8 r7.1.length c9, .slice (some ⟨b32, 0, none⟩) ([27, 79, 65] : (List Int)).length 3]) Try.func16 nm16 rfl rfl) rfl (F16.ok (l0 := r7.1) (A0 := A8) (c0 := c9) (l1 := ([27, 79, 65] : (List Int))) (A1 := some ⟨b32, 0, none⟩) (c1 := 3) C35) rfl ?_)))
            rintro _ _ ⟨rfl, rfl⟩
            refine RA_step rfl (OA_v rfl (V_pickT rfl (h31) rfl) ?_)
            have hr_ := Option.some.inj H
            subst hr_
            refine RA_nil ?_
            exact at_normal (St.mk1 (aeq rfl (aeq rfl aeq0)) (Gh.sel [1] rfl rfl))
          · replace H := g_iff h31 H
            refine RA_noB rfl rfl rfl rfl (bno h31) rfl ?_
            refine RA_noB rfl rfl rfl rfl (bno h31) rfl ?_
            refine RA_noB rfl rfl rfl rfl (bno h31) rfl ?_
            refine RA_noB rfl rfl rfl rfl (bno h31) rfl ?_
            refine RA_step rfl (OA_v rfl (V_pickF rfl (bno h31) rfl) ?_)
            have hr_ := Option.some.inj H
            subst hr_
            refine RA_nil ?_
            exact at_normal (St.mk1 (aeq rfl (aeq rfl aeq0)) (Gh.sel [1] rfl rfl))
        · rintro e ds As hst36
          clear H
          have H := Bq30
          clear Bq30
          refine RA.of_St rfl hst36 fun junk => ?_
          refine RA_step rfl (OA_v (v := .bool q30) rfl (V_move rfl) ?_)
          obtain ⟨q37, H, Bq37⟩ := g_bind H
          refine RA_cut 5 (fun e ds As => St [(51, .bool q37)] [] e ds As) ?_ ?_
          · by_cases h38 : q30 = true
            · replace H := g_ift h38 H
              refine RA_yesB rfl rfl rfl rfl (h38) (OA_v (v := .slice A14 r13.1.length c15) rfl (V_move rfl) ?_)
              refine RA_yesB rfl rfl rfl rfl (h38) (OA_bs (kd := (Kd.int .u8)) (zv := (.int .u8 0)) (sz := 1) (cells := [.int .u8 27, .int .u8 91, .int .u8 50, .int .u8 48, .int .u8 48, .int .u8 126, .int .u8 97, .int .u8 98, .int .u8 13, .int .u8 27, .int .u8 91, .int .u8 50, .int .u8 48, .int .u8 49, .int .u8 126]) (xs := ([27, 91, 50, 48, 48, 126, 97, 98, 13, 27, 91, 50, 48, 49, 126] : (List Int))) rfl Try.underlying23 zero5 sz5 rfl rfl rfl (by kernel_rfl) rfl rfl (RL_enc (fun x_ : Int => [Value.int .u8 x_]) (fun _ _ => rfl) (by kernel_rfl)) fun b39 => ?_)
              refine RA_yesB rfl rfl rfl rfl (h38) (OA_bytesConst (k := 1) rfl Try.underlying23 Try.underlying5 rfl (by simp) rfl ?_)
              obtain ⟨r41, C42, H⟩ := g_bind H
              refine RA_yesB rfl rfl rfl rfl (h38) (OA.ghost (Gh.freeze (k := 0) rfl) (OA.ghost (Gh.freeze (k := 1) rfl) (OA_callA [0, 1] [0, 1] rfl (X_fn (vs := [.slice A14 r13.1.length c15, .slice (some ⟨b39, 0, none⟩) ([27, 91, 50, 48, 48, 126, 97, 98, 13, 27, 91, 50, 48, 49, 126] : (List Int)).length 15]) Try.func16 nm16 rfl rfl) rfl (F16.ok (l0 := r13.1) (A0 := A14) (c0 := c15) (l1 := ([27, 91, 50, 48, 48, 126, 97, 98, 13, 27, 91, 50, 48, 49, 126] : (List Int))) (A1 := some ⟨b39, 0, none⟩) (c1 := 15) C42) rfl ?_)))
              rintro _ _ ⟨rfl, rfl⟩
              refine RA_step rfl (OA_v rfl (V_pickT rfl (h38) rfl) ?_)
              have hr_ := Option.some.inj H
              subst hr_
              refine RA_nil ?_
              exact at_normal (St.mk1 (aeq rfl aeq0) (Gh.sel [] rfl rfl))
            · replace H := g_iff h38 H
              refine RA_noB rfl rfl rfl rfl (bno h38) rfl ?_
              refine RA_noB rfl rfl rfl rfl (bno h38) rfl ?_
              refine RA_noB rfl rfl rfl rfl (bno h38) rfl ?_
              refine RA_noB rfl rfl rfl rfl (bno h38) rfl ?_
              refine RA_step rfl (OA_v rfl (V_pickF rfl (bno h38) rfl) ?_)
              have hr_ := Option.some.inj H
              subst hr_
              refine RA_nil ?_
              exact at_normal (St.mk1 (aeq rfl aeq0) (Gh.sel [] rfl rfl))
          · rintro e ds As hst43
            clear H
            have H := Bq37
            clear Bq37
            refine RA.of_St rfl hst43 fun junk => ?_
            refine RA_step rfl (OA_v (v := .bool q37) rfl (V_assign rfl) ?_)
            refine RA_nil ?_
            refine at_normal ?_
            refine SA_ret ?_
            have hr_ := Option.some.inj H
            subst hr_
            exact BQ_R1 [] rfl rfl (Gh.sel [] rfl rfl) ⟨rfl, rfl⟩

/-! ### function 3: wayfarer/wayfarerlaw20.KeysEncode -/
def F3.f (k : Nat) (a0 : S25) (a1 : S27) (l2 : (List Int)) : Option (Bool) := (F14.f k a0 a1.f0 a1.f1).bind (fun r7 => (F15.f k a0 a1.f0 a1.f1).bind (fun r11 => (F16.f r7.1 r11.1).bind (fun r15 => lt (r15 && (decide (r7.2 = r11.2))) fun q16 => (if q16 = true then ((F17.f k l2).bind (fun r21 => (F18.f k l2).bind (fun r25 => (F16.f r21 r25).bind (fun r29 => some r29)))) else (some false) : Option Bool).bind (fun q19 => (if q19 = true then ((F19.f k ).bind (fun r36 => some r36)) else (some false) : Option Bool).bind (fun q34 => some (q34))))))
set_option maxHeartbeats 2000000 in
set_option maxRecDepth 100000 in
theorem F3.ok {k : Nat} {a0 : S25} {a1 : S27} {l2 : (List Int)} {A0_0 : Option Addr} {c0_0 : Nat} {A2 : Option Addr} {c2 : Nat} {r : Bool} (H : F3.f k a0 a1 l2 = some r) : SCA Try.prog 3 #[.agg #[.int .u8 a0.f0, .slice A0_0 a0.f1.length c0_0, .int .i64 a0.f2, .int .i64 a0.f3, .int .u8 a0.f4], .agg #[.bool a1.f0, .bool a1.f1], .slice A2 l2.length c2] [Ro (Kd.int .u8) A0_0 c0_0 a0.f1, Ro (Kd.int .u8) A2 c2 l2] (fun v B => v = .bool r ∧ B = []) := by
  refine SCA_of_body Try.func3 rfl rfl ?_
  unfold F3.f at H
  refine SA_seq ?_
  refine SA_region ?_
  refine RA_step rfl (OA_box rfl rfl fun b3 => ?_)
  refine RA_step rfl (OA_box rfl rfl fun b5 => ?_)
  refine RA_step rfl (OA_v (v := .bool false) rfl (V_assign rfl) ?_)
  refine RA_nil ?_
  refine at_normal ?_
  refine SA_seq ?_
  refine SA_region ?_
  refine RA_step rfl (OA_r rfl (VR_loadA_blk (b := b3) (m := 0) (k := 2) (vs := [.int .u8 a0.f0, .slice A0_0 a0.f1.length c0_0, .int .i64 a0.f2, .int .i64 a0.f3, .int .u8 a0.f4]) Try.underlying25 rfl sz25 rfl rfl rfl) ?_)
  refine RA_step rfl (OA_v (v := .pointer (some ⟨b5, 0, none⟩)) rfl (V_fieldAddrN (B := ⟨b5, 0, none⟩) (m := 0) (o := 0) Try.underlying27 rfl nz4 rfl rfl) ?_)
  refine RA_step rfl (OA_r rfl (VR_load_blk (b := b5) (m := 0) (k := 3) Try.underlying4 rfl rfl rfl rfl) ?_)
  refine RA_step rfl (OA_v (v := .pointer (some ((⟨b5, 0, none⟩ : Addr).add 1))) rfl (V_fieldAddrN (B := ⟨b5, 0, none⟩) (m := 0) (o := 1) Try.underlying27 rfl nz4 rfl rfl) ?_)
  refine RA_step rfl (OA_r rfl (VR_load_blk (b := b5) (m := 1) (k := 3) Try.underlying4 rfl rfl rfl rfl) ?_)
  obtain ⟨r7, C41, H⟩ := g_bind H
  refine RA_step rfl (OA_callA [0] [0, 1, 2, 3] rfl (X_fn (vs := [.agg #[.int .u8 a0.f0, .slice A0_0 a0.f1.length c0_0, .int .i64 a0.f2, .int .i64 a0.f3, .int .u8 a0.f4], .bool a1.f0, .bool a1.f1]) Try.func14 nm14 rfl rfl) rfl (F14.ok (a0 := a0) (A0_0 := A0_0) (c0_0 := c0_0) (a1 := a1.f0) (a2 := a1.f1) C41) rfl ?_)
  rintro _ _ ⟨A8, c9, rfl, rfl⟩
  refine RA_step rfl (OA_v (v := .tuple #[.slice A8 r7.1.length c9, .int .i64 r7.2]) rfl (V_move rfl) ?_)
  refine RA_step rfl (OA_v (v := .slice A8 r7.1.length c9) rfl (V_extract rfl rfl) ?_)
  refine RA_step rfl (OA_v (v := .int .i64 r7.2) rfl (V_extract rfl rfl) ?_)
  refine RA_step rfl (OA_v (v := .slice A8 r7.1.length c9) rfl (V_assign rfl) ?_)
  refine RA_step rfl (OA_v (v := .int .i64 r7.2) rfl (V_assign rfl) ?_)
  refine RA_nil ?_
  refine at_normal ?_
  refine SA_seq ?_
  refine SA_region ?_
  refine RA_step rfl (OA_r rfl (VR_loadA_blk (b := b3) (m := 0) (k := 3) (vs := [.int .u8 a0.f0, .slice A0_0 a0.f1.length c0_0, .int .i64 a0.f2, .int .i64 a0.f3, .int .u8 a0.f4]) Try.underlying25 rfl sz25 rfl rfl rfl) ?_)
  refine RA_step rfl (OA_v (v := .pointer (some ⟨b5, 0, none⟩)) rfl (V_fieldAddrN (B := ⟨b5, 0, none⟩) (m := 0) (o := 0) Try.underlying27 rfl nz4 rfl rfl) ?_)
  refine RA_step rfl (OA_r rfl (VR_load_blk (b := b5) (m := 0) (k := 4) Try.underlying4 rfl rfl rfl rfl) ?_)
  refine RA_step rfl (OA_v (v := .pointer (some ((⟨b5, 0, none⟩ : Addr).add 1))) rfl (V_fieldAddrN (B := ⟨b5, 0, none⟩) (m := 0) (o := 1) Try.underlying27 rfl nz4 rfl rfl) ?_)
  refine RA_step rfl (OA_r rfl (VR_load_blk (b := b5) (m := 1) (k := 4) Try.underlying4 rfl rfl rfl rfl) ?_)
  obtain ⟨r11, C40, H⟩ := g_bind H
  refine RA_step rfl (OA_callA [1] [0, 1, 2, 3, 4] rfl (X_fn (vs := [.agg #[.int .u8 a0.f0, .slice A0_0 a0.f1.length c0_0, .int .i64 a0.f2, .int .i64 a0.f3, .int .u8 a0.f4], .bool a1.f0, .bool a1.f1]) Try.func15 nm15 rfl rfl) rfl (F15.ok (a0 := a0) (A0_0 := A0_0) (c0_0 := c0_0) (a1 := a1.f0) (a2 := a1.f1) C40) rfl ?_)
  rintro _ _ ⟨A12, c13, rfl, rfl⟩
  refine RA_step rfl (OA_v (v := .tuple #[.slice A12 r11.1.length c13, .int .i64 r11.2]) rfl (V_move rfl) ?_)
  refine RA_step rfl (OA_v (v := .slice A12 r11.1.length c13) rfl (V_extract rfl rfl) ?_)
  refine RA_step rfl (OA_v (v := .int .i64 r11.2) rfl (V_extract rfl rfl) ?_)
  refine RA_step rfl (OA_v (v := .slice A12 r11.1.length c13) rfl (V_assign rfl) ?_)
  refine RA_step rfl (OA_v (v := .int .i64 r11.2) rfl (V_assign rfl) ?_)
  refine RA_nil ?_
  refine at_normal ?_
  refine SA_seq ?_
  refine SA_region ?_
  refine RA_step rfl (OA_v (v := .slice A8 r7.1.length c9) rfl (V_move rfl) ?_)
  refine RA_step rfl (OA_v (v := .slice A12 r11.1.length c13) rfl (V_move rfl) ?_)
  obtain ⟨r15, C39, H⟩ := g_bind H
  refine RA_step rfl (OA.ghost (Gh.freeze (k := 1) rfl) (OA.ghost (Gh.freeze (k := 0) rfl) (OA_callA [1, 0] [0, 1, 2, 3, 4, 5] rfl (X_fn (vs := [.slice A8 r7.1.length c9, .slice A12 r11.1.length c13]) Try.func16 nm16 rfl rfl) rfl (F16.ok (l0 := r7.1) (A0 := A8) (c0 := c9) (l1 := r11.1) (A1 := A12) (c1 := c13) C39) rfl ?_)))
  rintro _ _ ⟨rfl, rfl⟩
  refine RA_step rfl (OA_v (v := .bool r15) rfl (V_move rfl) ?_)
  obtain ⟨q16, hq16, H⟩ := g_lt H
  refine RA_cut 4 (fun e ds As => St [(2, .slice A2 l2.length c2), (36, .bool q16)] [Ro (Kd.int .u8) A2 c2 l2] e ds As) ?_ ?_
  · by_cases h17 : r15 = true
    · refine RA_yesB rfl rfl rfl rfl (h17) (OA_v (v := .int .i64 r7.2) rfl (V_move rfl) ?_)
      refine RA_yesB rfl rfl rfl rfl (h17) (OA_v (v := .int .i64 r11.2) rfl (V_move rfl) ?_)
      refine RA_yesB rfl rfl rfl rfl (h17) (OA_v (v := .bool (decide (r7.2 = r11.2))) rfl (V_eql rfl rfl) ?_)
      refine RA_step rfl (OA_v rfl (V_pickT rfl (h17) rfl) ?_)
      refine RA_nil ?_
      exact at_normal (St.mk1 (aeq rfl (aeq (congrArg Value.bool (and_t hq16 (h17))) aeq0)) (Gh.sel [3] rfl rfl))
    · refine RA_noB rfl rfl rfl rfl (bno h17) rfl ?_
      refine RA_noB rfl rfl rfl rfl (bno h17) rfl ?_
      refine RA_noB rfl rfl rfl rfl (bno h17) rfl ?_
      refine RA_step rfl (OA_v rfl (V_pickF rfl (bno h17) rfl) ?_)
      refine RA_nil ?_
      exact at_normal (St.mk1 (aeq rfl (aeq (congrArg Value.bool (and_f hq16 (bno h17))) aeq0)) (Gh.sel [3] rfl rfl))
  · rintro e ds As hst18
    refine RA.of_St rfl hst18 fun junk => ?_
    refine RA_step rfl (OA_v (v := .bool q16) rfl (V_move rfl) ?_)
    obtain ⟨q19, H, Bq19⟩ := g_bind H
    refine RA_cut 6 (fun e ds As => St [(43, .bool q19)] [] e ds As) ?_ ?_
    · by_cases h20 : q16 = true
      · replace H := g_ift h20 H
        refine RA_yesB rfl rfl rfl rfl (h20) (OA_v (v := .slice A2 l2.length c2) rfl (V_move rfl) ?_)
        obtain ⟨r21, C32, H⟩ := g_bind H
        refine RA_yesB rfl rfl rfl rfl (h20) (OA_callA [0] [0] rfl (X_fn (vs := [.slice A2 l2.length c2]) Try.func17 nm17 rfl rfl) rfl (F17.ok (l0 := l2) (A0 := A2) (c0 := c2) C32) rfl ?_)
        rintro _ _ ⟨A22, c23, rfl, rfl⟩
        refine RA_yesB rfl rfl rfl rfl (h20) (OA_v (v := .slice A2 l2.length c2) rfl (V_move rfl) ?_)
        obtain ⟨r25, C31, H⟩ := g_bind H
        refine RA_yesB rfl rfl rfl rfl (h20) (OA_callA [1] [0, 1] rfl (X_fn (vs := [.slice A2 l2.length c2]) Try.func18 nm18 rfl rfl) rfl (F18.ok (l0 := l2) (A0 := A2) (c0 := c2) C31) rfl ?_)
        rintro _ _ ⟨A26, c27, rfl, rfl⟩
        obtain ⟨r29, C30, H⟩ := g_bind H
        refine RA_yesB rfl rfl rfl rfl (h20) (OA.ghost (Gh.freeze (k := 1) rfl) (OA.ghost (Gh.freeze (k := 0) rfl) (OA_callA [1, 0] [0, 1, 2] rfl (X_fn (vs := [.slice A22 r21.length c23, .slice A26 r25.length c27]) Try.func16 nm16 rfl rfl) rfl (F16.ok (l0 := r21) (A0 := A22) (c0 := c23) (l1 := r25) (A1 := A26) (c1 := c27) C30) rfl ?_)))
        rintro _ _ ⟨rfl, rfl⟩
        refine RA_step rfl (OA_v rfl (V_pickT rfl (h20) rfl) ?_)
        have hr_ := Option.some.inj H
        subst hr_
        refine RA_nil ?_
        exact at_normal (St.mk1 (aeq rfl aeq0) (Gh.sel [] rfl rfl))
      · replace H := g_iff h20 H
        refine RA_noB rfl rfl rfl rfl (bno h20) rfl ?_
        refine RA_noB rfl rfl rfl rfl (bno h20) rfl ?_
        refine RA_noB rfl rfl rfl rfl (bno h20) rfl ?_
        refine RA_noB rfl rfl rfl rfl (bno h20) rfl ?_
        refine RA_noB rfl rfl rfl rfl (bno h20) rfl ?_
        refine RA_step rfl (OA_v rfl (V_pickF rfl (bno h20) rfl) ?_)
        have hr_ := Option.some.inj H
        subst hr_
        refine RA_nil ?_
        exact at_normal (St.mk1 (aeq rfl aeq0) (Gh.sel [] rfl rfl))
    · rintro e ds As hst33
      clear H
      have H := Bq19
      clear Bq19
      refine RA.of_St rfl hst33 fun junk => ?_
      refine RA_step rfl (OA_v (v := .bool q19) rfl (V_move rfl) ?_)
      obtain ⟨q34, H, Bq34⟩ := g_bind H
      refine RA_cut 2 (fun e ds As => St [(46, .bool q34)] [] e ds As) ?_ ?_
      · by_cases h35 : q19 = true
        · replace H := g_ift h35 H
          obtain ⟨r36, C37, H⟩ := g_bind H
          refine RA_yesB rfl rfl rfl rfl (h35) (OA_callA [] [] rfl (X_fn (vs := []) Try.func19 nm19 rfl rfl) rfl (F19.ok C37) rfl ?_)
          rintro _ _ ⟨rfl, rfl⟩
          refine RA_step rfl (OA_v rfl (V_pickT rfl (h35) rfl) ?_)
          have hr_ := Option.some.inj H
          subst hr_
          refine RA_nil ?_
          exact at_normal (St.mk1 (aeq rfl aeq0) (Gh.sel [] rfl rfl))
        · replace H := g_iff h35 H
          refine RA_noB rfl rfl rfl rfl (bno h35) rfl ?_
          refine RA_step rfl (OA_v rfl (V_pickF rfl (bno h35) rfl) ?_)
          have hr_ := Option.some.inj H
          subst hr_
          refine RA_nil ?_
          exact at_normal (St.mk1 (aeq rfl aeq0) (Gh.sel [] rfl rfl))
      · rintro e ds As hst38
        clear H
        have H := Bq34
        clear Bq34
        refine RA.of_St rfl hst38 fun junk => ?_
        refine RA_step rfl (OA_v (v := .bool q34) rfl (V_assign rfl) ?_)
        refine RA_nil ?_
        refine at_normal ?_
        refine SA_ret ?_
        have hr_ := Option.some.inj H
        subst hr_
        exact BQ_R1 [] rfl rfl (Gh.sel [] rfl rfl) ⟨rfl, rfl⟩
end Go.Proofs.Ytodkeoibebimgaa.Ka

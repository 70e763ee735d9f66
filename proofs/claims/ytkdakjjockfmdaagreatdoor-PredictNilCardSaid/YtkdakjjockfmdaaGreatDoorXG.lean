/- A machine that reckons: cuts and conversions. -/
import Derived.Test.YtkdakjjockfmdaaGreatDoorXF
namespace Go.Proofs.YtkdakjjockfmdaaGreatDoor.XC
open Go Go.RowKit Go.Proofs.YtkdakjjockfmdaaGreatDoor.SL
set_option linter.unusedVariables false
set_option linter.unusedSimpArgs false
section
variable {P : Program} {ρ : Type} {σ : List Ad} {L : Tr At} {s : St} {I h : Hp} {As : List Asrt} {e : Env} {w : World} {K : SV → St → Option ρ} {r : ρ}
variable {d : Option Nat} {T T' E ty : TypeId} {x y c : Operand} {pos : String} {aft : Array Edge} {g : Option (Nat × Bool)} {rds : List Nat} {lo hi mx : Option Operand}

/-- The bounds as they are written. -/
structure Num (e : Env) (lo hi mx : Option Operand) (n l h : Int) (m : Option Int) : Prop where
  pl : lo.map (ev e) = none ∧ l = 0 ∨ ∃ k, lo.map (ev e) = some (.int k l)
  ph : hi.map (ev e) = none ∧ mx.map (ev e) = none ∧ h = n ∨ ∃ k, hi.map (ev e) = some (.int k h)
  pm : match m with | none => mx.map (ev e) = none | some m => (∃ k, mx.map (ev e) = some (.int k m)) ∧ ∃ k, hi.map (ev e) = some (.int k h)
theorem num3_ok (S : SR σ s I h As e) {n l u : Int} {m : Option Int} (hn : num3 (lo.map (sev s)) (hi.map (sev s)) (mx.map (sev s)) n = some (l, u, m)) : Num e lo hi mx n l u m := by
  have key : ∀ {x : Operand} {k : IntKind} {i : Int}, sev s x = .int k i → ev e x = .int k i := fun {x k i} q => by have := sev_ok S x; rw [q] at this; exact this
  unfold num3 at hn
  cases lo <;> cases hi <;> cases mx <;> simp only [Option.map_none, Option.map_some] at hn
  case none.none.none => cases hn; exact ⟨.inl ⟨rfl, rfl⟩, .inl ⟨rfl, rfl, rfl⟩, rfl⟩
  case some.none.none a =>
    split at hn <;> try contradiction
    all_goals (cases hn)
    all_goals (exact ⟨.inr ⟨_, congrArg some (key (Option.some.inj (by assumption)))⟩, .inl ⟨rfl, rfl, rfl⟩, rfl⟩)
  case none.some.none a =>
    split at hn <;> try contradiction
    all_goals (cases hn)
    all_goals (exact ⟨.inl ⟨rfl, rfl⟩, .inr ⟨_, congrArg some (key (Option.some.inj (by assumption)))⟩, rfl⟩)
  case some.some.none a b =>
    split at hn <;> try contradiction
    all_goals (cases hn)
    all_goals (exact ⟨.inr ⟨_, congrArg some (key (Option.some.inj (by assumption)))⟩, .inr ⟨_, congrArg some (key (Option.some.inj (by assumption)))⟩, rfl⟩)
  case none.some.some a b =>
    split at hn <;> try contradiction
    all_goals (cases hn)
    all_goals (exact ⟨.inl ⟨rfl, rfl⟩, .inr ⟨_, congrArg some (key (Option.some.inj (by assumption)))⟩, ⟨_, congrArg some (key (Option.some.inj (by assumption)))⟩, ⟨_, congrArg some (key (Option.some.inj (by assumption)))⟩⟩)
  case some.some.some a b c =>
    split at hn <;> try contradiction
    all_goals (cases hn)
    all_goals (exact ⟨.inr ⟨_, congrArg some (key (Option.some.inj (by assumption)))⟩, .inr ⟨_, congrArg some (key (Option.some.inj (by assumption)))⟩, ⟨_, congrArg some (key (Option.some.inj (by assumption)))⟩, ⟨_, congrArg some (key (Option.some.inj (by assumption)))⟩⟩)
  all_goals first | contradiction | (split at hn <;> contradiction)
/-- A cut of a slice value. -/
theorem slice_any {A : Option Addr} {len cp sz : Nat} {l u : Int} {m : Option Int} (N : Num e lo hi mx (len : Int) l u m) (hu : P.underlying T = some (.slice E)) (hz : szOf P E = some sz) (hx : ev e x = .slice A len cp) (h0 : 0 ≤ l) (h1 : l ≤ u) (h2 : u ≤ m.getD (cp : Int)) (h3 : m.getD (cp : Int) ≤ (cp : Int)) :
    SL.V P e ⟨d, .slice T x lo hi mx, ty, pos, aft, g⟩ (.slice (slA A l (m.getD cp) sz) (u.toNat - l.toNat) ((m.getD (cp : Int)).toNat - l.toNat)) := by
  refine V_slice hu hz hx rfl rfl rfl ⟨N.pl, N.ph, ?_⟩ h0 h1 h2 h3
  have := N.pm
  cases m with
  | none => exact .inl ⟨this, rfl⟩
  | some m => exact .inr this
theorem mOk_le {u n : Int} {cp : Nat} {m : Option Int} (h : mOk u n m) (h2 : u ≤ n) (hc : n ≤ (cp : Int)) : u ≤ m.getD (cp : Int) ∧ m.getD (cp : Int) ≤ (cp : Int) := by
  cases m with
  | none => simp; omega
  | some m => simp only [mOk] at h; simp; omega

theorem slice_sl {k z : Nat} {l u : Int} {m : Option Int} {t : Ty} {xs : List t.den} (S : SR σ s I h As e) (F : Fits I h w) (hs : IsSl s.L k t T' xs) (hu : P.underlying T = some (.slice E)) (hz : szOf P E = some z) (ht : t.sz = z)
    (hx : VR σ s.L I (.sl k) (ev e x)) (N : Num e lo hi mx (xs.length : Int) l u m) (hb : 0 ≤ l ∧ l ≤ u ∧ u ≤ (xs.length : Int) ∧ mOk u xs.length m) :
    ∃ v, VR σ s.L I (.win k l (u - l)) v ∧ SL.V P e ⟨d, .slice T x lo hi mx, ty, pos, aft, g⟩ v := by
  obtain ⟨h0, h1, h2, h3⟩ := hb
  have hlt := hx.1
  obtain ⟨_, _, hx⟩ := hx
  obtain ⟨a, ha, hv⟩ := hx t T' xs hs
  obtain ⟨a', ha', cs, _, hle, _⟩ := sl_cells S F hs
  rw [ha] at ha'; cases ha'
  obtain ⟨m1, m2⟩ := mOk_le (cp := a.c) h3 h2 (by omega)
  refine ⟨_, ⟨hlt, ⟨_, _, _, rfl⟩, fun t2 E2 ys hys => ?_⟩, slice_any N hu hz hv h0 h1 m1 m2⟩
  have hw := (Win.whole (A := a.A) (sz := z) (xs := xs) hle).sub (a := l) (b := u) (m := m.getD (a.c : Int)) h0 h1 h2 (.inr m1) m2
  rw [Int.zero_add] at hw
  have ht2 : t2.sz = z ∧ ys.length = xs.length := by
    have inj : ∀ {t1 t2 : Ty} {E1 E2} {x1 : List t1.den} {x2 : List t2.den}, IsSl s.L k t1 E1 x1 → IsSl s.L k t2 E2 x2 → t1.sz = t2.sz ∧ x1.length = x2.length := by
      intro t1 t2 E1 E2 x1 x2 p q
      rcases p with p | p <;> rcases q with q | q <;> rw [p] at q <;> cases q <;> exact ⟨rfl, rfl⟩
    obtain ⟨p, q⟩ := inj hys hs
    exact ⟨p.trans ht, q⟩
  refine ⟨a, _, _, ha, by rw [ht2.1]; exact hw, ?_, by rw [ht2.2]; omega⟩
  congr 1; omega
theorem slice_win {k z : Nat} {o n l u : Int} {m : Option Int} {t : Ty} {xs : List t.den} (hs : IsSl s.L k t T' xs) (hu : P.underlying T = some (.slice E)) (hz : szOf P E = some z) (ht : t.sz = z)
    (hx : VR σ s.L I (.win k o n) (ev e x)) (N : Num e lo hi mx n l u m) (hb : 0 ≤ l ∧ l ≤ u ∧ u ≤ n ∧ mOk u n m) :
    ∃ v, VR σ s.L I (.win k (o + l) (u - l)) v ∧ SL.V P e ⟨d, .slice T x lo hi mx, ty, pos, aft, g⟩ v := by
  obtain ⟨h0, h1, h2, h3⟩ := hb
  have hlt := hx.1
  obtain ⟨_, _, hx⟩ := hx
  obtain ⟨a, V, c, ha, hw, hv, hle⟩ := hx t T' xs hs
  subst ht
  have hcap := hw.cap
  obtain ⟨m1, m2⟩ := mOk_le (cp := c) h3 h2 hcap
  have hm := N.pm
  refine ⟨_, ⟨hlt, ⟨_, _, _, rfl⟩, fun t2 E2 ys hys => ?_⟩, V_sliceW (q := m.getD (c : Int)) hw hu hz hv rfl rfl rfl N.pl N.ph ?_ h0 h1 h2⟩
  · have ht2 : t2.sz = t.sz ∧ ys.length = xs.length := by
      rcases hys with p | p <;> rcases hs with q | q <;> rw [p] at q <;> cases q <;> exact ⟨rfl, rfl⟩
    refine ⟨a, _, _, ha, by rw [ht2.1]; exact hw.sub h0 h1 h2 (.inr m1) m2, rfl, by rw [ht2.2]; omega⟩
  · cases m with
    | none => exact .inl ⟨hm, rfl⟩
    | some m => exact .inr ⟨hm.1, hm.2, h3⟩
theorem look_slice (S : SR σ s I h As e) (F : Fits I h w) (hX : opX P s (.slice T x lo hi mx) K = some r) : LookOk P s ⟨d, .slice T x lo hi mx, ty, pos, aft, g⟩ K r σ I w e rds := by
  have hx := sev_ok S x
  simp only [opX] at hX
  cases hzc : zeroCut (sev s x) (lo.map (sev s)) (hi.map (sev s)) (mx.map (sev s)) with
  | true =>
    rw [hzc] at hX
    simp only [cond_true] at hX
    split at hX
    · rename_i E hu
      split at hX
      · rename_i z hz
        simp only [zeroCut, Bool.and_eq_true] at hzc
        obtain ⟨⟨⟨h1, h2⟩, h3⟩, h4⟩ := hzc
        have hv : ∃ A n c, ev e x = .slice A n c := by
          cases hq : sev s x <;> rw [hq] at h1 hx <;> try (cases h1; done)
          case rv => obtain ⟨A, c, hv, _⟩ := hx; exact ⟨_, _, _, hv⟩
          case sl => obtain ⟨_, hv, _⟩ := hx; exact hv
          case win => obtain ⟨_, hv, _⟩ := hx; exact hv
          case nils => exact ⟨_, _, _, hx⟩
          case e0 => obtain ⟨A, hv, _⟩ := hx; exact ⟨_, _, _, hv⟩
        obtain ⟨A, n, c, hv⟩ := hv
        have zz : ∀ {o : Option Operand}, isZ (o.map (sev s)) = true → ∃ k, o.map (sev s) = some (.int k 0) := fun {o} q => by
          cases o with
          | none => cases q
          | some y =>
            simp only [Option.map_some] at q ⊢
            cases hy : sev s y <;> rw [hy] at q <;> try (cases q; done)
            simp only [isZ, decide_eq_true_eq] at q
            subst q
            exact ⟨_, rfl⟩
        obtain ⟨k3, e3⟩ := zz h3
        obtain ⟨k4, e4⟩ := zz h4
        have hn : num3 (lo.map (sev s)) (hi.map (sev s)) (mx.map (sev s)) (n : Int) = some (0, 0, some 0) := by
          rw [e3, e4]
          cases hlo : lo.map (sev s) with
          | none => rfl
          | some v =>
            rw [hlo] at h2
            cases v <;> try (cases h2; done)
            simp only [isZ, decide_eq_true_eq] at h2
            subst h2; rfl
        have hV := slice_any (d := d) (ty := ty) (pos := pos) (aft := aft) (g := g) (num3_ok S hn) hu hz hv (Int.le_refl 0) (Int.le_refl 0) (by simp) (by simp)
        exact LookOk.pure hX ⟨_, rfl, fun q => by cases q⟩ hV
      · cases hX
    · cases hX
  | false =>
  rw [hzc] at hX
  simp only [cond_false] at hX
  unfold sliceX at hX
  split at hX
  · -- an array's
    rename_i N E k o hu hq
    rw [hq] at hx
    obtain ⟨a, ha, hv⟩ := hx
    split at hX
    · rename_i z t l u m hz ht hn
      have M := num3_ok S hn
      cases hb : Nat.beq t.sz z with
      | false => rw [hb] at hX; cases hX
      | true =>
        rw [hb] at hX
        simp only [cond_true] at hX
        split at hX
        · rename_i hc
          obtain ⟨h0, h1, h2, h3⟩ := hc
          refine LookOk.pure (u := .slice (some (if (m.getD (N : Int)).toNat = l.toNat then (⟨a.b, 0, none⟩ : Addr).add o else ((⟨a.b, 0, none⟩ : Addr).add o).add (l.toNat * z))) (u - l).toNat ((m.getD (N : Int)) - l).toNat) hX ⟨a, _, ha, rfl, ?_, by omega⟩ fun w => ?_
          · by_cases q : (m.getD (N : Int)).toNat = l.toNat
            · left; omega
            · right; rw [if_neg q, add_add]
          · generalize hmm : m.getD (N : Int) = mm at *
            have em : (mm.toNat : Int) = mm := Int.toNat_of_nonneg (by omega)
            have eu : (u.toNat : Int) = u := Int.toNat_of_nonneg (by omega)
            have bm : (k : IntKind) → ∀ code, (Instr.sliceBound (.int k mm) N code).run P w = .ok mm.toNat w := fun k code => run_sliceBound (P := P) (w := w) k mm N code (by omega) h3
            have bh : (k : IntKind) → ∀ code, (Instr.sliceBound (.int k u) mm.toNat code).run P w = .ok u.toNat w := fun k code => run_sliceBound (P := P) (w := w) k u mm.toNat code (by omega) (by omega)
            have bl : (k : IntKind) → ∀ code, (Instr.sliceBound (.int k l) u.toNat code).run P w = .ok l.toNat w := fun k code => run_sliceBound (P := P) (w := w) k l u.toNat code (by omega) (by omega)
            have b1 : (u - l).toNat = u.toNat - l.toNat := by omega
            have b2 : (mm - l).toNat = mm.toNat - l.toNat := by omega
            rw [b1, b2]
            unfold szOf at hz
            cases hq' : P.info? E with
            | none => simp [hq'] at hz
            | some q =>
              have hz' : q.size = z := by simpa [hq'] using hz
              have hbnd : (Instr.sliceBounds false N N (lo.map (ev e)) (hi.map (ev e)) (mx.map (ev e))).run P w = .ok (l.toNat, u.toNat, mm.toNat) w := by
                have Ml := M.pl; have Mh := M.ph; have Mm := M.pm
                cases m with
                | none =>
                  simp only [Option.getD_none] at hmm
                  subst hmm
                  simp only at Mm
                  rw [Mm]
                  simp only [Int.toNat_natCast] at bh
                  rcases Mh with ⟨p, _, q⟩ | ⟨kh, p⟩
                  · subst q
                    simp only [Int.toNat_natCast] at bl ⊢
                    rcases Ml with ⟨q, q'⟩ | ⟨kl, q⟩
                    · subst q'; rw [p, q]; simp [Instr.sliceBounds]
                    · rw [p, q]; simp [Instr.sliceBounds, bl]
                  · rcases Ml with ⟨q, q'⟩ | ⟨kl, q⟩
                    · subst q'; rw [p, q]; simp [Instr.sliceBounds, bh]
                    · rw [p, q]; simp [Instr.sliceBounds, bh, bl]
                | some m =>
                  simp only [Option.getD_some] at hmm
                  subst hmm
                  simp only at Mm
                  obtain ⟨⟨km, p⟩, ⟨kh, p'⟩⟩ := Mm
                  rcases Ml with ⟨q, q'⟩ | ⟨kl, q⟩
                  · subst q'; rw [p, p', q]; simp [Instr.sliceBounds, bm, bh]
                  · rw [p, p', q]; simp [Instr.sliceBounds, bm, bh, bl]
              simp [execOp, hv, Instr.sliceAt, run_underlying hu, Instr.sureAddr, hbnd, sizeOf, typeInfo, hq', hz']
        · cases hX
    · cases hX
  · rename_i E k o t n c hu hq
    rw [hq] at hx
    obtain ⟨a, A, ha, hv, hA, hle⟩ := hx
    split at hX
    · rename_i z l u m hz hn
      have M := num3_ok S hn
      cases hb : Nat.beq t.sz z with
      | false => rw [hb] at hX; cases hX
      | true =>
        rw [hb] at hX
        simp only [cond_true] at hX
        split at hX
        · rename_i hc
          obtain ⟨h0, h1, h2, h3⟩ := hc
          have hV := slice_any (d := d) (ty := ty) (pos := pos) (aft := aft) (g := g) M hu hz hv h0 h1 h2 h3
          have b1 : (u - l).toNat = u.toNat - l.toNat := by omega
          have b2 : ((m.getD (c : Int)) - l).toNat = (m.getD (c : Int)).toNat - l.toNat := by omega
          have b3 : slA (some A) l (m.getD (c : Int)) z = some (if (m.getD (c : Int)).toNat = l.toNat then A else A.add (l.toNat * z)) := by
            unfold slA slA.sliced_addr
            by_cases q : (m.getD (c : Int)).toNat = l.toNat <;> simp [q]
          rw [b3] at hV
          refine LookOk.pure hX ⟨a, _, ha, by rw [b1, b2], ?_, by omega⟩ hV
          by_cases q : (m.getD (c : Int)).toNat = l.toNat
          · left; omega
          · right
            rw [if_neg q]
            rcases hA with hA | hA
            · omega
            · rw [hA, add_add]
        · cases hX
    · cases hX
  · rename_i b hu hq
    rw [hq] at hx
    split at hX
    · rename_i l u hn
      have M := num3_ok S hn
      have Mm := M.pm
      split at hX
      · rename_i hc
        have hm : mx = none := by
          cases mx with
          | none => rfl
          | some q => cases Mm
        subst hm
        refine LookOk.pure hX rfl (V_sliceStr hu hx rfl rfl ⟨M.pl, ?_⟩ hc.1 hc.2.1 hc.2.2)
        rcases M.ph with ⟨p, _, q⟩ | p
        · exact .inl ⟨p, q⟩
        · exact .inr p
      · cases hX
    · cases hX
  · rename_i E t xs hu hq
    rw [hq] at hx
    obtain ⟨A, c, hv, hro⟩ := hx
    split at hX
    · rename_i z l u m hz hn
      have M := num3_ok S hn
      cases hb : Nat.beq t.sz z with
      | false => rw [hb] at hX; cases hX
      | true =>
        rw [hb] at hX
        simp only [cond_true] at hX
        split at hX
        · rename_i hc
          obtain ⟨h0, h1, h2, h3⟩ := hc
          obtain ⟨m1, m2⟩ := mOk_le (cp := c) h3 h2 (by have := hro.1; omega)
          have hV := slice_any (d := d) (ty := ty) (pos := pos) (aft := aft) (g := g) M hu hz hv h0 h1 m1 m2
          have hr := Ro_sub (kd := kdOf t) (sz := z) (m := m.getD (c : Int)) (by rw [kdOf_sz]; exact Nat.eq_of_beq_eq_true hb) h0 h1 h2 m1 I (fun _ => none) hro
          refine LookOk.pure hX ⟨_, _, ?_, hr⟩ hV
          congr 1
          unfold SL.sub
          rw [List.length_take, List.length_drop]; omega
        · cases hX
    · cases hX
  · rename_i E k hu hq
    rw [hq] at hx
    split at hX
    · rename_i t E' xs z hk hz
      split at hX
      · rename_i l u m hn
        cases hb : Nat.beq t.sz z with
        | false => rw [hb] at hX; cases hX
        | true =>
          rw [hb] at hX
          simp only [cond_true] at hX
          split at hX
          · rename_i hc
            obtain ⟨v, h1, h2⟩ := slice_sl S F (.inl hk) hu hz (Nat.eq_of_beq_eq_true hb) hx (num3_ok S hn) hc
            exact LookOk.pure hX h1 h2
          · cases hX
      · cases hX
    · rename_i t E' xs z hk hz
      split at hX
      · rename_i l u m hn
        cases hb : Nat.beq t.sz z with
        | false => rw [hb] at hX; cases hX
        | true =>
          rw [hb] at hX
          simp only [cond_true] at hX
          split at hX
          · rename_i hc
            obtain ⟨v, h1, h2⟩ := slice_sl S F (.inr hk) hu hz (Nat.eq_of_beq_eq_true hb) hx (num3_ok S hn) hc
            exact LookOk.pure hX h1 h2
          · cases hX
      · cases hX
    · cases hX
  · rename_i E k o n hu hq
    rw [hq] at hx
    split at hX
    · rename_i t E' xs z hk hz
      split at hX
      · rename_i l u m hn
        cases hb : Nat.beq t.sz z with
        | false => rw [hb] at hX; cases hX
        | true =>
          rw [hb] at hX
          simp only [cond_true] at hX
          split at hX
          · rename_i hc
            obtain ⟨v, h1, h2⟩ := slice_win (.inl hk) hu hz (Nat.eq_of_beq_eq_true hb) hx (num3_ok S hn) hc
            exact LookOk.pure hX h1 h2
          · cases hX
      · cases hX
    · rename_i t E' xs z hk hz
      split at hX
      · rename_i l u m hn
        cases hb : Nat.beq t.sz z with
        | false => rw [hb] at hX; cases hX
        | true =>
          rw [hb] at hX
          simp only [cond_true] at hX
          split at hX
          · rename_i hc
            obtain ⟨v, h1, h2⟩ := slice_win (.inr hk) hu hz (Nat.eq_of_beq_eq_true hb) hx (num3_ok S hn) hc
            exact LookOk.pure hX h1 h2
          · cases hX
      · cases hX
    · cases hX
  · rename_i E hu hq
    rw [hq] at hx
    have hx : ev e x = .slice none 0 0 := hx
    split at hX
    · rename_i z l u m hz hn
      split at hX
      · rename_i hc
        obtain ⟨rfl, rfl, hm⟩ := hc
        have hV := slice_any (d := d) (ty := ty) (pos := pos) (aft := aft) (g := g) (len := 0) (cp := 0) (num3_ok S hn) hu hz hx (by omega) (by omega) (by simp [hm]) (by simp [hm])
        refine LookOk.pure hX ?_ hV
        show Value.slice _ _ _ = _
        simp [hm, slA, slA.sliced_addr]
      · cases hX
    · cases hX
  · cases hX
end
end Go.Proofs.YtkdakjjockfmdaaGreatDoor.XC

/- A machine that reckons: copy, clear, conversions that make memory. -/
import Derived.Test.YtkdakjjockfmdaaGreatDoorXL
namespace Go.Proofs.YtkdakjjockfmdaaGreatDoor.XC
open Go Go.RowKit Go.Proofs.YtkdakjjockfmdaaGreatDoor.SL
set_option linter.unusedVariables false
set_option linter.unusedSimpArgs false
section
variable {P : Program} {n : Nat} {ρ : Type} {σ : List Ad} {L : Tr At} {s : St} {I h : Hp} {As : List Asrt} {e : Env} {w : World} {K : SV → St → Option ρ} {r : ρ}
variable {d : Option Nat} {T T' E ty tx : TypeId} {x y c : Operand} {pos : String} {aft : Array Edge} {g : Option (Nat × Bool)} {rds : List Nat} {lo hi mx : Option Operand}

theorem RL_rf {t : Ty} : ∀ {xs : List t.den} {cs : List Value}, RL (kdOf t) I cs xs → VRs σ L I (xs.flatMap t.rf) cs
  | [], cs, h => h
  | x :: xs, cs, ⟨c1, c2, e1, h1, h2⟩ => by
    rw [e1, List.flatMap_cons]
    exact (rf_ok t h1).app (RL_rf h2)
/-- copy into a block's cells. -/
theorem at_copy_bw {k o m cp z : Nat} {t : Ty} {ys : List t.den} {T0 : TypeId} {cs : List SV} {a : Ad} {A : Addr} (S : SR σ s I h As e) (hd : okDst d n = true) (hu : P.underlying T = some (.slice E)) (hz : szOf P E = some z) (ht : t.sz = z)
    (hk : s.L.get k = some (.blk T0 cs)) (ha : σ[k]? = some a) (hx : ev e x = .slice (some A) m cp) (hA : cp = 0 ∨ A = (⟨a.b, 0, none⟩ : Addr).add o) (hm : m ≤ cp) (hle : o + m * z ≤ cs.length) (hd' : dat s t (sev s y) = some ys) :
    EffAt P n s ⟨d, .call { callee := .builtin .copy, args := #[x, y], argTypes := #[T, tx] }, ty, pos, aft, g⟩ (.int .i64 (minI (ys.length : Int) (m : Int))) (s.upd k (.blk T0 (setL cs o ((ys.take m).flatMap t.rf)))) σ I h As e := by
  obtain ⟨Bs, hp, hc⟩ := dat_cpy (P := P) (y := y) S hd'
  obtain ⟨A1, hA1, a', vs, ha', rfl, hvs⟩ := S.at_ k _ hk
  rw [ha] at ha'; cases ha'
  have hkn : k < As.length := by rw [S.al]; exact S.lim k _ hk
  intro ds a0 w0 hr hF
  obtain ⟨hlen, hcells⟩ := hc I h w0 (PersL.add S.sep hp) hF.sees
  obtain ⟨us, hru, hrun⟩ := hcells (min ys.length m) (Nat.min_le_left _ _)
  have ety : ys.take (min ys.length m) = ys.take m := by
    by_cases q : ys.length ≤ m
    · rw [Nat.min_eq_left q, List.take_of_length_le (Nat.le_refl _), List.take_of_length_le q]
    · rw [Nat.min_eq_right (by omega)]
  have htl : (ys.take m).length = min ys.length m := by rw [List.length_take]; omega
  rw [ety] at hru
  have hul := hru.len
  rw [htl, kdOf_sz, ht] at hul
  have hbit := RL_rf (σ := σ) (L := s.L) hru
  unfold szOf at hz
  cases hq : P.info? E with
  | none => simp [hq] at hz
  | some q =>
    have hq' : q.size = z := by simpa [hq] using hz
    have hfc' : (Builtin.firstCells q.size (Nat.min ys.length m) (ev e y)).run P w0 = .ok us.toArray w0 := by rw [hq', ← ht, ← kdOf_sz]; exact hrun
    have hexec : ∀ {v' : Value} {w' : World}, (Builtin.copy_ #[T, tx] ty #[.slice (some A) m cp, ev e y]).run P w0 = .ok v' w' → (execOp (ev e) ⟨d, .call { callee := .builtin .copy, args := #[x, y], argTypes := #[T, tx] }, ty, pos, aft, g⟩).run P w0 = .ok (.value v') w' := fun {v' w'} hh => by
      simp [execOp, resolve, invoke, builtin, hx, hh]
    obtain ⟨h1, l, p, ff⟩ := sepL_at hA1 S.sep
    have hh : h a.b = some (.cells vs.toArray T0 (0, 0)) := l _ _ p
    have hmul : min ys.length m * z ≤ m * z := Nat.mul_le_mul_right _ (Nat.min_le_right _ _)
    have hvl := hvs.len
    have hL := Lm_upd (s := s) (k := k) (a1 := .blk T0 (setL cs o ((ys.take m).flatMap t.rf))) hk (blk_len (.inl rfl)) σ.length
    have hval : Value.int .i64 (minI (ys.length : Int) (m : Int)) = goInt ((Nat.min ys.length m : Nat) : Int) := by
      unfold goInt
      congr 1
      unfold minI
      show _ = ((min ys.length m : Nat) : Int)
      split <;> omega
    have hst := run_storeCells_fr (P := P) a.b o T0 (0, 0) us 0 vs.toArray w0 (hF.own _ _ hh) Fz.zero (by simp; omega) hru.one
    simp only [Nat.add_zero] at hst
    by_cases hA0 : A = (⟨a.b, 0, none⟩ : Addr).add o
    · have hrunc := run_copyN (P := P) (T := T) (tx := tx) (ty := ty) (dCap := cp) (Ad := some A) (w' := w0.setRow a.b (setAt vs o us).toArray) hu hq hlen hfc' (fun a2 ha2 => by
        cases ha2
        rw [hA0, Addr.add_lit, Nat.zero_add]
        exact hst) (fun hno => by cases hno)
      have hsep := upd_block (A' := Blk a.b T0 (setAt vs o us)) (ob' := .cells (setAt vs o us).toArray T0 (0, 0)) ff p (if_pos rfl)
      have hg := Goes.setRow (cur' := (setAt vs o us).toArray) hF hh
      obtain ⟨k1, k2⟩ := S.turn (Le.refl I) hk hsep (a1 := .blk T0 (setL cs o ((ys.take m).flatMap t.rf))) (blk_len (.inl rfl)) fun L' => .inr fun hL' => by
        subst hL'
        exact ⟨a, _, ha, rfl, (hvs.setL o hbit).mono0 (Le.refl I) hL⟩
      unfold Oper.wp
      rw [hr.eval, hexec hrunc]
      exact ⟨_, σ, _, I, _, hr.put hd _, hval.symm, k1, k2, hg⟩
    · have hc0 : cp = 0 := by rcases hA with hA | hA; exact hA; exact absurd hA hA0
      have hm0 : m = 0 := by omega
      subst hm0
      have hus : us = [] := List.length_eq_zero_iff.1 (by rw [hul]; simp)
      subst hus
      have hrunc := run_copyN (P := P) (T := T) (tx := tx) (ty := ty) (dCap := cp) (Ad := some A) (w' := w0) hu hq hlen hfc' (fun a2 ha2 => storeCells_nil a2 w0) (fun hno => rfl)
      have e0 : As.set k (Blk a.b T0 vs) = As := set_same hA1
      obtain ⟨k1, k2⟩ := S.turn (I' := I) (h' := h) (A := Blk a.b T0 vs) (Le.refl I) hk (by rw [e0]; exact S.sep) (a1 := .blk T0 (setL cs o ((ys.take 0).flatMap t.rf))) (blk_len (.inl rfl)) fun L' => .inr fun hL' => by
        subst hL'
        refine ⟨a, _, ha, rfl, ?_⟩
        have : setL cs o ((ys.take 0).flatMap t.rf) = cs := by simp [XC.setL]
        rw [this] at hL ⊢
        exact hvs.mono0 (Le.refl I) hL
      unfold Oper.wp
      rw [hr.eval, hexec hrunc]
      exact ⟨_, σ, _, I, _, hr.put hd _, hval.symm, k1, k2, Goes.refl hF⟩
theorem eff_copy {as : Array Operand} {ts : Array TypeId} (S : SR σ s I h As e) (hd : okDst d n = true) (hX : opX P s (.call { callee := .builtin .copy, args := as, argTypes := ts }) K = some r) : EffOk P n s ⟨d, .call { callee := .builtin .copy, args := as, argTypes := ts }, ty, pos, aft, g⟩ K r σ I h As e := by
  obtain ⟨as⟩ := as
  obtain ⟨ts⟩ := ts
  simp only [opX, builtX] at hX
  split at hX <;> try contradiction
  rename_i x y T tx _
  have hx := sev_ok S x
  unfold copyX at hX
  split at hX
  · rename_i E hu
    split at hX
    · rename_i t z hty hz
      cases hb : Nat.beq t.sz z with
      | false => rw [hb] at hX; cases hX
      | true =>
        rw [hb] at hX
        have hb := Nat.eq_of_beq_eq_true hb
        simp only [cond_true] at hX
        split at hX
        · rename_i k ys hq hdat
          rw [hq] at hx
          split at hX
          · rename_i t' E' xs hk
            split at hX
            · rename_i he; subst he
              obtain ⟨Bs, hp, hc⟩ := dat_cpy (P := P) (y := y) S hdat
              obtain ⟨A, hA, a, ha, rfl⟩ := S.at_ k _ hk
              obtain ⟨_, _, hx⟩ := hx
              obtain ⟨a', ha', hu'⟩ := hx t' E' xs (.inl hk)
              rw [ha] at ha'; cases ha'
              have hkn : k < As.length := by rw [S.al]; exact S.lim k _ hk
              have hol : (over xs 0 (ys.take xs.length)).length = xs.length := over_len (by rw [List.length_take]; omega)
              refine EffAt.ok hX (at_of (As1 := As ++ Bs) (fun e' ds' As' => e' = put e d (.int .i64 (minI (ys.length : Int) (xs.length : Int))) ∧ As' = (As ++ Bs).set k (Buf (kdOf t') E' a.A a.c (over xs 0 (ys.take xs.length)))) (PersL.add S.sep hp)
                (fun ds => OA_copyF _ rfl hd hu hz (by rw [kdOf_sz]; exact hb) (by rw [List.getElem?_append_left hkn]; exact hA) hu' rfl hc ⟨rfl, rfl, rfl⟩) ?_)
              rintro ds e' As2 I' h' hs hI ⟨rfl, rfl⟩
              rw [List.set_append_left _ _ hkn] at hs
              obtain ⟨h1, h2⟩ := S.turn hI hk (sepL_pre hs) (a1 := .buf t' E' (over xs 0 (ys.take xs.length))) (buf_len hol.symm) fun L' => .inl ⟨a, ha, rfl⟩
              exact ⟨_, _, _, rfl, rfl, h1, h2⟩
            · cases hX
          · cases hX
        · rename_i k lo m ys hq hdat
          rw [hq] at hx
          split at hX
          · rename_i t' E' xs hk
            split at hX
            · rename_i he; subst he
              obtain ⟨Bs, hp, hc⟩ := dat_cpy (P := P) (y := y) S hdat
              obtain ⟨A, hA, a, ha, rfl⟩ := S.at_ k _ hk
              obtain ⟨_, _, hx⟩ := hx
              obtain ⟨a', V, c, ha', hw, hu', hl⟩ := hx t' E' xs (.inl hk)
              rw [ha] at ha'; cases ha'
              have hkn : k < As.length := by rw [S.al]; exact S.lim k _ hk
              have hlo := hw.lo
              have hno := hw.no
              have hol : (over xs lo.toNat (ys.take m.toNat)).length = xs.length := over_len (by rw [List.length_take]; omega)
              refine EffAt.ok hX (at_of (As1 := As ++ Bs) (fun e' ds' As' => e' = put e d (.int .i64 (minI (ys.length : Int) m)) ∧ As' = (As ++ Bs).set k (Buf (kdOf t') E' a.A a.c (over xs lo.toNat (ys.take m.toNat)))) (PersL.add S.sep hp)
                (fun ds => OA_copyV _ rfl hw hd hu (by rw [hb]; exact hz) (kdOf_sz t') (by rw [List.getElem?_append_left hkn]; exact hA) hu' hl rfl hc ⟨rfl, rfl, rfl⟩) ?_)
              rintro ds e' As2 I' h' hs hI ⟨rfl, rfl⟩
              rw [List.set_append_left _ _ hkn] at hs
              obtain ⟨h1, h2⟩ := S.turn hI hk (sepL_pre hs) (a1 := .buf t' E' (over xs lo.toNat (ys.take m.toNat))) (buf_len hol.symm) fun L' => .inl ⟨a, ha, rfl⟩
              exact ⟨_, _, _, rfl, rfl, h1, h2⟩
            · cases hX
          · cases hX
        · rename_i k o t' m cp ys hq hdat
          rw [hq] at hx
          obtain ⟨a, A, ha, hx, hA, hle⟩ := hx
          split at hX
          · rename_i T0 cs hk
            cases hbb : decide (t' = t) && Nat.ble (o + m * z) cs.length with
            | false => rw [hbb] at hX; cases hX
            | true =>
              rw [hbb] at hX
              simp only [Bool.and_eq_true] at hbb
              exact (at_copy_bw S hd hu hz hb hk ha hx hA hle (Nat.le_of_ble_eq_true hbb.2) hdat).ok hX
          · cases hX
        · rename_i ys hq hdat
          rw [hq] at hx
          have hx : ev e x = .slice none 0 0 := hx
          obtain ⟨Bs, hp, hc⟩ := dat_cpy (P := P) (y := y) S hdat
          refine EffAt.ok hX fun ds a0 w0 hr hF => ?_
          obtain ⟨hlen, hcells⟩ := hc I h w0 (PersL.add S.sep hp) hF.sees
          obtain ⟨us, hru, hrun⟩ := hcells 0 (Nat.zero_le _)
          unfold szOf at hz
          cases hq : P.info? E with
          | none => simp [hq] at hz
          | some q =>
            have hq' : q.size = z := by simpa [hq] using hz
            have hfc' : (Builtin.firstCells q.size (Nat.min ys.length 0) (ev e y)).run P w0 = .ok us.toArray w0 := by
              rw [hq', ← hb, ← kdOf_sz]
              have : Nat.min ys.length 0 = 0 := Nat.min_zero _
              rw [this]; exact hrun
            have hrunc := run_copyN (P := P) (T := T) (tx := tx) (ty := ty) (dCap := 0) (Ad := none) (w' := w0) hu hq hlen hfc' (fun a2 ha2 => by cases ha2) (fun _ => rfl)
            have hexec : (execOp (ev e) ⟨d, .call { callee := .builtin .copy, args := #[x, y], argTypes := #[T, tx] }, ty, pos, aft, g⟩).run P w0 = .ok (.value (goInt ((Nat.min ys.length 0 : Nat) : Int))) w0 := by
              simp [execOp, resolve, invoke, builtin, hx, hrunc]
            unfold Oper.wp
            rw [hr.eval, hexec]
            refine ⟨_, σ, As, I, h, hr.put hd _, ?_, S, Stp.refl, Goes.refl hF⟩
            show goInt ((Nat.min ys.length 0 : Nat) : Int) = .int .i64 0
            have : Nat.min ys.length 0 = 0 := Nat.min_zero _
            rw [this]; rfl
        · rename_i nn ys hq hdat
          rw [hq] at hx
          obtain ⟨A0, hx, _⟩ := hx
          obtain ⟨Bs, hp, hc⟩ := dat_cpy (P := P) (y := y) S hdat
          refine EffAt.ok hX fun ds a0 w0 hr hF => ?_
          obtain ⟨hlen, hcells⟩ := hc I h w0 (PersL.add S.sep hp) hF.sees
          obtain ⟨us, hru, hrun⟩ := hcells 0 (Nat.zero_le _)
          unfold szOf at hz
          cases hq : P.info? E with
          | none => simp [hq] at hz
          | some q =>
            have hq' : q.size = z := by simpa [hq] using hz
            have hfc' : (Builtin.firstCells q.size (Nat.min ys.length 0) (ev e y)).run P w0 = .ok us.toArray w0 := by
              rw [hq', ← hb, ← kdOf_sz]
              have : Nat.min ys.length 0 = 0 := Nat.min_zero _
              rw [this]; exact hrun
            have hus : us = [] := List.length_eq_zero_iff.1 (by rw [hru.len]; simp)
            subst hus
            have hrunc := run_copyN (P := P) (T := T) (tx := tx) (ty := ty) (dCap := 0) (Ad := A0) (w' := w0) hu hq hlen hfc' (fun a2 ha2 => storeCells_nil a2 w0) (fun _ => rfl)
            have hexec : (execOp (ev e) ⟨d, .call { callee := .builtin .copy, args := #[x, y], argTypes := #[T, tx] }, ty, pos, aft, g⟩).run P w0 = .ok (.value (goInt ((Nat.min ys.length 0 : Nat) : Int))) w0 := by
              simp [execOp, resolve, invoke, builtin, hx, hrunc]
            unfold Oper.wp
            rw [hr.eval, hexec]
            refine ⟨_, σ, As, I, h, hr.put hd _, ?_, S, Stp.refl, Goes.refl hF⟩
            show goInt ((Nat.min ys.length 0 : Nat) : Int) = .int .i64 0
            have : Nat.min ys.length 0 = 0 := Nat.min_zero _
            rw [this]; rfl
        · cases hX
    · cases hX
  · cases hX
theorem eff_clear {as : Array Operand} {ts : Array TypeId} (S : SR σ s I h As e) (F : Fits I h w) (hd : okDst d n = true) (hX : opX P s (.call { callee := .builtin .clear, args := as, argTypes := ts }) K = some r) : EffOk P n s ⟨d, .call { callee := .builtin .clear, args := as, argTypes := ts }, ty, pos, aft, g⟩ K r σ I h As e := by
  obtain ⟨as⟩ := as
  obtain ⟨ts⟩ := ts
  simp only [opX, builtX] at hX
  split at hX <;> try contradiction
  rename_i x T _
  have hx := sev_ok S x
  unfold clearX at hX
  split at hX
  · rename_i E k hu hq
    rw [hq] at hx
    split at hX
    · rename_i t E' xs hk
      split at hX
      · rename_i t' b hel
        cases hbb : decide (t' = t) with
        | false => rw [hbb] at hX; cases hX
        | true =>
          rw [hbb] at hX
          have he : t' = t := of_decide_eq_true hbb
          subst he
          obtain ⟨zv, hi, hz, hz1, hzR⟩ := elem_ok hel
          obtain ⟨A, hA, a, ha, rfl⟩ := S.at_ k _ hk
          obtain ⟨_, _, hx⟩ := hx
          obtain ⟨a', ha', hu'⟩ := hx t' E' xs (.inl hk)
          rw [ha] at ha'; cases ha'
          obtain ⟨a'', ha'', cs, _, hle, _⟩ := sl_cells S F (.inl hk)
          rw [ha] at ha''; cases ha''
          have hw := Win.whole (A := a.A) (sz := t'.sz) (xs := xs) hle
          have e1 : over xs (0 : Int).toNat (List.replicate (xs.length : Int).toNat (zeroD P E t')) = List.replicate xs.length (zeroD P E t') := by
            simp [over]
          refine EffAt.ok hX (at_of (fun e' ds' As' => e' = put e d (.tuple #[]) ∧ As' = As.set k (Buf (kdOf t') E' a.A a.c (List.replicate xs.length (zeroD P E t')))) S.sep
            (fun ds => OA_clearW (z0 := zeroD P E t') (List.replicate xs.length (zeroD P E t')) e1.symm hw hd hu hz (kdOf_sz t') hA (by simpa using hu') hzR (by omega) ⟨rfl, rfl, rfl⟩) ?_)
          rintro ds e' As2 I' h' hs hI ⟨rfl, rfl⟩
          obtain ⟨h1, h2⟩ := S.turn hI hk hs (a1 := .buf t' E' (List.replicate xs.length (zeroD P E t'))) (buf_len (by simp)) fun L' => .inl ⟨a, ha, rfl⟩
          exact ⟨_, _, _, rfl, ⟨#[], rfl, rfl⟩, h1, h2⟩
      · cases hX
    · cases hX
  · cases hX
theorem eff_conv (S : SR σ s I h As e) (F : Fits I h w) (hd : okDst d n = true) (hl : looks P (.convert T T' x) = false) (hX : opX P s (.convert T T' x) K = some r) : EffOk P n s ⟨d, .convert T T' x, ty, pos, aft, g⟩ K r σ I h As e := by
  have hx := sev_ok S x
  simp only [opX] at hX
  unfold convX at hX
  split at hX
  · rename_i k' k k2 m hu hu' hq
    simp [looks, hu'] at hl
  · rename_i E b hu hu' hq
    rw [hq] at hx
    split at hX
    · rename_i hE
      split at hX
      · rename_i hbig
        obtain ⟨b1, b2⟩ := big_nat hbig
        refine EffAt.ok hX (at_of (fun e' ds' As' => ∃ b' c', e' = put e d (.slice (some ⟨b', 0, none⟩) (bytesOf b).length c') ∧ As' = As ++ [Buf (Kd.int .u8) E (some ⟨b', 0, none⟩) c' (bytesOf b)]) S.sep
          (fun ds => OA_bytesS (bytesOf b) rfl hd hu hu' hE hx b1 fun b' c' => ⟨rfl, b', c', rfl, rfl⟩) ?_)
        rintro ds e' As2 I' h' hs hI ⟨b', c', rfl, rfl⟩
        obtain ⟨h1, h2, h3⟩ := fresh_sl (E := E) (t := .int .u8) (xs := bytesOf b) S hI hs
        exact ⟨_, _, _, rfl, h1, h2, h3⟩
      · cases hX
    · cases hX
  · rename_i E v hu hu'
    simp [looks, hu'] at hl
  · rename_i E E2 k hu hu' hq
    rw [hq] at hx
    split at hX
    · rename_i E' x0 xs hE hk
      cases hbb : Nat.beq T T' && Nat.beq E' E with
      | false => rw [hbb] at hX; cases hX
      | true =>
        rw [hbb] at hX
        simp only [Bool.and_eq_true] at hbb
        have e1 := Nat.eq_of_beq_eq_true hbb.1
        have e2 := Nat.eq_of_beq_eq_true hbb.2
        subst e1; subst e2
        obtain ⟨A, hA, a, ha, rfl⟩ := S.at_ k _ hk
        have hx0 := hx
        obtain ⟨_, _, hx⟩ := hx
        obtain ⟨a', ha', hu2⟩ := hx _ E' _ (.inl hk)
        rw [ha] at ha'; cases ha'
        obtain ⟨a'', ha'', cs, _, hle, _⟩ := sl_cells S F (.inl hk)
        rw [ha] at ha''; cases ha''
        refine EffAt.ok hX (at_of (fun e' ds' As' => e' = put e d (.slice a.A (x0 :: xs).length a.c) ∧ As' = As) S.sep
          (fun ds => OA_bytesConst (xs := x0 :: xs) hd hu hE hA (by simp at hle; omega) hu2 ⟨rfl, rfl, rfl⟩) ?_)
        rintro ds e' As2 I' h' hs hI ⟨rfl, rfl⟩
        have S' : SR σ s I' h' As2 e := by
          have e0 : σ ++ [] = σ := by simp
          have := S.step (τ := []) (s' := s) (by rw [e0]; exact S.sl) S.al hs hI (Lm.refl _ _) rfl rfl fun j b q => ⟨S.lim j b q, .inl ⟨q, rfl⟩⟩
          rw [e0] at this; exact this
        refine ⟨_, σ, As2, rfl, ?_, S', Stp.refl⟩
        have := hx0.mono0 (I' := I') hI (Lm.refl _ s.L)
        rw [hu2] at this
        exact this
    · cases hX
  · cases hX
end
end Go.Proofs.YtkdakjjockfmdaaGreatDoor.XC

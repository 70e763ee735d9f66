/- A machine that reckons: builds, cuts, conversions. -/
import Derived.Test.YtkdakjjockfmdaaGreatDoorXE
import Derived.Laws.Tables
namespace Go.Proofs.YtkdakjjockfmdaaGreatDoor.XC
open Go Go.RowKit Go.Proofs.YtkdakjjockfmdaaGreatDoor.SL
set_option linter.unusedVariables false
set_option linter.unusedSimpArgs false
theorem setAt_nil (cs : List Value) (m : Nat) : setAt cs m [] = cs := by unfold setAt; simp
theorem foldl_set (off : Nat) : ∀ (l : List Value) (k : Nat) (arr : Array Value), off + k + l.length ≤ arr.size →
    ((l.zipIdx k).foldl (fun cs (p : Value × Nat) => cs.setIfInBounds (off + p.2) p.1) arr).toList = setAt arr.toList (off + k) l
  | [], k, arr, _ => by simp [setAt_nil]
  | v :: l, k, arr, h => by
    have h' : off + k < arr.size := by simp at h; omega
    have ih := foldl_set off l (k + 1) (arr.setIfInBounds (off + k) v) (by simp at h ⊢; omega)
    simp only [List.zipIdx_cons, List.foldl_cons]
    rw [ih]
    have hlt : off + k < arr.toList.length := by simpa using h'
    unfold setAt
    simp only [Array.toList_setIfInBounds]
    have t1 : (arr.toList.set (off + k) v).take (off + (k + 1)) = arr.toList.take (off + k) ++ [v] := by
      rw [show off + (k + 1) = (off + k) + 1 from by omega, List.take_add_one, List.take_set_of_le (Nat.le_refl _), List.getElem?_set_self hlt]
      rfl
    have t2 : (arr.toList.set (off + k) v).drop (off + (k + 1) + l.length) = arr.toList.drop (off + k + (v :: l).length) := by
      rw [List.drop_set_of_lt (by omega)]
      congr 1; simp; omega
    rw [t1, t2]
    simp
section
variable {P : Program} {ρ : Type} {σ : List Ad} {L : Tr At} {s : St} {I h : Hp} {As : List Asrt} {e : Env} {w : World} {K : SV → St → Option ρ} {r : ρ}
variable {d : Option Nat} {T T' E ty : TypeId} {x y c : Operand} {pos : String} {aft : Array Edge} {g : Option (Nat × Bool)} {rds : List Nat}

theorem fill_ok {place : Nat → Option (Nat × Nat)} {f : Operand → SV} {f' : Operand → Value} (hf : ∀ x, VR σ L I (f x) (f' x)) : ∀ {ps : List (Nat × Operand)} {cs cs' : List SV} {vs : Array Value},
    fillX place cs (ps.map fun p => (p.1, f p.2)) = some cs' → VRs σ L I cs vs.toList → ∃ vs' : Array Value, Instr.fill place vs (ps.map fun p => (p.1, f' p.2)) = some vs' ∧ VRs σ L I cs' vs'.toList
  | [], cs, cs', vs, h, hv => by simp only [List.map_nil, fillX, Option.some.injEq] at h; subst h; exact ⟨vs, rfl, hv⟩
  | (i, x) :: ps, cs, cs', vs, h, hv => by
    simp only [List.map_cons, fillX] at h
    split at h
    · rename_i off z l hp hc
      cases hb : Nat.beq l.length z && Nat.ble (off + l.length) cs.length with
      | false => rw [hb] at h; cases h
      | true =>
        rw [hb] at h
        simp only [cond_true] at h
        simp only [Bool.and_eq_true] at hb
        have hz := Nat.eq_of_beq_eq_true hb.1
        have hle := Nat.le_of_ble_eq_true hb.2
        have hl := (hf x).cells hc
        have hsz : (f' x).cells.size = z := by rw [← Array.length_toList, hl.len]; exact hz
        have hcs : off + (f' x).cells.size ≤ vs.size := by rw [hsz, ← hz, ← Array.length_toList, hv.len]; exact hle
        have hfold := foldl_set off (f' x).cells.toList 0 vs (by simpa using hcs)
        have e1 : (f' x).cells.zipIdx.foldl (fun cs (c, j) => cs.setIfInBounds (off + j) c) vs = ((f' x).cells.toList.zipIdx 0).foldl (fun cs (p : Value × Nat) => cs.setIfInBounds (off + p.2) p.1) vs := by
          rw [← Array.foldl_toList, Array.toList_zipIdx]
        have hv2 : VRs σ L I (setL cs off l) ((f' x).cells.zipIdx.foldl (fun cs (c, j) => cs.setIfInBounds (off + j) c) vs).toList := by
          rw [e1, hfold]
          exact hv.setL off hl
        obtain ⟨vs', h1, h2⟩ := fill_ok hf h hv2
        refine ⟨vs', ?_, h2⟩
        simp only [List.map_cons, Instr.fill, hp]
        have : ¬ ((f' x).cells.size ≠ z || off + (f' x).cells.size > vs.size) = true := by simp [hsz]; omega
        rw [if_neg this]
        exact h1
    · cases h
theorem buildX_ok (S : SR σ s I h As e) {ps : List (Nat × Operand)} {cs : List SV} (hX : buildX P T (ps.map fun p => (p.1, sev s p.2)) = some cs) : ∃ vs : Array Value, P.built T (ps.map fun p => (p.1, ev e p.2)) = some vs ∧ VRs σ s.L I cs vs.toList := by
  unfold buildX at hX
  unfold Program.built
  split at hX
  · rename_i it n E hi hu
    rw [hi, hu]
    split at hX
    · rename_i z ie hz hie
      split at hX
      · rename_i zs hzs
        have hv := (svOf_ok (σ := σ) (L := s.L) (I := I) z).cells hzs
        obtain ⟨vs, h1, h2⟩ := fill_ok (sev_ok S) hX hv
        exact ⟨vs, by simp only [hz, hie]; exact h1, h2⟩
      · cases hX
    · cases hX
  · rename_i it fs hi hu
    rw [hi, hu]
    split at hX
    · rename_i z pl hz hpl
      split at hX
      · rename_i zs hzs
        have hv := (svOf_ok (σ := σ) (L := s.L) (I := I) z).cells hzs
        obtain ⟨vs, h1, h2⟩ := fill_ok (sev_ok S) hX hv
        exact ⟨vs, by simp only [hz, hpl]; exact h1, h2⟩
      · cases hX
    · cases hX
  · cases hX
theorem look_build {ps : Array (Nat × Operand)} (S : SR σ s I h As e) (hX : opX P s (.build T ps) K = some r) : LookOk P s ⟨d, .build T ps, ty, pos, aft, g⟩ K r σ I w e rds := by
  simp only [opX] at hX
  split at hX
  · rename_i cs hb
    obtain ⟨vs, h1, h2⟩ := buildX_ok S hb
    refine LookOk.pure hX (u := .agg vs) ⟨vs, rfl, h2⟩ fun w => ?_
    have := run_build (P := P) w T (ps.map fun (i, x) => (i, ev e x)) vs (by simpa using h1)
    show ((Instr.build T (ps.map fun (i, x) => (i, ev e x))) >>= fun v => (Pure.pure (Next.value v) : Sem Next)).run P w = _
    rw [Sem.run_bind, this]; rfl
  · cases hX

theorem look_len {ts : Array TypeId} {as : Array Operand} (S : SR σ s I h As e) (hX : opX P s (.call { callee := .builtin .len, args := as, argTypes := ts }) K = some r) : LookOk P s ⟨d, .call { callee := .builtin .len, args := as, argTypes := ts }, ty, pos, aft, g⟩ K r σ I w e rds := by
  obtain ⟨as⟩ := as
  obtain ⟨ts⟩ := ts
  simp only [opX, builtX] at hX
  split at hX <;> try contradiction
  rename_i x T _
  have hx := sev_ok S x
  unfold lenX at hX
  split at hX
  · rename_i b hu hq
    rw [hq] at hx
    exact LookOk.pure hX rfl (V_lenS hu hx)
  · rename_i E t xs hu hq
    rw [hq] at hx
    obtain ⟨A, c, hx, _⟩ := hx
    exact LookOk.pure hX rfl (V_len hu hx)
  · rename_i E hu hq
    rw [hq] at hx
    exact LookOk.pure hX rfl (V_len hu hx)
  · rename_i E hu hq
    rw [hq] at hx
    obtain ⟨A, hx, _⟩ := hx
    exact LookOk.pure hX rfl (V_len hu hx)
  · rename_i E k hu hq
    rw [hq] at hx
    obtain ⟨_, _, hx⟩ := hx
    split at hX
    · rename_i t E' xs hk
      obtain ⟨a, _, hv⟩ := hx t E' xs (.inl hk)
      exact LookOk.pure hX rfl (V_len hu hv)
    · rename_i t E' xs hk
      obtain ⟨a, _, hv⟩ := hx t E' xs (.inr hk)
      exact LookOk.pure hX rfl (V_len hu hv)
    · cases hX
  · rename_i E k lo n hu hq
    rw [hq] at hx
    obtain ⟨_, _, hx⟩ := hx
    split at hX
    · rename_i t E' xs hk
      obtain ⟨a, V, c, _, hw, hv, _⟩ := hx t E' xs (.inl hk)
      exact LookOk.pure hX rfl (V_lenW hw hu hv)
    · rename_i t E' xs hk
      obtain ⟨a, V, c, _, hw, hv, _⟩ := hx t E' xs (.inr hk)
      exact LookOk.pure hX rfl (V_lenW hw hu hv)
    · cases hX
  · rename_i E k o t n c hu hq
    rw [hq] at hx
    obtain ⟨a, A, _, hx, _⟩ := hx
    exact LookOk.pure hX rfl (V_len hu hx)
  · cases hX
theorem look_min {ts : Array TypeId} {as : Array Operand} (S : SR σ s I h As e) (hX : opX P s (.call { callee := .builtin .min, args := as, argTypes := ts }) K = some r) : LookOk P s ⟨d, .call { callee := .builtin .min, args := as, argTypes := ts }, ty, pos, aft, g⟩ K r σ I w e rds := by
  obtain ⟨as⟩ := as
  simp only [opX, builtX] at hX
  split at hX <;> try contradiction
  rename_i x y _
  have hx := sev_ok S x
  have hy := sev_ok S y
  split at hX
  · rename_i k a k' b hq hp
    rw [hq] at hx
    rw [hp] at hy
    split at hX
    · rename_i hk; subst hk; exact LookOk.pure hX rfl (V_min hx hy)
    · cases hX
  · cases hX
theorem look_max {ts : Array TypeId} {as : Array Operand} (S : SR σ s I h As e) (hX : opX P s (.call { callee := .builtin .max, args := as, argTypes := ts }) K = some r) : LookOk P s ⟨d, .call { callee := .builtin .max, args := as, argTypes := ts }, ty, pos, aft, g⟩ K r σ I w e rds := by
  obtain ⟨as⟩ := as
  simp only [opX, builtX] at hX
  split at hX <;> try contradiction
  rename_i x y _
  have hx := sev_ok S x
  have hy := sev_ok S y
  split at hX
  · rename_i k a k' b hq hp
    rw [hq] at hx
    rw [hp] at hy
    split at hX
    · rename_i hk; subst hk; exact LookOk.pure hX rfl (V_max hx hy)
    · cases hX
  · cases hX
end
end Go.Proofs.YtkdakjjockfmdaaGreatDoor.XC

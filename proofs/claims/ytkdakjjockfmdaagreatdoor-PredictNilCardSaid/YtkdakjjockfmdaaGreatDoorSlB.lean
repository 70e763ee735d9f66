/- Arrays: built, indexed by value, cut whole. -/
import Derived.Test.YtkdakjjockfmdaaGreatDoorSlA
namespace Go.Proofs.YtkdakjjockfmdaaGreatDoor.SL
open Go Go.RowKit
set_option linter.unusedVariables false
set_option linter.unusedSimpArgs false

section
variable {P : Program} {n : Nat} {Q : PostT} {e : Env} {ds : List Deferred} {As As' : List Asrt} {d : Option Nat} {ty T T' E tx : TypeId} {pos : String} {aft : Array Edge} {g : Option (Nat × Bool)} {x y z : Operand} {K : Env → List Deferred → List Asrt → Prop}

theorem V_buildA {parts : List (Nat × Operand)} {N sz : Nat} {zv : Value} {cells : List Value} (hz : (P.info? T).bind (·.zero) = some zv) (hu : P.underlying T = some (.array N E)) (hs : (P.info? E).map (·.size) = some sz)
    (hf : Instr.fill (fun i : Nat => some (i * sz, sz)) zv.cells (parts.map fun p => (p.1, ev e p.2)) = some cells.toArray) : V P e ⟨d, .build T parts.toArray, ty, pos, aft, g⟩ (.agg cells.toArray) := fun w => by
  cases hq : P.info? T with
  | none => simp [hq] at hz
  | some q =>
    cases hq2 : P.info? E with
    | none => simp [hq2] at hs
    | some q2 =>
      have hz' : q.zero = some zv := by simpa [hq] using hz
      have hs' : q2.size = sz := by simpa [hq2] using hs
      have e2 : (Array.map (fun (p : Nat × Operand) => (p.1, ev e p.2)) parts.toArray).toList = parts.map fun p => (p.1, ev e p.2) := by simp
      have hrun : (Instr.build T (Array.map (fun (p : Nat × Operand) => (p.1, ev e p.2)) parts.toArray)).run P w = .ok (.agg cells.toArray) w := by
        simp only [Instr.build, Sem.run_bind, zeroValue, typeInfo, run_program, Result.andThen_ok, hq, Sem.run_pure, hz', run_underlying hu, sizeOf, hq2, hs', e2, hf]
      show ((Sem.bind (Instr.build T (Array.map (fun (p : Nat × Operand) => (p.1, ev e p.2)) parts.toArray)) fun v => Sem.pure (Next.value v)) : Sem Next).run P w = _
      rw [Sem.run_bind', hrun]
      rfl

/-- x[:] of an array. -/
theorem V_sliceArr {b N sz : Nat} (hu : P.underlying T = some (.array N E)) (hs : (P.info? E).map (·.size) = some sz) (hx : ev e x = .pointer (some ⟨b, 0, none⟩)) : V P e ⟨d, .slice T x none none none, ty, pos, aft, g⟩ (.slice (some ⟨b, 0, none⟩) N N) := fun w => by
  cases hq : P.info? E with
  | none => simp [hq] at hs
  | some q => simp [execOp, hx, Instr.sliceAt, run_underlying hu, Instr.sureAddr, Instr.sliceBounds, sizeOf, typeInfo, hq, Addr.add]

/-- An array that nobody writes any more, as a list. -/
theorem Gh.blkRo {α : Type} {kd : Kd α} {b k N : Nat} {cs : List Value} {xs : List α} (hk : As[k]? = some (Blk b T cs)) (hr : ∀ I, RL kd I cs xs) (hN : xs.length = N) : Gh As (As.set k (Ro kd (some ⟨b, 0, none⟩) N xs)) := by
  intro I h w s f
  obtain ⟨h1, l, hg, ff⟩ := sepL_at hk s
  have hg : h1 b = some (.cells cs.toArray T (0, 0)) := hg
  have hh := l b _ hg
  have hI := f.sep b _ hh
  let ob : Obj := .cells cs.toArray T (0, 0)
  have leI : Le I (fun c => if c = b then some ob else I c) := fun c u e => by
    have : c ≠ b := by rintro rfl; rw [hI] at e; cases e
    simp [this, e]
  refine ⟨fun c => if c = b then some ob else I c, fun c => if c = b then none else h c, ⟨⟨fun c u e => ?_, fun c u e => ?_, fun c u e => ?_⟩, leI, rfl, rfl, rfl, Nat.le_refl _, fun c hb e => ?_⟩, ?_⟩
  · by_cases hb : c = b
    · subst hb; simp at e; rw [← e]; exact f.own c _ hh
    · simp [hb] at e; exact f.imm c u e
  · by_cases hb : c = b
    · simp [hb] at e
    · simp [hb] at e; exact f.own c u e
  · by_cases hb : c = b
    · simp [hb] at e
    · simp [hb] at e; simp [hb]; exact f.sep c u e
  · have : c ≠ b := by rintro rfl; rw [hh] at e; cases e
    exact ⟨rfl, by simp [this, e], by simp [this]⟩
  · refine ff _ _ (fun _ => none) _ leI ⟨Nat.le_of_eq hN, cs, hr _, .inr ⟨b, 0, cs.toArray, T, (0, 0), rfl, by simp [ob], fun j v hj => by simpa using hj⟩⟩ (fun _ _ e => by cases e) (fun c u e1 e2 => ?_)
    have : c ≠ b := by rintro rfl; rw [hg] at e2; cases e2
    exact ⟨by simp [this, e1], rfl⟩

/-- An element of an array that is at hand as a value. -/
theorem V_indexV1 {α : Type} [Inhabited α] {kd : Kd α} {N sz : Nat} {k : IntKind} {i : Int} {cs : List Value} {xs : List α} {v : Value} {td : TypeDesc} (hu : P.underlying T = some (.array N E)) (hs : (P.info? E).map (·.size) = some sz) (he : P.underlying E = some td) (ha : aggD td = false) (hk : kd.sz = sz)
    (hx : ev e x = .agg cs.toArray) (hr : RL kd (fun _ => none) cs xs) (hN : xs.length = N) (hy : ev e y = .int k i) (h0 : 0 ≤ i) (h1 : i < (N : Int)) (hv : ∀ c, kd.R (fun _ => none) c (rd xs i) → c[0]? = some v) : V P e ⟨d, .index T x y, ty, pos, aft, g⟩ v := fun w => by
  cases hq : P.info? E with
  | none => simp [hq] at hs
  | some q =>
    have hs' : q.size = sz := by simpa [hq] using hs
    obtain ⟨c, hc, hg⟩ := RL.get hr (rd_get h0 (by rw [hN]; exact h1))
    have h2 : cs[i.toNat * sz]? = some v := by have := hg 0 v (hv c hc); rwa [hk, Nat.add_zero] at this
    have hp : (part E cs.toArray (i.toNat * sz)).run P w = .ok v w := run_partC (by unfold partC; rw [he]; cases td <;> first | (cases ha; done) | (simpa using h2)) w
    simp only [execOp, hx, hy, Instr.index, asIntOf, run_underlying hu, sizeOf, typeInfo, hq, hs', Sem.run_bind, Sem.run_pure, Result.andThen_ok, run_program, h0, h1, and_self, if_true, hp]
theorem V_indexVA {α : Type} [Inhabited α] {kd : Kd α} {N sz : Nat} {k : IntKind} {i : Int} {cs vs : List Value} {xs : List α} {td : TypeDesc} (hu : P.underlying T = some (.array N E)) (hs : (P.info? E).map (·.size) = some sz) (he : P.underlying E = some td) (ha : aggD td = true) (hk : kd.sz = sz)
    (hx : ev e x = .agg cs.toArray) (hr : RL kd (fun _ => none) cs xs) (hN : xs.length = N) (hy : ev e y = .int k i) (h0 : 0 ≤ i) (h1 : i < (N : Int)) (hv : ∀ c, kd.R (fun _ => none) c (rd xs i) → c = vs) : V P e ⟨d, .index T x y, ty, pos, aft, g⟩ (.agg vs.toArray) := fun w => by
  cases hq : P.info? E with
  | none => simp [hq] at hs
  | some q =>
    have hs' : q.size = sz := by simpa [hq] using hs
    have hl : i.toNat < xs.length := by omega
    have h2 := RL.sub i.toNat 1 hr
    have h3 : (xs.drop i.toNat).take 1 = [rd xs i] := by
      have e1 : rd xs i = xs[i.toNat] := by have := rd_get h0 (by rw [hN]; exact h1); rw [List.getElem?_eq_getElem hl] at this; exact (Option.some.inj this).symm
      rw [e1, List.drop_eq_getElem_cons hl]; rfl
    rw [h3, hk, Nat.one_mul] at h2
    obtain ⟨c1, c2, e1, h4, h5⟩ := h2
    have h5 : c2 = [] := h5
    subst h5
    rw [List.append_nil, hv c1 h4] at e1
    have hp : (part E cs.toArray (i.toNat * sz)).run P w = .ok (.agg vs.toArray) w := run_partC (by
      have ex : cs.toArray.extract (i.toNat * sz) (i.toNat * sz + sz) = vs.toArray := by
        apply Array.ext'
        rw [Array.toList_extract]
        simp [List.extract, e1]
      unfold partC; rw [he]; cases td <;> first | (cases ha; done) | (show (P.info? E).map (fun i => Value.agg (cs.toArray.extract _ (_ + i.size))) = _; rw [hq]; simp only [Option.map_some, hs', ex])) w
    simp only [execOp, hx, hy, Instr.index, asIntOf, run_underlying hu, sizeOf, typeInfo, hq, hs', Sem.run_bind, Sem.run_pure, Result.andThen_ok, run_program, h0, h1, and_self, if_true, hp]

/-- A cell of an element of an array that lies in a block. -/
theorem ai_get {α : Type} [Inhabited α] {kd : Kd α} {m0 N sz q : Nat} {cs : List Value} {xs : List α} {i : Int} {v : Value} (hr : RL kd (fun _ => none) ((cs.drop m0).take (N * sz)) xs) (hk : kd.sz = sz) (hN : xs.length = N) (h0 : 0 ≤ i) (h1 : i < (N : Int))
    (hv : ∀ c, kd.R (fun _ => none) c (rd xs i) → c[q]? = some v) : cs[m0 + i.toNat * sz + q]? = some v := by
  obtain ⟨c, hc, hg⟩ := RL.get hr (rd_get h0 (by rw [hN]; exact h1))
  have h2 := hg q v (hv c hc)
  rw [List.getElem?_take] at h2
  split at h2
  · rw [List.getElem?_drop, hk] at h2
    rwa [Nat.add_assoc]
  · cases h2
theorem ai_sub {α : Type} [Inhabited α] {kd : Kd α} {m0 N sz : Nat} {cs vs : List Value} {xs : List α} {i : Int} (hr : RL kd (fun _ => none) ((cs.drop m0).take (N * sz)) xs) (hk : kd.sz = sz) (hN : xs.length = N) (h0 : 0 ≤ i) (h1 : i < (N : Int)) (hl : vs.length = sz)
    (hv : ∀ c, kd.R (fun _ => none) c (rd xs i) → c = vs) : (cs.drop (m0 + i.toNat * sz + 0)).take vs.length = vs := by
  have hlt : i.toNat < xs.length := by omega
  have h2 := RL.sub i.toNat 1 hr
  have h3 : (xs.drop i.toNat).take 1 = [rd xs i] := by
    have e1 : rd xs i = xs[i.toNat] := by have := rd_get h0 (by rw [hN]; exact h1); rw [List.getElem?_eq_getElem hlt] at this; exact (Option.some.inj this).symm
    rw [e1, List.drop_eq_getElem_cons hlt]; rfl
  rw [h3, hk, Nat.one_mul] at h2
  obtain ⟨c1, c2, e1, h4, h5⟩ := h2
  have h5 : c2 = [] := h5
  subst h5
  rw [List.append_nil, hv c1 h4] at e1
  have e2 : N * sz - i.toNat * sz ≥ sz := by
    have : (i.toNat + 1) * sz ≤ N * sz := Nat.mul_le_mul_right _ (by omega)
    rw [Nat.add_mul] at this; omega
  rw [List.drop_take, List.drop_drop, List.take_take, Nat.min_eq_left (by omega)] at e1
  rw [hl, Nat.add_zero]; exact e1
end
end Go.Proofs.YtkdakjjockfmdaaGreatDoor.SL

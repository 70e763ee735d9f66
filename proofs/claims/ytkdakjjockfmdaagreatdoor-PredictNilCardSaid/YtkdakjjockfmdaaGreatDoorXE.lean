/- A machine that reckons: operations that only look, the rest. -/
import Derived.Test.YtkdakjjockfmdaaGreatDoorXD
namespace Go.Proofs.YtkdakjjockfmdaaGreatDoor.XC
open Go Go.RowKit Go.Proofs.YtkdakjjockfmdaaGreatDoor.SL
set_option linter.unusedVariables false
set_option linter.unusedSimpArgs false
section
variable {P : Program} {ρ : Type} {σ : List Ad} {L : Tr At} {s : St} {I h : Hp} {As : List Asrt} {e : Env} {w : World} {K : SV → St → Option ρ} {r : ρ}
variable {d : Option Nat} {T T' E ty : TypeId} {x y c : Operand} {pos : String} {aft : Array Edge} {g : Option (Nat × Bool)} {rds : List Nat}

theorem look_fieldAddr {i : Nat} (S : SR σ s I h As e) (hX : opX P s (.fieldAddr T x i) K = some r) : LookOk P s ⟨d, .fieldAddr T x i, ty, pos, aft, g⟩ K r σ I w e rds := by
  have hx := sev_ok S x
  simp only [opX] at hX
  split at hX
  · rename_i fs hu
    split at hX
    · rename_i f hf
      split at hX
      · rename_i m hz
        have hz' : ((P.info? f.type).map fun i => decide (i.size = 0)) = some false := by
          unfold szOf at hz
          cases hi : P.info? f.type with
          | none => simp [hi] at hz
          | some q => simp only [hi, Option.map_some, Option.some.injEq] at hz ⊢; simp [hz]
        cases hq : sev s x <;> rw [hq] at hX hx <;> try cases hX
        case ptr k o =>
          obtain ⟨a, ha, hea⟩ := hx
          exact LookOk.pure hX ⟨a, ha, rfl⟩ (V_fieldAddrAt hu hf hz' hea)
        case el k z j o =>
          obtain ⟨a, ha, hea⟩ := hx
          exact LookOk.pure hX ⟨a, ha, rfl⟩ (V_fieldAddrAt hu hf hz' hea)
        case er t xs j o =>
          obtain ⟨A, c, hea, hr⟩ := hx
          exact LookOk.pure hX ⟨A, c, rfl, hr⟩ (V_fieldAddrAt hu hf hz' hea)
      · cases hX
    · cases hX
  · cases hX

theorem part_C {cs : List SV} {off : Nat} {v : SV} {vs : Array Value} (hp : XC.part P T cs off = some v) (hv : VRs σ L I cs vs.toList) : ∃ u, partC P T vs off = some u ∧ VR σ L I v u := by
  obtain ⟨td, hu, hc⟩ := part_ok hp hv
  unfold partC
  rcases hc with ⟨ha, u, h1, h2⟩ | ⟨ha, us, hz, he, hl, h2⟩
  · refine ⟨u, ?_, h2⟩
    rw [hu]
    cases td <;> first | (simpa using h1) | cases ha
  · refine ⟨_, ?_, h2⟩
    cases hi : P.info? T with
    | none => simp [hi] at hz
    | some i =>
      have hz' : i.size = us.length := by simpa [hi] using hz
      have e1 : vs.extract off (off + i.size) = us.toArray := by
        apply Array.ext'
        rw [Array.toList_extract, List.extract_eq_take_drop, hz']
        simpa using he
      rw [hu]
      cases td <;> first | (simp only [Option.map_some]; rw [e1]; done) | cases ha
theorem look_field {i : Nat} (S : SR σ s I h As e) (hX : opX P s (.field T x i) K = some r) : LookOk P s ⟨d, .field T x i, ty, pos, aft, g⟩ K r σ I w e rds := by
  have hx := sev_ok S x
  simp only [opX] at hX
  split at hX
  · rename_i fs cs hu hq
    rw [hq] at hx
    obtain ⟨vs, hx, hv⟩ := hx
    split at hX
    · rename_i f hf
      split at hX
      · rename_i v hp
        obtain ⟨u, h1, h2⟩ := part_C hp hv
        refine LookOk.pure hX h2 fun w => ?_
        have := run_partC h1 w
        simp [execOp, Instr.field, hx, run_underlying hu, hf, asAgg, this]
      · cases hX
    · cases hX
  · cases hX
theorem look_extract {i : Nat} (S : SR σ s I h As e) (hX : opX P s (.extract x i) K = some r) : LookOk P s ⟨d, .extract x i, ty, pos, aft, g⟩ K r σ I w e rds := by
  have hx := sev_ok S x
  simp only [opX] at hX
  split at hX
  · rename_i l hq
    rw [hq] at hx
    obtain ⟨vs, hx, hv⟩ := hx
    split at hX
    · rename_i v hl
      obtain ⟨u, h1, h2⟩ := hv.get hl
      exact LookOk.pure hX h2 (V_extract hx (by simpa using h1))
    · cases hX
  · cases hX

theorem V_indexSl {A : Addr} {len cp sz : Nat} {k : IntKind} {i : Int} (hu : P.underlying T = some (.slice E)) (hz : szOf P E = some sz) (hx : ev e x = .slice (some A) len cp) (hy : ev e y = .int k i) (h0 : 0 ≤ i) (h1 : i < (len : Int)) :
    SL.V P e ⟨d, .indexAddr T x y, ty, pos, aft, g⟩ (.pointer (some (A.add (i.toNat * sz)))) := fun w => by
  unfold szOf at hz
  cases hq : P.info? E with
  | none => simp [hq] at hz
  | some q =>
    have hz' : q.size = sz := by simpa [hq] using hz
    simp [execOp, hx, hy, Instr.indexAt, asIntOf, run_underlying hu, h0, h1, sizeOf, typeInfo, hq, hz']
theorem idx_sl {k z : Nat} {kk : IntKind} {i : Int} {t : Ty} {xs : List t.den} (S : SR σ s I h As e) (F : Fits I h w) (hs : IsSl s.L k t E xs) (hu : P.underlying T = some (.slice T')) (hz : szOf P T' = some z)
    (hx : VR σ s.L I (.sl k) (ev e x)) (hy : ev e y = .int kk i) (h0 : 0 ≤ i) (h1 : i < (xs.length : Int)) :
    ∃ u, VR σ s.L I (.el k z i 0) u ∧ SL.V P e ⟨d, .indexAddr T x y, ty, pos, aft, g⟩ u := by
  obtain ⟨_, _, hx⟩ := hx
  obtain ⟨a, ha, hv⟩ := hx t E xs hs
  obtain ⟨a', ha', cs, _, _, hc⟩ := sl_cells S F hs
  rw [ha] at ha'; cases ha'
  rcases hc with hc | ⟨b, off, e1, _⟩
  · subst hc; simp at h1; omega
  · rw [e1] at hv
    refine ⟨_, ⟨a, ha, ?_⟩, V_indexSl hu hz hv hy h0 h1⟩
    rw [e1]; rfl
theorem idx_win {k z : Nat} {kk : IntKind} {i lo m : Int} {t : Ty} {xs : List t.den} (S : SR σ s I h As e) (F : Fits I h w) (hs : IsSl s.L k t E xs) (hu : P.underlying T = some (.slice T')) (hz : szOf P T' = some z) (ht : t.sz = z)
    (hx : VR σ s.L I (.win k lo m) (ev e x)) (hy : ev e y = .int kk i) (h0 : 0 ≤ i) (h1 : i < m) :
    ∃ u, VR σ s.L I (.el k z (lo + i) 0) u ∧ SL.V P e ⟨d, .indexAddr T x y, ty, pos, aft, g⟩ u := by
  obtain ⟨_, _, hx⟩ := hx
  obtain ⟨a, V, cp, ha, hw, hv, hl⟩ := hx t E xs hs
  obtain ⟨a', ha', cs, _, _, hc⟩ := sl_cells S F hs
  rw [ha] at ha'; cases ha'
  have hlo := hw.lo
  rcases hc with hc | ⟨b, off, e1, _⟩
  · subst hc; simp at hl; omega
  · rcases hw.zero with q | q
    · omega
    · rw [e1] at q
      rw [q] at hv
      refine ⟨_, ⟨a, ha, ?_⟩, V_indexSl hu hz hv hy h0 (by have := hw.no; omega)⟩
      rw [e1, ← ht]
      show Value.pointer (some (((⟨b, off, none⟩ : Addr).add (lo.toNat * t.sz)).add (i.toNat * t.sz))) = _
      have : (lo + i).toNat = lo.toNat + i.toNat := by omega
      rw [this]
      show _ = Value.pointer (some (((⟨b, off, none⟩ : Addr).add ((lo.toNat + i.toNat) * t.sz)).add 0))
      rw [add_add, add_add, Nat.add_mul]; rfl
theorem look_indexAddr (S : SR σ s I h As e) (F : Fits I h w) (hX : opX P s (.indexAddr T x y) K = some r) : LookOk P s ⟨d, .indexAddr T x y, ty, pos, aft, g⟩ K r σ I w e rds := by
  have hx := sev_ok S x
  have hy := sev_ok S y
  simp only [opX] at hX
  split at hX
  · rename_i E k kk i hu hq hp
    rw [hq] at hx
    rw [hp] at hy
    split at hX
    · rename_i t E' xs z hk hz
      cases hb : Nat.beq t.sz z with
      | false => rw [hb] at hX; cases hX
      | true =>
        rw [hb] at hX
        simp only [cond_true] at hX
        split at hX
        · rename_i hi
          obtain ⟨u, h1, h2⟩ := idx_sl S F (.inl hk) hu hz hx hy hi.1 hi.2
          exact LookOk.pure hX h1 h2
        · cases hX
    · rename_i t E' xs z hk hz
      cases hb : Nat.beq t.sz z with
      | false => rw [hb] at hX; cases hX
      | true =>
        rw [hb] at hX
        simp only [cond_true] at hX
        split at hX
        · rename_i hi
          obtain ⟨u, h1, h2⟩ := idx_sl S F (.inr hk) hu hz hx hy hi.1 hi.2
          exact LookOk.pure hX h1 h2
        · cases hX
    · cases hX
  · rename_i E k lo m kk i hu hq hp
    rw [hq] at hx
    rw [hp] at hy
    split at hX
    · rename_i t E' xs z hk hz
      cases hb : Nat.beq t.sz z with
      | false => rw [hb] at hX; cases hX
      | true =>
        rw [hb] at hX
        simp only [cond_true] at hX
        split at hX
        · rename_i hi
          obtain ⟨u, h1, h2⟩ := idx_win S F (.inl hk) hu hz (Nat.eq_of_beq_eq_true hb) hx hy hi.1 hi.2
          exact LookOk.pure hX h1 h2
        · cases hX
    · rename_i t E' xs z hk hz
      cases hb : Nat.beq t.sz z with
      | false => rw [hb] at hX; cases hX
      | true =>
        rw [hb] at hX
        simp only [cond_true] at hX
        split at hX
        · rename_i hi
          obtain ⟨u, h1, h2⟩ := idx_win S F (.inr hk) hu hz (Nat.eq_of_beq_eq_true hb) hx hy hi.1 hi.2
          exact LookOk.pure hX h1 h2
        · cases hX
    · cases hX
  · rename_i E t xs kk i hu hq hp
    rw [hq] at hx
    rw [hp] at hy
    split at hX
    · rename_i z hz
      cases hb : Nat.beq t.sz z with
      | false => rw [hb] at hX; cases hX
      | true =>
        rw [hb] at hX
        simp only [cond_true] at hX
        split at hX
        · rename_i hi
          obtain ⟨A, cp, hv, hro⟩ := hx
          obtain ⟨cs, _, _, hc⟩ := ro_cells hro
          rcases hc with hc | ⟨b, off, e1, _⟩
          · subst hc; simp at hi; omega
          · rw [e1] at hv hro
            refine LookOk.pure hX ⟨_, cp, ?_, hro⟩ (V_indexSl hu hz hv hy hi.1 hi.2)
            rw [Nat.eq_of_beq_eq_true hb]; rfl
        · cases hX
    · cases hX
  · rename_i E k o t m cc kk i hu hq hp
    rw [hq] at hx
    rw [hp] at hy
    split at hX
    · rename_i z hz
      cases hb : Nat.beq t.sz z with
      | false => rw [hb] at hX; cases hX
      | true =>
        rw [hb] at hX
        simp only [cond_true] at hX
        split at hX
        · rename_i hi
          obtain ⟨a, A, ha, hv, hA, hle⟩ := hx
          refine LookOk.pure hX ⟨a, ha, ?_⟩ (V_indexSl hu hz hv hy hi.1 hi.2)
          rcases hA with hA | hA
          · omega
          · rw [hA, add_add]
        · cases hX
    · cases hX
  · rename_i m E k o kk i hu hq hp
    rw [hq] at hx
    rw [hp] at hy
    obtain ⟨a, ha, hv⟩ := hx
    split at hX
    · rename_i z hz
      split at hX
      · rename_i hi
        exact LookOk.pure hX ⟨a, ha, rfl⟩ (V_indexArr hu hz hv hy hi.1 hi.2 rfl)
      · cases hX
    · cases hX
  · rename_i m E t xs j o kk i hu hq hp
    rw [hq] at hx
    rw [hp] at hy
    obtain ⟨A, cp, hv, hro⟩ := hx
    split at hX
    · rename_i z hz
      split at hX
      · rename_i hi
        exact LookOk.pure hX ⟨A, cp, rfl, hro⟩ (V_indexArr hu hz hv hy hi.1 hi.2 rfl)
      · cases hX
    · cases hX
  · rename_i m E k q j o kk i hu hq hp
    rw [hq] at hx
    rw [hp] at hy
    obtain ⟨a, ha, hv⟩ := hx
    split at hX
    · rename_i z hz
      split at hX
      · rename_i hi
        exact LookOk.pure hX ⟨a, ha, rfl⟩ (V_indexArr hu hz hv hy hi.1 hi.2 rfl)
      · cases hX
    · cases hX
  · cases hX

theorem look_index (S : SR σ s I h As e) (hX : opX P s (.index T x y) K = some r) : LookOk P s ⟨d, .index T x y, ty, pos, aft, g⟩ K r σ I w e rds := by
  have hx := sev_ok S x
  have hy := sev_ok S y
  simp only [opX] at hX
  split at hX
  · rename_i m E cs kk i hu hq hp
    rw [hq] at hx
    rw [hp] at hy
    obtain ⟨vs, hx, hv⟩ := hx
    have hy : ev e y = .int kk i := hy
    split at hX
    · rename_i z hz
      split at hX
      · rename_i hi
        split at hX
        · rename_i v hpt
          obtain ⟨u, h1, h2⟩ := part_C hpt hv
          refine LookOk.pure hX h2 fun w => ?_
          have := run_partC h1 w
          unfold szOf at hz
          cases hq' : P.info? E with
          | none => simp [hq'] at hz
          | some q =>
            have hz' : q.size = z := by simpa [hq'] using hz
            simp [execOp, Instr.index, hx, hy, asIntOf, run_underlying hu, hi.1, hi.2, sizeOf, typeInfo, hq', hz', this]
        · cases hX
      · cases hX
    · cases hX
  · rename_i b kk i hu hq hp
    rw [hq] at hx
    rw [hp] at hy
    split at hX
    · rename_i hi
      exact LookOk.pure hX rfl (V_indexStr hu hx hy hi.1 hi.2)
    · cases hX
  · cases hX
end
end Go.Proofs.YtkdakjjockfmdaaGreatDoor.XC

/- A machine that reckons: states, and operations that only look. -/
import Derived.Test.YtkdakjjockfmdaaGreatDoorXB
namespace Go.Proofs.YtkdakjjockfmdaaGreatDoor.XC
open Go Go.RowKit Go.Proofs.YtkdakjjockfmdaaGreatDoor.SL
set_option linter.unusedVariables false
set_option linter.unusedSimpArgs false

/-- A map's entries. -/
def VRp (σ : List Ad) (L : Tr At) (I : Hp) : List (SV × SV) → List (Value × Value) → Prop
  | [], vs => vs = []
  | (k, x) :: l, vs => ∃ u v r, vs = (u, v) :: r ∧ VR σ L I k u ∧ VR σ L I x v ∧ VRp σ L I l r
def MpA (b : Nat) (vs : List (Value × Value)) : Asrt := ⟨fun _ h => ∃ arr clock, h b = some (.map arr clock) ∧ arr.toList.map (fun e => (e.key, e.val)) = vs, fun _ p => p, false, fun h => by cases h⟩
def ItA (b m : Nat) : Asrt := ⟨fun _ h => ∃ since last, h b = some (.mapIter (some m) since #[] last), fun _ p => p, false, fun h => by cases h⟩
def AtR (σ : List Ad) (L : Tr At) (I : Hp) (k : Nat) : At → Asrt → Prop
  | .blk T cs, A => ∃ a vs, σ[k]? = some a ∧ A = Blk a.b T vs ∧ VRs σ L I cs vs
  | .buf t E xs, A => ∃ a, σ[k]? = some a ∧ A = Buf (kdOf t) E a.A a.c xs
  | .fz t E xs, A => ∃ a, σ[k]? = some a ∧ RoP (kdOf t) a.A a.c xs I
  | .imm T cs, A => ∃ a vs fr, σ[k]? = some a ∧ I a.b = some (.cells vs.toArray T fr) ∧ VRs σ L I cs vs
  | .mp es, A => ∃ a vs, σ[k]? = some a ∧ A = MpA a.b vs ∧ VRp σ L I es vs
  | .it h, A => ∃ a m, σ[k]? = some a ∧ σ[h]? = some m ∧ A = ItA a.b m.b
  | .dead, _ => True
structure SR (σ : List Ad) (s : St) (I h : Hp) (As : List Asrt) (e : Env) : Prop where
  sl : σ.length = s.n
  al : As.length = s.n
  lim : ∀ k a, s.L.get k = some a → k < s.n
  at_ : ∀ k a, s.L.get k = some a → ∃ A, As[k]? = some A ∧ AtR σ s.L I k a A
  sep : sepL As I h
  env : ∀ t v, s.env.get t = some v → VR σ s.L I v (e t)
  gl : ∀ k, k < s.g → ∃ a, σ[k]? = some a ∧ a.b = k

theorem VRp.mono {σ τ : List Ad} {L L' : Tr At} {I I' : Hp} (hI : Le I I') (hL : Lm σ.length L L') : ∀ {l : List (SV × SV)} {vs : List (Value × Value)}, VRp σ L I l vs → VRp (σ ++ τ) L' I' l vs
  | [], _, h => h
  | (_, _) :: _, _, ⟨u, v, r, e, h1, h2, h3⟩ => ⟨u, v, r, e, h1.mono hI hL, h2.mono hI hL, h3.mono hI hL⟩
theorem sev_ok {σ : List Ad} {s : St} {I h : Hp} {As : List Asrt} {e : Env} (S : SR σ s I h As e) (x : Operand) : VR σ s.L I (sev s x) (ev e x) := by
  cases x with
  | tmp t =>
    show VR σ s.L I ((s.env.get t).getD .un) (e t)
    cases hq : s.env.get t with
    | none => trivial
    | some v => exact S.env t v hq
  | const v => exact svOf_ok v
  | func f => exact ⟨#[], rfl, rfl⟩
  | global g =>
    show VR σ s.L I (bif Nat.blt g s.g then .ptr g 0 else .un) (.pointer (some ⟨g, 0, none⟩))
    cases hq : Nat.blt g s.g with
    | false => trivial
    | true =>
      obtain ⟨a, ha, hb⟩ := S.gl g (by simpa using hq)
      exact ⟨a, ha, by rw [hb]; rfl⟩
theorem sev_all {σ : List Ad} {s : St} {I h : Hp} {As : List Asrt} {e : Env} (S : SR σ s I h As e) (l : List Operand) : VRs σ s.L I (l.map (sev s)) (l.map (ev e)) := VRs.map (sev_ok S) l

def ImmW (I : Hp) (w : World) : Prop := ∀ b o, I b = some o → w.heap[b]? = some o
/-- What is told of handle k is read alike in both worlds. -/
structure Same (σ : List Ad) (L : Tr At) (k : Nat) (w w' : World) : Prop where
  blk : ∀ a T cs, σ[k]? = some a → L.get k = some (.blk T cs) → w'.heap[a.b]? = w.heap[a.b]?
  buf : ∀ a t E xs, σ[k]? = some a → L.get k = some (.buf t E xs) → ∀ b off j v, a.A = some ⟨b, off, none⟩ → j < xs.length * (kdOf t).sz → w.cell? ⟨b, off + j, none⟩ = some v → w'.cell? ⟨b, off + j, none⟩ = some v
theorem Same.refl (σ : List Ad) (L : Tr At) (k : Nat) (w : World) : Same σ L k w w := ⟨fun _ _ _ _ _ => rfl, fun _ _ _ _ _ _ _ _ _ _ _ _ h => h⟩

section
variable {P : Program} {ρ : Type} {σ : List Ad} {L : Tr At} {s : St} {I h : Hp} {As : List Asrt} {e : Env} {w : World} {K : SV → St → Option ρ} {r : ρ}

def LookOk (P : Program) (s : St) (o : Oper) (K : SV → St → Option ρ) (r : ρ) (σ : List Ad) (I : Hp) (w : World) (e : Env) (rds : List Nat) : Prop :=
  ∃ v u, K v s = some r ∧ VR σ s.L I v u ∧ ∀ w', ImmW I w' → (∀ k ∈ rds, Same σ s.L k w w') → (execOp (ev e) o).run P w' = .ok (.value u) w'
theorem LookOk.pure {o : Oper} {v : SV} {u : Value} {rds : List Nat} (hk : K v s = some r) (hv : VR σ s.L I v u) (hV : SL.V P e o u) : LookOk P s o K r σ I w e rds := ⟨v, u, hk, hv, fun w' _ _ => hV w'⟩

/-- What part of a block is told. -/
theorem part_ok {T : TypeId} {cs : List SV} {off : Nat} {v : SV} {vs : List Value} (hp : part P T cs off = some v) (hv : VRs σ L I cs vs) :
    ∃ td, P.underlying T = some td ∧ ((aggD td = false ∧ ∃ u, vs[off]? = some u ∧ VR σ L I v u) ∨ (aggD td = true ∧ ∃ us : List Value, (P.info? T).map (·.size) = some us.length ∧ (vs.drop off).take us.length = us ∧ off + us.length ≤ vs.length ∧ VR σ L I v (.agg us.toArray))) := by
  unfold part at hp
  split at hp
  · rename_i td hu
    refine ⟨td, hu, ?_⟩
    cases ha : aggD td with
    | false =>
      rw [ha] at hp
      obtain ⟨u, h1, h2⟩ := hv.get (by simpa using hp)
      exact .inl ⟨rfl, u, h1, h2⟩
    | true =>
      rw [ha] at hp
      simp only [cond_true] at hp
      split at hp
      · rename_i n hn
        cases hb : Nat.ble (off + n) cs.length with
        | false => rw [hb] at hp; cases hp
        | true =>
          rw [hb] at hp
          simp only [cond_true, Option.some.injEq] at hp
          subst hp
          have hle : off + n ≤ vs.length := by rw [hv.len]; exact Nat.le_of_ble_eq_true hb
          have hl : ((vs.drop off).take n).length = n := by rw [List.length_take, List.length_drop]; omega
          refine .inr ⟨rfl, (vs.drop off).take n, by rw [hl]; exact hn, by rw [hl], by rw [hl]; exact hle, _, rfl, ?_⟩
          exact (hv.drop off).take n
      · cases hp
  · cases hp

theorem load_ok {T : TypeId} {cs : List SV} {off b o0 : Nat} {v : SV} {vs : List Value} (hp : part P T cs off = some v) (hv : VRs σ L I cs vs) :
    ∃ u, VR σ L I v u ∧ ∀ w : World, (∀ j x, vs[j]? = some x → w.cell? ⟨b, o0 + j, none⟩ = some x) → (Instr.loadAt T (.pointer (some ⟨b, o0 + off, none⟩))).run P w = .ok u w := by
  obtain ⟨td, hu, hc⟩ := part_ok hp hv
  rcases hc with ⟨ha, u, h1, h2⟩ | ⟨ha, us, hz, he, hl, h2⟩
  · refine ⟨u, h2, fun w hw => ?_⟩
    have := hw off u h1
    simp [Instr.loadAt, Instr.sureAddr, loadVar, isAgg_false hu ha, this]
  · refine ⟨_, h2, fun w hw => ?_⟩
    refine load_agg hu ha hz fun j x hx => ?_
    rw [Nat.add_assoc]
    apply hw
    rw [← he, List.getElem?_take] at hx
    split at hx
    · rwa [List.getElem?_drop] at hx
    · cases hx

/-- Where a block lies. -/
theorem blk_at (S : SR σ s I h As e) (F : Fits I h w) {k : Nat} {T : TypeId} {cs : List SV} (hk : s.L.get k = some (.blk T cs)) :
    ∃ a vs, σ[k]? = some a ∧ VRs σ s.L I cs vs ∧ As[k]? = some (Blk a.b T vs) ∧ h a.b = some (.cells vs.toArray T (0, 0)) ∧ w.heap[a.b]? = some (.cells vs.toArray T (0, 0)) := by
  obtain ⟨A, hA, a, vs, ha, rfl, hv⟩ := S.at_ k _ hk
  obtain ⟨h1, l, p, _⟩ := sepL_at hA S.sep
  exact ⟨a, vs, ha, hv, hA, l _ _ p, F.own _ _ (l _ _ p)⟩
theorem imm_at (S : SR σ s I h As e) {k : Nat} {T : TypeId} {cs : List SV} (hk : s.L.get k = some (.imm T cs)) :
    ∃ a vs fr, σ[k]? = some a ∧ VRs σ s.L I cs vs ∧ I a.b = some (.cells vs.toArray T fr) := by
  obtain ⟨A, hA, a, vs, fr, ha, hi, hv⟩ := S.at_ k _ hk
  exact ⟨a, vs, fr, ha, hv, hi⟩
/-- What a slice's elements are in cells, in each world that agrees. -/
def Cells (I : Hp) (w : World) (σ : List Ad) (L : Tr At) (k : Nat) (t : Ty) (xs : List t.den) (a : Ad) : Prop :=
  ∃ cs, RL (kdOf t) I cs xs ∧ xs.length ≤ a.c ∧ (xs = [] ∨ ∃ b off, a.A = some ⟨b, off, none⟩ ∧ ∀ w', ImmW I w' → Same σ L k w w' → ∀ j v, cs[j]? = some v → w'.cell? ⟨b, off + j, none⟩ = some v)
theorem ro_cells {t : Ty} {xs : List t.den} {A : Option Addr} {c : Nat} (h : RoP (kdOf t) A c xs I) : ∃ cs, RL (kdOf t) I cs xs ∧ xs.length ≤ c ∧ (xs = [] ∨ ∃ b off, A = some ⟨b, off, none⟩ ∧ ∀ w', ImmW I w' → ∀ j v, cs[j]? = some v → w'.cell? ⟨b, off + j, none⟩ = some v) := by
  obtain ⟨hl, cs, hr, hx⟩ := h
  refine ⟨cs, hr, hl, hx.imp id fun ⟨b, off, C, T, fr, ea, hb, hv⟩ => ⟨b, off, ea, fun w' hw j v hj => ?_⟩⟩
  rw [cell_of (hw b _ hb)]; exact hv j v hj
theorem sl_cells (S : SR σ s I h As e) (F : Fits I h w) {k : Nat} {t : Ty} {E : TypeId} {xs : List t.den} (hk : IsSl s.L k t E xs) : ∃ a, σ[k]? = some a ∧ Cells I w σ s.L k t xs a := by
  rcases hk with hk | hk
  · obtain ⟨A, hA, a, ha, rfl⟩ := S.at_ k _ hk
    obtain ⟨h1, l, ⟨cs, hr, hx⟩, _⟩ := sepL_at hA S.sep
    refine ⟨a, ha, cs, hr, ?_, ?_⟩
    · rcases hx with ⟨_, _, e⟩ | ⟨g, cur, e, _, hl, _⟩
      · rw [e]; exact Nat.zero_le _
      · exact hl
    · rcases hx with ⟨_, _, e⟩ | ⟨g, cur, e, ⟨fr, hb, _⟩, hl, _, hs, ht⟩
      · exact .inl e
      · refine .inr ⟨g, 0, e, fun w' _ hw j v hj => ?_⟩
        have hw0 := F.own g _ (l g _ hb)
        have hj' : j < xs.length * (kdOf t).sz := by
          rw [← hr.len]
          rcases Nat.lt_or_ge j cs.length with q | q
          · exact q
          · simp [List.getElem?_eq_none q] at hj
        refine hw.buf a t E xs ha hk g 0 j v e hj' ?_
        rw [cell_of hw0]
        rw [← ht, List.getElem?_take] at hj
        simpa [hj'] using hj
  · obtain ⟨A, hA, a, ha, hro⟩ := S.at_ k _ hk
    obtain ⟨cs, h1, h2, h3⟩ := ro_cells hro
    exact ⟨a, ha, cs, h1, h2, h3.imp id fun ⟨b, off, e, k⟩ => ⟨b, off, e, fun w' hw _ => k w' hw⟩⟩

/-- An element's load. -/
theorem load_el {T : TypeId} {t : Ty} {xs : List t.den} {i : Int} {o : Nat} {v : SV} {A : Option Addr} {cs : List Value} (hr : RL (kdOf t) I cs xs) (h0 : 0 ≤ i) (h1 : i < (xs.length : Int)) (hp : part P T (t.rf (xs.getD i.toNat t.df)) o = some v) :
    ∃ u, VR σ L I v u ∧ ∀ w : World, (∃ b off, A = some ⟨b, off, none⟩ ∧ ∀ j v, cs[j]? = some v → w.cell? ⟨b, off + j, none⟩ = some v) → (Instr.loadAt T (.pointer (some ((el A (i.toNat * t.sz)).add o)))).run P w = .ok u w := by
  have hlt : i.toNat < xs.length := by omega
  have hg : xs[i.toNat]? = some (xs.getD i.toNat t.df) := by simp [List.getD, hlt]
  obtain ⟨c, hc, hcell⟩ := RL.get hr hg
  have hv := rf_ok (σ := σ) (L := L) t hc
  cases A with
  | none =>
    obtain ⟨u, hu, _⟩ := load_ok (b := 0) (o0 := 0) hp hv
    exact ⟨u, hu, fun w ⟨b, off, e, _⟩ => by cases e⟩
  | some A0 =>
    obtain ⟨u, hu, hrun⟩ := load_ok (b := A0.block) (o0 := A0.off + i.toNat * t.sz) hp hv
    refine ⟨u, hu, fun w ⟨b, off, e, hw⟩ => ?_⟩
    cases e
    have ea : (el (some ⟨b, off, none⟩) (i.toNat * t.sz)).add o = ⟨b, off + i.toNat * t.sz + o, none⟩ := by
      simp only [el, Option.getD_some, Addr.add_lit]
    rw [ea]
    refine hrun w fun j x hx => ?_
    have := hw _ _ (hcell j x hx)
    rw [kdOf_sz] at this
    rw [Nat.add_assoc]; exact this

theorem look_el (S : SR σ s I h As e) (F : Fits I h w) {d : Option Nat} {T ty : TypeId} {x : Operand} {pos : String} {aft : Array Edge} {g : Option (Nat × Bool)} {a : Ad} {k z : Nat} {i : Int} {o : Nat} (ha : σ[k]? = some a)
    (hea : ev e x = .pointer (some ((el a.A (i.toNat * z)).add o))) {t : Ty} {E : TypeId} {xs : List t.den} (hs : IsSl s.L k t E xs)
    (hX : (bif Nat.beq z t.sz then (if 0 ≤ i ∧ i < (xs.length : Int) then (match part P T (t.rf (xs.getD i.toNat t.df)) o with | some v => K v s | none => none) else none) else none) = some r) :
    LookOk P s ⟨d, .load T x, ty, pos, aft, g⟩ K r σ I w e [k] := by
  cases hz : Nat.beq z t.sz with
  | false => rw [hz] at hX; cases hX
  | true =>
    rw [hz] at hX
    have hz := Nat.eq_of_beq_eq_true hz
    subst hz
    simp only [cond_true] at hX
    split at hX
    · rename_i hb
      split at hX
      · rename_i v hp
        obtain ⟨a', ha', cs, hr, _, hc⟩ := sl_cells S F hs
        rw [ha] at ha'; cases ha'
        obtain ⟨u, hu, hrun⟩ := load_el (σ := σ) (L := s.L) (A := a.A) hr hb.1 hb.2 hp
        refine ⟨v, u, hX, hu, fun w' hI hs' => ?_⟩
        rcases hc with hc | ⟨b, off, e1, hc⟩
        · subst hc; simp at hb; omega
        · have := hrun w' ⟨b, off, e1, hc w' hI (hs' k (List.mem_singleton.2 rfl))⟩
          simp [execOp, hea, this]
      · cases hX
    · cases hX
theorem look_load (S : SR σ s I h As e) (F : Fits I h w) {d : Option Nat} {T ty : TypeId} {x : Operand} {pos : String} {aft : Array Edge} {g : Option (Nat × Bool)} (hX : opX P s (.load T x) K = some r) :
    LookOk P s ⟨d, .load T x, ty, pos, aft, g⟩ K r σ I w e (rdsOf s (.load T x)) := by
  have hx := sev_ok S x
  simp only [opX] at hX
  show LookOk P s _ K r σ I w e (rdV (sev s x))
  cases hq : sev s x <;> rw [hq] at hX hx <;> simp only [ldX] at hX <;> try cases hX
  case ptr k o =>
    obtain ⟨a, ha, hea⟩ := hx
    rw [Addr.add_lit, Nat.zero_add] at hea
    split at hX
    · rename_i T' cs hk
      split at hX
      · rename_i v hp
        obtain ⟨a', vs, ha', hv, _, _, hw⟩ := blk_at S F hk
        rw [ha] at ha'; cases ha'
        obtain ⟨u, hu, hrun⟩ := load_ok (b := a.b) (o0 := 0) hp hv
        refine ⟨v, u, hX, hu, fun w' _ hs => ?_⟩
        have hw' := ((hs k (List.mem_singleton.2 rfl)).blk a _ _ ha hk).trans hw
        have := hrun w' fun j y hy => by rw [Nat.zero_add, cell_of hw']; simpa using hy
        rw [Nat.zero_add] at this
        simp [execOp, hea, this]
      · cases hX
    · rename_i T' cs hk
      split at hX
      · rename_i v hp
        obtain ⟨a', vs, fr, ha', hv, hi⟩ := imm_at S hk
        rw [ha] at ha'; cases ha'
        obtain ⟨u, hu, hrun⟩ := load_ok (b := a.b) (o0 := 0) hp hv
        refine ⟨v, u, hX, hu, fun w' hI _ => ?_⟩
        have := hrun w' fun j y hy => by rw [Nat.zero_add, cell_of (hI _ _ hi)]; simpa using hy
        rw [Nat.zero_add] at this
        simp [execOp, hea, this]
      · cases hX
    · cases hX
  case el k z i o =>
    obtain ⟨a, ha, hea⟩ := hx
    split at hX
    · rename_i t E xs hk; exact look_el S F ha hea (.inl hk) hX
    · rename_i t E xs hk; exact look_el S F ha hea (.inr hk) hX
    · cases hX
  case er t xs i o =>
    obtain ⟨A, c, hea, hro⟩ := hx
    split at hX
    · rename_i hb
      split at hX
      · rename_i v hp
        obtain ⟨cs, hr, _, hc⟩ := ro_cells hro
        obtain ⟨u, hu, hrun⟩ := load_el (σ := σ) (L := s.L) (A := A) hr hb.1 hb.2 hp
        refine ⟨v, u, hX, hu, fun w' hI _ => ?_⟩
        rcases hc with hc | ⟨b, off, e1, hc⟩
        · subst hc; simp at hb; omega
        · have := hrun w' ⟨b, off, e1, hc w' hI⟩
          simp [execOp, hea, this]
      · cases hX
    · cases hX
end
end Go.Proofs.YtkdakjjockfmdaaGreatDoor.XC

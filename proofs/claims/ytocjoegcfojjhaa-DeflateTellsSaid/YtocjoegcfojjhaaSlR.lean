/- From a row's arguments to the atoms that a law's contract asks. -/
import Derived.Test.YtocjoegcfojjhaaSlP
import Derived.Deep.Slices
import Derived.Carry
import Derived.SizedLaws
namespace Go.Proofs.Ytocjoegcfojjhaa.SL
open Go Go.RowKit Go.ChangeShapes Go.WideShapes
set_option linter.unusedVariables false
set_option linter.unusedSimpArgs false

/-- All that the world bears when the call begins. -/
def IW (W : World) : Hp := fun b => W.heap[b]?
theorem IW_fits (W : World) : Fits (IW W) (fun _ => none) W := ⟨fun _ _ e => e, (fun _ _ e => by cases e), fun _ _ e => by cases e⟩

theorem row_calls {P : Program} {f : FuncId} {args : Array Value} {pre : List Asrt} {W : World} (h : SCA P f args pre (fun v B => v = .bool true ∧ B = [])) (hp : sepL pre (IW W) (fun _ => none)) :
    Calls P f args W fun e W' => e = .returned (.bool true) ∧ Below W.heap.size W W' :=
  (h _ _ W hp (IW_fits W)).mono fun x W' ⟨_, As', I', h', s', g, v, B, hx, hG, hv, _⟩ => by
    subst hv
    exact ⟨hx, g.os, g.tape, g.output, g.size, fun k hk => (g.kept k hk rfl).1⟩

theorem sep0 {I h : Hp} : sepL [] I h := trivial
theorem sepP {A : Asrt} {As : List Asrt} {I h : Hp} (hp : A.pers = true) (p : A.P I (fun _ => none)) (q : sepL As I h) : sepL (A :: As) I h := ⟨fun _ => none, h, Split.none_l h, p, q⟩

section
variable {H : Type} {enc : TypeId × Value → H} {P : Program} {W : World}

/-- What reads as data of type t lies as the kind says. -/
def Opn {α : Type} (enc : TypeId × Value → H) (P : Program) (W : World) (t : TypeId) (kd : Kd α) (wf : α → Prop) : Prop :=
  ∀ (held : Bool) fuel cs x, DataW.trod enc P W 0 (fun _ => true) held fuel t cs = some x → ∃ y : α, kd.R (IW W) cs y ∧ wf y

theorem Opn.int {t : TypeId} {k : IntKind} (hu : P.underlying t = some (.int k)) : Opn enc P W t (Kd.int k) (fun y => (Lit.int k y).wf = true) := fun _ _ _ _ h => by
  obtain ⟨n, rfl, rfl, hw⟩ := DataW.trod_int hu h
  exact ⟨n, rfl, hw⟩
theorem Opn.bool {t : TypeId} (hu : P.underlying t = some .bool) : Opn enc P W t Kd.bool (fun _ => True) := fun _ _ _ _ h => by
  obtain ⟨n, rfl, rfl⟩ := DataW.trod_bool hu h
  exact ⟨n, rfl, trivial⟩
theorem Opn.str {t : TypeId} (hu : P.underlying t = some .string) : Opn enc P W t Kd.str (fun y => y.size ≤ maxLen) := fun _ _ _ _ h => by
  obtain ⟨n, rfl, rfl, hw⟩ := DataW.trod_string hu h
  exact ⟨n, rfl, hw⟩
theorem trod_field {t : TypeId} {fs : Array Field} {held : Bool} {fuel : Nat} {cs : List Value} {x : DataW H × List MemPlace} (hu : P.underlying t = some (.struct fs)) (h : DataW.trod enc P W 0 (fun _ => true) held fuel t cs = some x) :
    ∃ n, cs.length = P.cellsOf t ∧ ∀ (i : Nat) (f : Field), fs[i]? = some f → ∃ y, DataW.trod enc P W 0 (fun _ => true) held n f.type ((cs.drop f.offset).take (P.cellsOf f.type)) = some y := by
  obtain ⟨xs, n, _, _, hl, hlen, hf⟩ := DataW.trod_struct hu h
  refine ⟨n, hl, fun i f hi => ?_⟩
  have hlt : i < xs.length := by
    rw [hlen]
    rcases Nat.lt_or_ge i fs.size with q | q
    · exact q
    · simp [Array.getElem?_eq_none q] at hi
  exact ⟨xs[i], by rw [hf i f hi]; exact List.getElem?_eq_getElem hlt⟩

theorem cells_get : ∀ {n : Nat} {base : Nat} {a : Addr} {cs : List Value}, W.cells? base a n = some cs → cs.length = n ∧ ∀ j v, cs[j]? = some v → W.cell? (a.add j) = some v := by
  intro n base a cs h
  obtain ⟨_, h1, h2⟩ := World.cells?_some h
  refine ⟨h1, fun j v hj => ?_⟩
  have hlt : j < n := by
    rw [← h1]
    rcases Nat.lt_or_ge j cs.length with q | q
    · exact q
    · simp [List.getElem?_eq_none q] at hj
  rw [h2 j hlt]; exact hj

theorem open_els {α : Type} {kd : Kd α} {wf : α → Prop} {e : TypeId} (ho : Opn enc P W e kd wf) (hc : P.cellsOf e = kd.sz) (h0 : 0 < kd.sz) {a : Addr} {n : Nat} {held : Bool} {D : Nat → DataW H} {Pl : Nat → List MemPlace} : ∀ (len : Nat),
    (∀ i, i < len → ∃ cs', W.cells? 0 (a.add (i * P.cellsOf e)) (P.cellsOf e) = some cs' ∧ DataW.trod enc P W 0 (fun _ => true) held n e cs' = some (D i, Pl i)) →
    ∃ xs : List α, xs.length = len ∧ (∀ x ∈ xs, wf x) ∧ ∃ cs, RL kd (IW W) cs xs ∧ ∀ j v, cs[j]? = some v → W.cell? (a.add j) = some v
  | 0, _ => ⟨[], rfl, by simp, [], rfl, by simp⟩
  | len + 1, h => by
    obtain ⟨xs, hl, hw, cs, hr, hv⟩ := open_els ho hc h0 len fun i hi => h i (by omega)
    obtain ⟨c1, h1, h2⟩ := h len (by omega)
    obtain ⟨y, hy, hwy⟩ := ho _ _ _ _ h2
    obtain ⟨hl1, hg1⟩ := cells_get h1
    have hcl := hr.len
    refine ⟨xs ++ [y], by simp [hl], fun x hx => ?_, cs ++ c1, hr.app ⟨c1, [], by simp, hy, rfl⟩, fun j v hj => ?_⟩
    · rcases List.mem_append.1 hx with q | q
      · exact hw x q
      · simp at q; subst q; exact hwy
    · rcases Nat.lt_or_ge j cs.length with q | q
      · rw [List.getElem?_append_left q] at hj; exact hv j v hj
      · rw [List.getElem?_append_right q] at hj
        have := hg1 _ v hj
        rw [add_add, hc, ← hl, ← hcl] at this
        rwa [show cs.length + (j - cs.length) = j from by omega] at this

/-- A slice that came in. -/
theorem open_ro {α : Type} {kd : Kd α} {wf : α → Prop} {t e : TypeId} {held : Bool} {A : Option Addr} {len cap : Nat} {d : DataW H} {ps : List MemPlace} (hu : P.underlying t = some (.slice e)) (ho : Opn enc P W e kd wf) (hc : P.cellsOf e = kd.sz) (h0 : 0 < kd.sz)
    (h : DataW.Trod enc P W 0 (fun _ => true) held t (.slice A len cap) d ps) : ∃ xs : List α, xs.length = len ∧ (∀ x ∈ xs, wf x) ∧ RoP kd A cap xs (IW W) := by
  obtain ⟨fuel, hf⟩ := h
  rcases Deep.open_slice hu hf with ⟨hcs, _⟩ | ⟨a, l, c, m, n, D, Pl, hcs, _, hl, hm, hmm, _, hx⟩
  · simp [Value.cells] at hcs
    obtain ⟨rfl, rfl, rfl⟩ := hcs
    exact ⟨[], rfl, by simp, Nat.zero_le _, [], rfl, .inl rfl⟩
  · simp [Value.cells] at hcs
    obtain ⟨rfl, rfl, rfl⟩ := hcs
    obtain ⟨xs, hlx, hw, cs, hr, hv⟩ := open_els (n := n) (D := D) (Pl := Pl) (a := a) ho hc h0 len fun i hi => hx i (by rw [hmm]; simp; omega)
    refine ⟨xs, hlx, hw, by omega, cs, hr, ?_⟩
    by_cases hn : xs = []
    · exact .inl hn
    · right
      have hpos : 0 < cs.length := by
        rw [hr.len]
        exact Nat.mul_pos (List.length_pos_iff.2 hn) h0
      have hcell := hv 0 cs[0] (by simp [hpos])
      rw [Addr.add_zero'] at hcell
      unfold World.cell? at hcell
      cases hb : W.heap[a.block]? with
      | none => simp [hb] at hcell
      | some ob =>
        cases ob with
        | cells C T fr =>
          simp only [hb] at hcell
          have hs : a.spot = none := by
            cases hs : a.spot with
            | none => rfl
            | some q => simp [hs] at hcell
          have ea : a = ⟨a.block, a.off, none⟩ := by cases a; simp at hs; simp [hs]
          refine ⟨a.block, a.off, C, T, fr, by rw [← ea], hb, fun j v hj => ?_⟩
          have := hv j v hj
          rw [ea, Addr.add_lit, cell_of hb] at this
          exact this
        | _ => simp [hb] at hcell

theorem sized_any {t e : TypeId} {ts : List TypeId} {dd : List (DataW H)} {j len cap : Nat} {A : Option Addr} {held : Bool} {d : DataW H} {ps : List MemPlace} (hsz : (DataW.weightsEach P ts dd).all (· ≤ reachBytes) = true) (ht : ts[j]? = some t) (hd : dd[j]? = some d) (hu : P.underlying t = some (.slice e)) {B : Nat} (hB : P.bytesOf e = B)
    (h : DataW.Trod enc P W 0 (fun _ => true) held t (.slice A len cap) d ps) : len * B ≤ 140737488351232 := by
  obtain ⟨fuel, hf⟩ := h
  rcases Deep.open_slice hu hf with ⟨hcs, _⟩ | ⟨a, l, c, m, n, D, Pl, hcs, _, hl, hm, hmm, hx, _⟩
  · simp [Value.cells] at hcs
    obtain ⟨rfl, rfl, rfl⟩ := hcs
    simp
  · simp [Value.cells] at hcs
    obtain ⟨rfl, rfl, rfl⟩ := hcs
    obtain ⟨hx, _⟩ := Prod.mk.inj hx
    subst hx
    have z := sized_slice hsz ht hd hu
    rw [hB] at z
    simp only [List.length_map, List.length_range] at z
    have hle : len ≤ len + (m - len) := by omega
    exact Nat.le_trans (Nat.mul_le_mul_right _ hle) z
end
end Go.Proofs.Ytocjoegcfojjhaa.SL

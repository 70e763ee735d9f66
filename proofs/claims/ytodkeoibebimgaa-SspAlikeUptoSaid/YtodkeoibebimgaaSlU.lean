/- From the arguments of a row that is narrowed to a bulk to the atoms that a law's contract asks, with what the data weigh. -/
import Derived.Test.YtodkeoibebimgaaSlR
import Derived.Test.YtodkeoibebimgaaSlM
import Derived.Test.YtodkeoibebimgaaRows
import Derived.OpenShut
namespace Go.Proofs.Ytodkeoibebimgaa.SL
open Go Go.RowKit Go.ChangeShapes Go.WideShapes
open Go.Proofs.Ytodkeoibebimgaa.Rows (uptoBulk uptoBulkAll)
set_option linter.unusedVariables false
set_option linter.unusedSimpArgs false

theorem bulkAll_append {H : Type} : ∀ {a b : List (DataW H)}, uptoBulkAll (a ++ b) = uptoBulkAll a + uptoBulkAll b
  | [], b => by simp [uptoBulkAll]
  | x :: a, b => by simp only [List.cons_append, uptoBulkAll]; rw [bulkAll_append]; omega
theorem bulk_agg {H : Type} {l : List (DataW H)} : uptoBulk (.agg l) = uptoBulkAll l + 1 := by simp only [uptoBulk]
theorem bulk_slice {H : Type} {l r : List (DataW H)} : uptoBulk (.slice l r) = uptoBulkAll l + uptoBulkAll r + 1 := by simp only [uptoBulk]
theorem bulk_nil {H : Type} : uptoBulk (.nil : DataW H) = 1 := by simp only [uptoBulk]
theorem bulk_str {H : Type} {b : List UInt8} : uptoBulk (.lit (.string b) : DataW H) = b.length + 1 := by simp only [uptoBulk]
theorem bulk_int {H : Type} {k : IntKind} {x : Int} : uptoBulk (.lit (.int k x) : DataW H) = 1 := by simp only [uptoBulk]
theorem bulk_bool {H : Type} {x : Bool} : uptoBulk (.lit (.bool x) : DataW H) = 1 := by simp only [uptoBulk]
theorem bulkAll0 {H : Type} : uptoBulkAll ([] : List (DataW H)) = 0 := by simp only [uptoBulkAll]
theorem bulkAll1 {H : Type} {d : DataW H} {r : List (DataW H)} : uptoBulkAll (d :: r) = uptoBulk d + uptoBulkAll r := by simp only [uptoBulkAll]

section
variable {H : Type} {enc : TypeId × Value → H} {P : Program} {W : World}

def OpnU {α : Type} (enc : TypeId × Value → H) (P : Program) (W : World) (t : TypeId) (kd : Kd α) (wf : α → Prop) (bk : α → Nat) : Prop :=
  ∀ (held : Bool) fuel cs d ps, DataW.trod enc P W 0 (fun _ => true) held fuel t cs = some (d, ps) → ∃ y : α, kd.R (IW W) cs y ∧ wf y ∧ bk y ≤ uptoBulk d

theorem OpnU.int {t : TypeId} {k : IntKind} (hu : P.underlying t = some (.int k)) : OpnU enc P W t (Kd.int k) (fun y => (Lit.int k y).wf = true) (fun _ => 1) := fun _ _ _ _ _ h => by
  obtain ⟨n, rfl, hx, hw⟩ := DataW.trod_int hu h
  obtain ⟨rfl, _⟩ := Prod.mk.inj hx
  exact ⟨n, rfl, hw, by rw [bulk_int]; exact Nat.le_refl _⟩
theorem OpnU.bool {t : TypeId} (hu : P.underlying t = some .bool) : OpnU enc P W t Kd.bool (fun _ => True) (fun _ => 1) := fun _ _ _ _ _ h => by
  obtain ⟨n, rfl, hx⟩ := DataW.trod_bool hu h
  obtain ⟨rfl, _⟩ := Prod.mk.inj hx
  exact ⟨n, rfl, trivial, by rw [bulk_bool]; exact Nat.le_refl _⟩
theorem OpnU.str {t : TypeId} (hu : P.underlying t = some .string) : OpnU enc P W t Kd.str (fun _ => True) (fun y => y.size + 1) := fun _ _ _ _ _ h => by
  obtain ⟨n, rfl, hx, hw⟩ := DataW.trod_string hu h
  obtain ⟨rfl, _⟩ := Prod.mk.inj hx
  refine ⟨n, rfl, trivial, ?_⟩
  rw [bulk_str, Array.length_toList]; exact Nat.le_refl _

theorem trod_fieldU {t : TypeId} {fs : Array Field} {held : Bool} {fuel : Nat} {cs : List Value} {d : DataW H} {ps : List MemPlace} (hu : P.underlying t = some (.struct fs)) (h : DataW.trod enc P W 0 (fun _ => true) held fuel t cs = some (d, ps)) :
    ∃ n parts, cs.length = P.cellsOf t ∧ d = .agg parts ∧ parts.length = fs.size ∧ ∀ (i : Nat) (f : Field), fs[i]? = some f → ∃ d' ps', parts[i]? = some d' ∧ DataW.trod enc P W 0 (fun _ => true) held n f.type ((cs.drop f.offset).take (P.cellsOf f.type)) = some (d', ps') := by
  obtain ⟨xs, n, _, hx, hl, hlen, hf⟩ := DataW.trod_struct hu h
  obtain ⟨hd, _⟩ := Prod.mk.inj hx
  refine ⟨n, xs.map (·.1), hl, hd, by simpa using hlen, fun i f hi => ?_⟩
  have hlt : i < xs.length := by
    rw [hlen]
    rcases Nat.lt_or_ge i fs.size with q | q
    · exact q
    · simp [Array.getElem?_eq_none q] at hi
  exact ⟨xs[i].1, xs[i].2, by rw [List.getElem?_map, List.getElem?_eq_getElem hlt]; rfl, by rw [hf i f hi]; exact List.getElem?_eq_getElem hlt⟩
theorem trod_itemU {t e : TypeId} {N : Nat} {held : Bool} {fuel : Nat} {cs : List Value} {d : DataW H} {ps : List MemPlace} (hu : P.underlying t = some (.array N e)) (h : DataW.trod enc P W 0 (fun _ => true) held fuel t cs = some (d, ps)) :
    ∃ n parts, cs.length = P.cellsOf t ∧ d = .agg parts ∧ parts.length = N ∧ ∀ (i : Nat), i < N → ∃ d' ps', parts[i]? = some d' ∧ DataW.trod enc P W 0 (fun _ => true) held n e ((cs.drop (i * P.cellsOf e)).take (P.cellsOf e)) = some (d', ps') := by
  obtain ⟨xs, n, _, hx, hl, hlen, hf⟩ := DataW.trod_array hu h
  obtain ⟨hd, _⟩ := Prod.mk.inj hx
  refine ⟨n, xs.map (·.1), hl, hd, by simpa using hlen, fun i hi => ?_⟩
  have hlt : i < xs.length := by omega
  exact ⟨xs[i].1, xs[i].2, by rw [List.getElem?_map, List.getElem?_eq_getElem hlt]; rfl, by rw [hf i hi]; exact List.getElem?_eq_getElem hlt⟩

theorem open_elsU {α : Type} {kd : Kd α} {wf : α → Prop} {bk : α → Nat} {e : TypeId} (ho : OpnU enc P W e kd wf bk) (hc : P.cellsOf e = kd.sz) (h0 : 0 < kd.sz) {a : Addr} {n : Nat} {held : Bool} {D : Nat → DataW H} {Pl : Nat → List MemPlace} : ∀ (len : Nat),
    (∀ i, i < len → ∃ cs', W.cells? 0 (a.add (i * P.cellsOf e)) (P.cellsOf e) = some cs' ∧ DataW.trod enc P W 0 (fun _ => true) held n e cs' = some (D i, Pl i)) →
    ∃ xs : List α, xs.length = len ∧ (∀ x ∈ xs, wf x) ∧ (xs.map bk).sum ≤ uptoBulkAll ((List.range len).map D) ∧ ∃ cs, RL kd (IW W) cs xs ∧ ∀ j v, cs[j]? = some v → W.cell? (a.add j) = some v
  | 0, _ => ⟨[], rfl, by simp, by simp, [], rfl, by simp⟩
  | len + 1, h => by
    obtain ⟨xs, hl, hw, hb, cs, hr, hv⟩ := open_elsU ho hc h0 len fun i hi => h i (by omega)
    obtain ⟨c1, h1, h2⟩ := h len (by omega)
    obtain ⟨y, hy, hwy, hby⟩ := ho _ _ _ _ _ h2
    obtain ⟨hl1, hg1⟩ := cells_get h1
    have hcl := hr.len
    refine ⟨xs ++ [y], by simp [hl], fun x hx => ?_, ?_, cs ++ c1, hr.app ⟨c1, [], by simp, hy, rfl⟩, fun j v hj => ?_⟩
    · rcases List.mem_append.1 hx with q | q
      · exact hw x q
      · simp at q; subst q; exact hwy
    · rw [List.range_succ]
      simp only [List.map_append, bulkAll_append, List.sum_append, List.map_cons, List.map_nil, List.sum_cons, List.sum_nil, bulkAll1, bulkAll0]
      omega
    · rcases Nat.lt_or_ge j cs.length with q | q
      · rw [List.getElem?_append_left q] at hj; exact hv j v hj
      · rw [List.getElem?_append_right q] at hj
        have := hg1 _ v hj
        rw [add_add, hc, ← hl, ← hcl] at this
        rwa [show cs.length + (j - cs.length) = j from by omega] at this

/-- A slice that came in. -/
theorem OpnU.sl {α : Type} {kd : Kd α} {wf : α → Prop} {bk : α → Nat} {t e : TypeId} (hu : P.underlying t = some (.slice e)) (ho : OpnU enc P W e kd wf bk) (hc : P.cellsOf e = kd.sz) (h0 : 0 < kd.sz) :
    OpnU enc P W t (Kd.sl kd) (fun xs => ∀ x ∈ xs, wf x) (fun xs => (xs.map bk).sum + 1) := fun held fuel cs0 d ps hf => by
  rcases Deep.open_slice hu hf with ⟨hcs, hd⟩ | ⟨a, l, c, m, n, D, Pl, hcs, _, hl, hm, hmm, hx0, hx⟩
  · subst hcs
    obtain ⟨rfl, _⟩ := Prod.mk.inj hd
    exact ⟨[], ⟨[Ro kd none 0 []], ⟨none, 0, rfl, rfl⟩, PersL.cons rfl ⟨Nat.zero_le _, [], rfl, .inl rfl⟩ PersL.nil⟩, by simp, by rw [bulk_nil]; simp⟩
  · subst hcs
    obtain ⟨hd, _⟩ := Prod.mk.inj hx0
    subst hd
    obtain ⟨xs, hlx, hw, hb, cs, hr, hv⟩ := open_elsU (n := n) (D := D) (Pl := Pl) (a := a) ho hc h0 l fun i hi => hx i (by rw [hmm]; simp; omega)
    refine ⟨xs, ⟨[Ro kd (some a) c xs], ⟨some a, c, by rw [hlx], rfl⟩, PersL.cons rfl ⟨by omega, cs, hr, ?_⟩ PersL.nil⟩, hw, by rw [bulk_slice]; show (xs.map bk).sum + 1 ≤ _; omega⟩
    by_cases hn : xs = []
    · exact .inl hn
    · right
      have hpos : 0 < cs.length := by
        rw [hr.len]
        exact Nat.mul_pos (List.length_pos_iff.2 hn) h0
      have hcell := hv 0 cs[0] (by simp [hpos])
      rw [Addr.add_zero'] at hcell
      unfold World.cell? at hcell
      cases hb : W.heap[a.block]? with
      | none => simp [hb] at hcell
      | some ob =>
        cases ob with
        | cells C T fr =>
          simp only [hb] at hcell
          have hs : a.spot = none := by
            cases hs : a.spot with
            | none => rfl
            | some q => simp [hs] at hcell
          have ea : a = ⟨a.block, a.off, none⟩ := by cases a; simp at hs; simp [hs]
          refine ⟨a.block, a.off, C, T, fr, by rw [← ea], hb, fun j v hj => ?_⟩
          have := hv j v hj
          rw [ea, Addr.add_lit, cell_of hb] at this
          exact this
        | _ => simp [hb] at hcell

theorem open_pU {α : Type} {kd : Kd α} {wf : α → Prop} {bk : α → Nat} {t : TypeId} {held : Bool} {v : Value} {d : DataW H} {ps : List MemPlace} (ho : OpnU enc P W t kd wf bk) (h : DataW.Trod enc P W 0 (fun _ => true) held t v d ps) : ∃ y : α, kd.R (IW W) v.cells.toList y ∧ wf y ∧ bk y ≤ uptoBulk d := by
  obtain ⟨fuel, hf⟩ := h
  exact ho _ _ _ _ _ hf
end
end Go.Proofs.Ytodkeoibebimgaa.SL

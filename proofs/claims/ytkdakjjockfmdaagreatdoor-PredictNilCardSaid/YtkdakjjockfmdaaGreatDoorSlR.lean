/- From a row's arguments to the atoms that a law's contract asks. -/
import Derived.Test.YtkdakjjockfmdaaGreatDoorSlP
import Derived.Test.YtkdakjjockfmdaaGreatDoorSl7
import Derived.Deep.Slices
import Derived.Carry
import Derived.SizedLaws
namespace Go.Proofs.YtkdakjjockfmdaaGreatDoor.SL
open Go Go.RowKit Go.ChangeShapes Go.WideShapes
set_option linter.unusedVariables false
set_option linter.unusedSimpArgs false

/-- All that the world bears when the call begins. -/
def IW (W : World) : Hp := fun b => W.heap[b]?
theorem IW_fits (W : World) : Fits (IW W) (fun _ => none) W := ⟨fun _ _ e => e, (fun _ _ e => by cases e), fun _ _ e => by cases e⟩

theorem row_calls {P : Program} {f : FuncId} {args : Array Value} {pre : List Asrt} {W : World} (h : SCA P f args pre (fun v B => v = .bool true ∧ B = [])) (hp : sepL pre (IW W) (fun _ => none)) :
    Calls P f args W fun e W' => e = .returned (.bool true) ∧ Below W.heap.size W W' :=
  (h _ _ W hp (IW_fits W)).mono fun x W' ⟨_, As', I', h', s', g, v, B, hx, hG, hv, _⟩ => by
    subst hv
    exact ⟨hx, g.os, g.tape, g.output, g.size, fun k hk => (g.kept k hk rfl).1⟩

theorem sep0 {I h : Hp} : sepL [] I h := trivial
theorem sepP {A : Asrt} {As : List Asrt} {I h : Hp} (hp : A.pers = true) (p : A.P I (fun _ => none)) (q : sepL As I h) : sepL (A :: As) I h := ⟨fun _ => none, h, Split.none_l h, p, q⟩

section
variable {H : Type} {enc : TypeId × Value → H} {P : Program} {W : World}

/-- No part of it is greater than any machine. -/
abbrev Sized (P : Program) (t : TypeId) (d : DataW H) : Prop := ∀ n ∈ d.weights P t, n ≤ 140737488351232
theorem sized_arg {ts : List TypeId} {dd : List (DataW H)} {j : Nat} {t : TypeId} {d : DataW H} (hsz : (DataW.weightsEach P ts dd).all (· ≤ reachBytes) = true) (ht : ts[j]? = some t) (hd : dd[j]? = some d) : Sized P t d := fun n hn => by
  have := List.all_eq_true.1 hsz n (DataW.weights_mem_each ht hd n hn)
  exact of_decide_eq_true this

/-- What reads as data of type t lies as the kind says. -/
def Opn {α : Type} (enc : TypeId × Value → H) (P : Program) (W : World) (t : TypeId) (kd : Kd α) (wf : α → Prop) : Prop :=
  ∀ (held : Bool) fuel cs d ps, DataW.trod enc P W 0 (fun _ => true) held fuel t cs = some (d, ps) → Sized P t d → ∃ y : α, kd.R (IW W) cs y ∧ wf y

theorem Opn.int {t : TypeId} {k : IntKind} (hu : P.underlying t = some (.int k)) : Opn enc P W t (Kd.int k) (fun y => (Lit.int k y).wf = true) := fun _ _ _ _ _ h _ => by
  obtain ⟨n, rfl, _, hw⟩ := DataW.trod_int hu h
  exact ⟨n, rfl, hw⟩
theorem Opn.bool {t : TypeId} (hu : P.underlying t = some .bool) : Opn enc P W t Kd.bool (fun _ => True) := fun _ _ _ _ _ h _ => by
  obtain ⟨n, rfl, _⟩ := DataW.trod_bool hu h
  exact ⟨n, rfl, trivial⟩
theorem Opn.str {t : TypeId} (hu : P.underlying t = some .string) : Opn enc P W t Kd.str (fun y => y.size ≤ 140737488351232) := fun _ _ _ _ _ h hs => by
  obtain ⟨n, rfl, hx, hw⟩ := DataW.trod_string hu h
  obtain ⟨hd, _⟩ := Prod.mk.inj hx
  refine ⟨n, rfl, ?_⟩
  subst hd
  have := hs n.data.toList.length (by simp [DataW.weights])
  rw [Array.length_toList] at this
  exact this
theorem trod_field {t : TypeId} {fs : Array Field} {held : Bool} {fuel : Nat} {cs : List Value} {d : DataW H} {ps : List MemPlace} (hu : P.underlying t = some (.struct fs)) (h : DataW.trod enc P W 0 (fun _ => true) held fuel t cs = some (d, ps)) (hs : Sized P t d) :
    ∃ n, cs.length = P.cellsOf t ∧ ∀ (i : Nat) (f : Field), fs[i]? = some f → ∃ d' ps', DataW.trod enc P W 0 (fun _ => true) held n f.type ((cs.drop f.offset).take (P.cellsOf f.type)) = some (d', ps') ∧ Sized P f.type d' := by
  obtain ⟨xs, n, _, hx, hl, hlen, hf⟩ := DataW.trod_struct hu h
  obtain ⟨hd, _⟩ := Prod.mk.inj hx
  refine ⟨n, hl, fun i f hi => ?_⟩
  have hlt : i < xs.length := by
    rw [hlen]
    rcases Nat.lt_or_ge i fs.size with q | q
    · exact q
    · simp [Array.getElem?_eq_none q] at hi
  refine ⟨xs[i].1, xs[i].2, by rw [hf i f hi]; exact List.getElem?_eq_getElem hlt, fun m hm => ?_⟩
  subst hd
  refine hs m ?_
  have e1 : (fs.toList.map (·.type))[i]? = some f.type := by
    rw [List.getElem?_map, Array.getElem?_toList, hi]; rfl
  have e2 : (xs.map (·.1))[i]? = some xs[i].1 := by rw [List.getElem?_map, List.getElem?_eq_getElem hlt]; rfl
  have := DataW.weights_mem_each (P := P) e1 e2 m hm
  simp only [DataW.weights, hu]
  exact this

theorem cells_get : ∀ {n : Nat} {base : Nat} {a : Addr} {cs : List Value}, W.cells? base a n = some cs → cs.length = n ∧ ∀ j v, cs[j]? = some v → W.cell? (a.add j) = some v := by
  intro n base a cs h
  obtain ⟨_, h1, h2⟩ := World.cells?_some h
  refine ⟨h1, fun j v hj => ?_⟩
  have hlt : j < n := by
    rw [← h1]
    rcases Nat.lt_or_ge j cs.length with q | q
    · exact q
    · simp [List.getElem?_eq_none q] at hj
  rw [h2 j hlt]; exact hj

theorem open_els {α : Type} {kd : Kd α} {wf : α → Prop} {e : TypeId} (ho : Opn enc P W e kd wf) (hc : P.cellsOf e = kd.sz) (h0 : 0 < kd.sz) {a : Addr} {n : Nat} {held : Bool} {D : Nat → DataW H} {Pl : Nat → List MemPlace} : ∀ (len : Nat),
    (∀ i, i < len → (∃ cs', W.cells? 0 (a.add (i * P.cellsOf e)) (P.cellsOf e) = some cs' ∧ DataW.trod enc P W 0 (fun _ => true) held n e cs' = some (D i, Pl i)) ∧ Sized P e (D i)) →
    ∃ xs : List α, xs.length = len ∧ (∀ x ∈ xs, wf x) ∧ ∃ cs, RL kd (IW W) cs xs ∧ ∀ j v, cs[j]? = some v → W.cell? (a.add j) = some v
  | 0, _ => ⟨[], rfl, by simp, [], rfl, by simp⟩
  | len + 1, h => by
    obtain ⟨xs, hl, hw, cs, hr, hv⟩ := open_els ho hc h0 len fun i hi => h i (by omega)
    obtain ⟨⟨c1, h1, h2⟩, hsz⟩ := h len (by omega)
    obtain ⟨y, hy, hwy⟩ := ho _ _ _ _ _ h2 hsz
    obtain ⟨hl1, hg1⟩ := cells_get h1
    have hcl := hr.len
    refine ⟨xs ++ [y], by simp [hl], fun x hx => ?_, cs ++ c1, hr.app ⟨c1, [], by simp, hy, rfl⟩, fun j v hj => ?_⟩
    · rcases List.mem_append.1 hx with q | q
      · exact hw x q
      · simp at q; subst q; exact hwy
    · rcases Nat.lt_or_ge j cs.length with q | q
      · rw [List.getElem?_append_left q] at hj; exact hv j v hj
      · rw [List.getElem?_append_right q] at hj
        have := hg1 _ v hj
        rw [add_add, hc, ← hl, ← hcl] at this
        rwa [show cs.length + (j - cs.length) = j from by omega] at this

theorem weightsAll_mem {e : TypeId} : ∀ {l : List (DataW H)} {d : DataW H} {m : Nat}, d ∈ l → m ∈ d.weights P e → m ∈ DataW.weightsAll P e l
  | [], _, _, h, _ => by simp at h
  | x :: l, d, m, h, hm => by
    simp only [DataW.weightsAll, List.mem_append]
    rcases List.mem_cons.1 h with q | q
    · subst q; exact .inl hm
    · exact .inr (weightsAll_mem q hm)

/-- A slice that came in. -/
theorem Opn.sl {α : Type} {kd : Kd α} {wf : α → Prop} {t e : TypeId} {B : Nat} (hu : P.underlying t = some (.slice e)) (ho : Opn enc P W e kd wf) (hc : P.cellsOf e = kd.sz) (h0 : 0 < kd.sz) (hB : P.bytesOf e = B) :
    Opn enc P W t (Kd.sl kd) (fun xs => xs.length * B ≤ 140737488351232 ∧ ∀ x ∈ xs, wf x) := fun held fuel cs0 d ps hf hs => by
  rcases Deep.open_slice hu hf with ⟨hcs, _⟩ | ⟨a, l, c, m, n, D, Pl, hcs, _, hl, hm, hmm, hx0, hx⟩
  · subst hcs
    exact ⟨[], ⟨[Ro kd none 0 []], ⟨none, 0, rfl, rfl⟩, PersL.cons rfl ⟨Nat.zero_le _, [], rfl, .inl rfl⟩ PersL.nil⟩, by simp, by simp⟩
  · subst hcs
    obtain ⟨hd, _⟩ := Prod.mk.inj hx0
    subst hd
    have hsz : ∀ i, i < l → Sized P e (D i) := fun i hi m' hm' => hs m' (by
      simp only [DataW.weights, hu]
      exact List.mem_cons_of_mem _ (List.mem_append_left _ (weightsAll_mem (List.mem_map.2 ⟨i, List.mem_range.2 hi, rfl⟩) hm')))
    have hlB : l * B ≤ 140737488351232 := by
      have z := hs ((((List.range l).map D).length + ((List.range (m - l)).map fun j => D (l + j)).length) * P.bytesOf e) (by
        simp only [DataW.weights, hu]; exact List.mem_cons_self ..)
      simp only [List.length_map, List.length_range, hB] at z
      exact Nat.le_trans (Nat.mul_le_mul_right _ (by omega)) z
    obtain ⟨xs, hlx, hw, cs, hr, hv⟩ := open_els (n := n) (D := D) (Pl := Pl) (a := a) ho hc h0 l fun i hi => ⟨hx i (by rw [hmm]; simp; omega), hsz i hi⟩
    refine ⟨xs, ⟨[Ro kd (some a) c xs], ⟨some a, c, by rw [hlx], rfl⟩, PersL.cons rfl ⟨by omega, cs, hr, ?_⟩ PersL.nil⟩, by rw [hlx]; exact hlB, hw⟩
    by_cases hn : xs = []
    · exact .inl hn
    · right
      have hpos : 0 < cs.length := by
        rw [hr.len]
        exact Nat.mul_pos (List.length_pos_iff.2 hn) h0
      have hcell := hv 0 cs[0] (by simp [hpos])
      rw [Addr.add_zero'] at hcell
      unfold World.cell? at hcell
      cases hb : W.heap[a.block]? with
      | none => simp [hb] at hcell
      | some ob =>
        cases ob with
        | cells C T fr =>
          simp only [hb] at hcell
          have hs : a.spot = none := by
            cases hs : a.spot with
            | none => rfl
            | some q => simp [hs] at hcell
          have ea : a = ⟨a.block, a.off, none⟩ := by cases a; simp at hs; simp [hs]
          refine ⟨a.block, a.off, C, T, fr, by rw [← ea], hb, fun j v hj => ?_⟩
          have := hv j v hj
          rw [ea, Addr.add_lit, cell_of hb] at this
          exact this
        | _ => simp [hb] at hcell

theorem open_p {α : Type} {kd : Kd α} {wf : α → Prop} {t : TypeId} {held : Bool} {v : Value} {d : DataW H} {ps : List MemPlace} (ho : Opn enc P W t kd wf) (h : DataW.Trod enc P W 0 (fun _ => true) held t v d ps) (hs : Sized P t d) : ∃ y : α, kd.R (IW W) v.cells.toList y ∧ wf y := by
  obtain ⟨fuel, hf⟩ := h
  exact ho _ _ _ _ _ hf hs
end
end Go.Proofs.YtkdakjjockfmdaaGreatDoor.SL

/- From a row's arguments to atoms, whole statements: arrays inside. -/
import Derived.Test.YtkdakjjockfmdaaGreatDoorSlR
import Derived.Test.YtkdakjjockfmdaaGreatDoorSlW
import Derived.OpenShut
namespace Go.Proofs.YtkdakjjockfmdaaGreatDoor.SL
open Go Go.RowKit Go.ChangeShapes Go.WideShapes
set_option linter.unusedVariables false
set_option linter.unusedSimpArgs false
section
variable {H : Type} {enc : TypeId × Value → H} {P : Program} {W : World}
theorem trod_item {t e : TypeId} {N : Nat} {held : Bool} {fuel : Nat} {cs : List Value} {d : DataW H} {ps : List MemPlace} (hu : P.underlying t = some (.array N e)) (h : DataW.trod enc P W 0 (fun _ => true) held fuel t cs = some (d, ps)) (hs : Sized P t d) :
    ∃ n, cs.length = P.cellsOf t ∧ ∀ (i : Nat), i < N → ∃ d' ps', DataW.trod enc P W 0 (fun _ => true) held n e ((cs.drop (i * P.cellsOf e)).take (P.cellsOf e)) = some (d', ps') ∧ Sized P e d' := by
  obtain ⟨xs, n, _, hx, hl, hlen, hf⟩ := DataW.trod_array hu h
  obtain ⟨hd, _⟩ := Prod.mk.inj hx
  refine ⟨n, hl, fun i hi => ?_⟩
  have hlt : i < xs.length := by omega
  refine ⟨xs[i].1, xs[i].2, by rw [hf i hi]; exact List.getElem?_eq_getElem hlt, fun m hm => ?_⟩
  subst hd
  refine hs m ?_
  have := weightsAll_mem (P := P) (e := e) (l := xs.map (·.1)) (d := xs[i].1) (m := m) (List.mem_map.2 ⟨xs[i], List.getElem_mem hlt, rfl⟩) hm
  simp only [DataW.weights, hu]
  exact this
end
end Go.Proofs.YtkdakjjockfmdaaGreatDoor.SL

/- GridFresh: what is handed in stays; what is answered is new memory. -/
import Derived.Test.YtodkeoibebimgaaGrDt
import Derived.Test.YtodkeoibebimgaaGrT8
namespace Go.Proofs.Ytodkeoibebimgaa.GrPure
open Go Go.RowKit Go.Proofs.Ytodkeoibebimgaa.SL Go.Proofs.Ytodkeoibebimgaa.Gr Go.Proofs.Ytodkeoibebimgaa.GrMay Go.Proofs.Ytodkeoibebimgaa.GrLs Go.Proofs.Ytodkeoibebimgaa.GrOp Go.Proofs.Ytodkeoibebimgaa.GrSp
set_option linter.unusedVariables false
set_option linter.unusedSimpArgs false

theorem l8 (r : S67 × Int) (hr : r.1.f2.length ≤ 262144) : ∀ (m k i : Nat) (Z : List S76), Z.length = r.1.f2.length → i + m = Z.length → m < k → F8.l0 r k (i : Int) Z = some ()
  | _, 0, _, _, _, _, hk => by omega
  | 0, k + 1, i, Z, hZ, hi, hk => by rw [F8.l0, if_pos hZ, if_neg (by omega)]
  | m + 1, k + 1, i, Z, hZ, hi, hk => by
    rw [F8.l0, if_pos hZ, if_pos (by omega), if_pos (by omega), wsucc (by omega)]
    exact l8 r hr m k (i + 1) _ (by rw [List.length_set]; exact hZ) (by rw [List.length_set]; omega) (by omega)
theorem l8b (r : S67 × Int) (hr : r.1.f2.length ≤ 262144) : ∀ (m k i : Nat) (Z : List S76), Z.length = r.1.f2.length → i + m = Z.length → m < k → F8.l1 r k (i : Int) Z = some ()
  | _, 0, _, _, _, _, hk => by omega
  | 0, k + 1, i, Z, hZ, hi, hk => by rw [F8.l1, if_pos hZ, if_neg (by omega)]
  | m + 1, k + 1, i, Z, hZ, hi, hk => by
    rw [F8.l1, if_pos hZ, if_pos (by omega), if_pos (by omega), wsucc (by omega)]
    exact l8b r hr m k (i + 1) _ (by rw [List.length_set]; exact hZ) (by rw [List.length_set]; omega) (by omega)
theorem row (g : S67) (a : S90) (w0 : wf67 g) (w1 : wf90 a) : ∃ k, F8.f k g a = some true := by
  obtain ⟨hg, hl⟩ := gr w0
  refine ⟨10000000000000, ?_⟩
  generalize hk : (10000000000000 : Nat) = k
  unfold F8.f
  have h1 := erase_len g a.f0 a.f1 a.f1 a.f4
  have h2 := resize_len g g.f0 g.f1 a.f4
  have e1 : F8.l0 (sErase g a.f0 a.f1 a.f1 a.f4) k 0 (sErase g a.f0 a.f1 a.f1 a.f4).1.f2 = some () := l8 _ h1 _ k 0 _ rfl (Nat.zero_add _) (by omega)
  have e2 : F8.l1 (sResize g g.f0 g.f1 a.f4) k 0 (sResize g g.f0 g.f1 a.f4).1.f2 = some () := l8b _ h2 _ k 0 _ rfl (Nat.zero_add _) (by omega)
  rw [f36 g hl]
  simp only [Option.bind_some]
  rw [f37 g hg _ _ _ _ k (by omega), f38 g hg _ _ _ k (by omega)]
  simp only [Option.bind_some, e1, e2]
  rw [f33 g hg _ _ _ _ k (by omega), f39 g hg _ _ _ _ k (by omega), anchored k (by omega)]
  simp only [Option.bind_some, if_true]
  rw [f40 g g (by omega) k (by omega), same_refl]
  simp only [Option.bind_some, if_true]
  rw [eqs (scroll_len _ _ _ _ _) k (by omega)]
  simp [lt]
end Go.Proofs.Ytodkeoibebimgaa.GrPure

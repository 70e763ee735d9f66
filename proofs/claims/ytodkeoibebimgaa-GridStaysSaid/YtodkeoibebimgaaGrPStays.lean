/- GridStays: what may be may be behind each call. -/
import Derived.Test.YtodkeoibebimgaaGrDt
import Derived.Test.YtodkeoibebimgaaGrT9
namespace Go.Proofs.Ytodkeoibebimgaa.GrPure
open Go Go.RowKit Go.Proofs.Ytodkeoibebimgaa.SL Go.Proofs.Ytodkeoibebimgaa.Gr Go.Proofs.Ytodkeoibebimgaa.GrMay Go.Proofs.Ytodkeoibebimgaa.GrLs Go.Proofs.Ytodkeoibebimgaa.GrOp Go.Proofs.Ytodkeoibebimgaa.GrSp
set_option linter.unusedVariables false
set_option linter.unusedSimpArgs false

def byte (x : S76) : Prop := 0 ≤ x.f2 ∧ x.f2 < 256
theorem byte_blk (s : S70) : byte (blk s) := by constructor <;> simp [blk]
theorem mend_all {W : List S76} (h : ∀ x ∈ W, byte x) : ∀ x ∈ mendL W, byte x := fun x hx => by
  unfold mendL at hx
  simp only [List.mem_map, List.mem_range] at hx
  obtain ⟨i, hi, rfl⟩ := hx
  unfold mendAt; split
  · exact byte_blk _
  · exact h _ (rd_mem hi)
theorem win_all {X : List S76} {o n : Nat} (h : ∀ x ∈ X, byte x) : ∀ x ∈ win X o n, byte x := fun x hx => h x (List.mem_of_mem_drop (List.mem_of_mem_take hx))
theorem over_all {X Y : List S76} {o : Nat} (h : ∀ x ∈ X, byte x) (h2 : ∀ x ∈ Y, byte x) : ∀ x ∈ over X o Y, byte x := fun x hx => by
  rcases over_mem hx with q | q
  · exact h x q
  · exact h2 x q
theorem rep_all {n : Nat} {s : S70} : ∀ x ∈ List.replicate n (blk s), byte x := fun x hx => by rw [(List.mem_replicate.1 hx).2]; exact byte_blk s
theorem slide_all {W : List S76} {d : Int} {s : S70} (h : ∀ x ∈ W, byte x) : ∀ x ∈ slide W d (blk s), byte x := fun x hx => by
  rcases slide_mem hx with q | q
  · exact h x q
  · rw [q]; exact byte_blk s
theorem onRow_all {g : S67} {row : Int} {f : List S76 → List S76} (h : ∀ x ∈ g.f2, byte x) (hf : ∀ W : List S76, (∀ x ∈ W, byte x) → ∀ x ∈ f W, byte x) : ∀ x ∈ (onRow g row f).1.f2, byte x :=
  over_all h (mend_all (hf _ (win_all h)))
theorem no_all : ∀ x ∈ no.1.f2, byte x := fun x hx => by simp [no] at hx
theorem write_all {g : S67} {row col : Int} {s : S70} {l : List S76} (h : ∀ x ∈ g.f2, byte x) (hl : ∀ x ∈ l, byte x) : ∀ x ∈ (sWrite g row col s l).1.f2, byte x := by
  unfold sWrite; split
  · exact onRow_all h fun W hW => over_all hW fun x hx => hl x (List.mem_of_mem_take hx)
  · exact no_all
theorem erase_all {g : S67} {row a b : Int} {s : S70} (h : ∀ x ∈ g.f2, byte x) : ∀ x ∈ (sErase g row a b s).1.f2, byte x := by
  unfold sErase; split
  · exact onRow_all h fun W hW => over_all hW rep_all
  · exact no_all
theorem shift_all {g : S67} {row a d : Int} {s : S70} (h : ∀ x ∈ g.f2, byte x) : ∀ x ∈ (sShift g row a d s).1.f2, byte x := by
  unfold sShift; split
  · exact onRow_all h fun W hW => over_all hW (slide_all fun x hx => hW x (List.mem_of_mem_drop hx))
  · exact no_all
theorem scroll_all {g : S67} {t u d : Int} {s : S70} (h : ∀ x ∈ g.f2, byte x) : ∀ x ∈ (sScroll g t u d s).1.f2, byte x := by
  unfold sScroll; split
  · exact over_all h (slide_all (win_all h))
  · exact no_all
theorem res_all {X : List S76} {w w' : Nat} (h : ∀ x ∈ X, byte x) : ∀ (n i : Nat) (Z : List S76), (∀ x ∈ Z, byte x) → ∀ x ∈ resL X w w' n i Z, byte x
  | 0, i, Z, hZ => hZ
  | n + 1, i, Z, hZ => res_all h n (i + 1) _ (over_all hZ (mend_all (over_all (win_all hZ) fun x hx => win_all h x (List.mem_of_mem_take hx))))
theorem resize_all {g : S67} {c r : Int} {s : S70} (h : ∀ x ∈ g.f2, byte x) : ∀ x ∈ (sResize g c r s).1.f2, byte x := by
  unfold sResize; split
  · exact res_all h _ _ _ rep_all
  · exact no_all
theorem grr {r : S67 × Int} (h1 : r.1.f2.length ≤ 262144) (h2 : ∀ x ∈ r.1.f2, byte x) : Gr r.1 := ⟨by omega, h2⟩
theorem l9 (l : List S90) (hl : ∀ y ∈ l, (∀ x ∈ y.f5, byte x) ∧ y.f5.length ≤ 2932031007402) (hL : l.length < 4611686018427387904) : ∀ (m k i : Nat) (g : S67), i + m = l.length → mayGrid g = true → Gr g → 5000000000000 + m ≤ k →
    F9.l0 l k g (i : Int) = some (Out.go ())
  | _, 0, _, _, _, _, _, hk => by omega
  | 0, k + 1, i, g, hi, _, _, hk => by rw [F9.l0, if_neg (by omega)]
  | m + 1, k + 1, i, g, hi, hm, hg, hk => by
    have ih := l9 l hl hL m k (i + 1)
    have cont : ∀ r : S67 × Int, (r.2 = 0 → mayGrid r.1 = true) → Gr r.1 → (if r.2 ≠ 0 then (lt (IntKind.i64.wrap ((i : Int) + 1)) fun n69 => F9.l0 l k g n69) else ((F41.f k r.1).bind (fun r70 => (if (!r70) = true then (some true) else ((F30.f k r.1).bind (fun r73 => some (!r73))) : Option Bool).bind (fun q71 => if q71 = true then (some (Out.ret (false))) else (lt (IntKind.i64.wrap ((i : Int) + 1)) fun n77 => F9.l0 l k r.1 n77))))) = some (Out.go ()) := by
      intro r h1 h2
      rw [wsucc (by omega)]
      simp only [lt]
      by_cases hr : r.2 = 0
      · rw [if_neg (by simpa using hr), f41w _ h2 k (by omega), h1 hr]
        simp only [Option.bind_some, Bool.not_true, Bool.false_eq_true, if_false, f30w _ h2 k (by omega), h1 hr]
        exact ih r.1 (by omega) (h1 hr) h2 (by omega)
      · rw [if_pos hr]; exact ih g (by omega) hm hg (by omega)
    have hi2 : i < l.length := by omega
    obtain ⟨ha, hb⟩ := hl _ (List.getElem_mem hi2)
    rw [← rd_lt hi2] at ha hb
    have hw := hg.wide
    rw [F9.l0, if_pos (by omega), if_pos (by omega)]
    generalize rd l (i : Int) = y at ha hb ⊢
    by_cases c0 : (i : Int).tmod 5 = 0
    · rw [if_pos c0, f42 g hg _ _ _ _ ha (by omega) k (by omega)]
      exact cont (sWrite g y.f0 y.f1 y.f4 y.f5) write_may (grr (write_len _ _ _ _ _) (write_all hw ha))
    rw [if_neg c0]
    by_cases c1 : (i : Int).tmod 5 = 1
    · rw [if_pos c1, f37 g hg _ _ _ _ k (by omega)]
      exact cont (sErase g y.f0 y.f1 y.f2 y.f4) erase_may (grr (erase_len _ _ _ _ _) (erase_all hw))
    rw [if_neg c1]
    by_cases c2 : (i : Int).tmod 5 = 2
    · rw [if_pos c2, f43 g hg _ _ _ _ k (by omega)]
      exact cont (sShift g y.f0 y.f1 y.f3 y.f4) shift_may (grr (shift_len2 _ _ _ _ _) (shift_all hw))
    rw [if_neg c2]
    by_cases c3 : (i : Int).tmod 5 = 3
    · rw [if_pos c3, f33 g hg _ _ _ _ k (by omega)]
      exact cont (sScroll g y.f0 y.f2 y.f3 y.f4) scroll_may (grr (scroll_len _ _ _ _ _) (scroll_all hw))
    rw [if_neg c3]
    by_cases c4 : (i : Int).tmod 5 = 4
    · rw [if_pos c4, f38 g hg _ _ _ k (by omega)]
      exact cont (sResize g y.f2 y.f1 y.f4) resize_may (grr (resize_len _ _ _ _) (resize_all hw))
    rw [if_neg c4]
    exact cont (g, 0) (fun _ => hm) hg
theorem row (g : S67) (l : List S90) (w0 : wf67 g) (w1 : l.length * 80 ≤ 140737488351232 ∧ ∀ y_ ∈ l, wf90 y_) : ∃ k, F9.f k g l = some true := by
  obtain ⟨hg, hl⟩ := gr w0
  refine ⟨5000000000000 + l.length, ?_⟩
  generalize hk : (5000000000000 + l.length : Nat) = k
  unfold F9.f
  rw [f30w g hg k (by omega), anchored k (by omega), f41w g hg k (by omega)]
  cases hm : mayGrid g
  · simp
  · have h9 := l9 l (fun y hy => by
      have w5 := (w1.2 y hy).2.2.2.2.2
      exact ⟨wide8 w5.2, by omega⟩) (by omega) l.length k 0 g (by omega) hm hg (by omega)
    rw [show F9.l0 l k g 0 = _ from h9]
    simp [el_g]
end Go.Proofs.Ytodkeoibebimgaa.GrPure

/- A machine that reckons: what a step leaves alone is read alike. -/
import Derived.Test.YtkdakjjockfmdaaGreatDoorXP
namespace Go.Proofs.YtkdakjjockfmdaaGreatDoor.XC
open Go Go.RowKit Go.Proofs.YtkdakjjockfmdaaGreatDoor.SL
set_option linter.unusedVariables false
set_option linter.unusedSimpArgs false
section
variable {σ : List Ad} {s : St} {I h : Hp} {As : List Asrt} {e : Env} {w : World}
/-- Flat kinds: the cells hang on the datum alone. -/
theorem flat_one2 : ∀ (t : Ty) {I I' : Hp} {c c' : List Value} {x : t.den}, t.flat = true → (kdOf t).R I c x → (kdOf t).R I' c' x → c = c'
  | .int _, _, _, _, _, _, _, h, h' => Eq.trans h (Eq.symm h')
  | .bool, _, _, _, _, _, _, h, h' => Eq.trans h (Eq.symm h')
  | .str, _, _, _, _, _, _, h, h' => Eq.trans h (Eq.symm h')
  | .u, _, _, _, _, _, _, h, h' => Eq.trans h (Eq.symm h')
  | .sl _, _, _, _, _, _, hf, _, _ => by cases hf
  | .p a b, _, _, _, _, _, hf, ⟨c1, c2, e, h1, h2⟩, ⟨d1, d2, e', h1', h2'⟩ => by
    simp only [Ty.flat, Bool.and_eq_true] at hf
    rw [e, e', flat_one2 a hf.1 h1 h1', flat_one2 b hf.2 h2 h2']
theorem flat_RL2 {t : Ty} {I I' : Hp} (hf : t.flat = true) : ∀ {xs : List t.den} {c c' : List Value}, RL (kdOf t) I c xs → RL (kdOf t) I' c' xs → c = c'
  | [], _, _, h, h' => Eq.trans h (Eq.symm h')
  | x :: xs, _, _, ⟨c1, c2, e, h1, h2⟩, ⟨d1, d2, e', h1', h2'⟩ => by rw [e, e', flat_one2 t hf h1 h1', flat_RL2 hf h2 h2']

theorem same_of {σ' : List Ad} {s' : St} {I' h' : Hp} {As' : List Asrt} {e' : Env} {w' : World} {k : Nat} (S : SR σ s I h As e) (F : Fits I h w) (S' : SR σ' s' I' h' As' e') (F' : Fits I' h' w') (hp : ∃ τ, σ' = σ ++ τ)
    (hA : As'[k]? = As[k]?) (hk : k < s.n) (hf : pinned s.L k = true) : Same σ s.L k w w' := by
  constructor
  · intro a T cs ha hL
    obtain ⟨a', vs, ha', _, hA1, _, hw⟩ := blk_at S F hL
    rw [ha] at ha'; cases ha'
    rw [← hA] at hA1
    obtain ⟨h1, l, p, _⟩ := sepL_at hA1 S'.sep
    rw [hw, F'.own _ _ (l _ _ p)]
  · intro a t E xs ha hL b off j v hb hj hv
    unfold pinned at hf
    rw [hL] at hf
    obtain ⟨A, hA1, a', ha', rfl⟩ := S.at_ k _ hL
    rw [ha] at ha'; cases ha'
    obtain ⟨h1, l, ⟨cs, hr, hx⟩, _⟩ := sepL_at hA1 S.sep
    rw [← hA] at hA1
    obtain ⟨h1', l', ⟨cs', hr', hx'⟩, _⟩ := sepL_at hA1 S'.sep
    have hc := flat_RL2 hf hr hr'
    subst hc
    rcases hx with ⟨_, _, q⟩ | ⟨g, cur, q, ⟨fr, hg, _⟩, _, _, hs, ht⟩
    · subst q; simp at hj
    · rcases hx' with ⟨_, _, q'⟩ | ⟨g', cur', q', ⟨fr', hg', _⟩, _, _, hs', ht'⟩
      · subst q'; simp at hj
      · rw [q] at hb q'
        cases hb; cases q'
        rw [cell_of (F.own _ _ (l _ _ hg))] at hv
        rw [cell_of (F'.own _ _ (l' _ _ hg'))]
        rw [Nat.zero_add] at hv ⊢
        have e1 : (cur.toList.take (xs.length * (kdOf t).sz))[j]? = some v := by
          rw [List.getElem?_take, if_pos hj]; simpa using hv
        rw [ht, ← ht', List.getElem?_take, if_pos hj] at e1
        simpa using e1
end
end Go.Proofs.YtkdakjjockfmdaaGreatDoor.XC

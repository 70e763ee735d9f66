/- A machine that reckons: what its values mean. -/
import Derived.Test.YtkdakjjockfmdaaGreatDoorXA
namespace Go.Proofs.YtkdakjjockfmdaaGreatDoor.XC
open Go Go.RowKit Go.Proofs.YtkdakjjockfmdaaGreatDoor.SL
set_option linter.unusedVariables false
set_option linter.unusedSimpArgs false

/-! ### the table -/
section
variable {α : Type}
theorem Tb.getF_e : ∀ (f k : Nat), Tb.getF f (.e : Tb α) k = none
  | 0, _ => rfl
  | _ + 1, _ => rfl
theorem Tb.getF_setF (x : α) : ∀ (f : Nat) (t : Tb α) (k k' f' : Nat), k < f → k' < f' → Tb.getF f' (Tb.setF x f t k) k' = if k = k' then some x else Tb.getF f' t k'
  | 0, _, _, _, _, h, _ => by omega
  | _, _, _, _, 0, _, h => by omega
  | f + 1, t, k, k', f' + 1, h, h' => by
    have key : ∀ (v : Option α) (l r : Tb α), (∀ q, Tb.getF f' l q = Tb.getF f' l q) →
        Tb.getF (f' + 1) (bif Nat.beq k 0 then .n (some x) l r else bif Nat.beq (k % 2) 0 then .n v (Tb.setF x f l (k / 2)) r else .n v l (Tb.setF x f r (k / 2))) k' =
          if k = k' then some x else Tb.getF (f' + 1) (.n v l r) k' := by
      intro v l r _
      by_cases hk : k = 0
      · subst hk
        by_cases hk' : k' = 0
        · subst hk'; simp [Tb.getF]
        · have : Nat.beq k' 0 = false := beq_no hk'
          simp [Tb.getF, this, Ne.symm hk', hk']
      · have b0 : Nat.beq k 0 = false := beq_no hk
        by_cases hp : k % 2 = 0
        · have b1 : Nat.beq (k % 2) 0 = true := by rw [hp]; rfl
          simp only [b0, b1, cond_false, cond_true]
          by_cases hk' : k' = 0
          · subst hk'; simp [Tb.getF, hk]
          · have b2 : Nat.beq k' 0 = false := beq_no hk'
            by_cases hp' : k' % 2 = 0
            · have b3 : Nat.beq (k' % 2) 0 = true := by rw [hp']; rfl
              simp only [Tb.getF, b2, b3, cond_false, cond_true]
              rw [Tb.getF_setF x f l (k / 2) (k' / 2) f' (by omega) (by omega)]
              by_cases e : k = k'
              · simp [e]
              · have : ¬ k / 2 = k' / 2 := by omega
                simp [e, this]
            · have b3 : Nat.beq (k' % 2) 0 = false := beq_no hp'
              have e : ¬ k = k' := fun e => by subst e; exact hp' hp
              simp [Tb.getF, b2, b3, e]
        · have b1 : Nat.beq (k % 2) 0 = false := beq_no hp
          simp only [b0, b1, cond_false]
          by_cases hk' : k' = 0
          · subst hk'; simp [Tb.getF, hk]
          · have b2 : Nat.beq k' 0 = false := beq_no hk'
            by_cases hp' : k' % 2 = 0
            · have b3 : Nat.beq (k' % 2) 0 = true := by rw [hp']; rfl
              have e : ¬ k = k' := fun e => by subst e; exact hp hp'
              simp [Tb.getF, b2, b3, e]
            · have b3 : Nat.beq (k' % 2) 0 = false := beq_no hp'
              simp only [Tb.getF, b2, b3, cond_false]
              rw [Tb.getF_setF x f r (k / 2) (k' / 2) f' (by omega) (by omega)]
              by_cases e : k = k'
              · simp [e]
              · have : ¬ k / 2 = k' / 2 := by omega
                simp [e, this]
    cases t with
    | n v l r => exact key v l r fun _ => rfl
    | e =>
      have := key none .e .e fun _ => rfl
      have he : Tb.getF (f' + 1) (.n none .e .e : Tb α) k' = Tb.getF (f' + 1) .e k' := by
        simp only [Tb.getF, Tb.getF_e]
        cases Nat.beq k' 0 <;> cases Nat.beq (k' % 2) 0 <;> rfl
      rw [he] at this
      exact this
theorem L8.get_set (x : L8 α) (v : α) {d d' : Nat} (h : d < 8) (h' : d' < 8) : (x.set v d).get d' = if d = d' then v else x.get d' := by
  match d, h with
  | 0, _ | 1, _ | 2, _ | 3, _ | 4, _ | 5, _ | 6, _ | 7, _ => match d', h' with | 0, _ | 1, _ | 2, _ | 3, _ | 4, _ | 5, _ | 6, _ | 7, _ => rfl
theorem L8.get_all (v : α) : ∀ d, (L8.all v).get d = v
  | 0 | 1 | 2 | 3 | 4 | 5 | 6 => rfl
  | _ + 7 => rfl
theorem Te.get_set (t : Te α) (k : Nat) (x : α) (k' : Nat) : (t.set k x).get k' = if k = k' then some x else t.get k' := by
  unfold Te.get Te.set
  cases hk : Nat.ble 512 k with
  | true =>
    cases hk' : Nat.ble 512 k' with
    | true => exact Tb.getF_setF x (k + 1) t.hi k k' (k' + 1) (by omega) (by omega)
    | false => rw [if_neg (by intro e; subst e; rw [hk] at hk'; cases hk')]; rfl
  | false =>
    have lk : k < 512 := by
      rcases Nat.lt_or_ge k 512 with q | q
      · exact q
      · rw [Nat.ble_eq_true_of_le q] at hk; cases hk
    cases hk' : Nat.ble 512 k' with
    | true => rw [if_neg (by intro e; subst e; rw [hk] at hk'; cases hk')]; rfl
    | false =>
      have lk' : k' < 512 := by
        rcases Nat.lt_or_ge k' 512 with q | q
        · exact q
        · rw [Nat.ble_eq_true_of_le q] at hk'; cases hk'
      simp only [cond_false]
      rw [L8.get_set _ _ (by omega) (by omega)]
      by_cases e1 : k / 64 = k' / 64
      · rw [if_pos e1, L8.get_set _ _ (by omega) (by omega)]
        by_cases e2 : k / 8 % 8 = k' / 8 % 8
        · rw [if_pos e2, L8.get_set _ _ (by omega) (by omega)]
          by_cases e3 : k % 8 = k' % 8
          · rw [if_pos e3, if_pos (by omega)]
          · rw [if_neg e3, if_neg (by intro e; subst e; exact e3 rfl), e1, e2]
        · rw [if_neg e2, if_neg (by intro e; subst e; exact e2 rfl), e1]
      · rw [if_neg e1, if_neg (by intro e; subst e; exact e1 rfl)]
theorem Te.get_e (k : Nat) : (Te.e : Te α).get k = none := by
  unfold Te.get Te.e
  cases Nat.ble 512 k with
  | true => exact Tb.getF_e _ _
  | false => simp only [cond_false, L8.get_all]
theorem Tr.get_set (t : Tr α) (k : Nat) (x : α) (k' : Nat) : (t.set k x).get k' = if k = k' then some x else t.get k' := by
  unfold Tr.get Tr.set
  cases hk : Nat.ble 32768 k with
  | true =>
    cases hk' : Nat.ble 32768 k' with
    | true => exact Tb.getF_setF x (k + 1) t.hi k k' (k' + 1) (by omega) (by omega)
    | false => rw [if_neg (by intro e; subst e; rw [hk] at hk'; cases hk')]; rfl
  | false =>
    have lk : k < 32768 := by
      rcases Nat.lt_or_ge k 32768 with q | q
      · exact q
      · rw [Nat.ble_eq_true_of_le q] at hk; cases hk
    cases hk' : Nat.ble 32768 k' with
    | true => rw [if_neg (by intro e; subst e; rw [hk] at hk'; cases hk')]; rfl
    | false =>
      have lk' : k' < 32768 := by
        rcases Nat.lt_or_ge k' 32768 with q | q
        · exact q
        · rw [Nat.ble_eq_true_of_le q] at hk'; cases hk'
      simp only [cond_false]
      rw [L8.get_set _ _ (by omega) (by omega)]
      by_cases e1 : k / 4096 = k' / 4096
      · rw [if_pos e1, L8.get_set _ _ (by omega) (by omega)]
        by_cases e2 : k / 512 % 8 = k' / 512 % 8
        · rw [if_pos e2, L8.get_set _ _ (by omega) (by omega)]
          by_cases e3 : k / 64 % 8 = k' / 64 % 8
          · rw [if_pos e3, L8.get_set _ _ (by omega) (by omega)]
            by_cases e4 : k / 8 % 8 = k' / 8 % 8
            · rw [if_pos e4, L8.get_set _ _ (by omega) (by omega)]
              by_cases e5 : k % 8 = k' % 8
              · rw [if_pos e5, if_pos (by omega)]
              · rw [if_neg e5, if_neg (by intro e; subst e; exact e5 rfl), e1, e2, e3, e4]
            · rw [if_neg e4, if_neg (by intro e; subst e; exact e4 rfl), e1, e2, e3]
          · rw [if_neg e3, if_neg (by intro e; subst e; exact e3 rfl), e1, e2]
        · rw [if_neg e2, if_neg (by intro e; subst e; exact e2 rfl), e1]
      · rw [if_neg e1, if_neg (by intro e; subst e; exact e1 rfl)]
theorem Tr.get_e (k : Nat) : (Tr.e : Tr α).get k = none := by
  unfold Tr.get Tr.e
  cases Nat.ble 32768 k with
  | true => exact Tb.getF_e _ _
  | false => simp only [cond_false, L8.get_all]
end

/-! ### kinds -/
def Kd.unit : Kd Unit := ⟨0, fun _ cs _ => cs = [], fun h => by rw [h]; rfl, fun h v hv => (by rw [h] at hv; cases hv), fun _ h => h, false⟩
def Kd.pair {α β : Type} (a : Kd α) (b : Kd β) : Kd (α × β) :=
  ⟨a.sz + b.sz, fun I cs x => ∃ c1 c2, cs = c1 ++ c2 ∧ a.R I c1 x.1 ∧ b.R I c2 x.2,
   fun ⟨_, _, e, h1, h2⟩ => by rw [e, List.length_append, a.len h1, b.len h2],
   fun ⟨_, _, e, h1, h2⟩ v hv => by
     rw [e] at hv
     rcases List.mem_append.1 hv with k | k
     · exact a.one h1 v k
     · exact b.one h2 v k,
   fun hI ⟨c1, c2, e, h1, h2⟩ => ⟨c1, c2, e, a.mono hI h1, b.mono hI h2⟩, false⟩
def kdOf : (t : Ty) → Kd t.den
  | .int k => Kd.int k | .bool => Kd.bool | .str => Kd.str | .sl t => Kd.sl (kdOf t) | .u => Kd.unit | .p a b => Kd.pair (kdOf a) (kdOf b)
theorem kdOf_sz : ∀ t : Ty, (kdOf t).sz = t.sz
  | .int _ => rfl | .bool => rfl | .str => rfl | .sl _ => rfl | .u => rfl
  | .p a b => by show (kdOf a).sz + (kdOf b).sz = a.sz + b.sz; rw [kdOf_sz a, kdOf_sz b]

/-! ### what values mean -/
structure Ad where
  b : Nat
  A : Option Addr
  c : Nat
def IsSl (L : Tr At) (h : Nat) (t : Ty) (E : TypeId) (xs : List t.den) : Prop := L.get h = some (.buf t E xs) ∨ L.get h = some (.fz t E xs)

mutual
def VR (σ : List Ad) (L : Tr At) (I : Hp) : SV → Value → Prop
  | .int k n, v => v = .int k n
  | .bool b, v => v = .bool b
  | .str s, v => v = .string s
  | .ptr h off, v => ∃ a, σ[h]? = some a ∧ v = .pointer (some ((⟨a.b, 0, none⟩ : Addr).add off))
  | .el h sz i off, v => ∃ a, σ[h]? = some a ∧ v = .pointer (some ((el a.A (i.toNat * sz)).add off))
  | .nilp, v => v = .pointer none
  | .er t xs i off, v => ∃ A c, v = .pointer (some ((el A (i.toNat * t.sz)).add off)) ∧ RoP (kdOf t) A c xs I
  | .rv t xs, v => ∃ A c, v = .slice A xs.length c ∧ RoP (kdOf t) A c xs I
  | .sl h, v => h < σ.length ∧ (∃ A n c, v = .slice A n c) ∧ ∀ t E xs, IsSl L h t E xs → ∃ a, σ[h]? = some a ∧ v = .slice a.A xs.length a.c
  | .win h lo n, v => h < σ.length ∧ (∃ A n c, v = .slice A n c) ∧ ∀ t E xs, IsSl L h t E xs → ∃ a V c, σ[h]? = some a ∧ Win a.A V t.sz lo n c ∧ v = .slice V n.toNat c ∧ lo + n ≤ (xs.length : Int)
  | .nils, v => v = .slice none 0 0
  | .bw h off t n c, v => ∃ a A, σ[h]? = some a ∧ v = .slice (some A) n c ∧ (c = 0 ∨ A = (⟨a.b, 0, none⟩ : Addr).add off) ∧ n ≤ c
  | .agg l, v => ∃ vs, v = .agg vs ∧ VRs σ L I l vs.toList
  | .tup l, v => ∃ vs, v = .tuple vs ∧ VRs σ L I l vs.toList
  | .fn f l, v => ∃ vs, v = .func (.func f) #[] vs ∧ VRs σ L I l vs.toList
  | .nilf, v => v = .nilFunc
  | .nilm, v => v = .map none
  | .nili, v => v = .nilIface
  | .ud, v => v = undef
  | .un, _ => True
  | .mp h, v => ∃ a, σ[h]? = some a ∧ v = .map (some a.b)
  | .e0 nn, v => ∃ A, v = .slice A 0 0 ∧ (nn = true → ∃ B, A = some B)
def VRs (σ : List Ad) (L : Tr At) (I : Hp) : List SV → List Value → Prop
  | [], vs => vs = []
  | s :: l, vs => ∃ v r, vs = v :: r ∧ VR σ L I s v ∧ VRs σ L I l r
end

/-- Slices keep their lengths, or go. -/
def Lm (n : Nat) (L L' : Tr At) : Prop := ∀ h, h < n → ∀ t E xs', IsSl L' h t E xs' → ∃ xs : List t.den, IsSl L h t E xs ∧ xs.length = xs'.length
theorem Lm.refl (n : Nat) (L : Tr At) : Lm n L L := fun _ _ _ _ xs h => ⟨xs, h, rfl⟩
theorem Lm.trans {n n' : Nat} {L1 L2 L3 : Tr At} (a : Lm n L1 L2) (b : Lm n' L2 L3) (h : n ≤ n') : Lm n L1 L3 := fun k hk t E xs hx => by
  obtain ⟨ys, hy, e⟩ := b k (Nat.lt_of_lt_of_le hk h) t E xs hx
  obtain ⟨zs, hz, e'⟩ := a k hk t E ys hy
  exact ⟨zs, hz, e'.trans e⟩

theorem pre_get {σ τ : List Ad} {h : Nat} {a : Ad} (k : σ[h]? = some a) : (σ ++ τ)[h]? = some a := by
  have : h < σ.length := by
    rcases Nat.lt_or_ge h σ.length with q | q
    · exact q
    · simp [List.getElem?_eq_none q] at k
  rw [List.getElem?_append_left this]; exact k

mutual
theorem VR.mono {σ τ : List Ad} {L L' : Tr At} {I I' : Hp} (hI : Le I I') (hL : Lm σ.length L L') : ∀ {s : SV} {v : Value}, VR σ L I s v → VR (σ ++ τ) L' I' s v
  | .int _ _, _, h => h
  | .bool _, _, h => h
  | .str _, _, h => h
  | .ptr _ _, _, ⟨a, h, e⟩ => ⟨a, pre_get h, e⟩
  | .el _ _ _ _, _, ⟨a, h, e⟩ => ⟨a, pre_get h, e⟩
  | .nilp, _, h => h
  | .er t xs i o, _, ⟨A, c, e, h⟩ => ⟨A, c, e, (Ro (kdOf t) A c xs).mono (h := fun _ => none) hI h⟩
  | .rv t xs, _, ⟨A, c, e, h⟩ => ⟨A, c, e, (Ro (kdOf t) A c xs).mono (h := fun _ => none) hI h⟩
  | .sl h, v, ⟨h1, h0, h2⟩ => ⟨by rw [List.length_append]; omega, h0, fun t E xs k => by
      obtain ⟨ys, hy, e⟩ := hL h h1 t E xs k
      obtain ⟨a, ha, hv⟩ := h2 t E ys hy
      exact ⟨a, pre_get ha, by rw [hv, e]⟩⟩
  | .win h lo n, v, ⟨h1, h0, h2⟩ => ⟨by rw [List.length_append]; omega, h0, fun t E xs k => by
      obtain ⟨ys, hy, e⟩ := hL h h1 t E xs k
      obtain ⟨a, V, c, ha, hw, hv, hl⟩ := h2 t E ys hy
      exact ⟨a, V, c, pre_get ha, hw, hv, by rw [← e]; exact hl⟩⟩
  | .nils, _, h => h
  | .bw _ _ _ _ _, _, ⟨a, A, h, k⟩ => ⟨a, A, pre_get h, k⟩
  | .agg _, _, ⟨vs, e, h⟩ => ⟨vs, e, VRs.mono hI hL h⟩
  | .tup _, _, ⟨vs, e, h⟩ => ⟨vs, e, VRs.mono hI hL h⟩
  | .fn _ _, _, ⟨vs, e, h⟩ => ⟨vs, e, VRs.mono hI hL h⟩
  | .nilf, _, h => h
  | .nilm, _, h => h
  | .nili, _, h => h
  | .ud, _, h => h
  | .un, _, _ => trivial
  | .mp _, _, ⟨a, h, e⟩ => ⟨a, pre_get h, e⟩
  | .e0 _, _, h => h
theorem VRs.mono {σ τ : List Ad} {L L' : Tr At} {I I' : Hp} (hI : Le I I') (hL : Lm σ.length L L') : ∀ {l : List SV} {vs : List Value}, VRs σ L I l vs → VRs (σ ++ τ) L' I' l vs
  | [], _, h => h
  | _ :: _, _, ⟨v, r, e, h1, h2⟩ => ⟨v, r, e, VR.mono hI hL h1, VRs.mono hI hL h2⟩
end

section
variable {σ : List Ad} {L : Tr At} {I : Hp}
theorem VRs.len : ∀ {l : List SV} {vs : List Value}, VRs σ L I l vs → vs.length = l.length
  | [], _, h => by rw [show _ = [] from h]; rfl
  | _ :: l, _, ⟨v, r, e, _, h⟩ => by rw [e, List.length_cons, VRs.len h, List.length_cons]
theorem VRs.app : ∀ {l m : List SV} {vs ws : List Value}, VRs σ L I l vs → VRs σ L I m ws → VRs σ L I (l ++ m) (vs ++ ws)
  | [], _, _, _, h, k => by rw [show _ = [] from h]; exact k
  | _ :: _, _, _, _, ⟨v, r, e, h1, h2⟩, k => ⟨v, r ++ _, by rw [e]; rfl, h1, VRs.app h2 k⟩
theorem VRs.split : ∀ {l m : List SV} {vs : List Value}, VRs σ L I (l ++ m) vs → ∃ v1 v2, vs = v1 ++ v2 ∧ VRs σ L I l v1 ∧ VRs σ L I m v2
  | [], _, vs, h => ⟨[], vs, rfl, rfl, h⟩
  | _ :: l, m, vs, ⟨v, r, e, h1, h2⟩ => by
    obtain ⟨v1, v2, e2, a, b⟩ := VRs.split (l := l) h2
    exact ⟨v :: v1, v2, by rw [e, e2]; rfl, ⟨v, v1, rfl, h1, a⟩, b⟩
theorem VRs.get : ∀ {l : List SV} {vs : List Value} {i : Nat} {s : SV}, VRs σ L I l vs → l[i]? = some s → ∃ v, vs[i]? = some v ∧ VR σ L I s v
  | [], _, _, _, _, h => by simp at h
  | _ :: _, _, 0, _, ⟨v, r, e, h1, _⟩, h => by
    simp at h; subst h; exact ⟨v, by rw [e]; rfl, h1⟩
  | _ :: l, _, i + 1, _, ⟨v, r, e, _, h2⟩, h => by
    obtain ⟨w, hw, k⟩ := VRs.get (l := l) (i := i) h2 (by simpa using h)
    exact ⟨w, by rw [e]; simpa using hw, k⟩
theorem VRs.take : ∀ {l : List SV} {vs : List Value} (n : Nat), VRs σ L I l vs → VRs σ L I (l.take n) (vs.take n)
  | [], _, n, h => by rw [show _ = [] from h]; simp [VRs]
  | _ :: _, _, 0, _ => by simp [VRs]
  | _ :: _, _, n + 1, ⟨v, r, e, h1, h2⟩ => by rw [e]; exact ⟨v, r.take n, rfl, h1, VRs.take n h2⟩
theorem VRs.drop : ∀ {l : List SV} {vs : List Value} (n : Nat), VRs σ L I l vs → VRs σ L I (l.drop n) (vs.drop n)
  | [], _, n, h => by rw [show _ = [] from h]; simp [VRs]
  | _ :: _, _, 0, h => by simpa using h
  | _ :: _, _, n + 1, ⟨v, r, e, h1, h2⟩ => by rw [e]; exact VRs.drop n h2
theorem VRs.setL {l m : List SV} {vs ws : List Value} (n : Nat) (h : VRs σ L I l vs) (k : VRs σ L I m ws) : VRs σ L I (setL l n m) (setAt vs n ws) := by
  unfold XC.setL setAt
  rw [← k.len]
  exact ((h.take n).app k).app (h.drop _)
theorem VRs.map {α : Type} {f : α → SV} {g : α → Value} (h : ∀ x, VR σ L I (f x) (g x)) : ∀ l : List α, VRs σ L I (l.map f) (l.map g)
  | [] => rfl
  | x :: l => ⟨g x, l.map g, rfl, h x, VRs.map h l⟩
theorem VRs.flat {l : List SV} {vs : List Value} (h : VRs σ L I l vs) : ∀ n : Nat, VRs σ L I (List.flatten (List.replicate n l)) (List.flatten (List.replicate n vs))
  | 0 => rfl
  | n + 1 => by rw [List.replicate_succ, List.replicate_succ, List.flatten_cons, List.flatten_cons]; exact h.app (VRs.flat h n)

theorem VR.cells {s : SV} {v : Value} {l : List SV} (h : VR σ L I s v) (k : s.cells = some l) : VRs σ L I l v.cells.toList := by
  cases s <;> simp only [SV.cells, Option.some.injEq] at k <;> try cases k
  all_goals simp only [VR] at h
  case agg => obtain ⟨vs, e, h⟩ := h; rw [e]; exact h
  case int => subst h; exact ⟨_, [], rfl, rfl, rfl⟩
  case bool => subst h; exact ⟨_, [], rfl, rfl, rfl⟩
  case str => subst h; exact ⟨_, [], rfl, rfl, rfl⟩
  case ptr => obtain ⟨a, q, e⟩ := h; subst e; exact ⟨_, [], rfl, ⟨a, q, rfl⟩, rfl⟩
  case el => obtain ⟨a, q, e⟩ := h; subst e; exact ⟨_, [], rfl, ⟨a, q, rfl⟩, rfl⟩
  case nilp => subst h; exact ⟨_, [], rfl, rfl, rfl⟩
  case er => obtain ⟨A, c, e, q⟩ := h; subst e; exact ⟨_, [], rfl, ⟨A, c, rfl, q⟩, rfl⟩
  case rv => obtain ⟨A, c, e, q⟩ := h; subst e; exact ⟨_, [], rfl, ⟨A, c, rfl, q⟩, rfl⟩
  case sl => obtain ⟨p, ⟨A, n, c, e⟩, q⟩ := h; subst e; exact ⟨_, [], rfl, ⟨p, ⟨A, n, c, rfl⟩, q⟩, rfl⟩
  case win => obtain ⟨p, ⟨A, n, c, e⟩, q⟩ := h; subst e; exact ⟨_, [], rfl, ⟨p, ⟨A, n, c, rfl⟩, q⟩, rfl⟩
  case nils => subst h; exact ⟨_, [], rfl, rfl, rfl⟩
  case bw => obtain ⟨a, A, q, e, r⟩ := h; subst e; exact ⟨_, [], rfl, ⟨a, A, q, rfl, r⟩, rfl⟩
  case fn => obtain ⟨vs, e, q⟩ := h; subst e; exact ⟨_, [], rfl, ⟨vs, rfl, q⟩, rfl⟩
  case nilf => subst h; exact ⟨_, [], rfl, rfl, rfl⟩
  case nilm => subst h; exact ⟨_, [], rfl, rfl, rfl⟩
  case nili => subst h; exact ⟨_, [], rfl, rfl, rfl⟩
  case mp => obtain ⟨a, q, e⟩ := h; subst e; exact ⟨_, [], rfl, ⟨a, q, rfl⟩, rfl⟩
  case e0 => obtain ⟨A, e, q⟩ := h; subst e; exact ⟨_, [], rfl, ⟨A, rfl, q⟩, rfl⟩
theorem VR.one {s : SV} {v : Value} (h : VR σ L I s v) (k : s.one = true) : v.oneCell' = true := by
  cases s <;> simp only [SV.one] at k <;> try cases k
  all_goals simp only [VR] at h
  case int => rw [h]; rfl
  case bool => rw [h]; rfl
  case str => rw [h]; rfl
  case ptr => obtain ⟨_, _, e⟩ := h; rw [e]; rfl
  case el => obtain ⟨_, _, e⟩ := h; rw [e]; rfl
  case nilp => rw [h]; rfl
  case er => obtain ⟨_, _, e, _⟩ := h; rw [e]; rfl
  case rv => obtain ⟨_, _, e, _⟩ := h; rw [e]; rfl
  case sl => obtain ⟨_, ⟨_, _, _, e⟩, _⟩ := h; rw [e]; rfl
  case win => obtain ⟨_, ⟨_, _, _, e⟩, _⟩ := h; rw [e]; rfl
  case nils => rw [h]; rfl
  case bw => obtain ⟨_, _, _, e, _⟩ := h; rw [e]; rfl
  case fn => obtain ⟨_, e, _⟩ := h; rw [e]; rfl
  case mp => obtain ⟨_, _, e⟩ := h; rw [e]; rfl
  case e0 => obtain ⟨_, e, _⟩ := h; rw [e]; rfl
  case nilf => rw [h]; rfl
  case nilm => rw [h]; rfl
  case nili => rw [h]; rfl
theorem VRs.one : ∀ {l : List SV} {vs : List Value}, VRs σ L I l vs → l.all SV.one = true → ∀ v ∈ vs, v.oneCell' = true
  | [], _, h, _, v, hv => by rw [show _ = [] from h] at hv; cases hv
  | s :: l, _, ⟨u, r, e, h1, h2⟩, k, v, hv => by
    simp only [List.all_cons, Bool.and_eq_true] at k
    rw [e] at hv
    rcases List.mem_cons.1 hv with q | q
    · subst q; exact VR.one h1 k.1
    · exact VRs.one h2 k.2 v q
theorem rf_ok : ∀ (t : Ty) {x : t.den} {cs : List Value}, (kdOf t).R I cs x → VRs σ L I (t.rf x) cs
  | .int k, x, cs, h => by
    have h : cs = [.int k x] := h
    subst h; exact ⟨_, [], rfl, rfl, rfl⟩
  | .bool, x, cs, h => by
    have h : cs = [.bool x] := h
    subst h; exact ⟨_, [], rfl, rfl, rfl⟩
  | .str, x, cs, h => by
    have h : cs = [.string x] := h
    subst h; exact ⟨_, [], rfl, rfl, rfl⟩
  | .sl t, x, cs, h => by
    obtain ⟨Bs, ⟨A, c, e, e2⟩, hp⟩ : ∃ Bs, DSl (kdOf t) x cs Bs ∧ PersL I Bs := h
    subst e e2
    exact ⟨_, [], rfl, ⟨A, c, rfl, (hp _ (List.mem_singleton.2 rfl)).2⟩, rfl⟩
  | .u, x, cs, h => h
  | .p a b, x, cs, ⟨c1, c2, e, h1, h2⟩ => by
    subst e; exact (rf_ok a h1).app (rf_ok b h2)

theorem ri_ok : ∀ (t : Ty) {cs r : List SV} {x : t.den} {vs : List Value}, t.ri cs = some (x, r) → VRs σ L I cs vs → ∃ v1 v2, vs = v1 ++ v2 ∧ (kdOf t).R I v1 x ∧ VRs σ L I r v2
  | .int k, cs, r, x, vs, h, hv => by
    cases cs with
    | nil => simp [Ty.ri] at h
    | cons s cs =>
      cases s <;> simp only [Ty.ri] at h <;> try cases h
      rename_i k' n
      split at h
      · rename_i e; subst e
        simp only [Option.some.injEq, Prod.mk.injEq] at h
        obtain ⟨rfl, rfl⟩ := h
        obtain ⟨v, r, rfl, h1, h2⟩ := hv
        have h1 : v = .int k n := h1
        subst h1
        exact ⟨[.int k n], r, rfl, rfl, h2⟩
      · cases h
  | .bool, cs, r, x, vs, h, hv => by
    cases cs with
    | nil => simp [Ty.ri] at h
    | cons s cs =>
      cases s <;> simp only [Ty.ri] at h <;> try cases h
      obtain ⟨v, r, rfl, h1, h2⟩ := hv
      have h1 : v = .bool x := h1
      subst h1
      exact ⟨[.bool x], _, rfl, rfl, h2⟩
  | .str, cs, r, x, vs, h, hv => by
    cases cs with
    | nil => simp [Ty.ri] at h
    | cons s cs =>
      cases s <;> simp only [Ty.ri] at h <;> try cases h
      obtain ⟨v, r, rfl, h1, h2⟩ := hv
      have h1 : v = .string x := h1
      subst h1
      exact ⟨[.string x], _, rfl, rfl, h2⟩
  | .sl t, cs, r, x, vs, h, hv => by
    cases cs with
    | nil => simp [Ty.ri] at h
    | cons s cs =>
      cases s <;> simp only [Ty.ri] at h <;> try cases h
      · rename_i t' xs
        split at h
        · rename_i e; subst e
          simp only [Option.some.injEq, Prod.mk.injEq] at h
          obtain ⟨rfl, rfl⟩ := h
          obtain ⟨v, r, rfl, ⟨A, c, h1, h3⟩, h2⟩ := hv
          subst h1
          exact ⟨[_], r, rfl, ⟨[Ro (kdOf t') A c xs], ⟨A, c, rfl, rfl⟩, PersL.cons rfl h3 PersL.nil⟩, h2⟩
        · cases h
      · obtain ⟨v, r, rfl, h1, h2⟩ := hv
        have h1 : v = .slice none 0 0 := h1
        subst h1
        exact ⟨[_], r, rfl, ⟨[Ro (kdOf t) none 0 []], ⟨none, 0, rfl, rfl⟩, PersL.cons rfl ⟨Nat.le_refl _, [], rfl, .inl rfl⟩ PersL.nil⟩, h2⟩
  | .u, cs, r, x, vs, h, hv => by
    simp only [Ty.ri, Option.some.injEq, Prod.mk.injEq] at h
    obtain ⟨_, rfl⟩ := h
    exact ⟨[], vs, rfl, rfl, hv⟩
  | .p a b, cs, r, x, vs, h, hv => by
    simp only [Ty.ri] at h
    split at h
    · rename_i y r1 h1
      split at h
      · rename_i z r2 h2
        simp only [Option.some.injEq, Prod.mk.injEq] at h
        obtain ⟨rfl, rfl⟩ := h
        obtain ⟨v1, v2, rfl, k1, hv⟩ := ri_ok a h1 hv
        obtain ⟨v3, v4, rfl, k2, hv⟩ := ri_ok b h2 hv
        exact ⟨v1 ++ v3, v4, by rw [List.append_assoc], ⟨v1, v3, rfl, k1, k2⟩, hv⟩
      · cases h
    · cases h
theorem rd_ok {t : Ty} {cs : List SV} {x : t.den} {vs : List Value} (h : t.rd cs = some x) (hv : VRs σ L I cs vs) : (kdOf t).R I vs x := by
  unfold Ty.rd at h
  split at h
  · rename_i y e
    cases h
    obtain ⟨v1, v2, rfl, h1, h2⟩ := ri_ok t e hv
    rw [show v2 = [] from h2, List.append_nil]; exact h1
  · cases h
theorem riN_ok {t : Ty} : ∀ {n : Nat} {cs : List SV} {xs : List t.den} {vs : List Value}, t.riN n cs = some xs → VRs σ L I cs vs → xs.length = n ∧ ∃ v1 v2, vs = v1 ++ v2 ∧ RL (kdOf t) I v1 xs
  | 0, cs, xs, vs, h, hv => by
    simp only [Ty.riN, Option.some.injEq] at h; subst h
    exact ⟨rfl, [], vs, rfl, rfl⟩
  | n + 1, cs, xs, vs, h, hv => by
    simp only [Ty.riN] at h
    split at h
    · rename_i x r h1
      split at h
      · rename_i l h2
        cases h
        obtain ⟨v1, v2, rfl, k1, hv⟩ := ri_ok t h1 hv
        obtain ⟨hl, v3, v4, rfl, k2⟩ := riN_ok h2 hv
        exact ⟨by rw [List.length_cons, hl], v1 ++ v3, v4, by rw [List.append_assoc], v1, v3, rfl, k1, k2⟩
      · cases h
    · cases h
theorem rf_len (t : Ty) (x : t.den) : (t.rf x).length = t.sz := by
  induction t with
  | p a b iha ihb => simp only [Ty.rf, List.length_append, iha, ihb, Ty.sz]
  | _ => rfl
theorem svC_ok (v : Value) : VR σ L I (svC v) v := by
  unfold svC
  split <;> first | rfl | trivial
theorem svOf_ok (v : Value) : VR σ L I (svOf v) v := by
  unfold svOf
  split
  · rename_i cs
    have := VRs.map (σ := σ) (L := L) (I := I) (f := svC) (g := fun v => v) svC_ok cs.toList
    rw [List.map_id'] at this
    exact ⟨cs, rfl, this⟩
  · exact svC_ok v
end
end Go.Proofs.YtkdakjjockfmdaaGreatDoor.XC

/- A machine that reckons: what is read of slices; steps of states. -/
import Derived.Test.YtkdakjjockfmdaaGreatDoorXG
namespace Go.Proofs.YtkdakjjockfmdaaGreatDoor.XC
open Go Go.RowKit Go.Proofs.YtkdakjjockfmdaaGreatDoor.SL
set_option linter.unusedVariables false
set_option linter.unusedSimpArgs false
theorem flat_any : ∀ {t : Ty} (hf : t.flat = true) {I I' : Hp} {c : List Value} {x : t.den}, (kdOf t).R I c x → (kdOf t).R I' c x
  | .int _, _, _, _, _, _, h => h
  | .bool, _, _, _, _, _, h => h
  | .str, _, _, _, _, _, h => h
  | .sl _, hf, _, _, _, _, _ => by cases hf
  | .u, _, _, _, _, _, h => h
  | .p a b, hf, _, _, _, _, ⟨c1, c2, e, h1, h2⟩ => by
    simp only [Ty.flat, Bool.and_eq_true] at hf
    exact ⟨c1, c2, e, flat_any hf.1 h1, flat_any hf.2 h2⟩
theorem flat_RL {t : Ty} (hf : t.flat = true) {I I' : Hp} : ∀ {xs : List t.den} {cs : List Value}, RL (kdOf t) I cs xs → RL (kdOf t) I' cs xs
  | [], _, h => h
  | _ :: _, _, ⟨c1, c2, e, h1, h2⟩ => ⟨c1, c2, e, flat_any hf h1, flat_RL hf h2⟩
section
variable {P : Program} {ρ : Type} {σ : List Ad} {L : Tr At} {s : St} {I h : Hp} {As : List Asrt} {e : Env} {w : World} {K : SV → St → Option ρ} {r : ρ}
variable {d : Option Nat} {T T' E ty : TypeId} {x y c : Operand} {pos : String} {aft : Array Edge} {g : Option (Nat × Bool)} {rds : List Nat} {lo hi mx : Option Operand}

theorem sub_any {t : Ty} {xs : List t.den} {A V : Option Addr} {lo n : Int} {v : Nat} {cs : List Value} (hr : RL (kdOf t) I cs xs) (w : Win A V t.sz lo n v) (hl : lo + n ≤ (xs.length : Int)) :
    ∃ cs', RL (kdOf t) I cs' (SL.sub xs lo (lo + n)) ∧ (∀ b off, A = some ⟨b, off, none⟩ → ∀ w' : World, (∀ j v, cs[j]? = some v → w'.cell? ⟨b, off + j, none⟩ = some v) → SL.sub xs lo (lo + n) = [] ∨ ∃ b' off', V = some ⟨b', off', none⟩ ∧ ∀ j v, cs'[j]? = some v → w'.cell? ⟨b', off' + j, none⟩ = some v) := by
  have h0 := w.lo; have h1 := w.no
  have hrs := RL.sub lo.toNat ((lo + n).toNat - lo.toNat) hr
  refine ⟨_, hrs, fun b off hA w' hc => ?_⟩
  rcases w.zero with q | q
  · left
    have : (SL.sub xs lo (lo + n)).length = 0 := by unfold SL.sub; rw [List.length_take, List.length_drop]; omega
    exact List.length_eq_zero_iff.1 this
  · right
    subst hA
    refine ⟨b, off + lo.toNat * t.sz, by rw [q]; simp [Addr.add_lit], fun j v hj => ?_⟩
    rw [List.getElem?_take] at hj
    split at hj
    · rw [List.getElem?_drop, kdOf_sz] at hj
      have := hc _ v hj
      rw [Nat.add_assoc]; exact this
    · cases hj

/-- What a slice gives to be read. -/
def SrcW (I : Hp) (w : World) (σ : List Ad) (L : Tr At) (rd : List Nat) {α : Type} (kd : Kd α) (A : Option Addr) (xs : List α) : Prop :=
  ∃ cs, RL kd I cs xs ∧ ∀ w', ImmW I w' → (∀ k ∈ rd, Same σ L k w w') → xs = [] ∨ ∃ b off, A = some ⟨b, off, none⟩ ∧ ∀ j v, cs[j]? = some v → w'.cell? ⟨b, off + j, none⟩ = some v
theorem dat_ok {t : Ty} {v : SV} {xs : List t.den} {u : Value} (S : SR σ s I h As e) (F : Fits I h w) (hd : dat s t v = some xs) (hs : isStr v = false) (hv : VR σ s.L I v u) :
    ∃ A c, u = .slice A xs.length c ∧ xs.length ≤ c ∧ SrcW I w σ s.L (rdV v) (kdOf t) A xs := by
  unfold dat at hd
  split at hd
  · rename_i t' ys
    split at hd
    · rename_i ht; subst ht
      cases hd
      obtain ⟨A, c, hu, hro⟩ := hv
      obtain ⟨cs, hr, hl, hc⟩ := ro_cells hro
      exact ⟨A, c, hu, hl, cs, hr, fun w' hI _ => hc.imp id fun ⟨b, off, e, k⟩ => ⟨b, off, e, k w' hI⟩⟩
    · cases hd
  · cases hd
    exact ⟨none, 0, hv, Nat.le_refl _, [], rfl, fun _ _ _ => .inl rfl⟩
  · rename_i nn
    obtain ⟨A, hv, _⟩ := hv
    cases hd
    exact ⟨A, 0, hv, Nat.le_refl _, [], rfl, fun _ _ _ => .inl rfl⟩
  · rename_i k
    obtain ⟨_, _, hv⟩ := hv
    have go : ∀ {t : Ty} {E : TypeId} {xs : List t.den}, IsSl s.L k t E xs → ∃ A c, u = .slice A xs.length c ∧ xs.length ≤ c ∧ SrcW I w σ s.L [k] (kdOf t) A xs := by
      intro t E xs q
      obtain ⟨a, ha, hu⟩ := hv t E xs q
      obtain ⟨a', ha', cs, hr, hl, hc⟩ := sl_cells S F q
      rw [ha] at ha'; cases ha'
      exact ⟨a.A, a.c, hu, hl, cs, hr, fun w' hI hS => hc.imp id fun ⟨b, off, e, k'⟩ => ⟨b, off, e, k' w' hI (hS k (by simp))⟩⟩
    split at hd
    · rename_i t' E ys hk
      split at hd
      · rename_i ht; subst ht; cases hd; exact go (.inl hk)
      · cases hd
    · rename_i t' E ys hk
      split at hd
      · rename_i ht; subst ht; cases hd; exact go (.inr hk)
      · cases hd
    · cases hd
  · rename_i k lo n
    obtain ⟨_, _, hv⟩ := hv
    have go : ∀ {t : Ty} {E : TypeId} {xs : List t.den}, IsSl s.L k t E xs → ∃ A c, u = .slice A (SL.sub xs lo (lo + n)).length c ∧ (SL.sub xs lo (lo + n)).length ≤ c ∧ SrcW I w σ s.L [k] (kdOf t) A (SL.sub xs lo (lo + n)) := by
      intro t E xs q
      obtain ⟨a, V, c, ha, hw, hu, hle⟩ := hv t E xs q
      obtain ⟨a', ha', cs, hr, hl, hc⟩ := sl_cells S F q
      rw [ha] at ha'; cases ha'
      have h0 := hw.lo; have h1 := hw.no; have h2 := hw.cap
      have hlen : (SL.sub xs lo (lo + n)).length = n.toNat := by unfold SL.sub; rw [List.length_take, List.length_drop]; omega
      obtain ⟨cs', hr', hc'⟩ := sub_any hr hw hle
      refine ⟨V, c, by rw [hlen]; exact hu, by rw [hlen]; omega, cs', hr', fun w' hI hS => ?_⟩
      rcases hc with hc | ⟨b, off, e, k'⟩
      · subst hc; left; simp [SL.sub]
      · exact hc' b off e w' (k' w' hI (hS k (by simp)))
    split at hd
    · rename_i t' E ys hk
      split at hd
      · rename_i ht; subst ht; cases hd; exact go (.inl hk)
      · cases hd
    · rename_i t' E ys hk
      split at hd
      · rename_i ht; subst ht; cases hd; exact go (.inr hk)
      · cases hd
    · cases hd
  · rename_i k o t' n c
    obtain ⟨a, A, ha, hu, hA, hle⟩ := hv
    split at hd
    · rename_i T' cs hk
      split at hd
      · rename_i hc
        obtain ⟨a', vs, ha', hvs, _, _, hw⟩ := blk_at S F hk
        rw [ha] at ha'; cases ha'
        obtain ⟨hl, v1, v2, e1, hr⟩ := riN_ok hd (hvs.drop o)
        refine ⟨some A, c, by rw [hl]; exact hu, by rw [hl]; exact hle, v1, hr, fun w' hI hS => ?_⟩
        rcases hA with hA | hA
        · left; apply List.length_eq_zero_iff.1; omega
        · right
          refine ⟨a.b, o, by rw [hA, Addr.add_lit, Nat.zero_add], fun j v hj => ?_⟩
          have hw' := ((hS k (by simp [rdV])).blk a _ _ ha hk).trans hw
          rw [cell_of hw']
          have : (vs.drop o)[j]? = some v := by
            rw [e1]
            have hj' : j < v1.length := by
              rcases Nat.lt_or_ge j v1.length with q | q
              · exact q
              · simp [List.getElem?_eq_none q] at hj
            rw [List.getElem?_append_left hj']; exact hj
          rw [List.getElem?_drop] at this
          simpa using this
      · cases hd
    · cases hd
  · cases hs
  · cases hd
theorem SrcW.ro {α : Type} {kd : Kd α} {A : Option Addr} {xs : List α} {cp : Nat} {rd : List Nat} (hs : SrcW I w σ L rd kd A xs) (hpos : kd.sz ≠ 0) (hl : xs.length ≤ cp) {w' : World} (hI : ImmW I w') (hS : ∀ k ∈ rd, Same σ L k w w') : RoP kd A cp xs (fun b => w'.heap[b]?) := by
  obtain ⟨cs, hr, hc⟩ := hs
  refine ⟨hl, cs, hr.mono (fun b o q => hI b o q), ?_⟩
  rcases hc w' hI hS with q | ⟨b, off, e1, q⟩
  · exact .inl q
  · by_cases hx : xs = []
    · exact .inl hx
    · right
      have hne : cs ≠ [] := by
        intro e0
        have := hr.len
        rw [e0] at this
        cases xs with
        | nil => exact hx rfl
        | cons x xs =>
          rw [List.length_cons, Nat.add_mul] at this
          have hp : 0 < kd.sz := by omega
          simp at this; omega
      obtain ⟨v, hv⟩ : ∃ v, cs[0]? = some v := by
        cases cs with
        | nil => exact absurd rfl hne
        | cons v _ => exact ⟨v, rfl⟩
      have h0 := q 0 v hv
      unfold World.cell? at h0
      split at h0
      · rename_i C T fr hh
        refine ⟨b, off, C, T, fr, e1, hh, fun j v hj => ?_⟩
        have := q j v hj
        rw [cell_of hh] at this; exact this
      · cases h0

theorem look_conv (S : SR σ s I h As e) (F : Fits I h w) (hl : looks P (.convert T T' x) = true) (hX : opX P s (.convert T T' x) K = some r) : LookOk P s ⟨d, .convert T T' x, ty, pos, aft, g⟩ K r σ I w e (rdsOf s (.convert T T' x)) := by
  have hx := sev_ok S x
  show LookOk P s _ K r σ I w e (rdV (sev s x))
  simp only [opX] at hX
  unfold convX at hX
  split at hX
  · rename_i k' k k2 n hu hu' hq
    rw [hq] at hx
    exact LookOk.pure hX rfl (V_conv (by rw [hu]; rfl) hu' hx)
  · rename_i E b hu hu' hq
    simp [looks, hu'] at hl
  · rename_i E v hu hu'
    split at hX
    · cases hX
    · rename_i v' xs hE hd hns
      have hs : isStr (sev s x) = false := by
        cases hq : sev s x <;> first | rfl | exact absurd hq (hns _)
      obtain ⟨A, c, hv, hle, hsrc⟩ := dat_ok S F hd hs hx
      refine ⟨_, .string (strOf xs), hX, rfl, fun w' hI hS => ?_⟩
      have hro : RoP (Kd.int .u8) A c xs (fun b => w'.heap[b]?) := hsrc.ro (by decide) hle hI hS
      exact VR_str (As := [Ro (Kd.int .u8) A c xs]) hu hE hu' hv (Src.ro (k := 0) rfl) (fun b => w'.heap[b]?) (fun _ => none) w' ⟨fun _ => none, fun _ => none, Split.none_l _, hro, trivial⟩ ⟨fun b o q => q, fun b o q => by cases q⟩
    · cases hX
  · rename_i hu hu' hq
    simp [looks, hu'] at hl
  · cases hX
end
end Go.Proofs.YtkdakjjockfmdaaGreatDoor.XC

/- A machine that reckons: append, copy, clear, conversions that make memory. -/
import Derived.Test.YtkdakjjockfmdaaGreatDoorXK
namespace Go.Proofs.YtkdakjjockfmdaaGreatDoor.XC
open Go Go.RowKit Go.Proofs.YtkdakjjockfmdaaGreatDoor.SL
set_option linter.unusedVariables false
set_option linter.unusedSimpArgs false
section
variable {P : Program} {n : Nat} {ρ : Type} {σ : List Ad} {L : Tr At} {s : St} {I h : Hp} {As : List Asrt} {e : Env} {w : World} {K : SV → St → Option ρ} {r : ρ}
variable {d : Option Nat} {T T' E ty tx : TypeId} {x y c : Operand} {pos : String} {aft : Array Edge} {g : Option (Nat × Bool)} {rds : List Nat} {lo hi mx : Option Operand}

theorem dat_src {t : Ty} {v : SV} {ys : List t.den} {u : Value} (S : SR σ s I h As e) (hd : dat s t v = some ys) (hs : isStr v = false) (hv : VR σ s.L I v u) :
    ∃ A c Bs, u = .slice A ys.length c ∧ PersL I Bs ∧ SL.Src (kdOf t) A ys (As ++ Bs) := by
  have ex : ∀ {k a A}, s.L.get k = some a → As[k]? = some A → ∀ Bs : List Asrt, (As ++ Bs)[k]? = some A := fun {k a A} hk hA Bs => by
    rw [List.getElem?_append_left (by rw [S.al]; exact S.lim k a hk)]; exact hA
  have la : ∀ B : Asrt, (As ++ [B])[As.length]? = some B := fun B => by simp
  unfold dat at hd
  split at hd
  · rename_i t' ys
    split at hd
    · rename_i ht; subst ht
      cases hd
      obtain ⟨A, c, hu, hro⟩ := hv
      exact ⟨A, c, [Ro (kdOf t') A c ys], hu, PersL.cons rfl hro PersL.nil, SL.Src.ro (la _)⟩
    · cases hd
  · cases hd
    exact ⟨none, 0, [Ro (kdOf t) none 0 []], hv, PersL.cons rfl ⟨Nat.le_refl _, [], rfl, .inl rfl⟩ PersL.nil, SL.Src.ro (la _)⟩
  · rename_i nn
    obtain ⟨A, hv, _⟩ := hv
    cases hd
    exact ⟨A, 0, [Ro (kdOf t) A 0 []], hv, PersL.cons rfl ⟨Nat.le_refl _, [], rfl, .inl rfl⟩ PersL.nil, SL.Src.ro (la _)⟩
  · rename_i k
    obtain ⟨_, _, hv⟩ := hv
    split at hd
    · rename_i t' E ys hk
      split at hd
      · rename_i ht; subst ht; cases hd
        obtain ⟨A, hA, a, ha, rfl⟩ := S.at_ k _ hk
        obtain ⟨a', ha', hu⟩ := hv t' E ys (.inl hk)
        rw [ha] at ha'; cases ha'
        exact ⟨a.A, a.c, [], hu, PersL.nil, SL.Src.buf (ex hk hA [])⟩
      · cases hd
    · rename_i t' E ys hk
      split at hd
      · rename_i ht; subst ht; cases hd
        obtain ⟨A, hA, a, ha, hro⟩ := S.at_ k _ hk
        obtain ⟨a', ha', hu⟩ := hv t' E ys (.inr hk)
        rw [ha] at ha'; cases ha'
        exact ⟨a.A, a.c, [Ro (kdOf t') a.A a.c ys], hu, PersL.cons rfl hro PersL.nil, SL.Src.ro (la _)⟩
      · cases hd
    · cases hd
  · rename_i k lo n
    obtain ⟨_, _, hv⟩ := hv
    have fin : ∀ {t : Ty} {E : TypeId} {xs : List t.den} {a : Ad} {V : Option Addr} {c : Nat}, Win a.A V t.sz lo n c → lo + n ≤ (xs.length : Int) → (SL.sub xs lo (lo + n)).length = n.toNat := by
      intro t E xs a V c hw hl
      have := hw.lo; have := hw.no
      unfold SL.sub; rw [List.length_take, List.length_drop]; omega
    split at hd
    · rename_i t' E ys hk
      split at hd
      · rename_i ht; subst ht; cases hd
        obtain ⟨A, hA, a, ha, rfl⟩ := S.at_ k _ hk
        obtain ⟨a', V, c, ha', hw, hu, hl⟩ := hv t' E ys (.inl hk)
        rw [ha] at ha'; cases ha'
        exact ⟨V, c, [], by rw [fin (E := E) hw hl]; exact hu, PersL.nil, (SL.Src.buf (ex hk hA [])).win hw (kdOf_sz _) hl⟩
      · cases hd
    · rename_i t' E ys hk
      split at hd
      · rename_i ht; subst ht; cases hd
        obtain ⟨A, hA, a, ha, hro⟩ := S.at_ k _ hk
        obtain ⟨a', V, c, ha', hw, hu, hl⟩ := hv t' E ys (.inr hk)
        rw [ha] at ha'; cases ha'
        exact ⟨V, c, [Ro (kdOf t') a.A a.c ys], by rw [fin (E := E) hw hl]; exact hu, PersL.cons rfl hro PersL.nil, (SL.Src.ro (la _)).win hw (kdOf_sz _) hl⟩
      · cases hd
    · cases hd
  · rename_i k o t' m c
    obtain ⟨a, A, ha, hu, hA, hle⟩ := hv
    split at hd
    · rename_i T' cs hk
      split at hd
      · rename_i hc
        obtain ⟨A1, hA1, a', vs, ha', rfl, hvs⟩ := S.at_ k _ hk
        rw [ha] at ha'; cases ha'
        obtain ⟨hl, v1, v2, e1, hr⟩ := riN_ok hd (hvs.drop o)
        refine ⟨some A, c, [], by rw [hl]; exact hu, PersL.nil, fun I0 h0 w0 hs0 hw0 => ⟨v1, flat_RL hc.2.1 hr, ?_⟩⟩
        rcases hA with hA | hA
        · left; apply List.length_eq_zero_iff.1; omega
        · right
          refine ⟨a.b, o, by rw [hA, Addr.add_lit, Nat.zero_add], fun j v hj => ?_⟩
          obtain ⟨h1, l, p, _⟩ := sepL_at (ex hk hA1 []) hs0
          rw [cell_of (hw0.own _ _ (l _ _ p))]
          have : (vs.drop o)[j]? = some v := by
            rw [e1]
            have hj' : j < v1.length := by
              rcases Nat.lt_or_ge j v1.length with q | q
              · exact q
              · simp [List.getElem?_eq_none q] at hj
            rw [List.getElem?_append_left hj']; exact hj
          rw [List.getElem?_drop] at this
          simpa using this
      · cases hd
    · cases hd
  · cases hs
  · cases hd
theorem dat_yld {t : Ty} {ys : List t.den} (S : SR σ s I h As e) (hd : dat s t (sev s y) = some ys) (ht : txOk P tx (sev s y) = true) : ∃ Bs, PersL I Bs ∧ Yld P (kdOf t) tx (ev e y) ys (As ++ Bs) := by
  have hy := sev_ok S y
  unfold txOk at ht
  split at ht
  · rename_i hu
    cases hq : sev s y <;> rw [hq] at ht <;> try cases ht
    rename_i b
    rw [hq] at hd hy
    simp only [dat] at hd
    split at hd
    · cases hd
      refine ⟨[], PersL.nil, ?_⟩
      rw [show ev e y = .string b from hy]
      exact Yld.str hu
    · cases hd
  · rename_i E hu
    obtain ⟨A, c, Bs, hv, hp, hs⟩ := dat_src S hd (by simpa using ht) hy
    exact ⟨Bs, hp, by rw [hv]; exact Yld.slice hu hs⟩
  · cases ht
theorem dat_cpy {t : Ty} {ys : List t.den} (S : SR σ s I h As e) (hd : dat s t (sev s y) = some ys) : ∃ Bs, PersL I Bs ∧ Cpy P (kdOf t) (ev e y) ys (As ++ Bs) := by
  have hy := sev_ok S y
  cases hq : isStr (sev s y) with
  | false =>
    obtain ⟨A, c, Bs, hv, hp, hs⟩ := dat_src S hd hq hy
    exact ⟨Bs, hp, by rw [hv]; exact Cpy.slice hs⟩
  | true =>
    cases hq' : sev s y <;> rw [hq'] at hq <;> try cases hq
    rename_i b
    rw [hq'] at hd hy
    simp only [dat] at hd
    split at hd
    · cases hd
      refine ⟨[], PersL.nil, ?_⟩
      rw [show ev e y = .string b from hy]
      exact Cpy.str
    · cases hd

theorem sepL_move {k : Nat} {B : Asrt} (hk : k < As.length) (q : sepL (As.set k B) I h) : sepL (As.set k emp ++ [B]) I h := by
  obtain ⟨h1, h2, sp, p, r⟩ := sepL_take (List.getElem?_set_self hk) q
  rw [List.set_set] at r
  exact sepL_append sp.comm r ⟨h1, fun _ => none, ⟨Le.refl _, (fun _ _ e => by cases e), fun _ _ _ => rfl⟩, p, trivial⟩
theorem sepL_last {B : Asrt} (hB : B.P I (fun _ => none)) (q : sepL As I h) : sepL (As ++ [B]) I h :=
  sepL_append ⟨Le.refl h, (fun _ _ e => by cases e), fun _ _ _ => rfl⟩ q ⟨fun _ => none, fun _ => none, ⟨fun _ _ e => (by cases e), fun _ _ e => (by cases e), fun _ _ e => (by cases e)⟩, hB, trivial⟩
theorem big_nat {a b : Nat} (h : bigOk (a : Int) b) : a ≤ 9223372036854775807 ∧ a * b ≤ 140737488355328 := by
  obtain ⟨h1, h2⟩ := h
  rw [← Int.natCast_mul] at h1
  omega
theorem app_none {t : Ty} {A : Option Addr} {Bs : List Asrt} {b : Nat} {zv : Value} {v : SV} (S : SR σ s I h As e) (hd : okDst d n = true) (hu : P.underlying T = some (.slice E)) (hi : (P.info? E).map (fun i => (i.zero, i.size, i.bytes)) = some (some zv, t.sz, b)) (hx : ev e x = .slice A 0 0)
    (hp : PersL I Bs) (hyl : Yld P (kdOf t) T' (ev e y) ([] : List t.den) (As ++ Bs)) (hv : VR σ s.L I v (.slice A 0 0)) : EffAt P n s ⟨d, .call { callee := .builtin .append, args := #[x, y], argTypes := #[T, T'] }, ty, pos, aft, g⟩ v s σ I h As e := by
  intro ds a w hr F
  obtain ⟨es, hre, src⟩ := hyl I h w (PersL.add S.sep hp) F.sees
  simp only [RL] at hre; subst hre
  cases hq : P.info? E with
  | none => simp [hq] at hi
  | some q =>
    simp only [hq, Option.map_some, Option.some.injEq, Prod.mk.injEq] at hi
    rw [kdOf_sz, ← hi.2.1] at src
    have hrun : (Builtin.append_ #[T, T'] ty #[.slice A 0 0, ev e y]).run P w = .ok (.slice A 0 0) w := by
      have sc : (Builtin.firstCells q.size 0 (ev e y)).run P w = .ok #[] w := src.cells
      have sl : ∀ w', (Builtin.lenOf (ev e y)).run P w' = .ok 0 w' := src.len
      rcases src.kind with ⟨e', hkk⟩ | hkk <;> cases A <;> simp [Builtin.append_, run_underlying hu, run_underlying hkk, sizeOf, typeInfo, hq, sc, sl, storeCells]
    unfold Oper.wp
    rw [hr.eval]
    have hexec : (execOp (ev e) ⟨d, .call { callee := .builtin .append, args := #[x, y], argTypes := #[T, T'] }, ty, pos, aft, g⟩).run P w = .ok (.value (.slice A 0 0)) w := by
      simp [execOp, resolve, invoke, builtin, hx, hrun]
    rw [hexec]
    exact ⟨_, σ, As, I, h, hr.put hd _, hv, S, Stp.refl, Goes.refl F⟩
theorem eff_app {as : Array Operand} {ts : Array TypeId} (S : SR σ s I h As e) (hd : okDst d n = true) (hX : opX P s (.call { callee := .builtin .append, args := as, argTypes := ts }) K = some r) : EffOk P n s ⟨d, .call { callee := .builtin .append, args := as, argTypes := ts }, ty, pos, aft, g⟩ K r σ I h As e := by
  obtain ⟨as⟩ := as
  obtain ⟨ts⟩ := ts
  simp only [opX, builtX] at hX
  split at hX <;> try contradiction
  rename_i x y T tx _
  have hx := sev_ok S x
  unfold appX at hX
  split at hX
  · rename_i E hu
    split at hX
    · rename_i t b hel
      obtain ⟨zv, hi, hz, hz1, hzR⟩ := elem_ok hel
      split at hX
      · rename_i xs ys hxs hys
        cases ht : txOk P tx (sev s y) with
        | false => rw [ht] at hX; cases hX
        | true =>
          rw [ht] at hX
          simp only [cond_true] at hX
          obtain ⟨Bs, hp, hyl⟩ := dat_yld (tx := tx) S hys ht
          split at hX
          · rename_i hq
            rw [hq] at hx hxs
            rename_i nn
            obtain ⟨A0, hx, hnn⟩ := hx
            cases hcc : s.c && ys.isEmpty with
            | true =>
              rw [hcc] at hX
              simp only [Bool.and_eq_true, List.isEmpty_iff] at hcc
              have hy0 := hcc.2
              subst hy0
              exact EffAt.ok hX (app_none S hd hu hi hx hp hyl ⟨A0, rfl, hnn⟩)
            | false =>
            rw [hcc] at hX
            simp only [cond_false] at hX
            split at hX
            · rename_i hbig
              obtain ⟨b1, b2⟩ := big_nat hbig
              refine EffAt.ok hX (at_of (As1 := As ++ Bs ++ [Buf (kdOf t) E A0 0 ([] : List t.den)]) (fun e' ds' As' => ∃ A' c', e' = put e d (.slice A' ys.length c') ∧ As' = (As ++ Bs ++ [Buf (kdOf t) E A0 0 ([] : List t.den)]).set (As ++ Bs).length (Buf (kdOf t) E A' c' ys)) (sepL_last ⟨[], rfl, .inl ⟨rfl, rfl, rfl⟩⟩ (PersL.add S.sep hp))
                (fun ds => OA_app (xs := ([] : List t.den)) ys rfl hd hu hi (kdOf_sz t) hz1 (by simp) hx rfl ?_ (by simpa using b1) (by simpa using b2) fun A' c' => ⟨rfl, A', c', rfl, rfl⟩) ?_)
              · intro I0 h0 w0 hs0 hw0
                exact hyl I0 h0 w0 (sepL_pre hs0) hw0
              · rintro ds e' As2 I' h' hs hI ⟨A', c', rfl, rfl⟩
                have e1 : (As ++ Bs ++ [Buf (kdOf t) E A0 0 ([] : List t.den)]).set (As ++ Bs).length (Buf (kdOf t) E A' c' ys) = As ++ Bs ++ [Buf (kdOf t) E A' c' ys] := by
                  rw [List.set_append_right _ _ (Nat.le_refl _), Nat.sub_self]; rfl
                rw [e1] at hs
                obtain ⟨h1, h2, h3⟩ := fresh_sl (E := E) (t := t) (xs := ys) S hI (sepL_mid hs)
                exact ⟨_, _, _, rfl, h1, h2, h3⟩
            · cases hX
          · rename_i k hq
            rw [hq] at hx hxs
            split at hX
            · rename_i t0 E' xs0 hk
              split at hX
              · rename_i hc
                obtain ⟨rfl, hbig⟩ := hc
                rw [← Int.natCast_add] at hbig
                obtain ⟨b1, b2⟩ := big_nat hbig
                simp only [dat, hk] at hxs
                split at hxs
                · rename_i he; subst he
                  cases hxs
                  obtain ⟨A, hA, a, ha, rfl⟩ := S.at_ k _ hk
                  obtain ⟨_, _, hx⟩ := hx
                  obtain ⟨a', ha', hu'⟩ := hx t0 E' xs0 (.inl hk)
                  rw [ha] at ha'; cases ha'
                  have hkn : k < As.length := by rw [S.al]; exact S.lim k _ hk
                  refine EffAt.ok hX (at_of (As1 := As ++ Bs) (fun e' ds' As' => ∃ A' c', e' = put e d (.slice A' (xs0 ++ ys).length c') ∧ As' = (As ++ Bs).set k (Buf (kdOf t0) E' A' c' (xs0 ++ ys))) (PersL.add S.sep hp)
                    (fun ds => OA_app (xs0 ++ ys) rfl hd hu hi (kdOf_sz t0) hz1 (by rw [List.getElem?_append_left hkn]; exact hA) hu' rfl hyl b1 b2 fun A' c' => ⟨rfl, A', c', rfl, rfl⟩) ?_)
                  rintro ds e' As2 I' h' hs hI ⟨A', c', rfl, rfl⟩
                  rw [List.set_append_left _ _ hkn] at hs
                  have hs1 := sepL_move hkn (sepL_pre hs)
                  obtain ⟨S1, st1⟩ := S.turn hI hk (sepL_pre hs1) (a1 := .dead) (blk_len (T0 := 0) (cs := []) (.inr rfl)) fun L' => .inl trivial
                  obtain ⟨h1, h2, h3⟩ := fresh_sl (E := E') (t := t0) (xs := xs0 ++ ys) S1 (Le.refl I') hs1
                  exact ⟨_, _, _, rfl, h1, h2, st1.trans h3⟩
                · cases hxs
              · cases hX
            · cases hX
          · rename_i hq
            rw [hq] at hx hxs
            have hx : ev e x = .slice none 0 0 := hx
            cases hcc : s.c && ys.isEmpty with
            | true =>
              rw [hcc] at hX
              simp only [Bool.and_eq_true, List.isEmpty_iff] at hcc
              have hy0 := hcc.2
              subst hy0
              exact EffAt.ok hX (app_none S hd hu hi hx hp hyl rfl)
            | false =>
            rw [hcc] at hX
            simp only [cond_false] at hX
            split at hX
            · rename_i hbig
              obtain ⟨b1, b2⟩ := big_nat hbig
              refine EffAt.ok hX (at_of (As1 := As ++ Bs ++ [Buf (kdOf t) E none 0 ([] : List t.den)]) (fun e' ds' As' => ∃ A' c', e' = put e d (.slice A' ys.length c') ∧ As' = (As ++ Bs ++ [Buf (kdOf t) E none 0 ([] : List t.den)]).set (As ++ Bs).length (Buf (kdOf t) E A' c' ys)) (sepL_last ⟨[], rfl, .inl ⟨rfl, rfl, rfl⟩⟩ (PersL.add S.sep hp))
                (fun ds => OA_app (xs := ([] : List t.den)) ys rfl hd hu hi (kdOf_sz t) hz1 (by simp) hx rfl ?_ (by simpa using b1) (by simpa using b2) fun A' c' => ⟨rfl, A', c', rfl, rfl⟩) ?_)
              · intro I0 h0 w0 hs0 hw0
                exact hyl I0 h0 w0 (sepL_pre hs0) hw0
              · rintro ds e' As2 I' h' hs hI ⟨A', c', rfl, rfl⟩
                have e1 : (As ++ Bs ++ [Buf (kdOf t) E none 0 ([] : List t.den)]).set (As ++ Bs).length (Buf (kdOf t) E A' c' ys) = As ++ Bs ++ [Buf (kdOf t) E A' c' ys] := by
                  rw [List.set_append_right _ _ (Nat.le_refl _), Nat.sub_self]; rfl
                rw [e1] at hs
                obtain ⟨h1, h2, h3⟩ := fresh_sl (E := E) (t := t) (xs := ys) S hI (sepL_mid hs)
                exact ⟨_, _, _, rfl, h1, h2, h3⟩
            · cases hX
          · cases hX
      · cases hX
    · cases hX
  · cases hX
end
end Go.Proofs.YtkdakjjockfmdaaGreatDoor.XC

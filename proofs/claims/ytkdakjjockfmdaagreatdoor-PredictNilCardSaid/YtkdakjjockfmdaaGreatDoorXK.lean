/- A machine that reckons: new slices, append, copy. -/
import Derived.Test.YtkdakjjockfmdaaGreatDoorXJ
namespace Go.Proofs.YtkdakjjockfmdaaGreatDoor.XC
open Go Go.RowKit Go.Proofs.YtkdakjjockfmdaaGreatDoor.SL
set_option linter.unusedVariables false
set_option linter.unusedSimpArgs false
section
variable {P : Program} {n : Nat} {ρ : Type} {σ : List Ad} {L : Tr At} {s : St} {I h : Hp} {As : List Asrt} {e : Env} {w : World} {K : SV → St → Option ρ} {r : ρ}
variable {d : Option Nat} {T T' E ty tx : TypeId} {x y c : Operand} {pos : String} {aft : Array Edge} {g : Option (Nat × Bool)} {rds : List Nat} {lo hi mx : Option Operand}

theorem elem_ok {t : Ty} {b : Nat} (h : elemX P E = some (t, b)) : ∃ zv, (P.info? E).map (fun i => (i.zero, i.size, i.bytes)) = some (some zv, t.sz, b) ∧ zeroV P E = some zv ∧ zv.cells.size = t.sz ∧ ∀ I, (kdOf t).R I zv.cells.toList (zeroD P E t) := by
  unfold elemX at h
  split at h
  · rename_i t' i ht hi
    split at h
    · rename_i z hz
      split at h
      · rename_i cs hc
        split at h
        · rename_i x0 hx0
          cases hb : Nat.beq t'.sz i.size && Nat.beq cs.length i.size with
          | false => rw [hb] at h; cases h
          | true =>
            rw [hb] at h
            simp only [cond_true, Option.some.injEq, Prod.mk.injEq] at h
            obtain ⟨rfl, rfl⟩ := h
            simp only [Bool.and_eq_true] at hb
            have h1 := Nat.eq_of_beq_eq_true hb.1
            have h2 := Nat.eq_of_beq_eq_true hb.2
            have hzv : zeroV P E = some z := by simp [zeroV, hi, hz]
            have hv : ∀ I, VRs ([] : List Ad) .e I cs z.cells.toList := fun I => (svOf_ok z).cells hc
            refine ⟨z, by simp [hi, hz, h1], hzv, ?_, fun I => ?_⟩
            · have := (hv (fun _ => none)).len
              rw [Array.length_toList] at this
              rw [this, h2, h1]
            · have : zeroD P E t' = x0 := by simp [zeroD, hzv, hc, hx0]
              rw [this]
              exact rd_ok hx0 (hv I)
        · cases h
      · cases h
    · cases h
  · cases h
/-- A new slice. -/
theorem fresh_sl {t : Ty} {xs : List t.den} {A : Option Addr} {c : Nat} {I' h' : Hp} (S : SR σ s I h As e) (hI : Le I I') (hs : sepL (As ++ [Buf (kdOf t) E A c xs]) I' h') :
    VR (σ ++ [⟨0, A, c⟩]) (s.new (.buf t E xs)).L I' (.sl s.n) (.slice A xs.length c) ∧ SR (σ ++ [⟨0, A, c⟩]) (s.new (.buf t E xs)) I' h' (As ++ [Buf (kdOf t) E A c xs]) e ∧ Stp σ s As (σ ++ [⟨0, A, c⟩]) (s.new (.buf t E xs)) (As ++ [Buf (kdOf t) E A c xs]) := by
  obtain ⟨h1, h2⟩ := S.fresh (ad := ⟨0, A, c⟩) (at_ := .buf t E xs) (A := Buf (kdOf t) E A c xs) hI hs ⟨_, S.last _, rfl⟩
  refine ⟨⟨by rw [List.length_append, S.sl]; simp, ⟨_, _, _, rfl⟩, fun t' E' ys q => ?_⟩, h1, h2⟩
  have get : (s.new (.buf t E xs)).L.get s.n = some (.buf t E xs) := by
    show (s.L.set s.n _).get s.n = _
    rw [Tr.get_set, if_pos rfl]
  rcases q with q | q
  · rw [get] at q; cases q; exact ⟨_, S.last _, rfl⟩
  · rw [get] at q; cases q
theorem SR.imm0 {I' h1 : Hp} (S : SR σ s I h As e) (hI : Le I I') (hs : sepL As I' h1) : SR σ s I' h1 As e :=
  ⟨S.sl, S.al, S.lim, fun k a q => by
    obtain ⟨A, hA, hr⟩ := S.at_ k a q
    have := hr.mono (τ := []) hI (Lm.refl _ _)
    rw [List.append_nil] at this
    exact ⟨A, hA, this⟩, hs, fun t v q => (S.env t v q).mono0 hI (Lm.refl _ _), S.gl⟩
theorem eff_mk (S : SR σ s I h As e) (hd : okDst d n = true) (hX : opX P s (.makeSlice T x y) K = some r) : EffOk P n s ⟨d, .makeSlice T x y, ty, pos, aft, g⟩ K r σ I h As e := by
  have hx := sev_ok S x
  have hy := sev_ok S y
  simp only [opX] at hX
  split at hX
  · rename_i E k l k' m hu hq hp
    rw [hq] at hx
    rw [hp] at hy
    split at hX
    · rename_i t b hel
      obtain ⟨zv, hi, hz, hz1, hzR⟩ := elem_ok hel
      split at hX
      · rename_i hc
        obtain ⟨rfl, h0, hb, h63⟩ := hc
        cases hz0 : s.c && decide (l = 0) with
        | true =>
          rw [hz0] at hX
          simp only [Bool.and_eq_true, decide_eq_true_eq] at hz0
          have hl0 := hz0.2
          refine EffAt.ok hX (at_of (fun e' ds' As' => ∃ b, e' = put e d (.slice (some ⟨b, 0, none⟩) (List.replicate l.toNat (zeroD P E t)).length l.toNat) ∧ As' = As ++ [Buf (kdOf t) E (some ⟨b, 0, none⟩) l.toNat (List.replicate l.toNat (zeroD P E t))]) S.sep
            (fun ds => OA_mk (zeroD P E t) _ rfl hd hu hi hx hy h0 (by have : (b : Int) * l = l * b := Int.mul_comm _ _; omega) h63 (kdOf_sz t) hz1 hzR fun b => ⟨rfl, b, rfl, rfl⟩) ?_)
          rintro ds e' As2 I' h' hs hI ⟨b, rfl, rfl⟩
          refine ⟨_, σ, As, rfl, ⟨some ⟨b, 0, none⟩, ?_, fun _ => ⟨_, rfl⟩⟩, S.imm0 hI (sepL_pre hs), Stp.refl⟩
          subst hl0; rfl
        | false =>
        rw [hz0] at hX
        refine EffAt.ok hX (at_of (fun e' ds' As' => ∃ b, e' = put e d (.slice (some ⟨b, 0, none⟩) (List.replicate l.toNat (zeroD P E t)).length l.toNat) ∧ As' = As ++ [Buf (kdOf t) E (some ⟨b, 0, none⟩) l.toNat (List.replicate l.toNat (zeroD P E t))]) S.sep
          (fun ds => OA_mk (zeroD P E t) _ rfl hd hu hi hx hy h0 (by have : (b : Int) * l = l * b := Int.mul_comm _ _; omega) h63 (kdOf_sz t) hz1 hzR fun b => ⟨rfl, b, rfl, rfl⟩) ?_)
        rintro ds e' As2 I' h' hs hI ⟨b, rfl, rfl⟩
        obtain ⟨h1, h2, h3⟩ := fresh_sl S hI hs
        exact ⟨_, _, _, rfl, h1, h2, h3⟩
      · cases hX
    · cases hX
  · cases hX
theorem eff_bs {len : Nat} {ps : Array (Nat × Operand)} (S : SR σ s I h As e) (hF : Fits I h w) (hd : okDst d n = true) (hX : opX P s (.buildSlice T len ps) K = some r) : EffOk P n s ⟨d, .buildSlice T len ps, ty, pos, aft, g⟩ K r σ I h As e := by
  obtain ⟨ps⟩ := ps
  simp only [opX] at hX
  split at hX
  · rename_i E hu
    split at hX
    · rename_i t b z hel hz
      obtain ⟨zv, hi, hz', hz1, hzR⟩ := elem_ok hel
      rw [hz] at hz'; cases hz'
      split at hX
      · rename_i cs hfill
        split at hX
        · rename_i cs2 s2 hfr
          split at hX
          · rename_i xs hxs
            cases hb : Nat.ble (len * t.sz) 16777216 && Nat.ble len 16777216 && Nat.beq cs2.length (len * t.sz) && Nat.beq xs.length len with
            | false => rw [hb] at hX; cases hX
            | true =>
              rw [hb] at hX
              simp only [Bool.and_eq_true] at hb
              obtain ⟨⟨⟨b1, b2⟩, b3⟩, b4⟩ := hb
              have b3 := Nat.eq_of_beq_eq_true b3
              have b4 := Nat.eq_of_beq_eq_true b4
              have hzc : VRs σ s.L I ((svOf z).cells.getD []) z.cells.toList := by
                have hq : (svOf z).cells.isSome = true := by
                  unfold elemX at hel
                  split at hel
                  · rename_i t' i ht hi'
                    have : i.zero = some z := by
                      have := hz
                      simp [zeroV, hi'] at this
                      exact this
                    rw [this] at hel
                    simp only at hel
                    split at hel
                    · rename_i cs' hcs'; rw [hcs']; rfl
                    · cases hel
                  · cases hel
                obtain ⟨c0, hc0⟩ := Option.isSome_iff_exists.1 hq
                rw [hc0]
                exact (svOf_ok z).cells hc0
              obtain ⟨vs, hreal, hvs⟩ := fill_ok (vs := (List.flatten (List.replicate len z.cells.toList)).toArray) (sev_ok S) hfill (by simpa using hzc.flat len)
              simp only [cond_true] at hX
              cases hcc : s2.c && Nat.beq len 0 with
              | true =>
              rw [hcc] at hX
              simp only [Bool.and_eq_true] at hcc
              refine EffAt.ok hX (EffAt.ghost (s2 := s2) fun w1 F1 => ?_)
              obtain ⟨I2, h2, As2, g2, S2, st2, hv2⟩ := frzL_ok S F1 hfr hvs
              refine ⟨I2, h2, As2, g2, st2, ?_⟩
              obtain ⟨Bs, hp, hpv⟩ := VRs.pers hv2
              refine at_of (As1 := As2 ++ Bs) (fun e' ds' As' => ∃ b, e' = put e d (.slice (some ⟨b, 0, none⟩) xs.length len) ∧ As' = As2 ++ Bs ++ [Buf (kdOf t) E (some ⟨b, 0, none⟩) len xs]) (PersL.add S2.sep hp)
                (fun ds => OA_bsN (kd := kdOf t) (xs := xs) (cells := vs.toList) hd hu (by cases hq : P.info? E <;> simp_all) (by cases hq : P.info? E <;> simp_all) b1 b2 hz1 (by simpa using hreal) b4 (kdOf_sz t) (fun I0 h0 hs => ?_) fun b => ⟨rfl, b, rfl, rfl⟩) ?_
              · have q1 := hpv I0 (PersL.from hp hs)
                obtain ⟨_, v1, v2, e1, hr⟩ := riN_ok (σ := σ) (L := s2.L) hxs q1
                have l1 := hr.len
                have l2 : vs.toList.length = cs2.length := q1.len
                rw [e1, List.length_append, l1, b4, kdOf_sz, b3] at l2
                have : v2 = [] := List.length_eq_zero_iff.1 (by omega)
                rw [e1, this, List.append_nil]; exact hr
              · rintro ds e' As3 I' h' hs hI ⟨b, rfl, rfl⟩
                have hl0 : len = 0 := Nat.eq_of_beq_eq_true hcc.2
                subst hl0
                exact ⟨_, σ, As2, rfl, ⟨some ⟨b, 0, none⟩, by rw [b4], fun _ => ⟨_, rfl⟩⟩, S2.imm0 hI (sepL_pre (sepL_pre hs)), Stp.refl⟩
              | false =>
              rw [hcc] at hX
              refine EffAt.ok hX (EffAt.ghost (s2 := s2) fun w1 F1 => ?_)
              obtain ⟨I2, h2, As2, g2, S2, st2, hv2⟩ := frzL_ok S F1 hfr hvs
              refine ⟨I2, h2, As2, g2, st2, ?_⟩
              obtain ⟨Bs, hp, hpv⟩ := VRs.pers hv2
              refine at_of (As1 := As2 ++ Bs) (fun e' ds' As' => ∃ b, e' = put e d (.slice (some ⟨b, 0, none⟩) xs.length len) ∧ As' = As2 ++ Bs ++ [Buf (kdOf t) E (some ⟨b, 0, none⟩) len xs]) (PersL.add S2.sep hp)
                (fun ds => OA_bsN (kd := kdOf t) (xs := xs) (cells := vs.toList) hd hu (by cases hq : P.info? E <;> simp_all) (by cases hq : P.info? E <;> simp_all) b1 b2 hz1 (by simpa using hreal) b4 (kdOf_sz t) (fun I0 h0 hs => ?_) fun b => ⟨rfl, b, rfl, rfl⟩) ?_
              · have q1 := hpv I0 (PersL.from hp hs)
                obtain ⟨_, v1, v2, e1, hr⟩ := riN_ok (σ := σ) (L := s2.L) hxs q1
                have l1 := hr.len
                have l2 : vs.toList.length = cs2.length := q1.len
                rw [e1, List.length_append, l1, b4, kdOf_sz, b3] at l2
                have : v2 = [] := List.length_eq_zero_iff.1 (by omega)
                rw [e1, this, List.append_nil]; exact hr
              · rintro ds e' As3 I' h' hs hI ⟨b, rfl, rfl⟩
                have hs' := sepL_mid hs
                have := fresh_sl (E := E) (t := t) (xs := xs) S2 hI hs'
                obtain ⟨h1, h2, h3⟩ := this
                exact ⟨_, _, _, rfl, h1, h2, h3⟩
          · cases hX
        · cases hX
      · cases hX
    · cases hX
  · cases hX
end
end Go.Proofs.YtkdakjjockfmdaaGreatDoor.XC

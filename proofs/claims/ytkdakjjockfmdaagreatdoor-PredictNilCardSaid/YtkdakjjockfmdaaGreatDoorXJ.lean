/- A machine that reckons: stores, new slices. -/
import Derived.Test.YtkdakjjockfmdaaGreatDoorXI
namespace Go.Proofs.YtkdakjjockfmdaaGreatDoor.XC
open Go Go.RowKit Go.Proofs.YtkdakjjockfmdaaGreatDoor.SL
set_option linter.unusedVariables false
set_option linter.unusedSimpArgs false
section
variable {P : Program} {n : Nat} {ρ : Type} {σ : List Ad} {L : Tr At} {s : St} {I h : Hp} {As : List Asrt} {e : Env} {w : World} {K : SV → St → Option ρ} {r : ρ}
variable {d : Option Nat} {T T' E ty : TypeId} {x y c : Operand} {pos : String} {aft : Array Edge} {g : Option (Nat × Bool)} {rds : List Nat} {lo hi mx : Option Operand}

theorem blk_len {a1 : At} {T0 : TypeId} {cs : List SV} {a0 : At} (h1 : a1 = .blk T0 cs ∨ a1 = .dead) : ∀ (t : Ty) E (xs' : List t.den), (a1 = .buf t E xs' ∨ a1 = .fz t E xs') → ∃ xs : List t.den, (a0 = .buf t E xs ∨ a0 = .fz t E xs) ∧ xs.length = xs'.length := by
  intro t E xs' h
  rcases h1 with h1 | h1 <;> subst h1 <;> rcases h with h | h <;> cases h
theorem at_store_ptr {k o : Nat} {l cs : List SV} {T0 : TypeId} (S : SR σ s I h As e) (hd : okDst d n = true) (hq : sev s x = .ptr k o) (hk : s.L.get k = some (.blk T0 cs)) (hl : (sev s y).cells = some l)
    (ho : l.all SV.one = true) (hle : o + l.length ≤ cs.length) (hz : szOf P T = some l.length) : EffAt P n s ⟨d, .store T x y, ty, pos, aft, g⟩ .ud (s.upd k (.blk T0 (setL cs o l))) σ I h As e := by
  have hx := sev_ok S x
  have hy := sev_ok S y
  rw [hq] at hx
  obtain ⟨a, ha, hea⟩ := hx
  have hv := hy.cells hl
  obtain ⟨A, hA, a', vs, ha', rfl, hvs⟩ := S.at_ k _ hk
  rw [ha] at ha'; cases ha'
  have hlen : (ev e y).cells.toList.length = l.length := hv.len
  refine at_of (fun e' ds' As' => e' = put e d undef ∧ As' = As.set k (Blk a.b T0 (setAt vs o (ev e y).cells.toList))) S.sep
    (fun ds => OA_st hd hA hea rfl rfl (by rw [List.all_eq_true]; exact hv.one ho) (by rw [hlen]; exact hz) (by rw [hlen, hvs.len]; exact Nat.ble_eq_true_of_le hle) rfl ⟨rfl, rfl, rfl⟩) ?_
  rintro ds e' As2 I' h' hs hI ⟨rfl, rfl⟩
  have hL := Lm_upd (s := s) (k := k) (a1 := .blk T0 (setL cs o l)) hk (blk_len (.inl rfl)) σ.length
  obtain ⟨h1, h2⟩ := S.turn hI hk hs (a1 := .blk T0 (setL cs o l)) (blk_len (.inl rfl)) fun L' => .inr fun hL' => by
    subst hL'
    exact ⟨a, _, ha, rfl, (hvs.setL o hv).mono0 hI hL⟩
  exact ⟨_, _, _, rfl, rfl, h1, h2⟩

theorem RoP_win {t : Ty} {xs : List t.den} {A V : Option Addr} {c v : Nat} {lo n : Int} (hr : RoP (kdOf t) A c xs I) (w : Win A V t.sz lo n v) (hl : lo + n ≤ (xs.length : Int)) : RoP (kdOf t) V v (SL.sub xs lo (lo + n)) I := by
  obtain ⟨_, cs, hrl, hc⟩ := hr
  have h0 := w.lo; have h1 := w.no; have h2 := w.cap
  have hlen : (SL.sub xs lo (lo + n)).length = n.toNat := by unfold SL.sub; rw [List.length_take, List.length_drop]; omega
  refine ⟨by rw [hlen]; omega, _, RL.sub lo.toNat ((lo + n).toNat - lo.toNat) hrl, ?_⟩
  rcases w.zero with q | q
  · left; apply List.length_eq_zero_iff.1; omega
  · rcases hc with hc | ⟨b, off, C, T, fr, hA, hb, hcell⟩
    · subst hc; left; simp [SL.sub]
    · right
      subst hA
      refine ⟨b, off + lo.toNat * t.sz, C, T, fr, by rw [q]; simp [Addr.add_lit], hb, fun j v hj => ?_⟩
      rw [List.getElem?_take] at hj
      split at hj
      · rw [List.getElem?_drop, kdOf_sz] at hj
        have := hcell _ v hj
        rw [Nat.add_assoc]; exact this
      · cases hj
theorem fz_len {t0 : Ty} {E0 : TypeId} {x0 : List t0.den} : ∀ (t : Ty) E (xs' : List t.den), (At.fz t0 E0 x0 = .buf t E xs' ∨ At.fz t0 E0 x0 = .fz t E xs') → ∃ xs : List t.den, (At.buf t0 E0 x0 = .buf t E xs ∨ At.buf t0 E0 x0 = .fz t E xs) ∧ xs.length = xs'.length := by
  intro t E xs' h
  rcases h with h | h <;> cases h
  exact ⟨_, .inl rfl, rfl⟩
/-- Freezing. -/
theorem freeze_ok {k : Nat} {t : Ty} {E : TypeId} {xs : List t.den} (S : SR σ s I h As e) (F : Fits I h w) (hk : s.L.get k = some (.buf t E xs)) :
    ∃ I2 h2 As2 a, Goes I h w I2 h2 w ∧ SR σ (s.upd k (.fz t E xs)) I2 h2 As2 e ∧ Stp σ s As σ (s.upd k (.fz t E xs)) As2 ∧ σ[k]? = some a ∧ RoP (kdOf t) a.A a.c xs I2 := by
  obtain ⟨A, hA, a, ha, rfl⟩ := S.at_ k _ hk
  obtain ⟨I2, h2, hg, hs⟩ := Gh.freeze hA I h w S.sep F
  have hkn : k < As.length := by rw [S.al]; exact S.lim k _ hk
  have hro : RoP (kdOf t) a.A a.c xs I2 := by
    obtain ⟨h1, _, p, _⟩ := sepL_at (List.getElem?_set_self hkn) hs
    exact p
  obtain ⟨h1, h2'⟩ := S.turn hg.le hk hs (a1 := .fz t E xs) fz_len fun L' => .inl ⟨a, ha, hro⟩
  exact ⟨I2, h2, _, a, hg, h1, h2', ha, hro⟩
theorem frz_ok {v v' : SV} {s2 : St} {u : Value} (S : SR σ s I h As e) (F : Fits I h w) (hf : frz s v = some (v', s2)) (hv : VR σ s.L I v u) :
    ∃ I2 h2 As2, Goes I h w I2 h2 w ∧ SR σ s2 I2 h2 As2 e ∧ Stp σ s As σ s2 As2 ∧ VR σ s2.L I2 v' u := by
  unfold frz at hf
  split at hf
  · rename_i k
    split at hf
    · rename_i t E xs hk
      simp only [Option.some.injEq, Prod.mk.injEq] at hf
      obtain ⟨rfl, rfl⟩ := hf
      obtain ⟨I2, h2, As2, a, hg, h1, h3, ha, hro⟩ := freeze_ok S F hk
      obtain ⟨_, _, hv⟩ := hv
      obtain ⟨a', ha', hu⟩ := hv t E xs (.inl hk)
      rw [ha] at ha'; cases ha'
      exact ⟨I2, h2, As2, hg, h1, h3, a.A, a.c, hu, hro⟩
    · rename_i t E xs hk
      simp only [Option.some.injEq, Prod.mk.injEq] at hf
      obtain ⟨rfl, rfl⟩ := hf
      obtain ⟨A, hA, a, ha, hro⟩ := S.at_ k _ hk
      obtain ⟨_, _, hv⟩ := hv
      obtain ⟨a', ha', hu⟩ := hv t E xs (.inr hk)
      rw [ha] at ha'; cases ha'
      exact ⟨I, h, As, Goes.refl F, S, Stp.refl, a.A, a.c, hu, hro⟩
    · cases hf
  · rename_i k lo m
    split at hf
    · rename_i t E xs hk
      simp only [Option.some.injEq, Prod.mk.injEq] at hf
      obtain ⟨rfl, rfl⟩ := hf
      obtain ⟨I2, h2, As2, a, hg, h1, h3, ha, hro⟩ := freeze_ok S F hk
      obtain ⟨_, _, hv⟩ := hv
      obtain ⟨a', V, c, ha', hw, hu, hl⟩ := hv t E xs (.inl hk)
      rw [ha] at ha'; cases ha'
      have := hw.lo; have := hw.no
      have hlen : (SL.sub xs lo (lo + m)).length = m.toNat := by unfold SL.sub; rw [List.length_take, List.length_drop]; omega
      exact ⟨I2, h2, As2, hg, h1, h3, V, c, by rw [hlen]; exact hu, RoP_win hro hw hl⟩
    · rename_i t E xs hk
      simp only [Option.some.injEq, Prod.mk.injEq] at hf
      obtain ⟨rfl, rfl⟩ := hf
      obtain ⟨A, hA, a, ha, hro⟩ := S.at_ k _ hk
      obtain ⟨_, _, hv⟩ := hv
      obtain ⟨a', V, c, ha', hw, hu, hl⟩ := hv t E xs (.inr hk)
      rw [ha] at ha'; cases ha'
      have := hw.lo; have := hw.no
      have hlen : (SL.sub xs lo (lo + m)).length = m.toNat := by unfold SL.sub; rw [List.length_take, List.length_drop]; omega
      exact ⟨I, h, As, Goes.refl F, S, Stp.refl, V, c, by rw [hlen]; exact hu, RoP_win hro hw hl⟩
    · cases hf
  · simp only [Option.some.injEq, Prod.mk.injEq] at hf
    obtain ⟨rfl, rfl⟩ := hf
    exact ⟨I, h, As, Goes.refl F, S, Stp.refl, hv⟩
theorem Stp.vr {σ' : List Ad} {s' : St} {As' : List Asrt} {I' : Hp} (S : SR σ s I h As e) (st : Stp σ s As σ' s' As') (hI : Le I I') {v : SV} {u : Value} (hv : VR σ s.L I v u) : VR σ' s'.L I' v u := by
  obtain ⟨τ, e1⟩ := st.pre
  rw [e1]; exact hv.mono hI (by rw [S.sl]; exact st.lm)
theorem Stp.vrs {σ' : List Ad} {s' : St} {As' : List Asrt} {I' : Hp} (S : SR σ s I h As e) (st : Stp σ s As σ' s' As') (hI : Le I I') {v : List SV} {u : List Value} (hv : VRs σ s.L I v u) : VRs σ' s'.L I' v u := by
  obtain ⟨τ, e1⟩ := st.pre
  rw [e1]; exact hv.mono hI (by rw [S.sl]; exact st.lm)
theorem frzL_ok : ∀ {l l' : List SV} {s s2 : St} {us : List Value} {I h : Hp} {As : List Asrt}, SR σ s I h As e → Fits I h w → frzL s l = some (l', s2) → VRs σ s.L I l us →
    ∃ I2 h2 As2, Goes I h w I2 h2 w ∧ SR σ s2 I2 h2 As2 e ∧ Stp σ s As σ s2 As2 ∧ VRs σ s2.L I2 l' us
  | [], l', s, s2, us, I, h, As, S, F, hf, hv => by
    simp only [frzL, Option.some.injEq, Prod.mk.injEq] at hf
    obtain ⟨rfl, rfl⟩ := hf
    exact ⟨I, h, As, Goes.refl F, S, Stp.refl, hv⟩
  | v :: l, l', s, s2, us, I, h, As, S, F, hf, ⟨u, us', e1, h1, h2⟩ => by
    simp only [frzL] at hf
    split at hf
    · rename_i v' s1 hv'
      split at hf
      · rename_i l1 s3 hl1
        simp only [Option.some.injEq, Prod.mk.injEq] at hf
        obtain ⟨rfl, rfl⟩ := hf
        obtain ⟨I1, k1, A1, g1, S1, st1, hv1⟩ := frz_ok S F hv' h1
        obtain ⟨I2, k2, A2, g2, S2, st2, hv2⟩ := frzL_ok S1 g1.fits hl1 (st1.vrs S g1.le h2)
        exact ⟨I2, k2, A2, g1.trans g2, S2, st1.trans st2, u, us', e1, st2.vr S1 g2.le hv1, hv2⟩
      · cases hf
    · cases hf

theorem buf_len {t : Ty} {E1 : TypeId} {xs ys : List t.den} (hl : xs.length = ys.length) : ∀ (t0 : Ty) E0 (xs' : List t0.den), (At.buf t E1 ys = .buf t0 E0 xs' ∨ At.buf t E1 ys = .fz t0 E0 xs') → ∃ zs : List t0.den, (At.buf t E1 xs = .buf t0 E0 zs ∨ At.buf t E1 xs = .fz t0 E0 zs) ∧ zs.length = xs'.length := by
  intro t0 E0 xs' q
  rcases q with q | q <;> cases q
  exact ⟨xs, .inl rfl, hl⟩
theorem at_store_el {k z : Nat} {i : Int} {o : Nat} {l : List SV} {t : Ty} {E : TypeId} {xs : List t.den} {yv : t.den} {us : List Value} (S : SR σ s I h As e) (hd : okDst d n = true) (hx : VR σ s.L I (.el k z i o) (ev e x)) (hk : s.L.get k = some (.buf t E xs))
    (hv : VRs σ s.L I l us) (hus : (ev e y).cells.toList = us) (ho : l.all SV.one = true) (hzt : z = t.sz) (hle : o + l.length ≤ z) (hz : szOf P T = some l.length) (h0 : 0 ≤ i) (h1 : i < (xs.length : Int)) (hy : t.rd (setL (t.rf (xs.getD i.toNat t.df)) o l) = some yv) :
    EffAt P n s ⟨d, .store T x y, ty, pos, aft, g⟩ .ud (s.upd k (.buf t E (xs.set i.toNat yv))) σ I h As e := by
  obtain ⟨a, ha, hea⟩ := hx
  obtain ⟨A, hA, a', ha', rfl⟩ := S.at_ k _ hk
  rw [ha] at ha'; cases ha'
  obtain ⟨Bs, hp, hpv⟩ := VRs.pers hv
  have hlen : us.length = l.length := hv.len
  letI : Inhabited t.den := ⟨t.df⟩
  have hAs : (As ++ Bs)[k]? = some (Buf (kdOf t) E a.A a.c xs) := by rw [List.getElem?_append_left (by rw [S.al]; exact S.lim k _ hk)]; exact hA
  have hkn : k < As.length := by rw [S.al]; exact S.lim k _ hk
  refine at_of (As1 := As ++ Bs) (fun e' ds' As' => e' = put e d undef ∧ As' = (As ++ Bs).set k (Buf (kdOf t) E a.A a.c (xs.set i.toNat yv))) (PersL.add S.sep hp)
    (fun ds => OA_stElN (kd := kdOf t) (sz := z) (vs := us) yv hd hAs hea rfl (by rw [kdOf_sz, hzt]) rfl hus (by rw [List.all_eq_true]; exact hv.one ho) (by rw [hlen]; exact hz) h0 h1 (by rw [hlen]; exact Nat.ble_eq_true_of_le hle)
      (fun I0 cs h0 hs hr hcl => ?_) ⟨rfl, rfl, rfl⟩) ?_
  · have q1 := hpv I0 (PersL.from hp hs)
    have q2 := rf_ok (σ := σ) (L := s.L) t hr
    exact rd_ok (σ := σ) (L := s.L) hy (q2.setL o q1)
  · rintro ds e' As2 I' h' hs hI ⟨rfl, rfl⟩
    rw [List.set_append_left _ _ hkn] at hs
    obtain ⟨h1, h2⟩ := S.turn hI hk (sepL_pre hs) (a1 := .buf t E (xs.set i.toNat yv)) (buf_len (by simp)) fun L' => .inl ⟨a, ha, rfl⟩
    exact ⟨_, _, _, rfl, rfl, h1, h2⟩
theorem eff_store (S : SR σ s I h As e) (hF : Fits I h w) (hd : okDst d n = true) (hX : opX P s (.store T x y) K = some r) : EffOk P n s ⟨d, .store T x y, ty, pos, aft, g⟩ K r σ I h As e := by
  have hx := sev_ok S x
  have hy := sev_ok S y
  simp only [opX] at hX
  cases hq : sev s x <;> rw [hq] at hX hx <;> simp only [stX] at hX <;> try cases hX
  case ptr k o =>
    split at hX
    · rename_i T0 cs l hk hl
      cases hb : l.all SV.one && Nat.ble (o + l.length) cs.length && (szOf P T == some l.length) with
      | false => rw [hb] at hX; cases hX
      | true =>
        rw [hb] at hX
        simp only [Bool.and_eq_true] at hb
        exact (at_store_ptr S hd hq hk hl hb.1.1 (Nat.le_of_ble_eq_true hb.1.2) (by simpa using hb.2)).ok hX
    · cases hX
  case el k z i o =>
    split at hX
    · rename_i l hl
      split at hX
      · rename_i l2 s2 hf
        split at hX
        · rename_i t E xs hk
          cases hb : l2.all SV.one && Nat.beq z t.sz && Nat.ble (o + l2.length) z && (szOf P T == some l2.length) with
          | false => rw [hb] at hX; cases hX
          | true =>
            rw [hb] at hX
            simp only [Bool.and_eq_true] at hb
            simp only [cond_true] at hX
            split at hX
            · rename_i hi
              split at hX
              · rename_i yv hyv
                refine EffAt.ok hX (EffAt.ghost (s2 := s2) fun w1 F1 => ?_)
                obtain ⟨I2, h2, As2, g2, S2, st2, hv2⟩ := frzL_ok S F1 hf (hy.cells hl)
                exact ⟨I2, h2, As2, g2, st2, at_store_el S2 hd (st2.vr S g2.le hx) hk hv2 rfl hb.1.1.1 (Nat.eq_of_beq_eq_true hb.1.1.2) (Nat.le_of_ble_eq_true hb.1.2) (by simpa using hb.2) hi.1 hi.2 hyv⟩
              · cases hX
            · cases hX
        · cases hX
      · cases hX
    · cases hX
end
end Go.Proofs.YtkdakjjockfmdaaGreatDoor.XC

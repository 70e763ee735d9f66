/- A machine that reckons: regions, calls, code. -/
import Derived.Test.YtkdakjjockfmdaaGreatDoorXN
namespace Go.Proofs.YtkdakjjockfmdaaGreatDoor.XC
open Go Go.RowKit Go.Proofs.YtkdakjjockfmdaaGreatDoor.SL
set_option linter.unusedVariables false
set_option linter.unusedSimpArgs false
structure Stq (σ : List Ad) (s : St) (As : List Asrt) (σ' : List Ad) (s' : St) (As' : List Asrt) : Prop where
  pre : ∃ τ, σ' = σ ++ τ
  lm : Lm s.n s.L s'.L
  g : s'.g = s.g
  m : s'.m = s.m
  n : s.n ≤ s'.n
  frm : ∃ new, s'.log = new ++ s.log ∧ ∀ k, k < s.n → k ∉ new → As'[k]? = As[k]? ∧ s'.L.get k = s.L.get k
section
variable {P : Program} {n : Nat} {ρ : Type} {σ : List Ad} {L : Tr At} {s : St} {I h : Hp} {As : List Asrt} {e : Env} {w : World} {r : ρ}
theorem Stp.q {σ' : List Ad} {s' : St} {As' : List Asrt} (a : Stp σ s As σ' s' As') : Stq σ s As σ' s' As' := ⟨a.pre, a.lm, a.g, a.m, a.n, a.frm⟩
theorem Stq.refl : Stq σ s As σ s As := Stp.refl.q
theorem Stq.trans {σ1 σ2 σ3 : List Ad} {s1 s2 s3 : St} {A1 A2 A3 : List Asrt} (a : Stq σ1 s1 A1 σ2 s2 A2) (b : Stq σ2 s2 A2 σ3 s3 A3) : Stq σ1 s1 A1 σ3 s3 A3 := by
  obtain ⟨τ, h1⟩ := a.pre
  obtain ⟨υ, h2⟩ := b.pre
  obtain ⟨m, h3, h4⟩ := a.frm
  obtain ⟨o, h5, h6⟩ := b.frm
  refine ⟨⟨τ ++ υ, by rw [h2, h1, List.append_assoc]⟩, a.lm.trans b.lm a.n, b.g.trans a.g, b.m.trans a.m, Nat.le_trans a.n b.n, o ++ m, by rw [h5, h3, List.append_assoc], fun k hk hn => ?_⟩
  rw [List.mem_append, not_or] at hn
  obtain ⟨p1, p2⟩ := h4 k hk hn.2
  obtain ⟨q1, q2⟩ := h6 k (Nat.lt_of_lt_of_le hk a.n) hn.1
  exact ⟨q1.trans p1, q2.trans p2⟩
theorem Stq.put {σ' : List Ad} {s' : St} {As' : List Asrt} (a : Stq σ s As σ' s' As') (d : Option Nat) (v : SV) : Stq σ s As σ' (s'.put d v) As' := by
  cases d with
  | none => exact a
  | some t => exact ⟨a.pre, a.lm, a.g, a.m, a.n, a.frm⟩
theorem SR.put (S : SR σ s I h As e) {v : SV} {u : Value} (hv : VR σ s.L I v u) (d : Option Nat) : SR σ (s.put d v) I h As (put e d u) := by
  cases d with
  | none => exact S
  | some t =>
    refine ⟨S.sl, S.al, S.lim, S.at_, S.sep, fun t' v' q => ?_, S.gl⟩
    have q' : (s.env.set t v).get t' = some v' := q
    rw [Te.get_set] at q'
    show VR σ s.L I v' (upd e t u t')
    unfold upd
    by_cases ht : t = t'
    · subst ht
      rw [if_pos rfl] at q'
      cases q'
      simpa using hv
    · rw [if_neg ht] at q'
      have : Nat.beq t' t = false := beq_no (Ne.symm ht)
      rw [this]
      exact S.env t' v' q'
theorem put_m (d : Option Nat) (v : SV) : (s.put d v).m = s.m := by cases d <;> rfl

/-- What a call does. -/
def CallOk (P : Program) (call : FuncId → List SV → St → (SV → St → Option ρ) → Option ρ) : Prop :=
  ∀ {f : FuncId} {args : List SV} {s : St} {K : SV → St → Option ρ} {r : ρ}, call f args s K = some r → (∃ fn c, P.funcs[f]? = some fn ∧ fn.body = some c ∧ (fn.name == "runtime.NumGoroutine") = false) ∧
    ∀ {σ : List Ad} {I h : Hp} {As : List Asrt} {e : Env} {w : World} {vals : List Value}, SR σ s I h As e → Fits I h w → VRs σ s.L I args vals →
      Calls P f vals.toArray w fun x w' => ∃ v s' u σ' As' I' h', x = .returned u ∧ K v s' = some r ∧ VR σ' s'.L I' v u ∧ SR σ' s' I' h' As' e ∧ Stp σ s As σ' s' As' ∧ Goes I h w I' h' w'

def FinR (K : St → Option ρ) (r : ρ) (n : Nat) (ds : List Deferred) (σ0 : List Ad) (s0 : St) (As0 : List Asrt) (I0 h0 : Hp) (w0 : World) (x : Exit) (a' : Act) (w' : World) : Prop :=
  x = .normal ∧ ∃ s' σ' As' I' h' e', Rel n e' ds a' ∧ SR σ' s' I' h' As' e' ∧ Stq σ0 s0 As0 σ' s' As' ∧ Goes I0 h0 w0 I' h' w' ∧ K s' = some r

theorem wp_Q {o : Oper} {a : Act} {w w1 : World} {I1 h1 : Hp} {K K' : Act → World → Prop} {Q : Exit → Act → World → Prop} (hh : o.wp P a w K (PostA n NoQ I1 h1 w1)) (hk : ∀ a w, K a w → K' a w) : o.wp P a w K' Q := Oper.wp_mono hk hh.noq

theorem wanted_of {all : Array Oper} {o : Oper} {b : Bool} {ds : List Deferred} {a : Act} (S : SR σ s I h As e) (hr : Rel n e ds a) (hm : s.m = n) (hg : guardX all s o = some b) : Region.wanted o (yielded all a.tmps) = b := by
  unfold guardX at hg
  unfold Region.wanted
  split at hg
  · rename_i q; rw [q]; cases hg; rfl
  · rename_i j want q
    rw [q]
    split at hg
    · rename_i d hd
      cases hb : Nat.blt d s.m with
      | false => rw [hb] at hg; cases hg
      | true =>
        rw [hb] at hg
        simp only [cond_true] at hg
        have hlt : d < n := by rw [← hm]; simpa using hb
        have hy := yielded_rel (ops := all) hr hd hlt
        simp only
        rw [hy]
        split at hg
        · rename_i q' hq'
          cases hg
          have : e d = .bool q' := S.env d _ hq'
          rw [this]
          cases q' <;> cases want <;> rfl
        · rename_i hq'
          cases hg
          have : e d = undef := S.env d _ hq'
          rw [this]
          rfl
        · cases hg
    · cases hg

theorem reg_ok {all : Array Oper} {call : FuncId → List SV → St → (SV → St → Option ρ) → Option ρ} {K : St → Option ρ} (hcall : CallOk P call) {ds : List Deferred} {σ0 : List Ad} {s0 : St} {As0 : List Asrt} {I0 h0 : Hp} {w0 : World} :
    ∀ (os : List Oper) (l : List Nat) (s : St) (σ : List Ad) (I h : Hp) (As : List Asrt) (e : Env) (a : Act) (w : World), l.map (all[·]?) = os.map some → regX P all call K os s = some r → SR σ s I h As e → Rel n e ds a → Fits I h w → s.m = n →
      Stq σ0 s0 As0 σ s As → Goes I0 h0 w0 I h w → wpOps P all (FinR K r n ds σ0 s0 As0 I0 h0 w0) l a w
  | [], [], s, σ, I, h, As, e, a, w, _, hX, S, hr, F, hm, st, g => ⟨rfl, s, σ, As, I, h, e, hr, S, st, g, hX⟩
  | [], _ :: _, _, _, _, _, _, _, _, _, hl, _, _, _, _, _, _, _ => by simp at hl
  | _ :: _, [], _, _, _, _, _, _, _, _, hl, _, _, _, _, _, _, _ => by simp at hl
  | o :: os, i :: l, s, σ, I, h, As, e, a, w, hl, hX, S, hr, F, hm, st, g => by
    simp only [List.map_cons, List.cons.injEq] at hl
    obtain ⟨hi, hl⟩ := hl
    simp only [wpOps, hi]
    simp only [regX] at hX
    cases hd : okDst o.dst s.m with
    | false => rw [hd] at hX; cases hX
    | true =>
    rw [hd] at hX
    simp only [Bool.not_true, cond_false] at hX
    have hdn : okDst o.dst n = true := by rw [← hm]; exact hd
    split at hX
    · cases hX
    · rename_i b hg
      have hw := wanted_of S hr hm hg
      cases b with
      | false =>
        simp only [cond_false] at hX
        simp only [hw, Bool.false_eq_true, if_false]
        exact reg_ok hcall os l _ σ I h As _ _ w hl hX (S.put (v := .ud) rfl o.dst) (hr.put hdn undef) F (by rw [put_m]; exact hm) (st.put o.dst .ud) g
      | true =>
        simp only [cond_true] at hX
        simp only [hw, if_true]
        left
        split at hX
        · rename_i fo as ts hop
          split at hX
          · rename_i f cs hf
            obtain ⟨⟨fn, c, h1, h2, h3⟩, hc⟩ := hcall hX
            have hfv := sev_ok S fo
            rw [hf] at hfv
            obtain ⟨cvs, hfe, hcv⟩ := hfv
            have hav := (sev_all S as.toList).app hcv
            have hC := hc S F hav
            unfold Oper.wp
            have hexec : (execOp a.eval o).run P w = .ok (.enter f (as.toList.map (ev e) ++ cvs.toList).toArray) w := by
              rw [hr.eval]
              obtain ⟨od, oop, oty, opos, oaft, og⟩ := o
              simp only at hop
              subst hop
              have := run_enter h1 h3 h2 (as.toList.map (ev e) ++ cvs.toList).toArray w
              have e2 : (as.toList.map (ev e) ++ cvs.toList).toArray = Array.map (ev e) as ++ cvs := by apply Array.ext'; simp
              rw [e2] at this ⊢
              simp [execOp, resolve, Deferred.ofValue, invoke, hfe, this]
            rw [hexec]
            simp only [Oper.upon]
            refine hC.mono fun x w' hx => ?_
            obtain ⟨v, s', u, σ', As', I', h', rfl, hK, hv, S', st', g'⟩ := hx
            exact reg_ok hcall os l _ σ' I' h' As' _ _ w' hl hK (S'.put hv o.dst) (hr.put hdn u) g'.fits (by rw [put_m, st'.m]; exact hm) ((st.trans st'.q).put o.dst v) (g.trans g')
          · cases hX
        · obtain ⟨v, s', hK, hop⟩ := op_at (n := n) S F hdn hX
          refine wp_Q (hop ds a hr) ?_
          rintro a' w' ⟨u, σ', As', I', h', hr', hv, S', st', g'⟩
          exact reg_ok hcall os l _ σ' I' h' As' _ _ w' hl hK (S'.put hv o.dst) hr' g'.fits (by rw [put_m, st'.m]; exact hm) ((st.trans st'.q).put o.dst v) (g.trans g')
end
end Go.Proofs.YtkdakjjockfmdaaGreatDoor.XC

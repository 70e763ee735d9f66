/- A machine that reckons: new memory that comes up ahead of its turn. -/
import Derived.Test.YtckilbegmbaeeaaGreatDoorXS
namespace Go.Proofs.YtckilbegmbaeeaaGreatDoor.XC
open Go Go.RowKit Go.Proofs.YtckilbegmbaeeaaGreatDoor.SL
set_option linter.unusedVariables false
set_option linter.unusedSimpArgs false
section
variable {P : Program} {n : Nat} {ρ : Type} {σ σ' : List Ad} {L L' : Tr At} {s : St} {I I' h : Hp} {As : List Asrt} {e : Env} {w : World} {r : ρ} {all : Array Oper} {an : Array (List Nat)}
theorem hf_free : ∀ {v : SV} {u : Value}, hf v = true → VR σ L I v u → VR σ' L' I' v u := by
  intro v u h hv
  cases v <;> first | exact hv | cases h
theorem hfs_free : ∀ {l : List SV} {us : List Value}, l.all hf = true → VRs σ L I l us → VRs σ' L' I' l us
  | [], _, _, h => h
  | v :: l, _, hh, ⟨u, r, e, h1, h2⟩ => by
    simp only [List.all_cons, Bool.and_eq_true] at hh
    exact ⟨u, r, e, hf_free hh.1 h1, hfs_free hh.2 h2⟩
theorem frzL_id : ∀ {l : List SV}, l.all cellB = true → frzL s l = some (l, s)
  | [], _ => rfl
  | v :: l, hh => by
    simp only [List.all_cons, Bool.and_eq_true] at hh
    have h1 : frz s v = some (v, s) := by
      have := hh.1
      cases v <;> first | rfl | cases this
    unfold frzL
    rw [h1]
    simp only [frzL_id hh.2]
theorem zip_map (f : Operand → SV) : ∀ ps : List (Nat × Operand), (ps.map (·.1)).zip ((ps.map (·.2)).map f) = ps.map fun p => (p.1, f p.2)
  | [] => rfl
  | p :: ps => by simp only [List.map_cons, List.zip_cons_cons, zip_map f ps]
theorem mkA_op {op : Op} {vals : List SV} {b : Bool} {at_ : At} (hm : mkA P op vals = some (b, at_)) (hv : (opnds op).map (sev s) = vals) (K : SV → St → Option ρ) : opX P s op K = K (hnd b s.n) (s.new at_) := by
  cases op <;> try (simp only [mkA] at hm; cases hm; done)
  case alloc E =>
    simp only [mkA] at hm
    simp only [opX]
    split at hm
    · rename_i z hz
      split at hm
      · rename_i cs hcs
        cases hb : cs.all SV.one && cs.all hf with
        | false => rw [hb] at hm; cases hm
        | true =>
          rw [hb] at hm
          simp only [Bool.and_eq_true] at hb
          simp only [cond_true, Option.some.injEq, Prod.mk.injEq] at hm
          obtain ⟨rfl, rfl⟩ := hm
          rw [hb.1]; rfl
      · cases hm
    · cases hm
  case box E x =>
    simp only [opnds, List.map_cons, List.map_nil] at hv
    subst hv
    simp only [mkA] at hm
    simp only [opX]
    split at hm
    · rename_i cs hcs
      cases hb : cs.all SV.one && cs.all hf with
      | false => rw [hb] at hm; cases hm
      | true =>
        rw [hb] at hm
        simp only [Bool.and_eq_true] at hb
        simp only [cond_true, Option.some.injEq, Prod.mk.injEq] at hm
        obtain ⟨rfl, rfl⟩ := hm
        simp only [hb.1]; rfl
    · cases hm
  case buildSlice T len ps =>
    simp only [opnds] at hv
    subst hv
    simp only [mkA, zip_map] at hm
    simp only [opX]
    split at hm
    · rename_i E hu
      split at hm
      · rename_i t b' z hel hz
        split at hm
        · rename_i cs hcs
          cases hb : cs.all cellB with
          | false => rw [hb] at hm; cases hm
          | true =>
            rw [hb] at hm
            simp only [cond_true] at hm
            simp only [frzL_id hb]
            split at hm
            · rename_i xs hxs
              cases hc : (Nat.ble (len * t.sz) 16777216 && Nat.ble len 16777216 && Nat.beq cs.length (len * t.sz) && Nat.beq xs.length len) with
              | false => rw [hc] at hm; cases hm
              | true =>
                rw [hc] at hm
                simp only [cond_true, Option.some.injEq, Prod.mk.injEq] at hm
                obtain ⟨rfl, rfl⟩ := hm
                rfl
            · cases hm
        · cases hm
      · cases hm
    · cases hm
theorem mkA_eff {call : FuncId → List SV → St → (SV → St → Option ρ) → Option ρ} {op : Op} {vals : List SV} {b : Bool} {at_ : At} (hm : mkA P op vals = some (b, at_)) (K : SV → St → Option ρ) : effX P call s op K = opX P s op K := by
  cases op <;> first | rfl | (simp only [mkA] at hm; cases hm)
theorem mkA_shape {op : Op} {vals : List SV} {b : Bool} {at_ : At} (hm : mkA P op vals = some (b, at_)) : (∃ E cs, b = true ∧ at_ = .blk E cs ∧ cs.all hf = true) ∨ (∃ (t : Ty) (E : TypeId) (xs : List t.den), b = false ∧ at_ = .buf t E xs) := by
  cases op <;> try (simp only [mkA] at hm; cases hm; done)
  case alloc E =>
    simp only [mkA] at hm
    split at hm
    · split at hm
      · rename_i cs hcs
        cases hb : cs.all SV.one && cs.all hf with
        | false => rw [hb] at hm; cases hm
        | true =>
          rw [hb] at hm
          simp only [Bool.and_eq_true] at hb
          cases hm; exact .inl ⟨_, _, rfl, rfl, hb.2⟩
      · cases hm
    · cases hm
  case box E x =>
    simp only [mkA] at hm
    split at hm
    · split at hm
      · rename_i cs hcs
        cases hb : cs.all SV.one && cs.all hf with
        | false => rw [hb] at hm; cases hm
        | true =>
          rw [hb] at hm
          simp only [Bool.and_eq_true] at hb
          cases hm; exact .inl ⟨_, _, rfl, rfl, hb.2⟩
      · cases hm
    · cases hm
  case buildSlice T len ps =>
    simp only [mkA] at hm
    split at hm
    · split at hm
      · split at hm
        · rename_i cs hcs
          cases hb : cs.all cellB with
          | false => rw [hb] at hm; cases hm
          | true =>
            rw [hb] at hm
            simp only [cond_true] at hm
            split at hm
            · rename_i xs hxs
              generalize (_ && _ : Bool) = q at hm
              cases q <;> cases hm
              exact .inr ⟨_, _, _, rfl, rfl⟩
            · cases hm
        · cases hm
      · cases hm
    · cases hm
/-- What is made, whenever it comes up. -/
theorem mkA_at (S : SR σ s I h As e) (F : Fits I h w) {o : Oper} (hd : okDst o.dst n = true) {b : Bool} {at_ : At} (hm : mkA P o.op ((opnds o.op).map (sev s)) = some (b, at_)) : EffAt P n s o (hnd b s.n) (s.new at_) σ I h As e := by
  obtain ⟨d, op, ty, pos, aft, g⟩ := o
  have hX := mkA_op (ρ := SV × St) hm rfl (fun v s' => some (v, s'))
  have key : EffOk P n s ⟨d, op, ty, pos, aft, g⟩ (fun v s' => some (v, s')) (hnd b s.n, s.new at_) σ I h As e := by
    cases op <;> try (simp only [mkA] at hm; cases hm; done)
    case alloc => exact eff_alloc S hd hX
    case box => exact eff_box S hd hX
    case buildSlice => exact eff_bs S F hd hX
  obtain ⟨v, s', hk, hE⟩ := key
  cases hk
  exact hE

/-- What was made ahead of its turn. -/
structure Ear (b : Bool) (at_ : At) (u : Value) (ad : Ad) (A : Asrt) (I hx : Hp) : Prop where
  holds : A.P I hx
  isAt : ∀ σ2 L2 I2 k, σ2[k]? = some ad → Le I I2 → AtR σ2 L2 I2 k at_ A
  val : ∀ σ2 L2 I2 k, σ2[k]? = some ad → k < σ2.length → L2.get k = some at_ → VR σ2 L2 I2 (hnd b k) u
theorem Ear.mono {b : Bool} {at_ : At} {u : Value} {ad : Ad} {A : Asrt} {hx : Hp} (E : Ear b at_ u ad A I hx) (hI : Le I I') : Ear b at_ u ad A I' hx :=
  ⟨A.mono hI E.holds, fun σ2 L2 I2 k h1 h2 => E.isAt σ2 L2 I2 k h1 (hI.trans h2), E.val⟩
theorem SR.less {h1 : Hp} (S : SR σ s I h1 As e) (hl : Le h1 h) : SR σ s I h As e := ⟨S.sl, S.al, S.lim, S.at_, sepL_less hl S.sep, S.env, S.gl⟩
theorem SR.imm {h1 : Hp} (S : SR σ s I h As e) (hI : Le I I') (hs : sepL As I' h1) : SR σ s I' h1 As e :=
  ⟨S.sl, S.al, S.lim, fun k a q => by
    obtain ⟨A, hA, hr⟩ := S.at_ k a q
    have := hr.mono (τ := []) hI (Lm.refl _ _)
    rw [List.append_nil] at this
    exact ⟨A, hA, this⟩, hs, fun t v q => (S.env t v q).mono0 hI (Lm.refl _ _), S.gl⟩
theorem early_step (S : SR σ s I h As e) (F : Fits I h w) {ds : List Deferred} {act : Act} {o : Oper} {t : Nat} (ht : o.dst = some t) (hd : okDst (some t) n = true) (hr : Rel n e ds act) (hu : unB s t = true) {b : Bool} {at_ : At} (hm : mkA P o.op ((opnds o.op).map (sev s)) = some (b, at_)) :
    o.wp P act w (fun a' w' => ∃ u ad A I' h' h1 hx, Rel n (put e (some t) u) ds a' ∧ SR σ s I' h1 As (put e (some t) u) ∧ Split h' h1 hx ∧ Goes I h w I' h' w' ∧ Ear b at_ u ad A I' hx) (PostA n NoQ I h w) := by
  refine Oper.wp_mono ?_ (mkA_at S F (by rw [ht]; exact hd) hm ds act w hr F)
  rintro a' w' ⟨u, σ', As', I', h', hr', hv, S', st, g⟩
  rw [ht] at hr'
  obtain ⟨τ, rfl⟩ := st.pre
  have hlen := S'.sl
  rw [List.length_append, S.sl] at hlen
  have hn : (s.new at_).n = s.n + 1 := rfl
  rw [hn] at hlen
  obtain ⟨ad, rfl⟩ : ∃ ad, τ = [ad] := List.length_eq_one_iff.1 (by omega)
  have hlast : (σ ++ [ad])[s.n]? = some ad := by rw [← S.sl]; simp
  have hget : (s.new at_).L.get s.n = some at_ := by
    show (s.L.set s.n at_).get s.n = _
    rw [Tr.get_set, if_pos rfl]
  obtain ⟨A, hA, hat⟩ := S'.at_ s.n at_ hget
  obtain ⟨new, hnew, hfrm⟩ := st.frm
  have hnil : new = [] := by
    have : s.log = new ++ s.log := hnew
    have := congrArg List.length this
    rw [List.length_append] at this
    exact List.length_eq_zero_iff.1 (by omega)
  subst hnil
  have hAs : As' = As ++ [A] := by
    apply List.ext_getElem?
    intro k
    rcases Nat.lt_trichotomy k s.n with q | q | q
    · rw [(hfrm k q (by simp)).1, List.getElem?_append_left (by rw [S.al]; exact q)]
    · subst q; rw [hA, ← S.al]; simp
    · rw [List.getElem?_eq_none (by rw [S'.al, hn]; omega), List.getElem?_eq_none (by rw [List.length_append, S.al]; simp; omega)]
  subst hAs
  obtain ⟨h1, hx, sp, q1, q2⟩ := sepL_split S'.sep
  obtain ⟨hx1, hx2, sp2, q3, _⟩ := q2
  have sp' : Split h' h1 hx1 := ⟨sp.1, sp2.1.trans sp.2.1, fun b o q => by
    cases z : hx1 b with
    | none => rfl
    | some v => have := sp2.1 b v z; rw [sp.2.2 b o q] at this; cases this⟩
  have S1 : SR σ s I' h1 As (put e (some t) u) := by
    have S0 := S.imm g.le q1
    refine ⟨S0.sl, S0.al, S0.lim, S0.at_, S0.sep, fun t' v q => ?_, S0.gl⟩
    show VR σ s.L I' v (upd e t u t')
    unfold upd
    by_cases ht' : t' = t
    · subst ht'
      unfold unB at hu
      rw [q] at hu
      cases v <;> first | trivial | cases hu
    · have : Nat.beq t' t = false := beq_no ht'
      rw [this]
      exact S0.env t' v q
  refine ⟨u, ad, A, I', h', h1, hx1, hr', S1, sp', g, q3, ?_, ?_⟩
  · intro σ2 L2 I2 k hk hI
    rcases mkA_shape hm with ⟨E, cs, _, rfl, hc⟩ | ⟨ty, E, xs, _, rfl⟩
    · obtain ⟨a, vs, ha, rfl, hvs⟩ := hat
      rw [hlast] at ha; cases ha
      exact ⟨ad, vs, hk, rfl, hfs_free hc hvs⟩
    · obtain ⟨a, ha, rfl⟩ := hat
      rw [hlast] at ha; cases ha
      exact ⟨ad, hk, rfl⟩
  · intro σ2 L2 I2 k hk hlt hg2
    rcases mkA_shape hm with ⟨E, cs, rfl, rfl, hc⟩ | ⟨ty, E, xs, rfl, rfl⟩
    · obtain ⟨a, ha, hu'⟩ := hv
      rw [hlast] at ha; cases ha
      exact ⟨ad, hk, hu'⟩
    · obtain ⟨_, hex, hv⟩ := hv
      obtain ⟨a, ha, hu'⟩ := hv ty E xs (.inl hget)
      rw [hlast] at ha; cases ha
      refine ⟨hlt, hex, fun t2 E2 xs2 hq => ⟨ad, hk, ?_⟩⟩
      rcases hq with hq | hq <;> rw [hg2] at hq <;> cases hq
      exact hu'
/-- Its turn comes. -/
theorem absorb {t : Nat} {h1 hx : Hp} (S : SR σ s I h1 As e) (sp : Split h h1 hx) {b : Bool} {at_ : At} {u : Value} {ad : Ad} {A : Asrt} (E : Ear b at_ u ad A I hx) (hu : e t = u) :
    SR (σ ++ [ad]) ((s.new at_).put (some t) (hnd b s.n)) I h (As ++ [A]) e ∧ Stp σ s As (σ ++ [ad]) (s.new at_) (As ++ [A]) := by
  have hlast := S.last ad
  have hs : sepL (As ++ [A]) I h := sepL_append sp S.sep ⟨hx, fun _ => none, ⟨Le.refl _, (fun _ _ q => by cases q), fun _ _ _ => rfl⟩, E.holds, trivial⟩
  obtain ⟨S1, st⟩ := (S.less sp.1).fresh (ad := ad) (at_ := at_) (A := A) (Le.refl I) hs (E.isAt _ _ _ _ hlast (Le.refl I))
  refine ⟨?_, st⟩
  have hv : VR (σ ++ [ad]) (s.new at_).L I (hnd b s.n) u := E.val _ _ _ _ hlast (by rw [List.length_append, S.sl]; simp) (by
    show (s.L.set s.n at_).get s.n = _
    rw [Tr.get_set, if_pos rfl])
  have := S1.put hv (some t)
  have he : put e (some t) u = e := upd_self hu
  rw [he] at this
  exact this

/-! ### regions with one such operation -/
theorem getD_set_true (l : Array Bool) (i : Nat) : (l.setIfInBounds i true).getD i true = true := by
  rcases Nat.lt_or_ge i l.size with q | q
  · simp [q]
  · have : (l.setIfInBounds i true)[i]? = none := Array.getElem?_eq_none (by simpa using q)
    rw [Array.getD_eq_getD_getElem?, this]; rfl
theorem sev_log (s : St) (l : List Nat) (x : Operand) : sev { s with log := l } x = sev s x := by cases x <;> rfl
theorem sev_off {s s' : St} {d : Option Nat} {v : SV} (he : s'.env = s.env) (hg : s'.g = s.g) {x : Operand} (h : (match d with | some d => !(tmpOf x == some d) | none => true) = true) : sev (s'.put d v) x = sev s x := by
  cases x with
  | tmp t =>
    cases d with
    | none => show (s'.env.get t).getD .un = _; rw [he]; rfl
    | some d =>
      have hne : ¬ d = t := by
        intro q; subst q
        simp only [tmpOf, beq_self_eq_true, Bool.not_true] at h
        cases h
      show ((s'.env.set d v).get t).getD .un = (s.env.get t).getD .un
      rw [Te.get_set, if_neg hne, he]
  | const v => rfl
  | func f => rfl
  | global g =>
    have : (s'.put d v).g = s.g := by cases d <;> exact hg
    show (bif Nat.blt g (s'.put d v).g then SV.ptr g 0 else .un) = _
    rw [this]; rfl
theorem plan0_listed {a : Nat} : ∀ (p : List (Nat × Bool)) (l : Array Bool), plan0 P all an a p l = true → l.getD a true = true → PlanOk P all an p l
  | [], l, h, _ => by simpa [plan0, rdy, PlanOk] using h
  | (i, tk) :: p, l, h, hl => by
    simp only [plan0, Bool.and_eq_true] at h
    obtain ⟨h1, h2⟩ := h
    have hset : (l.setIfInBounds i true).getD a true = true := by
      by_cases hia : i = a
      · subst hia; exact getD_set_true l i
      · rw [getD_set_ne true hia]; exact hl
    refine ⟨fun q => ?_, fun q => ?_, plan0_listed p _ h2 hset⟩
    · subst q
      simp only [cond_true, Bool.and_eq_true] at h1
      refine ⟨fun o ho => ?_, h1.2⟩
      have := h1.1
      unfold looksB at this
      rw [ho] at this; exact this
    · subst q
      simp only [cond_false, Bool.or_eq_true, Bool.and_eq_true] at h1
      rcases h1 with h1 | ⟨⟨⟨_, h1⟩, _⟩, _⟩
      · simpa [rdy] using h1
      · have hm : a ∈ Region.ready .any all l := by simpa [rdy] using h1
        have := (mem_ready.1 hm).1
        rw [this] at hl; cases hl
def laOf (d : Bool) (a : Nat) (l : Array Bool) : Array Bool := bif d then l.setIfInBounds a true else l
theorem laOf_set {d : Bool} {a i : Nat} {l : Array Bool} (h : d = true → i ≠ a) : laOf d a (l.setIfInBounds i true) = (laOf d a l).setIfInBounds i true := by
  cases d with
  | false => rfl
  | true => exact Array.setIfInBounds_comm _ _ (h rfl)

theorem put_g (d : Option Nat) (v : SV) : (s.put d v).g = s.g := by cases d <;> rfl
theorem absorb_ok {call : FuncId → List SV → St → (SV → St → Option ρ) → Option ρ} {K : St → Option ρ} (hcall : CallOk P call) {ds : List Deferred} {σ0 : List Ad} {s0 : St} {As0 : List Asrt} {I0 h0 : Hp} {w0 : World} {pe : Array Bool → St → Bool → List Nat → Bool}
    {a t : Nat} {oa : Oper} (hoa : all[a]? = some oa) (hta : oa.dst = some t) (hga : oa.guard = none)
    {fuel : Nat} {p : List (Nat × Bool)} {l : Array Bool} {T R : List Nat} {q : Bool} {S0 : World → Prop} {h1 hx : Hp} {act : Act} (hun : l.getD a true = false)
    (hP : PlanOk P all an p (l.setIfInBounds a true)) (hlen : p.length ≤ fuel) {b : Bool} {at_ : At} {u : Value} {ad : Ad} {A : Asrt} (hm : mkA P oa.op ((opnds oa.op).map (sev s)) = some (b, at_)) (hu : e t = u) (E : Ear b at_ u ad A I hx)
    (hX : regD P pe all an call K ((a, false) :: p) l T R q s = some r) (S : SR σ s I h1 As e) (sp : Split h h1 hx) (hr : Rel n e ds act) (F : Fits I h w) (hmn : s.m = n) (st : Stq σ0 s0 As0 σ s As) (g : Goes I0 h0 w0 I h w) (H : Hold S0 R q σ s.L I w) :
    wpAnyT P all (FinR K r n ds σ0 s0 As0 I0 h0 w0) S0 T an fuel (l.setIfInBounds a true) act w := by
  simp only [regD, hoa] at hX
  cases hd : okDst oa.dst s.m with
  | false => rw [hd] at hX; cases hX
  | true =>
  rw [hd] at hX
  have hgx : guardX all s oa = some true := by unfold guardX; rw [hga]
  rw [hgx] at hX
  simp only [Bool.not_true, cond_false, cond_true] at hX
  cases hpe : pe l s q R with
  | false => rw [hpe] at hX; cases hX
  | true =>
  rw [hpe] at hX
  simp only [cond_true] at hX
  rw [mkA_eff hm, mkA_op (s := { s with log := [] }) hm (List.map_congr_left fun x _ => sev_log s [] x)] at hX
  obtain ⟨S', stp⟩ := absorb S sp E hu
  have e1 : St.put { ({ s with log := [] } : St).new at_ with log := (({ s with log := [] } : St).new at_).log ++ s.log } oa.dst (hnd b ({ s with log := [] } : St).n) = (s.new at_).put (some t) (hnd b s.n) := by rw [hta]; rfl
  rw [e1] at hX
  have stq : Stq σ0 s0 As0 (σ ++ [ad]) ((s.new at_).put (some t) (hnd b s.n)) (As ++ [A]) := (st.trans stp.q).put (some t) _
  have hm' : ((s.new at_).put (some t) (hnd b s.n)).m = n := by rw [put_m]; exact hmn
  have hL : ((s.new at_).put (some t) (hnd b s.n)).L = (s.new at_).L := put_L _ _
  obtain ⟨new, hnew, hfrm⟩ := stp.frm
  have hnil : new = [] := by
    have h2 : s.log = new ++ s.log := hnew
    have h3 := congrArg List.length h2
    rw [List.length_append] at h3
    exact List.length_eq_zero_iff.1 (by omega)
  subst hnil
  cases hc : q && R.all fun k => Nat.blt k s.n && !((({ s with log := [] } : St).new at_).log.any (Nat.beq k)) with
  | true =>
    rw [hc] at hX
    simp only [cond_true] at hX
    simp only [Bool.and_eq_true, List.all_eq_true] at hc
    have H' : Hold S0 R q (σ ++ [ad]) ((s.new at_).put (some t) (hnd b s.n)).L I w := H.eff (S.less sp.1) F S' (Goes.refl F) ⟨[ad], rfl⟩ (new := []) (fun k hk hn => by rw [hL]; exact hfrm k hk hn) hc.1 fun k hk => by
      have := (hc.2 k hk).1
      exact ⟨by simpa using this, by simp⟩
    exact draw_ok hcall p fuel _ T R q S0 _ (σ ++ [ad]) I h (As ++ [A]) e act w hP hlen hX S' hr F hm' stq g H'
  | false =>
    rw [hc] at hX
    simp only [cond_false] at hX
    cases hc2 : (List.range all.size).all (fun j => l.getD j true || !need T an j) with
    | false => rw [hc2] at hX; cases hX
    | true =>
      rw [hc2] at hX
      simp only [cond_true] at hX
      have hall : ∀ k, k < all.size → l.getD k true = false → need T an k = false := fun k hk hl => by
        have := List.all_eq_true.1 hc2 k (List.mem_range.2 hk)
        simpa [hl] using this
      refine wpAnyT_reset (S2 := fun _ => True) (T2 := []) fuel _ _ _ (fun k hk hl => hall k hk ?_) (draw_ok hcall p fuel _ [] [] true (fun _ => True) _ (σ ++ [ad]) I h (As ++ [A]) e act w hP hlen hX S' hr F hm' stq g ⟨trivial, fun _ => ⟨fun k hk => (by cases hk), fun _ _ _ => trivial⟩⟩)
      by_cases hjk : a = k
      · subst hjk; exact hun
      · rw [getD_set_ne true hjk] at hl; exact hl

theorem drawG_ok {call : FuncId → List SV → St → (SV → St → Option ρ) → Option ρ} {K : St → Option ρ} (hcall : CallOk P call) {ds : List Deferred} {σ0 : List Ad} {s0 : St} {As0 : List Asrt} {I0 h0 : Hp} {w0 : World}
    {a t : Nat} {oa : Oper} (hoa : all[a]? = some oa) (hta : oa.dst = some t) (hga : oa.guard = none) (hda : okDst (some t) n = true) :
    ∀ (fuel : Nat) (d : Bool) (p : List (Nat × Bool)) (l : Array Bool) (T R : List Nat) (q : Bool) (S0 : World → Prop) (s : St) (σ : List Ad) (I h h1 hx : Hp) (As : List Asrt) (e : Env) (act : Act) (w : World),
      plan0 P all an a p l = true → (d = true → l.getD a true = false ∧ plan1 P all an a p l = true ∧ ∃ b at_ u ad A, mkA P oa.op ((opnds oa.op).map (sev s)) = some (b, at_) ∧ e t = u ∧ Ear b at_ u ad A I hx) → p.length ≤ fuel + (bif d then 1 else 0) →
      regD P (peX P all a t) all an call K p l T R q s = some r → SR σ s I h1 As e → Split h h1 hx → Rel n e ds act → Fits I h w → s.m = n → Stq σ0 s0 As0 σ s As → Goes I0 h0 w0 I h w → Hold S0 R q σ s.L I w →
      wpAnyT P all (FinR K r n ds σ0 s0 As0 I0 h0 w0) S0 T an fuel (laOf d a l) act w := by
  intro fuel
  induction fuel with
  | zero =>
    intro d p l T R q S0 s σ I h h1 hx As e act w hP hD hlen hX S sp hr F hm st g H
    cases d with
    | false =>
      have : p = [] := List.length_eq_zero_iff.1 (by simpa using hlen)
      subst this
      exact wpAnyT_done (by show Region.ready .any all l = []; simpa [plan0, rdy] using hP) ⟨rfl, s, σ, As, I, h, e, hr, S.less sp.1, st, g, hX⟩ 0
    | true =>
      obtain ⟨hun, hp1, b, at_, u, ad, A, hmk, hu, E⟩ := hD rfl
      cases p with
      | nil => cases hp1
      | cons x p =>
        obtain ⟨i, tk⟩ := x
        have hp0 : p = [] := List.length_eq_zero_iff.1 (by simpa using hlen)
        subst hp0
        simp only [plan1] at hp1
        cases hia : Nat.beq i a with
        | false => rw [hia] at hp1; simp at hp1
        | true =>
          have := Nat.eq_of_beq_eq_true hia
          subst this
          rw [hia] at hp1
          simp only [cond_true, Bool.not_eq_true'] at hp1
          subst hp1
          simp only [plan0, Bool.and_eq_true] at hP
          exact absorb_ok hcall hoa hta hga hun (by simpa [rdy, PlanOk] using hP.2) (Nat.le_refl _) hmk hu E hX S sp hr F hm st g H
  | succ fuel ih =>
    intro d p l T R q S0 s σ I h h1 hx As e act w hP hD hlen hX S sp hr F hm st g H
    cases p with
    | nil =>
      cases d with
      | true => obtain ⟨_, hp1, _⟩ := hD rfl; cases hp1
      | false => exact wpAnyT_done (by show Region.ready .any all l = []; simpa [plan0, rdy] using hP) ⟨rfl, s, σ, As, I, h, e, hr, S.less sp.1, st, g, hX⟩ _
    | cons x p =>
    obtain ⟨i, tk⟩ := x
    simp only [plan0, Bool.and_eq_true] at hP
    obtain ⟨hP1, hP2⟩ := hP
    by_cases hab : d = true ∧ i = a
    · obtain ⟨rfl, rfl⟩ := hab
      obtain ⟨hun, hp1, b, at_, u, ad, A, hmk, hu, E⟩ := hD rfl
      have hbq : Nat.beq i i = true := by simp
      simp only [plan1, hbq, cond_true, Bool.not_eq_true'] at hp1
      subst hp1
      have hset := getD_set_true l i
      exact absorb_ok hcall hoa hta hga hun (plan0_listed p _ hP2 hset) (by simp only [List.length_cons, cond_true] at hlen; omega) hmk hu E hX S sp hr F hm st g H
    have hia : d = true → i ≠ a := fun h1 h2 => hab ⟨h1, h2⟩
    have hlen' : p.length ≤ fuel + (bif d then 1 else 0) := by simp only [List.length_cons] at hlen; cases d <;> simp only [cond_true, cond_false] at hlen ⊢ <;> omega
    -- what the plan asks of operation i
    have hpl : d = true → (bif tk then looksB P all i && tkB all an (l.setIfInBounds a true) i else rdy all (l.setIfInBounds a true) == [i]) = true ∧ offB all a i = true ∧ plan1 P all an a p (l.setIfInBounds i true) = true := fun hd => by
      obtain ⟨_, hp1, _⟩ := hD hd
      have hb : Nat.beq i a = false := beq_no (hia hd)
      simp only [plan1, hb, cond_false, Bool.and_eq_true] at hp1
      exact ⟨hp1.1.1, hp1.1.2, hp1.2⟩
    have hX0 := hX
    simp only [regD] at hX
    split at hX
    · cases hX
    rename_i o hi
    cases hd : okDst o.dst s.m with
    | false => rw [hd] at hX; cases hX
    | true =>
    rw [hd] at hX
    simp only [Bool.not_true, cond_false] at hX
    have hdn : okDst o.dst n = true := by rw [← hm]; exact hd
    -- what is told of the early one stays told
    have hnext : ∀ (v : SV) (u' : Value) (s' : St) (I' : Hp), s'.env = s.env → s'.g = s.g → Le I I' → d = true → (l.setIfInBounds i true).getD a true = false ∧ plan1 P all an a p (l.setIfInBounds i true) = true ∧ ∃ b at_ u ad A, mkA P oa.op ((opnds oa.op).map (sev (s'.put o.dst v))) = some (b, at_) ∧ put e o.dst u' t = u ∧ Ear b at_ u ad A I' hx := by
      intro v u' s' I' he hg hI hdt
      obtain ⟨hun, _, b, at_, u, ad, A, hmk, hu, E⟩ := hD hdt
      obtain ⟨_, hoff, hp1⟩ := hpl hdt
      unfold offB at hoff
      simp only [hoa, hi] at hoff
      refine ⟨by rw [getD_set_ne true (hia hdt)]; exact hun, hp1, b, at_, u, ad, A, ?_, ?_, E.mono hI⟩
      · have : (opnds oa.op).map (sev (s'.put o.dst v)) = (opnds oa.op).map (sev s) := by
          apply List.map_congr_left
          intro x hx
          apply sev_off he hg
          cases hod : o.dst with
          | none => rfl
          | some dd =>
            rw [hod] at hoff
            simp only [Bool.and_eq_true, List.all_eq_true] at hoff
            exact hoff.2 x hx
        rw [this]; exact hmk
      · cases hod : o.dst with
        | none => exact hu
        | some dd =>
          rw [hod] at hoff
          simp only [Bool.and_eq_true, hta] at hoff
          have hne : ¬ t = dd := by
            intro q; subst q; simp at hoff
          show upd e dd u' t = u
          unfold upd
          rw [beq_no hne]; exact hu
    split at hX
    · cases hX
    rename_i bg hgd
    have hw := wanted_of S hr hm hgd
    have hQ : ∀ (v : Value) c a w, FinR K r n ds σ0 s0 As0 I0 h0 w0 (.panic c) (a.put o.dst v) w → FinR K r n ds σ0 s0 As0 I0 h0 w0 (.panic c) a w := fun v c a w hh => by cases hh.1
    have F1 := F.less sp.1
    cases tk with
    | true =>
      -- taken
      have hlt : looksB P all i = true ∧ tkB all an (laOf d a l) i = true := by
        cases d with
        | false => show _ ∧ tkB all an l i = true; simpa using hP1
        | true => show _ ∧ tkB all an (l.setIfInBounds a true) i = true; simpa using (hpl rfl).1
      have hlk : looks P o.op = true := by have := hlt.1; unfold looksB at this; rw [hi] at this; exact this
      have htk := hlt.2
      simp only [tkB, Bool.and_eq_true] at htk
      obtain ⟨⟨⟨⟨t1, t2⟩, t3⟩, t4⟩, t5⟩ := htk
      have hla := laOf_set (l := l) hia
      cases bg with
      | false =>
        simp only [cond_false, Bool.true_or, cond_true] at hX
        refine wpAnyT_weak (T2 := i :: T) (S2 := S0) (fun j => need_cons) (fun _ h => h) _ _ _ _ ?_
        refine wpAnyT_first (v := undef) hi (Region.noSelect_spec t1) (hQ undef) t5 (.inl ⟨by simp, rfl⟩) fuel _ act w (Region.free_spec hi t2) (by simpa using t3) (Inv.of t4) (.inr ⟨hw, rfl⟩) H.now ?_
        rw [← hla]
        exact ih d p _ (i :: T) R q S0 _ σ I h h1 hx As _ _ w hP2 (fun hdt => hnext .ud undef s I rfl rfl (Le.refl I) hdt) hlen' hX (S.put (v := .ud) rfl o.dst) sp (hr.put hdn undef) F (by rw [put_m]; exact hm) (st.put o.dst .ud) g (by rw [put_L]; exact H)
      | true =>
        simp only [cond_true] at hX
        obtain ⟨v, u, hK, hv, hrun⟩ := look_ok (w := w) S F1 hlk hX
        refine wpAnyT_weak (T2 := i :: T) (S2 := fun w' => S0 w' ∧ (execOp (ev e) o).run P w' = .ok (.value u) w') (fun j => need_cons) (fun _ h => h.1) _ _ _ _ ?_
        have hnow := hrun w F.imm fun k _ => Same.refl σ s.L k w
        refine wpAnyT_first (v := u) hi (Region.noSelect_spec t1) (hQ u) t5 (.inl ⟨by simp, rfl⟩) fuel _ act w (Region.free_spec hi t2) (by simpa using t3) (Inv.of t4) (.inl ⟨hw, fun w' sw => by rw [hr.eval]; exact sw.2⟩) ⟨H.now, hnow⟩ ?_
        rw [← hla]
        refine ih d p _ (i :: T) _ _ _ _ σ I h h1 hx As _ _ w hP2 (fun hdt => hnext v u s I rfl rfl (Le.refl I) hdt) hlen' hK (S.put hv o.dst) sp (hr.put hdn u) F (by rw [put_m]; exact hm) (st.put o.dst v) g ?_
        rw [put_L]
        refine ⟨⟨H.now, hnow⟩, fun hq => ?_⟩
        simp only [Bool.and_eq_true, List.all_eq_true] at hq
        obtain ⟨x1, x2⟩ := H.ext hq.1
        refine ⟨fun k hk => ?_, fun w' hI hs => ⟨x2 w' hI fun k hk => hs k (List.mem_append_right _ hk), hrun w' hI fun k hk => hs k (List.mem_append_left _ hk)⟩⟩
        rcases List.mem_append.1 hk with hk | hk
        · exact hq.2 k hk
        · exact x1 k hk
    | false =>
      have hla := laOf_set (l := l) hia
      -- the early one, if it comes up now
      have hearly : d = false → a ∈ Region.ready .any all l → i ≠ a → plan1 P all an a ((i, false) :: p) l = true → peX P all a t l s q R = true →
          wpOp P all (FinR K r n ds σ0 s0 As0 I0 h0 w0) a (fun a' w' => (need T an a = true → S0 w') ∧ wpAnyT P all (FinR K r n ds σ0 s0 As0 I0 h0 w0) S0 T an fuel (l.setIfInBounds a true) a' w') act w := by
        intro hdf hra hne hp1 hpe
        subst hdf
        have hun := (mem_ready.1 hra).1
        unfold peX at hpe
        rw [hun, hoa] at hpe
        have hc : (rdy all l).contains a = true := by simpa [rdy] using hra
        rw [hc] at hpe
        simp only [Bool.not_true, Bool.false_or, Bool.and_eq_true] at hpe
        obtain ⟨⟨⟨hu, hq⟩, hR⟩, hmk⟩ := hpe
        obtain ⟨⟨b, at_⟩, hmk⟩ := Option.isSome_iff_exists.1 hmk
        unfold wpOp
        have hwa : Region.wanted oa (yielded all act.tmps) = true := by simp [Region.wanted, hga]
        simp only [hoa, hwa, if_true]
        refine .inl (wp_Q (early_step S F1 hta hda hr hu hmk) ?_)
        rintro a' w' ⟨u, ad, A, I', h', h1', hxA, hr', S', sp', g', E⟩
        obtain ⟨g2, sp2⟩ := Goes.frame F sp g'
        have H' : Hold S0 R q σ s.L I' w' := H.eff S F1 (S'.less sp'.1) g' ⟨[], by simp⟩ (new := []) (fun k hk hn => ⟨rfl, rfl⟩) hq fun k hk => by
          have := List.all_eq_true.1 hR k hk
          exact ⟨by simpa using this, by simp⟩
        have hup : put e (some t) u t = u := by show upd e t u t = u; simp [upd]
        have := ih true ((i, false) :: p) l T R q S0 s σ I' (SL.join h' hx) h1' hxA As (put e (some t) u) a' w' (by simp only [plan0, Bool.and_eq_true]; exact ⟨hP1, hP2⟩)
          (fun _ => ⟨hun, hp1, b, at_, u, ad, A, hmk, hup, E⟩) (by simpa using hlen) hX0 S' ⟨sp'.1.trans sp2.1, sp'.2.1.trans sp2.1, sp'.2.2⟩ hr' g2.fits hm st (g.trans g2) H'
        exact ⟨fun _ => H'.now, this⟩
      have hready : peX P all a t l s q R = true → ∀ j ∈ Region.ready .any all (laOf d a l), j ≠ i → wpOp P all (FinR K r n ds σ0 s0 As0 I0 h0 w0) j (fun a' w' => (need T an j = true → S0 w') ∧ wpAnyT P all (FinR K r n ds σ0 s0 As0 I0 h0 w0) S0 T an fuel ((laOf d a l).setIfInBounds j true) a' w') act w := by
        intro hpe j hj hji
        cases d with
        | true =>
          have h2 := (hpl rfl).1
          have h2 : Region.ready .any all (laOf true a l) = [i] := by simpa [rdy, laOf] using h2
          rw [h2, List.mem_singleton] at hj
          exact absurd hj hji
        | false =>
          simp only [cond_false, Bool.or_eq_true, Bool.and_eq_true] at hP1
          rcases hP1 with hp | ⟨⟨⟨hp1, hp2⟩, hp3⟩, hp4⟩
          · have h2 : Region.ready .any all (laOf false a l) = [i] := by simpa [rdy, laOf] using hp
            rw [h2, List.mem_singleton] at hj
            exact absurd hj hji
          · have h2 := List.all_eq_true.1 hp1 j hj
            simp only [Bool.or_eq_true] at h2
            rcases h2 with h2 | h2
            · exact absurd (Nat.eq_of_beq_eq_true h2) hji
            · have := Nat.eq_of_beq_eq_true h2
              subst this
              exact hearly rfl hj (fun q => hji q.symm) hp4 hpe
      have hsome : Region.ready .any all (laOf d a l) = [] → False := fun h0' => by
        cases d with
        | true =>
          have h2 := (hpl rfl).1
          have h2 : Region.ready .any all (laOf true a l) = [i] := by simpa [rdy, laOf] using h2
          rw [h2] at h0'; cases h0'
        | false =>
          simp only [cond_false, Bool.or_eq_true, Bool.and_eq_true] at hP1
          rcases hP1 with hp | ⟨⟨⟨hp1, hp2⟩, hp3⟩, hp4⟩
          · have h2 : Region.ready .any all (laOf false a l) = [i] := by simpa [rdy, laOf] using hp
            rw [h2] at h0'; cases h0'
          · have : a ∈ Region.ready .any all l := by simpa [rdy] using hp2
            rw [show Region.ready .any all l = [] from h0'] at this; cases this
      cases bg with
      | false =>
        simp only [cond_false, Bool.false_or] at hX
        cases hpe : peX P all a t l s q R with
        | false => rw [hpe] at hX; cases hX
        | true =>
        rw [hpe] at hX
        simp only [cond_true] at hX
        refine ⟨fun h' => (hsome h').elim, fun j hj => ?_⟩
        by_cases hji : j = i
        · subst hji
          unfold wpOp
          simp only [hi, hw, Bool.false_eq_true, if_false]
          refine ⟨fun _ => H.now, ?_⟩
          rw [← hla]
          exact ih d p _ T R q S0 _ σ I h h1 hx As _ _ w hP2 (fun hdt => hnext .ud undef s I rfl rfl (Le.refl I) hdt) hlen' hX (S.put (v := .ud) rfl o.dst) sp (hr.put hdn undef) F (by rw [put_m]; exact hm) (st.put o.dst .ud) g (by rw [put_L]; exact H)
        · exact hready hpe j hj hji
      | true =>
        simp only [cond_true, cond_false] at hX
        cases hpe : peX P all a t l s q R with
        | false => rw [hpe] at hX; cases hX
        | true =>
        rw [hpe] at hX
        simp only [cond_true] at hX
        refine ⟨fun h' => (hsome h').elim, fun j hj => ?_⟩
        by_cases hji : j = i
        · subst hji
          have hun : l.getD j true = false := by
            have := (mem_ready.1 hj).1
            cases d with
            | false => exact this
            | true => rwa [show laOf true a l = l.setIfInBounds a true from rfl, getD_set_ne true (Ne.symm (hia rfl))] at this
          unfold wpOp
          simp only [hi, hw, if_true]
          refine .inl (wp_Q (eff_ok hcall (S.log []) hr F1 hdn hX) ?_)
          rintro a' w' ⟨v, s', u, σ', As', I', h1', hK, hr', hv, S', st', g'⟩
          obtain ⟨g2, sp2⟩ := Goes.frame F sp g'
          have st2 := st'.log0 (s := s) rfl
          obtain ⟨new, hnew, hfrm⟩ := st'.frm
          have hnew' : s'.log = new := by rw [hnew]; exact List.append_nil _
          have hm' : s'.m = n := st'.m.trans hm
          rw [← hla]
          cases hc : q && R.all fun k => Nat.blt k s.n && !(s'.log.any (Nat.beq k)) with
          | true =>
            rw [hc] at hK
            simp only [cond_true] at hK
            simp only [Bool.and_eq_true, List.all_eq_true] at hc
            have H' : Hold S0 R q σ' s'.L I' w' := H.eff S F1 S' g' st'.pre hfrm hc.1 fun k hk => by
              have := hc.2 k hk
              refine ⟨by simpa using this.1, fun hin => ?_⟩
              rw [hnew'] at this
              have h2 : new.any (Nat.beq k) = true := List.any_eq_true.2 ⟨k, hin, by simp⟩
              rw [h2] at this
              simp at this
            exact ⟨fun _ => H'.now, ih d p _ T R q S0 _ σ' I' (SL.join h1' hx) h1' hx As' _ _ w' hP2 (fun hdt => hnext v u { s' with log := s'.log ++ s.log } I' st'.env st'.g g'.le hdt) hlen' hK (SR.put (s := { s' with log := s'.log ++ s.log }) (S'.log (s'.log ++ s.log)) hv o.dst) sp2 hr' g2.fits (by rw [put_m]; exact hm') ((st.trans st2.q).put o.dst v) (g.trans g2) (by rw [put_L]; exact H')⟩
          | false =>
            rw [hc] at hK
            simp only [cond_false] at hK
            cases hc2 : (List.range all.size).all (fun j => l.getD j true || !need T an j) with
            | false => rw [hc2] at hK; cases hK
            | true =>
              rw [hc2] at hK
              simp only [cond_true] at hK
              have hall : ∀ k, k < all.size → l.getD k true = false → need T an k = false := fun k hk hl => by
                have := List.all_eq_true.1 hc2 k (List.mem_range.2 hk)
                simpa [hl] using this
              refine ⟨fun hq => ?_, wpAnyT_reset (S2 := fun _ => True) (T2 := []) fuel _ _ _ (fun k hk hl => hall k hk ?_) (ih d p _ [] [] true (fun _ => True) _ σ' I' (SL.join h1' hx) h1' hx As' _ _ w' hP2 (fun hdt => hnext v u { s' with log := s'.log ++ s.log } I' st'.env st'.g g'.le hdt) hlen' hK (SR.put (s := { s' with log := s'.log ++ s.log }) (S'.log (s'.log ++ s.log)) hv o.dst) sp2 hr' g2.fits (by rw [put_m]; exact hm') ((st.trans st2.q).put o.dst v) (g.trans g2) ⟨trivial, fun _ => ⟨fun k hk => (by cases hk), fun _ _ _ => trivial⟩⟩)⟩
              · rw [hall j (Array.getElem?_eq_some_iff.1 hi).1 hun] at hq; cases hq
              · by_cases hjk : j = k
                · subst hjk; exact hun
                · rw [hla, getD_set_ne true hjk] at hl
                  cases d with
                  | false => exact hl
                  | true =>
                    by_cases hak : a = k
                    · subst hak
                      exact (hD rfl).1
                    · rw [show laOf true a l = l.setIfInBounds a true from rfl, getD_set_ne true hak] at hl; exact hl
        · exact hready hpe j hj hji
theorem newAt_ok {a t : Nat} (h : newAt all a = some t) : ∃ oa, all[a]? = some oa ∧ oa.dst = some t ∧ oa.guard = none := by
  unfold newAt at h
  split at h <;> first | (rename_i q; cases h; exact ⟨_, q, rfl, rfl⟩) | cases h
theorem planX_ok {a t : Nat} {p : List (Nat × Bool)} (h : planX P all an = some (a, t, p)) : (∃ oa, all[a]? = some oa ∧ oa.dst = some t ∧ oa.guard = none) ∧ plan0 P all an a p (Array.replicate all.size false) = true ∧ p.length ≤ all.size := by
  unfold planX at h
  obtain ⟨a', _, ha⟩ := List.exists_of_findSome?_eq_some h
  split at ha
  · rename_i t' hn
    split at ha
    · rename_i p' hp
      cases hc : plan0 P all an a' p' (Array.replicate all.size false) && Nat.ble p'.length all.size with
      | false => rw [hc] at ha; cases ha
      | true =>
        rw [hc] at ha
        simp only [cond_true, Option.some.injEq, Prod.mk.injEq] at ha
        obtain ⟨rfl, rfl, rfl⟩ := ha
        simp only [Bool.and_eq_true] at hc
        exact ⟨newAt_ok hn, hc.1, Nat.le_of_ble_eq_true hc.2⟩
    · cases ha
  · cases ha
end
end Go.Proofs.YtckilbegmbaeeaaGreatDoor.XC

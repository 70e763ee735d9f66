/- A machine that reckons: new memory that comes up ahead of its turn. -/
import Derived.Test.YtkdakjjockfmdaaGreatDoorXS
namespace Go.Proofs.YtkdakjjockfmdaaGreatDoor.XC
open Go Go.RowKit Go.Proofs.YtkdakjjockfmdaaGreatDoor.SL
set_option linter.unusedVariables false
set_option linter.unusedSimpArgs false
section
variable {P : Program} {n : Nat} {ρ : Type} {σ σ' : List Ad} {L L' : Tr At} {s : St} {I I' h : Hp} {As : List Asrt} {e : Env} {w : World} {r : ρ} {all : Array Oper} {an : Array (List Nat)}
theorem hf_free : ∀ {v : SV} {u : Value}, hf v = true → VR σ L I v u → VR σ' L' I' v u := by
  intro v u h hv
  cases v <;> first | exact hv | cases h
theorem hfs_free : ∀ {l : List SV} {us : List Value}, l.all hf = true → VRs σ L I l us → VRs σ' L' I' l us
  | [], _, _, h => h
  | v :: l, _, hh, ⟨u, r, e, h1, h2⟩ => by
    simp only [List.all_cons, Bool.and_eq_true] at hh
    exact ⟨u, r, e, hf_free hh.1 h1, hfs_free hh.2 h2⟩
theorem frzL_id : ∀ {l : List SV}, l.all cellB = true → frzL s l = some (l, s)
  | [], _ => rfl
  | v :: l, hh => by
    simp only [List.all_cons, Bool.and_eq_true] at hh
    have h1 : frz s v = some (v, s) := by
      have := hh.1
      cases v <;> first | rfl | cases this
    unfold frzL
    rw [h1]
    simp only [frzL_id hh.2]
theorem zip_map (f : Operand → SV) : ∀ ps : List (Nat × Operand), (ps.map (·.1)).zip ((ps.map (·.2)).map f) = ps.map fun p => (p.1, f p.2)
  | [] => rfl
  | p :: ps => by simp only [List.map_cons, List.zip_cons_cons, zip_map f ps]
theorem mkA_op {op : Op} {vals : List SV} {b : Bool} {at_ : At} (hm : mkA P op vals = some (b, at_)) (hv : (opnds op).map (sev s) = vals) (K : SV → St → Option ρ) : opX P s op K = K (hnd b s.n) (s.new at_) := by
  cases op <;> try (simp only [mkA] at hm; cases hm; done)
  case alloc E =>
    simp only [mkA] at hm
    simp only [opX]
    split at hm
    · rename_i z hz
      split at hm
      · rename_i cs hcs
        cases hb : cs.all SV.one && cs.all hf with
        | false => rw [hb] at hm; cases hm
        | true =>
          rw [hb] at hm
          simp only [Bool.and_eq_true] at hb
          simp only [cond_true, Option.some.injEq, Prod.mk.injEq] at hm
          obtain ⟨rfl, rfl⟩ := hm
          rw [hb.1]; rfl
      · cases hm
    · cases hm
  case box E x =>
    simp only [opnds, List.map_cons, List.map_nil] at hv
    subst hv
    simp only [mkA] at hm
    simp only [opX]
    split at hm
    · rename_i cs hcs
      cases hb : cs.all SV.one && cs.all hf with
      | false => rw [hb] at hm; cases hm
      | true =>
        rw [hb] at hm
        simp only [Bool.and_eq_true] at hb
        simp only [cond_true, Option.some.injEq, Prod.mk.injEq] at hm
        obtain ⟨rfl, rfl⟩ := hm
        simp only [hb.1]; rfl
    · cases hm
  case buildSlice T len ps =>
    simp only [opnds] at hv
    subst hv
    simp only [mkA, zip_map] at hm
    simp only [opX]
    split at hm
    · rename_i E hu
      split at hm
      · rename_i t b' z hel hz
        split at hm
        · rename_i cs hcs
          cases hb : cs.all cellB with
          | false => rw [hb] at hm; cases hm
          | true =>
            rw [hb] at hm
            simp only [cond_true] at hm
            simp only [frzL_id hb]
            split at hm
            · rename_i xs hxs
              cases hc : (Nat.ble (len * t.sz) 16777216 && Nat.ble len 16777216 && Nat.beq cs.length (len * t.sz) && Nat.beq xs.length len) with
              | false => rw [hc] at hm; cases hm
              | true =>
                rw [hc] at hm
                cases h0 : Nat.beq len 0 with
                | true => rw [h0] at hm; cases hm
                | false =>
                  rw [h0] at hm
                  simp only [Bool.not_false, Bool.and_self, cond_true, Option.some.injEq, Prod.mk.injEq] at hm
                  obtain ⟨rfl, rfl⟩ := hm
                  simp only [Bool.and_false, cond_true, cond_false]
                  rfl
            · cases hm
        · cases hm
      · cases hm
    · cases hm
theorem mkA_eff {call : FuncId → List SV → St → (SV → St → Option ρ) → Option ρ} {op : Op} {vals : List SV} {b : Bool} {at_ : At} (hm : mkA P op vals = some (b, at_)) (K : SV → St → Option ρ) : effX P call s op K = opX P s op K := by
  cases op <;> first | rfl | (simp only [mkA] at hm; cases hm)
theorem mkA_shape {op : Op} {vals : List SV} {b : Bool} {at_ : At} (hm : mkA P op vals = some (b, at_)) : (∃ E cs, b = true ∧ at_ = .blk E cs ∧ cs.all hf = true) ∨ (∃ (t : Ty) (E : TypeId) (xs : List t.den), b = false ∧ at_ = .buf t E xs) := by
  cases op <;> try (simp only [mkA] at hm; cases hm; done)
  case alloc E =>
    simp only [mkA] at hm
    split at hm
    · split at hm
      · rename_i cs hcs
        cases hb : cs.all SV.one && cs.all hf with
        | false => rw [hb] at hm; cases hm
        | true =>
          rw [hb] at hm
          simp only [Bool.and_eq_true] at hb
          cases hm; exact .inl ⟨_, _, rfl, rfl, hb.2⟩
      · cases hm
    · cases hm
  case box E x =>
    simp only [mkA] at hm
    split at hm
    · split at hm
      · rename_i cs hcs
        cases hb : cs.all SV.one && cs.all hf with
        | false => rw [hb] at hm; cases hm
        | true =>
          rw [hb] at hm
          simp only [Bool.and_eq_true] at hb
          cases hm; exact .inl ⟨_, _, rfl, rfl, hb.2⟩
      · cases hm
    · cases hm
  case buildSlice T len ps =>
    simp only [mkA] at hm
    split at hm
    · split at hm
      · split at hm
        · rename_i cs hcs
          cases hb : cs.all cellB with
          | false => rw [hb] at hm; cases hm
          | true =>
            rw [hb] at hm
            simp only [cond_true] at hm
            split at hm
            · rename_i xs hxs
              generalize (_ && _ : Bool) = q at hm
              cases q <;> cases hm
              exact .inr ⟨_, _, _, rfl, rfl⟩
            · cases hm
        · cases hm
      · cases hm
    · cases hm
/-- What is made, whenever it comes up. -/
theorem mkA_at (S : SR σ s I h As e) (F : Fits I h w) {o : Oper} (hd : okDst o.dst n = true) {b : Bool} {at_ : At} (hm : mkA P o.op ((opnds o.op).map (sev s)) = some (b, at_)) : EffAt P n s o (hnd b s.n) (s.new at_) σ I h As e := by
  obtain ⟨d, op, ty, pos, aft, g⟩ := o
  have hX := mkA_op (ρ := SV × St) hm rfl (fun v s' => some (v, s'))
  have key : EffOk P n s ⟨d, op, ty, pos, aft, g⟩ (fun v s' => some (v, s')) (hnd b s.n, s.new at_) σ I h As e := by
    cases op <;> try (simp only [mkA] at hm; cases hm; done)
    case alloc => exact eff_alloc S hd hX
    case box => exact eff_box S hd hX
    case buildSlice => exact eff_bs S F hd hX
  obtain ⟨v, s', hk, hE⟩ := key
  cases hk
  exact hE

/-- What was made ahead of its turn. -/
structure Ear (b : Bool) (at_ : At) (u : Value) (ad : Ad) (A : Asrt) (I hx : Hp) : Prop where
  holds : A.P I hx
  isAt : ∀ σ2 L2 I2 k, σ2[k]? = some ad → Le I I2 → AtR σ2 L2 I2 k at_ A
  val : ∀ σ2 L2 I2 k, σ2[k]? = some ad → k < σ2.length → L2.get k = some at_ → VR σ2 L2 I2 (hnd b k) u
theorem Ear.mono {b : Bool} {at_ : At} {u : Value} {ad : Ad} {A : Asrt} {hx : Hp} (E : Ear b at_ u ad A I hx) (hI : Le I I') : Ear b at_ u ad A I' hx :=
  ⟨A.mono hI E.holds, fun σ2 L2 I2 k h1 h2 => E.isAt σ2 L2 I2 k h1 (hI.trans h2), E.val⟩
theorem SR.less {h1 : Hp} (S : SR σ s I h1 As e) (hl : Le h1 h) : SR σ s I h As e := ⟨S.sl, S.al, S.lim, S.at_, sepL_less hl S.sep, S.env, S.gl⟩
theorem SR.imm {h1 : Hp} (S : SR σ s I h As e) (hI : Le I I') (hs : sepL As I' h1) : SR σ s I' h1 As e :=
  ⟨S.sl, S.al, S.lim, fun k a q => by
    obtain ⟨A, hA, hr⟩ := S.at_ k a q
    have := hr.mono (τ := []) hI (Lm.refl _ _)
    rw [List.append_nil] at this
    exact ⟨A, hA, this⟩, hs, fun t v q => (S.env t v q).mono0 hI (Lm.refl _ _), S.gl⟩
/-- The state with all its memory out of sight. -/
theorem SR.bare (S : SR σ s I h As e) : SR σ { s with L := .e } I (fun _ => none) (List.replicate s.n emp) e := by
  have hn : ∀ k a, (Tr.e : Tr At).get k = some a → False := fun k a q => by rw [Tr.get_e] at q; cases q
  refine ⟨S.sl, by simp, fun k a q => (hn k a q).elim, fun k a q => (hn k a q).elim, ?_, fun t v q => ?_, S.gl⟩
  · generalize s.n = n
    induction n with
    | zero => exact trivial
    | succ n ih => exact ⟨fun _ => none, fun _ => none, ⟨(fun _ _ q => by cases q), (fun _ _ q => by cases q), fun _ _ _ => rfl⟩, trivial, ih⟩
  · have := (S.env t v q).mono (τ := []) (L' := .e) (Le.refl I) (fun k hk ty E xs hx => by rcases hx with hx | hx <;> exact (hn _ _ hx).elim)
    rwa [List.append_nil] at this
theorem same_own {I' h' : Hp} {w' : World} (S : SR σ s I h As e) (F : Fits I h w) (F' : Fits I' h' w') (hl : Le h h') (k : Nat) : Same σ s.L k w w' := by
  constructor
  · intro a T cs ha hL
    obtain ⟨A, hA1, a', vs, ha', rfl, _⟩ := S.at_ k _ hL
    rw [ha] at ha'; cases ha'
    obtain ⟨h1, l, p, _⟩ := sepL_at hA1 S.sep
    rw [F.own _ _ (l _ _ p), F'.own _ _ (hl _ _ (l _ _ p))]
  · intro a t E xs ha hL b off j v hb hj hv
    obtain ⟨A, hA1, a', ha', rfl⟩ := S.at_ k _ hL
    rw [ha] at ha'; cases ha'
    obtain ⟨h1, l, ⟨cs, hr, hx⟩, _⟩ := sepL_at hA1 S.sep
    rcases hx with ⟨_, _, q⟩ | ⟨g, cur, q, ⟨fr, hg, _⟩, _, _, hs, ht⟩
    · subst q; simp at hj
    · rw [q] at hb; cases hb
      rw [cell_of (F.own _ _ (l _ _ hg))] at hv
      rw [cell_of (F'.own _ _ (hl _ _ (l _ _ hg)))]
      exact hv
theorem early_step {Q : Exit → Act → World → Prop} (S : SR σ s I h As e) (F : Fits I h w) {ds : List Deferred} {act : Act} {o : Oper} {t : Nat} (ht : o.dst = some t) (hd : okDst (some t) n = true) (hr : Rel n e ds act) (hu : unB s t = true) {b : Bool} {at_ : At} (hm : mkA P o.op ((opnds o.op).map (sev s)) = some (b, at_)) :
    o.wp P act w (fun a' w' => ∃ u ad A I' h' hx, Rel n (put e (some t) u) ds a' ∧ SR σ s I' h As (put e (some t) u) ∧ Split h' h hx ∧ Goes I h w I' h' w' ∧ Ear b at_ u ad A I' hx) Q := by
  have sp0 : Split h (fun _ => none) h := ⟨(fun _ _ q => by cases q), Le.refl h, fun _ _ q => by cases q⟩
  have F0 : Fits I (fun _ => none) w := F.less sp0.1
  have S0 := S.bare
  have hsev : ∀ x, sev ({ s with L := .e } : St) x = sev s x := fun x => by cases x <;> rfl
  have hm0 : mkA P o.op ((opnds o.op).map (sev ({ s with L := .e } : St))) = some (b, at_) := by
    rw [List.map_congr_left (fun x _ => hsev x)]; exact hm
  refine wp_Q (mkA_at S0 F0 (by rw [ht]; exact hd) hm0 ds act w hr F0) ?_
  rintro a' w' ⟨u, σ', As', I', h', hr', hv, S', st, g0⟩
  obtain ⟨g, spf⟩ := Goes.frame F sp0 g0
  rw [ht] at hr'
  obtain ⟨τ, rfl⟩ := st.pre
  have hlen := S'.sl
  rw [List.length_append, S.sl] at hlen
  have hn : (({ s with L := .e } : St).new at_).n = s.n + 1 := rfl
  rw [hn] at hlen
  obtain ⟨ad, rfl⟩ : ∃ ad, τ = [ad] := List.length_eq_one_iff.1 (by omega)
  have hlast : (σ ++ [ad])[s.n]? = some ad := by rw [← S.sl]; simp
  have hget : (({ s with L := .e } : St).new at_).L.get s.n = some at_ := by
    show ((Tr.e : Tr At).set s.n at_).get s.n = _
    rw [Tr.get_set, if_pos rfl]
  obtain ⟨A, hA, hat⟩ := S'.at_ s.n at_ hget
  obtain ⟨new, hnew, hfrm⟩ := st.frm
  have hnil : new = [] := by
    have : s.log = new ++ s.log := hnew
    have := congrArg List.length this
    rw [List.length_append] at this
    exact List.length_eq_zero_iff.1 (by omega)
  subst hnil
  have hAs : As' = List.replicate s.n emp ++ [A] := by
    apply List.ext_getElem?
    intro k
    rcases Nat.lt_trichotomy k s.n with q | q | q
    · rw [(hfrm k q (by simp)).1, List.getElem?_append_left (by simpa using q)]
    · subst q; rw [hA]; simp
    · rw [List.getElem?_eq_none (by rw [S'.al, hn]; omega), List.getElem?_eq_none (by simp; omega)]
  subst hAs
  obtain ⟨h1, hx, sp, q1, q2⟩ := sepL_split S'.sep
  obtain ⟨hx1, hx2, sp2, q3, _⟩ := q2
  have lx : Le hx1 h' := sp2.1.trans sp.2.1
  have sp' : Split (SL.join h' h) h hx1 := ⟨spf.2.1, lx.trans spf.1, fun b o q => by
    cases z : hx1 b with
    | none => rfl
    | some v => have := spf.2.2 b v (lx b v z); rw [q] at this; cases this⟩
  have S1 : SR σ s I' h As (put e (some t) u) := by
    have S0 := S.imm g.le (sepL_mono g.le S.sep)
    refine ⟨S0.sl, S0.al, S0.lim, S0.at_, S0.sep, fun t' v q => ?_, S0.gl⟩
    show VR σ s.L I' v (upd e t u t')
    unfold upd
    by_cases ht' : t' = t
    · subst ht'
      unfold unB at hu
      rw [q] at hu
      cases v <;> first | trivial | cases hu
    · have : Nat.beq t' t = false := beq_no ht'
      rw [this]
      exact S0.env t' v q
  refine ⟨u, ad, A, I', SL.join h' h, hx1, hr', S1, sp', g, q3, ?_, ?_⟩
  · intro σ2 L2 I2 k hk hI
    rcases mkA_shape hm with ⟨E, cs, _, rfl, hc⟩ | ⟨ty, E, xs, _, rfl⟩
    · obtain ⟨a, vs, ha, rfl, hvs⟩ := hat
      rw [hlast] at ha; cases ha
      exact ⟨ad, vs, hk, rfl, hfs_free hc hvs⟩
    · obtain ⟨a, ha, rfl⟩ := hat
      rw [hlast] at ha; cases ha
      exact ⟨ad, hk, rfl⟩
  · intro σ2 L2 I2 k hk hlt hg2
    rcases mkA_shape hm with ⟨E, cs, rfl, rfl, hc⟩ | ⟨ty, E, xs, rfl, rfl⟩
    · obtain ⟨a, ha, hu'⟩ := hv
      rw [hlast] at ha; cases ha
      exact ⟨ad, hk, hu'⟩
    · obtain ⟨_, hex, hv⟩ := hv
      obtain ⟨a, ha, hu'⟩ := hv ty E xs (.inl hget)
      rw [hlast] at ha; cases ha
      refine ⟨hlt, hex, fun t2 E2 xs2 hq => ⟨ad, hk, ?_⟩⟩
      rcases hq with hq | hq <;> rw [hg2] at hq <;> cases hq
      exact hu'
/-- Its turn comes. -/
theorem absorb {t : Nat} {h1 hx : Hp} (S : SR σ s I h1 As e) (sp : Split h h1 hx) {b : Bool} {at_ : At} {u : Value} {ad : Ad} {A : Asrt} (E : Ear b at_ u ad A I hx) (hu : e t = u) :
    SR (σ ++ [ad]) ((s.new at_).put (some t) (hnd b s.n)) I h (As ++ [A]) e ∧ Stp σ s As (σ ++ [ad]) (s.new at_) (As ++ [A]) := by
  have hlast := S.last ad
  have hs : sepL (As ++ [A]) I h := sepL_append sp S.sep ⟨hx, fun _ => none, ⟨Le.refl _, (fun _ _ q => by cases q), fun _ _ _ => rfl⟩, E.holds, trivial⟩
  obtain ⟨S1, st⟩ := (S.less sp.1).fresh (ad := ad) (at_ := at_) (A := A) (Le.refl I) hs (E.isAt _ _ _ _ hlast (Le.refl I))
  refine ⟨?_, st⟩
  have hv : VR (σ ++ [ad]) (s.new at_).L I (hnd b s.n) u := E.val _ _ _ _ hlast (by rw [List.length_append, S.sl]; simp) (by
    show (s.L.set s.n at_).get s.n = _
    rw [Tr.get_set, if_pos rfl])
  have := S1.put hv (some t)
  have he : put e (some t) u = e := upd_self hu
  rw [he] at this
  exact this

/-! ### regions with one such operation -/
theorem getD_set_true (l : Array Bool) (i : Nat) : (l.setIfInBounds i true).getD i true = true := by
  rcases Nat.lt_or_ge i l.size with q | q
  · simp [q]
  · have : (l.setIfInBounds i true)[i]? = none := Array.getElem?_eq_none (by simpa using q)
    rw [Array.getD_eq_getD_getElem?, this]; rfl
theorem sev_log (s : St) (l : List Nat) (x : Operand) : sev { s with log := l } x = sev s x := by cases x <;> rfl
theorem sev_off {s s' : St} {d : Option Nat} {v : SV} (he : s'.env = s.env) (hg : s'.g = s.g) {x : Operand} (h : (match d with | some d => !(tmpOf x == some d) | none => true) = true) : sev (s'.put d v) x = sev s x := by
  cases x with
  | tmp t =>
    cases d with
    | none => show (s'.env.get t).getD .un = _; rw [he]; rfl
    | some d =>
      have hne : ¬ d = t := by
        intro q; subst q
        simp only [tmpOf, beq_self_eq_true, Bool.not_true] at h
        cases h
      show ((s'.env.set d v).get t).getD .un = (s.env.get t).getD .un
      rw [Te.get_set, if_neg hne, he]
  | const v => rfl
  | func f => rfl
  | global g =>
    have : (s'.put d v).g = s.g := by cases d <;> exact hg
    show (bif Nat.blt g (s'.put d v).g then SV.ptr g 0 else .un) = _
    rw [this]; rfl
theorem laE_set {i : Nat} : ∀ {E : List Nat} {l : Array Bool}, i ∉ E → laE E (l.setIfInBounds i true) = (laE E l).setIfInBounds i true
  | [], _, _ => rfl
  | a :: E, l, h => by
    rw [List.mem_cons, not_or] at h
    show (laE E (l.setIfInBounds i true)).setIfInBounds a true = ((laE E l).setIfInBounds a true).setIfInBounds i true
    rw [laE_set h.2, Array.setIfInBounds_comm _ _ h.1]
theorem laE_in {i : Nat} : ∀ {E : List Nat} {l : Array Bool}, i ∈ E → laE E l = laE (E.erase i) (l.setIfInBounds i true)
  | [], _, h => by cases h
  | a :: E, l, h => by
    by_cases hai : a = i
    · subst hai
      rw [List.erase_cons_head]
      by_cases hin : a ∈ E
      · show (laE E l).setIfInBounds a true = _
        have key : ∀ {E : List Nat} {l : Array Bool}, a ∈ E → (laE E l).setIfInBounds a true = laE E (l.setIfInBounds a true) := by
          intro E
          induction E with
          | nil => intro l h; cases h
          | cons b E ih =>
            intro l h
            show ((laE E l).setIfInBounds b true).setIfInBounds a true = (laE E (l.setIfInBounds a true)).setIfInBounds b true
            by_cases hb : a ∈ E
            · rw [← ih hb]
              by_cases hab : a = b
              · subst hab; rfl
              · rw [Array.setIfInBounds_comm _ _ (Ne.symm hab)]
            · rcases List.mem_cons.1 h with q | q
              · subst q; rw [laE_set hb]
              · exact absurd q hb
        exact key hin
      · show (laE E l).setIfInBounds a true = _
        rw [laE_set hin]
    · rw [List.erase_cons_tail (by simpa using hai)]
      have hin : i ∈ E := by
        rcases List.mem_cons.1 h with q | q
        · exact absurd q.symm hai
        · exact q
      show (laE E l).setIfInBounds a true = (laE (E.erase i) (l.setIfInBounds i true)).setIfInBounds a true
      rw [laE_in hin]
theorem put_g (d : Option Nat) (v : SV) : (s.put d v).g = s.g := by cases d <;> rfl

/-- What those that came up ahead of their turn have made. -/
def EX (P : Program) (all : Array Oper) (s : St) (e : Env) (I : Hp) : List Nat → Hp → Prop
  | [], _ => True
  | a :: E, hx => ∃ oa t b at_ ad A h1 h2, all[a]? = some oa ∧ oa.dst = some t ∧ oa.guard = none ∧ mkA P oa.op ((opnds oa.op).map (sev s)) = some (b, at_) ∧ Ear b at_ (e t) ad A I h1 ∧ Split hx h1 h2 ∧ EX P all s e I E h2
theorem EX.less : ∀ {E : List Nat} {hx hy : Hp}, EX P all s e I E hx → Le hx hy → EX P all s e I E hy
  | [], _, _, _, _ => trivial
  | _ :: _, _, _, ⟨oa, t, b, at_, ad, A, h1, h2, p1, p2, p3, p4, p5, sp, k⟩, hl => ⟨oa, t, b, at_, ad, A, h1, h2, p1, p2, p3, p4, p5, sp.of_less hl, k⟩
/-- Another operation leaves that alone. -/
theorem EX.next {s' : St} {I' : Hp} {o : Oper} {i : Nat} {v : SV} {u : Value} (hi : all[i]? = some o) (he : s'.env = s.env) (hg : s'.g = s.g) (hI : Le I I') : ∀ {E : List Nat} {hx : Hp}, (∀ a ∈ E, offB all a i = true) → EX P all s e I E hx → EX P all (s'.put o.dst v) (put e o.dst u) I' E hx
  | [], _, _, _ => trivial
  | a :: E, hx, hoff, ⟨oa, t, b, at_, ad, A, h1, h2, p1, p2, p3, p4, p5, sp, k⟩ => by
    have ho := hoff a (by simp)
    unfold offB at ho
    simp only [p1, hi] at ho
    refine ⟨oa, t, b, at_, ad, A, h1, h2, p1, p2, p3, ?_, ?_, sp, EX.next hi he hg hI (fun c hc => hoff c (by simp [hc])) k⟩
    · have : (opnds oa.op).map (sev (s'.put o.dst v)) = (opnds oa.op).map (sev s) := by
        apply List.map_congr_left
        intro x hx
        apply sev_off he hg
        cases hod : o.dst with
        | none => rfl
        | some dd =>
          rw [hod] at ho
          simp only [Bool.and_eq_true, List.all_eq_true] at ho
          exact ho.2 x hx
      rw [this]; exact p4
    · have : put e o.dst u t = e t := by
        cases hod : o.dst with
        | none => rfl
        | some dd =>
          rw [hod] at ho
          simp only [Bool.and_eq_true, p2] at ho
          have hne : ¬ t = dd := by
            intro q; subst q; simp at ho
          show upd e dd u t = e t
          unfold upd
          rw [beq_no hne]; rfl
      rw [this]; exact p5.mono hI
theorem EX.early {I' : Hp} {o : Oper} {i t : Nat} {u : Value} (hi : all[i]? = some o) (ht : o.dst = some t) (hI : Le I I') : ∀ {E : List Nat} {hx : Hp}, (∀ a ∈ E, offB all a i = true) → EX P all s e I E hx → EX P all s (put e (some t) u) I' E hx
  | [], _, _, _ => trivial
  | a :: E, hx, hoff, ⟨oa, ta, b, at_, ad, A, h1, h2, p1, p2, p3, p4, p5, sp, k⟩ => by
    have ho := hoff a (by simp)
    unfold offB at ho
    simp only [p1, hi, ht, p2, Bool.and_eq_true] at ho
    refine ⟨oa, ta, b, at_, ad, A, h1, h2, p1, p2, p3, p4, ?_, sp, EX.early hi ht hI (fun c hc => hoff c (by simp [hc])) k⟩
    have hne : ¬ ta = t := by
      intro q; subst q; simp at ho
    have : put e (some t) u ta = e ta := by
      show upd e t u ta = e ta
      unfold upd
      rw [beq_no hne]; rfl
    rw [this]; exact p5.mono hI
/-- One of them, and the rest. -/
theorem EX.take {i : Nat} : ∀ {E : List Nat} {hx : Hp}, i ∈ E → EX P all s e I E hx → ∃ oa t b at_ ad A h1 h2, all[i]? = some oa ∧ oa.dst = some t ∧ oa.guard = none ∧ mkA P oa.op ((opnds oa.op).map (sev s)) = some (b, at_) ∧ Ear b at_ (e t) ad A I h1 ∧ Split hx h1 h2 ∧ EX P all s e I (E.erase i) h2
  | [], _, h, _ => by cases h
  | a :: E, hx, h, k => by
    by_cases hai : a = i
    · subst hai
      rw [List.erase_cons_head]
      exact k
    · obtain ⟨oa, t, b, at_, ad, A, h1, h2, p1, p2, p3, p4, p5, sp, k⟩ := k
      have hin : i ∈ E := by
        rcases List.mem_cons.1 h with q | q
        · exact absurd q.symm hai
        · exact q
      obtain ⟨oa', t', b', at', ad', A', g1, g2, q1, q2, q3, q4, q5, sp', k'⟩ := EX.take hin k
      rw [List.erase_cons_tail (by simpa using hai)]
      have d1 : ∀ b o, h1 b = some o → g1 b = none := fun b o q => by
        cases z : g1 b with
        | none => rfl
        | some w => have := sp'.1 b w z; rw [sp.2.2 b o q] at this; cases this
      have d2 : ∀ b o, h1 b = some o → g2 b = none := fun b o q => by
        cases z : g2 b with
        | none => rfl
        | some w => have := sp'.2.1 b w z; rw [sp.2.2 b o q] at this; cases this
      refine ⟨oa', t', b', at', ad', A', g1, SL.join h1 g2, q1, q2, q3, q4, q5, ⟨sp'.1.trans sp.2.1, fun b o q => ?_, fun b o q => join_none.2 ⟨?_, sp'.2.2 b o q⟩⟩, oa, t, b, at_, ad, A, h1, g2, p1, p2, p3, p4, p5, ⟨join_l, join_r d2, d2⟩, k'⟩
      · cases z : h1 b with
        | some w => rw [SL.join, z] at q; exact sp.1 b o (z.trans q)
        | none => rw [SL.join, z] at q; exact sp.2.1 b o (sp'.2.1 b o q)
      · cases z : h1 b with
        | none => rfl
        | some w => rw [d1 b w z] at q; cases q

theorem un_of_laE {k : Nat} : ∀ {E : List Nat} {l : Array Bool}, (laE E l).getD k true = false → l.getD k true = false
  | [], _, h => h
  | a :: E, l, h => by
    by_cases hak : a = k
    · subst hak
      have : ((laE E l).setIfInBounds a true).getD a true = true := getD_set_true _ a
      rw [show laE (a :: E) l = (laE E l).setIfInBounds a true from rfl, this] at h
      cases h
    · rw [show laE (a :: E) l = (laE E l).setIfInBounds a true from rfl, getD_set_ne true hak] at h
      exact un_of_laE h
theorem planG_len {D : List Nat} : ∀ (f : Nat) (E : List Nat) (p : List (Nat × Bool)) (l : Array Bool), planG P all an D f E p l = true → E.length ≤ p.length
  | 0, _, _, _, h => by cases h
  | f + 1, E, [], l, h => by
    simp only [planG, Bool.and_eq_true] at h
    have : E = [] := by simpa using h.1
    subst this; simp
  | f + 1, E, (i, tk) :: p, l, h => by
    simp only [planG] at h
    cases hc : E.contains i with
    | true =>
      rw [hc] at h
      simp only [cond_true, Bool.and_eq_true] at h
      have := planG_len f _ _ _ h.2
      have hin : i ∈ E := by simpa using hc
      rw [List.length_erase_of_mem hin] at this
      simp only [List.length_cons]; omega
    | false =>
      rw [hc] at h
      simp only [cond_false, Bool.and_eq_true] at h
      have := planG_len f _ _ _ h.2
      simp only [List.length_cons]; omega
theorem newAt_ok {a t : Nat} (h : newAt all a = some t) : ∃ oa, all[a]? = some oa ∧ oa.dst = some t ∧ oa.guard = none := by
  unfold newAt at h
  split at h <;> first | (rename_i q; cases h; exact ⟨_, q, rfl, rfl⟩) | cases h
theorem laE_keep {i : Nat} : ∀ {E : List Nat} {l : Array Bool}, l.getD i false = true → (laE E l).getD i false = true
  | [], _, h => h
  | _ :: _, _, h => getD_set_keep (laE_keep h)
theorem mkA_looks {op : Op} {vals : List SV} {b : Bool} {at_ : At} (hm : mkA P op vals = some (b, at_)) : looks P op = false := by
  cases op <;> first | rfl | (simp only [mkA] at hm; cases hm)
theorem drawG_ok {call : FuncId → List SV → St → (SV → St → Option ρ) → Option ρ} {K : St → Option ρ} (hcall : CallOk P call) {ds : List Deferred} {σ0 : List Ad} {s0 : St} {As0 : List Asrt} {I0 h0 : Hp} {w0 : World} {D : List Nat} :
    ∀ (f fuel : Nat) (E : List Nat) (p : List (Nat × Bool)) (l : Array Bool) (T R : List Nat) (q : Bool) (S0 : World → Prop) (s : St) (σ : List Ad) (I h h1 hx : Hp) (As : List Asrt) (e : Env) (act : Act) (w : World),
      planG P all an D f E p l = true → EX P all s e I E hx → E.length ≤ p.length → p.length ≤ fuel + E.length →
      regD P (peX P all D) all an call K p l T R q s = some r → SR σ s I h1 As e → Split h h1 hx → Rel n e ds act → Fits I h w → s.m = n → Stq σ0 s0 As0 σ s As → Goes I0 h0 w0 I h w → Hold S0 R q σ s.L I w →
      wpAnyU P all (FinR K r n ds σ0 s0 As0 I0 h0 w0) S0 T an fuel (laE E l) act w := by
  intro f
  induction f with
  | zero => intro fuel E p l T R q S0 s σ I h h1 hx As e act w hP; cases hP
  | succ f ih =>
    intro fuel E p l T R q S0 s σ I h h1 hx As e act w hP hE hEp hlen hX S sp hr F hm st g H
    cases p with
    | nil =>
      simp only [planG, Bool.and_eq_true] at hP
      have hE0 : E = [] := by simpa using hP.1
      subst hE0
      exact wpAnyU_done (by show Region.ready .any all l = []; simpa [rdy] using hP.2) ⟨rfl, s, σ, As, I, h, e, hr, S.less sp.1, st, g, hX⟩ _
    | cons x p =>
    obtain ⟨i, tk⟩ := x
    simp only [planG] at hP
    cases hc : E.contains i with
    | true =>
      -- its turn comes
      rw [hc] at hP
      simp only [cond_true, Bool.and_eq_true, Bool.not_eq_true'] at hP
      obtain ⟨⟨⟨rfl, hun⟩, hoffE⟩, hP⟩ := hP
      have hin : i ∈ E := by simpa using hc
      obtain ⟨oa, t, b, at_, ad, A, g1, g2, q1, q2, q3, hmk, hear, spx, hrest⟩ := hE.take hin
      rw [laE_in hin]
      simp only [regD, q1] at hX
      cases hd : okDst oa.dst s.m with
      | false => rw [hd] at hX; cases hX
      | true =>
      rw [hd] at hX
      have hgx : guardX all s oa = some true := by unfold guardX; rw [q3]
      rw [hgx] at hX
      simp only [Bool.not_true, cond_false, cond_true] at hX
      cases hpe : peX P all D l s q R with
      | false => rw [hpe] at hX; cases hX
      | true =>
      rw [hpe] at hX
      simp only [cond_true] at hX
      rw [mkA_eff hmk, mkA_op (s := { s with log := [] }) hmk (List.map_congr_left fun x _ => sev_log s [] x)] at hX
      -- the parts of memory
      have dj : ∀ b o, h1 b = some o → g1 b = none ∧ g2 b = none := fun b o q => by
        have := sp.2.2 b o q
        constructor
        · cases z : g1 b with
          | none => rfl
          | some w => rw [spx.1 b w z] at this; cases this
        · cases z : g2 b with
          | none => rfl
          | some w => rw [spx.2.1 b w z] at this; cases this
      have spA : Split (SL.join h1 g1) h1 g1 := ⟨join_l, join_r fun b o q => (dj b o q).1, fun b o q => (dj b o q).1⟩
      have spB : Split h (SL.join h1 g1) g2 := ⟨fun b o q => by
          cases z : h1 b with
          | some w => rw [SL.join, z] at q; exact sp.1 b o (z.trans q)
          | none => rw [SL.join, z] at q; exact sp.2.1 b o (spx.1 b o q), spx.2.1.trans sp.2.1, fun b o q => by
          cases z : h1 b with
          | some w => exact (dj b w z).2
          | none => rw [SL.join, z] at q; exact spx.2.2 b o q⟩
      obtain ⟨S', stp⟩ := absorb S spA hear rfl
      have e1 : St.put { ({ s with log := [] } : St).new at_ with log := (({ s with log := [] } : St).new at_).log ++ s.log } oa.dst (hnd b ({ s with log := [] } : St).n) = (s.new at_).put (some t) (hnd b s.n) := by rw [q2]; rfl
      rw [e1] at hX
      have stq : Stq σ0 s0 As0 (σ ++ [ad]) ((s.new at_).put (some t) (hnd b s.n)) (As ++ [A]) := (st.trans stp.q).put (some t) _
      have hm' : ((s.new at_).put (some t) (hnd b s.n)).m = n := by rw [put_m]; exact hm
      have hL : ((s.new at_).put (some t) (hnd b s.n)).L = (s.new at_).L := put_L _ _
      obtain ⟨new, hnew, hfrm⟩ := stp.frm
      have hnil : new = [] := by
        have h2 : s.log = new ++ s.log := hnew
        have h3 := congrArg List.length h2
        rw [List.length_append] at h3
        exact List.length_eq_zero_iff.1 (by omega)
      subst hnil
      -- the rest of them is told as before: their operands are not this one's result
      have hrest' : EX P all ((s.new at_).put (some t) (hnd b s.n)) e I (E.erase i) g2 := by
        have := EX.next (s := s) (u := e t) (v := hnd b s.n) (s' := s.new at_) q1 rfl rfl (Le.refl I) (E := E.erase i) (hx := g2) (fun a ha => ?_) hrest
        · rw [q2] at this
          have he : put e (some t) (e t) = e := upd_self rfl
          rw [he] at this
          exact this
        · exact List.all_eq_true.1 hoffE a ha
      have hlen' : p.length ≤ fuel + (E.erase i).length := by
        rw [List.length_erase_of_mem hin]
        have : 0 < E.length := List.length_pos_of_mem hin
        simp only [List.length_cons] at hlen; omega
      have hEp' : (E.erase i).length ≤ p.length := by
        rw [List.length_erase_of_mem hin]
        have : 0 < E.length := List.length_pos_of_mem hin
        simp only [List.length_cons] at hEp; omega
      cases hcc : q && R.all fun k => Nat.blt k s.n && !((({ s with log := [] } : St).new at_).log.any (Nat.beq k)) with
      | true =>
        rw [hcc] at hX
        simp only [cond_true] at hX
        simp only [Bool.and_eq_true, List.all_eq_true] at hcc
        have H' : Hold S0 R q (σ ++ [ad]) ((s.new at_).put (some t) (hnd b s.n)).L I w := H.eff (S.less sp.1) F (S'.less spB.1) (Goes.refl F) ⟨[ad], rfl⟩ (new := []) (fun k hk hn => by rw [hL]; exact hfrm k hk hn) hcc.1 fun k hk => by
          have := (hcc.2 k hk).1
          exact ⟨by simpa using this, by simp⟩
        exact ih fuel (E.erase i) p _ T R q S0 _ (σ ++ [ad]) I h (SL.join h1 g1) g2 (As ++ [A]) e act w hP hrest' hEp' hlen' hX S' spB hr F hm' stq g H'
      | false =>
        rw [hcc] at hX
        simp only [cond_false] at hX
        rw [mkA_looks hmk] at hX
        simp only [cond_false] at hX
        cases hc2 : !need T an i with
        | false => rw [hc2] at hX; cases hX
        | true =>
          rw [hc2] at hX
          simp only [cond_true] at hX
          have h0 : need T an i = false := by simpa using hc2
          have hin' : (laE (E.erase i) (l.setIfInBounds i true)).getD i false = true := laE_keep (getD_set_self (getD_lt hun))
          exact wpAnyU_reset (S2 := fun _ => True) (T2 := []) fuel _ _ _ (.inr ⟨i, by unfold brk; rw [q1]; simp [mkA_looks hmk], hin', h0⟩) (ih fuel (E.erase i) p _ [] [] true (fun _ => True) _ (σ ++ [ad]) I h (SL.join h1 g1) g2 (As ++ [A]) e act w hP hrest' hEp' hlen' hX S' spB hr F hm' stq g ⟨trivial, fun _ k hk => (by cases hk), fun _ _ _ => trivial⟩)
    | false =>
      rw [hc] at hP
      simp only [cond_false, Bool.and_eq_true] at hP
      obtain ⟨⟨hoff, hP1⟩, hP2⟩ := hP
      have hin : i ∉ E := fun q => by
        have : E.contains i = true := by simpa using q
        rw [this] at hc; cases hc
      have hoff : ∀ a ∈ E, offB all a i = true := fun a ha => List.all_eq_true.1 hoff a ha
      have hla := laE_set (l := l) hin
      have hX0 := hX
      simp only [regD] at hX
      split at hX
      · cases hX
      rename_i o hi
      cases hd : okDst o.dst s.m with
      | false => rw [hd] at hX; cases hX
      | true =>
      rw [hd] at hX
      simp only [Bool.not_true, cond_false] at hX
      have hdn : okDst o.dst n = true := by rw [← hm]; exact hd
      split at hX
      · cases hX
      rename_i bg hgd
      have hw := wanted_of S hr hm hgd
      have hQ : ∀ (v : Value) c a w, FinR K r n ds σ0 s0 As0 I0 h0 w0 (.panic c) (a.put o.dst v) w → FinR K r n ds σ0 s0 As0 I0 h0 w0 (.panic c) a w := fun v c a w hh => by cases hh.1
      have F1 := F.less sp.1
      -- fuel
      obtain ⟨fuel, rfl, hlen', hEp'⟩ : ∃ m, fuel = m + 1 ∧ p.length ≤ m + E.length ∧ E.length ≤ p.length := by
        have h3 := planG_len _ _ _ _ hP2
        simp only [List.length_cons] at hlen
        cases fuel with
        | zero => omega
        | succ m => exact ⟨m, rfl, by omega, h3⟩
      cases tk with
      | true =>
        simp only [cond_true, Bool.and_eq_true] at hP1
        have hlk : looks P o.op = true := by have := hP1.1; unfold looksB at this; rw [hi] at this; exact this
        have htk := hP1.2
        simp only [tkB, Bool.and_eq_true] at htk
        obtain ⟨⟨⟨⟨t1, t2⟩, t3⟩, t4⟩, t5⟩ := htk
        cases bg with
        | false =>
          simp only [cond_false, Bool.true_or, cond_true] at hX
          simp only [Bool.true_and] at hX
          cases hnd : need T an i with
          | false =>
            rw [hnd] at hX
            simp only [cond_false] at hX
            refine wpAnyU_first (v := undef) (S' := fun _ => True) hi (Region.noSelect_spec t1) (hQ undef) t5 hlk (.inr ⟨rfl, hnd⟩) fuel _ act w (Region.free_spec hi t2) (by simpa using t3) (Inv.of t4) (.inr ⟨hw, rfl⟩) trivial ?_
            rw [← hla]
            exact ih fuel E p _ T R q S0 _ σ I h h1 hx As _ _ w hP2 (EX.next (s := s) (s' := s) hi rfl rfl (Le.refl I) hoff hE) hEp' hlen' hX (S.put (v := .ud) rfl o.dst) sp (hr.put hdn undef) F (by rw [put_m]; exact hm) (st.put o.dst .ud) g (by rw [put_L]; exact H)
          | true =>
          rw [hnd] at hX
          simp only [cond_true] at hX
          refine wpAnyU_weak (T2 := i :: T) (S2 := S0) (fun j => need_cons) (fun _ h => h) _ _ _ _ ?_
          refine wpAnyU_first (v := undef) hi (Region.noSelect_spec t1) (hQ undef) t5 hlk (.inl ⟨by simp, rfl⟩) fuel _ act w (Region.free_spec hi t2) (by simpa using t3) (Inv.of t4) (.inr ⟨hw, rfl⟩) H.now ?_
          rw [← hla]
          exact ih fuel E p _ (i :: T) R q S0 _ σ I h h1 hx As _ _ w hP2 (EX.next (s := s) (s' := s) hi rfl rfl (Le.refl I) hoff hE) hEp' hlen' hX (S.put (v := .ud) rfl o.dst) sp (hr.put hdn undef) F (by rw [put_m]; exact hm) (st.put o.dst .ud) g (by rw [put_L]; exact H)
        | true =>
          simp only [cond_true] at hX
          cases hez : easy o.op && !need T an i with
          | true =>
            rw [hez] at hX
            simp only [cond_true] at hX
            simp only [Bool.and_eq_true, Bool.not_eq_true'] at hez
            obtain ⟨v, u, hK, hv, hrun⟩ := look_ok (w := w) S F1 hlk hX
            have hnow := hrun w F.imm fun k _ => Same.refl σ s.L k w
            refine wpAnyU_first (v := u) (S' := fun _ => True) hi (Region.noSelect_spec t1) (hQ u) t5 hlk (.inr ⟨rfl, hez.2⟩) fuel _ act w (Region.free_spec hi t2) (by simpa using t3) (Inv.of t4) (.inl ⟨hw, fun w' _ => by rw [hr.eval]; exact easy_any hez.1 hnow w'⟩) trivial ?_
            rw [← hla]
            exact ih fuel E p _ T R q S0 _ σ I h h1 hx As _ _ w hP2 (EX.next (s := s) (s' := s) hi rfl rfl (Le.refl I) hoff hE) hEp' hlen' hK (S.put hv o.dst) sp (hr.put hdn u) F (by rw [put_m]; exact hm) (st.put o.dst v) g (by rw [put_L]; exact H)
          | false =>
          rw [hez] at hX
          simp only [cond_false] at hX
          obtain ⟨v, u, hK, hv, hrun⟩ := look_ok (w := w) S F1 hlk hX
          refine wpAnyU_weak (T2 := i :: T) (S2 := fun w' => S0 w' ∧ (execOp (ev e) o).run P w' = .ok (.value u) w') (fun j => need_cons) (fun _ h => h.1) _ _ _ _ ?_
          have hnow := hrun w F.imm fun k _ => Same.refl σ s.L k w
          refine wpAnyU_first (v := u) hi (Region.noSelect_spec t1) (hQ u) t5 hlk (.inl ⟨by simp, rfl⟩) fuel _ act w (Region.free_spec hi t2) (by simpa using t3) (Inv.of t4) (.inl ⟨hw, fun w' sw => by rw [hr.eval]; exact sw.2⟩) ⟨H.now, hnow⟩ ?_
          rw [← hla]
          refine ih fuel E p _ (i :: T) _ _ _ _ σ I h h1 hx As _ _ w hP2 (EX.next (s := s) (s' := s) hi rfl rfl (Le.refl I) hoff hE) hEp' hlen' hK (S.put hv o.dst) sp (hr.put hdn u) F (by rw [put_m]; exact hm) (st.put o.dst v) g ?_
          rw [put_L]
          refine ⟨⟨H.now, hnow⟩, fun hq k hk => ?_, fun w' hI hs => ⟨H.ext w' hI fun k hk => hs k (List.mem_append_right _ hk), hrun w' hI fun k hk => hs k (List.mem_append_left _ hk)⟩⟩
          simp only [Bool.and_eq_true, List.all_eq_true] at hq
          rcases List.mem_append.1 hk with hk | hk
          · exact hq.2 k hk
          · exact H.pin hq.1 k hk
      | false =>
        simp only [cond_false, Bool.and_eq_true] at hP1
        obtain ⟨hri, hrall⟩ := hP1
        have hri : i ∈ Region.ready .any all (laE E l) := by simpa [rdy] using hri
        have hready : peX P all D l s q R = true → ∀ j ∈ Region.ready .any all (laE E l), j ≠ i → wpOp P all (FinR K r n ds σ0 s0 As0 I0 h0 w0) j (fun a' w' => (dem P all T an ((laE E l).setIfInBounds j true) j → S0 w') ∧ wpAnyU P all (FinR K r n ds σ0 s0 As0 I0 h0 w0) S0 T an fuel ((laE E l).setIfInBounds j true) a' w') act w := by
          intro hpe a hra hne
          have h2 := List.all_eq_true.1 hrall a hra
          simp only [Bool.or_eq_true, Bool.and_eq_true, Bool.not_eq_true'] at h2
          rcases h2 with h2 | ⟨⟨⟨⟨hD, hnE⟩, hrl⟩, hofE⟩, hPa⟩
          · exact absurd (Nat.eq_of_beq_eq_true h2) hne
          have hpa := List.all_eq_true.1 hpe a (by simpa using hD)
          obtain ⟨hun, oa, hoa, _⟩ := mem_ready.1 hra
          have hunl : l.getD a true = false := un_of_laE hun
          rw [hunl, hrl, hoa] at hpa
          simp only [Bool.not_true, Bool.false_or, Bool.and_eq_true] at hpa
          obtain ⟨hna, hmk⟩ := hpa
          cases hnt : newAt all a with
          | none => rw [hnt] at hna; cases hna
          | some t =>
          rw [hnt] at hna
          simp only [Bool.and_eq_true] at hna
          obtain ⟨hu, hda⟩ := hna
          rw [hm] at hda
          obtain ⟨oa', hoa', hta, hga⟩ := newAt_ok hnt
          rw [hoa] at hoa'; cases hoa'
          obtain ⟨⟨b, at_⟩, hmk⟩ := Option.isSome_iff_exists.1 hmk
          unfold wpOp
          have hwa : Region.wanted oa (yielded all act.tmps) = true := by simp [Region.wanted, hga]
          simp only [hoa, hwa, if_true]
          refine .inl (Oper.wp_mono ?_ (early_step S F1 hta hda hr hu hmk))
          rintro a' w' ⟨u, ad, A, I', h', hxA, hr', S', sp', g', hear⟩
          obtain ⟨g2, sp2⟩ := Goes.frame F sp g'
          have hsame : ∀ k, Same σ s.L k w w' := same_own S F1 g'.fits sp'.1
          have hI2 : ∀ w2, ImmW I' w2 → ImmW I w2 := fun w2 q b o hb => q b o (g'.le b o hb)
          have H' : Hold S0 R q σ s.L I' w' := ⟨H.ext w' (hI2 w' g'.fits.imm) fun k _ => hsame k, H.pin, fun w2 h2 hs => H.ext w2 (hI2 w2 h2) fun k hk => (hsame k).trans (hs k hk) rfl rfl⟩
          have hup : put e (some t) u t = u := by show upd e t u t = u; simp [upd]
          have dAx : ∀ b o, hxA b = some o → hx b = none := fun b o q => sp2.2.2 b o (sp'.2.1 b o q)
          have spE : Split (SL.join hxA hx) hxA hx := ⟨join_l, join_r dAx, dAx⟩
          have spN : Split (SL.join h' hx) h1 (SL.join hxA hx) := ⟨sp'.1.trans sp2.1, fun b o q => by
              cases z : hxA b with
              | some v => rw [SL.join, z] at q; exact sp2.1 b o (sp'.2.1 b o (z.trans q))
              | none => rw [SL.join, z] at q; exact sp2.2.1 b o q, fun b o q => join_none.2 ⟨sp'.2.2 b o q, sp2.2.2 b o (sp'.1 b o q)⟩⟩
          have hE' : EX P all s (put e (some t) u) I' (a :: E) (SL.join hxA hx) := by
            refine ⟨oa, t, b, at_, ad, A, hxA, hx, hoa, hta, hga, hmk, ?_, spE, EX.early hoa hta g'.le (fun c hc => List.all_eq_true.1 hofE c hc) hE⟩
            rw [hup]; exact hear
          have := ih fuel (a :: E) ((i, false) :: p) l T R q S0 s σ I' (SL.join h' hx) h1 (SL.join hxA hx) As (put e (some t) u) a' w' hPa hE' (planG_len _ _ _ _ hPa)
            (by simp only [List.length_cons]; omega) hX0 S' spN hr' g2.fits hm st (g.trans g2) H'
          exact ⟨fun _ => H'.now, this⟩
        have hsome : Region.ready .any all (laE E l) = [] → False := fun h0' => by rw [h0'] at hri; cases hri
        cases bg with
        | false =>
          simp only [cond_false, Bool.false_or] at hX
          cases hpe : peX P all D l s q R with
          | false => rw [hpe] at hX; cases hX
          | true =>
          rw [hpe] at hX
          simp only [cond_true] at hX
          refine ⟨fun h' => (hsome h').elim, fun j hj => ?_⟩
          by_cases hji : j = i
          · subst hji
            unfold wpOp
            simp only [hi, hw, Bool.false_eq_true, if_false]
            refine ⟨fun _ => H.now, ?_⟩
            rw [← hla]
            exact ih fuel E p _ T R q S0 _ σ I h h1 hx As _ _ w hP2 (EX.next (s := s) (s' := s) hi rfl rfl (Le.refl I) hoff hE) hEp' hlen' hX (S.put (v := .ud) rfl o.dst) sp (hr.put hdn undef) F (by rw [put_m]; exact hm) (st.put o.dst .ud) g (by rw [put_L]; exact H)
          · exact hready hpe j hj hji
        | true =>
          simp only [cond_true, cond_false] at hX
          cases hpe : peX P all D l s q R with
          | false => rw [hpe] at hX; cases hX
          | true =>
          rw [hpe] at hX
          simp only [cond_true] at hX
          refine ⟨fun h' => (hsome h').elim, fun j hj => ?_⟩
          by_cases hji : j = i
          · subst hji
            have hun : l.getD j true = false := un_of_laE (mem_ready.1 hj).1
            unfold wpOp
            simp only [hi, hw, if_true]
            refine .inl (wp_Q (eff_ok hcall (S.log []) hr F1 hdn hX) ?_)
            rintro a' w' ⟨v, s', u, σ', As', I', h1', hK, hr', hv, S', st', g'⟩
            obtain ⟨g2, sp2⟩ := Goes.frame F sp g'
            have st2 := st'.log0 (s := s) rfl
            obtain ⟨new, hnew, hfrm⟩ := st'.frm
            have hnew' : s'.log = new := by rw [hnew]; exact List.append_nil _
            have hm' : s'.m = n := st'.m.trans hm
            have hE' : EX P all (St.put { s' with log := s'.log ++ s.log } o.dst v) (put e o.dst u) I' E hx := EX.next (s := s) (s' := { s' with log := s'.log ++ s.log }) hi st'.env st'.g g'.le hoff hE
            rw [← hla]
            cases hcc : q && R.all fun k => Nat.blt k s.n && !(s'.log.any (Nat.beq k)) with
            | true =>
              rw [hcc] at hK
              simp only [cond_true] at hK
              simp only [Bool.and_eq_true, List.all_eq_true] at hcc
              have H' : Hold S0 R q σ' s'.L I' w' := H.eff S F1 S' g' st'.pre hfrm hcc.1 fun k hk => by
                have := hcc.2 k hk
                refine ⟨by simpa using this.1, fun hin => ?_⟩
                rw [hnew'] at this
                have h2 : new.any (Nat.beq k) = true := List.any_eq_true.2 ⟨k, hin, by simp⟩
                rw [h2] at this
                simp at this
              exact ⟨fun _ => H'.now, ih fuel E p _ T R q S0 _ σ' I' (SL.join h1' hx) h1' hx As' _ _ w' hP2 hE' hEp' hlen' hK (SR.put (s := { s' with log := s'.log ++ s.log }) (S'.log (s'.log ++ s.log)) hv o.dst) sp2 hr' g2.fits (by rw [put_m]; exact hm') ((st.trans st2.q).put o.dst v) (g.trans g2) (by rw [put_L]; exact H')⟩
            | false =>
              rw [hcc] at hK
              simp only [cond_false] at hK
              cases hc2 : (bif looks P o.op then (List.range all.size).all (fun j => l.getD j true || !need T an j) else !need T an j) with
              | false => rw [hc2] at hK; cases hK
              | true =>
                rw [hc2] at hK
                simp only [cond_true] at hK
                have hun2 : (laE E l).getD j true = false := (mem_ready.1 hj).1
                have hall : need T an j = false ∧ ((∀ k, k < all.size → ((laE E l).setIfInBounds j true).getD k true = false → need T an k = false) ∨ ∃ b, brk P all b = true ∧ ((laE E l).setIfInBounds j true).getD b false = true ∧ need T an b = false) := by
                  cases hlo : looks P o.op with
                  | true =>
                    rw [hlo] at hc2
                    have h0 : ∀ k, k < all.size → l.getD k true = false → need T an k = false := fun k hk hl => by
                      have := List.all_eq_true.1 hc2 k (List.mem_range.2 hk)
                      simpa [hl] using this
                    refine ⟨h0 j (Array.getElem?_eq_some_iff.1 hi).1 hun, .inl fun k hk hl => h0 k hk ?_⟩
                    by_cases hjk : j = k
                    · subst hjk; exact hun
                    · rw [getD_set_ne true hjk] at hl; exact un_of_laE hl
                  | false =>
                    rw [hlo] at hc2
                    have h0 : need T an j = false := by simpa using hc2
                    exact ⟨h0, .inr ⟨j, by unfold brk; rw [hi]; simp [hlo], getD_set_self (getD_lt hun2), h0⟩⟩
                refine ⟨fun hq => ?_, wpAnyU_reset (S2 := fun _ => True) (T2 := []) fuel _ _ _ (by rw [hla]; exact hall.2) (ih fuel E p _ [] [] true (fun _ => True) _ σ' I' (SL.join h1' hx) h1' hx As' _ _ w' hP2 hE' hEp' hlen' hK (SR.put (s := { s' with log := s'.log ++ s.log }) (S'.log (s'.log ++ s.log)) hv o.dst) sp2 hr' g2.fits (by rw [put_m]; exact hm') ((st.trans st2.q).put o.dst v) (g.trans g2) ⟨trivial, fun _ k hk => (by cases hk), fun _ _ _ => trivial⟩)⟩
                have := hq.1
                rw [hall.1] at this; cases this
          · exact hready hpe j hj hji
theorem planX_ok {D : List Nat} {p : List (Nat × Bool)} (h : planX P all an = some (D, p)) : planG P all an D (2 * all.size + 2) [] p (Array.replicate all.size false) = true ∧ p.length ≤ all.size := by
  unfold planX at h
  simp only at h
  split at h
  · rename_i p' hp
    generalize hD : (List.range all.size).filter _ = D' at h
    cases hc : planG P all an D' (2 * all.size + 2) [] p' (Array.replicate all.size false) && Nat.ble p'.length all.size with
    | false => rw [hc] at h; cases h
    | true =>
      rw [hc] at h
      simp only [cond_true, Option.some.injEq, Prod.mk.injEq] at h
      obtain ⟨rfl, rfl⟩ := h
      simp only [Bool.and_eq_true] at hc
      exact ⟨hc.1, Nat.le_of_ble_eq_true hc.2⟩
  · cases h
theorem unD_ok : ∀ (D : List Nat) {s : St}, SR σ s I h As e → SR σ (unD all D s) I h As e ∧ (∀ {σ0 : List Ad} {s0 : St} {As0 : List Asrt}, Stq σ0 s0 As0 σ s As → Stq σ0 s0 As0 σ (unD all D s) As) ∧ (unD all D s).m = s.m ∧ (unD all D s).L = s.L
  | [], s, S => ⟨S, fun q => q, rfl, rfl⟩
  | a :: D, s, S => by
    have S2 : SR σ (s.put (newAt all a) .un) I h As e := by
      cases hn : newAt all a with
      | none => exact S
      | some t =>
        refine ⟨S.sl, S.al, S.lim, S.at_, S.sep, fun t' v q => ?_, S.gl⟩
        have q' : (s.env.set t .un).get t' = some v := q
        rw [Te.get_set] at q'
        split at q'
        · cases q'; trivial
        · exact S.env t' v q'
    obtain ⟨h1, h2, h3, h4⟩ := unD_ok D S2
    exact ⟨h1, fun q => h2 (q.put _ _), h3.trans (put_m _ _), h4.trans (put_L _ _)⟩
end
end Go.Proofs.YtkdakjjockfmdaaGreatDoor.XC

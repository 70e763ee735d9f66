/- A machine that reckons: operations that turn memory. -/
import Derived.Test.YtkdakjjockfmdaaGreatDoorXH
namespace Go.Proofs.YtkdakjjockfmdaaGreatDoor.XC
open Go Go.RowKit Go.Proofs.YtkdakjjockfmdaaGreatDoor.SL
set_option linter.unusedVariables false
set_option linter.unusedSimpArgs false
section
variable {P : Program} {n : Nat} {ρ : Type} {σ : List Ad} {L : Tr At} {s : St} {I h : Hp} {As : List Asrt} {e : Env} {w : World} {K : SV → St → Option ρ} {r : ρ}
variable {d : Option Nat} {T T' E ty : TypeId} {x y c : Operand} {pos : String} {aft : Array Edge} {g : Option (Nat × Bool)} {rds : List Nat} {lo hi mx : Option Operand}

theorem AtR.mono {τ : List Ad} {L' : Tr At} {I' : Hp} {k : Nat} {a : At} {A : Asrt} (hI : Le I I') (hL : Lm σ.length L L') (h : AtR σ L I k a A) : AtR (σ ++ τ) L' I' k a A := by
  cases a with
  | blk T cs => obtain ⟨a, vs, ha, hA, hv⟩ := h; exact ⟨a, vs, pre_get ha, hA, hv.mono hI hL⟩
  | buf t E xs => obtain ⟨a, ha, hA⟩ := h; exact ⟨a, pre_get ha, hA⟩
  | fz t E xs => obtain ⟨a, ha, hA⟩ := h; exact ⟨a, pre_get ha, hA.mono hI⟩
  | imm T cs => obtain ⟨a, vs, fr, ha, hi, hv⟩ := h; exact ⟨a, vs, fr, pre_get ha, hI _ _ hi, hv.mono hI hL⟩
  | mp es => obtain ⟨a, vs, ha, hA, hv⟩ := h; exact ⟨a, vs, pre_get ha, hA, hv.mono hI hL⟩
  | it g => obtain ⟨a, m, ha, hm, hA⟩ := h; exact ⟨a, m, pre_get ha, pre_get hm, hA⟩
  | dead => trivial
theorem _root_.Go.Oper.wp.noq {o : Oper} {a : Act} {w w1 : World} {I1 h1 : Hp} {K' : Act → World → Prop} {Q : Exit → Act → World → Prop} (hh : o.wp P a w K' (PostA n NoQ I1 h1 w1)) : o.wp P a w K' Q := by
  unfold Oper.wp at *
  generalize (execOp a.eval o).run P w = res at *
  cases res with
  | ok x w' =>
    cases x <;> simp only [Oper.upon] at hh ⊢ <;> first
      | exact hh
      | exact Calls.mono hh (fun ee w'' he => by cases ee <;> first | exact he | exact NoQ.no he | (obtain ⟨a2, w2, q⟩ := he; exact NoQ.no q))
      | exact NoQ.no hh
  | halt x w' => cases x <;> simp only [Oper.upon] at hh ⊢ <;> exact NoQ.no hh
/-- What a step leaves. -/
structure Stp (σ : List Ad) (s : St) (As : List Asrt) (σ' : List Ad) (s' : St) (As' : List Asrt) : Prop where
  pre : ∃ τ, σ' = σ ++ τ
  lm : Lm s.n s.L s'.L
  env : s'.env = s.env
  g : s'.g = s.g
  m : s'.m = s.m
  n : s.n ≤ s'.n
  frm : ∃ new, s'.log = new ++ s.log ∧ ∀ k, k < s.n → k ∉ new → As'[k]? = As[k]? ∧ s'.L.get k = s.L.get k
theorem Stp.refl : Stp σ s As σ s As := ⟨⟨[], by simp⟩, Lm.refl _ _, rfl, rfl, rfl, Nat.le_refl _, [], rfl, fun _ _ _ => ⟨rfl, rfl⟩⟩
theorem Stp.trans {σ1 σ2 σ3 : List Ad} {s1 s2 s3 : St} {A1 A2 A3 : List Asrt} (a : Stp σ1 s1 A1 σ2 s2 A2) (b : Stp σ2 s2 A2 σ3 s3 A3) : Stp σ1 s1 A1 σ3 s3 A3 := by
  obtain ⟨τ, h1⟩ := a.pre
  obtain ⟨υ, h2⟩ := b.pre
  obtain ⟨m, h3, h4⟩ := a.frm
  obtain ⟨o, h5, h6⟩ := b.frm
  refine ⟨⟨τ ++ υ, by rw [h2, h1, List.append_assoc]⟩, a.lm.trans b.lm a.n, b.env.trans a.env, b.g.trans a.g, b.m.trans a.m, Nat.le_trans a.n b.n, o ++ m, by rw [h5, h3, List.append_assoc], fun k hk hn => ?_⟩
  rw [List.mem_append, not_or] at hn
  obtain ⟨p1, p2⟩ := h4 k hk hn.2
  obtain ⟨q1, q2⟩ := h6 k (Nat.lt_of_lt_of_le hk a.n) hn.1
  exact ⟨q1.trans p1, q2.trans p2⟩
/-- A state behind a step. -/
theorem SR.step {τ : List Ad} {s' : St} {I' h' : Hp} {As' : List Asrt} (S : SR σ s I h As e) (hσ : (σ ++ τ).length = s'.n) (hA : As'.length = s'.n) (hsep : sepL As' I' h') (hI : Le I I') (hL : Lm s.n s.L s'.L) (he : s'.env = s.env) (hg : s'.g = s.g)
    (hat : ∀ k a, s'.L.get k = some a → k < s'.n ∧ ((s.L.get k = some a ∧ As'[k]? = As[k]?) ∨ ∃ A, As'[k]? = some A ∧ AtR (σ ++ τ) s'.L I' k a A)) : SR (σ ++ τ) s' I' h' As' e :=
  ⟨hσ, hA, fun k a q => (hat k a q).1, fun k a q => by
    rcases (hat k a q).2 with ⟨p1, p2⟩ | p
    · obtain ⟨A, hA, hr⟩ := S.at_ k a p1
      exact ⟨A, p2.trans hA, hr.mono hI (by rw [S.sl]; exact hL)⟩
    · exact p, hsep, fun t v q => by
    rw [he] at q
    exact (S.env t v q).mono hI (by rw [S.sl]; exact hL), fun k hk => by
    rw [hg] at hk
    obtain ⟨a, ha, hb⟩ := S.gl k hk
    exact ⟨a, pre_get ha, hb⟩⟩

def EffAt (P : Program) (n : Nat) (s : St) (o : Oper) (v : SV) (s' : St) (σ : List Ad) (I h : Hp) (As : List Asrt) (e : Env) : Prop :=
  ∀ ds a w, Rel n e ds a → Fits I h w → o.wp P a w (fun a' w' => ∃ u σ' As' I' h', Rel n (put e o.dst u) ds a' ∧ VR σ' s'.L I' v u ∧ SR σ' s' I' h' As' e ∧ Stp σ s As σ' s' As' ∧ Goes I h w I' h' w') (PostA n NoQ I h w)
def EffOk (P : Program) (n : Nat) (s : St) (o : Oper) (K : SV → St → Option ρ) (r : ρ) (σ : List Ad) (I h : Hp) (As : List Asrt) (e : Env) : Prop := ∃ v s', K v s' = some r ∧ EffAt P n s o v s' σ I h As e
theorem EffAt.ok {o : Oper} {v : SV} {s' : St} (hk : K v s' = some r) (h0 : EffAt P n s o v s' σ I h As e) : EffOk P n s o K r σ I h As e := ⟨v, s', hk, h0⟩
/-- From a triple, at atoms that hold here. -/
theorem at_of {o : Oper} {v : SV} {s' : St} {As1 : List Asrt} (K' : Env → List Deferred → List Asrt → Prop) (hsep : sepL As1 I h) (hO : ∀ ds, OA P n o (fun e' ds' As' => ds' = ds ∧ K' e' ds' As') NoQ e ds As1)
    (hf : ∀ ds e' As2 I' h', sepL As2 I' h' → Le I I' → K' e' ds As2 → ∃ u σ' As', e' = put e o.dst u ∧ VR σ' s'.L I' v u ∧ SR σ' s' I' h' As' e ∧ Stp σ s As σ' s' As') : EffAt P n s o v s' σ I h As e := by
  intro ds a w hr hF
  have := hO ds I h a w hsep hr hF
  refine Oper.wp_mono ?_ this
  rintro a' w' ⟨e', ds', As2, I', h', hr', hs', hg, rfl, hK⟩
  obtain ⟨u, σ', As', rfl, hv, hS, hT⟩ := hf ds' e' As2 I' h' hs' hg.le hK
  exact ⟨u, σ', As', I', h', hr', hv, hS, hT, hg⟩
theorem eff_of {o : Oper} {v : SV} {s' : St} {As1 : List Asrt} (hk : K v s' = some r) (K' : Env → List Deferred → List Asrt → Prop) (hsep : sepL As1 I h) (hO : ∀ ds, OA P n o (fun e' ds' As' => ds' = ds ∧ K' e' ds' As') NoQ e ds As1)
    (hf : ∀ ds e' As2 I' h', sepL As2 I' h' → Le I I' → K' e' ds As2 → ∃ u σ' As', e' = put e o.dst u ∧ VR σ' s'.L I' v u ∧ SR σ' s' I' h' As' e ∧ Stp σ s As σ' s' As') : EffOk P n s o K r σ I h As e := ⟨v, s', hk, at_of K' hsep hO hf⟩
/-- Behind a step that turns no memory. -/
theorem EffAt.ghost {o : Oper} {v : SV} {s2 s' : St} (hg : ∀ w, Fits I h w → ∃ I2 h2 As2, Goes I h w I2 h2 w ∧ Stp σ s As σ s2 As2 ∧ EffAt P n s2 o v s' σ I2 h2 As2 e) : EffAt P n s o v s' σ I h As e := by
  intro ds a w hr hF
  obtain ⟨I2, h2, As2, g, hT, hE⟩ := hg w hF
  have := hE ds a w hr g.fits
  have := Oper.wp_mono (K' := fun a' w' => ∃ u σ' As' I' h', Rel n (put e o.dst u) ds a' ∧ VR σ' s'.L I' v u ∧ SR σ' s' I' h' As' e ∧ Stp σ s As σ' s' As' ∧ Goes I h w I' h' w') (fun a' w' ⟨u, σ', As', I', h', p1, p2, p3, p4, p5⟩ => ⟨u, σ', As', I', h', p1, p2, p3, hT.trans p4, g.trans p5⟩) this
  exact this.noq
/-- A new block. -/
theorem SR.fresh {ad : Ad} {at_ : At} {A : Asrt} {I' h' : Hp} (S : SR σ s I h As e) (hI : Le I I') (hsep : sepL (As ++ [A]) I' h') (hat : AtR (σ ++ [ad]) (s.new at_).L I' s.n at_ A) :
    SR (σ ++ [ad]) (s.new at_) I' h' (As ++ [A]) e ∧ Stp σ s As (σ ++ [ad]) (s.new at_) (As ++ [A]) := by
  have get : ∀ k, (s.new at_).L.get k = if s.n = k then some at_ else s.L.get k := fun k => Tr.get_set _ _ _ _
  have hL : Lm s.n s.L (s.new at_).L := fun k hk t E xs q => ⟨xs, by
    have : ¬ s.n = k := by omega
    unfold IsSl at q ⊢
    rw [get k, if_neg this] at q
    exact q, rfl⟩
  refine ⟨S.step (by simp [S.sl, St.new]) (by simp [S.al, St.new]) hsep hI hL rfl rfl fun k a q => ?_, ⟨⟨[ad], rfl⟩, hL, rfl, rfl, rfl, Nat.le_succ _, [], rfl, fun k hk _ => ⟨List.getElem?_append_left (by rw [S.al]; exact hk), by rw [get k, if_neg (by omega)]⟩⟩⟩
  rw [get k] at q
  by_cases hk : s.n = k
  · rw [if_pos hk] at q
    cases q
    subst hk
    exact ⟨Nat.lt_succ_self _, .inr ⟨A, by rw [← S.al]; simp, hat⟩⟩
  · rw [if_neg hk] at q
    have := S.lim k a q
    exact ⟨Nat.lt_succ_of_lt this, .inl ⟨q, List.getElem?_append_left (by rw [S.al]; exact this)⟩⟩
/-- A block that turns. -/
theorem SR.turn {k : Nat} {a0 a1 : At} {A : Asrt} {I' h' : Hp} (S : SR σ s I h As e) (hI : Le I I') (h0 : s.L.get k = some a0) (hsep : sepL (As.set k A) I' h')
    (hlen : ∀ t E xs', (a1 = .buf t E xs' ∨ a1 = .fz t E xs') → ∃ xs : List t.den, (a0 = .buf t E xs ∨ a0 = .fz t E xs) ∧ xs.length = xs'.length) (hat : ∀ L', AtR σ L' I' k a1 A ∨ (L' = (s.upd k a1).L → AtR σ L' I' k a1 A)) :
    SR σ (s.upd k a1) I' h' (As.set k A) e ∧ Stp σ s As σ (s.upd k a1) (As.set k A) := by
  have get : ∀ j, (s.upd k a1).L.get j = if k = j then some a1 else s.L.get j := fun j => Tr.get_set _ _ _ _
  have hkn := S.lim k a0 h0
  have hL : Lm s.n s.L (s.upd k a1).L := fun j hj t E xs q => by
    unfold IsSl at q
    rw [get j] at q
    by_cases hk : k = j
    · subst hk
      rw [if_pos rfl] at q
      obtain ⟨ys, hy, e⟩ := hlen t E xs (by rcases q with q | q <;> cases q <;> simp)
      refine ⟨ys, ?_, e⟩
      unfold IsSl
      rw [h0]
      rcases hy with hy | hy
      · exact .inl (congrArg some hy)
      · exact .inr (congrArg some hy)
    · rw [if_neg hk] at q
      exact ⟨xs, q, rfl⟩
  have e0 : σ ++ [] = σ := by simp
  have st := S.step (τ := []) (s' := s.upd k a1) (As' := As.set k A) (by rw [e0]; exact S.sl) (by rw [List.length_set]; exact S.al) hsep hI hL rfl rfl fun j a q => (by
    rw [get j] at q
    by_cases hk : k = j
    · subst hk
      rw [if_pos rfl] at q
      cases q
      refine ⟨hkn, .inr ⟨A, List.getElem?_set_self (by rw [S.al]; exact hkn), ?_⟩⟩
      rw [e0]
      rcases hat (s.upd k a1).L with q | q
      · exact q
      · exact q rfl
    · rw [if_neg hk] at q
      exact ⟨S.lim j a q, .inl ⟨q, List.getElem?_set_ne hk⟩⟩)
  rw [e0] at st
  refine ⟨st, ⟨⟨[], by simp⟩, hL, rfl, rfl, rfl, Nat.le_refl _, [k], rfl, fun j hj hn => ?_⟩⟩
  have : ¬ k = j := fun q => hn (by simp [q])
  exact ⟨List.getElem?_set_ne this, by rw [get j, if_neg this]⟩

theorem mono1 {ad : Ad} {at_ : At} {I' : Hp} (S : SR σ s I h As e) (hI : Le I I') {v : SV} {u : Value} (hv : VR σ s.L I v u) : VR (σ ++ [ad]) (s.new at_).L I' v u := by
  refine hv.mono hI fun k hk t E xs q => ⟨xs, ?_, rfl⟩
  have : ¬ s.n = k := by rw [S.sl] at hk; omega
  unfold IsSl at q ⊢
  rw [show (s.new at_).L.get k = _ from Tr.get_set _ _ _ _, if_neg this] at q
  exact q
theorem mono1s {ad : Ad} {at_ : At} {I' : Hp} (S : SR σ s I h As e) (hI : Le I I') {l : List SV} {us : List Value} (hv : VRs σ s.L I l us) : VRs (σ ++ [ad]) (s.new at_).L I' l us := by
  refine hv.mono hI fun k hk t E xs q => ⟨xs, ?_, rfl⟩
  have : ¬ s.n = k := by rw [S.sl] at hk; omega
  unfold IsSl at q ⊢
  rw [show (s.new at_).L.get k = _ from Tr.get_set _ _ _ _, if_neg this] at q
  exact q

theorem SR.last (S : SR σ s I h As e) (ad : Ad) : (σ ++ [ad])[s.n]? = some ad := by rw [← S.sl]; simp
theorem eff_box (S : SR σ s I h As e) (hd : okDst d n = true) (hX : opX P s (.box T x) K = some r) : EffOk P n s ⟨d, .box T x, ty, pos, aft, g⟩ K r σ I h As e := by
  have hx := sev_ok S x
  simp only [opX] at hX
  split at hX
  · rename_i cs hc
    cases ho : cs.all SV.one with
    | false => rw [ho] at hX; cases hX
    | true =>
      rw [ho] at hX
      have hv := hx.cells hc
      refine eff_of hX (fun e' ds' As' => ∃ b, e' = put e d (.pointer (some ⟨b, 0, none⟩)) ∧ As' = As ++ [Blk b T (ev e x).cells.toList]) S.sep (fun ds => OA_box hd rfl fun b => ⟨rfl, b, rfl, rfl⟩) ?_
      rintro ds e' As2 I' h' hs hI ⟨b, rfl, rfl⟩
      obtain ⟨h1, h2⟩ := S.fresh (ad := ⟨b, none, 0⟩) (at_ := .blk T cs) (A := Blk b T (ev e x).cells.toList) hI hs ⟨_, _, S.last _, rfl, mono1s S hI hv⟩
      exact ⟨_, _, _, rfl, ⟨_, S.last _, rfl⟩, h1, h2⟩
  · cases hX
theorem eff_alloc (S : SR σ s I h As e) (hd : okDst d n = true) (hX : opX P s (.alloc T) K = some r) : EffOk P n s ⟨d, .alloc T, ty, pos, aft, g⟩ K r σ I h As e := by
  simp only [opX] at hX
  split at hX
  · rename_i z hz
    split at hX
    · rename_i cs hc
      cases ho : cs.all SV.one with
      | false => rw [ho] at hX; cases hX
      | true =>
        rw [ho] at hX
        have hv := (svOf_ok (σ := σ) (L := s.L) (I := I) z).cells hc
        refine eff_of hX (fun e' ds' As' => ∃ b, e' = put e d (.pointer (some ⟨b, 0, none⟩)) ∧ As' = As ++ [Blk b T z.cells.toList]) S.sep (fun ds => OA_alloc hd hz fun b => ⟨rfl, b, rfl, rfl⟩) ?_
        rintro ds e' As2 I' h' hs hI ⟨b, rfl, rfl⟩
        obtain ⟨h1, h2⟩ := S.fresh (ad := ⟨b, none, 0⟩) (at_ := .blk T cs) (A := Blk b T z.cells.toList) hI hs ⟨_, _, S.last _, rfl, mono1s S hI hv⟩
        exact ⟨_, _, _, rfl, ⟨_, S.last _, rfl⟩, h1, h2⟩
    · cases hX
  · cases hX

theorem Lm_upd {k : Nat} {a0 a1 : At} (h0 : s.L.get k = some a0) (hlen : ∀ t E xs', (a1 = .buf t E xs' ∨ a1 = .fz t E xs') → ∃ xs : List t.den, (a0 = .buf t E xs ∨ a0 = .fz t E xs) ∧ xs.length = xs'.length) (m : Nat) : Lm m s.L (s.upd k a1).L := fun j hj t E xs q => by
  have get : ∀ j, (s.upd k a1).L.get j = if k = j then some a1 else s.L.get j := fun j => Tr.get_set _ _ _ _
  unfold IsSl at q
  rw [get j] at q
  by_cases hk : k = j
  · subst hk
    rw [if_pos rfl] at q
    obtain ⟨ys, hy, e⟩ := hlen t E xs (by rcases q with q | q <;> cases q <;> simp)
    refine ⟨ys, ?_, e⟩
    unfold IsSl
    rw [h0]
    rcases hy with hy | hy
    · exact .inl (congrArg some hy)
    · exact .inr (congrArg some hy)
  · rw [if_neg hk] at q
    exact ⟨xs, q, rfl⟩
theorem VR.mono0 {L' : Tr At} {I' : Hp} (hI : Le I I') (hL : Lm σ.length L L') {v : SV} {u : Value} (h : VR σ L I v u) : VR σ L' I' v u := by
  have := VR.mono (τ := []) hI hL h
  simpa using this
theorem VRs.mono0 {L' : Tr At} {I' : Hp} (hI : Le I I') (hL : Lm σ.length L L') {v : List SV} {u : List Value} (h : VRs σ L I v u) : VRs σ L' I' v u := by
  have := VRs.mono (τ := []) hI hL h
  simpa using this
theorem sepL_pre {A B : List Asrt} (q : sepL (A ++ B) I h) : sepL A I h := by
  obtain ⟨ha, hb, s, x, _⟩ := sepL_split q
  exact sepL_less s.1 x
theorem sepL_mid {A B C : List Asrt} (q : sepL (A ++ B ++ C) I h) : sepL (A ++ C) I h := by
  rw [List.append_assoc] at q
  obtain ⟨ha, hb, s, x, y⟩ := sepL_split q
  obtain ⟨h1, h2, s2, _, z⟩ := sepL_split y
  exact sepL_append ⟨s.1, s2.2.1.trans s.2.1, fun b o q => by
    cases e : h2 b with
    | none => rfl
    | some u => have := s2.2.1 b u e; rw [s.2.2 b o q] at this; cases this⟩ x z
mutual
/-- What a value owes to what is known for good. -/
theorem VR.pers : ∀ {v : SV} {u : Value}, VR σ L I v u → ∃ Bs, PersL I Bs ∧ ∀ I', PersL I' Bs → VR σ L I' v u
  | .int _ _, _, h => ⟨[], PersL.nil, fun _ _ => h⟩
  | .bool _, _, h => ⟨[], PersL.nil, fun _ _ => h⟩
  | .str _, _, h => ⟨[], PersL.nil, fun _ _ => h⟩
  | .ptr _ _, _, h => ⟨[], PersL.nil, fun _ _ => h⟩
  | .el _ _ _ _, _, h => ⟨[], PersL.nil, fun _ _ => h⟩
  | .nilp, _, h => ⟨[], PersL.nil, fun _ _ => h⟩
  | .er t xs i o, _, ⟨A, c, e, h⟩ => ⟨[Ro (kdOf t) A c xs], PersL.cons rfl h PersL.nil, fun I' q => ⟨A, c, e, (q _ (List.mem_singleton.2 rfl)).2⟩⟩
  | .rv t xs, _, ⟨A, c, e, h⟩ => ⟨[Ro (kdOf t) A c xs], PersL.cons rfl h PersL.nil, fun I' q => ⟨A, c, e, (q _ (List.mem_singleton.2 rfl)).2⟩⟩
  | .sl _, _, h => ⟨[], PersL.nil, fun _ _ => h⟩
  | .win _ _ _, _, h => ⟨[], PersL.nil, fun _ _ => h⟩
  | .nils, _, h => ⟨[], PersL.nil, fun _ _ => h⟩
  | .bw _ _ _ _ _, _, h => ⟨[], PersL.nil, fun _ _ => h⟩
  | .agg l, _, ⟨vs, e, h⟩ => by obtain ⟨Bs, p, q⟩ := VRs.pers h; exact ⟨Bs, p, fun I' k => ⟨vs, e, q I' k⟩⟩
  | .tup l, _, ⟨vs, e, h⟩ => by obtain ⟨Bs, p, q⟩ := VRs.pers h; exact ⟨Bs, p, fun I' k => ⟨vs, e, q I' k⟩⟩
  | .fn _ l, _, ⟨vs, e, h⟩ => by obtain ⟨Bs, p, q⟩ := VRs.pers h; exact ⟨Bs, p, fun I' k => ⟨vs, e, q I' k⟩⟩
  | .nilf, _, h => ⟨[], PersL.nil, fun _ _ => h⟩
  | .nilm, _, h => ⟨[], PersL.nil, fun _ _ => h⟩
  | .nili, _, h => ⟨[], PersL.nil, fun _ _ => h⟩
  | .ud, _, h => ⟨[], PersL.nil, fun _ _ => h⟩
  | .un, _, h => ⟨[], PersL.nil, fun _ _ => h⟩
  | .mp _, _, h => ⟨[], PersL.nil, fun _ _ => h⟩
  | .e0 _, _, h => ⟨[], PersL.nil, fun _ _ => h⟩
theorem VRs.pers : ∀ {l : List SV} {us : List Value}, VRs σ L I l us → ∃ Bs, PersL I Bs ∧ ∀ I', PersL I' Bs → VRs σ L I' l us
  | [], _, h => ⟨[], PersL.nil, fun _ _ => h⟩
  | _ :: _, _, ⟨v, r, e, h1, h2⟩ => by
    obtain ⟨B1, p1, q1⟩ := VR.pers h1
    obtain ⟨B2, p2, q2⟩ := VRs.pers h2
    exact ⟨B1 ++ B2, fun B hB => by
      rcases List.mem_append.1 hB with k | k
      · exact p1 B k
      · exact p2 B k, fun I' k => ⟨v, r, e, q1 I' fun B hB => k B (List.mem_append_left _ hB), q2 I' fun B hB => k B (List.mem_append_right _ hB)⟩⟩
end
theorem PersL.of_sep : ∀ {Bs : List Asrt} {I h : Hp}, (∀ B ∈ Bs, B.pers = true) → sepL Bs I h → PersL I Bs
  | [], _, _, _, _ => PersL.nil
  | B :: Bs, I, h, hp, ⟨h1, h2, s, p, q⟩ => PersL.cons (hp B (by simp)) (B.free (hp B (by simp)) p) (PersL.of_sep (fun C hC => hp C (by simp [hC])) q)
theorem PersL.from {Bs : List Asrt} {I0 : Hp} (h0 : PersL I0 Bs) (q : sepL (As ++ Bs) I h) : PersL I Bs := by
  obtain ⟨_, hb, _, _, y⟩ := sepL_split q
  exact PersL.of_sep (fun B hB => (h0 B hB).1) y

end
end Go.Proofs.YtkdakjjockfmdaaGreatDoor.XC

/- A machine that reckons: regions that draw their order. -/
import Derived.Test.YtkdakjjockfmdaaGreatDoorXR
namespace Go.Proofs.YtkdakjjockfmdaaGreatDoor.XC
open Go Go.RowKit Go.Proofs.YtkdakjjockfmdaaGreatDoor.SL
set_option linter.unusedVariables false
set_option linter.unusedSimpArgs false
section
variable {P : Program} {n : Nat} {ρ : Type} {σ : List Ad} {s : St} {I h : Hp} {As : List Asrt} {e : Env} {w : World} {r : ρ} {all : Array Oper} {an : Array (List Nat)}
theorem SR.log (S : SR σ s I h As e) (l : List Nat) : SR σ { s with log := l } I h As e := ⟨S.sl, S.al, S.lim, S.at_, S.sep, S.env, S.gl⟩
def PlanOk (P : Program) (all : Array Oper) (an : Array (List Nat)) : List (Nat × Bool) → Array Bool → Prop
  | [], l => Region.ready .any all l = []
  | (i, tk) :: p, l => (tk = true → (∀ o, all[i]? = some o → looks P o.op = true) ∧ tkB all an l i = true) ∧ (tk = false → Region.ready .any all l = [i]) ∧ PlanOk P all an p (l.setIfInBounds i true)
/-! ### plans by bits -/
theorem bitsOf_ok (j : Nat) : ∀ l : List Nat, (bitsOf l).testBit j = l.contains j
  | [] => by simp [bitsOf]
  | k :: l => by
    show ((2 ^ k) ||| bitsOf l).testBit j = _
    rw [Nat.testBit_or, bitsOf_ok j l, Nat.testBit_two_pow, List.contains_cons]
    congr 1
    by_cases h : k = j
    · subst h; simp
    · have : ¬ j = k := fun q => h q.symm
      simp [h, this]
theorem disj_ok {a b : Nat} (h : disj a b = true) (j : Nat) : ¬ (a.testBit j = true ∧ b.testBit j = true) := fun ⟨h1, h2⟩ => by
  have h3 : a &&& b = 0 := Nat.eq_of_beq_eq_true h
  have := Nat.testBit_and a b j
  rw [h3, h1, h2] at this
  simp at this
theorem disj_of {a b : Nat} (h : ∀ j, ¬ (a.testBit j = true ∧ b.testBit j = true)) : disj a b = true := by
  have : a &&& b = 0 := by
    apply Nat.eq_of_testBit_eq
    intro j
    rw [Nat.testBit_and, Nat.zero_testBit]
    cases h1 : a.testBit j <;> cases h2 : b.testBit j <;> first | rfl | exact absurd ⟨h1, h2⟩ (h j)
  show Nat.beq (a &&& b) 0 = true
  rw [this]; rfl
theorem disj_pow (i m : Nat) : disj (Nat.pow 2 i) m = !m.testBit i := by
  cases h : m.testBit i with
  | false =>
    refine disj_of fun j ⟨h1, h2⟩ => ?_
    have h1' : (2 ^ i).testBit j = true := h1
    rw [Nat.testBit_two_pow] at h1'
    have : i = j := by simpa using h1'
    subst this; rw [h] at h2; cases h2
  | true =>
    cases hq : disj (Nat.pow 2 i) m with
    | false => rfl
    | true => exact absurd ⟨(by show (2 ^ i).testBit i = true; rw [Nat.testBit_two_pow]; simp), h⟩ (disj_ok hq i)
theorem subM_ok {a b : Nat} : subM a b = true ↔ ∀ j, a.testBit j = true → b.testBit j = true := by
  constructor
  · intro h j hj
    have h3 : a &&& b = a := Nat.eq_of_beq_eq_true h
    have := Nat.testBit_and a b j
    rw [h3, hj] at this
    simpa using this.symm
  · intro h
    have : a &&& b = a := by
      apply Nat.eq_of_testBit_eq
      intro j
      rw [Nat.testBit_and]
      cases h1 : a.testBit j with
      | false => rfl
      | true => rw [h j h1]; rfl
    show Nat.beq (a &&& b) a = true
    rw [this]; simp
/-- A set of bits tells what is listed. -/
structure RelM (all : Array Oper) (l : Array Bool) (m : Nat) : Prop where
  sz : l.size = all.size
  at_ : ∀ j, j < all.size → l.getD j true = m.testBit j
  no : ∀ j, all.size ≤ j → m.testBit j = false
theorem RelM.get {l : Array Bool} {m : Nat} (R : RelM all l m) (j : Nat) : l.getD j false = m.testBit j := by
  rcases Nat.lt_or_ge j all.size with q | q
  · rw [← R.at_ j q]
    have : j < l.size := by rw [R.sz]; exact q
    simp [this]
  · rw [R.no j q]
    have : ¬ j < l.size := by rw [R.sz]; omega
    simp [this]
theorem RelM.set {l : Array Bool} {m i : Nat} (R : RelM all l m) (hi : i < all.size) : RelM all (l.setIfInBounds i true) (Nat.lor m (Nat.pow 2 i)) := by
  have tb : ∀ j, (Nat.lor m (Nat.pow 2 i)).testBit j = (m.testBit j || decide (i = j)) := fun j => by
    show (m ||| 2 ^ i).testBit j = _
    rw [Nat.testBit_or, Nat.testBit_two_pow]
  refine ⟨by simp [R.sz], fun j hj => ?_, fun j hj => ?_⟩
  · rw [tb]
    by_cases h : i = j
    · subst h
      have : i < l.size := by rw [R.sz]; exact hi
      simp [this]
    · rw [getD_set_ne true h, R.at_ j hj]; simp [h]
  · rw [tb, R.no j hj]
    have : ¬ i = j := by omega
    simp [this]
theorem RelM.zero : RelM all (Array.replicate all.size false) 0 := ⟨by simp, fun j hj => by simp [hj], fun j _ => by simp⟩
theorem dgAt_i (j : Nat) : (dgAt P all j).i = j := by unfold dgAt; split <;> rfl
theorem dgAt_B (j : Nat) : (dgAt P all j).B = Nat.pow 2 j := by unfold dgAt; split <;> rfl
theorem rdyM_ok {l : Array Bool} {m : Nat} (R : RelM all l m) : rdyM (dgs P all) m = (Region.ready .any all l).map (dgAt P all) := by
  unfold rdyM dgs
  rw [List.filter_map]
  congr 1
  unfold Region.ready
  apply List.filter_congr
  intro j hj
  have hj := List.mem_range.1 hj
  simp only [Function.comp_apply]
  rw [dgAt_B, disj_pow, ← R.at_ j hj]
  obtain ⟨o, ho⟩ : ∃ o, all[j]? = some o := ⟨all[j], by simp [hj]⟩
  unfold dgAt
  simp only [ho]
  congr 1
  rw [Bool.eq_iff_iff, subM_ok]
  constructor
  · intro h
    simp only [Option.map_some, Option.getD_some]
    rw [Array.all_eq_true']
    intro e he
    cases hb : Region.binds .any e with
    | false => rfl
    | true =>
      have := h e.on (by
        rw [bitsOf_ok]
        simp only [List.contains_iff_mem, List.mem_map, List.mem_filter]
        exact ⟨e, ⟨by simpa using he, hb⟩, rfl⟩)
      rw [R.get]; simp [this]
  · intro h k hk
    rw [bitsOf_ok] at hk
    simp only [List.contains_iff_mem, List.mem_map, List.mem_filter] at hk
    obtain ⟨e, ⟨he, hb⟩, rfl⟩ := hk
    simp only [Option.map_some, Option.getD_some] at h
    have := Array.all_eq_true'.1 h e (by simpa using he)
    rw [hb, R.get] at this
    simpa using this
theorem freeM_ok {l : Array Bool} {m i : Nat} {oi : Oper} (R : RelM all l m) (hoi : all[i]? = some oi) (h : freeM (dgs P all) m (dgAt P all i) = true) : Region.free .any all l i = true := by
  unfold Region.free
  simp only [hoi, List.all_eq_true, List.mem_range]
  intro j hj
  obtain ⟨oj, hoj⟩ : ∃ o, all[j]? = some o := ⟨all[j], by simp [hj]⟩
  have := List.all_eq_true.1 h (dgAt P all j) (by unfold dgs; exact List.mem_map.2 ⟨j, List.mem_range.2 hj, rfl⟩)
  rw [dgAt_i, dgAt_i, dgAt_B, disj_pow, ← R.at_ j hj, dgAt_B] at this
  simp only [Bool.not_not, Bool.or_eq_true] at this
  simp only [hoj, Bool.or_eq_true, beq_iff_eq]
  rcases this with ((q | q) | q) | q
  · exact .inl (.inl (Nat.eq_of_beq_eq_true q))
  · exact .inl (.inr q)
  · refine .inr (.inl ?_)
    have hA : (dgAt P all j).A = bitsOf ((oj.after.toList.filter (Region.binds .any)).map (·.on)) := by unfold dgAt; simp only [hoj]
    rw [hA] at q
    have hq : (bitsOf ((oj.after.toList.filter (Region.binds .any)).map (·.on))).testBit i = true := by
      cases hz : (bitsOf ((oj.after.toList.filter (Region.binds .any)).map (·.on))).testBit i with
      | true => rfl
      | false =>
        have : disj (bitsOf ((oj.after.toList.filter (Region.binds .any)).map (·.on))) (Nat.pow 2 i) = true := disj_of fun k ⟨h1, h2⟩ => by
          have h2' : (2 ^ i).testBit k = true := h2
          rw [Nat.testBit_two_pow] at h2'
          have : i = k := by simpa using h2'
          subst this; rw [hz] at h1; cases h1
        rw [this] at q; cases q
    rw [bitsOf_ok] at hq
    simp only [List.contains_iff_mem, List.mem_map, List.mem_filter] at hq
    obtain ⟨e, ⟨he, hb⟩, heq⟩ := hq
    rw [Array.any_eq_true']
    exact ⟨e, by simpa using he, by simp [hb, heq]⟩
  · refine .inr (.inr ?_)
    simp only [Bool.and_eq_true] at q
    obtain ⟨⟨q1, q2⟩, q3⟩ := q
    have hDi : (dgAt P all i).D = (match oi.dst with | some d => Nat.pow 2 d | none => 0) := by unfold dgAt; simp only [hoi]; rfl
    have hDj : (dgAt P all j).D = (match oj.dst with | some d => Nat.pow 2 d | none => 0) := by unfold dgAt; simp only [hoj]; rfl
    have hKi : (dgAt P all i).K = bitsOf (oi.looksAt all) := by unfold dgAt; simp only [hoi]
    have hKj : (dgAt P all j).K = bitsOf (oj.looksAt all) := by unfold dgAt; simp only [hoj]
    rw [hDi, hKj] at q1
    rw [hDi, hDj] at q2
    rw [hDj, hKi] at q3
    have off : ∀ {d : Nat} {M : Nat}, disj (Nat.pow 2 d) M = true → M.testBit d = false := fun {d M} hq => by rw [disj_pow] at hq; simpa using hq
    unfold Oper.apart
    simp only [Bool.and_eq_true]
    refine ⟨?_, ?_⟩
    · cases hd : oi.dst with
      | none => rfl
      | some d =>
        rw [hd] at q1 q2
        have x1 := off q1
        have x2 := off q2
        rw [bitsOf_ok] at x1
        simp only [x1, Bool.not_false, Bool.true_and]
        cases hd' : oj.dst with
        | none => rfl
        | some d' =>
          rw [hd'] at x2
          have x2' : (2 ^ d').testBit d = false := x2
          rw [Nat.testBit_two_pow] at x2'
          simpa using x2'
    · cases hd : oj.dst with
      | none => rfl
      | some d =>
        rw [hd] at q3
        have x1 := off q3
        rw [bitsOf_ok] at x1
        simp only [x1, Bool.not_false]
theorem Inv.to {l : Array Bool} (h : Inv an l) : invB an l = true := by
  unfold invB
  rw [List.all_eq_true]
  intro k hk
  cases hq : l.getD k false with
  | false => rfl
  | true =>
    simp only [Bool.not_true, Bool.false_or, List.all_eq_true]
    exact fun i hi => h k hq i hi
theorem anD_in (acc : Array (List Nat)) : ∀ (l : List Edge) (s0 : List Nat) (x : Nat), x ∈ l.foldl (init := s0) (fun s e => if Region.binds .any e then e.on :: (acc.getD e.on []).filter (fun i => !Nat.beq i e.on && !s.contains i) ++ s.filter (fun i => !Nat.beq i e.on) else s) →
    x ∈ s0 ∨ ∃ e ∈ l, Region.binds .any e = true ∧ (e.on = x ∨ x ∈ acc.getD e.on [])
  | [], s0, x, h => .inl h
  | e :: l, s0, x, h => by
    rw [List.foldl_cons] at h
    rcases anD_in acc l _ x h with h | ⟨e', he, hb⟩
    · split at h
      · rename_i hb
        rw [List.cons_append, List.mem_cons, List.mem_append] at h
        rcases h with h | h | h
        · exact .inr ⟨e, by simp, hb, .inl h.symm⟩
        · exact .inr ⟨e, by simp, hb, .inr ((List.mem_filter.1 h).1)⟩
        · exact .inl ((List.mem_filter.1 h).1)
      · exact .inl h
    · exact .inr ⟨e', by simp [he], hb⟩
theorem anD_ok : anOk all (anD all) = true := by
  have key : (anD all).size = all.size ∧ ∀ j, j < all.size → ∀ x ∈ (anD all).getD j [], ∃ o, all[j]? = some o ∧ ∃ e ∈ o.after, Region.binds .any e = true ∧ (e.on = x ∨ x ∈ (anD all).getD e.on []) := by
    unfold anD
    refine Array.foldl_induction (motive := fun i (acc : Array (List Nat)) => acc.size = i ∧ ∀ j, j < i → ∀ x ∈ acc.getD j [], ∃ o, all[j]? = some o ∧ ∃ e ∈ o.after, Region.binds .any e = true ∧ (e.on = x ∨ x ∈ acc.getD e.on [])) ⟨rfl, fun j hj => by omega⟩ ?_
    intro i acc ⟨hs, h⟩
    refine ⟨by simp [hs], fun j hj x hx => ?_⟩
    have up : ∀ (y : List Nat) k, x ∈ acc.getD k [] → x ∈ (acc.push y).getD k [] := fun y k hk => by
      rcases Nat.lt_or_ge k acc.size with q | q
      · simp only [Array.getD_eq_getD_getElem?] at hk ⊢
        rw [Array.getElem?_push_lt q]
        simpa [q] using hk
      · simp [Array.getD_eq_getD_getElem?, Array.getElem?_eq_none q] at hk
    rcases Nat.lt_or_ge j i.val with q | q
    · have q' : j < acc.size := by rw [hs]; exact q
      have hx' : x ∈ acc.getD j [] := by
        simp only [Array.getD_eq_getD_getElem?] at hx ⊢
        rw [Array.getElem?_push_lt q'] at hx
        simpa [q'] using hx
      obtain ⟨o, ho, e, he, hb, hc⟩ := h j q x hx'
      exact ⟨o, ho, e, he, hb, hc.imp id (up _ _)⟩
    · have : j = i.val := by omega
      subst this
      rw [Array.getD_eq_getD_getElem?, ← hs, Array.getElem?_push_size] at hx
      rcases anD_in acc _ _ _ hx with hx | ⟨e, he, hb, hc⟩
      · cases hx
      · exact ⟨all[i.val], by simp, e, by simpa using he, hb, hc.imp id (up _ _)⟩
  unfold anOk
  simp only [List.all_eq_true, List.mem_range]
  intro j hj x hx
  obtain ⟨o, ho, e, he, hb, hc⟩ := key.2 j hj x hx
  rw [ho]
  simp only
  rw [Array.any_eq_true']
  refine ⟨e, he, ?_⟩
  rw [hb]
  rcases hc with hc | hc
  · simp [hc]
  · have : ((anD all).getD e.on []).contains x = true := by simpa using hc
    rw [this]; simp
theorem planM_ok (hn : Region.noSelect all = true) (ha : anOk all an = true) : ∀ (k : Nat) (l : Array Bool) (m : Nat) (p : List (Nat × Bool)), RelM all l m → Inv an l → planM (dgs P all) k m = some p → PlanOk P all an p l ∧ p.length ≤ k
  | 0, l, m, p, R, hv, hp => by
    unfold planM at hp
    rw [rdyM_ok R] at hp
    split at hp
    · rename_i hr; cases hp; exact ⟨List.map_eq_nil_iff.1 hr, Nat.le_refl _⟩
    · cases hp
  | k + 1, l, m, p, R, hv, hp => by
    unfold planM at hp
    rw [rdyM_ok R] at hp
    split at hp
    · rename_i hr; cases hp; exact ⟨List.map_eq_nil_iff.1 hr, Nat.zero_le _⟩
    · rename_i r0 rs hr
      have inR : ∀ d ∈ r0 :: rs, ∃ i, i ∈ Region.ready .any all l ∧ d = dgAt P all i := fun d hd => by
        rw [← hr] at hd
        obtain ⟨i, h1, h2⟩ := List.mem_map.1 hd
        exact ⟨i, h1, h2.symm⟩
      split at hp
      · rename_i d hfd
        split at hp
        · rename_i p' hp'
          cases hp
          obtain ⟨i, hi, rfl⟩ := inR d (List.mem_of_find?_eq_some hfd)
          have hf := List.find?_some hfd
          simp only [Bool.and_eq_true] at hf
          obtain ⟨_, oi, hoi, _⟩ := mem_ready.1 hi
          have hlt := (Array.getElem?_eq_some_iff.1 hoi).1
          rw [dgAt_B] at hp'
          obtain ⟨h1, h2⟩ := planM_ok hn ha k _ _ _ (R.set hlt) (hv.set ha hi) hp'
          rw [dgAt_i]
          refine ⟨⟨fun _ => ⟨fun o ho => ?_, ?_⟩, (fun q => by cases q), h1⟩, by simpa using h2⟩
          · have := hf.1
            unfold dgAt at this
            rw [ho] at this; exact this
          · unfold tkB
            simp only [Bool.and_eq_true]
            exact ⟨⟨⟨⟨hn, freeM_ok R hoi hf.2⟩, by simpa using hi⟩, Inv.to hv⟩, ha⟩
        · cases hp
      · split at hp
        · split at hp
          · rename_i p' hp'
            cases hp
            obtain ⟨i, hr', he⟩ := List.map_eq_cons_iff.1 hr
            obtain ⟨hr1, hr2, hr3⟩ := he
            have hnil := List.map_eq_nil_iff.1 hr3
            subst hnil
            subst hr2
            have hi : i ∈ Region.ready .any all l := by rw [hr1]; simp
            obtain ⟨_, oi, hoi, _⟩ := mem_ready.1 hi
            have hlt := (Array.getElem?_eq_some_iff.1 hoi).1
            rw [dgAt_B] at hp'
            obtain ⟨h1, h2⟩ := planM_ok hn ha k _ _ _ (R.set hlt) (hv.set ha hi) hp'
            rw [dgAt_i]
            exact ⟨⟨(fun q => by cases q), fun _ => hr1, h1⟩, by simpa using h2⟩
          · cases hp
        · cases hp
theorem planD_ok {p : List (Nat × Bool)} (h : planD P all = some p) : PlanOk P all (anD all) p (Array.replicate all.size false) ∧ p.length ≤ all.size := by
  unfold planD at h
  cases hn : Region.noSelect all with
  | false => rw [hn] at h; cases h
  | true =>
    rw [hn] at h
    refine planM_ok hn anD_ok _ _ 0 _ RelM.zero (fun k hk => ?_) h
    rcases Nat.lt_or_ge k all.size with q | q
    · simp [q] at hk
    · simp [Array.getD_eq_getD_getElem?, q] at hk
theorem need_cons {T : List Nat} {i j : Nat} (h : need T an j = true) : need (i :: T) an j = true := by
  unfold need at *; rw [List.any_cons, h, Bool.or_true]
/-- Operations that may turn something. -/
def brk (P : Program) (all : Array Oper) (b : Nat) : Bool := match all[b]? with | some o => !looks P o.op | none => false
def dem (P : Program) (all : Array Oper) (T : List Nat) (an : Array (List Nat)) (l : Array Bool) (j : Nat) : Prop := need T an j = true ∧ ∀ b, brk P all b = true → l.getD b false = true → need T an b = true
/-- Whatever order is picked from here on; S holds until one comes up that may turn something and stands behind all of T. -/
def wpAnyU (P : Program) (ops : Array Oper) (Q : Exit → Act → World → Prop) (S : World → Prop) (T : List Nat) (an : Array (List Nat)) : Nat → Array Bool → Act → World → Prop
  | 0, listed, a, w => Region.ready .any ops listed = [] ∧ Q .normal a w
  | fuel + 1, listed, a, w =>
    (Region.ready .any ops listed = [] → Q .normal a w) ∧
    ∀ i ∈ Region.ready .any ops listed, wpOp P ops Q i (fun a' w' => (dem P ops T an (listed.setIfInBounds i true) i → S w') ∧ wpAnyU P ops Q S T an fuel (listed.setIfInBounds i true) a' w') a w
theorem wpAny_of_U {ops : Array Oper} {Q : Exit → Act → World → Prop} {S : World → Prop} {T : List Nat} : ∀ (fuel : Nat) (listed : Array Bool) (a : Act) (w : World), wpAnyU P ops Q S T an fuel listed a w → wpAny P .any ops Q fuel listed a w
  | 0, _, _, _, h => h
  | fuel + 1, _, _, _, h => ⟨h.1, fun i hi => wpOp_mono (fun a' w' h' => wpAny_of_U fuel _ a' w' h'.2) (h.2 i hi)⟩
theorem wpAnyU_done {ops : Array Oper} {Q : Exit → Act → World → Prop} {S : World → Prop} {T : List Nat} {listed : Array Bool} {a : Act} {w : World} (hr : Region.ready .any ops listed = []) (h : Q .normal a w) : ∀ fuel, wpAnyU P ops Q S T an fuel listed a w
  | 0 => ⟨hr, h⟩
  | _ + 1 => ⟨fun _ => h, by rw [hr]; simp⟩
theorem wpAnyU_first {ops : Array Oper} {Q : Exit → Act → World → Prop} {S : World → Prop} {T : List Nat} {i : Nat} {oi : Oper} {v : Value} {S' : World → Prop} (hi : ops[i]? = some oi) (hsel : ∀ (j : Nat) (o : Oper) cs b, ops[j]? = some o → o.op ≠ .select cs b)
    (hQ : ∀ c a w, Q (.panic c) (a.put oi.dst v) w → Q (.panic c) a w) (ha : anOk ops an = true) (hlk : looks P oi.op = true)
    (hT : i ∈ T ∧ S' = S ∨ S' = (fun _ => True) ∧ need T an i = false) :
    ∀ (fuel : Nat) (listed : Array Bool) (a : Act) (w : World),
      (∀ j oj, ops[j]? = some oj → j ≠ i → listed.getD j true = false → (∀ e ∈ oj.after, Region.binds .any e = true → e.on ≠ i) → oi.apart ops oj = true) →
      i ∈ Region.ready .any ops listed → Inv an listed → YieldsIf P ops S' oi v a → S' w →
      wpAnyU P ops Q S T an fuel (listed.setIfInBounds i true) (a.put oi.dst v) w → wpAnyU P ops Q S T an (fuel + 1) listed a w := by
  have hSi : ∀ w, S' w → need T an i = true → S w := fun w h hn => by
    rcases hT with ⟨_, rfl⟩ | ⟨_, h0⟩
    · exact h
    · rw [h0] at hn; cases hn
  have hbi : brk P ops i = false := by unfold brk; rw [hi]; simp [hlk]
  intro fuel
  induction fuel with
  | zero =>
    intro listed a w _ hr hv hy hS H
    refine ⟨fun h => (by rw [h] at hr; cases hr), fun j hj => ?_⟩
    by_cases hji : j = i
    · subst hji; exact hy.wpOp hi hS ⟨fun hd => hSi w hS hd.1, H⟩
    · have := ready_mono hj hji
      rw [H.1] at this
      cases this
  | succ fuel ih =>
    intro listed a w hfree hr hv hy hS H
    refine ⟨fun h => (by rw [h] at hr; cases hr), fun j hj => ?_⟩
    by_cases hji : j = i
    · subst hji; exact hy.wpOp hi hS ⟨fun hd => hSi w hS hd.1, H⟩
    · have h1 := H.2 j (ready_mono hj hji)
      obtain ⟨hjun, oj, hoj, hall⟩ := mem_ready.1 hj
      have hun : listed.getD i false = false := by
        have h0 := (mem_ready.1 hr).1
        rcases Nat.lt_or_ge i listed.size with h' | h'
        · simp [h'] at h0 ⊢; exact h0
        · simp [Array.getElem?_eq_none h'] at h0
      have hnot : ∀ e ∈ oj.after, Region.binds .any e = true → e.on ≠ i := fun e he hb heq => by
        have h1 := hall e he hb
        rw [heq, hun] at h1; cases h1
      have hnd : i ∈ T → ∀ k, k ≠ i → ¬ i ∈ an.getD k [] → need T an k = true := fun hiT k hki hni => by
        unfold need
        rw [List.any_eq_true]
        refine ⟨i, hiT, ?_⟩
        have e1 : Nat.beq i k = false := by
          cases hb : Nat.beq i k with
          | false => rfl
          | true => exact absurd (Nat.eq_of_beq_eq_true hb).symm hki
        have e2 : (an.getD k []).contains i = false := by
          cases hc : (an.getD k []).contains i with
          | false => rfl
          | true => exact absurd (by simpa using hc) hni
        rw [e1, e2]; rfl
      have hndj : i ∈ T → need T an j = true := fun hiT => hnd hiT j hji fun hc => by
        have := ready_an ha hv hj hc; rw [hun] at this; cases this
      have hback : ∀ b, brk P ops b = true → ((listed.setIfInBounds i true).setIfInBounds j true).getD b false = true → (listed.setIfInBounds j true).getD b false = true := fun b hb hl => by
        have hbne : i ≠ b := fun q => by subst q; rw [hbi] at hb; cases hb
        rw [Array.setIfInBounds_comm _ _ (Ne.symm hji), getD_set_ne false hbne] at hl
        exact hl
      have hS2 : ∀ w', (dem P ops T an ((listed.setIfInBounds i true).setIfInBounds j true) j → S w') → S' w' := fun w' h => by
        rcases hT with ⟨hiT, rfl⟩ | ⟨rfl, _⟩
        · refine h ⟨hndj hiT, fun b hb hl => ?_⟩
          by_cases hjb : j = b
          · subst hjb; exact hndj hiT
          · have hbl := hback b hb hl
            rw [getD_set_ne false hjb] at hbl
            exact hnd hiT b (fun q => by subst q; rw [hbi] at hb; cases hb) fun hc => by
              have := hv b hbl i hc; rw [hun] at this; cases this
        · trivial
      have h2 := wpOp_putIf hoj (hfree j oj hoj hji hjun hnot) (fun cs b => hsel i oi cs b hi) (fun cs b => hsel j oj cs b hoj) hQ hy h1
      have hfree' : ∀ k ok, ops[k]? = some ok → k ≠ i → (listed.setIfInBounds j true).getD k true = false →
          (∀ e ∈ ok.after, Region.binds .any e = true → e.on ≠ i) → oi.apart ops ok = true := fun k ok hk hki hun hno => by
        refine hfree k ok hk hki ?_ hno
        by_cases hjk : j = k
        · subst hjk; exact hjun
        · rw [getD_set_ne true hjk] at hun; exact hun
      refine wpOp_mono (fun a' w' h3 => ⟨fun hd => h3.2.1 ⟨hd.1, fun b hb hl => hd.2 b hb (hback b hb hl)⟩, ih (listed.setIfInBounds j true) a' w' hfree' (ready_mono hr (Ne.symm hji)) (hv.set ha hj) h3.1 (hS2 w' h3.2.1) ?_⟩) h2
      rw [Array.setIfInBounds_comm _ _ hji]
      exact h3.2.2
theorem wpAnyU_weak {Q : Exit → Act → World → Prop} {S S2 : World → Prop} {T T2 : List Nat} (hT : ∀ j, need T an j = true → need T2 an j = true) (hS : ∀ w, S2 w → S w) : ∀ (fuel : Nat) (l : Array Bool) (a : Act) (w : World), wpAnyU P all Q S2 T2 an fuel l a w → wpAnyU P all Q S T an fuel l a w
  | 0, _, _, _, h => h
  | fuel + 1, _, _, _, h => ⟨h.1, fun i hi => wpOp_mono (fun a' w' h' => ⟨fun hn => hS _ (h'.1 ⟨hT i hn.1, fun b hb hl => hT b (hn.2 b hb hl)⟩), wpAnyU_weak hT hS fuel _ a' w' h'.2⟩) (h.2 i hi)⟩
theorem wpAnyU_reset {Q : Exit → Act → World → Prop} {S S2 : World → Prop} {T T2 : List Nat} : ∀ (fuel : Nat) (l : Array Bool) (a : Act) (w : World), ((∀ j, j < all.size → l.getD j true = false → need T an j = false) ∨ ∃ b, brk P all b = true ∧ l.getD b false = true ∧ need T an b = false) → wpAnyU P all Q S2 T2 an fuel l a w → wpAnyU P all Q S T an fuel l a w
  | 0, _, _, _, _, h => h
  | fuel + 1, l, _, _, hn, h => ⟨h.1, fun i hi => wpOp_mono (fun a' w' h' => by
      obtain ⟨hu, oi, hoi, _⟩ := mem_ready.1 hi
      refine ⟨fun hq => ?_, wpAnyU_reset fuel _ a' w' ?_ h'.2⟩
      · rcases hn with hn | ⟨b, h1, h2, h3⟩
        · have := hq.1; rw [hn i (Array.getElem?_eq_some_iff.1 hoi).1 hu] at this; cases this
        · have := hq.2 b h1 (getD_set_keep h2); rw [h3] at this; cases this
      · rcases hn with hn | ⟨b, h1, h2, h3⟩
        · refine .inl fun j hj hl => hn j hj ?_
          by_cases hij : i = j
          · subst hij; exact hu
          · rw [getD_set_ne true hij] at hl; exact hl
        · exact .inr ⟨b, h1, getD_set_keep h2, h3⟩) (h.2 i hi)⟩
theorem getD_lt {l : Array Bool} {i : Nat} (h : l.getD i true = false) : i < l.size := by
  rcases Nat.lt_or_ge i l.size with q | q
  · exact q
  · simp [Array.getElem?_eq_none q] at h

/-- One that turns something, or a call. -/
theorem eff_ok {call : FuncId → List SV → St → (SV → St → Option ρ) → Option ρ} {K : SV → St → Option ρ} {o : Oper} {ds : List Deferred} {a : Act} (hcall : CallOk P call) (S : SR σ s I h As e) (hr : Rel n e ds a) (F : Fits I h w) (hd : okDst o.dst n = true) (hX : effX P call s o.op K = some r) :
    o.wp P a w (fun a' w' => ∃ v s' u σ' As' I' h', K v s' = some r ∧ Rel n (put e o.dst u) ds a' ∧ VR σ' s'.L I' v u ∧ SR σ' s' I' h' As' e ∧ Stp σ s As σ' s' As' ∧ Goes I h w I' h' w') (PostA n NoQ I h w) := by
  unfold effX at hX
  split at hX
  · rename_i fo as ts hop
    split at hX
    · rename_i f cs hf
      obtain ⟨⟨fn, c, h1, h2, h3⟩, hc⟩ := hcall hX
      have hfv := sev_ok S fo
      rw [hf] at hfv
      obtain ⟨cvs, hfe, hcv⟩ := hfv
      have hav := (sev_all S as.toList).app hcv
      have hC := hc S F hav
      unfold Oper.wp
      have hexec : (execOp a.eval o).run P w = .ok (.enter f (as.toList.map (ev e) ++ cvs.toList).toArray) w := by
        rw [hr.eval]
        obtain ⟨od, oop, oty, opos, oaft, og⟩ := o
        simp only at hop
        subst hop
        have := run_enter h1 h3 h2 (as.toList.map (ev e) ++ cvs.toList).toArray w
        have e2 : (as.toList.map (ev e) ++ cvs.toList).toArray = Array.map (ev e) as ++ cvs := by apply Array.ext'; simp
        rw [e2] at this ⊢
        simp [execOp, resolve, Deferred.ofValue, invoke, hfe, this]
      rw [hexec]
      simp only [Oper.upon]
      refine hC.mono fun x w' hx => ?_
      obtain ⟨v, s', u, σ', As', I', h', rfl, hK, hv, S', st', g'⟩ := hx
      exact ⟨v, s', u, σ', As', I', h', hK, hr.put hd u, hv, S', st', g'⟩
    · cases hX
  · obtain ⟨v, s', hK, hop⟩ := op_at (n := n) S F hd hX
    refine Oper.wp_mono ?_ (hop ds a hr)
    rintro a' w' ⟨u, σ', As', I', h', hr', hv, S', st', g'⟩
    exact ⟨v, s', u, σ', As', I', h', hK, hr', hv, S', st', g'⟩

theorem easy_any {e : Env} {o : Oper} {u : Value} (he : easy o.op = true) {w : World} (h : (execOp (ev e) o).run P w = .ok (.value u) w) (w' : World) : (execOp (ev e) o).run P w' = .ok (.value u) w' := by
  obtain ⟨d, op, ty, pos, aft, g⟩ := o
  cases op <;> first | cases he | skip
  · rename_i x
    have h' : Result.ok (Next.value (ev e x)) w = Result.ok (Next.value u) w := h
    cases h'; rfl
  · rename_i c a b
    simp only [execOp] at h ⊢
    cases hc : ev e c <;> rw [hc] at h <;> first | (cases h; rfl) | cases h
  · rename_i t ix
    cases hc : ev e t with
    | tuple vs => cases hv : vs[ix]? with
      | some v =>
        simp [execOp, hc, Instr.extract, hv] at h ⊢
        exact h
      | none =>
        simp only [execOp, hc, Instr.extract, hv] at h
        cases h
    | _ => simp only [execOp, hc, Instr.extract] at h; cases h
structure Hold (S : World → Prop) (R : List Nat) (q : Bool) (σ : List Ad) (L : Tr At) (I : Hp) (w : World) : Prop where
  now : S w
  pin : q = true → ∀ k ∈ R, pinned L k = true
  ext : ∀ w', ImmW I w' → (∀ k ∈ R, Same σ L k w w') → S w'
theorem put_L (d : Option Nat) (v : SV) : (s.put d v).L = s.L := by cases d <;> rfl
theorem put_n (d : Option Nat) (v : SV) : (s.put d v).n = s.n := by cases d <;> rfl
theorem Same.trans {σ' : List Ad} {L L' : Tr At} {k : Nat} {w w1 w2 : World} (a : Same σ L k w w1) (b : Same σ' L' k w1 w2) (hσ : σ'[k]? = σ[k]?) (hL : L'.get k = L.get k) : Same σ L k w w2 :=
  ⟨fun ad T cs h1 h2 => (b.blk ad T cs (hσ.trans h1) (hL.trans h2)).trans (a.blk ad T cs h1 h2), fun ad t E xs h1 h2 bb off j v h3 h4 h5 => b.buf ad t E xs (hσ.trans h1) (hL.trans h2) bb off j v h3 h4 (a.buf ad t E xs h1 h2 bb off j v h3 h4 h5)⟩
theorem Hold.eff {S0 : World → Prop} {R : List Nat} {q : Bool} {σ' : List Ad} {s' : St} {I' h' : Hp} {As' : List Asrt} {e' : Env} {w' : World} {new : List Nat} (H : Hold S0 R q σ s.L I w) (S : SR σ s I h As e) (F : Fits I h w) (S' : SR σ' s' I' h' As' e') (g : Goes I h w I' h' w') (hp : ∃ τ, σ' = σ ++ τ)
    (hf : ∀ k, k < s.n → k ∉ new → As'[k]? = As[k]? ∧ s'.L.get k = s.L.get k) (hq : q = true) (hR : ∀ k ∈ R, k < s.n ∧ k ∉ new) : Hold S0 R q σ' s'.L I' w' := by
  have h1 := H.pin hq
  have hsame : ∀ k ∈ R, Same σ s.L k w w' := fun k hk => same_of S F S' g.fits hp (hf k (hR k hk).1 (hR k hk).2).1 (hR k hk).1 (h1 k hk)
  have hI : ∀ w2, ImmW I' w2 → ImmW I w2 := fun w2 q b o hb => q b o (g.le b o hb)
  refine ⟨H.ext w' (hI w' g.fits.imm) hsame, fun _ k hk => ?_, fun w2 hw2 hs2 => H.ext w2 (hI w2 hw2) fun k hk => (hsame k hk).trans (hs2 k hk) ?_ (hf k (hR k hk).1 (hR k hk).2).2⟩
  · have := h1 k hk
    unfold pinned at this ⊢
    rw [(hf k (hR k hk).1 (hR k hk).2).2]; exact this
  · obtain ⟨τ, rfl⟩ := hp
    exact List.getElem?_append_left (by rw [S.sl]; exact (hR k hk).1)
theorem Stp.log0 {σ' : List Ad} {s' : St} {As' : List Asrt} {l : List Nat} (st : Stp σ { s with log := [] } As σ' s' As') (hl : l = s.log) : Stp σ s As σ' { s' with log := s'.log ++ l } As' := by
  subst hl
  obtain ⟨new, h1, h2⟩ := st.frm
  have h1' : s'.log = new := by rw [h1]; exact List.append_nil _
  exact ⟨st.pre, st.lm, st.env, st.g, st.m, st.n, new, by rw [h1'], h2⟩

theorem draw_ok {pe : Array Bool → St → Bool → List Nat → Bool} {call : FuncId → List SV → St → (SV → St → Option ρ) → Option ρ} {K : St → Option ρ} (hcall : CallOk P call) {ds : List Deferred} {σ0 : List Ad} {s0 : St} {As0 : List Asrt} {I0 h0 : Hp} {w0 : World} :
    ∀ (p : List (Nat × Bool)) (fuel : Nat) (l : Array Bool) (T R : List Nat) (q : Bool) (S0 : World → Prop) (s : St) (σ : List Ad) (I h : Hp) (As : List Asrt) (e : Env) (a : Act) (w : World), PlanOk P all an p l → p.length ≤ fuel →
      regD P pe all an call K p l T R q s = some r → SR σ s I h As e → Rel n e ds a → Fits I h w → s.m = n → Stq σ0 s0 As0 σ s As → Goes I0 h0 w0 I h w → Hold S0 R q σ s.L I w →
      wpAnyU P all (FinR K r n ds σ0 s0 As0 I0 h0 w0) S0 T an fuel l a w
  | [], fuel, l, T, R, q, S0, s, σ, I, h, As, e, a, w, hP, _, hX, S, hr, F, hm, st, g, H => wpAnyU_done hP ⟨rfl, s, σ, As, I, h, e, hr, S, st, g, hX⟩ fuel
  | (i, tk) :: p, 0, _, _, _, _, _, _, _, _, _, _, _, _, _, _, hl, _, _, _, _, _, _, _, _ => by simp at hl
  | (i, tk) :: p, fuel + 1, l, T, R, q, S0, s, σ, I, h, As, e, a, w, hP, hlen, hX, S, hr, F, hm, st, g, H => by
    obtain ⟨ht, hn, hP'⟩ := hP
    have hlen' : p.length ≤ fuel := by simpa using hlen
    simp only [regD] at hX
    split at hX
    · cases hX
    · rename_i o hi
      cases hd : okDst o.dst s.m with
      | false => rw [hd] at hX; cases hX
      | true =>
      rw [hd] at hX
      simp only [Bool.not_true, cond_false] at hX
      have hdn : okDst o.dst n = true := by rw [← hm]; exact hd
      split at hX
      · cases hX
      · rename_i b hg
        have hw := wanted_of S hr hm hg
        have hQ : ∀ (v : Value) c a w, FinR K r n ds σ0 s0 As0 I0 h0 w0 (.panic c) (a.put o.dst v) w → FinR K r n ds σ0 s0 As0 I0 h0 w0 (.panic c) a w := fun v c a w hh => by cases hh.1
        cases b with
        | false =>
          simp only [cond_false] at hX
          cases tk with
          | false =>
            simp only [Bool.false_or, cond_false] at hX
            cases hpe : pe l s q R with
            | false => rw [hpe] at hX; cases hX
            | true =>
            rw [hpe] at hX
            simp only [cond_true] at hX
            have hrd := hn rfl
            refine ⟨fun h' => (by rw [hrd] at h'; cases h'), fun j hj => ?_⟩
            rw [hrd, List.mem_singleton] at hj
            subst hj
            unfold wpOp
            simp only [hi, hw, Bool.false_eq_true, if_false]
            exact ⟨fun _ => H.now, draw_ok hcall p fuel _ T R q S0 _ σ I h As _ _ w hP' hlen' hX (S.put (v := .ud) rfl o.dst) (hr.put hdn undef) F (by rw [put_m]; exact hm) (st.put o.dst .ud) g (by rw [put_L]; exact H)⟩
          | true =>
            simp only [Bool.true_or, cond_true] at hX
            obtain ⟨hlk, htk⟩ := ht rfl
            simp only [tkB, Bool.and_eq_true] at htk
            obtain ⟨⟨⟨⟨h1, h2⟩, h3⟩, h4⟩, h5⟩ := htk
            simp only [Bool.true_and] at hX
            cases hnd : need T an i with
            | false =>
              rw [hnd] at hX
              simp only [cond_false] at hX
              exact wpAnyU_first (v := undef) (S' := fun _ => True) hi (Region.noSelect_spec h1) (hQ undef) h5 (hlk o hi) (.inr ⟨rfl, hnd⟩) fuel l a w (Region.free_spec hi h2) (by simpa using h3) (Inv.of h4) (.inr ⟨hw, rfl⟩) trivial
                (draw_ok hcall p fuel _ T R q S0 _ σ I h As _ _ w hP' hlen' hX (S.put (v := .ud) rfl o.dst) (hr.put hdn undef) F (by rw [put_m]; exact hm) (st.put o.dst .ud) g (by rw [put_L]; exact H))
            | true =>
            rw [hnd] at hX
            simp only [cond_true] at hX
            refine wpAnyU_weak (T2 := i :: T) (S2 := S0) (fun j => need_cons) (fun _ h => h) _ _ _ _ ?_
            exact wpAnyU_first (v := undef) hi (Region.noSelect_spec h1) (hQ undef) h5 (hlk o hi) (.inl ⟨by simp, rfl⟩) fuel l a w (Region.free_spec hi h2) (by simpa using h3) (Inv.of h4) (.inr ⟨hw, rfl⟩) H.now
              (draw_ok hcall p fuel _ (i :: T) R q S0 _ σ I h As _ _ w hP' hlen' hX (S.put (v := .ud) rfl o.dst) (hr.put hdn undef) F (by rw [put_m]; exact hm) (st.put o.dst .ud) g (by rw [put_L]; exact H))
        | true =>
          simp only [cond_true] at hX
          cases tk with
          | true =>
            simp only [cond_true] at hX
            obtain ⟨hlk, htk⟩ := ht rfl
            simp only [tkB, Bool.and_eq_true] at htk
            obtain ⟨⟨⟨⟨h1, h2⟩, h3⟩, h4⟩, h5⟩ := htk
            cases hez : easy o.op && !need T an i with
            | true =>
              rw [hez] at hX
              simp only [cond_true] at hX
              simp only [Bool.and_eq_true, Bool.not_eq_true'] at hez
              obtain ⟨v, u, hK, hv, hrun⟩ := look_ok (w := w) S F (hlk o hi) hX
              have hnow := hrun w F.imm fun k _ => Same.refl σ s.L k w
              exact wpAnyU_first (v := u) (S' := fun _ => True) hi (Region.noSelect_spec h1) (hQ u) h5 (hlk o hi) (.inr ⟨rfl, hez.2⟩) fuel l a w (Region.free_spec hi h2) (by simpa using h3) (Inv.of h4) (.inl ⟨hw, fun w' _ => by rw [hr.eval]; exact easy_any hez.1 hnow w'⟩) trivial
                (draw_ok hcall p fuel _ T R q S0 _ σ I h As _ _ w hP' hlen' hK (S.put hv o.dst) (hr.put hdn u) F (by rw [put_m]; exact hm) (st.put o.dst v) g (by rw [put_L]; exact H))
            | false =>
            rw [hez] at hX
            simp only [cond_false] at hX
            obtain ⟨v, u, hK, hv, hrun⟩ := look_ok (w := w) S F (hlk o hi) hX
            refine wpAnyU_weak (T2 := i :: T) (S2 := fun w' => S0 w' ∧ (execOp (ev e) o).run P w' = .ok (.value u) w') (fun j => need_cons) (fun _ h => h.1) _ _ _ _ ?_
            have hnow := hrun w F.imm fun k _ => Same.refl σ s.L k w
            refine wpAnyU_first (v := u) hi (Region.noSelect_spec h1) (hQ u) h5 (hlk o hi) (.inl ⟨by simp, rfl⟩) fuel l a w (Region.free_spec hi h2) (by simpa using h3) (Inv.of h4) (.inl ⟨hw, fun w' sw => by rw [hr.eval]; exact sw.2⟩) ⟨H.now, hnow⟩ ?_
            refine draw_ok hcall p fuel _ (i :: T) _ _ _ _ σ I h As _ _ w hP' hlen' hK (S.put hv o.dst) (hr.put hdn u) F (by rw [put_m]; exact hm) (st.put o.dst v) g ?_
            rw [put_L]
            refine ⟨⟨H.now, hnow⟩, fun hq k hk => ?_, fun w' hI hs => ⟨H.ext w' hI fun k hk => hs k (List.mem_append_right _ hk), hrun w' hI fun k hk => hs k (List.mem_append_left _ hk)⟩⟩
            simp only [Bool.and_eq_true, List.all_eq_true] at hq
            rcases List.mem_append.1 hk with hk | hk
            · exact hq.2 k hk
            · exact H.pin hq.1 k hk
          | false =>
            simp only [cond_false] at hX
            cases hpe : pe l s q R with
            | false => rw [hpe] at hX; cases hX
            | true =>
            rw [hpe] at hX
            simp only [cond_true] at hX
            have hrd := hn rfl
            refine ⟨fun h' => (by rw [hrd] at h'; cases h'), fun j hj => ?_⟩
            rw [hrd, List.mem_singleton] at hj
            subst hj
            unfold wpOp
            simp only [hi, hw, if_true]
            refine .inl (wp_Q (eff_ok hcall (S.log []) hr F hdn hX) ?_)
            rintro a' w' ⟨v, s', u, σ', As', I', h', hK, hr', hv, S', st', g'⟩
            have st2 := st'.log0 (s := s) rfl
            obtain ⟨new, hnew, hfrm⟩ := st'.frm
            have hnew' : s'.log = new := by rw [hnew]; exact List.append_nil _
            have hm' : s'.m = n := st'.m.trans hm
            cases hc : q && R.all fun k => Nat.blt k s.n && !(s'.log.any (Nat.beq k)) with
            | true =>
              rw [hc] at hK
              simp only [cond_true] at hK
              simp only [Bool.and_eq_true, List.all_eq_true] at hc
              have H' : Hold S0 R q σ' s'.L I' w' := H.eff S F S' g' st'.pre hfrm hc.1 fun k hk => by
                have := hc.2 k hk
                refine ⟨by simpa using this.1, fun hin => ?_⟩
                rw [hnew'] at this
                have h2 : new.any (Nat.beq k) = true := List.any_eq_true.2 ⟨k, hin, by simp⟩
                rw [h2] at this
                simp at this
              exact ⟨fun _ => H'.now, draw_ok hcall p fuel _ T R q S0 _ σ' I' h' As' _ _ w' hP' hlen' hK (SR.put (s := { s' with log := s'.log ++ s.log }) (S'.log (s'.log ++ s.log)) hv o.dst) hr' g'.fits (by rw [put_m]; exact hm') ((st.trans st2.q).put o.dst v) (g.trans g') (by rw [put_L]; exact H')⟩
            | false =>
              rw [hc] at hK
              simp only [cond_false] at hK
              cases hc2 : (bif looks P o.op then (List.range all.size).all (fun j => l.getD j true || !need T an j) else !need T an j) with
              | false => rw [hc2] at hK; cases hK
              | true =>
                rw [hc2] at hK
                simp only [cond_true] at hK
                have hun : l.getD j true = false := (mem_ready.1 (by rw [hrd]; exact List.mem_singleton.2 rfl : j ∈ Region.ready .any all l)).1
                have hall : need T an j = false ∧ ((∀ k, k < all.size → (l.setIfInBounds j true).getD k true = false → need T an k = false) ∨ ∃ b, brk P all b = true ∧ (l.setIfInBounds j true).getD b false = true ∧ need T an b = false) := by
                  cases hlo : looks P o.op with
                  | true =>
                    rw [hlo] at hc2
                    have h0 : ∀ k, k < all.size → l.getD k true = false → need T an k = false := fun k hk hl => by
                      have := List.all_eq_true.1 hc2 k (List.mem_range.2 hk)
                      simpa [hl] using this
                    refine ⟨h0 j (Array.getElem?_eq_some_iff.1 hi).1 hun, .inl fun k hk hl => h0 k hk ?_⟩
                    by_cases hjk : j = k
                    · subst hjk; exact hun
                    · rw [getD_set_ne true hjk] at hl; exact hl
                  | false =>
                    rw [hlo] at hc2
                    have h0 : need T an j = false := by simpa using hc2
                    exact ⟨h0, .inr ⟨j, by unfold brk; rw [hi]; simp [hlo], getD_set_self (getD_lt hun), h0⟩⟩
                refine ⟨fun hq => ?_, wpAnyU_reset (S2 := fun _ => True) (T2 := []) fuel _ _ _ hall.2 (draw_ok hcall p fuel _ [] [] true (fun _ => True) _ σ' I' h' As' _ _ w' hP' hlen' hK (SR.put (s := { s' with log := s'.log ++ s.log }) (S'.log (s'.log ++ s.log)) hv o.dst) hr' g'.fits (by rw [put_m]; exact hm') ((st.trans st2.q).put o.dst v) (g.trans g') ⟨trivial, fun _ k hk => (by cases hk), fun _ _ _ => trivial⟩)⟩
                have := hq.1
                rw [hall.1] at this; cases this
end
end Go.Proofs.YtkdakjjockfmdaaGreatDoor.XC

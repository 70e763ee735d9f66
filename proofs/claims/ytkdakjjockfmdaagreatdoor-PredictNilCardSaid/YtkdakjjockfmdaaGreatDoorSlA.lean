/- Regions that draw their order: what reads is taken first while what it reads is held; the rest where nothing else may come up, or on each way. -/
import Derived.Test.YtkdakjjockfmdaaGreatDoorSl9
namespace Go.Proofs.YtkdakjjockfmdaaGreatDoor.SL
open Go Go.RowKit
set_option linter.unusedVariables false
set_option linter.unusedSimpArgs false

/-- Those of T that may stand behind operation j. -/
def need (T : List Nat) (an : Array (List Nat)) (j : Nat) : Bool := T.any fun i => !(Nat.beq i j) && !((an.getD j []).contains i)
/-- an tells some of what lies ahead of each operation, by edges that bind. -/
def anOk (ops : Array Oper) (an : Array (List Nat)) : Bool := (List.range ops.size).all fun j => (an.getD j []).all fun i =>
  match ops[j]? with
  | some o => o.after.any fun e => Region.binds .any e && (Nat.beq e.on i || (an.getD e.on []).contains i)
  | none => false
def invB (an : Array (List Nat)) (listed : Array Bool) : Bool := (List.range listed.size).all fun k => !listed.getD k false || (an.getD k []).all fun i => listed.getD i false
def Inv (an : Array (List Nat)) (listed : Array Bool) : Prop := ∀ k, listed.getD k false = true → ∀ i ∈ an.getD k [], listed.getD i false = true
theorem Inv.of {an : Array (List Nat)} {listed : Array Bool} (h : invB an listed = true) : Inv an listed := fun k hk i hi => by
  have hlt : k < listed.size := by
    rcases Nat.lt_or_ge k listed.size with h' | h'
    · exact h'
    · simp [Array.getElem?_eq_none h'] at hk
  simp only [invB, List.all_eq_true, List.mem_range] at h
  have := h k hlt
  simp only [hk, Bool.not_true, Bool.false_or, List.all_eq_true] at this
  exact this i hi

section
variable {P : Program} {ops : Array Oper} {Q : Exit → Act → World → Prop} {S : World → Prop} {T : List Nat} {an : Array (List Nat)}

theorem getD_set_self {listed : Array Bool} {j : Nat} (h : j < listed.size) : (listed.setIfInBounds j true).getD j false = true := by simp [h]
theorem getD_set_keep {listed : Array Bool} {j k : Nat} (h : listed.getD k false = true) : (listed.setIfInBounds j true).getD k false = true := by
  by_cases hjk : j = k
  · subst hjk
    have : j < listed.size := by
      rcases Nat.lt_or_ge j listed.size with h' | h'
      · exact h'
      · simp [Array.getElem?_eq_none h'] at h
    exact getD_set_self this
  · rw [getD_set_ne false hjk]; exact h
theorem ready_an {listed : Array Bool} {j i : Nat} (ha : anOk ops an = true) (hv : Inv an listed) (hj : j ∈ Region.ready .any ops listed) (hi : i ∈ an.getD j []) : listed.getD i false = true := by
  obtain ⟨_, oj, hoj, hall⟩ := mem_ready.1 hj
  simp only [anOk, List.all_eq_true, List.mem_range] at ha
  have h1 := ha j (Array.getElem?_eq_some_iff.1 hoj).1 i hi
  simp only [hoj] at h1
  obtain ⟨e, he, hb⟩ := Array.any_eq_true'.1 h1
  simp only [Bool.and_eq_true, Bool.or_eq_true] at hb
  rcases hb.2 with hb2 | hb2
  · rw [← Nat.eq_of_beq_eq_true hb2]; exact hall e he hb.1
  · exact hv e.on (hall e he hb.1) i (by simpa using hb2)
theorem Inv.set {listed : Array Bool} {j : Nat} (ha : anOk ops an = true) (hv : Inv an listed) (hj : j ∈ Region.ready .any ops listed) : Inv an (listed.setIfInBounds j true) := fun k hk i hi => by
  by_cases hjk : j = k
  · subst hjk; exact getD_set_keep (ready_an ha hv hj hi)
  · rw [getD_set_ne false hjk] at hk
    exact getD_set_keep (hv k hk i hi)

/-- Whatever order is picked from here on; behind what may come ahead of one of T, S holds. -/
def wpAnyT (P : Program) (ops : Array Oper) (Q : Exit → Act → World → Prop) (S : World → Prop) (T : List Nat) (an : Array (List Nat)) : Nat → Array Bool → Act → World → Prop
  | 0, listed, a, w => Region.ready .any ops listed = [] ∧ Q .normal a w
  | fuel + 1, listed, a, w =>
    (Region.ready .any ops listed = [] → Q .normal a w) ∧
    ∀ i ∈ Region.ready .any ops listed, wpOp P ops Q i (fun a' w' => (need T an i = true → S w') ∧ wpAnyT P ops Q S T an fuel (listed.setIfInBounds i true) a' w') a w

theorem wpAny_of_T : ∀ (fuel : Nat) (listed : Array Bool) (a : Act) (w : World), wpAnyT P ops Q S T an fuel listed a w → wpAny P .any ops Q fuel listed a w
  | 0, _, _, _, h => h
  | fuel + 1, _, _, _, h => ⟨h.1, fun i hi => wpOp_mono (fun a' w' h' => wpAny_of_T fuel _ a' w' h'.2) (h.2 i hi)⟩

theorem wpAnyT_first {i : Nat} {oi : Oper} {v : Value} {S' : World → Prop} (hi : ops[i]? = some oi) (hsel : ∀ (j : Nat) (o : Oper) cs b, ops[j]? = some o → o.op ≠ .select cs b)
    (hQ : ∀ c a w, Q (.panic c) (a.put oi.dst v) w → Q (.panic c) a w) (ha : anOk ops an = true)
    (hT : i ∈ T ∧ S' = S ∨ S' = (fun _ => True) ∧ need T an i = false) :
    ∀ (fuel : Nat) (listed : Array Bool) (a : Act) (w : World),
      (∀ j oj, ops[j]? = some oj → j ≠ i → listed.getD j true = false → (∀ e ∈ oj.after, Region.binds .any e = true → e.on ≠ i) → oi.apart ops oj = true) →
      i ∈ Region.ready .any ops listed → Inv an listed → YieldsIf P ops S' oi v a → S' w →
      wpAnyT P ops Q S T an fuel (listed.setIfInBounds i true) (a.put oi.dst v) w → wpAnyT P ops Q S T an (fuel + 1) listed a w := by
  have hSi : ∀ w, S' w → need T an i = true → S w := fun w h hn => by
    rcases hT with ⟨_, rfl⟩ | ⟨_, h0⟩
    · exact h
    · rw [h0] at hn; cases hn
  intro fuel
  induction fuel with
  | zero =>
    intro listed a w _ hr hv hy hS H
    refine ⟨fun h => (by rw [h] at hr; cases hr), fun j hj => ?_⟩
    by_cases hji : j = i
    · subst hji; exact hy.wpOp hi hS ⟨hSi w hS, H⟩
    · have := ready_mono hj hji
      rw [H.1] at this
      cases this
  | succ fuel ih =>
    intro listed a w hfree hr hv hy hS H
    refine ⟨fun h => (by rw [h] at hr; cases hr), fun j hj => ?_⟩
    by_cases hji : j = i
    · subst hji; exact hy.wpOp hi hS ⟨hSi w hS, H⟩
    · have h1 := H.2 j (ready_mono hj hji)
      obtain ⟨hjun, oj, hoj, hall⟩ := mem_ready.1 hj
      have hun : listed.getD i false = false := by
        have h0 := (mem_ready.1 hr).1
        rcases Nat.lt_or_ge i listed.size with h' | h'
        · simp [h'] at h0 ⊢; exact h0
        · simp [Array.getElem?_eq_none h'] at h0
      have hnot : ∀ e ∈ oj.after, Region.binds .any e = true → e.on ≠ i := fun e he hb heq => by
        have h1 := hall e he hb
        rw [heq, hun] at h1; cases h1
      have hnd : i ∈ T → need T an j = true := fun hiT => by
        unfold need
        rw [List.any_eq_true]
        refine ⟨i, hiT, ?_⟩
        have e1 : Nat.beq i j = false := by
          cases hb : Nat.beq i j with
          | false => rfl
          | true => exact absurd (Nat.eq_of_beq_eq_true hb).symm hji
        have e2 : (an.getD j []).contains i = false := by
          cases hc : (an.getD j []).contains i with
          | false => rfl
          | true => have := ready_an ha hv hj (by simpa using hc); rw [hun] at this; cases this
        rw [e1, e2]; rfl
      have hS2 : ∀ w', (need T an j = true → S w') → S' w' := fun w' h => by
        rcases hT with ⟨hiT, rfl⟩ | ⟨rfl, _⟩
        · exact h (hnd hiT)
        · trivial
      have h2 := wpOp_putIf hoj (hfree j oj hoj hji hjun hnot) (fun cs b => hsel i oi cs b hi) (fun cs b => hsel j oj cs b hoj) hQ hy h1
      have hfree' : ∀ k ok, ops[k]? = some ok → k ≠ i → (listed.setIfInBounds j true).getD k true = false →
          (∀ e ∈ ok.after, Region.binds .any e = true → e.on ≠ i) → oi.apart ops ok = true := fun k ok hk hki hun hno => by
        refine hfree k ok hk hki ?_ hno
        by_cases hjk : j = k
        · subst hjk; exact hjun
        · rw [getD_set_ne true hjk] at hun; exact hun
      refine wpOp_mono (fun a' w' h3 => ⟨h3.2.1, ih (listed.setIfInBounds j true) a' w' hfree' (ready_mono hr (Ne.symm hji)) (hv.set ha hj) h3.1 (hS2 w' h3.2.1) ?_⟩) h2
      rw [Array.setIfInBounds_comm _ _ hji]
      exact h3.2.2

theorem wpAnyT_done {listed : Array Bool} {a : Act} {w : World} (hr : Region.ready .any ops listed = []) (h : Q .normal a w) : ∀ fuel, wpAnyT P ops Q S T an fuel listed a w
  | 0 => ⟨hr, h⟩
  | _ + 1 => ⟨fun _ => h, by rw [hr]; simp⟩
end

/-- An operation that the guard lets come up. -/
def Wt (ops : Array Oper) (n : Nat) (e : Env) (o : Oper) : Prop := o.guard = none ∨ ∃ j t want, o.guard = some (j, want) ∧ (ops[j]?).bind (·.dst) = some t ∧ Nat.blt t n = true ∧ e t = .bool want
theorem Wt.no {ops : Array Oper} {n : Nat} {e : Env} {o : Oper} (h : o.guard = none) : Wt ops n e o := .inl h
theorem Wt.yes {ops : Array Oper} {n : Nat} {e : Env} {o : Oper} {j t : Nat} {want b : Bool} (hg : o.guard = some (j, want)) (hj : (ops[j]?).bind (·.dst) = some t) (hd : Nat.blt t n = true) (hv : e t = .bool b) (hb : b = want) : Wt ops n e o := .inr ⟨j, t, want, hg, hj, hd, by rw [hv, hb]⟩
/-- One that it does not let come up. -/
def Ut (ops : Array Oper) (n : Nat) (e : Env) (o : Oper) : Prop := ∃ j t want, o.guard = some (j, want) ∧ (ops[j]?).bind (·.dst) = some t ∧ Nat.blt t n = true ∧ (e t = .bool (!want) ∨ e t = undef)
theorem Ut.no {ops : Array Oper} {n : Nat} {e : Env} {o : Oper} {j t : Nat} {want b : Bool} (hg : o.guard = some (j, want)) (hj : (ops[j]?).bind (·.dst) = some t) (hd : Nat.blt t n = true) (hv : e t = .bool b) (hb : b = !want) : Ut ops n e o := ⟨j, t, want, hg, hj, hd, .inl (by rw [hv, hb])⟩
theorem Ut.un {ops : Array Oper} {n : Nat} {e : Env} {o : Oper} {j t : Nat} {want : Bool} (hg : o.guard = some (j, want)) (hj : (ops[j]?).bind (·.dst) = some t) (hd : Nat.blt t n = true) (hv : e t = undef) : Ut ops n e o := ⟨j, t, want, hg, hj, hd, .inr hv⟩

section
variable {P : Program} {n : Nat} {Q : PostT} {e : Env} {ds : List Deferred} {As Bs Hs : List Asrt} {ops : Array Oper} {T : List Nat} {an : Array (List Nat)} {I0 hS h0 hh0 : Hp} {w0 : World} {fuel : Nat} {listed : Array Bool} {S : World → Prop}

theorem Wt.wanted {o : Oper} {a : Act} (h : Wt ops n e o) (r : Rel n e ds a) : Region.wanted o (yielded ops a.tmps) = true := by
  rcases h with h | ⟨j, t, want, hg, hj, ht, he⟩
  · simp [Region.wanted, h]
  · simp [Region.wanted, hg, yielded_rel r hj (by simpa using ht), he]
theorem Ut.unwanted {o : Oper} {a : Act} (h : Ut ops n e o) (r : Rel n e ds a) : Region.wanted o (yielded ops a.tmps) = false := by
  obtain ⟨j, t, want, hg, hj, ht, he⟩ := h
  rcases he with he | he
  · simp [Region.wanted, hg, yielded_rel r hj (by simpa using ht), he]
  · simp [Region.wanted, hg, yielded_rel r hj (by simpa using ht), he, undef]

def DH (P : Program) (n : Nat) (ops : Array Oper) (Q : PostT) (T : List Nat) (an : Array (List Nat)) (I0 hS h0 hh0 : Hp) (w0 : World) (fuel : Nat) (listed : Array Bool) (e : Env) (ds : List Deferred) (As : List Asrt) : Prop :=
  ∀ I h a w, sepL As I h → Rel n e ds a → Fits I h w → Goes I0 h0 w0 I h w → Sees I0 hS w → wpAnyT P ops (PostA n Q I0 hh0 w0) (Sees I0 hS) T an fuel listed a w
def DN (P : Program) (n : Nat) (ops : Array Oper) (Q : PostT) (T : List Nat) (an : Array (List Nat)) (S : World → Prop) (I0 hh0 : Hp) (w0 : World) (fuel : Nat) (listed : Array Bool) (e : Env) (ds : List Deferred) (As : List Asrt) : Prop :=
  ∀ I h a w, sepL As I h → Rel n e ds a → Fits I h w → Goes I0 hh0 w0 I h w → wpAnyT P ops (PostA n Q I0 hh0 w0) S T an fuel listed a w

structure Dd (I0 hh0 h0 hS : Hp) (w0 : World) : Prop where
  fits : Fits I0 hh0 w0
  split : Split hh0 h0 hS
theorem Split.comm {h h1 h2 : Hp} (s : Split h h1 h2) : Split h h2 h1 := ⟨s.2.1, s.1, fun b o e => by
  cases z : h1 b with
  | none => rfl
  | some u => rw [s.2.2 b u z] at e; cases e⟩
theorem Dd.out (d : Dd I0 hh0 h0 hS w0) : ∀ b o, hS b = some o → b < w0.heap.size ∧ h0 b = none := fun b o e => ⟨lt_of_heap (d.fits.own b o (d.split.2.1 b o e)), d.split.comm.2.2 b o e⟩

theorem SA_drawH {id : Nat} {ol : List Oper} (T : List Nat) (an : Array (List Nat)) (ks rs : List Nat) {Hs Bs : List Asrt} (hm : P.follows .mixedOrders = true) (hs : selOk (ks ++ rs) As = true) (eH : sel ks As = Hs) (eB : sel rs As = Bs)
    (h : ∀ I0 hS h0 hh0 w0, sepL Hs I0 hS → Dd I0 hh0 h0 hS w0 → DH P n ol.toArray Q T an I0 hS h0 hh0 w0 ol.length (Array.replicate ol.length false) e ds Bs) : SA P n (.region id ol.toArray true) Q e ds As := by
  intro I hh a w s r f
  have s2 := sepL_sel hs s
  have es : sel (ks ++ rs) As = Hs ++ Bs := by rw [← eH, ← eB]; simp [sel]
  rw [es] at s2
  obtain ⟨h1, h2, sp, sa, sb⟩ := sepL_split s2
  have fd := (Goes.drew f).fits
  have f2 := fd.less sp.2.1
  have hsees : Sees I h1 { w with drawn := w.drawn + 1 } := ⟨fd.imm, fun b o e => fd.own b o (sp.1 b o e)⟩
  have hw := h I h1 h2 hh { w with drawn := w.drawn + 1 } sa ⟨fd, sp.comm⟩ I h2 a _ sb r f2 (Goes.refl f2) hsees
  have := wp_region_any (id := id) hm (wpAny_of_T _ _ _ _ (by rw [List.size_toArray]; exact hw))
  exact wp_mono this fun x a' w' p => PostA.goes (Goes.drew f) p
theorem SA_drawN {id : Nat} {ol : List Oper} (hm : P.follows .mixedOrders = true)
    (h : ∀ I0 hh0 w0, DN P n ol.toArray Q [] #[] (fun _ => True) I0 hh0 w0 ol.length (Array.replicate ol.length false) e ds As) : SA P n (.region id ol.toArray true) Q e ds As := by
  intro I hh a w s r f
  have fd := (Goes.drew f).fits
  have hw := h I hh { w with drawn := w.drawn + 1 } I hh a _ s r fd (Goes.refl fd)
  have := wp_region_any (id := id) hm (wpAny_of_T _ _ _ _ (by rw [List.size_toArray]; exact hw))
  exact wp_mono this fun x a' w' p => PostA.goes (Goes.drew f) p

theorem SA_drawHq {id : Nat} {ol : List Oper} (T : List Nat) (an : Array (List Nat)) (ks rs : List Nat) {Hs Bs : List Asrt} (hm : P.follows .mixedOrders = true) (hs : selOk (ks ++ rs) As = true) (eH : sel ks As = Hs) (eB : sel rs As = Bs) (hq : PanOk Q)
    (h : ∀ I0 hS h0 hh0 w0, sepL Hs I0 hS → Dd I0 hh0 h0 hS w0 → PanOk Q → DH P n ol.toArray Q T an I0 hS h0 hh0 w0 ol.length (Array.replicate ol.length false) e ds Bs) : SA P n (.region id ol.toArray true) Q e ds As :=
  SA_drawH T an ks rs hm hs eH eB fun a b c d e f g => h a b c d e f g hq
theorem SA_drawNq {id : Nat} {ol : List Oper} (hm : P.follows .mixedOrders = true) (hq : PanOk Q)
    (h : ∀ I0 hh0 w0, PanOk Q → DN P n ol.toArray Q [] #[] (fun _ => True) I0 hh0 w0 ol.length (Array.replicate ol.length false) e ds As) : SA P n (.region id ol.toArray true) Q e ds As :=
  SA_drawN hm fun a b c => h a b c hq

/-- What is asked of operation i before it is taken. -/
def tkB (ops : Array Oper) (an : Array (List Nat)) (listed : Array Bool) (i : Nat) : Bool :=
  Region.noSelect ops && Region.free .any ops listed i && (Region.ready .any ops listed).contains i && invB an listed && anOk ops an

theorem put_pan {d : Option Nat} {v : Value} (hQ : PanOk Q) (hd : okDst d n = true) : ∀ c a w, PostA n Q I0 hh0 w0 (.panic c) (a.put d v) w → PostA n Q I0 hh0 w0 (.panic c) a w := by
  rintro c a' w' ⟨e', ds', As', I', h', r', s', g', q⟩
  refine ⟨fun t => a'.tmps.getD t undef, ds', As', I', h', ⟨?_, fun t => rfl, ?_⟩, s', g', hQ _ _ _ _ _ q⟩
  · rw [← r'.size]; cases hdd : d <;> simp [Act.put]
  · rw [← r'.defers]; cases hdd : d <;> simp [Act.put]

theorem DH_take {v : Value} {oi : Oper} (i : Nat) (ht : tkB ops an listed i = true) (hT : T.contains i = true) (hi : ops[i]? = some oi) (hw : Wt ops n e oi) (hQ : PanOk Q) (sH : sepL Hs I0 hS) (hd : okDst oi.dst n = true) (hv : VR P Hs e oi v)
    (h : DH P n ops Q T an I0 hS h0 hh0 w0 fuel (listed.setIfInBounds i true) (put e oi.dst v) ds As) : DH P n ops Q T an I0 hS h0 hh0 w0 (fuel + 1) listed e ds As := by
  intro I hh a w s r f g se
  simp only [tkB, Bool.and_eq_true] at ht
  obtain ⟨⟨⟨⟨h1, h2⟩, h3⟩, h4⟩, h5⟩ := ht
  exact wpAnyT_first hi (Region.noSelect_spec h1) (put_pan hQ hd) h5 (.inl ⟨by simpa using hT, rfl⟩) fuel listed a w (Region.free_spec hi h2) (by simpa using h3) (Inv.of h4)
    (.inl ⟨hw.wanted r, fun w' sw => by rw [r.eval]; exact hv I0 hS w' sH sw⟩) se (h I hh _ w s (r.put hd v) f g se)
theorem DH_skip {oi : Oper} (i : Nat) (ht : tkB ops an listed i = true) (hT : T.contains i = true) (hi : ops[i]? = some oi) (hw : Ut ops n e oi) (hQ : PanOk Q) (hd : okDst oi.dst n = true)
    (h : DH P n ops Q T an I0 hS h0 hh0 w0 fuel (listed.setIfInBounds i true) (put e oi.dst undef) ds As) : DH P n ops Q T an I0 hS h0 hh0 w0 (fuel + 1) listed e ds As := by
  intro I hh a w s r f g se
  simp only [tkB, Bool.and_eq_true] at ht
  obtain ⟨⟨⟨⟨h1, h2⟩, h3⟩, h4⟩, h5⟩ := ht
  exact wpAnyT_first hi (Region.noSelect_spec h1) (put_pan hQ hd) h5 (.inl ⟨by simpa using hT, rfl⟩) fuel listed a w (Region.free_spec hi h2) (by simpa using h3) (Inv.of h4)
    (.inr ⟨hw.unwanted r, rfl⟩) se (h I hh _ w s (r.put hd undef) f g se)
/-- A take that teaches what holds for good. -/
theorem DH_learn {oi : Oper} (F : Value → List Asrt → Prop) (i : Nat) (ht : tkB ops an listed i = true) (hT : T.contains i = true) (hi : ops[i]? = some oi) (hw : Wt ops n e oi) (hQ : PanOk Q) (sH : sepL Hs I0 hS) (hd : okDst oi.dst n = true)
    (hv : ∀ I h w, sepL Hs I h → Sees I h w → ∃ v Bs, F v Bs ∧ PersL I Bs ∧ ∀ w, Sees I h w → (execOp (ev e) oi).run P w = .ok (.value v) w)
    (h : ∀ v Bs, F v Bs → sepL (Hs ++ Bs) I0 hS → DH P n ops Q T an I0 hS h0 hh0 w0 fuel (listed.setIfInBounds i true) (put e oi.dst v) ds (As ++ Bs)) : DH P n ops Q T an I0 hS h0 hh0 w0 (fuel + 1) listed e ds As := by
  intro I hh a w s r f g se
  simp only [tkB, Bool.and_eq_true] at ht
  obtain ⟨⟨⟨⟨h1, h2⟩, h3⟩, h4⟩, h5⟩ := ht
  obtain ⟨v, Bs, hF, hB, hr⟩ := hv I0 hS w sH se
  exact wpAnyT_first hi (Region.noSelect_spec h1) (put_pan hQ hd) h5 (.inl ⟨by simpa using hT, rfl⟩) fuel listed a w (Region.free_spec hi h2) (by simpa using h3) (Inv.of h4)
    (.inl ⟨hw.wanted r, fun w' sw => by rw [r.eval]; exact hr w' sw⟩) se (h v Bs hF (PersL.add sH hB) I hh _ w (PersL.add s (PersL.mono g.le hB)) (r.put hd v) f g se)
theorem DN_take {v : Value} {oi : Oper} (i : Nat) (ht : tkB ops an listed i = true) (hT : need T an i = false) (hi : ops[i]? = some oi) (hw : Wt ops n e oi) (hQ : PanOk Q) (hd : okDst oi.dst n = true) (hv : V P e oi v)
    (h : DN P n ops Q T an S I0 hh0 w0 fuel (listed.setIfInBounds i true) (put e oi.dst v) ds As) : DN P n ops Q T an S I0 hh0 w0 (fuel + 1) listed e ds As := by
  intro I hh a w s r f g
  simp only [tkB, Bool.and_eq_true] at ht
  obtain ⟨⟨⟨⟨h1, h2⟩, h3⟩, h4⟩, h5⟩ := ht
  exact wpAnyT_first hi (Region.noSelect_spec h1) (put_pan hQ hd) h5 (.inr ⟨rfl, hT⟩) fuel listed a w (Region.free_spec hi h2) (by simpa using h3) (Inv.of h4)
    (.inl ⟨hw.wanted r, fun w' sw => by rw [r.eval]; exact hv w'⟩) trivial (h I hh _ w s (r.put hd v) f g)
theorem DN_skip {oi : Oper} (i : Nat) (ht : tkB ops an listed i = true) (hT : need T an i = false) (hi : ops[i]? = some oi) (hw : Ut ops n e oi) (hQ : PanOk Q) (hd : okDst oi.dst n = true)
    (h : DN P n ops Q T an S I0 hh0 w0 fuel (listed.setIfInBounds i true) (put e oi.dst undef) ds As) : DN P n ops Q T an S I0 hh0 w0 (fuel + 1) listed e ds As := by
  intro I hh a w s r f g
  simp only [tkB, Bool.and_eq_true] at ht
  obtain ⟨⟨⟨⟨h1, h2⟩, h3⟩, h4⟩, h5⟩ := ht
  exact wpAnyT_first hi (Region.noSelect_spec h1) (put_pan hQ hd) h5 (.inr ⟨rfl, hT⟩) fuel listed a w (Region.free_spec hi h2) (by simpa using h3) (Inv.of h4)
    (.inr ⟨hw.unwanted r, rfl⟩) trivial (h I hh _ w s (r.put hd undef) f g)

/-- No panic. -/
def NoQ : PostT := fun _ _ _ _ => False
theorem NoQ.no {I h : Hp} {w : World} {x : Exit} {a : Act} {w' : World} {p : Prop} (h : PostA n NoQ I h w x a w') : p := by
  obtain ⟨_, _, _, _, _, _, _, _, q⟩ := h; exact q.elim

/-- What is owed of operation i, if it comes up next. -/
def StH (P : Program) (n : Nat) (ops : Array Oper) (Q : PostT) (T : List Nat) (an : Array (List Nat)) (I0 hS h0 hh0 : Hp) (w0 : World) (fuel : Nat) (listed : Array Bool) (e : Env) (ds : List Deferred) (As : List Asrt) (i : Nat) : Prop :=
  ∃ oi, ops[i]? = some oi ∧ Wt ops n e oi ∧ OA P n oi (DH P n ops Q T an I0 hS h0 hh0 w0 fuel (listed.setIfInBounds i true)) NoQ e ds As
def StN (P : Program) (n : Nat) (ops : Array Oper) (Q : PostT) (T : List Nat) (an : Array (List Nat)) (S : World → Prop) (I0 hh0 : Hp) (w0 : World) (fuel : Nat) (listed : Array Bool) (e : Env) (ds : List Deferred) (As : List Asrt) (i : Nat) : Prop :=
  need T an i = false ∧ ∃ oi, ops[i]? = some oi ∧ Wt ops n e oi ∧ OA P n oi (DN P n ops Q T an S I0 hh0 w0 fuel (listed.setIfInBounds i true)) NoQ e ds As

theorem DH_many {rs : List Nat} (dd : Dd I0 hh0 h0 hS w0) (hr : Region.ready .any ops listed = rs) (hne : rs ≠ []) (h : ∀ i ∈ rs, StH P n ops Q T an I0 hS h0 hh0 w0 fuel listed e ds As i) : DH P n ops Q T an I0 hS h0 hh0 w0 (fuel + 1) listed e ds As := by
  intro I hh a w s r f g se
  refine ⟨fun h' => absurd (hr ▸ h') hne, hr ▸ fun i hi => ?_⟩
  obtain ⟨oi, hoi, hw, h⟩ := h i hi
  have hwp := h I hh a w s r f
  unfold wpOp
  simp only [hoi, hw.wanted r, if_true]
  refine .inl ?_
  have next : ∀ a' w', (∃ e' ds' As' I' h'', Rel n e' ds' a' ∧ sepL As' I' h'' ∧ Goes I hh w I' h'' w' ∧ DH P n ops Q T an I0 hS h0 hh0 w0 fuel (listed.setIfInBounds i true) e' ds' As') → (need T an i = true → Sees I0 hS w') ∧ wpAnyT P ops (PostA n Q I0 hh0 w0) (Sees I0 hS) T an fuel (listed.setIfInBounds i true) a' w' := fun a' w' ⟨e', ds', As', I', h'', r', s', g', q⟩ => by
    have gg := g.trans g'
    have se' : Sees I0 hS w' := by
      refine ⟨fun b o e => gg.fits.imm b o (gg.le b o e), fun b o e => ?_⟩
      have hb := lt_of_heap (se.own b o e)
      have hn : hh b = none := by
        cases z : hh b with
        | none => rfl
        | some u =>
          exfalso
          have := (g.kept b (dd.out b o e).1 (dd.out b o e).2).2.1
          rw [this] at z; cases z
      rw [(g'.kept b hb hn).1]; exact se.own b o e
    exact ⟨fun _ => se', q I' h'' a' w' s' r' g'.fits gg se'⟩
  unfold Oper.wp at *
  generalize (execOp a.eval oi).run P w = res at *
  cases res with
  | ok x w' =>
    cases x <;> simp only [Oper.upon] at hwp ⊢ <;> first
      | exact next _ _ hwp
      | exact Calls.mono hwp (fun ee w'' he => by cases ee <;> first | exact next _ _ he | exact NoQ.no he | (obtain ⟨a2, w2, q⟩ := he; exact NoQ.no q))
      | exact Rows.mono hwp (fun _ _ he => next _ _ he)
      | exact NoQ.no hwp
  | halt x w' => cases x <;> simp only [Oper.upon] at hwp ⊢ <;> first | exact NoQ.no hwp | exact hwp

theorem DN_many {rs : List Nat} (hr : Region.ready .any ops listed = rs) (hne : rs ≠ []) (h : ∀ i ∈ rs, StN P n ops Q T an S I0 hh0 w0 fuel listed e ds As i) : DN P n ops Q T an S I0 hh0 w0 (fuel + 1) listed e ds As := by
  intro I hh a w s r f g
  refine ⟨fun h' => absurd (hr ▸ h') hne, hr ▸ fun i hi => ?_⟩
  obtain ⟨hnd, oi, hoi, hw, h⟩ := h i hi
  have hwp := h I hh a w s r f
  unfold wpOp
  simp only [hoi, hw.wanted r, if_true]
  refine .inl ?_
  have next : ∀ a' w', (∃ e' ds' As' I' h'', Rel n e' ds' a' ∧ sepL As' I' h'' ∧ Goes I hh w I' h'' w' ∧ DN P n ops Q T an S I0 hh0 w0 fuel (listed.setIfInBounds i true) e' ds' As') → (need T an i = true → S w') ∧ wpAnyT P ops (PostA n Q I0 hh0 w0) S T an fuel (listed.setIfInBounds i true) a' w' := fun a' w' ⟨e', ds', As', I', h'', r', s', g', q⟩ =>
    ⟨fun hn => (by rw [hnd] at hn; exact absurd hn (by simp)), q I' h'' a' w' s' r' g'.fits (g.trans g')⟩
  unfold Oper.wp at *
  generalize (execOp a.eval oi).run P w = res at *
  cases res with
  | ok x w' =>
    cases x <;> simp only [Oper.upon] at hwp ⊢ <;> first
      | exact next _ _ hwp
      | exact Calls.mono hwp (fun ee w'' he => by cases ee <;> first | exact next _ _ he | exact NoQ.no he | (obtain ⟨a2, w2, q⟩ := he; exact NoQ.no q))
      | exact Rows.mono hwp (fun _ _ he => next _ _ he)
      | exact NoQ.no hwp
  | halt x w' => cases x <;> simp only [Oper.upon] at hwp ⊢ <;> first | exact NoQ.no hwp | exact hwp

theorem fal_nil {α : Type} {p : α → Prop} : ∀ x ∈ ([] : List α), p x := fun _ h => by cases h
theorem fal_cons {α : Type} {p : α → Prop} {a : α} {l : List α} (h : p a) (k : ∀ x ∈ l, p x) : ∀ x ∈ a :: l, p x := fun x hx => by
  rcases List.mem_cons.1 hx with rfl | hx
  · exact h
  · exact k x hx

theorem DH_one {oi : Oper} (i : Nat) (dd : Dd I0 hh0 h0 hS w0) (hr : Region.ready .any ops listed = [i]) (hi : ops[i]? = some oi) (hw : Wt ops n e oi) (h : OA P n oi (DH P n ops Q T an I0 hS h0 hh0 w0 fuel (listed.setIfInBounds i true)) NoQ e ds As) : DH P n ops Q T an I0 hS h0 hh0 w0 (fuel + 1) listed e ds As :=
  DH_many dd hr (by simp) (fal_cons ⟨oi, hi, hw, h⟩ fal_nil)
theorem DN_one {oi : Oper} (i : Nat) (hr : Region.ready .any ops listed = [i]) (hn : need T an i = false) (hi : ops[i]? = some oi) (hw : Wt ops n e oi) (h : OA P n oi (DN P n ops Q T an S I0 hh0 w0 fuel (listed.setIfInBounds i true)) NoQ e ds As) : DN P n ops Q T an S I0 hh0 w0 (fuel + 1) listed e ds As :=
  DN_many hr (by simp) (fal_cons ⟨hn, oi, hi, hw, h⟩ fal_nil)
theorem DH_done (hr : Region.ready .any ops listed = []) (h : DN P n ops Q T an (Sees I0 hS) I0 hh0 w0 fuel listed e ds As) : DN P n ops Q T an (Sees I0 hS) I0 hh0 w0 fuel listed e ds As := h
theorem DN_done (hr : Region.ready .any ops listed = []) (h : Q .normal e ds As) : DN P n ops Q T an S I0 hh0 w0 fuel listed e ds As := fun I hh a w s r f g => wpAnyT_done hr ⟨e, ds, As, I, hh, r, s, g, h⟩ fuel
/-- What was held is at hand again. -/
theorem DH_open (dd : Dd I0 hh0 h0 hS w0) (sH : sepL Hs I0 hS) (h : DN P n ops Q T an (Sees I0 hS) I0 hh0 w0 fuel listed e ds (Hs ++ As)) : DH P n ops Q T an I0 hS h0 hh0 w0 fuel listed e ds As := by
  intro I hh a w s r f g se
  obtain ⟨gg, sj⟩ := Goes.frame dd.fits dd.split g
  exact h I _ a w (sepL_append sj.comm (sepL_mono g.le sH) s) r gg.fits gg
/-- An atom that holds for good, once more. -/
theorem DH_dup {A : Asrt} (k : Nat) (sH : sepL Hs I0 hS) (hk : Hs[k]? = some A) (hp : A.pers = true) (h : DH P n ops Q T an I0 hS h0 hh0 w0 fuel listed e ds (As ++ [A])) : DH P n ops Q T an I0 hS h0 hh0 w0 fuel listed e ds As := by
  intro I hh a w s r f g se
  obtain ⟨h1, _, p, _⟩ := sepL_at hk sH
  have pA : A.P I (fun _ => none) := A.mono g.le (A.free hp p)
  exact h I hh a w (sepL_append (Split.none_l hh).comm s ⟨fun _ => none, fun _ => none, Split.none_l _, pA, trivial⟩) r f g se
/-- Ghost steps on what is held: those that turn nothing. -/
theorem held {Hs Hs' : List Asrt} (h : ∀ I h, sepL Hs I h → sepL Hs' I h) (sH : sepL Hs I0 hS) : sepL Hs' I0 hS := h _ _ sH
theorem GP.know {k : Nat} {A B : Asrt} (hk : Hs[k]? = some A) (hp : B.pers = true) (hv : ∀ I h, A.P I h → B.P I h) : ∀ I h, sepL Hs I h → sepL (Hs ++ [B]) I h := fun I h s => by
  obtain ⟨h1, _, p, _⟩ := sepL_at hk s
  exact sepL_append ⟨Le.refl h, (fun _ _ e => by cases e), fun _ _ _ => rfl⟩ s ⟨fun _ => none, fun _ => none, ⟨fun _ _ e => (by cases e), fun _ _ e => (by cases e), fun _ _ e => (by cases e)⟩, B.free hp (hv I h1 p), trivial⟩
theorem GP.nilRo {α : Type} (kd : Kd α) (A : Option Addr) (c : Nat) : ∀ I h, sepL Hs I h → sepL (Hs ++ [Ro kd A c []]) I h := fun I h s =>
  sepL_append ⟨Le.refl h, (fun _ _ e => by cases e), fun _ _ _ => rfl⟩ s ⟨fun _ => none, fun _ => none, ⟨fun _ _ e => (by cases e), fun _ _ e => (by cases e), fun _ _ e => (by cases e)⟩, ⟨Nat.zero_le _, [], rfl, .inl rfl⟩, trivial⟩
theorem GP.subN {α : Type} {kd : Kd α} {A : Option Addr} {c k sz : Nat} {xs zs : List α} {l h m : Int} (hzs : zs = sub xs l h) (hk : Hs[k]? = some (Ro kd A c xs)) (hsz : kd.sz = sz) (h0 : 0 ≤ l) (h1 : l ≤ h) (h2 : h ≤ (xs.length : Int)) (hm : m = (c : Int) ∨ h ≤ m) :
    ∀ I h, sepL Hs I h → sepL (Hs ++ [Ro kd (slA A l m sz) (m.toNat - l.toNat) zs]) I h := by
  subst hzs
  exact GP.know hk rfl fun I hp p => Ro_sub hsz h0 h1 h2 (by obtain ⟨hle, _⟩ := p; rcases hm with b | b <;> omega) I hp p
theorem DH.ghost (hv : Gh As Bs) (h : DH P n ops Q T an I0 hS h0 hh0 w0 fuel listed e ds Bs) : DH P n ops Q T an I0 hS h0 hh0 w0 fuel listed e ds As := fun I hh a w s r f g se => by
  obtain ⟨I1, h1, g1, s1⟩ := hv I hh w s f
  exact h I1 h1 a w s1 r g1.fits (g.trans g1) se
theorem DN.ghost (hv : Gh As Bs) (h : DN P n ops Q T an S I0 hh0 w0 fuel listed e ds Bs) : DN P n ops Q T an S I0 hh0 w0 fuel listed e ds As := fun I hh a w s r f g => by
  obtain ⟨I1, h1, g1, s1⟩ := hv I hh w s f
  exact h I1 h1 a w s1 r g1.fits (g.trans g1)
theorem VR.ofV {o : Oper} {v : Value} (h : V P e o v) : VR P Hs e o v := fun _ _ w _ _ => h w
end
end Go.Proofs.YtkdakjjockfmdaaGreatDoor.SL

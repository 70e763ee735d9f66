/- The base of this seat's walks: triples over lists of atoms (what is owned, what is known), on the kit's Code.wp and Calls. -/
import Derived.OrdersHeld
import Derived.Below
import Derived.WalkKit
namespace Go.Proofs.YtkdakjjockfmdaaGreatDoor.SL
open Go Go.RowKit
set_option linter.unusedVariables false
set_option linter.unusedSimpArgs false

abbrev Hp := Nat → Option Obj
abbrev Env := Nat → Value

def Le (I I' : Hp) : Prop := ∀ b o, I b = some o → I' b = some o
theorem Le.refl (I : Hp) : Le I I := fun _ _ h => h
theorem Le.trans {I J K : Hp} (h : Le I J) (k : Le J K) : Le I K := fun b o x => k b o (h b o x)

/-- What is known for good (I) and what is owned (h) stands in the world, and they are apart. -/
structure Fits (I h : Hp) (w : World) : Prop where
  imm : ∀ b o, I b = some o → w.heap[b]? = some o
  own : ∀ b o, h b = some o → w.heap[b]? = some o
  sep : ∀ b o, h b = some o → I b = none

theorem lt_of_heap {w : World} {b : Nat} {o : Obj} (h : w.heap[b]? = some o) : b < w.heap.size := by
  rcases Nat.lt_or_ge b w.heap.size with k | k
  · exact k
  · simp [Array.getElem?_eq_none k] at h

theorem Fits.less {I h k : Hp} {w : World} (f : Fits I h w) (hk : Le k h) : Fits I k w :=
  ⟨f.imm, fun b o e => f.own b o (hk b o e), fun b o e => f.sep b o (hk b o e)⟩

structure Goes (I h : Hp) (w : World) (I' h' : Hp) (w' : World) : Prop where
  fits : Fits I' h' w'
  le : Le I I'
  os : w'.os = w.os
  tape : w'.tape = w.tape
  output : w'.output = w.output
  size : w.heap.size ≤ w'.heap.size
  kept : ∀ b, b < w.heap.size → h b = none → w'.heap[b]? = w.heap[b]? ∧ h' b = none ∧ I' b = I b

theorem Goes.refl {I h : Hp} {w : World} (f : Fits I h w) : Goes I h w I h w :=
  ⟨f, Le.refl I, rfl, rfl, rfl, Nat.le_refl _, fun _ _ e => ⟨rfl, e, rfl⟩⟩

theorem Goes.trans {I h I1 h1 I2 h2 : Hp} {w w1 w2 : World} (a : Goes I h w I1 h1 w1) (b : Goes I1 h1 w1 I2 h2 w2) : Goes I h w I2 h2 w2 :=
  ⟨b.fits, a.le.trans b.le, b.os.trans a.os, b.tape.trans a.tape, b.output.trans a.output, Nat.le_trans a.size b.size, fun k hk e => by
    obtain ⟨x1, x2, x3⟩ := a.kept k hk e
    obtain ⟨y1, y2, y3⟩ := b.kept k (Nat.lt_of_lt_of_le hk a.size) x2
    exact ⟨y1.trans x1, y2, y3.trans x3⟩⟩

theorem Goes.less {I h k I' h' : Hp} {w w' : World} (g : Goes I k w I' h' w') (hk : Le k h) : Goes I h w I' h' w' :=
  ⟨g.fits, g.le, g.os, g.tape, g.output, g.size, fun b hb e => g.kept b hb (by
    cases hq : k b with
    | none => rfl
    | some o => rw [hk b o hq] at e; cases e)⟩

/-- A draw turns nothing. -/
theorem Goes.drew {I h : Hp} {w : World} (f : Fits I h w) : Goes I h w I h { w with drawn := w.drawn + 1 } :=
  ⟨⟨f.imm, f.own, f.sep⟩, Le.refl I, rfl, rfl, rfl, Nat.le_refl _, fun _ _ e => ⟨rfl, e, rfl⟩⟩

/-- Parts of a heap. -/
def Split (h h1 h2 : Hp) : Prop := Le h1 h ∧ Le h2 h ∧ ∀ b o, h1 b = some o → h2 b = none
def join (h1 h2 : Hp) : Hp := fun b => match h1 b with | some o => some o | none => h2 b
theorem join_l {h1 h2 : Hp} : Le h1 (join h1 h2) := fun b o h => by simp [join, h]
theorem join_r {h1 h2 : Hp} (d : ∀ b o, h1 b = some o → h2 b = none) : Le h2 (join h1 h2) := fun b o h => by
  cases e : h1 b with
  | none => simp [join, e, h]
  | some u => rw [d b u e] at h; cases h
theorem join_none {h1 h2 : Hp} {b : Nat} : join h1 h2 b = none ↔ h1 b = none ∧ h2 b = none := by
  unfold join; cases h1 b <;> simp

/-- What is beside a call stays. -/
theorem Goes.frame {I h h1 h2 I' h1' : Hp} {w w' : World} (f : Fits I h w) (s : Split h h1 h2) (g : Goes I h1 w I' h1' w') :
    Goes I h w I' (join h1' h2) w' ∧ Split (join h1' h2) h1' h2 := by
  have n2 : ∀ b o, h2 b = some o → b < w.heap.size ∧ h1 b = none := fun b o e => ⟨lt_of_heap (f.own b o (s.2.1 b o e)), by
    cases q : h1 b with
    | none => rfl
    | some u => rw [s.2.2 b u q] at e; cases e⟩
  have d : ∀ b o, h1' b = some o → h2 b = none := fun b o e => by
    cases q : h2 b with
    | none => rfl
    | some u =>
      obtain ⟨x, y⟩ := n2 b u q
      rw [(g.kept b x y).2.1] at e; cases e
  refine ⟨⟨⟨g.fits.imm, fun b o e => ?_, fun b o e => ?_⟩, g.le, g.os, g.tape, g.output, g.size, fun b hb e => ?_⟩, join_l, join_r d, d⟩
  · cases q : h1' b with
    | some u => rw [join, q] at e; exact g.fits.own b o (q.trans e)
    | none =>
      rw [join, q] at e
      obtain ⟨x, y⟩ := n2 b o e
      rw [(g.kept b x y).1]; exact f.own b o (s.2.1 b o e)
  · cases q : h1' b with
    | some u => exact g.fits.sep b u q
    | none =>
      rw [join, q] at e
      obtain ⟨x, y⟩ := n2 b o e
      rw [(g.kept b x y).2.2]; exact f.sep b o (s.2.1 b o e)
  · have e1 : h1 b = none := by
      cases q : h1 b with
      | none => rfl
      | some u => rw [s.1 b u q] at e; cases e
    have e2 : h2 b = none := by
      cases q : h2 b with
      | none => rfl
      | some u => rw [s.2.1 b u q] at e; cases e
    obtain ⟨x, y, z⟩ := g.kept b hb e1
    exact ⟨x, join_none.2 ⟨y, e2⟩, z⟩

/-! ### atoms -/
structure Asrt where
  P : Hp → Hp → Prop
  mono : ∀ {I I' h}, Le I I' → P I h → P I' h
  pers : Bool
  free : pers = true → ∀ {I h h'}, P I h → P I h'

def sepL : List Asrt → Hp → Hp → Prop
  | [], _, _ => True
  | A :: As, I, h => ∃ h1 h2, Split h h1 h2 ∧ A.P I h1 ∧ sepL As I h2

theorem Split.of_less {h k h1 h2 : Hp} (s : Split k h1 h2) (hk : Le k h) : Split h h1 h2 := ⟨s.1.trans hk, s.2.1.trans hk, s.2.2⟩
theorem Split.none_l (h : Hp) : Split h (fun _ => none) h := ⟨(fun _ _ e => by cases e), Le.refl h, (fun _ _ e => by cases e)⟩

theorem sepL_less : ∀ {As : List Asrt} {I h k : Hp}, Le k h → sepL As I k → sepL As I h
  | [], _, _, _, _, _ => trivial
  | _ :: _, _, _, _, hk, ⟨h1, h2, s, p, q⟩ => ⟨h1, h2, s.of_less hk, p, q⟩

theorem sepL_mono : ∀ {As : List Asrt} {I I' h : Hp}, Le I I' → sepL As I h → sepL As I' h
  | [], _, _, _, _, _ => trivial
  | A :: _, _, _, _, hI, ⟨h1, h2, s, p, q⟩ => ⟨h1, h2, s, A.mono hI p, sepL_mono hI q⟩

theorem sepL_append : ∀ {As Bs : List Asrt} {I h ha hb : Hp}, Split h ha hb → sepL As I ha → sepL Bs I hb → sepL (As ++ Bs) I h
  | [], _, _, _, _, _, s, _, q => sepL_less s.2.1 q
  | _ :: _, _, _, _, _, _, s, ⟨h1, h2, t, p, r⟩, q =>
    ⟨h1, join h2 (fun b => match h2 b with | some _ => none | none => _), ⟨t.1.trans s.1, (fun b o e => by
        cases x : h2 b with
        | some u => simp [join, x] at e; rw [← e]; exact s.1 b u (t.2.1 b u x)
        | none => simp [join, x] at e; exact s.2.1 b o e), fun b o e => join_none.2 ⟨t.2.2 b o e, by simp [t.2.2 b o e]; exact s.2.2 b o (t.1 b o e)⟩⟩, p,
      sepL_append ⟨join_l, (fun b o e => by
        cases x : h2 b with
        | some u => rw [s.2.2 b u (t.2.1 b u x)] at e; cases e
        | none => simp [join, x]; exact e), fun b o e => s.2.2 b o (t.2.1 b o e)⟩ r q⟩

theorem sepL_split : ∀ {As Bs : List Asrt} {I h : Hp}, sepL (As ++ Bs) I h → ∃ ha hb, Split h ha hb ∧ sepL As I ha ∧ sepL Bs I hb
  | [], _, _, h, q => ⟨fun _ => none, h, Split.none_l h, trivial, q⟩
  | _ :: _, _, _, _, ⟨h1, _, s, p, q⟩ => by
    obtain ⟨ha, hb, t, x, y⟩ := sepL_split q
    have d : ∀ b o, h1 b = some o → ha b = none ∧ hb b = none := fun b o e => by
      have := s.2.2 b o e
      constructor
      · cases z : ha b with
        | none => rfl
        | some u => rw [t.1 b u z] at this; cases this
      · cases z : hb b with
        | none => rfl
        | some u => rw [t.2.1 b u z] at this; cases this
    refine ⟨join h1 ha, hb, ⟨fun b o e => ?_, t.2.1.trans s.2.1, fun b o e => ?_⟩, ⟨h1, ha, ⟨join_l, join_r fun b o e => (d b o e).1, fun b o e => (d b o e).1⟩, p, x⟩, y⟩
    · cases z : h1 b with
      | some u => rw [join, z] at e; exact s.1 b o (z.trans e)
      | none => rw [join, z] at e; exact s.2.1 b o (t.1 b o e)
    · cases z : h1 b with
      | some u => exact (d b u z).2
      | none => rw [join, z] at e; exact t.2.2 b o e

/-- One atom's part, and how it may turn. -/
theorem sepL_at : ∀ {As : List Asrt} {k : Nat} {A : Asrt} {I h : Hp}, As[k]? = some A → sepL As I h →
    ∃ h1, Le h1 h ∧ A.P I h1 ∧ ∀ (A' : Asrt) (I' h1' h' : Hp), Le I I' → A'.P I' h1' → Le h1' h' → (∀ b o, h b = some o → h1 b = none → h' b = some o ∧ h1' b = none) →
      sepL (As.set k A') I' h'
  | [], _, _, _, _, e, _ => by cases e
  | B :: Bs, 0, A, I, h, e, ⟨h1, h2, s, p, q⟩ => by
    obtain rfl : B = A := by simpa using e
    refine ⟨h1, s.1, p, fun A' I' h1' h' hI p' l1 l2 => ⟨h1', h2, ⟨l1, fun b o x => ?_, fun b o x => ?_⟩, p', sepL_mono hI q⟩⟩
    · refine (l2 b o (s.2.1 b o x) ?_).1
      cases z : h1 b with
      | none => rfl
      | some u => rw [s.2.2 b u z] at x; cases x
    · cases y : h2 b with
      | none => rfl
      | some u =>
        have : h1 b = none := by
          cases z : h1 b with
          | none => rfl
          | some v => rw [s.2.2 b v z] at y; cases y
        rw [(l2 b u (s.2.1 b u y) this).2] at x; cases x
  | B :: Bs, k + 1, A, I, h, e, ⟨h1, h2, s, p, q⟩ => by
    obtain ⟨g1, l, pa, f⟩ := sepL_at (k := k) (by simpa using e) q
    have ne : ∀ b o, h1 b = some o → g1 b = none := fun b o x => by
      cases z : g1 b with
      | none => rfl
      | some u => have := l b u z; rw [s.2.2 b o x] at this; cases this
    refine ⟨g1, l.trans s.2.1, pa, fun A' I' g1' h' hI p' l1 l2 => ⟨h1, fun b => match h1 b with | some _ => none | none => h' b, ⟨fun b o x => ?_, fun b o x => ?_, fun b o x => by simp [x]⟩, B.mono hI p, ?_⟩⟩
    · exact (l2 b o (s.1 b o x) (ne b o x)).1
    · cases z : h1 b with
      | some u => simp [z] at x
      | none => simpa [z] using x
    · refine f A' I' g1' _ hI p' (fun b o x => ?_) (fun b o x y => ?_)
      · cases z : h1 b with
        | some u => have := (l2 b u (s.1 b u z) (ne b u z)).2; rw [this] at x; cases x
        | none => simpa [z] using l1 b o x
      · have z : h1 b = none := by
          cases z : h1 b with
          | none => rfl
          | some v => rw [s.2.2 b v z] at x; cases x
        have := l2 b o (s.2.1 b o x) y
        simpa [z] using this

/-- Choosing atoms by their numbers: an owned one at most once. -/
def selOk : List Nat → List Asrt → Bool
  | [], _ => true
  | k :: ks, As => (match As[k]? with | some A => !ks.contains k || A.pers | none => false) && selOk ks As
def sel (ks : List Nat) (As : List Asrt) : List Asrt := ks.filterMap (As[·]?)

def emp : Asrt := ⟨fun _ _ => True, fun _ _ => trivial, true, fun _ {_ _ _} _ => trivial⟩

theorem sepL_dup {As : List Asrt} {k : Nat} {A : Asrt} {I h : Hp} (hk : As[k]? = some A) (hp : A.pers = true) (q : sepL As I h) : sepL (A :: As) I h := by
  obtain ⟨h1, _, p, _⟩ := sepL_at hk q
  exact ⟨fun _ => none, h, Split.none_l h, A.free hp p, q⟩

theorem sepL_take {As : List Asrt} {k : Nat} {A : Asrt} {I h : Hp} (hk : As[k]? = some A) (q : sepL As I h) : ∃ h1 h2, Split h h1 h2 ∧ A.P I h1 ∧ sepL (As.set k emp) I h2 := by
  obtain ⟨h1, l, p, f⟩ := sepL_at hk q
  refine ⟨h1, fun b => match h1 b with | some _ => none | none => h b, ⟨l, fun b o x => ?_, fun b o x => by simp [x]⟩, p, ?_⟩
  · cases z : h1 b with
    | some u => simp [z] at x
    | none => simpa [z] using x
  · exact f emp I (fun _ => none) _ (Le.refl I) trivial (fun _ _ e => by cases e) (fun b o x y => ⟨by simpa [y] using x, rfl⟩)

theorem sel_set {A : Asrt} {k : Nat} {As : List Asrt} : ∀ {ks : List Nat}, (∀ j ∈ ks, j ≠ k) → sel ks (As.set k A) = sel ks As
  | [], _ => rfl
  | j :: ks, h => by
    have e := sel_set (A := A) (k := k) (As := As) (ks := ks) fun i hi => h i (by simp [hi])
    unfold sel at *
    simp only [List.filterMap_cons]
    rw [List.getElem?_set_ne (Ne.symm (h j (by simp))), e]

theorem sepL_sel : ∀ {ks : List Nat} {As : List Asrt} {I h : Hp}, selOk ks As = true → sepL As I h → sepL (sel ks As) I h
  | [], _, _, _, _, _ => trivial
  | k :: ks, As, I, h, hs, q => by
    simp only [selOk, Bool.and_eq_true] at hs
    obtain ⟨h1, h2⟩ := hs
    cases hk : As[k]? with
    | none => simp [hk] at h1
    | some A =>
      simp only [hk] at h1
      have e : sel (k :: ks) As = A :: sel ks As := by simp [sel, hk]
      rw [e]
      cases hp : A.pers with
      | true =>
        obtain ⟨g1, g2, s, p, r⟩ := sepL_dup hk hp q
        exact ⟨g1, g2, s, p, sepL_sel h2 r⟩
      | false =>
        have hn : ks.contains k = false := by simpa [hp] using h1
        obtain ⟨g1, g2, s, p, r⟩ := sepL_take hk q
        have hno : ∀ j ∈ ks, j ≠ k := fun j hj he => by subst he; simp [hj] at hn
        have e1 : sel ks (As.set k emp) = sel ks As := by
          exact sel_set hno
        have e2 : ∀ (l : List Nat), (∀ j ∈ l, j ≠ k) → selOk l (As.set k emp) = selOk l As := by
          intro l
          induction l with
          | nil => intro _; rfl
          | cons j l ih =>
            intro hl
            simp only [selOk]
            rw [List.getElem?_set_ne (Ne.symm (hl j (by simp))), ih fun i hi => hl i (by simp [hi])]
        exact ⟨g1, g2, s, p, e1 ▸ sepL_sel (by rw [e2 ks hno]; exact h2) r⟩

theorem beq_no {s t : Nat} (h : s ≠ t) : Nat.beq s t = false := by
  cases e : Nat.beq s t with
  | false => rfl
  | true => exact absurd (Nat.eq_of_beq_eq_true e) h

/-! ### frames -/
def upd (e : Env) (t : Nat) (v : Value) : Env := fun s => bif Nat.beq s t then v else e s
def updL (e : Env) : List (Nat × Value) → Env
  | [] => e
  | (t, v) :: l => upd (updL e l) t v
def AllEq (e : Env) : List (Nat × Value) → Prop
  | [] => True
  | (t, v) :: l => e t = v ∧ AllEq e l
theorem upd_self {e : Env} {t : Nat} {v : Value} (h : e t = v) : upd e t v = e := by
  funext s
  unfold upd
  by_cases hs : s = t
  · subst hs; simp [h]
  · have : Nat.beq s t = false := beq_no hs
    simp [this]
theorem updL_self : ∀ {e : Env} {l : List (Nat × Value)}, AllEq e l → e = updL e l
  | _, [], _ => rfl
  | e, (t, v) :: l, ⟨h, k⟩ => by
    rw [updL, ← updL_self k]
    exact (upd_self h).symm

def ev (e : Env) : Operand → Value
  | .tmp t => e t
  | .const v => v
  | .global g => .pointer (some ⟨g, 0, none⟩)
  | .func f => .func (.func f) #[] #[]

structure Rel (n : Nat) (e : Env) (ds : List Deferred) (a : Act) : Prop where
  size : a.tmps.size = n
  get : ∀ t, a.tmps.getD t undef = e t
  defers : a.defers = ds

theorem Rel.eval {n : Nat} {e : Env} {ds : List Deferred} {a : Act} (r : Rel n e ds a) : a.eval = ev e := by
  funext x
  cases x <;> simp only [Act.eval, ev]
  exact r.get _

def put (e : Env) (d : Option Nat) (v : Value) : Env := match d with | some t => upd e t v | none => e
def okDst (d : Option Nat) (n : Nat) : Bool := match d with | some t => Nat.blt t n | none => true

theorem Rel.put {n : Nat} {e : Env} {ds : List Deferred} {a : Act} (r : Rel n e ds a) {d : Option Nat} (hd : okDst d n = true) (v : Value) : Rel n (put e d v) ds (a.put d v) := by
  cases d with
  | none => exact r
  | some t =>
    have ht : t < a.tmps.size := by rw [r.size]; simpa [okDst] using hd
    refine ⟨by simp [Act.put, r.size], fun s => ?_, r.defers⟩
    simp only [Act.put, SL.put, upd]
    by_cases hs : s = t
    · subst hs; simp [Array.getElem?_setIfInBounds, ht]
    · have h1 : Nat.beq s t = false := beq_no hs
      have := r.get s
      simp only [h1, cond_false]
      rw [← this]
      simp [Array.getElem?_setIfInBounds, Ne.symm hs]

/-! ### triples -/
abbrev PostT := Exit → Env → List Deferred → List Asrt → Prop

def PostA (n : Nat) (Q : PostT) (I h : Hp) (w : World) : Exit → Act → World → Prop := fun x a' w' =>
  ∃ e' ds' As' I' h', Rel n e' ds' a' ∧ sepL As' I' h' ∧ Goes I h w I' h' w' ∧ Q x e' ds' As'

def SA (P : Program) (n : Nat) (c : Code) (Q : PostT) (e : Env) (ds : List Deferred) (As : List Asrt) : Prop :=
  ∀ I h a w, sepL As I h → Rel n e ds a → Fits I h w → c.wp P (PostA n Q I h w) a w

section
variable {P : Program} {n : Nat} {Q : PostT} {e : Env} {ds : List Deferred} {As : List Asrt}

theorem PostA.mono {Q' : PostT} (hq : ∀ x e ds As, Q x e ds As → Q' x e ds As) {I h : Hp} {w : World} {x : Exit} {a : Act} {w' : World} (p : PostA n Q I h w x a w') : PostA n Q' I h w x a w' := by
  obtain ⟨e', ds', As', I', h', r, s, g, q⟩ := p
  exact ⟨e', ds', As', I', h', r, s, g, hq _ _ _ _ q⟩

theorem SA.mono {c : Code} {Q' : PostT} (h : SA P n c Q e ds As) (hq : ∀ x e ds As, Q x e ds As → Q' x e ds As) : SA P n c Q' e ds As :=
  fun I h' a w s r f => wp_mono (h I h' a w s r f) fun _ _ _ p => PostA.mono hq p

/-- Atoms chosen anew, the frame spelled anew. -/
theorem SA.norm {c : Code} {ks : List Nat} {l : List (Nat × Value)} (hs : selOk ks As = true) (hl : AllEq e l) (h : SA P n c Q (updL e l) ds (sel ks As)) : SA P n c Q e ds As :=
  fun I h' a w s r f => h I h' a w (sepL_sel hs s) (updL_self hl ▸ r) f

theorem SA.conv {c : Code} {Bs : List Asrt} (hv : ∀ I h, sepL As I h → sepL Bs I h) (h : SA P n c Q e ds Bs) : SA P n c Q e ds As :=
  fun I h' a w s r f => h I h' a w (hv I h' s) r f

theorem SA_skip (h : Q .normal e ds As) : SA P n .skip Q e ds As := fun I h' a w s r f => wp_skip ⟨e, ds, As, I, h', r, s, Goes.refl f, h⟩
theorem SA_exit {id : Nat} (h : Q (.exit id) e ds As) : SA P n (.exit id) Q e ds As := fun I h' a w s r f => wp_exit ⟨e, ds, As, I, h', r, s, Goes.refl f, h⟩
theorem SA_ret (h : Q .ret e ds As) : SA P n .ret Q e ds As := fun I h' a w s r f => wp_ret ⟨e, ds, As, I, h', r, s, Goes.refl f, h⟩

def thn (K : Env → List Deferred → List Asrt → Prop) (Q : PostT) : PostT
  | .normal => K
  | x => Q x

theorem SA_seq {x y : Code} (h : SA P n x (thn (SA P n y Q) Q) e ds As) : SA P n (.seq x y) Q e ds As := by
  intro I h' a w s r f
  refine wp_seq (wp_mono (h I h' a w s r f) fun ex a1 w1 p => ?_)
  obtain ⟨e1, ds1, As1, I1, h1, r1, s1, g1, q⟩ := p
  cases ex with
  | normal =>
    refine wp_mono (q I1 h1 a1 w1 s1 r1 g1.fits) fun ex a2 w2 p => ?_
    obtain ⟨e2, ds2, As2, I2, h2, r2, s2, g2, q2⟩ := p
    exact ⟨e2, ds2, As2, I2, h2, r2, s2, g1.trans g2, q2⟩
  | _ => exact ⟨e1, ds1, As1, I1, h1, r1, s1, g1, q⟩

/-- A cut between two pieces. -/
theorem SA_cut {x y : Code} (M : Env → List Deferred → List Asrt → Prop) (h : SA P n x (thn M Q) e ds As) (k : ∀ e ds As, M e ds As → SA P n y Q e ds As) : SA P n (.seq x y) Q e ds As :=
  SA_seq (h.mono fun ex e ds As q => by
    cases ex with
    | normal => exact k e ds As q
    | _ => exact q)

theorem SA_cond {c : Operand} {x y : Code} {p : Prop} [Decidable p] (hc : ev e c = .bool (decide p)) (ht : p → SA P n x Q e ds As) (hf : ¬p → SA P n y Q e ds As) : SA P n (.cond c x y) Q e ds As := by
  intro I h' a w s r f
  have hc' : a.eval c = .bool (decide p) := by rw [r.eval]; exact hc
  by_cases hp : p
  · exact wp_cond_true (by simpa [hp] using hc') (ht hp I h' a w s r f)
  · exact wp_cond_false (by simpa [hp] using hc') (hf hp I h' a w s r f)

theorem SA_condb {c : Operand} {x y : Code} {b : Bool} (hc : ev e c = .bool b) (ht : b = true → SA P n x Q e ds As) (hf : b = false → SA P n y Q e ds As) : SA P n (.cond c x y) Q e ds As := by
  intro I h' a w s r f
  have hc' : a.eval c = .bool b := by rw [r.eval]; exact hc
  cases b
  · exact wp_cond_false hc' (hf rfl I h' a w s r f)
  · exact wp_cond_true hc' (ht rfl I h' a w s r f)

def inb (id : Nat) (Q : PostT) : PostT
  | .exit i => fun e ds As => bif Nat.beq i id then Q .normal e ds As else Q (.exit i) e ds As
  | x => Q x

theorem SA_block {id : Nat} {c : Code} (h : SA P n c (inb id Q) e ds As) : SA P n (.block id c) Q e ds As := by
  intro I h' a w s r f
  refine wp_block (wp_mono (h I h' a w s r f) fun ex a1 w1 p => ?_)
  obtain ⟨e1, ds1, As1, I1, h1, r1, s1, g1, q⟩ := p
  cases ex with
  | exit i =>
    by_cases hi : i = id
    · subst hi
      simp only [Exit.inBlock, if_true]
      exact ⟨e1, ds1, As1, I1, h1, r1, s1, g1, by simpa [inb] using q⟩
    · have hb : Nat.beq i id = false := beq_no hi
      simp only [Exit.inBlock, hi, if_false]
      exact ⟨e1, ds1, As1, I1, h1, r1, s1, g1, by simpa [inb, hb] using q⟩
  | _ => exact ⟨e1, ds1, As1, I1, h1, r1, s1, g1, q⟩

/-- A loop: what holds at its head hangs on a number that each round lowers. -/
theorem SA_loop {c : Code} (J : Nat → Env → List Deferred → List Asrt → Prop) {k : Nat} (h0 : J k e ds As)
    (round : ∀ k e ds As, J k e ds As → SA P n c (thn (fun e ds As => ∃ k', k' < k ∧ J k' e ds As) Q) e ds As) : SA P n (.loop c) Q e ds As := by
  intro I0 h0' a0 w0 s0 r0 f0 b kk cs
  have key : ∀ m k e ds As I h a w, k = m → J k e ds As → sepL As I h → Rel n e ds a → Fits I h w → Goes I0 h0' w0 I h w →
      ∃ x a' w', PostA n Q I0 h0' w0 x a' w' ∧ Arrives P (lone (b.at a (.code c :: .inLoop c :: kk)) cs w) b kk cs x a' w' := by
    intro m
    induction m using Nat.strongRecOn with
    | _ m ih =>
      intro k e ds As I h a w hk hJ s r f g0
      obtain ⟨x, a1, w1, ⟨e1, ds1, As1, I1, h1, r1, s1, g1, q⟩, harr⟩ := round k e ds As hJ I h a w s r f b (.inLoop c :: kk) cs
      cases x with
      | normal =>
        obtain ⟨k', hlt, hJ'⟩ := q
        obtain ⟨x2, a2, w2, hq2, harr2⟩ := ih k' (hk ▸ hlt) k' e1 ds1 As1 I1 h1 a1 w1 rfl hJ' s1 r1 g1.fits (g0.trans g1)
        exact ⟨x2, a2, w2, hq2, .of_steps (Steps.trans harr (.one step_inLoop)) harr2⟩
      | exit id => exact ⟨_, a1, w1, ⟨e1, ds1, As1, I1, h1, r1, s1, g0.trans g1, q⟩, .pass (x := .inLoop c) rfl (fun _ _ => .inl (by simp)) harr⟩
      | goto l => exact ⟨_, a1, w1, ⟨e1, ds1, As1, I1, h1, r1, s1, g0.trans g1, q⟩, .pass (x := .inLoop c) rfl (fun _ _ => .inl (by simp)) harr⟩
      | ret => exact ⟨_, a1, w1, ⟨e1, ds1, As1, I1, h1, r1, s1, g0.trans g1, q⟩, .pass (x := .inLoop c) rfl (fun _ _ => .inl (by simp)) harr⟩
      | panic ch => exact ⟨_, a1, w1, ⟨e1, ds1, As1, I1, h1, r1, s1, g0.trans g1, q⟩, .pass (x := .inLoop c) rfl (fun _ _ => .inl (by simp)) harr⟩
      | outgrown => exact ⟨_, a1, w1, ⟨e1, ds1, As1, I1, h1, r1, s1, g0.trans g1, q⟩, .pass (x := .inLoop c) rfl (fun _ _ => .inl (by simp)) harr⟩
  obtain ⟨x, a', w', hq, harr⟩ := key k k e ds As I0 h0' a0 w0 rfl h0 s0 r0 f0 (Goes.refl f0)
  exact ⟨x, a', w', hq, .of_steps (.one step_loop) harr⟩

/-! ### operations -/
def OA (P : Program) (n : Nat) (o : Oper) (K : Env → List Deferred → List Asrt → Prop) (Q : PostT) (e : Env) (ds : List Deferred) (As : List Asrt) : Prop :=
  ∀ I h a w, sepL As I h → Rel n e ds a → Fits I h w →
    o.wp P a w (fun a' w' => ∃ e' ds' As' I' h', Rel n e' ds' a' ∧ sepL As' I' h' ∧ Goes I h w I' h' w' ∧ K e' ds' As') (PostA n Q I h w)

/-- The operations of a region, in the text's order. -/
def RA (P : Program) (n : Nat) (ops : Array Oper) (Q : PostT) : List Oper → Env → List Deferred → List Asrt → Prop
  | [], e, ds, As => Q .normal e ds As
  | o :: os, e, ds, As => ∀ I h a w, sepL As I h → Rel n e ds a → Fits I h w →
      (Region.wanted o (yielded ops a.tmps) = true ∧ o.wp P a w (fun a' w' => ∃ e' ds' As' I' h', Rel n e' ds' a' ∧ sepL As' I' h' ∧ Goes I h w I' h' w' ∧ RA P n ops Q os e' ds' As') (PostA n Q I h w)) ∨
      (Region.wanted o (yielded ops a.tmps) = false ∧ okDst o.dst n = true ∧ RA P n ops Q os (put e o.dst undef) ds As)

theorem RA_step {ops : Array Oper} {o : Oper} {os : List Oper} (hg : o.guard = none) (h : OA P n o (RA P n ops Q os) Q e ds As) : RA P n ops Q (o :: os) e ds As :=
  fun I h' a w s r f => .inl ⟨by simp [Region.wanted, hg], h I h' a w s r f⟩

theorem yielded_rel {ops : Array Oper} {a : Act} (r : Rel n e ds a) {j : Nat} {d : Nat} (hj : (ops[j]?).bind (·.dst) = some d) (hd : d < n) : yielded ops a.tmps j = match e d with | .bool b => some b | _ => none := by
  have hlt : d < a.tmps.size := by rw [r.size]; exact hd
  have hg := r.get d
  simp [Array.getElem?_eq_getElem hlt] at hg
  simp only [yielded, hj, Option.bind_some, Array.getElem?_eq_getElem hlt, hg]
  cases e d <;> rfl

theorem RA_yes {ops : Array Oper} {o : Oper} {os : List Oper} {j d : Nat} {want : Bool} (hg : o.guard = some (j, want)) (hj : (ops[j]?).bind (·.dst) = some d) (hd : Nat.blt d n = true) (hv : e d = .bool want)
    (h : OA P n o (RA P n ops Q os) Q e ds As) : RA P n ops Q (o :: os) e ds As :=
  fun I h' a w s r f => .inl ⟨by simp [Region.wanted, hg, yielded_rel r hj (by simpa using hd), hv], h I h' a w s r f⟩

theorem RA_no {ops : Array Oper} {o : Oper} {os : List Oper} {j d : Nat} {want : Bool} (hg : o.guard = some (j, want)) (hj : (ops[j]?).bind (·.dst) = some d) (hd : Nat.blt d n = true) (hv : e d = .bool (!want))
    (ho : okDst o.dst n = true) (h : RA P n ops Q os (put e o.dst undef) ds As) : RA P n ops Q (o :: os) e ds As :=
  fun I h' a w s r f => .inr ⟨by simp [Region.wanted, hg, yielded_rel r hj (by simpa using hd), hv], ho, h⟩

theorem wpOps_of_RA {ops : Array Oper} {I0 h0 : Hp} {w0 : World} : ∀ (os : List Oper) (l : List Nat) (e : Env) (ds : List Deferred) (As : List Asrt) (I h : Hp) (a : Act) (w : World),
    l.map (ops[·]?) = os.map some → RA P n ops Q os e ds As → sepL As I h → Rel n e ds a → Fits I h w → Goes I0 h0 w0 I h w → wpOps P ops (PostA n Q I0 h0 w0) l a w
  | [], [], e, ds, As, I, h, a, w, _, hr, s, r, f, g => ⟨e, ds, As, I, h, r, s, g, hr⟩
  | [], _ :: _, _, _, _, _, _, _, _, hl, _, _, _, _, _ => by simp at hl
  | _ :: _, [], _, _, _, _, _, _, _, hl, _, _, _, _, _ => by simp at hl
  | o :: os, i :: l, e, ds, As, I, h, a, w, hl, hr, s, r, f, g => by
    simp only [List.map_cons, List.cons.injEq] at hl
    obtain ⟨hi, hl⟩ := hl
    simp only [wpOps, hi]
    rcases hr I h a w s r f with ⟨hw, hwp⟩ | ⟨hw, hd, hk⟩
    · simp only [hw, if_true]
      refine .inl ?_
      have post : ∀ ex a' w', PostA n Q I h w ex a' w' → PostA n Q I0 h0 w0 ex a' w' := fun ex a' w' p => by
        obtain ⟨e', ds', As', I', h', r', s', g', q⟩ := p
        exact ⟨e', ds', As', I', h', r', s', g.trans g', q⟩
      have next : ∀ a' w', (∃ e' ds' As' I' h', Rel n e' ds' a' ∧ sepL As' I' h' ∧ Goes I h w I' h' w' ∧ RA P n ops Q os e' ds' As') → wpOps P ops (PostA n Q I0 h0 w0) l a' w' := fun a' w' p => by
        obtain ⟨e', ds', As', I', h', r', s', g', q⟩ := p
        exact wpOps_of_RA os l e' ds' As' I' h' a' w' hl q s' r' g'.fits (g.trans g')
      unfold Oper.wp at *
      generalize (execOp a.eval o).run P w = res at *
      cases res with
      | ok x w' =>
        cases x <;> simp only [Oper.upon] at hwp ⊢ <;> first
          | exact next _ _ hwp
          | exact Calls.mono hwp (fun ee w'' he => by cases ee <;> first | exact next _ _ he | exact post _ _ _ he | (obtain ⟨a2, w2, q⟩ := he; exact ⟨a2, w2, post _ _ _ q⟩))
          | exact Rows.mono hwp (fun _ _ he => next _ _ he)
      | halt x w' => cases x <;> simp only [Oper.upon] at hwp ⊢ <;> exact post _ _ _ hwp
    · simp only [hw, Bool.false_eq_true, if_false]
      exact wpOps_of_RA os l (put e o.dst undef) ds As I h (a.put o.dst undef) w hl hk s (r.put hd undef) f g

theorem SA_region {id : Nat} {ops : List Oper} (h : RA P n ops.toArray Q ops e ds As) : SA P n (.region id ops.toArray false) Q e ds As := by
  intro I h' a w s r f
  refine wp_region (wpOps_of_RA ops _ e ds As I h' a w ?_ h s r f (Goes.refl f))
  apply List.ext_getElem?
  intro i
  simp only [List.getElem?_map, List.size_toArray, List.getElem?_range', List.getElem?_toArray]
  by_cases hi : i < ops.length
  · simp [List.getElem?_range, hi]
  · simp [List.getElem?_eq_none (Nat.le_of_not_lt hi), List.getElem?_range, hi]

/-- An operation that only tells a value. -/
theorem OA_val {o : Oper} {K : Env → List Deferred → List Asrt → Prop} (v : Value) (hd : okDst o.dst n = true) (hv : ∀ w, (execOp (ev e) o).run P w = .ok (.value v) w) (h : K (put e o.dst v) ds As) : OA P n o K Q e ds As := by
  intro I h' a w s r f
  unfold Oper.wp
  rw [r.eval, hv w]
  exact ⟨_, ds, As, I, h', r.put hd v, s, Goes.refl f, h⟩

/-- One that reads: its value holds in each world that bears the atoms. -/
theorem OA_read {o : Oper} {K : Env → List Deferred → List Asrt → Prop} (v : Value) (hd : okDst o.dst n = true) (hv : ∀ I h w, sepL As I h → Fits I h w → (execOp (ev e) o).run P w = .ok (.value v) w) (h : K (put e o.dst v) ds As) : OA P n o K Q e ds As := by
  intro I h' a w s r f
  unfold Oper.wp
  rw [r.eval, hv I h' w s f]
  exact ⟨_, ds, As, I, h', r.put hd v, s, Goes.refl f, h⟩

/-! ### calls -/
def SC (P : Program) (f : FuncId) (args : Array Value) (pre : List Asrt) (R : Ending → List Asrt → Prop) : Prop :=
  ∀ I h w, sepL pre I h → Fits I h w → Calls P f args w fun x w' => x ≠ .outgrown ∧ ∃ As' I' h', sepL As' I' h' ∧ Goes I h w I' h' w' ∧ R x As'

theorem SC.mono {f : FuncId} {args : Array Value} {pre : List Asrt} {R R' : Ending → List Asrt → Prop} (h : SC P f args pre R) (hr : ∀ x As, R x As → R' x As) : SC P f args pre R' :=
  fun I h' w s ft => (h I h' w s ft).mono fun _ _ ⟨hx, As', I', h'', s', g, r⟩ => ⟨hx, As', I', h'', s', g, hr _ _ r⟩

/-- A call by contract: the atoms ks are handed over, the atoms rs stay. -/
theorem OA_call {o : Oper} {K : Env → List Deferred → List Asrt → Prop} {f : FuncId} {args : Array Value} {R : Value → List Asrt → Prop} (ks rs : List Nat) (hd : okDst o.dst n = true)
    (hv : ∀ w, (execOp (ev e) o).run P w = .ok (.enter f args) w) (hs : selOk (ks ++ rs) As = true)
    (hc : SC P f args (sel ks As) (fun x As' => ∃ v, x = .returned v ∧ R v As'))
    (h : ∀ v As', R v As' → K (put e o.dst v) ds (As' ++ sel rs As)) : OA P n o K Q e ds As := by
  intro I h' a w s r ft
  have s2 := sepL_sel hs s
  have es : sel (ks ++ rs) As = sel ks As ++ sel rs As := by simp [sel]
  rw [es] at s2
  obtain ⟨h1, h2, sp, sa, sb⟩ := sepL_split s2
  unfold Oper.wp
  rw [r.eval, hv w]
  simp only [Oper.upon]
  refine (hc I h1 w sa (ft.less sp.1)).mono fun x w' hx => ?_
  obtain ⟨_, As', I', h1', s1, g, v, rfl, hR⟩ := hx
  obtain ⟨g', sp'⟩ := Goes.frame ft sp g
  exact ⟨_, ds, As' ++ sel rs As, I', _, r.put hd v, sepL_append sp' s1 (sepL_mono g.le sb), g', h v As' hR⟩

/-- What a function's body owes. -/
def BodyQ (P : Program) (fn : Func) (R : Ending → List Asrt → Prop) : PostT
  | .normal, e, ds, As | .ret, e, ds, As => ds = [] ∧ ∃ v, (∀ I h w (tmps : Array Value), (∀ t, tmps.getD t undef = e t) → sepL As I h → Fits I h w → (results fn tmps).run P w = .ok v w) ∧ R (.returned v) As
  | .panic chain, _, ds, As => ds = [] ∧ R (.panicked chain) As
  | _, _, _, _ => False

def argE (args : Array Value) : Env := fun t => args.getD t undef

theorem SC_of_body {f : FuncId} {fn : Func} {c : Code} {args : Array Value} {pre : List Asrt} {R : Ending → List Asrt → Prop} (hf : P.funcs[f]? = some fn) (hb : fn.body = some c) (ha : args.size ≤ fn.ntmps)
    (h : SA P fn.ntmps c (BodyQ P fn R) (argE args) [] pre) : SC P f args pre R := by
  intro I h' w s ft
  refine calls_of_wp hf hb (wp_mono (h I h' { tmps := args ++ Array.replicate (fn.ntmps - args.size) undef, defers := [] } w s ⟨by simp; omega, fun t => ?_, rfl⟩ ft) fun ex a1 w1 p => ?_)
  · simp only [argE]
    rcases Nat.lt_or_ge t args.size with k | k
    · simp [Array.getElem?_append_left k]
    · simp only [Array.getD_eq_getD_getElem?]
      rw [Array.getElem?_append_right k, Array.getElem?_eq_none k]
      simp only [Array.getElem?_replicate]
      split <;> rfl
  · obtain ⟨e1, ds1, As1, I1, h1, r1, s1, g1, q⟩ := p
    cases ex with
    | normal =>
      obtain ⟨hd, v, hr, hR⟩ := q
      exact ⟨r1.defers.trans hd, v, hr I1 h1 w1 _ r1.get s1 g1.fits, by simp, As1, I1, h1, s1, g1, hR⟩
    | ret =>
      obtain ⟨hd, v, hr, hR⟩ := q
      exact ⟨r1.defers.trans hd, v, hr I1 h1 w1 _ r1.get s1 g1.fits, by simp, As1, I1, h1, s1, g1, hR⟩
    | panic chain =>
      obtain ⟨hd, hR⟩ := q
      exact ⟨r1.defers.trans hd, by simp, As1, I1, h1, s1, g1, hR⟩
    | exit id => exact q.elim
    | goto l => exact q.elim
    | outgrown => exact q.elim
end
end Go.Proofs.YtkdakjjockfmdaaGreatDoor.SL

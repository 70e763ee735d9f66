/- A machine that reckons: what is handed to a law, opened as data of the program's types. -/
import Derived.Test.YtkdakjjockfmdaaGreatDoorXV
import Derived.OpenShut
namespace Go.Proofs.YtkdakjjockfmdaaGreatDoor.XC
open Go Go.RowKit Go.ChangeShapes Go.WideShapes Go.Proofs.YtkdakjjockfmdaaGreatDoor.SL
set_option linter.unusedVariables false
set_option linter.unusedSimpArgs false
section
variable {H : Type} {enc : TypeId × Value → H} {P : Program} {W : World}
/-- Whether a type lies as its data say. -/
def okFs (P : Program) (ok : TypeId → Bool) (ty : TypeId → Option Ty) (all : Nat) : List Field → Nat → Bool
  | [], a => Nat.beq a all
  | f :: r, a => Nat.beq f.offset a && ok f.type && (match ty f.type with | some t => Nat.beq (P.cellsOf f.type) t.sz && okFs P ok ty all r (a + t.sz) | none => false)
def okTy (P : Program) : Nat → TypeId → Bool
  | 0, _ => false
  | f + 1, T => match P.underlying T with
    | some (.int _) => true | some .bool => true | some .string => true
    | some (.slice E) => okTy P f E && (match tyOf P f E with | some t => Nat.beq (P.cellsOf E) t.sz && Nat.blt 0 t.sz | none => false)
    | some (.struct fs) => okFs P (okTy P f) (tyOf P f) (P.cellsOf T) fs.toList 0
    | some (.array n E) => okTy P f E && (match tyOf P f E with | some t => Nat.beq (P.cellsOf E) t.sz && Nat.beq (P.cellsOf T) (n * t.sz) | none => false)
    | _ => false
theorem opn_any {α : Type} {t : TypeId} {kd : Kd α} {wf : α → Prop} (h : Opn enc P W t kd wf) : Opn enc P W t kd (fun _ => True) := fun a b c d e f g => by
  obtain ⟨y, h1, _⟩ := h a b c d e f g
  exact ⟨y, h1, trivial⟩
theorem opn_fs {ok : TypeId → Bool} {ty : TypeId → Option Ty} {all : Nat} (ih : ∀ T t, ty T = some t → ok T = true → Opn enc P W T (kdOf t) (fun _ => True)) {n : Nat} {held : Bool} {cs : List Value} (hl : cs.length = all) :
    ∀ (fs : List Field) (a : Nat) (t : Ty), okFs P ok ty all fs a = true → mkStr ty fs = some t → (∀ (i : Nat) (f : Field), fs[i]? = some f → ∃ d' ps', DataW.trod enc P W 0 (fun _ => true) held n f.type ((cs.drop f.offset).take (P.cellsOf f.type)) = some (d', ps') ∧ Sized P f.type d') →
      ∃ y : t.den, (kdOf t).R (IW W) (cs.drop a) y
  | [], a, t, hok, ht, _ => by
    simp only [mkStr, Option.some.injEq] at ht
    subst ht
    have : a = all := Nat.eq_of_beq_eq_true hok
    refine ⟨(), ?_⟩
    show cs.drop a = []
    exact List.drop_eq_nil_iff.2 (by omega)
  | f :: r, a, t, hok, ht, hf => by
    simp only [okFs, Bool.and_eq_true] at hok
    obtain ⟨⟨h1, h2⟩, h3⟩ := hok
    have h1 := Nat.eq_of_beq_eq_true h1
    simp only [mkStr] at ht
    split at ht
    · rename_i ta tb hta htb
      cases ht
      rw [hta] at h3
      simp only [Bool.and_eq_true] at h3
      obtain ⟨h3, h4⟩ := h3
      have h3 := Nat.eq_of_beq_eq_true h3
      obtain ⟨d', ps', hd, hs⟩ := hf 0 f rfl
      rw [h1, h3] at hd
      obtain ⟨x, hx, _⟩ := ih _ _ hta h2 _ _ _ _ _ hd hs
      obtain ⟨y, hy⟩ := opn_fs ih hl r (a + ta.sz) tb h4 htb fun i g hg => hf (i + 1) g (by simpa using hg)
      refine ⟨(x, y), (cs.drop a).take ta.sz, cs.drop (a + ta.sz), ?_, hx, hy⟩
      rw [← List.drop_drop]
      exact (List.take_append_drop _ _).symm
    · cases ht
theorem opn_arr {T : TypeId} {t : Ty} (ho : Opn enc P W T (kdOf t) (fun _ => True)) {m : Nat} {held : Bool} {xs : List (DataW H × List MemPlace)} : ∀ (n : Nat) (a : Nat) (cs : List Value), cs.length = (a + n) * t.sz → xs.length = a + n →
    (∀ i, i < a + n → DataW.trod enc P W 0 (fun _ => true) held m T ((cs.drop (i * t.sz)).take t.sz) = xs[i]?) → (∀ x ∈ xs, Sized P T x.1) → ∃ y : (mkArr t n).den, (kdOf (mkArr t n)).R (IW W) (cs.drop (a * t.sz)) y
  | 0, a, cs, hl, hx, h, hs => ⟨(), by
    show cs.drop (a * t.sz) = []
    exact List.drop_eq_nil_iff.2 (by rw [hl]; simp)⟩
  | n + 1, a, cs, hl, hx, h, hs => by
    have hlt : a < xs.length := by omega
    have h0 := h a (by omega)
    rw [List.getElem?_eq_getElem hlt] at h0
    obtain ⟨x, hx', _⟩ := ho _ _ _ _ _ (show _ = some (xs[a].1, xs[a].2) from h0) (hs _ (List.getElem_mem hlt))
    obtain ⟨y, hy⟩ := opn_arr ho n (a + 1) cs (by rw [hl]; congr 1; omega) (by omega) (fun i hi => h i (by omega)) hs
    refine ⟨(x, y), (cs.drop (a * t.sz)).take t.sz, cs.drop ((a + 1) * t.sz), ?_, hx', hy⟩
    rw [Nat.succ_mul, ← List.drop_drop]
    exact (List.take_append_drop _ _).symm
theorem opn_ty : ∀ (f : Nat) (T : TypeId) (t : Ty), tyOf P f T = some t → okTy P f T = true → Opn enc P W T (kdOf t) (fun _ => True)
  | 0, _, _, h, _ => by cases h
  | f + 1, T, t, h, hok => by
    unfold tyOf at h
    unfold okTy at hok
    split at h
    · rename_i k hu; cases h; exact opn_any (Opn.int hu)
    · rename_i hu; cases h; exact opn_any (Opn.bool hu)
    · rename_i hu; cases h; exact opn_any (Opn.str hu)
    · rename_i E hu
      rw [hu] at hok
      simp only [Bool.and_eq_true] at hok
      obtain ⟨h1, h2⟩ := hok
      cases ht : tyOf P f E with
      | none => rw [ht] at h2; cases h2
      | some te =>
        rw [ht] at h h2
        cases h
        simp only [Bool.and_eq_true] at h2
        have h3 := Nat.eq_of_beq_eq_true h2.1
        have h4 : 0 < te.sz := by simpa using h2.2
        exact opn_any (Opn.sl hu (opn_ty f E te ht h1) (by rw [kdOf_sz]; exact h3) (by rw [kdOf_sz]; exact h4) rfl)
    · rename_i fs hu
      rw [hu] at hok
      intro held fuel cs d ps hd hs
      obtain ⟨n, hl, hf⟩ := trod_field hu hd hs
      obtain ⟨y, hy⟩ := opn_fs (fun T t h1 h2 => opn_ty f T t h1 h2) hl fs.toList 0 t hok h fun i g hg => hf i g (by simpa using hg)
      exact ⟨y, by simpa using hy, trivial⟩
    · rename_i n E hu
      rw [hu] at hok
      simp only [Bool.and_eq_true] at hok
      obtain ⟨h1, h2⟩ := hok
      cases ht : tyOf P f E with
      | none => rw [ht] at h2; cases h2
      | some te =>
        rw [ht] at h h2
        cases h
        simp only [Bool.and_eq_true] at h2
        have h3 := Nat.eq_of_beq_eq_true h2.1
        have h4 := Nat.eq_of_beq_eq_true h2.2
        intro held fuel cs d ps hd hs
        obtain ⟨xs, m, _, hx, hl, hn, hf⟩ := DataW.trod_array hu hd
        obtain ⟨hd', _⟩ := Prod.mk.inj hx
        subst hd'
        obtain ⟨y, hy⟩ := opn_arr (opn_ty f E te ht h1) n 0 cs (by rw [hl, h4]; simp) (by simpa using hn) (fun i hi => by
          have := hf i (by simpa using hi)
          rw [h3] at this
          exact this) (fun x hx m' hm => hs m' (by
          simp only [DataW.weights, hu]
          exact weightsAll_mem (List.mem_map.2 ⟨x, hx, rfl⟩) hm))
        exact ⟨y, by simpa using hy, trivial⟩
    · cases h
/-- A datum as a value. -/
def svT (P : Program) (T : TypeId) (t : Ty) (x : t.den) : SV := match P.underlying T with
  | some (.struct _) => .agg (t.rf x)
  | some (.array _ _) => .agg (t.rf x)
  | _ => (match t.rf x with | [v] => v | _ => .un)
end
end Go.Proofs.YtkdakjjockfmdaaGreatDoor.XC

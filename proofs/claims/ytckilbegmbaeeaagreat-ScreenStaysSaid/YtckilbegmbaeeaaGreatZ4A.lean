import Derived.Test.YtckilbegmbaeeaaGreatZ4Ds
import Derived.Test.YtckilbegmbaeeaaGreatZ4Scr
namespace Go.Proofs.YtckilbegmbaeeaaGreat.Z4Sc
open Go Go.RowKit Go.Proofs.YtckilbegmbaeeaaGreat.SL Go.Proofs.YtckilbegmbaeeaaGreat.Z4 Go.Proofs.YtckilbegmbaeeaaGreat.Z4May Go.Proofs.YtckilbegmbaeeaaGreat.Z4Ls Go.Proofs.YtckilbegmbaeeaaGreat.Z4Op Go.Proofs.YtckilbegmbaeeaaGreat.Z4Sp
set_option linter.unusedVariables false
set_option linter.unusedSimpArgs false
def byte (x : S55) : Prop := 0 ≤ x.f2 ∧ x.f2 < 256
theorem byte_blk (s : S28) : byte (blk s) := by constructor <;> simp [blk]
theorem mend_all {W : List S55} (h : ∀ x ∈ W, byte x) : ∀ x ∈ mendL W, byte x := fun x hx => by
 unfold mendL at hx
 simp only [List.mem_map, List.mem_range] at hx
 obtain ⟨i, hi, rfl⟩ := hx
 unfold mendAt; split
 ·exact byte_blk _
 ·exact h _ (rd_mem hi)
theorem win_all {X : List S55} {o n : Nat} (h : ∀ x ∈ X, byte x) : ∀ x ∈ win X o n, byte x := fun x hx => h x (List.mem_of_mem_drop (List.mem_of_mem_take hx))
theorem over_all {X Y : List S55} {o : Nat} (h : ∀ x ∈ X, byte x) (h2 : ∀ x ∈ Y, byte x) : ∀ x ∈ over X o Y, byte x := fun x hx => by
 rcases over_mem hx with q | q
 ·exact h x q
 ·exact h2 x q
theorem rep_all {n : Nat} {s : S28} : ∀ x ∈ List.replicate n (blk s), byte x := fun x hx => by rw [(List.mem_replicate.1 hx).2]; exact byte_blk s
theorem slide_all {W : List S55} {d : Int} {s : S28} (h : ∀ x ∈ W, byte x) : ∀ x ∈ slide W d (blk s), byte x := fun x hx => by
 rcases slide_mem hx with q | q
 ·exact h x q
 ·rw [q]; exact byte_blk s
theorem onRow_all {g : S26} {row : Int} {f : List S55 → List S55} (h : ∀ x ∈ g.f2, byte x) (hf : ∀ W : List S55, (∀ x ∈ W, byte x) → ∀ x ∈ f W, byte x) : ∀ x ∈ (onRow g row f).1.f2, byte x :=
 over_all h (mend_all (hf _ (win_all h)))
theorem no_all : ∀ x ∈ no.1.f2, byte x := fun x hx => by simp [no] at hx
theorem scroll_all {g : S26} {t u d : Int} {s : S28} (h : ∀ x ∈ g.f2, byte x) : ∀ x ∈ (sScroll g t u d s).1.f2, byte x := by
 unfold sScroll; split
 ·exact over_all h (slide_all (win_all h))
 ·exact no_all
theorem res_all {X : List S55} {w w' : Nat} (h : ∀ x ∈ X, byte x) : ∀ (n i : Nat) (Z : List S55), (∀ x ∈ Z, byte x) → ∀ x ∈ resL X w w' n i Z, byte x
 | 0, i, Z, hZ => hZ
 | n + 1, i, Z, hZ => res_all h n (i + 1) _ (over_all hZ (mend_all (over_all (win_all hZ) fun x hx => win_all h x (List.mem_of_mem_take hx))))
theorem resize_all {g : S26} {c r : Int} {s : S28} (h : ∀ x ∈ g.f2, byte x) : ∀ x ∈ (sResize g c r s).1.f2, byte x := by
 unfold sResize; split
 ·exact res_all h _ _ _ rep_all
 ·exact no_all
theorem grr {g : S26} (h1 : g.f2.length ≤ 262144) (h2 : ∀ x ∈ g.f2, byte x) : Gr g := ⟨by omega, h2⟩
theorem rows_ext {X Y : List S55} {w q : Nat} (hX : X.length = w * q) (hY : Y.length = w * q) (h : ∀ n, n < q → win X (n * w) w = win Y (n * w) w) : X = Y := by
 apply List.ext_getElem?
 intro i
 by_cases hi : i < w * q
 ·have hw : 0 < w := by
   rcases Nat.eq_zero_or_pos w with h | h
   ·subst h; simp at hi
   ·exact h
  have h1 := Nat.mod_lt i hw
  have h2 := Nat.div_add_mod i w
  have h3 : i / w < q := Nat.div_lt_of_lt_mul hi
  have e := congrArg (·[i % w]?) (h _ h3)
  simp only [win_get, h1, if_true] at e
  rwa [show i / w * w + i % w = i from by rw [Nat.mul_comm]; omega] at e
 ·rw [List.getElem?_eq_none (by omega), List.getElem?_eq_none (by omega)]
theorem mend_id {W : List S55} (h : RowG W) : mendL W = W := by
 apply List.ext_getElem?
 intro i
 by_cases hi : i < W.length
 ·rw [some_rd (xs := mendL W) (by rw [mend_len]; exact hi), mend_rd hi, some_rd hi]
  congr 1
  unfold mendAt
  rw [if_neg]
  intro hb
  obtain ⟨h1, h2, h3, h4⟩ := h i hi
  unfold badAt at hb
  simp only [Bool.or_eq_true, Bool.and_eq_true, decide_eq_true_eq, Bool.not_eq_true'] at hb
  rcases hb with ⟨b1, b2⟩ | ⟨b1, b2⟩
  ·have hl : i + 1 < W.length := by
    rcases Nat.lt_or_ge (i + 1) W.length with z | z
    ·exact z
    ·exact absurd ⟨b1, by omega⟩ h4
   obtain ⟨k1, k2, k3, k4⟩ := h (i + 1) hl
   have hz : (rd W ((i + 1 : Nat) : Int)).f2 = 0 := k2.2 ⟨by omega, by rw [show i + 1 - 1 = i from by omega]; exact b1⟩
   have hs := k3 ⟨by omega, by rw [show i + 1 - 1 = i from by omega]; exact b1⟩
   rw [show i + 1 - 1 = i from by omega] at hs
   unfold isW at b2
   rw [show (i : Int) + 1 = ((i + 1 : Nat) : Int) from by omega, decide_eq_false_iff_not] at b2
   exact b2 ⟨by omega, by omega, hz, hs⟩
  ·obtain ⟨h0, h5⟩ := h2.1 b1
   have hs := h3 ⟨h0, h5⟩
   unfold isW at b2
   rw [show (i : Int) - 1 = ((i - 1 : Nat) : Int) from by omega, decide_eq_false_iff_not] at b2
   exact b2 ⟨by omega, by omega, h5, hs.symm⟩
 ·rw [List.getElem?_eq_none (by rw [mend_len]; omega), List.getElem?_eq_none (by omega)]
structure M (s : S34) : Prop where
 g : mayGrid s.f0 = true
 y : mayStyle s.f4 = true
 y2 : mayStyle s.f14.f4 = true
 t0 : 0 ≤ s.f5
 t1 : s.f5 ≤ s.f6
 t2 : s.f6 < s.f0.f1
 p : posOk s.f0 s.f1 s.f2 s.f3 = true
 p2 : posOk s.f0 s.f14.f0 s.f14.f1 s.f14.f2 = true
 tabs : tabsOk s.f0.f0 (-1) s.f7 = true
 alt : altOk s = true
 ti : titleOk s.f17 = true
theorem may_iff (s : S34) : mayScreen s = true ↔ M s := by
 unfold mayScreen
 simp only [Bool.and_eq_true, decide_eq_true_eq]
 constructor
 ·rintro ⟨⟨⟨⟨⟨⟨⟨⟨a, b⟩, c⟩, ⟨d, e⟩, f⟩, g⟩, h⟩, i⟩, j⟩, k⟩; exact ⟨a, b, c, d, e, f, g, h, i, j, k⟩
 ·rintro ⟨a, b, c, d, e, f, g, h, i, j, k⟩; exact ⟨⟨⟨⟨⟨⟨⟨⟨a, b⟩, c⟩, ⟨d, e⟩, f⟩, g⟩, h⟩, i⟩, j⟩, k⟩
theorem pos_iff {g : S26} {r c : Int} {p : Bool} : posOk g r c p = true ↔ 0 ≤ r ∧ r < g.f1 ∧ 0 ≤ c ∧ c < g.f0 ∧ (p = true → c = g.f0 - 1) := by
 unfold posOk
 cases p <;> simp [and_assoc]
theorem tabs_iff {w : Int} : ∀ {l : List Int} {a : Int}, tabsOk w a l = true ↔ List.Pairwise (· < ·) l ∧ ∀ x ∈ l, a < x ∧ x < w
 | [], a => by simp [tabsOk]
 | c :: r, a => by
  unfold tabsOk
  simp only [Bool.and_eq_true, decide_eq_true_eq, List.pairwise_cons, List.mem_cons, tabs_iff (l := r)]
  constructor
  ·rintro ⟨⟨h1, h2⟩, h3, h4⟩
   refine ⟨⟨fun x hx => (h4 x hx).1, h3⟩, ?_⟩
   rintro x (rfl | hx)
   ·exact ⟨h1, h2⟩
   ·exact ⟨by have := (h4 x hx).1; omega, (h4 x hx).2⟩
  ·rintro ⟨⟨h1, h2⟩, h3⟩
   exact ⟨h3 c (.inl rfl), h2, fun x hx => ⟨h1 x hx, (h3 x (.inr hx)).2⟩⟩
theorem tabs_len {w : Int} : ∀ {l : List Int} {a : Int}, a < w → tabsOk w a l = true → (l.length : Int) < w - a
 | [], a, h, _ => by simp; omega
 | c :: r, a, h, q => by
  unfold tabsOk at q
  simp only [Bool.and_eq_true, decide_eq_true_eq] at q
  have := tabs_len (l := r) q.1.2 q.2
  rw [List.length_cons]; push_cast; omega
structure Ok (s : S34) : Prop where
 m : M s
 b : ∀ x ∈ s.f0.f2, byte x
 b2 : ∀ x ∈ s.f16.f2, byte x
theorem Ok.size {s : S34} (h : Ok s) : ∃ w q : Nat, s.f0.f0 = (w : Int) ∧ s.f0.f1 = (q : Int) ∧ 0 < w ∧ w ≤ 512 ∧ 0 < q ∧ q ≤ 512 ∧ s.f0.f2.length = w * q ∧ w * q ≤ 262144 := may_size h.m.g
theorem alt_len {s : S34} (h : M s) : s.f16.f2.length ≤ 262144 := by
 have := h.alt
 unfold altOk at this
 split at this
 ·simp only [Bool.and_eq_true, decide_eq_true_eq] at this
  obtain ⟨w, q, _, _, _, _, _, _, hl, hb⟩ := may_size this.1.1
  omega
 ·simp only [Bool.and_eq_true, decide_eq_true_eq] at this
  omega
theorem Ok.gr {s : S34} (h : Ok s) : Gr s.f0 := by
 obtain ⟨w, q, _, _, _, _, _, _, hl, hb⟩ := h.size
 exact grr (by omega) h.b
theorem Ok.grm {s : S34} (h : Ok s) : Gr s.f16 := grr (alt_len h.m) h.b2
theorem tabs_small {s : S34} (h : M s) : s.f7.length ≤ 512 := by
 obtain ⟨w, q, e0, _, _, _, _, _, _, _⟩ := may_size h.g
 have := tabs_len (by omega) h.tabs
 omega
theorem title_small {s : S34} (h : M s) : s.f17.length ≤ 256 := by
 have := h.ti
 unfold titleOk at this
 simp only [Bool.and_eq_true, decide_eq_true_eq] at this
 exact this.1
theorem Ok.sg {s : S34} (h : Ok s) : Sg s := by
 have h1 := tabs_small h.m
 have h2 := title_small h.m
 exact ⟨h.gr, h.grm, by omega, by omega⟩
theorem Ok.may {s : S34} (h : Ok s) : mayScreen s = true := (may_iff s).2 h.m
theorem ok_of {s : S34} (hs : Sg s) (hm : mayScreen s = true) : Ok s := ⟨(may_iff s).1 hm, hs.g.wide, hs.m.wide⟩
theorem f97 (s : S34) (h : Ok s) : F97.f s = some s := by
 obtain ⟨w, q, _, _, _, _, _, _, hl, hb⟩ := h.size
 have h1 := alt_len h.m
 have h2 := tabs_small h.m
 have h3 := title_small h.m
 unfold F97.f F138.f F139.f
 rw [f72 _ (by omega), f72 _ (by omega)]
 simp only [Option.bind_some, lt, List.nil_append, List.length_nil]
 rw [if_pos (by omega), if_pos (by omega)]
 rfl
def zS : S34 := S34.mk (S26.mk 0 0 ([] : (List S55))) 0 0 false (S28.mk 0 0 false false false false false false false false) 0 0 ([] : (List Int)) false false false false false false (S31.mk 0 0 false false (S28.mk 0 0 false false false false false false false false)) false (S26.mk 0 0 ([] : (List S55))) ([] : (List Int))
def res (s t : S34) : S34 × Int := if mayScreen s = true then (t, 0) else (zS, 2)
end Go.Proofs.YtckilbegmbaeeaaGreat.Z4Sc

/- SspAlike: whatever comes, in whatever order, the receiver's latest state is the sender's of that number. -/
import Derived.Test.YtodkeoibebimgaaSqSn
import Derived.Test.YtodkeoibebimgaaSqTk
import Derived.Test.YtodkeoibebimgaaSqT11
import Derived.Test.YtodkeoibebimgaaSqU
namespace Go.Proofs.Ytodkeoibebimgaa.SqAl
open Go Go.RowKit Go.Proofs.Ytodkeoibebimgaa.SL Go.Proofs.Ytodkeoibebimgaa.Sq Go.Proofs.Ytodkeoibebimgaa.SqTk
set_option linter.unusedVariables false
set_option linter.unusedSimpArgs false

theorem str_bytes (s : ByteArray) : strOf (bytesOf s) = s := by
  unfold strOf strOfNums bytesOf
  apply ByteArray.ext
  simp [List.map_map, Function.comp_def]
theorem ext_left (a c : ByteArray) : (a ++ c).extract 0 a.size = a := by
  apply ByteArray.ext
  simp
theorem ext_right (a c : ByteArray) : (a ++ c).extract a.size (a ++ c).size = c := by
  apply ByteArray.ext
  simp
  rw [show a.data.extract a.size (a.size + c.size) = #[] from Array.extract_empty_of_size_le_start (Nat.le_refl _), show c.data.extract 0 c.size = c.data from Array.extract_size]
  simp
theorem suf_pre (a c : ByteArray) : SqSn.suf a (a ++ c) = (c, true) := by
  unfold SqSn.suf
  rw [if_pos ⟨by rw [ByteArray.size_append]; omega, ext_left a c⟩, ext_right]
theorem app_assoc (a b c : ByteArray) : a ++ b ++ c = a ++ (b ++ c) := by
  apply ByteArray.ext; simp
theorem app_nil (a : ByteArray) : a ++ (⟨#[]⟩ : ByteArray) = a := by
  apply ByteArray.ext; simp

/-- The texts that were sent, one behind the other; what is to be sent. -/
structure HI (had : List ByteArray) (all : ByteArray) : Prop where
  ne : 0 < had.length
  mono : ∀ i j : Nat, i ≤ j → j < had.length → ∃ c, rd had (j : Int) = rd had (i : Int) ++ c
  last : ∃ c, all = rd had ((had.length - 1 : Nat) : Int) ++ c
theorem HI.pre {had : List ByteArray} {all : ByteArray} (h : HI had all) {i : Nat} (hi : i < had.length) : ∃ c, all = rd had (i : Int) ++ c := by
  obtain ⟨c, e⟩ := h.last
  obtain ⟨c', e'⟩ := h.mono i (had.length - 1) (by omega) (by omega)
  exact ⟨c' ++ c, by rw [e, e', app_assoc]⟩
theorem rd_app {α : Type} [Inhabited α] {l : List α} {a : α} {i : Nat} (h : i < l.length) : rd (l ++ [a]) (i : Int) = rd l (i : Int) := by
  rw [rd_lt (by simp; omega), rd_lt h, List.getElem_append_left h]
theorem rd_new {α : Type} [Inhabited α] {l : List α} {a : α} : rd (l ++ [a]) (l.length : Int) = a := by
  rw [rd_lt (by simp)]; simp
theorem HI.add {had : List ByteArray} {all : ByteArray} (h : HI had all) : HI (had ++ [all]) all := by
  refine ⟨by simp, fun i j hij hj => ?_, ⟨⟨#[]⟩, ?_⟩⟩
  · rw [List.length_append, List.length_singleton] at hj
    by_cases q : j < had.length
    · rw [rd_app q, rd_app (by omega)]; exact h.mono i j hij q
    · obtain rfl : j = had.length := by omega
      rw [rd_new]
      by_cases q2 : i < had.length
      · rw [rd_app q2]; exact h.pre q2
      · obtain rfl : i = had.length := by omega
        rw [rd_new]; exact ⟨⟨#[]⟩, (app_nil _).symm⟩
  · rw [List.length_append, List.length_singleton, Nat.add_sub_cancel, rd_new, app_nil]
theorem HI.grow {had : List ByteArray} {all w : ByteArray} (h : HI had all) : HI had (all ++ w) := by
  obtain ⟨c, e⟩ := h.last
  exact ⟨h.ne, h.mono, c ++ w, by rw [e, app_assoc]⟩
/-- A sender that has sent these. -/
structure SI (B : Nat) (had : List ByteArray) (T : S49) : Prop where
  inv : SqSn.Inv B T
  len : T.f1.length ≤ had.length
  row : ∀ j : Nat, j < T.f1.length → (rd T.f1 (j : Int)).f0 = ((had.length - T.f1.length + j : Nat) : Int) ∧ (rd T.f1 (j : Int)).f1 = rd had ((had.length - T.f1.length + j : Nat) : Int)
/-- An instruction that was sent. -/
def SO (had : List ByteArray) (x : S54) : Prop := ∃ o n : Nat, x.f0 = (o : Int) ∧ x.f1 = (n : Int) ∧ o ≤ n ∧ n < had.length ∧ rd had (n : Int) = rd had (o : Int) ++ strOf x.f4
theorem SO.add {had : List ByteArray} {x : S54} {a : ByteArray} (h : SO had x) : SO (had ++ [a]) x := by
  obtain ⟨o, n, h1, h2, h3, h4, h5⟩ := h
  exact ⟨o, n, h1, h2, h3, by simp; omega, by rw [rd_app h4, rd_app (by omega)]; exact h5⟩
/-- What is sent out of rows. -/
theorem send_ok {B : Nat} {had : List ByteArray} {T : S49} {now : Int} {L : List S63} (hL : 0 < L.length) (hlen : L.length ≤ had.length) (hm : ∀ i j : Nat, i ≤ j → j < had.length → ∃ c, rd had (j : Int) = rd had (i : Int) ++ c)
    (hrow : ∀ j : Nat, j < L.length → (rd L (j : Int)).f0 = ((had.length - L.length + j : Nat) : Int) ∧ (rd L (j : Int)).f1 = rd had ((had.length - L.length + j : Nat) : Int)) :
    (SqSn.send T now L).2.1 = true ∧ (SqSn.send T now L).2.2.1 = 0 ∧ SO had (SqSn.send T now L).1 ∧ (SqSn.send T now L).1.f1 = ((had.length - 1 : Nat) : Int) ∧ (SqSn.send T now L).2.2.2.f0 = T.f0 ∧ (SqSn.send T now L).2.2.2.f4 = now ∧
    (SqSn.send T now L).2.2.2.f1.length = L.length ∧ ∀ j : Nat, j < L.length → (rd (SqSn.send T now L).2.2.2.f1 (j : Int)).f0 = (rd L (j : Int)).f0 ∧ (rd (SqSn.send T now L).2.2.2.f1 (j : Int)).f1 = (rd L (j : Int)).f1 := by
  obtain ⟨a0, b0⟩ := hrow 0 hL
  obtain ⟨a1, b1⟩ := hrow (L.length - 1) (by omega)
  rw [show had.length - L.length + (L.length - 1) = had.length - 1 from by omega] at a1 b1
  rw [Nat.add_zero] at a0 b0
  rw [show ((0 : Nat) : Int) = 0 from rfl] at a0 b0
  obtain ⟨c, hc⟩ := hm (had.length - L.length) (had.length - 1) (by omega) (by omega)
  have hs : SqSn.suf (rd L 0).f1 (rd L ((L.length - 1 : Nat) : Int)).f1 = (c, true) := by rw [b0, b1, hc]; exact suf_pre _ _
  unfold SqSn.send
  rw [hs, if_pos rfl]
  refine ⟨rfl, rfl, ⟨had.length - L.length, had.length - 1, a0, a1, by omega, by omega, ?_⟩, a1, rfl, rfl, by simp, fun j hj => ?_⟩
  · show _ = _ ++ strOf (bytesOf c)
    rw [str_bytes]; exact hc
  · by_cases q : j = L.length - 1
    · subst q
      rw [rd_lt (by simp; omega), List.getElem_set_self]
      exact ⟨rfl, rfl⟩
    · rw [rd_lt (by simp; omega), List.getElem_set_ne (by omega), rd_lt hj]
      exact ⟨rfl, rfl⟩
/-- What had is behind a tick. -/
def had' (had : List ByteArray) (T : S49) (now : Int) : List ByteArray := if SqSn.fresh T now 20 = true then had ++ [T.f0] else had
theorem tick_ok {B : Nat} {had : List ByteArray} {T : S49} {now : Int} (h : SI B had T) (hH : HI had T.f0) (hn : T.f4 ≤ now ∧ now < 18446744073709551616) (hb : had.length ≤ 4194304) :
    (SqSn.tick T now 20 90).2.2.1 = 0 ∧ SI B (had' had T now) (SqSn.tick T now 20 90).2.2.2 ∧ HI (had' had T now) T.f0 ∧ (SqSn.tick T now 20 90).2.2.2.f0 = T.f0 ∧ (SqSn.tick T now 20 90).2.2.2.f4 = now ∧
    ((SqSn.tick T now 20 90).2.1 = true → SO (had' had T now) (SqSn.tick T now 20 90).1 ∧ ((SqSn.tick T now 20 90).1.f1 = (had.length : Int) ↔ SqSn.fresh T now 20 = true)) ∧ ((SqSn.tick T now 20 90).2.1 = false → had' had T now = had) := by
  have hl := h.inv.len
  have hti := SqSn.tick_inv h.inv (now := now) (b := 20) (c := 90) hn.2
  unfold had'
  have hr1 : (SqSn.row1 T).length = T.f1.length + 1 := by simp [SqSn.row1]
  by_cases hf : SqSn.fresh T now 20 = true
  · have e : SqSn.tick T now 20 90 = SqSn.send T now (SqSn.row1 T) := by
      unfold SqSn.tick
      rw [if_neg (by omega), if_pos hf]
    rw [e] at hti ⊢
    rw [if_pos hf]
    have hlast := h.row (T.f1.length - 1) (by omega)
    have hA := hH.add
    have hrow : ∀ j : Nat, j < (SqSn.row1 T).length → (rd (SqSn.row1 T) (j : Int)).f0 = (((had ++ [T.f0]).length - (SqSn.row1 T).length + j : Nat) : Int) ∧ (rd (SqSn.row1 T) (j : Int)).f1 = rd (had ++ [T.f0]) (((had ++ [T.f0]).length - (SqSn.row1 T).length + j : Nat) : Int) := fun j hj => by
      have hlen := h.len
      rw [hr1, List.length_append, List.length_singleton] at *
      rw [show had.length + 1 - (T.f1.length + 1) + j = had.length - T.f1.length + j from by omega]
      unfold SqSn.row1
      by_cases q : j < T.f1.length
      · rw [rd_app q, rd_app (by omega)]; exact h.row j q
      · obtain rfl : j = T.f1.length := by omega
        rw [rd_new, show had.length - T.f1.length + T.f1.length = had.length from by omega, rd_new]
        refine ⟨?_, rfl⟩
        show IntKind.u64.wrap _ = _
        rw [hlast.1, show had.length - T.f1.length + (T.f1.length - 1) = had.length - 1 from by omega, wu64]
        have := hH.ne
        omega
    obtain ⟨s1, s2, s3, s4, s5, s6, s7, s8⟩ := send_ok (B := B) (had := had ++ [T.f0]) (T := T) (now := now) (L := SqSn.row1 T) (by omega) (by rw [hr1]; simp; exact h.len) hA.mono hrow
    refine ⟨s2, ⟨hti, by rw [s7, hr1]; simp; exact h.len, fun j hj => ?_⟩, hA, s5, s6, fun _ => ⟨s3, ?_⟩, fun q => by rw [s1] at q; cases q⟩
    · rw [s7] at hj ⊢
      obtain ⟨p1, p2⟩ := s8 j hj
      rw [p1, p2]; exact hrow j hj
    · rw [s4]; simp [hf]
  · rw [if_neg hf]
    by_cases ha : SqSn.again T now 90 = true
    · have e : SqSn.tick T now 20 90 = SqSn.send T now T.f1 := by
        unfold SqSn.tick
        rw [if_neg (by omega), if_neg hf, if_pos ha]
      rw [e] at hti ⊢
      obtain ⟨s1, s2, s3, s4, s5, s6, s7, s8⟩ := send_ok (B := B) (had := had) (T := T) (now := now) (L := T.f1) (by omega) h.len hH.mono h.row
      refine ⟨s2, ⟨hti, by rw [s7]; exact h.len, fun j hj => ?_⟩, hH, s5, s6, fun _ => ⟨s3, ?_⟩, fun _ => rfl⟩
      · rw [s7] at hj ⊢
        obtain ⟨p1, p2⟩ := s8 j hj
        rw [p1, p2]; exact h.row j hj
      · rw [s4]
        have := hH.ne
        constructor
        · intro q; omega
        · intro q; exact absurd q hf
    · have e : SqSn.tick T now 20 90 = (SqSn.nil54, false, 0, S49.mk T.f0 T.f1 T.f2 T.f3 now) := by
        unfold SqSn.tick
        rw [if_neg (by omega), if_neg hf, if_neg ha]
      rw [e] at hti ⊢
      exact ⟨rfl, ⟨hti, h.len, h.row⟩, hH, rfl, rfl, fun q => by (cases q), fun _ => rfl⟩
theorem ack_ok {B : Nat} {had : List ByteArray} {T : S49} (h : SI B had T) (n : Int) : SI B had (SqSn.ack T n).2 ∧ (SqSn.ack T n).2.f0 = T.f0 ∧ (SqSn.ack T n).2.f4 = T.f4 := by
  have hi := SqSn.ack_inv h.inv n
  unfold SqSn.ack at *
  cases hf : SqSn.find T.f1 n with
  | none => exact ⟨h, rfl, rfl⟩
  | some j =>
    rw [hf] at hi
    have hj := SqSn.find_lt hf
    refine ⟨⟨hi, by have := h.len; simp; omega, fun q hq => ?_⟩, rfl, rfl⟩
    have hlen := h.len
    simp only [List.length_drop] at hq ⊢
    have e : rd (T.f1.drop j) (q : Int) = rd T.f1 ((j + q : Nat) : Int) := by
      rw [rd_lt (by rw [List.length_drop]; omega), rd_lt (by omega)]; simp
    rw [e]
    have := h.row (j + q) (by omega)
    rw [show had.length - T.f1.length + (j + q) = had.length - (T.f1.length - j) + q from by omega] at this
    exact this

/-! ### the receiver -/
def KO (had : List ByteArray) (R : List S63) : Prop := ∀ y ∈ R, ∃ n : Nat, y.f0 = (n : Int) ∧ n < had.length ∧ y.f1 = rd had (n : Int)
theorem KO.add {had : List ByteArray} {R : List S63} {a : ByteArray} (h : KO had R) : KO (had ++ [a]) R := fun y hy => by
  obtain ⟨n, h1, h2, h3⟩ := h y hy
  exact ⟨n, h1, by simp; omega, by rw [rd_app h2]; exact h3⟩
def lastN (R : List S63) : Int := (rd R ((R.length - 1 : Nat) : Int)).f0
theorem last_max {R : List S63} (hA : Asc R) (hn : R ≠ []) : ∀ y ∈ R, y.f0 ≤ lastN R := fun y hy => by
  have hp := List.length_pos_iff.2 hn
  obtain ⟨i, hi, rfl⟩ := List.getElem_of_mem hy
  unfold lastN
  rw [← rd_lt hi]
  by_cases q : i = R.length - 1
  · rw [q]; omega
  · have := asc_rd hA (show i < R.length - 1 by omega) (by omega)
    omega
theorem thr_lastN {R : List S63} (a : Int) (hn : R ≠ []) : lastN (thr R a) = lastN R := by
  obtain ⟨j, hj, e⟩ := thr_suffix R a hn
  unfold lastN
  rw [e, List.length_drop, rd_lt (by rw [List.length_drop]; omega), rd_lt (by omega)]
  simp only [List.getElem_drop]
  congr 2; omega
theorem thr_mem {R : List S63} {a : Int} {y : S63} (h : y ∈ thr R a) : y ∈ R := by
  by_cases q : R = []
  · subst q; simp [thr] at h
  · obtain ⟨j, _, e⟩ := thr_suffix R a q
    rw [e] at h; exact List.mem_of_mem_drop h
theorem ins_mem {R : List S63} {r y : S63} : y ∈ ins R r ↔ y ∈ R ∨ y = r := by
  unfold ins
  rw [List.mem_append, List.mem_append, List.mem_singleton]
  constructor
  · rintro ((q | q) | q)
    · exact .inl (List.mem_of_mem_take q)
    · exact .inr q
    · exact .inl (List.mem_of_mem_drop q)
  · rintro (q | q)
    · rw [← List.take_append_drop (pos R r.f0) R, List.mem_append] at q
      rcases q with q | q
      · exact .inl (.inl q)
      · exact .inr q
    · exact .inl (.inr q)
theorem take_ok {B : Nat} {had : List ByteArray} {R : List S63} {x : S54} (h : RI B R) (hk : KO had R) (hx : SO had x) : KO had (take R x).2.2 ∧ lastN R ≤ lastN (take R x).2.2 := by
  unfold take
  split
  · exact ⟨fun y hy => hk y (thr_mem hy), by show _ ≤ lastN (thr R x.f3); rw [thr_lastN _ h.ne]; omega⟩
  · rename_i hn
    split
    · exact ⟨hk, Int.le_refl _⟩
    · rename_i ho
      split
      · exact ⟨hk, Int.le_refl _⟩
      · obtain ⟨j, hj, hjl⟩ := fI_lt (L := R) (n := x.f0) (by omega)
        have hm := rd_mem hjl
        have hjn : (rd R (j : Int)).f0 = x.f0 := by
          unfold fI at hj
          cases q : find R x.f0 with
          | none => rw [q] at hj; simp at hj
          | some z =>
            rw [q] at hj
            obtain rfl : z = j := by simp at hj; omega
            unfold find at q
            rw [List.findIdx?_eq_some_iff_getElem] at q
            obtain ⟨q1, q2, _⟩ := q
            rw [rd_lt q1]; simpa using q2
        obtain ⟨o, n, x1, x2, x3, x4, x5⟩ := hx
        have hins : ins R (S63.mk x.f1 ((rd R (fI R x.f0)).f1 ++ strOf x.f4) 0) ≠ [] := fun q => by
          have := congrArg List.length q
          rw [ins_len] at this; simp at this
        have hasc := ins_asc (r := S63.mk x.f1 ((rd R (fI R x.f0)).f1 ++ strOf x.f4) 0) h.asc (fI_none hn)
        refine ⟨fun y hy => ?_, ?_⟩
        · rcases ins_mem.1 (thr_mem hy) with q | q
          · exact hk y q
          · subst q
            obtain ⟨n', y1, y2, y3⟩ := hk _ hm
            refine ⟨n, x2, x4, ?_⟩
            show (rd R (fI R x.f0)).f1 ++ strOf x.f4 = _
            rw [hj, y3, x5]
            have : n' = o := by rw [hjn, x1] at y1; omega
            rw [this]
        · show lastN R ≤ lastN (thr (ins R _) x.f3)
          rw [thr_lastN _ hins]
          refine last_max hasc hins _ (ins_mem.2 (.inl ?_))
          have hp := List.length_pos_iff.2 h.ne
          exact rd_mem (by omega)

/-! ### the run -/
def szs (l : List ByteArray) : Nat := (l.map fun x => x.size).sum
theorem tdiv3 {w : Int} (h : 0 ≤ w) : 0 ≤ w.tmod 3 := Int.tmod_nonneg _ h
structure AI (B : Nat) (T : S49) (R : List S63) (now latest : Int) (had : List ByteArray) (sent : List S54) : Prop where
  si : SI B had T
  hi : HI had T.f0
  clk : T.f4 ≤ now
  ri : RI B R
  ko : KO had R
  lat : latest ≤ lastN R
  so : ∀ x ∈ sent, SO had x
  sz : ∀ y ∈ had, y.size ≤ B
theorem so_size {had : List ByteArray} {x : S54} {B : Nat} (h : SO had x) (hs : ∀ y ∈ had, y.size ≤ B) : x.f4.length ≤ B := by
  obtain ⟨o, n, h1, h2, h3, h4, h5⟩ := h
  have hm : rd had (n : Int) ∈ had := by rw [rd_lt h4]; exact List.getElem_mem h4
  have := hs _ hm
  rw [h5, ByteArray.size_append, strOf_size] at this
  omega
theorem l11 (words : List ByteArray) (way : List Int) (hl : way.length ≤ 1048576) (hw : ∀ w ∈ way, 0 ≤ w ∧ w < 256) : ∀ (m k i : Nat) (T : S49) (R : List S63) (now latest : Int) (had : List ByteArray) (sent : List S54),
    i + m = way.length → m + 4194500 ≤ k → AI 1048576 T R now latest had sent → 0 ≤ now ∧ now ≤ 256 * (i : Int) → R.length ≤ i + 1 → had.length ≤ i + 1 → sent.length ≤ i → T.f0.size + szs (words.drop i) ≤ 1048576 →
    F11.l0 words way k (SqSn.toS T) (S162.mk (R.map cv)) now latest T.f0 had sent (i : Int) = some (Out.go ())
  | _, 0, _, _, _, _, _, _, _, _, hk, _, _, _, _, _, _ => by omega
  | 0, k + 1, i, T, R, now, latest, had, sent, hi, hk, h, _, _, _, _, _ => by rw [F11.l0, if_neg (by omega)]
  | m + 1, k + 1, i, T, R, now, latest, had, sent, hi, hk, h, hn, hR, hH, hS, hz => by
    have hi2 : i < way.length := by omega
    have hwi := hw _ (List.getElem_mem hi2)
    rw [← rd_lt hi2] at hwi
    have ih := l11 words way hl hw m k (i + 1)
    rw [F11.l0, if_pos (by omega)]
    -- the text of this round
    obtain ⟨all', e1, hall, hg, hz'⟩ : ∃ all', (if (i : Int) < (words.length : Int) then (if 0 ≤ (i : Int) ∧ (i : Int) < (words.length : Int) then (if T.f0.size + (rd words (i : Int)).size ≤ 9223372036854775807 then (lt (T.f0 ++ (rd words (i : Int))) fun n48 => (F22b0.f (SqSn.toS T) (S41.mk n48)).bind (fun r52 => some (r52.2, n48))) else none) else none) else (some (SqSn.toS T, T.f0)) : Option (S131 × ByteArray)) = some (SqSn.toS (S49.mk all' T.f1 T.f2 T.f3 T.f4), all') ∧ all'.size ≤ 1048576 ∧ HI had all' ∧ all'.size + szs (words.drop (i + 1)) ≤ 1048576 := by
      by_cases q : i < words.length
      · have hd : words.drop i = rd words (i : Int) :: words.drop (i + 1) := by rw [rd_lt q]; exact List.drop_eq_getElem_cons q
        have hs : szs (words.drop i) = (rd words (i : Int)).size + szs (words.drop (i + 1)) := by rw [hd]; simp [szs]
        refine ⟨T.f0 ++ rd words (i : Int), ?_, by rw [ByteArray.size_append]; omega, h.hi.grow, by rw [ByteArray.size_append]; omega⟩
        rw [if_pos (by omega), if_pos (by omega), if_pos (by omega)]
        simp only [lt, SqSn.f22 T 1048576 h.si.inv, Option.bind_some]
      · refine ⟨T.f0, by rw [if_neg (by omega)], h.si.inv.txt, h.hi, ?_⟩
        rw [List.drop_eq_nil_of_le (by omega)] at hz ⊢
        exact hz
    rw [e1]
    have hT1 : SI 1048576 had (S49.mk all' T.f1 T.f2 T.f3 T.f4) := ⟨⟨h.si.inv.len, h.si.inv.clk, h.si.inv.at_, h.si.inv.ats, hall, h.si.inv.txts⟩, h.si.len, h.si.row⟩
    have hclk := h.clk
    have hw1 : IntKind.u64.wrap (rd way (i : Int)) = rd way (i : Int) := by rw [wu64]; omega
    have hw2 : IntKind.u64.wrap (now + rd way (i : Int)) = now + rd way (i : Int) := by rw [wu64]; omega
    have hw3 : IntKind.i64.wrap (rd way (i : Int)) = rd way (i : Int) := w64 (by omega) (by omega)
    have hw4 : IntKind.i64.wrap (rd way (i : Int) * 7) = rd way (i : Int) * 7 := w64 (by omega) (by omega)
    have hw5 : IntKind.i64.wrap (rd way (i : Int) * 7 + (i : Int)) = rd way (i : Int) * 7 + (i : Int) := w64 (by omega) (by omega)
    generalize rd way (i : Int) = w at *
    simp only [Option.bind_some]
    rw [if_pos (by omega), hw1, hw2]
    simp only [lt]
    rw [SqSn.f25 _ 1048576 (by omega) hT1.inv]
    obtain ⟨t1, t2, t3, t4, t5, t6, t7⟩ := tick_ok (now := now + w) hT1 hg ⟨by show T.f4 ≤ _; omega, by omega⟩ (by omega)
    simp only [Option.bind_some, SqSn.out25]
    rw [if_neg (by rw [t1]; simp)]
    generalize hT2 : SqSn.tick (S49.mk all' T.f1 T.f2 T.f3 T.f4) (now + w) 20 90 = r at *
    have t4' : r.2.2.2.f0 = all' := t4
    -- what had been sent, and what was had
    obtain ⟨had2, sent2, e2, h2, s2, hl2, sl2⟩ : ∃ had2 sent2, (if r.2.1 = true then (if sent.length + ([r.1] : (List S54)).length ≤ 2513169434916 then (lt (sent ++ ([r.1] : (List S54))) fun n88 => (if r.1.f1 = (IntKind.u64.wrap ((had.length : Int))) then (if had.length + ([all'] : (List ByteArray)).length ≤ 8796093022208 then (lt (had ++ ([all'] : (List ByteArray))) fun n96 => (some (n96, n88))) else none) else (some (had, n88)))) else none) else (some (had, sent)) : Option ((List ByteArray) × (List S54))) = some (had2, sent2) ∧ had2 = had' had (S49.mk all' T.f1 T.f2 T.f3 T.f4) (now + w) ∧ (∀ x ∈ sent2, SO had2 x) ∧ had2.length ≤ i + 2 ∧ sent2.length ≤ i + 1 := by
      have hwl : IntKind.u64.wrap ((had.length : Int)) = (had.length : Int) := by rw [wu64]; omega
      by_cases q : r.2.1 = true
      · obtain ⟨so, eqf⟩ := t6 q
        rw [if_pos q, if_pos (by simp; omega), hwl]
        simp only [lt]
        by_cases f : SqSn.fresh (S49.mk all' T.f1 T.f2 T.f3 T.f4) (now + w) 20 = true
        · rw [if_pos (eqf.2 f), if_pos (by simp; omega)]
          have eh : had' had (S49.mk all' T.f1 T.f2 T.f3 T.f4) (now + w) = had ++ [all'] := by unfold had'; rw [if_pos f]
          rw [eh] at so ⊢
          refine ⟨_, _, rfl, rfl, fun x hx => ?_, by simp; omega, by simp; omega⟩
          rcases List.mem_append.1 hx with z | z
          · exact (h.so x z).add
          · simp at z; subst z; exact so
        · rw [if_neg (fun z => f (eqf.1 z))]
          have eh : had' had (S49.mk all' T.f1 T.f2 T.f3 T.f4) (now + w) = had := by unfold had'; rw [if_neg f]
          rw [eh] at so ⊢
          refine ⟨_, _, rfl, rfl, fun x hx => ?_, by omega, by simp; omega⟩
          rcases List.mem_append.1 hx with z | z
          · exact h.so x z
          · simp at z; subst z; exact so
      · rw [if_neg q]
        have eh := t7 (by simpa using q)
        exact ⟨had, sent, rfl, eh.symm, h.so, by omega, by omega⟩
    simp only [lt] at e2
    rw [e2]
    rw [← h2] at t2 t3
    have hk2 : KO had2 R := by
      rw [h2]; unfold had'
      split
      · exact h.ko.add
      · exact h.ko
    have hsz2 : ∀ y ∈ had2, y.size ≤ 1048576 := fun y hy => by
      rw [h2] at hy; unfold had' at hy
      split at hy
      · rcases List.mem_append.1 hy with z | z
        · exact h.sz y z
        · simp at z; subst z; exact hall
      · exact h.sz y hy
    simp only [Option.bind_some]
    -- the receiver
    obtain ⟨R2, e3, r1, r2, r3, r4⟩ : ∃ R2, ((if (sent2.length : Int) > 0 then (if 0 ≤ (i : Int) ∧ (i : Int) < (way.length : Int) then (some (decide (w.tmod 3 > 0))) else none) else (some false) : Option Bool).bind (fun q98 => (if q98 = true then (if 0 ≤ (i : Int) ∧ (i : Int) < (way.length : Int) then (if (sent2.length : Int) ≠ 0 then (if 0 ≤ ((IntKind.i64.wrap ((IntKind.i64.wrap ((IntKind.i64.wrap w) * 7)) + (i : Int))).tmod (sent2.length : Int)) ∧ ((IntKind.i64.wrap ((IntKind.i64.wrap ((IntKind.i64.wrap w) * 7)) + (i : Int))).tmod (sent2.length : Int)) < (sent2.length : Int) then ((F52.f k (S162.mk (R.map cv)) (rd sent2 ((IntKind.i64.wrap ((IntKind.i64.wrap ((IntKind.i64.wrap w) * 7)) + (i : Int))).tmod (sent2.length : Int)))).bind (fun r120 => some r120.2.2)) else none) else none) else none) else (some (S162.mk (R.map cv))) : Option (S162)))) = some (S162.mk (R2.map cv)) ∧ RI 1048576 R2 ∧ KO had2 R2 ∧ lastN R ≤ lastN R2 ∧ R2.length ≤ i + 2 := by
      by_cases q : (sent2.length : Int) > 0
      · rw [if_pos q, if_pos (by omega)]
        simp only [Option.bind_some]
        by_cases q2 : w.tmod 3 > 0
        · rw [if_pos (decide_eq_true q2), if_pos (by omega), if_pos (by omega), hw3, hw4, hw5]
          obtain ⟨z, hz1, hz2⟩ : ∃ z : Nat, (w * 7 + (i : Int)).tmod (sent2.length : Int) = (z : Int) ∧ z < sent2.length := by
            rw [Int.tmod_eq_emod_of_nonneg (by omega)]
            have p1 := Int.emod_nonneg (w * 7 + (i : Int)) (show (sent2.length : Int) ≠ 0 by omega)
            have p2 := Int.emod_lt_of_pos (w * 7 + (i : Int)) q
            exact ⟨((w * 7 + (i : Int)) % (sent2.length : Int)).toNat, by omega, by omega⟩
          rw [hz1, if_pos (by omega)]
          have hxm : rd sent2 (z : Int) ∈ sent2 := by rw [rd_lt hz2]; exact List.getElem_mem hz2
          generalize rd sent2 (z : Int) = x at hxm ⊢
          have hxs := s2 x hxm
          have hxz := so_size hxs hsz2
          rw [f52 h.ri (by omega) (by omega) x (by omega) k (by omega)]
          obtain ⟨k1, k2⟩ := take_ok h.ri hk2 hxs
          obtain ⟨k3, k4⟩ := take_inv h.ri x
          refine ⟨(take R x).2.2, rfl, ⟨k3.ne, k3.asc, fun y hy => ?_⟩, k1, k2, by omega⟩
          obtain ⟨n, y1, y2, y3⟩ := k1 y hy
          rw [y3]
          exact hsz2 _ (by rw [rd_lt y2]; exact List.getElem_mem y2)
        · rw [if_neg (by rw [decide_eq_true_eq]; exact q2)]
          exact ⟨R, rfl, h.ri, hk2, Int.le_refl _, by omega⟩
      · rw [if_neg q]
        simp only [Option.bind_some]
        rw [if_neg (by simp)]
        exact ⟨R, rfl, h.ri, hk2, Int.le_refl _, by omega⟩
    rw [← Option.bind_assoc, e3]
    simp only [Option.bind_some]
    rw [f53 r1.ne (by omega)]
    simp only [Option.bind_some]
    have hp := List.length_pos_iff.2 r1.ne
    obtain ⟨n, n1, n2, n3⟩ := r2 _ (rd_mem (L := R2) (i := R2.length - 1) (by omega))
    have hlat := h.lat
    have hln : lastN R2 = (n : Int) := n1
    have hwh : IntKind.u64.wrap ((had2.length : Int)) = (had2.length : Int) := by rw [wu64]; omega
    rw [n1, n3, if_neg (by omega), hwh, if_neg (by omega), if_pos (by omega)]
    simp only [Option.bind_some]
    rw [if_neg (by simp), if_pos (by omega), wsucc (by omega)]
    have hclk2 : r.2.2.2.f4 ≤ now + w := by omega
    by_cases q5 : w.tmod 5 = 0
    · rw [if_pos q5, SqSn.f23 r.2.2.2 1048576 t2.inv _ k (by omega)]
      obtain ⟨a1, a2, a3⟩ := ack_ok t2 (n : Int)
      simp only [Option.bind_some]
      have := ih (SqSn.ack r.2.2.2 (n : Int)).2 R2 (now + w) (n : Int) had2 sent2 (by omega) (by omega) ⟨a1, by rw [a2, t4']; exact t3, by rw [a3]; exact hclk2, r1, r2, by omega, s2, hsz2⟩ (by omega) (by omega) (by omega) (by omega) (by rw [a2, t4']; exact hz')
      rw [a2, t4'] at this
      exact this
    · rw [if_neg q5]
      have := ih r.2.2.2 R2 (now + w) (n : Int) had2 sent2 (by omega) (by omega) ⟨t2, by rw [t4']; exact t3, hclk2, r1, r2, by omega, s2, hsz2⟩ (by omega) (by omega) (by omega) (by omega) (by rw [t4']; exact hz')
      rw [t4'] at this
      exact this
theorem law (words : List ByteArray) (way : List Int) (hl : way.length ≤ 1048576) (hw : ∀ w ∈ way, 0 ≤ w ∧ w < 256) (hz : szs words ≤ 1048576) : ∃ k, F11.f k words way = some true := by
  refine ⟨8000000, ?_⟩
  generalize hk : (8000000 : Nat) = k
  unfold F11.f
  have h0 : AI 1048576 (S49.mk (⟨#[]⟩ : ByteArray) [S63.mk 0 (⟨#[]⟩ : ByteArray) 0] false 0 0) [S63.mk 0 (⟨#[]⟩ : ByteArray) 0] 0 0 [(⟨#[]⟩ : ByteArray)] [] := by
    have e0 : rd [(⟨#[]⟩ : ByteArray)] ((0 : Nat) : Int) = (⟨#[]⟩ : ByteArray) := rfl
    refine ⟨⟨⟨by simp, by simp, by simp, fun x hx => by simp at hx; subst hx; simp, by show 0 ≤ _; omega, fun x hx => by simp at hx; subst hx; show 0 ≤ _; omega⟩, by simp, fun j hj => ?_⟩, ⟨by simp, fun i j hij hj => ?_, ⟨⟨#[]⟩, rfl⟩⟩, Int.le_refl _, ⟨by simp, List.pairwise_singleton _ _, fun x hx => by simp at hx; subst hx; show 0 ≤ _; omega⟩, fun y hy => ?_, Int.le_refl _, fun x hx => by simp at hx, fun y hy => by simp at hy; subst hy; show 0 ≤ _; omega⟩
    · simp at hj; subst hj; exact ⟨rfl, rfl⟩
    · simp at hj; subst hj
      obtain rfl : i = 0 := by omega
      exact ⟨⟨#[]⟩, rfl⟩
    · simp at hy; subst hy
      exact ⟨0, rfl, by simp, rfl⟩
  have h11 : F11.l0 words way k (SqSn.toS (S49.mk (⟨#[]⟩ : ByteArray) [S63.mk 0 (⟨#[]⟩ : ByteArray) 0] false 0 0)) (S162.mk ([S63.mk 0 (⟨#[]⟩ : ByteArray) 0].map cv)) 0 0 (⟨#[]⟩ : ByteArray) [(⟨#[]⟩ : ByteArray)] [] 0 = _ := l11 words way hl hw way.length k 0 (S49.mk (⟨#[]⟩ : ByteArray) [S63.mk 0 (⟨#[]⟩ : ByteArray) 0] false 0 0) [S63.mk 0 (⟨#[]⟩ : ByteArray) 0] 0 0 [(⟨#[]⟩ : ByteArray)] [] (by omega) (by omega) h0 (by omega) (by simp) (by simp) (by simp) (by rw [List.drop_zero]; show 0 + szs words ≤ _; omega)
  rw [show F20.f (S41.mk (⟨#[]⟩ : ByteArray)) = some (SqSn.toS (S49.mk (⟨#[]⟩ : ByteArray) [S63.mk 0 (⟨#[]⟩ : ByteArray) 0] false 0 0)) from rfl, show F51.f (S41.mk (⟨#[]⟩ : ByteArray)) = some (S162.mk ([S63.mk 0 (⟨#[]⟩ : ByteArray) 0].map cv)) from rfl]
  simp only [Option.bind_some, lt, h11, Out.el, anchored k (by omega)]
end Go.Proofs.Ytodkeoibebimgaa.SqAl
namespace Go.Proofs.Ytodkeoibebimgaa.SqPure
open Go Go.RowKit Go.Proofs.Ytodkeoibebimgaa.SL Go.Proofs.Ytodkeoibebimgaa.Sq Go.Proofs.Ytodkeoibebimgaa.SqAl
set_option linter.unusedVariables false
set_option linter.unusedSimpArgs false
theorem row (x0 : List ByteArray) (x1 : List Int) (w0 : ∀ y_ ∈ x0, True) (w1 : ∀ y_ ∈ x1, (Lit.int .u8 y_).wf = true) (hB : ((x0.map (fun y_ : ByteArray => y_.size + 1)).sum + 1) + ((x1.map (fun _ : Int => 1)).sum + 1) ≤ 1048576) : ∃ k, F11.f k x0 x1 = some true := by
  have e1 : ∀ z : List Int, (z.map fun _ : Int => 1).sum = z.length := fun z => by induction z with | nil => rfl | cons a z i => simp [i]; omega
  have e2 : ∀ z : List ByteArray, szs z ≤ (z.map (fun y_ : ByteArray => y_.size + 1)).sum := fun z => by
    induction z with
    | nil => simp [szs]
    | cons a z i => simp only [List.map_cons, List.sum_cons, szs] at *; omega
  have := e1 x1
  have := e2 x0
  refine law x0 x1 (by omega) (fun x hx => ?_) (by omega)
  have h2 := w1 x hx
  simp only [Lit.wf, IntKind.min, IntKind.max, Bool.and_eq_true, decide_eq_true_eq] at h2
  have := h2.1; have := h2.2
  constructor <;> (simp [IntKind.signed, IntKind.bits] at *; omega)
end Go.Proofs.Ytodkeoibebimgaa.SqPure

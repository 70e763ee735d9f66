/- What a sender computes. -/
import Derived.Test.YtodkeoibebimgaaSq
import Derived.Test.YtodkeoibebimgaaSlP
namespace Go.Proofs.Ytodkeoibebimgaa.SqSn
open Go Go.RowKit Go.Proofs.Ytodkeoibebimgaa.SL Go.Proofs.Ytodkeoibebimgaa.Sq
set_option linter.unusedVariables false
set_option linter.unusedSimpArgs false

theorem wsucc {i : Nat} (h : i < 4611686018427387904) : IntKind.i64.wrap ((i : Int) + 1) = ((i + 1 : Nat) : Int) := by rw [w64 (by omega) (by omega)]; rfl
theorem wpred {i : Nat} (h0 : 0 < i) (h : i < 4611686018427387904) : IntKind.i64.wrap ((i : Int) - 1) = ((i - 1 : Nat) : Int) := by rw [w64 (by omega) (by omega)]; omega
def cv (x : S63) : S128 := S128.mk x.f0 (S41.mk x.f1) x.f2
def toS (t : S49) : S131 := S131.mk (t.f1.map cv) (S41.mk t.f0) t.f3 t.f2 t.f4
theorem rd_map {L : List S63} {i : Nat} (h : i < L.length) : rd (L.map cv) (i : Int) = cv (rd L (i : Int)) := by
  rw [rd_lt (by simpa using h), rd_lt h]; simp
theorem rd_mem {L : List S63} {i : Nat} (h : i < L.length) : rd L (i : Int) ∈ L := by rw [rd_lt h]; exact List.getElem_mem h
theorem cv0 (x : S63) : (cv x).f0 = x.f0 := rfl
theorem cv1 (x : S63) : (cv x).f1 = S41.mk x.f1 := rfl
theorem cv2 (x : S63) : (cv x).f2 = x.f2 := rfl
theorem f100 (x : S63) (n : Int) : F100.f (cv x) n = some (decide (x.f0 = n)) := rfl
theorem f145 (a : ByteArray) (x : S63) : F145.f (S41.mk a) (cv x).f1 = some (decide (a = x.f1)) := rfl
structure Inv (B : Nat) (t : S49) : Prop where
  len : 1 ≤ t.f1.length ∧ t.f1.length ≤ 32
  clk : 0 ≤ t.f4 ∧ t.f4 < 18446744073709551616
  at_ : 0 ≤ t.f3 ∧ t.f3 ≤ t.f4
  ats : ∀ x ∈ t.f1, 0 ≤ x.f2 ∧ x.f2 ≤ t.f4
  txt : t.f0.size ≤ B
  txts : ∀ x ∈ t.f1, x.f1.size ≤ B

theorem f60 (t : S49) (B : Nat) (h : Inv B t) : F60b0.f (toS t) = some true := by
  have := h.len
  unfold F60b0.f toS
  simp
  omega
theorem f22 (t : S49) (B : Nat) (h : Inv B t) (n : ByteArray) : F22b0.f (toS t) (S41.mk n) = some (0, toS (S49.mk n t.f1 t.f2 t.f3 t.f4)) := by
  unfold F22b0.f
  rw [f60 t B h]
  simp [F143.f, toS]

/-! ### Ack -/
def find (L : List S63) (n : Int) : Option Nat := L.findIdx? fun x => decide (x.f0 = n)
theorem l99 (L : List S63) (n : Int) (hL : L.length ≤ 32) : ∀ (m k i : Nat), i + m = L.length → m < k → (∀ j, j < i → (rd L (j : Int)).f0 ≠ n) →
    F99b0.l0 (L.map cv) (fun x => F100.f x n) k (i : Int) = some (match find L n with | some j => Out.ret (j : Int) | none => Out.go ())
  | _, 0, _, _, hk, _ => by omega
  | 0, k + 1, i, hi, hk, hb => by
    have : find L n = none := by
      unfold find
      rw [List.findIdx?_eq_none_iff]
      intro x hx
      obtain ⟨j, hj, rfl⟩ := List.getElem_of_mem hx
      have := hb j (by omega)
      rw [rd_lt hj] at this
      simpa using this
    rw [F99b0.l0, if_neg (by simp; omega), this]
  | m + 1, k + 1, i, hi, hk, hb => by
    have hi2 : i < L.length := by omega
    rw [F99b0.l0, if_pos (by simp; omega), if_pos (by simp; omega), rd_map hi2]
    rw [f100]
    simp only [Option.bind_some]
    by_cases h : (rd L (i : Int)).f0 = n
    · have : find L n = some i := by
        unfold find
        rw [List.findIdx?_eq_some_iff_getElem]
        refine ⟨hi2, ?_, fun j hj => ?_⟩
        · rw [rd_lt hi2] at h; simpa using h
        · have := hb j hj
          rw [rd_lt (by omega)] at this
          simpa using this
      rw [this, if_pos (decide_eq_true h)]
    · rw [if_neg (by rw [decide_eq_true_eq]; exact h), wsucc (by omega)]
      exact l99 L n hL m k (i + 1) (by omega) (by omega) fun j hj => by
        by_cases hji : j = i
        · subst hji; exact h
        · exact hb j (by omega)
theorem find_lt {L : List S63} {n : Int} {j : Nat} (h : find L n = some j) : j < L.length := by
  unfold find at h
  rw [List.findIdx?_eq_some_iff_getElem] at h
  exact h.1
theorem l24 (t : S49) (n : Int) (hL : t.f1.length ≤ 32) : ∀ (m k i : Nat), i + m = t.f1.length → m < k → (∀ j, j < i → (rd t.f1 (j : Int)).f0 ≠ n) →
    F24b0.l0 n k t (i : Int) = some (match find t.f1 n with | some j => Out.ret (0, S49.mk t.f0 (t.f1.drop j) t.f2 t.f3 t.f4) | none => Out.go t)
  | _, 0, _, _, hk, _ => by omega
  | 0, k + 1, i, hi, hk, hb => by
    have : find t.f1 n = none := by
      unfold find
      rw [List.findIdx?_eq_none_iff]
      intro x hx
      obtain ⟨j, hj, rfl⟩ := List.getElem_of_mem hx
      have := hb j (by omega)
      rw [rd_lt hj] at this
      simpa using this
    rw [F24b0.l0, if_neg (by omega), this]
  | m + 1, k + 1, i, hi, hk, hb => by
    have hi2 : i < t.f1.length := by omega
    rw [F24b0.l0, if_pos (by omega), if_pos (by omega)]
    by_cases h : (rd t.f1 (i : Int)).f0 = n
    · have : find t.f1 n = some i := by
        unfold find
        rw [List.findIdx?_eq_some_iff_getElem]
        refine ⟨hi2, ?_, fun j hj => ?_⟩
        · rw [rd_lt hi2] at h; simpa using h
        · have := hb j hj
          rw [rd_lt (by omega)] at this
          simpa using this
      have hs : sub t.f1 (i : Int) (t.f1.length : Int) = t.f1.drop i := by
        unfold sub
        simp only [Int.toNat_natCast]
        exact List.take_of_length_le (by simp)
      rw [this, if_pos h, if_pos (by omega)]
      simp only [lt, hs]
      rw [if_pos (by simp; omega)]
      simp
    · rw [if_neg h, wsucc (by omega)]
      exact l24 t n hL m k (i + 1) (by omega) (by omega) fun j hj => by
        by_cases hji : j = i
        · subst hji; exact h
        · exact hb j (by omega)
def ack (t : S49) (n : Int) : Int × S49 := match find t.f1 n with | some j => (0, S49.mk t.f0 (t.f1.drop j) t.f2 t.f3 t.f4) | none => (230, t)
theorem f24 (t : S49) (B : Nat) (h : Inv B t) (n : Int) (k : Nat) (hk : 40 ≤ k) : F24b0.f k t n = some (ack t n) := by
  have hl := h.len
  unfold F24b0.f ack
  have h24 : F24b0.l0 n k t 0 = _ := l24 t n (by omega) t.f1.length k 0 (by omega) (by omega) (fun j hj => by omega)
  rw [h24]
  cases find t.f1 n <;> rfl
theorem f23 (t : S49) (B : Nat) (h : Inv B t) (n : Int) (k : Nat) (hk : 40 ≤ k) : F23b0.f k (toS t) n = some ((ack t n).1, toS (ack t n).2) := by
  have hl := h.len
  unfold F23b0.f
  rw [f60 t B h]
  have h99 : F99b0.l0 (t.f1.map cv) (fun x => F100.f x n) k 0 = _ := l99 t.f1 n (by omega) t.f1.length k 0 (by omega) (by omega) (fun j hj => by omega)
  unfold F61b0.f F99b0.f ack
  simp only [Option.bind_some, Bool.not_true, Bool.false_eq_true, if_false]
  rw [show (toS t).f0 = t.f1.map cv from rfl, h99]
  cases hf : find t.f1 n with
  | none => simp [Out.el]
  | some j =>
    have hj := find_lt hf
    have hs : sub (t.f1.map cv) (j : Int) ((t.f1.map cv).length : Int) = (t.f1.drop j).map cv := by
      unfold sub
      simp only [Int.toNat_natCast]
      rw [List.take_of_length_le (by simp), List.map_drop]
    simp only [Option.bind_some, Out.el]
    rw [if_neg (by omega), if_pos (by simp; omega)]
    simp only [lt]
    rw [hs]
    unfold F62.f
    rw [if_pos (by simp; omega)]
    simp [lt, toS]
theorem ack_inv {t : S49} {B : Nat} (h : Inv B t) (n : Int) : Inv B (ack t n).2 := by
  unfold ack
  cases hf : find t.f1 n with
  | none => exact h
  | some j =>
    have hj := find_lt hf
    have hl := h.len
    exact ⟨by simp; omega, h.clk, h.at_, fun x hx => h.ats x (List.mem_of_mem_drop hx), h.txt, fun x hx => h.txts x (List.mem_of_mem_drop hx)⟩

/-! ### Tick -/
def suf (a b : ByteArray) : ByteArray × Bool := if a.size ≤ b.size ∧ b.extract 0 a.size = a then (b.extract a.size b.size, true) else (⟨#[]⟩, false)
theorem f66 (a b : ByteArray) : F66.f a b = some (suf a b) := by
  unfold F66.f suf
  simp only [lt]
  by_cases h1 : a.size ≤ b.size
  · rw [if_neg (by omega), if_pos (by omega)]
    simp only [Option.bind_some, Int.toNat_natCast, Int.toNat_zero]
    by_cases h2 : b.extract 0 a.size = a
    · rw [if_neg (by simp [h2]), if_pos (by omega), if_pos ⟨h1, h2⟩]
    · rw [if_pos (by simp [h2]), if_neg (by simp [h2])]
  · rw [if_pos (by omega)]
    simp [h1]
theorem suf_size {a b : ByteArray} : (suf a b).1.size ≤ b.size := by
  unfold suf
  split
  · simp
  · show 0 ≤ _; omega
theorem f144 (x y : ByteArray) (h : x.size ≤ 9223372036854775807) : F144.f (S41.mk x) (S41.mk y) = some (if (suf y x).2 = true then (bytesOf (suf y x).1, 0) else ([], 99)) := by
  unfold F144.f
  rw [f66]
  have := suf_size (a := y) (b := x)
  simp only [Option.bind_some]
  cases (suf y x).2
  · simp
  · simp only [Bool.not_true, Bool.false_eq_true, if_false, if_true]
    rw [if_pos (by omega)]; rfl
theorem bytes_len (s : ByteArray) : (bytesOf s).length = s.size := by simp only [bytesOf, List.length_map, Array.length_toList]; rfl
theorem f64 (l : List Int) (h : l.length ≤ 140737488355328) : F64.f l = some l := by
  unfold F64.f
  rw [if_pos (by simpa using h)]
  simp [lt]
def past (now since long : Int) : Bool := decide (IntKind.u64.wrap (now - since) ≥ IntKind.u64.wrap long)
theorem f101 (a b c : Int) : F101.f a b c = some (past a b c) := rfl
theorem f65 {a b c : Int} (h : b ≤ a) : F65.f a b c = some (past a b c) := by
  unfold F65.f past
  simp [lt, h]
def row1 (t : S49) : List S63 := t.f1 ++ [S63.mk (IntKind.u64.wrap ((rd t.f1 ((t.f1.length - 1 : Nat) : Int)).f0 + 1)) t.f0 0]
def fresh (t : S49) (now pace : Int) : Bool := decide (t.f1.length < 32) && ((!t.f2 || past now t.f3 pace) && decide (t.f0 ≠ (rd t.f1 ((t.f1.length - 1 : Nat) : Int)).f1))
def again (t : S49) (now timeout : Int) : Bool := (decide (1 < t.f1.length) && past now (rd t.f1 ((t.f1.length - 1 : Nat) : Int)).f2 timeout) || (!t.f2 || past now t.f3 3000)
theorem f63 (t : S49) (B : Nat) (h : Inv B t) (now b c : Int) : F63b0.f (toS t) now b c = some (if fresh t now b = true then (0, ((t.f1.length : Nat) : Int), (row1 t).map cv) else if again t now c = true then (1, ((t.f1.length - 1 : Nat) : Int), t.f1.map cv) else (0, -1, [])) := by
  have hl := h.len
  have hs : sub (t.f1.map cv) (0 + (0 : Int)) ((0 + (0 : Int)) + (((t.f1.map cv).length : Int) - (0 : Int))) = t.f1.map cv := by
    unfold sub
    rw [show ((0 : Int) + 0).toNat = 0 from rfl, List.drop_zero]
    exact List.take_of_length_le (by omega)
  have hw : IntKind.i64.wrap ((t.f1.length : Int) - 1) = ((t.f1.length - 1 : Nat) : Int) := wpred (by omega) (by omega)
  have hm : rd (t.f1.map cv) ((t.f1.length - 1 : Nat) : Int) = cv (rd t.f1 ((t.f1.length - 1 : Nat) : Int)) := rd_map (by omega)
  have hw2 : IntKind.i64.wrap ((((row1 t).map cv).length : Int) - 1) = ((t.f1.length : Nat) : Int) := by
    rw [wpred (by simp [row1]) (by simp [row1]; omega)]; simp [row1]
  unfold F63b0.f
  rw [show (toS t).f0 = t.f1.map cv from rfl, show (toS t).f1 = S41.mk t.f0 from rfl, show (toS t).f2 = t.f3 from rfl, show (toS t).f3 = t.f2 from rfl]
  rw [hs, List.length_map, hw, hm]
  rw [if_pos (by omega)]
  rw [f145]
  simp only [f101, F143.f, Option.bind_some, cv0, cv2]
  have happ : t.f1.map cv ++ [S128.mk (IntKind.u64.wrap ((rd t.f1 ((t.f1.length - 1 : Nat) : Int)).f0 + 1)) (S41.mk t.f0) 0] = (row1 t).map cv := by simp [row1, cv]
  have e1 : (if (t.f1.length : Int) < 32 then (if (!t.f2) = true then some (!decide (t.f0 = (rd t.f1 ((t.f1.length - 1 : Nat) : Int)).f1)) else if past now t.f3 b = true then some (!decide (t.f0 = (rd t.f1 ((t.f1.length - 1 : Nat) : Int)).f1)) else some false) else some false) = some (fresh t now b) := by
    unfold fresh
    by_cases h1 : t.f1.length < 32
    · rw [if_pos (by omega)]
      cases t.f2 <;> cases past now t.f3 b <;> simp [h1]
    · rw [if_neg (by omega)]; simp [h1]
  have e2 : (if (t.f1.length : Int) > 1 then some (past now (rd t.f1 ((t.f1.length - 1 : Nat) : Int)).f2 c) else some false) = some (decide (1 < t.f1.length) && past now (rd t.f1 ((t.f1.length - 1 : Nat) : Int)).f2 c) := by
    by_cases h1 : 1 < t.f1.length
    · rw [if_pos (by omega)]; simp [h1]
    · rw [if_neg (by omega)]; simp [h1]
  have e3 : (if (!t.f2) = true then some true else some (past now t.f3 3000)) = some (!t.f2 || past now t.f3 3000) := by cases t.f2 <;> simp
  rw [e1]
  simp only [Option.bind_some]
  cases hf : fresh t now b
  · simp only [Bool.false_eq_true, if_false]
    rw [e2]
    simp only [Option.bind_some]
    rw [e3]
    simp only [Option.bind_some, lt]
    unfold again
    cases (decide (1 < t.f1.length) && past now (rd t.f1 ((t.f1.length - 1 : Nat) : Int)).f2 c) <;> cases (!t.f2 || past now t.f3 3000) <;> simp
  · simp only [if_true]
    rw [if_pos (by omega), if_pos (by simp; omega)]
    simp only [lt]
    rw [show (t.f1.map cv ++ [S128.mk (IntKind.u64.wrap ((rd t.f1 ((t.f1.length - 1 : Nat) : Int)).f0 + 1)) (S41.mk t.f0) 0]) = (row1 t).map cv from happ, hw2]

def nil54 : S54 := S54.mk 0 0 0 0 []
def send (t : S49) (now : Int) (L : List S63) : S54 × Bool × Int × S49 :=
  if (suf (rd L 0).f1 (rd L ((L.length - 1 : Nat) : Int)).f1).2 = true then
    (S54.mk (rd L 0).f0 (rd L ((L.length - 1 : Nat) : Int)).f0 0 (rd L 0).f0 (bytesOf (suf (rd L 0).f1 (rd L ((L.length - 1 : Nat) : Int)).f1).1), true, 0,
      S49.mk t.f0 (L.set (L.length - 1) (S63.mk (rd L ((L.length - 1 : Nat) : Int)).f0 (rd L ((L.length - 1 : Nat) : Int)).f1 now)) true now now)
  else (nil54, false, 99, t)
def tick (t : S49) (now b c : Int) : S54 × Bool × Int × S49 :=
  if b < 0 ∨ c < 0 ∨ now < t.f4 then (nil54, false, 2, t)
  else if fresh t now b = true then send t now (row1 t) else if again t now c = true then send t now t.f1 else (nil54, false, 0, S49.mk t.f0 t.f1 t.f2 t.f3 now)
def out25 (r : S54 × Bool × Int × S49) : S54 × Bool × Int × S131 := (r.1, r.2.1, r.2.2.1, toS r.2.2.2)
theorem suf_self (a : ByteArray) : suf a a = (⟨#[]⟩, true) := by
  unfold suf
  rw [if_pos ⟨Nat.le_refl _, by simp⟩]
  congr 1
  apply ByteArray.ext
  simp
theorem send25 (t : S49) (now : Int) (L : List S63) (hL : 1 ≤ L.length ∧ L.length ≤ 33) (hs : ∀ x ∈ L, x.f1.size ≤ 4194304) :
    (if 0 ≤ (0 : Int) ∧ (0 : Int) < ((L.map cv).length : Int) then (if 0 ≤ ((L.length - 1 : Nat) : Int) ∧ ((L.length - 1 : Nat) : Int) < ((L.map cv).length : Int) then ((if ((L.length - 1 : Nat) : Int) > 0 then (if 0 ≤ ((L.length - 1 : Nat) : Int) ∧ ((L.length - 1 : Nat) : Int) < ((L.map cv).length : Int) then ((F144.f ((rd (L.map cv) ((L.length - 1 : Nat) : Int)).f1) ((rd (L.map cv) (0 : Int)).f1)).bind (fun r1175 => if r1175.2 ≠ 0 then (some (Out.ret (((S54.mk 0 0 0 0 ([] : (List Int))), false, r1175.2, toS t)))) else ((F64.f r1175.1).bind (fun r1598 => some (Out.go (S54.mk ((rd (L.map cv) (0 : Int)).f0) ((rd (L.map cv) ((L.length - 1 : Nat) : Int)).f0) 0 ((rd (L.map cv) (0 : Int)).f0) r1598)))))) else none) else (some (Out.go (S54.mk ((rd (L.map cv) (0 : Int)).f0) ((rd (L.map cv) ((L.length - 1 : Nat) : Int)).f0) 0 ((rd (L.map cv) (0 : Int)).f0) ([] : (List Int))))) : Option (Out (S54 × Bool × Int × S131) (S54))).bind (fun t688 => Out.el t688 (fun r_ => some r_) (fun s689 => if 0 ≤ ((L.length - 1 : Nat) : Int) ∧ ((L.length - 1 : Nat) : Int) < ((L.map cv).length : Int) then (lt ((L.map cv).set ((L.length - 1 : Nat) : Int).toNat (S128.mk ((rd (L.map cv) ((L.length - 1 : Nat) : Int)).f0) ((rd (L.map cv) ((L.length - 1 : Nat) : Int)).f1) now)) fun n1607 => (some ((s689, true, (0 : Int), (S131.mk n1607 (toS t).f1 now true now))))) else none))) else none) else none)
    = some (out25 (send t now L)) := by
  have h0 : rd (L.map cv) (0 : Int) = cv (rd L 0) := rd_map (i := 0) (by omega)
  have h1 : rd (L.map cv) ((L.length - 1 : Nat) : Int) = cv (rd L ((L.length - 1 : Nat) : Int)) := rd_map (by omega)
  have hset : ∀ x : S63, (L.map cv).set (L.length - 1) (cv x) = (L.set (L.length - 1) x).map cv := fun x => by rw [List.map_set]
  have hsz := hs _ (rd_mem (L := L) (i := L.length - 1) (by omega))
  have hc : 0 ≤ ((L.length - 1 : Nat) : Int) ∧ ((L.length - 1 : Nat) : Int) < (L.length : Int) := by omega
  rw [h0, h1, cv1, cv1, cv0, cv0, List.length_map, if_pos (by omega), Int.toNat_natCast]
  simp only [if_pos hc]
  have hfin : ∀ x : S54, (lt ((L.map cv).set (L.length - 1) (S128.mk (rd L ((L.length - 1 : Nat) : Int)).f0 (S41.mk (rd L ((L.length - 1 : Nat) : Int)).f1) now)) fun n1607 => (some ((x, true, (0 : Int), (S131.mk n1607 (toS t).f1 now true now))) : Option (S54 × Bool × Int × S131))) = some (out25 (x, true, 0, S49.mk t.f0 (L.set (L.length - 1) (S63.mk (rd L ((L.length - 1 : Nat) : Int)).f0 (rd L ((L.length - 1 : Nat) : Int)).f1 now)) true now now)) := fun x => by
    show some _ = some _
    rw [show S128.mk (rd L ((L.length - 1 : Nat) : Int)).f0 (S41.mk (rd L ((L.length - 1 : Nat) : Int)).f1) now = cv (S63.mk (rd L ((L.length - 1 : Nat) : Int)).f0 (rd L ((L.length - 1 : Nat) : Int)).f1 now) from rfl, hset]
    rfl
  by_cases hi : ((L.length - 1 : Nat) : Int) > 0
  · rw [if_pos hi, f144 _ _ (by omega)]
    unfold send
    have hss := suf_size (a := (rd L 0).f1) (b := (rd L ((L.length - 1 : Nat) : Int)).f1)
    cases hb : (suf (rd L 0).f1 (rd L ((L.length - 1 : Nat) : Int)).f1).2
    · simp [Out.el, out25, nil54]
    · simp only [Option.bind_some, if_true]
      rw [if_neg (by simp), f64 _ (by rw [bytes_len]; omega)]
      simp only [Option.bind_some, Out.el]
      exact hfin _
  · rw [if_neg hi]
    have e : L.length - 1 = 0 := by omega
    unfold send
    rw [e] at hfin ⊢
    rw [show rd L ((0 : Nat) : Int) = rd L 0 from rfl] at hfin ⊢
    rw [suf_self]
    simp only [Option.bind_some, Out.el, if_true]
    exact hfin _
theorem f25 (t : S49) (B : Nat) (hB : B ≤ 4194304) (h : Inv B t) (now b c : Int) : F25b0.f (toS t) now b c = some (out25 (tick t now b c)) := by
  have hl := h.len
  unfold F25b0.f tick
  rw [f60 t B h]
  simp only [Option.bind_some, Bool.not_true, Bool.false_eq_true, if_false, lt]
  rw [show (toS t).f4 = t.f4 from rfl]
  by_cases hc : b < 0 ∨ c < 0 ∨ now < t.f4
  · rw [if_pos (by simp only [Bool.or_eq_true, decide_eq_true_eq]; omega), if_pos hc]; rfl
  · rw [if_neg (by simp only [Bool.or_eq_true, decide_eq_true_eq]; omega), if_neg hc, f63 t B h]
    have hr : (row1 t).length - 1 = t.f1.length := by simp [row1]
    have hrs : ∀ x ∈ row1 t, x.f1.size ≤ 4194304 := fun x hx => by
      unfold row1 at hx
      rcases List.mem_append.1 hx with q | q
      · have := h.txts x q; omega
      · simp at q; subst q; have := h.txt; show t.f0.size ≤ _; omega
    simp only [Option.bind_some]
    cases hf : fresh t now b
    · cases ha : again t now c
      · simp [out25, nil54, toS]
      · simp only [Bool.false_eq_true, if_false, if_true]
        rw [if_neg (by decide), if_neg (by omega)]
        exact send25 t now t.f1 (by omega) fun x hx => by have := h.txts x hx; omega
    · simp only [if_true]
      rw [if_neg (by omega)]
      have := send25 t now (row1 t) (by simp [row1]; omega) hrs
      rw [hr] at this
      exact this

theorem send26 (t : S49) (now : Int) (L : List S63) (hL : 1 ≤ L.length ∧ L.length ≤ 33) (hs : ∀ x ∈ L, x.f1.size ≤ 4194304) :
    (if 0 ≤ (0 : Int) ∧ (0 : Int) < (L.length : Int) then (if 0 ≤ (IntKind.i64.wrap ((L.length : Int) - 1)) ∧ (IntKind.i64.wrap ((L.length : Int) - 1)) < (L.length : Int) then ((F66.f ((rd L (0 : Int)).f1) ((rd L (IntKind.i64.wrap ((L.length : Int) - 1))).f1)).bind (fun r4485 => if (!r4485.2) = true then (some (((S54.mk 0 0 0 0 ([] : (List Int))), false, (99 : Int), t))) else (if 0 ≤ (IntKind.i64.wrap ((L.length : Int) - 1)) ∧ (IntKind.i64.wrap ((L.length : Int) - 1)) < (L.length : Int) then (lt (L.set (IntKind.i64.wrap ((L.length : Int) - 1)).toNat (S63.mk ((rd L (IntKind.i64.wrap ((L.length : Int) - 1))).f0) ((rd L (IntKind.i64.wrap ((L.length : Int) - 1))).f1) now)) fun n5628 => (if 0 ≤ (0 : Int) ∧ (0 : Int) < (n5628.length : Int) then (if 0 ≤ (IntKind.i64.wrap ((n5628.length : Int) - 1)) ∧ (IntKind.i64.wrap ((n5628.length : Int) - 1)) < (n5628.length : Int) then (if 0 ≤ (0 : Int) ∧ (0 : Int) < (n5628.length : Int) then (if r4485.1.size ≤ 9223372036854775807 then lt (bytesOf r4485.1) fun n6652 => (some (((S54.mk ((rd n5628 (0 : Int)).f0) ((rd n5628 (IntKind.i64.wrap ((n5628.length : Int) - 1))).f0) 0 ((rd n5628 (0 : Int)).f0) n6652), true, (0 : Int), (S49.mk t.f0 n5628 true now now)))) else none) else none) else none) else none)) else none))) else none) else none)
    = some (send t now L) := by
  have hsz := hs _ (rd_mem (L := L) (i := L.length - 1) (by omega))
  have hw : IntKind.i64.wrap ((L.length : Int) - 1) = ((L.length - 1 : Nat) : Int) := wpred (by omega) (by omega)
  have hc : 0 ≤ ((L.length - 1 : Nat) : Int) ∧ ((L.length - 1 : Nat) : Int) < (L.length : Int) := by omega
  have h0 : (0 : Int) ≤ 0 ∧ (0 : Int) < (L.length : Int) := by omega
  have hss := suf_size (a := (rd L 0).f1) (b := (rd L ((L.length - 1 : Nat) : Int)).f1)
  rw [hw]
  simp only [lt, List.length_set, if_pos hc, if_pos h0, Int.toNat_natCast, hw, f66, Option.bind_some]
  unfold send
  cases hb : (suf (rd L 0).f1 (rd L ((L.length - 1 : Nat) : Int)).f1).2
  · simp [nil54]
  · rw [if_neg (by simp), if_pos (by omega), if_pos rfl]
    have e1 : (rd (L.set (L.length - 1) (S63.mk (rd L ((L.length - 1 : Nat) : Int)).f0 (rd L ((L.length - 1 : Nat) : Int)).f1 now)) ((L.length - 1 : Nat) : Int)).f0 = (rd L ((L.length - 1 : Nat) : Int)).f0 := by
      rw [rd_lt (by rw [List.length_set]; omega), List.getElem_set_self]
    have e2 : (rd (L.set (L.length - 1) (S63.mk (rd L ((L.length - 1 : Nat) : Int)).f0 (rd L ((L.length - 1 : Nat) : Int)).f1 now)) 0).f0 = (rd L 0).f0 := by
      by_cases h1 : L.length = 1
      · rw [h1] at e1 ⊢; exact e1
      · rw [show (0 : Int) = ((0 : Nat) : Int) from rfl, rd_lt (by rw [List.length_set]; omega), List.getElem_set_ne (by omega)]; exact congrArg S63.f0 (rd_lt (by omega)).symm
    rw [e1, e2]
theorem f26 (t : S49) (B : Nat) (hB : B ≤ 4194304) (h : Inv B t) (now b c : Int) : F26b0.f t now b c = some (tick t now b c) := by
  have hl := h.len
  unfold F26b0.f tick
  simp only [lt]
  by_cases hc : b < 0 ∨ c < 0 ∨ now < t.f4
  · rw [if_pos (by simp only [Bool.or_eq_true, decide_eq_true_eq]; omega), if_pos hc]; rfl
  · have hw : IntKind.i64.wrap ((t.f1.length : Int) - 1) = ((t.f1.length - 1 : Nat) : Int) := wpred (by omega) (by omega)
    have hlast := h.ats _ (rd_mem (L := t.f1) (i := t.f1.length - 1) (by omega))
    have hat := h.at_
    rw [if_neg (by simp only [Bool.or_eq_true, decide_eq_true_eq]; omega), if_neg hc, hw, if_pos (by omega), f65 (by omega), f65 (by omega), f65 (by omega)]
    simp only [Option.bind_some]
    have e1 : (if (rd t.f1 ((t.f1.length - 1 : Nat) : Int)).f1 ≠ t.f0 then (if (t.f1.length : Int) < 32 then (if (!t.f2) = true then some true else some (past now t.f3 b)) else some false) else some false) = some (fresh t now b) := by
      unfold fresh
      by_cases h0 : t.f0 = (rd t.f1 ((t.f1.length - 1 : Nat) : Int)).f1
      · rw [if_neg (by simp [h0])]; simp [h0]
      · rw [if_pos (fun q => h0 q.symm)]
        by_cases h1 : t.f1.length < 32
        · rw [if_pos (by omega)]
          cases t.f2 <;> cases past now t.f3 b <;> simp [h0, h1]
        · rw [if_neg (by omega)]; simp [h1]
    have e2 : (if (t.f1.length : Int) > 1 then some (past now (rd t.f1 ((t.f1.length - 1 : Nat) : Int)).f2 c) else some false) = some (decide (1 < t.f1.length) && past now (rd t.f1 ((t.f1.length - 1 : Nat) : Int)).f2 c) := by
      by_cases h1 : 1 < t.f1.length
      · rw [if_pos (by omega)]; simp [h1]
      · rw [if_neg (by omega)]; simp [h1]
    have e3 : (if (!t.f2) = true then some true else some (past now t.f3 3000)) = some (!t.f2 || past now t.f3 3000) := by cases t.f2 <;> simp
    rw [e1]
    simp only [Option.bind_some]
    rw [e2]
    simp only [Option.bind_some]
    rw [e3]
    simp only [Option.bind_some]
    unfold again
    have s1 := send26 t now t.f1 (by omega) fun x hx => by have := h.txts x hx; omega
    rw [hw] at s1
    have hrs : ∀ x ∈ row1 t, x.f1.size ≤ 4194304 := fun x hx => by
      unfold row1 at hx
      rcases List.mem_append.1 hx with q | q
      · have := h.txts x q; omega
      · simp at q; subst q; have := h.txt; show t.f0.size ≤ _; omega
    have s2 := send26 t now (row1 t) (by simp [row1]; omega) hrs
    cases hf : fresh t now b
    · simp only [Bool.not_false, Bool.true_and, Bool.false_eq_true, if_false]
      generalize (decide (1 < t.f1.length) && past now (rd t.f1 ((t.f1.length - 1 : Nat) : Int)).f2 c) = u
      generalize (!t.f2 || past now t.f3 3000) = v
      cases u <;> cases v <;> simp only [Bool.not_false, Bool.not_true, Bool.and_true, Bool.and_false, Bool.true_and, Bool.false_and, Bool.or_true, Bool.or_false, Bool.false_eq_true, if_false, if_true]
      · rfl
      · exact s1
      · exact s1
      · exact s1
    · simp only [Bool.not_true, Bool.false_and, Bool.false_eq_true, if_false, if_true]
      rw [if_pos (by simp; omega), if_pos (by simp; omega)]
      simp only [List.nil_append, Option.bind_some]
      exact s2
theorem send_inv {t : S49} {B : Nat} {now : Int} {L : List S63} (h : Inv B t) (hn : t.f4 ≤ now ∧ now < 18446744073709551616) (hL : 1 ≤ L.length ∧ L.length ≤ 32) (ha : ∀ x ∈ L, 0 ≤ x.f2 ∧ x.f2 ≤ now) (ht : ∀ x ∈ L, x.f1.size ≤ B) : Inv B (send t now L).2.2.2 := by
  unfold send
  split
  · have hk := h.clk
    have hm := rd_mem (L := L) (i := L.length - 1) (by omega)
    refine ⟨by simpa using hL, ⟨by show 0 ≤ now; omega, by show now < _; omega⟩, ⟨by show 0 ≤ now; omega, Int.le_refl _⟩, fun x hx => ?_, h.txt, fun x hx => ?_⟩
    · rcases List.mem_or_eq_of_mem_set hx with q | q
      · exact ha x q
      · subst q; show 0 ≤ now ∧ now ≤ now; omega
    · rcases List.mem_or_eq_of_mem_set hx with q | q
      · exact ht x q
      · subst q; have := ht _ hm; exact this
  · exact h
theorem tick_inv {t : S49} {B : Nat} (h : Inv B t) {now b c : Int} (hn : now < 18446744073709551616) : Inv B (tick t now b c).2.2.2 := by
  unfold tick
  split
  · exact h
  · rename_i hc
    have hl := h.len
    have hk := h.clk
    have hat := h.at_
    split
    · rename_i hf
      have h32 : t.f1.length < 32 := by
        unfold fresh at hf
        simp only [Bool.and_eq_true, decide_eq_true_eq] at hf
        exact hf.1
      refine send_inv h (by omega) (by simp [row1]; omega) (fun x hx => ?_) (fun x hx => ?_)
      · unfold row1 at hx
        rcases List.mem_append.1 hx with q | q
        · have := h.ats x q; omega
        · simp at q; subst q; show (0 : Int) ≤ 0 ∧ (0 : Int) ≤ now; omega
      · unfold row1 at hx
        rcases List.mem_append.1 hx with q | q
        · exact h.txts x q
        · simp at q; subst q; exact h.txt
    · split
      · exact send_inv h (by omega) hl (fun x hx => by have := h.ats x hx; omega) h.txts
      · exact ⟨hl, ⟨by show 0 ≤ now; omega, hn⟩, ⟨hat.1, by show t.f3 ≤ now; omega⟩, fun x hx => by have := h.ats x hx; show 0 ≤ x.f2 ∧ x.f2 ≤ now; omega, h.txt, h.txts⟩
theorem f27 (x : S54) : F27b0b1.f x x = some true := by
  unfold F27b0b1.f F16b0b1.f
  simp [lt]
end Go.Proofs.Ytodkeoibebimgaa.SqSn

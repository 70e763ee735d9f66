/- Windows: cuts of owned slices, as values; facts out of atoms. -/
import Derived.Test.YtkdakjjockfmdaaGreatDoorSlM
namespace Go.Proofs.YtkdakjjockfmdaaGreatDoor.SL
open Go Go.RowKit
set_option linter.unusedVariables false
set_option linter.unusedSimpArgs false

/-- V is where, of a slice that lies at A, the n elements from l on lie; behind V there is room for v. -/
structure Win (A V : Option Addr) (sz : Nat) (l n : Int) (v : Nat) : Prop where
  lo : 0 ≤ l
  no : 0 ≤ n
  cap : n ≤ (v : Int)
  adr : v = 0 ∨ V = A.map (·.add (l.toNat * sz))

theorem add_zero (a : Addr) : a.add 0 = a := by simp [Addr.add]
theorem Win.whole {α : Type} {A : Option Addr} {sz c : Nat} {xs : List α} (h : xs.length ≤ c) : Win A A sz 0 (xs.length : Int) c :=
  ⟨Int.le_refl 0, by omega, by omega, .inr (by cases A <;> simp [add_zero])⟩
theorem g_nil {β : Type} {x y : Option β} {r : β} (h : y = some r) (e : y = x) : x = some r := e ▸ h
theorem Win.nil {A : Option Addr} {sz : Nat} : Win A none sz 0 0 0 := ⟨Int.le_refl 0, Int.le_refl 0, by omega, .inl rfl⟩
theorem Win.zero {A V : Option Addr} {sz v : Nat} {l n : Int} (w : Win A V sz l n v) : n = 0 ∨ V = A.map (·.add (l.toNat * sz)) := by
  rcases w.adr with q | q
  · have := w.cap; have := w.no; exact .inl (by omega)
  · exact .inr q
theorem Win.sub {A V : Option Addr} {sz : Nat} {l n a b m : Int} {v : Nat} (w : Win A V sz l n v) (ha : 0 ≤ a) (hab : a ≤ b) (hb : b ≤ n) (hm : m = (v : Int) ∨ b ≤ m) (hmv : m ≤ (v : Int)) :
    Win A (slA V a m sz) sz (l + a) (b - a) (m.toNat - a.toNat) := by
  obtain ⟨lo, no, cap, adr⟩ := w
  refine ⟨by omega, by omega, by rcases hm with q | q <;> omega, ?_⟩
  by_cases h : m.toNat - a.toNat = 0
  · exact .inl h
  · right
    rcases adr with q | q
    · omega
    · have : m.toNat ≠ a.toNat := by omega
      simp only [slA, slA.sliced_addr, this, if_false, q]
      cases A with
      | none => rfl
      | some x =>
        simp only [Option.map_some, add_add, Option.some.injEq]
        congr 1
        rw [← Nat.add_mul]; congr 1; omega

section
variable {P : Program} {n : Nat} {Q : PostT} {e : Env} {ds : List Deferred} {As As' : List Asrt} {d : Option Nat} {ty T T' E tx : TypeId} {pos : String} {aft : Array Edge} {g : Option (Nat × Bool)} {x y : Operand} {K : Env → List Deferred → List Asrt → Prop}

theorem BQ_n0s {fn : Func} {R : Value → List Asrt → Prop} {l : List (Nat × Value)} {C : List Asrt} (s : St l C e ds As) (B : List Asrt) (h : fn.results = #[]) (hg : Gh C B) (hR : R (.tuple #[]) B) : BodyQ P fn (Ret R) .normal e ds As := by
  obtain ⟨_, rfl, g⟩ := s
  exact BQ_n0 B h (g.trans hg) hR
theorem SA.fact {c : Code} {p : Prop} (hp : ∀ I h, sepL As I h → p) (k : p → SA P n c Q e ds As) : SA P n c Q e ds As := fun I h a w s r f => k (hp I h s) I h a w s r f
theorem OA.fact {o : Oper} {p : Prop} (hp : ∀ I h, sepL As I h → p) (k : p → OA P n o K Q e ds As) : OA P n o K Q e ds As := fun I h a w s r f => k (hp I h s) I h a w s r f
theorem cap_of {α : Type} {kd : Kd α} {A : Option Addr} {c k : Nat} {xs : List α} (hk : As[k]? = some (Buf kd T A c xs)) : ∀ I h, sepL As I h → xs.length ≤ c := fun I h s => by
  obtain ⟨_, _, ⟨_, _, hc⟩, _⟩ := sepL_at hk s
  rcases hc with ⟨_, _, e⟩ | ⟨_, _, _, _, e, _⟩
  · rw [e]; simp
  · exact e
theorem cap_ofRo {α : Type} {kd : Kd α} {A : Option Addr} {c k : Nat} {xs : List α} (hk : As[k]? = some (Ro kd A c xs)) : ∀ I h, sepL As I h → xs.length ≤ c := fun I h s => by
  obtain ⟨_, _, ⟨hc, _⟩, _⟩ := sepL_at hk s
  exact hc

theorem Src.win {α : Type} {kd : Kd α} {A V : Option Addr} {sz v : Nat} {l m : Int} {xs : List α} (hs : Src kd A xs As) (w : Win A V sz l m v) (hsz : kd.sz = sz) (h : l + m ≤ (xs.length : Int)) : Src kd V (sub xs l (l + m)) As := by
  have adr := w.zero
  obtain ⟨lo, no, cap, _⟩ := w
  intro I hh wd s f
  obtain ⟨cs, hr, hc⟩ := hs I hh wd s f
  have hr2 := RL.sub (kd := kd) l.toNat ((l + m).toNat - l.toNat) hr
  refine ⟨_, hr2, ?_⟩
  rcases adr with q | q
  · left; subst q; simp [sub]
  · rcases hc with hc | ⟨b, off, hA, hv⟩
    · left; subst hc; simp [sub]
    · right
      subst hA; subst hsz
      refine ⟨b, off + l.toNat * kd.sz, by rw [q]; simp [Addr.add_lit], fun j u hj => ?_⟩
      rw [List.getElem?_take] at hj
      split at hj
      · rw [List.getElem?_drop] at hj
        rw [Nat.add_assoc]; exact hv _ u hj
      · cases hj

theorem win_len {α : Type} {xs : List α} {l m : Int} (h0 : 0 ≤ l) (h1 : 0 ≤ m) (h : l + m ≤ (xs.length : Int)) : (sub xs l (l + m)).length = m.toNat := by
  rw [sub_len h0 (by omega) h]; omega
theorem Cpy.win {α : Type} {kd : Kd α} {A V : Option Addr} {sz v : Nat} {l m : Int} {xs : List α} (hs : Src kd A xs As) (w : Win A V sz l m v) (hsz : kd.sz = sz) (h : l + m ≤ (xs.length : Int)) : Cpy P kd (.slice V m.toNat v) (sub xs l (l + m)) As := by
  have := Cpy.slice (P := P) (c := v) (Src.win hs w hsz h)
  rwa [win_len w.lo w.no h] at this
theorem Yld.win {α : Type} {kd : Kd α} {A V : Option Addr} {sz v : Nat} {l m : Int} {xs : List α} {e' : TypeId} (hk : P.underlying tx = some (.slice e')) (hs : Src kd A xs As) (w : Win A V sz l m v) (hsz : kd.sz = sz) (h : l + m ≤ (xs.length : Int)) : Yld P kd tx (.slice V m.toNat v) (sub xs l (l + m)) As := by
  have := Yld.slice (c := v) hk (Src.win hs w hsz h)
  rwa [win_len w.lo w.no h] at this

theorem V_lenW {A V : Option Addr} {sz v : Nat} {l m : Int} (w : Win A V sz l m v) (hu : P.underlying T = some (.slice E)) (hx : ev e x = .slice V m.toNat v) : SL.V P e ⟨d, .call { callee := .builtin .len, args := #[x], argTypes := #[T] }, ty, pos, aft, g⟩ (.int .i64 m) := by
  have := V_len (P := P) (d := d) (ty := ty) (pos := pos) (aft := aft) (g := g) hu hx
  rwa [Int.toNat_of_nonneg w.no] at this

/-- A cut of a window. -/
theorem V_sliceW {A V : Option Addr} {sz v : Nat} {l m a b q : Int} {lo hi mx : Option Operand} {lv hv mv : Option Value} (w : Win A V sz l m v) (hu : P.underlying T = some (.slice E)) (hz : (P.info? E).map (·.size) = some sz) (hx : ev e x = .slice V m.toNat v)
    (hlo : lo.map (ev e) = lv) (hhi : hi.map (ev e) = hv) (hmx : mx.map (ev e) = mv)
    (hl : lv = none ∧ a = 0 ∨ ∃ k, lv = some (.int k a)) (hh : hv = none ∧ mv = none ∧ b = m ∨ ∃ k, hv = some (.int k b)) (hm : mv = none ∧ q = (v : Int) ∨ (∃ k, mv = some (.int k q)) ∧ (∃ k, hv = some (.int k b)) ∧ b ≤ q ∧ q ≤ m)
    (h0 : 0 ≤ a) (h1 : a ≤ b) (h2 : b ≤ m) : SL.V P e ⟨d, .slice T x lo hi mx, ty, pos, aft, g⟩ (.slice (slA V a q sz) (b - a).toNat (q.toNat - a.toNat)) := fun wd => by
  obtain ⟨wl, no, cap, _⟩ := w
  have := V_slice (P := P) (e := e) (d := d) (ty := ty) (pos := pos) (aft := aft) (g := g) (T := T) (h := b) (m := q) hu hz hx hlo hhi hmx ⟨hl, ?_, ?_⟩ h0 h1 ?_ ?_ wd
  · rw [this, show b.toNat - a.toNat = (b - a).toNat from by omega]
  · rcases hh with ⟨p, r, s⟩ | p
    · exact .inl ⟨p, r, by omega⟩
    · exact .inr p
  · rcases hm with ⟨p, r⟩ | ⟨p, r, _, _⟩
    · exact .inl ⟨p, r⟩
    · exact .inr ⟨p, r⟩
  · rcases hm with ⟨_, r⟩ | ⟨_, _, r, _⟩ <;> omega
  · rcases hm with ⟨_, r⟩ | ⟨_, _, _, r⟩ <;> omega

/-- An element's address, through a window. -/
theorem VR_indexW {α : Type} {kd : Kd α} {A V : Option Addr} {sz v : Nat} {l m : Int} {xs : List α} {k : IntKind} {i : Int} (w : Win A V sz l m v) (hu : P.underlying T = some (.slice E)) (hz : (P.info? E).map (·.size) = some sz) (hx : ev e x = .slice V m.toNat v) (hy : ev e y = .int k i)
    (hs : Src kd A xs As) (h0 : 0 ≤ i) (h1 : i < m) (h2 : l + m ≤ (xs.length : Int)) : VR P As e ⟨d, .indexAddr T x y, ty, pos, aft, g⟩ (.pointer (some (el A ((l + i).toNat * sz)))) := by
  have adr := w.zero
  obtain ⟨lo, no, cap, _⟩ := w
  intro I h wd s f
  obtain ⟨cs, hr, hc⟩ := hs I h wd s f
  rcases hc with hc | ⟨b, off, hA, _⟩
  · subst hc; simp at h2; omega
  · subst hA
    rcases adr with q | q
    · omega
    · cases hq : P.info? E with
      | none => simp [hq] at hz
      | some q' =>
        have hz' : q'.size = sz := by simpa [hq] using hz
        have h1' : i < ((m.toNat : Nat) : Int) := by omega
        have e1 : (l + i).toNat * sz = l.toNat * sz + i.toNat * sz := by rw [← Nat.add_mul]; congr 1; omega
        rw [e1]
        generalize m.toNat = N at hx h1'
        simp [execOp, hx, hy, q, Instr.indexAt, asIntOf, run_underlying hu, h0, h1', sizeOf, typeInfo, hq, hz', el, add_add]

/-- copy into a window. -/
theorem OA_copyV {α : Type} {kd : Kd α} {A V : Option Addr} {c k sz v : Nat} {xs ys : List α} {u : Value} {l m : Int} (zs : List α) (hzs : zs = over xs l.toNat (ys.take m.toNat)) (w : Win A V sz l m v) (hd : okDst d n = true) (hu : P.underlying T = some (.slice E)) (hz : (P.info? E).map (·.size) = some sz) (hsz : kd.sz = sz)
    (hk : As[k]? = some (Buf kd T' A c xs)) (hx : ev e x = .slice V m.toNat v) (h2 : l + m ≤ (xs.length : Int)) (hy : ev e y = u) (hs : Cpy P kd u ys As)
    (hK : K (put e d (.int .i64 (minI (ys.length : Int) m))) ds (As.set k (Buf kd T' A c zs))) : OA P n ⟨d, .call { callee := .builtin .copy, args := #[x, y], argTypes := #[T, tx] }, ty, pos, aft, g⟩ K Q e ds As := by
  have adr := w.zero
  obtain ⟨lo, no, cap, _⟩ := w
  refine OA_copy (off := l.toNat) zs (by rw [hzs, copyF_take]) hd hu hz hsz hk hx (fun hp hA => ?_) (by omega) hy hs ?_
  · rcases adr with q | q
    · omega
    · rw [q]
      cases A with
      | none => exact absurd rfl hA
      | some a => simp [el]
  · rw [natMinI, Int.toNat_of_nonneg no]; exact hK
end
end Go.Proofs.YtkdakjjockfmdaaGreatDoor.SL

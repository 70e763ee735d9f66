/- Maps: made, put into, looked up. -/
import Derived.Test.YtkdakjjockfmdaaGreatDoorSlB
import Derived.MapKept
namespace Go.Proofs.YtkdakjjockfmdaaGreatDoor.SL
open Go Go.RowKit
set_option linter.unusedVariables false
set_option linter.unusedSimpArgs false

def mapGet {α β : Type} [DecidableEq α] (es : List (α × β)) (k : α) : Option β := (es.find? fun p => decide (k = p.1)).map (·.2)
def mapPut {α β : Type} [DecidableEq α] : List (α × β) → α → β → List (α × β)
  | [], k, v => [(k, v)]
  | p :: r, k, v => if k = p.1 then (k, v) :: r else p :: mapPut r k v

def MpP {α β : Type} (ek : α → Value) (vv : β → Value) (b : Nat) (es : List (α × β)) (h : Hp) : Prop :=
  ∃ arr clock, h b = some (.map arr clock) ∧ arr.toList.map (fun e => (e.key, e.val)) = es.map fun p => (ek p.1, vv p.2)
/-- A map that is owned. -/
def Mp {α β : Type} (ek : α → Value) (vv : β → Value) (b : Nat) (es : List (α × β)) : Asrt := ⟨fun _ h => MpP ek vv b es h, fun _ p => p, false, fun h => by cases h⟩

/-- Keys of a struct's type: how they are told apart. -/
structure KeyOk {α : Type} [DecidableEq α] (P : Program) (K : TypeId) (ek : α → Value) : Prop where
  eq : ∀ x y w, (Op.equal K (ek x) (ek y)).run P w = .ok (decide (x = y)) w
  now : ∃ td, P.underlying K = some td ∧ ∀ x y, Instr.sameNow td (ek x) (ek y) = none
  chk : ∀ em x w, (Instr.checkKey em 10000 K (ek x)).run P w = .ok () w
  bits : ∀ x, Instr.sameBits 10000 (ek x) (ek x) = true

def idxv {α β : Type} [DecidableEq α] (vv : β → Value) : List (α × β) → α → Nat → Option (Nat × Value)
  | [], _, _ => none
  | p :: r, k, i => if k = p.1 then some (i, vv p.2) else idxv vv r k (i + 1)

section
variable {P : Program} {n : Nat} {Q : PostT} {e : Env} {ds : List Deferred} {As As' : List Asrt} {d : Option Nat} {ty T T' E tx KT : TypeId} {pos : String} {aft : Array Edge} {g : Option (Nat × Bool)} {x y z : Operand} {K : Env → List Deferred → List Asrt → Prop}
variable {α β : Type} [DecidableEq α] {ek : α → Value} {vv : β → Value}

theorem run_findAsking (hk : KeyOk P KT ek) (k : α) (w : World) : ∀ (es : List (α × β)) (l : List MapEntry) (i : Nat), l.map (fun e => (e.key, e.val)) = es.map (fun p => (ek p.1, vv p.2)) → (Instr.findAsking KT (ek k) l i).run P w = .ok (idxv vv es k i) w
  | [], [], i, _ => by simp [Instr.findAsking, idxv]
  | p :: es, [], i, h => by simp at h
  | [], q :: l, i, h => by simp at h
  | p :: es, q :: l, i, h => by
    simp only [List.map_cons, List.cons.injEq, Prod.mk.injEq] at h
    obtain ⟨⟨h1, h2⟩, h3⟩ := h
    have ih := run_findAsking hk k w es l (i + 1) h3
    simp only [Instr.findAsking, Sem.run_bind, h1, hk.eq k p.1 w, Result.andThen_ok, idxv]
    by_cases hp : k = p.1
    · simp [hp, h2]
    · simp [hp, ih]
theorem run_findKey (hk : KeyOk P KT ek) (k : α) (w : World) (es : List (α × β)) (l : List MapEntry) (h : l.map (fun e => (e.key, e.val)) = es.map (fun p => (ek p.1, vv p.2))) : (Instr.findKey KT (ek k) l).run P w = .ok (idxv vv es k 0) w := by
  obtain ⟨td, hu, hn⟩ := hk.now
  unfold Instr.findKey
  simp only [Sem.run_bind, run_underlying hu, Result.andThen_ok]
  cases es with
  | nil =>
    cases l with
    | nil => simp [Instr.findNow, idxv]
    | cons q l => simp at h
  | cons p es =>
    cases l with
    | nil => simp at h
    | cons q l =>
      have h' := h
      simp only [List.map_cons, List.cons.injEq, Prod.mk.injEq] at h'
      have hf : Instr.findNow td (ek k) (q :: l) 0 = none := by
        unfold Instr.findNow
        rw [h'.1.1, hn]
      simp only [hf]
      exact run_findAsking hk k w (p :: es) (q :: l) 0 h
theorem idxv_get (k : α) : ∀ (es : List (α × β)) (i : Nat), (idxv vv es k i).map (·.2) = (mapGet es k).map vv
  | [], i => by simp [idxv, mapGet]
  | p :: es, i => by
    have ih := idxv_get k es (i + 1)
    unfold idxv
    by_cases hp : k = p.1
    · simp [mapGet, hp]
    · rw [if_neg hp, ih]; simp [mapGet, hp]

theorem VR_lookup {k b : Nat} {es : List (α × β)} {key : α} {z0 : β} (hu : P.underlying T = some (.map KT E)) (hz : (P.info? E).bind (·.zero) = some (vv z0)) (hko : KeyOk P KT ek) (hk : As[k]? = some (Mp ek vv b es)) (hx : ev e x = .map (some b)) (hy : ev e y = ek key) :
    VR P As e ⟨d, .lookup T x y true, ty, pos, aft, g⟩ (.tuple #[vv ((mapGet es key).getD z0), .bool (mapGet es key).isSome]) := by
  intro I h w s f
  obtain ⟨h1, l, ⟨arr, clock, hb, hes⟩, _⟩ := sepL_at hk s
  have hh := f.own b _ (l b _ hb)
  have hf := run_findKey hko key w es arr.toList hes
  have hg := idxv_get (vv := vv) key es 0
  cases hq : P.info? E with
  | none => simp [hq] at hz
  | some q =>
    have hz' : q.zero = some (vv z0) := by simpa [hq] using hz
    simp only [execOp, hx, hy, Instr.lookup, Sem.run_bind, run_underlying hu, Result.andThen_ok, run_getObj_map w b arr clock hh, Sem.run_pure, hko.chk, hf]
    cases hm : mapGet es key with
    | none =>
      rw [hm] at hg
      have : idxv vv es key 0 = none := by cases hi : idxv vv es key 0 with
        | none => rfl
        | some r => rw [hi] at hg; simp at hg
      simp [this, zeroValue, typeInfo, hq, hz']
    | some v =>
      rw [hm] at hg
      cases hi : idxv vv es key 0 with
      | none => rw [hi] at hg; simp at hg
      | some r =>
        rw [hi] at hg
        obtain ⟨i, u⟩ := r
        simp at hg
        simp [hg]

theorem idxv_put (k : α) (v : β) : ∀ (es : List (α × β)) (l : List MapEntry) (i : Nat), l.map (fun e => (e.key, e.val)) = es.map (fun p => (ek p.1, vv p.2)) →
    match idxv vv es k i with
    | some (j, _) => ∃ q : Nat, j = i + q ∧ (l[q]?.map (·.key) = some (ek k)) ∧ (l.modify q fun e => { e with key := ek k, val := vv v }).map (fun e => (e.key, e.val)) = (mapPut es k v).map (fun p => (ek p.1, vv p.2))
    | none => l.map (fun e => (e.key, e.val)) ++ [(ek k, vv v)] = (mapPut es k v).map (fun p => (ek p.1, vv p.2))
  | [], [], i, _ => by simp [idxv, mapPut]
  | p :: es, [], i, h => by simp at h
  | [], q :: l, i, h => by simp at h
  | p :: es, q :: l, i, h => by
    simp only [List.map_cons, List.cons.injEq, Prod.mk.injEq] at h
    obtain ⟨⟨h1, h2⟩, h3⟩ := h
    have ih := idxv_put k v es l (i + 1) h3
    unfold idxv
    by_cases hp : k = p.1
    · rw [if_pos hp]
      exact ⟨0, rfl, by simp [h1, hp], by simp [mapPut, hp, h3]⟩
    · rw [if_neg hp]
      cases hi : idxv vv es k (i + 1) with
      | none =>
        rw [hi] at ih
        simp only [mapPut, hp, if_false, List.map_cons, List.cons_append, h1, h2]
        simp only at ih
        rw [ih]
      | some r =>
        rw [hi] at ih
        obtain ⟨j, u⟩ := r
        obtain ⟨m, e1, e2, e3⟩ := ih
        exact ⟨m + 1, by omega, by simpa using e2, by simp [mapPut, hp, h1, h2, e3]⟩

theorem Goes.setObj {I h : Hp} {w : World} (f : Fits I h w) {b : Nat} {ob ob' : Obj} (hg : h b = some ob) : Goes I h w I (fun c => if c = b then some ob' else h c) { w with heap := w.heap.setIfInBounds b ob' } := by
  have hb : b < w.heap.size := lt_of_heap (f.own b _ hg)
  refine ⟨⟨fun c u e => ?_, fun c u e => ?_, fun c u e => ?_⟩, Le.refl I, rfl, rfl, rfl, by simp, fun c hc e => ?_⟩
  · have : c ≠ b := by rintro rfl; rw [f.sep c _ hg] at e; cases e
    show (w.heap.setIfInBounds b ob')[c]? = some u
    rw [Array.getElem?_setIfInBounds_ne (Ne.symm this)]; exact f.imm c u e
  · show (w.heap.setIfInBounds b ob')[c]? = some u
    by_cases hcb : c = b
    · subst hcb; simp at e; subst e; simp [hb]
    · simp [hcb] at e; rw [Array.getElem?_setIfInBounds_ne (Ne.symm hcb)]; exact f.own c u e
  · by_cases hcb : c = b
    · subst hcb; exact f.sep c _ hg
    · simp [hcb] at e; exact f.sep c u e
  · have : c ≠ b := by rintro rfl; rw [hg] at e; cases e
    exact ⟨by show (w.heap.setIfInBounds b ob')[c]? = _; rw [Array.getElem?_setIfInBounds_ne (Ne.symm this)], by simp [this, e], rfl⟩

theorem OA_mapPut {k b : Nat} {es : List (α × β)} {key : α} {v : β} (hd : okDst d n = true) (hu : P.underlying T = some (.map KT E)) (hko : KeyOk P KT ek) (hk : As[k]? = some (Mp ek vv b es)) (hx : ev e x = .map (some b)) (hy : ev e y = ek key) (hz : ev e z = vv v)
    (h : K (put e d undef) ds (As.set k (Mp ek vv b (mapPut es key v)))) : OA P n ⟨d, .mapUpdate T x y z, ty, pos, aft, g⟩ K Q e ds As := by
  intro I h' a w s r f
  obtain ⟨g1, l, ⟨arr, clock, hb, hes⟩, ff⟩ := sepL_at hk s
  have hh' := l b _ hb
  have hh := f.own b _ hh'
  have hf := run_findKey hko key w es arr.toList hes
  have hp := idxv_put (ek := ek) (vv := vv) key v es arr.toList 0 hes
  have fin : ∀ ob', (∃ arr' clock', ob' = .map arr' clock' ∧ arr'.toList.map (fun e => (e.key, e.val)) = (mapPut es key v).map (fun p => (ek p.1, vv p.2))) →
      (execOp (ev e) ⟨d, .mapUpdate T x y z, ty, pos, aft, g⟩).run P w = .ok .skip { w with heap := w.heap.setIfInBounds b ob' } →
      (⟨d, .mapUpdate T x y z, ty, pos, aft, g⟩ : Oper).wp P a w (fun a' w' => ∃ e' ds' As' I' h'', Rel n e' ds' a' ∧ sepL As' I' h'' ∧ Goes I h' w I' h'' w' ∧ K e' ds' As') (PostA n Q I h' w) := by
    rintro ob' ⟨arr', clock', rfl, hes'⟩ hr
    unfold Oper.wp
    rw [r.eval, hr]
    exact ⟨_, ds, _, I, _, r.put hd undef, upd_block (A' := Mp ek vv b (mapPut es key v)) ff hb (show MpP ek vv b _ _ from ⟨arr', clock', by simp [single], hes'⟩), Goes.setObj f hh', h⟩
  cases hi : idxv vv es key 0 with
  | none =>
    rw [hi] at hf hp
    refine fin (.map (arr.push { key := ek key, val := vv v, born := clock }) (clock + 1)) ⟨_, _, rfl, by simpa using hp⟩ ?_
    simp only [execOp, hx, hy, hz, Instr.mapUpdate, Sem.run_bind, run_underlying hu, Result.andThen_ok, run_getObj_map w b arr clock hh, hko.chk, hf, Go.MapKept.run_setObj_map _ hh, Sem.run_pure]
  | some q =>
    obtain ⟨j, u⟩ := q
    rw [hi] at hf hp
    obtain ⟨m, e1, e2, e3⟩ := hp
    rw [Nat.zero_add] at e1
    subst e1
    have ek' : ((arr[j]?).map (·.key)).getD (ek key) = ek key := by
      rw [Array.getElem?_toList] at e2
      rw [e2]; rfl
    refine fin (.map (arr.modify j fun e => { e with key := ek key, val := vv v }) clock) ⟨_, _, rfl, by rw [Array.toList_modify]; exact e3⟩ ?_
    simp only [execOp, hx, hy, hz, Instr.mapUpdate, Sem.run_bind, run_underlying hu, Result.andThen_ok, run_getObj_map w b arr clock hh, hko.chk, hf, ek', Instr.keyThatStays, hko.bits, if_true, Go.MapKept.run_setObj_map _ hh, Sem.run_pure]
end
section
variable {P : Program} {n : Nat} {Q : PostT} {e : Env} {ds : List Deferred} {As : List Asrt} {d : Option Nat} {ty T : TypeId} {pos : String} {aft : Array Edge} {g : Option (Nat × Bool)} {K : Env → List Deferred → List Asrt → Prop} {α β : Type}
theorem OA_makeMap (ek : α → Value) (vv : β → Value) (hd : okDst d n = true) (h : ∀ b, K (put e d (.map (some b))) ds (As ++ [Mp ek vv b []])) : OA P n ⟨d, .makeMap T none, ty, pos, aft, g⟩ K Q e ds As := by
  refine OA_new hd (.map #[] 0) (fun b => .map (some b)) (fun b => Mp ek vv b []) (fun b I _ _ => ⟨#[], 0, by simp [single], rfl⟩) (fun I h' w s f => ?_) h
  simp [execOp, Instr.makeMap]

/-! ### pointers that are told, or nil -/
def ptrV {α : Type} (o : Option α) (b : Nat) : Option Addr := match o with | none => none | some _ => some ⟨b, 0, none⟩
def ptrL {α : Type} (o : Option α) (F : α → List Asrt) : List Asrt := match o with | none => [] | some x => F x
def ptrC {α β : Type} (o : Option α) (x : β) (f : α → β) : β := match o with | none => x | some y => f y
theorem ptrC_n {α β : Type} {o : Option α} {x : Option β} {f : α → Option β} {r : β} (ho : o = none) (h : ptrC o x f = some r) : x = some r := by rw [ho] at h; exact h
theorem ptrC_s {α β : Type} {o : Option α} {y : α} {x : Option β} {f : α → Option β} {r : β} (ho : o = some y) (h : ptrC o x f = some r) : f y = some r := by rw [ho] at h; exact h
theorem ptrV_n {α : Type} {b : Nat} : ptrV (none : Option α) b = none := rfl
theorem ptrV_s {α : Type} {x : α} {b : Nat} : ptrV (some x) b = some ⟨b, 0, none⟩ := rfl
theorem ptrL_n {α : Type} {F : α → List Asrt} : ptrL none F = [] := rfl
theorem ptrL_s {α : Type} {x : α} {F : α → List Asrt} : ptrL (some x) F = F x := rfl
end
end Go.Proofs.YtkdakjjockfmdaaGreatDoor.SL

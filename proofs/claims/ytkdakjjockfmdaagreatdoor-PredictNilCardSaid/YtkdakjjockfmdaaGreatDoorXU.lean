/- A machine that reckons: maps. -/
import Derived.Test.YtkdakjjockfmdaaGreatDoorXM
namespace Go.Proofs.YtkdakjjockfmdaaGreatDoor.XC
open Go Go.RowKit Go.Proofs.YtkdakjjockfmdaaGreatDoor.SL
set_option linter.unusedVariables false
set_option linter.unusedSimpArgs false
section
variable {P : Program} {n : Nat} {ρ : Type} {σ : List Ad} {L : Tr At} {s : St} {I h : Hp} {As : List Asrt} {e : Env} {w : World} {K : SV → St → Option ρ} {r : ρ}
variable {d : Option Nat} {T KT VT ty : TypeId} {x y z : Operand} {pos : String} {aft : Array Edge} {g : Option (Nat × Bool)}

/-- Keys that can be told apart pass the look ahead of a map's work. -/
theorem chk_run (em : Bool) : ∀ (d : Nat) {t : TypeId} {x y : Value} {r : Bool}, eqC P d t x y = some r → ∀ (dd : Nat) (w : World), (Instr.checkKey em (dd + d) t x).run P w = .ok () w
  | 0, _, _, _, _, h, _, _ => by simp [eqC] at h
  | d + 1, t, x, y, r, h, dd, w => by
    have IH := fun {t : TypeId} {x y : Value} {r : Bool} (h : eqC P d t x y = some r) (w : World) => chk_run em d h dd w
    show (Instr.checkKey em ((dd + d) + 1) t x).run P w = _
    unfold eqC at h
    cases hu : P.underlying t with
    | none => simp [hu] at h
    | some td =>
      cases td <;> simp only [hu] at h <;> try (cases h; done)
      case bool => simp [Instr.checkKey, run_underlying hu]
      case int k0 => simp [Instr.checkKey, run_underlying hu]
      case string => simp [Instr.checkKey, run_underlying hu]
      case struct fs =>
        cases x <;> (try simp only at h) <;> try (cases h; done)
        cases y <;> (try simp only at h) <;> try (cases h; done)
        rename_i xs ys
        split at h
        · cases h
        split at h
        case isFalse => cases h
        rename_i hall
        have hall' : ∀ f ∈ fs.toList, f.name ≠ "_" := fun f hf => by
          have := Array.all_eq_true_iff_forall_mem.1 hall f (Array.mem_toList_iff.1 hf)
          simpa using this
        rw [Instr.checkKey]
        simp only [Sem.run_bind, run_underlying hu, Result.andThen_ok]
        rw [← Array.forIn_toList]
        clear hall hu
        generalize fs.toList = l at h hall'
        induction l generalizing r with
        | nil => simp
        | cons f l ih =>
          simp only [List.map_cons, andC, Option.bind_eq_some_iff, Option.map_eq_some_iff] at h
          obtain ⟨a1, ⟨va, h1, vb, h2, h3⟩, b1, h4, rfl⟩ := h
          have hn := hall' f (by simp)
          simp only [List.forIn_cons, Sem.run_bind, hn, ne_eq, not_false_eq_true, if_true, run_partC h1, IH h3, Result.andThen_ok, Sem.run_pure]
          exact ih _ h4 (fun g hg => hall' g (by simp [hg]))
      case array m e =>
        cases x <;> (try simp only at h) <;> try (cases h; done)
        cases y <;> (try simp only at h) <;> try (cases h; done)
        rename_i xs ys
        simp only [Option.bind_eq_some_iff] at h
        obtain ⟨i, hi, h⟩ := h
        rw [Instr.checkKey]
        simp only [Sem.run_bind, run_underlying hu, Result.andThen_ok]
        simp only [Std.Legacy.Range.forIn_eq_forIn_range', Std.Legacy.Range.size, Nat.sub_zero, Nat.add_one_sub_one, Nat.div_one]
        rw [List.range_eq_range'] at h
        clear hu
        generalize List.range' 0 m = l at h
        induction l generalizing r with
        | nil => simp
        | cons j l ih =>
          simp only [List.map_cons, andC, Option.bind_eq_some_iff, Option.map_eq_some_iff] at h
          obtain ⟨a1, ⟨va, h1, vb, h2, h3⟩, b1, h4, rfl⟩ := h
          have hs : (sizeOf e).run P w = .ok i.size w := by simp [sizeOf, typeInfo, hi]
          simp only [List.forIn_cons, Sem.run_bind, hs, run_partC h1, IH h3, Result.andThen_ok, Sem.run_pure]
          exact ih _ h4

theorem eq_run {u v : Value} {b : Bool} (h : eqC P 100 KT u v = some b) (w : World) : (Op.equal KT u v).run P w = .ok b w := eqC_run 100 h 9900 w
/-- The quick way tells the same, or nothing. -/
theorem now_ok {td : TypeDesc} {u v : Value} {b : Bool} (hu : P.underlying KT = some td) (h : eqC P 100 KT u v = some b) : Instr.sameNow td u v = some b ∨ Instr.sameNow td u v = none := by
  unfold eqC at h
  rw [hu] at h
  cases td <;> simp only at h <;> try (cases h; done)
  case bool =>
    cases u <;> (try simp only at h) <;> try (cases h; done)
    cases v <;> (try simp only at h) <;> try (cases h; done)
    cases h; exact .inl rfl
  case int k0 =>
    cases u <;> (try simp only at h) <;> try (cases h; done)
    cases v <;> (try simp only at h) <;> try (cases h; done)
    rename_i k a k' b'
    split at h
    · rename_i hk; cases h; left; simp only [Instr.sameNow, if_pos hk]
    · cases h
  case string =>
    cases u <;> (try simp only at h) <;> try (cases h; done)
    cases v <;> (try simp only at h) <;> try (cases h; done)
    rename_i a b'
    cases h
    left
    have e1 : (a == b') = decide (a = b') := by
      rw [beq_toListBytes]
      by_cases q : a = b'
      · subst q; simp
      · have : ¬ a.toList = b'.toList := fun z => q (toList_inj.1 z)
        simp [q, this]
    simp only [Instr.sameNow, e1]
  case struct fs =>
    cases u <;> (try simp only at h) <;> try (cases h; done)
    cases v <;> (try simp only at h) <;> try (cases h; done)
    exact .inr rfl
  case array m e =>
    cases u <;> (try simp only at h) <;> try (cases h; done)
    cases v <;> (try simp only at h) <;> try (cases h; done)
    exact .inr rfl

theorem VRp.len : ∀ {es : List (SV × SV)} {vs : List (Value × Value)}, VRp σ L I es vs → vs.length = es.length
  | [], _, h => by rw [show _ = [] from h]; rfl
  | (_, _) :: es, _, ⟨_, _, r, e, _, _, h⟩ => by rw [e, List.length_cons, VRp.len h, List.length_cons]
/-- Looking for a key. -/
theorem find_ok {td : TypeDesc} {k : SV} {uk : Value} (hu : P.underlying KT = some td) (hk : VR σ L I k uk) (w : World) : ∀ (es : List (SV × SV)) (vs : List (Value × Value)) (l : List MapEntry) (i : Nat) (o : Option SV), VRp σ L I es vs → l.map (fun e => (e.key, e.val)) = vs → findX P KT k es = some o →
    ∃ q, (Instr.findAsking KT uk l i).run P w = .ok q w ∧ (Instr.findNow td uk l i = none ∨ Instr.findNow td uk l i = some q) ∧ (match o with | none => q = none | some v => ∃ j val, q = some (j, val) ∧ VR σ L I v val)
  | [], vs, l, i, o, hv, hl, hf => by
    cases hv
    have : l = [] := List.map_eq_nil_iff.1 hl
    subst this
    simp only [findX, Option.some.injEq] at hf
    subst hf
    exact ⟨none, by simp [Instr.findAsking], .inr rfl, rfl⟩
  | (k', v') :: es, vs, l, i, o, ⟨u, v, r, e, h1, h2, h3⟩, hl, hf => by
    subst e
    match l, hl with
    | me :: l, hl =>
    simp only [List.map_cons, List.cons.injEq, Prod.mk.injEq] at hl
    obtain ⟨⟨e1, e2⟩, hl⟩ := hl
    unfold findX at hf
    split at hf
    · rename_i hq
      have hc := eqT_ok 100 hq hk h1
      cases hf
      refine ⟨some (i, me.val), ?_, ?_, i, me.val, rfl, by rw [e2]; exact h2⟩
      · simp [Instr.findAsking, e1, eq_run hc w]
      · rcases now_ok hu hc with q | q
        · right; simp only [Instr.findNow, e1, q]
        · left; simp only [Instr.findNow, e1, q]
    · rename_i hq
      have hc := eqT_ok 100 hq hk h1
      obtain ⟨q, p1, p2, p3⟩ := find_ok hu hk w es r l (i + 1) o h3 hl hf
      refine ⟨q, ?_, ?_, p3⟩
      · simp [Instr.findAsking, e1, eq_run hc w, p1]
      · rcases now_ok hu hc with q' | q'
        · simp only [Instr.findNow, e1, q']; exact p2
        · left; simp only [Instr.findNow, e1, q']
    · cases hf
theorem findKey_of {td : TypeDesc} {uk : Value} {l : List MapEntry} {q : Option (Nat × Value)} (hu : P.underlying KT = some td) (h1 : (Instr.findAsking KT uk l 0).run P w = .ok q w) (h2 : Instr.findNow td uk l 0 = none ∨ Instr.findNow td uk l 0 = some q) : (Instr.findKey KT uk l).run P w = .ok q w := by
  unfold Instr.findKey
  simp only [Sem.run_bind, run_underlying hu, Result.andThen_ok]
  rcases h2 with h2 | h2
  · simp only [h2]; exact h1
  · simp only [h2, Sem.run_pure]

theorem sameD_ok {a b : SV} {u v : Value} (h : sameD a b = true) (hu : VR σ L I a u) (hv : VR σ L I b v) : u = v ∧ ∀ m, Instr.sameBits m u u = true := by
  cases a <;> cases b <;> simp only [sameD] at h <;> try (cases h; done)
  case int.int k m k' m' =>
    simp only [Bool.and_eq_true, decide_eq_true_eq] at h
    have hu : u = .int k m := hu
    have hv : v = .int k' m' := hv
    rw [hu, hv, h.1, h.2]
    exact ⟨rfl, fun m => by cases m <;> simp [Instr.sameBits]⟩
  case bool.bool p q =>
    have hu : u = .bool p := hu
    have hv : v = .bool q := hv
    have : p = q := by simpa using h
    rw [hu, hv, this]
    exact ⟨rfl, fun m => by cases m <;> simp [Instr.sameBits]⟩
  case str.str p q =>
    have hu : u = .string p := hu
    have hv : v = .string q := hv
    have : p = q := by simpa using h
    rw [hu, hv, this]
    have e1 : (q == q) = true := by rw [beq_toListBytes]; simp
    exact ⟨rfl, fun m => by cases m <;> simp only [Instr.sameBits, e1]⟩
theorem sameDs_ok : ∀ {a b : List SV} {us vs : List Value}, sameDs a b = true → VRs σ L I a us → VRs σ L I b vs → us = vs ∧ ∀ m, (us.zip us).all (fun (x, y) => Instr.sameBits m x y) = true
  | [], [], us, vs, _, hu, hv => by
    rw [show us = [] from hu, show vs = [] from hv]
    exact ⟨rfl, fun m => rfl⟩
  | a :: as, b :: bs, us, vs, h, ⟨u, r, e1, h1, h2⟩, ⟨v, q, e2, k1, k2⟩ => by
    simp only [sameDs, Bool.and_eq_true] at h
    obtain ⟨p1, p2⟩ := sameD_ok h.1 h1 k1
    obtain ⟨p3, p4⟩ := sameDs_ok h.2 h2 k2
    subst e1 e2
    refine ⟨by rw [p1, p3], fun m => ?_⟩
    simp only [List.zip_cons_cons, List.all_cons, p2 m, Bool.true_and]
    exact p4 m
  | [], _ :: _, _, _, h, _, _ => by cases h
  | _ :: _, [], _, _, h, _, _ => by cases h
theorem sameK_ok {a b : SV} {u v : Value} (h : sameK a b = true) (hu : VR σ L I a u) (hv : VR σ L I b v) : u = v ∧ Instr.sameBits 10000 u u = true := by
  unfold sameK at h
  split at h
  · obtain ⟨us, e1, h1⟩ := hu
    obtain ⟨vs, e2, h2⟩ := hv
    obtain ⟨p1, p2⟩ := sameDs_ok h h1 h2
    subst e1 e2
    refine ⟨by congr 1; exact Array.ext' p1, ?_⟩
    simp only [Instr.sameBits, beq_self_eq_true, Bool.true_and]
    exact p2 9999
  · obtain ⟨p1, p2⟩ := sameD_ok h hu hv
    exact ⟨p1, p2 _⟩
/-- Where a key stands. -/
def posX (P : Program) (KT : TypeId) (k : SV) : List (SV × SV) → Option Nat
  | [] => none
  | (k', _) :: r => match eqT P 100 KT k k' with | some true => some 0 | _ => (posX P KT k r).map (· + 1)
def putV (o : Option Nat) (vs : List (Value × Value)) (p : Value × Value) : List (Value × Value) := match o with | none => vs ++ [p] | some j => vs.set j p
theorem modify_set (uk ux : Value) : ∀ (l : List MapEntry) (j : Nat), ((l.modify j fun e => { e with key := uk, val := ux }).map fun e => (e.key, e.val)) = (l.map fun e => (e.key, e.val)).set j (uk, ux)
  | [], j => by simp
  | m :: l, 0 => by simp
  | m :: l, j + 1 => by simp [modify_set uk ux l j]
/-- Putting one in. -/
theorem put_ok {td : TypeDesc} {k x : SV} {uk ux : Value} (hu : P.underlying KT = some td) (hk : VR σ L I k uk) (hx : VR σ L I x ux) : ∀ (es es' : List (SV × SV)) (vs : List (Value × Value)), VRp σ L I es vs → putX P KT k x es = some es' →
    VRp σ L I es' (putV (posX P KT k es) vs (uk, ux)) ∧ ∀ (l : List MapEntry) (i : Nat) (w : World), l.map (fun e => (e.key, e.val)) = vs → ∃ q, (Instr.findAsking KT uk l i).run P w = .ok q w ∧ (Instr.findNow td uk l i = none ∨ Instr.findNow td uk l i = some q) ∧
      ((q = none ∧ posX P KT k es = none) ∨ ∃ j val, q = some (i + j, val) ∧ posX P KT k es = some j ∧ (l[j]?.map (·.key)) = some uk ∧ Instr.sameBits 10000 uk uk = true)
  | [], es', vs, hv, hf => by
    cases hv
    simp only [putX, Option.some.injEq] at hf
    subst hf
    refine ⟨⟨_, _, [], rfl, hk, hx, rfl⟩, fun l i w hl => ?_⟩
    have : l = [] := List.map_eq_nil_iff.1 hl
    subst this
    exact ⟨none, by simp [Instr.findAsking], .inr rfl, .inl ⟨rfl, rfl⟩⟩
  | (k', v') :: es, es', vs, ⟨u, v, r, e, h1, h2, h3⟩, hf => by
    subst e
    unfold putX at hf
    unfold posX
    split at hf
    · rename_i hq
      have hc := eqT_ok 100 hq hk h1
      cases hs : sameK k' k with
      | false => rw [hs] at hf; cases hf
      | true =>
        rw [hs] at hf
        cases hf
        obtain ⟨p1, p2⟩ := sameK_ok hs h1 hk
        subst p1
        rw [hq]
        refine ⟨⟨u, ux, r, rfl, hk, hx, h3⟩, fun l i w hl => ?_⟩
        match l, hl with
        | me :: l, hl =>
        simp only [List.map_cons, List.cons.injEq, Prod.mk.injEq] at hl
        obtain ⟨⟨e1, e2⟩, hl⟩ := hl
        refine ⟨some (i, me.val), ?_, ?_, .inr ⟨0, me.val, rfl, rfl, by simp [e1], p2⟩⟩
        · simp [Instr.findAsking, e1, eq_run hc w]
        · rcases now_ok hu hc with q | q
          · right; simp only [Instr.findNow, e1, q]
          · left; simp only [Instr.findNow, e1, q]
    · rename_i hq
      have hc := eqT_ok 100 hq hk h1
      split at hf
      · rename_i r' hr'
        cases hf
        obtain ⟨q4, hrun⟩ := put_ok hu hk hx es r' r h3 hr'
        rw [hq]
        refine ⟨?_, fun l i w hl => ?_⟩
        · cases hp : posX P KT k es with
          | none => rw [hp] at q4; exact ⟨u, v, _, rfl, h1, h2, q4⟩
          | some j => rw [hp] at q4; exact ⟨u, v, _, rfl, h1, h2, q4⟩
        · match l, hl with
          | me :: l, hl =>
          simp only [List.map_cons, List.cons.injEq, Prod.mk.injEq] at hl
          obtain ⟨⟨e1, e2⟩, hl⟩ := hl
          obtain ⟨q, p1, p2, p3⟩ := hrun l (i + 1) w hl
          refine ⟨q, ?_, ?_, ?_⟩
          · simp [Instr.findAsking, e1, eq_run hc w, p1]
          · rcases now_ok hu hc with q' | q'
            · simp only [Instr.findNow, e1, q']; exact p2
            · left; simp only [Instr.findNow, e1, q']
          · rcases p3 with ⟨q1, q2⟩ | ⟨j, val, q1, q2, q3, q5⟩
            · exact .inl ⟨q1, by rw [q2]; rfl⟩
            · exact .inr ⟨j + 1, val, by rw [q1]; congr 2; omega, by rw [q2]; rfl, by simpa using q3, q5⟩
      · cases hf
    · cases hf

/-! ### the operations -/
theorem OA_mkMap {Q : PostT} {ds : List Deferred} {K' : Env → List Deferred → List Asrt → Prop} (hd : okDst d n = true) (h' : ∀ b, K' (put e d (.map (some b))) ds (As ++ [MpA b []])) : OA P n ⟨d, .makeMap T none, ty, pos, aft, g⟩ K' Q e ds As := by
  refine OA_new hd (.map #[] 0) (fun b => .map (some b)) (fun b => MpA b []) (fun b I _ _ => ⟨#[], 0, by simp [single], rfl⟩) (fun I h' w s f => ?_) h'
  simp [execOp, Instr.makeMap]
theorem eff_mkMap (S : SR σ s I h As e) (hd : okDst d n = true) (hX : opX P s (.makeMap T none) K = some r) : EffOk P n s ⟨d, .makeMap T none, ty, pos, aft, g⟩ K r σ I h As e := by
  simp only [opX] at hX
  split at hX
  · refine eff_of hX (fun e' ds' As' => ∃ b, e' = put e d (.map (some b)) ∧ As' = As ++ [MpA b []]) S.sep (fun ds => OA_mkMap hd fun b => ⟨rfl, b, rfl, rfl⟩) ?_
    rintro ds e' As2 I' h' hs hI ⟨b, rfl, rfl⟩
    obtain ⟨h1, h2⟩ := S.fresh (ad := ⟨b, none, 0⟩) (at_ := .mp []) (A := MpA b []) hI hs ⟨_, [], S.last _, rfl, rfl⟩
    exact ⟨_, _, _, rfl, ⟨_, S.last _, rfl⟩, h1, h2⟩
  · cases hX
theorem no_len {a0 a1 : At} (h1 : ∀ (t : Ty) E (xs : List t.den), a1 ≠ .buf t E xs ∧ a1 ≠ .fz t E xs) : ∀ (t : Ty) E (xs' : List t.den), (a1 = .buf t E xs' ∨ a1 = .fz t E xs') → ∃ xs : List t.den, (a0 = .buf t E xs ∨ a0 = .fz t E xs) ∧ xs.length = xs'.length := by
  intro t E xs' h
  rcases h with h | h
  · exact absurd h (h1 _ _ _).1
  · exact absurd h (h1 _ _ _).2
theorem OA_mapPut' {Q : PostT} {ds : List Deferred} {K' : Env → List Deferred → List Asrt → Prop} {k b : Nat} {vs vs' : List (Value × Value)} {uk ux : Value} (hd : okDst d n = true) (hu : P.underlying T = some (.map KT VT)) (hk : As[k]? = some (MpA b vs)) (hx : ev e x = .map (some b)) (hy : ev e y = uk) (hz : ev e z = ux)
    (hchk : ∀ w, (Instr.checkKey false 10000 KT uk).run P w = .ok () w)
    (hput : ∀ (l : List MapEntry) w, l.map (fun e => (e.key, e.val)) = vs → ∃ q, (Instr.findKey KT uk l).run P w = .ok q w ∧ ((q = none ∧ vs' = vs ++ [(uk, ux)]) ∨ ∃ j val, q = some (j, val) ∧ (l[j]?.map (·.key)) = some uk ∧ Instr.sameBits 10000 uk uk = true ∧ vs' = ((l.modify j fun e => { e with key := uk, val := ux }).map fun e => (e.key, e.val))))
    (h' : K' (put e d undef) ds (As.set k (MpA b vs'))) : OA P n ⟨d, .mapUpdate T x y z, ty, pos, aft, g⟩ K' Q e ds As := by
  intro I h0 a w s r f
  obtain ⟨g1, l, ⟨arr, clock, hb, hes⟩, ff⟩ := sepL_at hk s
  have hh' := l b _ hb
  have hh := f.own b _ hh'
  have fin : ∀ ob', (∃ arr' clock', ob' = .map arr' clock' ∧ arr'.toList.map (fun e => (e.key, e.val)) = vs') →
      (execOp (ev e) ⟨d, .mapUpdate T x y z, ty, pos, aft, g⟩).run P w = .ok .skip { w with heap := w.heap.setIfInBounds b ob' } →
      (⟨d, .mapUpdate T x y z, ty, pos, aft, g⟩ : Oper).wp P a w (fun a' w' => ∃ e' ds' As' I' h'', Rel n e' ds' a' ∧ sepL As' I' h'' ∧ Goes I h0 w I' h'' w' ∧ K' e' ds' As') (PostA n Q I h0 w) := by
    rintro ob' ⟨arr', clock', rfl, hes'⟩ hr
    unfold Oper.wp
    rw [r.eval, hr]
    exact ⟨_, ds, _, I, _, r.put hd undef, upd_block (A' := MpA b vs') ff hb (show (MpA b vs').P I (single b _) from ⟨arr', clock', by simp [single], hes'⟩), Goes.setObj f hh', h'⟩
  obtain ⟨q, hf, hc⟩ := hput arr.toList w hes
  rcases hc with ⟨rfl, rfl⟩ | ⟨j, val, rfl, e2, hbits, rfl⟩
  · refine fin (.map (arr.push { key := uk, val := ux, born := clock }) (clock + 1)) ⟨_, _, rfl, by simp [hes]⟩ ?_
    simp only [execOp, hx, hy, hz, Instr.mapUpdate, Sem.run_bind, run_underlying hu, Result.andThen_ok, run_getObj_map w b arr clock hh, hchk, hf, Go.MapKept.run_setObj_map _ hh, Sem.run_pure]
  · have ek' : ((arr[j]?).map (·.key)).getD uk = uk := by
      rw [Array.getElem?_toList] at e2
      rw [e2]; rfl
    refine fin (.map (arr.modify j fun e => { e with key := uk, val := ux }) clock) ⟨_, _, rfl, by rw [Array.toList_modify]⟩ ?_
    simp only [execOp, hx, hy, hz, Instr.mapUpdate, Sem.run_bind, run_underlying hu, Result.andThen_ok, run_getObj_map w b arr clock hh, hchk, hf, ek', Instr.keyThatStays, hbits, if_true, Go.MapKept.run_setObj_map _ hh, Sem.run_pure]
theorem mp_at (S : SR σ s I h As e) {k : Nat} {es : List (SV × SV)} (hk : s.L.get k = some (.mp es)) : ∃ a vs, σ[k]? = some a ∧ As[k]? = some (MpA a.b vs) ∧ VRp σ s.L I es vs := by
  obtain ⟨A, hA, a, vs, ha, rfl, hv⟩ := S.at_ k _ hk
  exact ⟨a, vs, ha, hA, hv⟩
theorem eq_some {k : SV} {uk : Value} (hk : VR σ L I k uk) (h : (eqT P 100 KT k k).isSome = true) : ∃ b, eqC P 100 KT uk uk = some b := by
  obtain ⟨b, hb⟩ := Option.isSome_iff_exists.1 h
  exact ⟨b, eqT_ok 100 hb hk hk⟩
theorem und_of_eqC {u v : Value} {b : Bool} (h : eqC P 100 KT u v = some b) : ∃ td, P.underlying KT = some td := by
  unfold eqC at h
  cases hu : P.underlying KT with
  | none => rw [hu] at h; cases h
  | some td => exact ⟨td, rfl⟩
theorem eff_put (S : SR σ s I h As e) (hd : okDst d n = true) (hX : opX P s (.mapUpdate T x y z) K = some r) : EffOk P n s ⟨d, .mapUpdate T x y z, ty, pos, aft, g⟩ K r σ I h As e := by
  have hx := sev_ok S x
  have hy := sev_ok S y
  have hz := sev_ok S z
  simp only [opX] at hX
  split at hX
  · rename_i KT VT k hu hq
    rw [hq] at hx
    split at hX
    · rename_i es hk
      cases hc : (eqT P 100 KT (sev s y) (sev s y)).isSome && SV.val (sev s z) with
      | false => rw [hc] at hX; cases hX
      | true =>
        rw [hc] at hX
        simp only [Bool.and_eq_true] at hc
        simp only [cond_true] at hX
        split at hX
        · rename_i es' hp
          obtain ⟨a, vs, ha, hA, hvs⟩ := mp_at S hk
          obtain ⟨a', ha', hx⟩ := hx
          rw [ha] at ha'; cases ha'
          obtain ⟨b, hb⟩ := eq_some hy hc.1
          obtain ⟨td, htd⟩ := und_of_eqC hb
          obtain ⟨hvs', hrun⟩ := put_ok htd hy hz es es' vs hvs hp
          generalize hvp : putV (posX P KT (sev s y) es) vs (ev e y, ev e z) = vs' at hvs'
          have hput : ∀ (l : List MapEntry) w, l.map (fun e => (e.key, e.val)) = vs → ∃ q, (Instr.findKey KT (ev e y) l).run P w = .ok q w ∧ ((q = none ∧ vs' = vs ++ [(ev e y, ev e z)]) ∨ ∃ j val, q = some (j, val) ∧ (l[j]?.map (·.key)) = some (ev e y) ∧ Instr.sameBits 10000 (ev e y) (ev e y) = true ∧ vs' = ((l.modify j fun m => { m with key := ev e y, val := ev e z }).map fun m => (m.key, m.val))) := by
            intro l w hl
            obtain ⟨q, p1, p2, p3⟩ := hrun l 0 w hl
            refine ⟨q, findKey_of htd p1 p2, ?_⟩
            rcases p3 with ⟨r1, r2⟩ | ⟨j, val, r1, r2, r3, r4⟩
            · exact .inl ⟨r1, by rw [← hvp, r2]; rfl⟩
            · exact .inr ⟨j, val, by rw [r1, Nat.zero_add], r3, r4, by rw [← hvp, r2, modify_set, hl]; rfl⟩
          refine EffAt.ok hX (at_of (fun e' ds' As' => e' = put e d undef ∧ As' = As.set k (MpA a.b vs')) S.sep (fun ds => OA_mapPut' hd hu hA hx rfl rfl (fun w => chk_run false 100 hb 9900 w) hput ⟨rfl, rfl, rfl⟩) ?_)
          rintro ds e' As2 I' h' hs hI ⟨rfl, rfl⟩
          obtain ⟨h1, h2⟩ := S.turn hI hk hs (a1 := .mp es') (no_len fun _ _ _ => ⟨fun q => (by cases q), fun q => (by cases q)⟩) fun L' => .inr fun hL' => by
            subst hL'
            have := hvs'.mono (τ := []) (L' := (s.upd k (.mp es')).L) hI (Lm_upd hk (no_len fun _ _ _ => ⟨fun q => (by cases q), fun q => (by cases q)⟩) _)
            rw [List.append_nil] at this
            exact ⟨a, vs', ha, rfl, this⟩
          exact ⟨_, _, _, rfl, rfl, h1, h2⟩
        · cases hX
    · cases hX
  · cases hX
theorem look_map (S : SR σ s I h As e) (F : Fits I h w) {ok : Bool} (hX : opX P s (.lookup T x y ok) K = some r) : ∃ v u, K v s = some r ∧ VR σ s.L I v u ∧ (execOp (ev e) ⟨d, .lookup T x y ok, ty, pos, aft, g⟩).run P w = .ok (.value u) w := by
  have hx := sev_ok S x
  have hy := sev_ok S y
  simp only [opX] at hX
  split at hX
  · rename_i KT VT hu
    split at hX
    · rename_i es hes
      cases hc : (eqT P 100 KT (sev s y) (sev s y)).isSome with
      | false => rw [hc] at hX; cases hX
      | true =>
      rw [hc] at hX
      simp only [cond_true] at hX
      obtain ⟨b, hb⟩ := eq_some hy hc
      obtain ⟨td, htd⟩ := und_of_eqC hb
      have hchk : ∀ em (w : World), (Instr.checkKey em 10000 KT (ev e y)).run P w = .ok () w := fun em w => chk_run em 100 hb 9900 w
      -- the entries
      have hent : ∃ (arr : Array MapEntry) (vs : List (Value × Value)), VRp σ s.L I es vs ∧ arr.toList.map (fun e => (e.key, e.val)) = vs ∧ ((ev e x = .map none ∧ arr = #[]) ∨ ∃ r clock, ev e x = .map (some r) ∧ w.heap[r]? = some (.map arr clock)) := by
        split at hes
        · rename_i k hq
          rw [hq] at hx
          split at hes
          · rename_i es' hk
            cases hes
            obtain ⟨a, vs, ha, hA, hvs⟩ := mp_at S hk
            obtain ⟨a', ha', hx⟩ := hx
            rw [ha] at ha'; cases ha'
            obtain ⟨h1, l, ⟨arr, clock, hb, he⟩, _⟩ := sepL_at hA S.sep
            exact ⟨arr, vs, hvs, he, .inr ⟨a.b, clock, hx, F.own _ _ (l _ _ hb)⟩⟩
          · cases hes
        · rename_i hq
          cases hes
          rw [hq] at hx
          have hx : ev e x = .map none := hx
          exact ⟨#[], [], rfl, rfl, .inl ⟨hx, rfl⟩⟩
        · cases hes
      obtain ⟨arr, vs, hvs, he, hsrc⟩ := hent
      have fin : ∀ (o : Option SV) (f : Value × Bool → Value), findX P KT (sev s y) es = some o → ∀ zu, (o = none → (zeroValue VT).run P w = .ok zu w) → ∃ vo, (match o with | none => vo = (zu, false) | some v => ∃ val, vo = (val, true) ∧ VR σ s.L I v val) ∧
          (execOp (ev e) ⟨d, .lookup T x y ok, ty, pos, aft, g⟩).run P w = .ok (.value (if ok then .tuple #[vo.1, .bool vo.2] else vo.1)) w := by
        intro o f hf zu hzu
        obtain ⟨q, p1, p2, p3⟩ := find_ok htd hy w es vs arr.toList 0 o hvs he hf
        have hk := findKey_of htd p1 p2
        cases o with
        | none =>
          have hq : q = none := p3
          subst hq
          refine ⟨(zu, false), rfl, ?_⟩
          rcases hsrc with ⟨hs, rfl⟩ | ⟨r, clock, hs, hh⟩
          · simp only [execOp, hs, Instr.lookup, Sem.run_bind, run_underlying hu, Result.andThen_ok, Sem.run_pure, hchk, hk, hzu rfl]
          · simp only [execOp, hs, Instr.lookup, Sem.run_bind, run_underlying hu, Result.andThen_ok, run_getObj_map w r arr clock hh, Sem.run_pure, hchk, hk, hzu rfl]
        | some v =>
          obtain ⟨j, val, hq, hval⟩ := p3
          subst hq
          refine ⟨(val, true), ⟨val, rfl, hval⟩, ?_⟩
          rcases hsrc with ⟨hs, rfl⟩ | ⟨r, clock, hs, hh⟩
          · simp only [execOp, hs, Instr.lookup, Sem.run_bind, run_underlying hu, Result.andThen_ok, Sem.run_pure, hchk, hk]
          · simp only [execOp, hs, Instr.lookup, Sem.run_bind, run_underlying hu, Result.andThen_ok, run_getObj_map w r arr clock hh, Sem.run_pure, hchk, hk]
      split at hX
      · rename_i v hf
        obtain ⟨vo, ⟨val, rfl, hval⟩, hrun⟩ := fin (some v) (fun p => p.1) hf undef (fun q => by cases q)
        cases ok with
        | true => exact ⟨_, _, hX, ⟨#[val, .bool true], rfl, ⟨val, _, rfl, hval, ⟨.bool true, [], rfl, rfl, rfl⟩⟩⟩, hrun⟩
        | false => exact ⟨_, _, hX, hval, hrun⟩
      · rename_i hf
        split at hX
        · rename_i z hz
          have hzr : (zeroValue VT).run P w = .ok z w := by
            unfold zeroV at hz
            cases hi : P.info? VT with
            | none => rw [hi] at hz; cases hz
            | some q =>
              rw [hi] at hz
              have : q.zero = some z := hz
              simp [zeroValue, typeInfo, hi, this]
          obtain ⟨vo, hvo, hrun⟩ := fin none (fun p => p.1) hf z (fun _ => hzr)
          have hvo : vo = (z, false) := hvo
          subst hvo
          cases ok with
          | true => exact ⟨_, _, hX, ⟨#[z, .bool false], rfl, ⟨z, _, rfl, svOf_ok z, ⟨.bool false, [], rfl, rfl, rfl⟩⟩⟩, hrun⟩
          | false => exact ⟨_, _, hX, svOf_ok z, hrun⟩
        · cases hX
      · cases hX
    · cases hX
  · cases hX
theorem OA_range {Q : PostT} {ds : List Deferred} {K' : Env → List Deferred → List Asrt → Prop} {k m : Nat} {vs : List (Value × Value)} (hd : okDst d n = true) (hu : P.underlying T = some (.map KT VT)) (hk : As[k]? = some (MpA m vs)) (hx : ev e x = .map (some m)) (h' : ∀ b, K' (put e d (.pointer (some ⟨b, 0, none⟩))) ds (As ++ [ItA b m])) : OA P n ⟨d, .range T x, ty, pos, aft, g⟩ K' Q e ds As := by
  intro I h0 a w s r f
  obtain ⟨h1, l, ⟨arr, clock, hb, _⟩, _⟩ := sepL_at hk s
  have hh := f.own _ _ (l _ _ hb)
  obtain ⟨gg, sp⟩ := Goes.alloc f (.mapIter (some m) clock #[] clock)
  unfold Oper.wp
  have hrun : (execOp (ev e) ⟨d, .range T x, ty, pos, aft, g⟩).run P w = .ok (.value (.pointer (some ⟨w.heap.size, 0, none⟩))) { w with heap := w.heap.push (.mapIter (some m) clock #[] clock) } := by
    simp only [execOp, hx, Instr.range, Sem.run_bind, run_underlying hu, Result.andThen_ok, run_getObj_map w m arr clock hh, Sem.run_pure]
    rfl
  rw [r.eval, hrun]
  exact ⟨_, ds, _, I, _, r.put hd _, sepL_append ⟨sp.2.1, sp.1, fun b u e => by
    cases q : single w.heap.size (.mapIter (some m) clock #[] clock) b with
    | none => rfl
    | some v => have := sp.2.2 b v q; rw [e] at this; cases this⟩ s (show sepL [ItA w.heap.size m] I _ from ⟨_, fun _ => none, ⟨Le.refl _, (fun _ _ e => by cases e), fun _ _ _ => rfl⟩, ⟨clock, clock, by simp [single]⟩, trivial⟩), gg, h' w.heap.size⟩
theorem eff_range (S : SR σ s I h As e) (hd : okDst d n = true) (hX : opX P s (.range T x) K = some r) : EffOk P n s ⟨d, .range T x, ty, pos, aft, g⟩ K r σ I h As e := by
  have hx := sev_ok S x
  simp only [opX] at hX
  split at hX
  · rename_i KT VT k hu hq
    rw [hq] at hx
    split at hX
    · rename_i es hk
      obtain ⟨a, vs, ha, hA, hvs⟩ := mp_at S hk
      obtain ⟨a', ha', hx⟩ := hx
      rw [ha] at ha'; cases ha'
      refine eff_of hX (fun e' ds' As' => ∃ b, e' = put e d (.pointer (some ⟨b, 0, none⟩)) ∧ As' = As ++ [ItA b a.b]) S.sep (fun ds => OA_range hd hu hA hx fun b => ⟨rfl, b, rfl, rfl⟩) ?_
      rintro ds e' As2 I' h' hs hI ⟨b, rfl, rfl⟩
      obtain ⟨h1, h2⟩ := S.fresh (ad := ⟨b, none, 0⟩) (at_ := .it k) (A := ItA b a.b) hI hs ⟨_, a, S.last _, pre_get ha, rfl⟩
      exact ⟨_, _, _, rfl, ⟨_, S.last _, rfl⟩, h1, h2⟩
    · cases hX
  · cases hX
theorem look_next (S : SR σ s I h As e) (F : Fits I h w) (hX : opX P s (.next x false) K = some r) : ∃ v u, K v s = some r ∧ VR σ s.L I v u ∧ (execOp (ev e) ⟨d, .next x false, ty, pos, aft, g⟩).run P w = .ok (.value u) w := by
  have hx := sev_ok S x
  simp only [opX] at hX
  split at hX
  · rename_i k hq
    rw [hq] at hx
    split at hX
    · rename_i m hk
      split at hX
      · rename_i hm
        obtain ⟨A, hA, a, am, ha, ham, rfl⟩ := S.at_ k _ hk
        obtain ⟨a', ha', hx⟩ := hx
        rw [ha] at ha'; cases ha'
        obtain ⟨h1, l, ⟨since, last, hb⟩, _⟩ := sepL_at hA S.sep
        have hit := F.own _ _ (l _ _ hb)
        obtain ⟨a2, vs, ha2, hA2, hvs⟩ := mp_at S hm
        rw [ham] at ha2; cases ha2
        obtain ⟨h2, l2, ⟨arr, clock, hb2, he⟩, _⟩ := sepL_at hA2 S.sep
        have hmap := F.own _ _ (l2 _ _ hb2)
        have hnil : vs = [] := hvs
        subst hnil
        have harr : arr = #[] := by
          apply Array.ext'
          exact List.map_eq_nil_iff.1 he
        subst harr
        refine ⟨_, .tuple #[.bool false], hX, ⟨_, rfl, ⟨.bool false, [], rfl, rfl, rfl⟩⟩, ?_⟩
        rw [Addr.add_lit, Nat.zero_add] at hx
        have hgo : (getObj a.b).run P w = .ok (.mapIter (some am.b) since #[] last) w := by simp [getObj, Sem.run, hit]
        simp only [execOp, hx, Instr.next, Sem.run_bind, hgo, Result.andThen_ok, run_getObj_map w am.b #[] clock hmap]
        have f1 : ∀ (p : MapEntry → Bool), (#[] : Array MapEntry).filter p = #[] := fun p => rfl
        have f0 : ∀ (p : MapEntry → Bool), Array.filter p (#[] : Array MapEntry) 0 0 = #[] := fun p => rfl
        simp [Sem.run_bind, choose, Sem.run, Question.forced, Result.andThen, f1, f0]
      · cases hX
    · cases hX
  · cases hX
end
end Go.Proofs.YtkdakjjockfmdaaGreatDoor.XC

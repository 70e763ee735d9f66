/- Function values: contracts of what is handed over, frames packed into one atom. -/
import Derived.Test.YtkdakjjockfmdaaGreatDoorSl7
namespace Go.Proofs.YtkdakjjockfmdaaGreatDoor.SL
open Go Go.RowKit
set_option linter.unusedVariables false
set_option linter.unusedSimpArgs false

/-- Many atoms as one. -/
def Pk (Bs : List Asrt) : Asrt := ⟨fun I h => sepL Bs I h, fun hI h => sepL_mono hI h, false, fun h => by cases h⟩

/-- What a function value owes. -/
def FC (P : Program) (fv : Value) (args : List Value) (pre : List Asrt) (R : Value → List Asrt → Prop) : Prop :=
  ∃ (f : FuncId) (fn : Func) (c : Code) (cap : List Value), fv = .func (.func f) #[] cap.toArray ∧ P.funcs[f]? = some fn ∧ (fn.name == "runtime.NumGoroutine") = false ∧ fn.body = some c ∧ SCA P f (args ++ cap).toArray pre R

theorem FC.mono {P : Program} {fv : Value} {args : List Value} {pre : List Asrt} {R R' : Value → List Asrt → Prop} (h : FC P fv args pre R) (hr : ∀ v B, R v B → R' v B) : FC P fv args pre R' := by
  obtain ⟨f, fn, c, cap, h1, h2, h3, h4, h5⟩ := h
  exact ⟨f, fn, c, cap, h1, h2, h3, h4, h5.mono hr⟩

section
variable {P : Program} {n : Nat} {Q : PostT} {e : Env} {ds : List Deferred} {As As' : List Asrt} {d : Option Nat} {ty T T' E tx : TypeId} {pos : String} {aft : Array Edge} {g : Option (Nat × Bool)} {x y z : Operand} {K : Env → List Deferred → List Asrt → Prop}

/-- A closure as a function value: what it captured lies packed in the frame. -/
theorem FC.of {f : FuncId} {fn : Func} {c : Code} {args cap : List Value} {pre0 Bs : List Asrt} {R0 : Value → List Asrt → Prop} (hf : P.funcs[f]? = some fn) (hn : (fn.name == "runtime.NumGoroutine") = false) (hb : fn.body = some c)
    (h : SCA P f (args ++ cap).toArray (pre0 ++ Bs) (fun v B => ∃ B0, R0 v B0 ∧ B = B0 ++ Bs)) : FC P (.func (.func f) #[] cap.toArray) args (pre0 ++ [Pk Bs]) (fun v B => ∃ B0, R0 v B0 ∧ B = B0 ++ [Pk Bs]) := by
  refine ⟨f, fn, c, cap, rfl, hf, hn, hb, ?_⟩
  have hpre : Gh (pre0 ++ [Pk Bs]) (pre0 ++ Bs) := Gh.of fun I h s => by
    obtain ⟨h1, h2, sp, sa, sb⟩ := sepL_split s
    obtain ⟨h3, h4, sp2, sc, _⟩ := sb
    exact sepL_append (sp.of_less (Le.refl _)) sa (sepL_less sp2.1 sc)
  have hpost : ∀ B0 : List Asrt, Gh (B0 ++ Bs) (B0 ++ [Pk Bs]) := fun B0 => Gh.of fun I h s => by
    obtain ⟨h1, h2, sp, sa, sb⟩ := sepL_split s
    exact sepL_append sp sa ⟨h2, fun _ => none, ⟨Le.refl _, (fun _ _ e => by cases e), fun _ _ _ => rfl⟩, sb, trivial⟩
  refine SC.mono (SCA.pre h hpre) fun x As ⟨v, B, hx, hg, B0, hr, hB⟩ => ?_
  subst hB
  exact ⟨v, _, hx, hg.trans (hpost B0), B0, hr, rfl⟩

/-- One that captured nothing. -/
theorem FC.of0 {f : FuncId} {fn : Func} {c : Code} {args : List Value} {pre0 : List Asrt} {R0 : Value → List Asrt → Prop} (hf : P.funcs[f]? = some fn) (hn : (fn.name == "runtime.NumGoroutine") = false) (hb : fn.body = some c)
    (h : SCA P f args.toArray pre0 R0) : FC P (.func (.func f) #[] #[]) args (pre0 ++ [Pk []]) (fun v B => ∃ B0, R0 v B0 ∧ B = B0 ++ [Pk []]) := by
  have := FC.of (P := P) (cap := []) (args := args) (pre0 := pre0) (Bs := []) (R0 := R0) hf hn hb (by
    rw [List.append_nil, List.append_nil]
    exact h.mono fun v B hr => ⟨B, hr, by simp⟩)
  exact this

theorem V_makeFuncL {fn : Fn} {captured : List Operand} {us : List Value} (h : captured.map (ev e) = us) : V P e ⟨d, .makeFunc fn #[] captured.toArray, ty, pos, aft, g⟩ (.func fn #[] us.toArray) :=
  V_makeFunc (by simp) (by simp [h])

theorem OA_callF {t : Nat} {fv : Value} {args : List Operand} {ts : Array TypeId} {vs : List Value} {pre : List Asrt} {R : Value → List Asrt → Prop} (ks rs : List Nat) (hd : okDst d n = true) (ht : e t = fv) (ha : args.map (ev e) = vs)
    (hs : selOk (ks ++ rs) As = true) (hc : FC P fv vs pre R) (hp : sel ks As = pre)
    (h : ∀ v B, R v B → K (put e d v) ds (B ++ sel rs As)) : OA P n ⟨d, .call { callee := .value (.tmp t), args := args.toArray, argTypes := ts }, ty, pos, aft, g⟩ K Q e ds As := by
  obtain ⟨f, fn, c, cap, h1, h2, h3, h4, h5⟩ := hc
  subst h1
  refine OA_callA (args := (vs ++ cap).toArray) ks rs hd ?_ hs h5 hp h
  intro w
  exact X_fnV ht h2 h3 h4 ha w

/-- Atoms packed, and laid open again. -/
theorem gh_pack (ks rs : List Nat) (hs : selOk (ks ++ rs) As = true) : Gh As (Pk (sel ks As) :: sel rs As) := Gh.of fun I h s => by
  have s2 := sepL_sel hs s
  have es : sel (ks ++ rs) As = sel ks As ++ sel rs As := by simp [sel]
  rw [es] at s2
  obtain ⟨h1, h2, sp, sa, sb⟩ := sepL_split s2
  exact ⟨h1, h2, sp, sa, sb⟩
theorem gh_unpack {Bs Cs : List Asrt} {k : Nat} (rs : List Nat) (hk : As[k]? = some (Pk Bs)) (hs : selOk ([k] ++ rs) As = true) : Gh As (Bs ++ sel rs As) := Gh.of fun I h s => by
  have s2 := sepL_sel hs s
  have es : sel ([k] ++ rs) As = Pk Bs :: sel rs As := by simp [sel, hk]
  rw [es] at s2
  obtain ⟨h1, h2, sp, sa, sb⟩ := s2
  exact sepL_append sp sa sb
/-- The call's side: what was packed lies open again. -/
theorem SCA.unpk {f : FuncId} {args : Array Value} {pre0 Bs : List Asrt} {R0 : Value → List Asrt → Prop} (h : SCA P f args (pre0 ++ [Pk Bs]) (fun v B => ∃ B0, R0 v B0 ∧ B = B0 ++ [Pk Bs])) : SCA P f args (pre0 ++ Bs) (fun v B => ∃ B0, R0 v B0 ∧ B = B0 ++ Bs) := by
  have hpre : Gh (pre0 ++ Bs) (pre0 ++ [Pk Bs]) := Gh.of fun I h s => by
    obtain ⟨h1, h2, sp, sa, sb⟩ := sepL_split s
    exact sepL_append sp sa ⟨h2, fun _ => none, ⟨Le.refl _, (fun _ _ e => by cases e), fun _ _ _ => rfl⟩, sb, trivial⟩
  have hpost : ∀ B0 : List Asrt, Gh (B0 ++ [Pk Bs]) (B0 ++ Bs) := fun B0 => Gh.of fun I h s => by
    obtain ⟨h1, h2, sp, sa, sb⟩ := sepL_split s
    obtain ⟨h3, h4, sp2, sc, _⟩ := sb
    exact sepL_append sp sa (sepL_less sp2.1 sc)
  refine SC.mono (SCA.pre h hpre) fun x As ⟨v, B, hx, hg, B0, hr, hB⟩ => ?_
  subst hB
  exact ⟨v, _, hx, hg.trans (hpost B0), B0, hr, rfl⟩
end
end Go.Proofs.YtkdakjjockfmdaaGreatDoor.SL

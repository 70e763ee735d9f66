import Derived.Test.YtckilbegmbaeeaaGreatZ3G
import Derived.Test.YtckilbegmbaeeaaGreatZ3U
namespace Go.Proofs.YtckilbegmbaeeaaGreat.Z3Sc
open Go Go.RowKit Go.Proofs.YtckilbegmbaeeaaGreat.SL Go.Proofs.YtckilbegmbaeeaaGreat.Z3 Go.Proofs.YtckilbegmbaeeaaGreat.Z3May Go.Proofs.YtckilbegmbaeeaaGreat.Z3Ls Go.Proofs.YtckilbegmbaeeaaGreat.Z3Op Go.Proofs.YtckilbegmbaeeaaGreat.Z3Sp
set_option linter.unusedVariables false
set_option linter.unusedSimpArgs false
theorem xW {l : List aZ} (h : ∀ y_ ∈ l,yz y_) : ∀ x ∈ l,fX x:=fun x hx=>by
 have h2:=(h x hx).2.2.1
 simp only [Lit.wf,IntKind.min,IntKind.max,Bool.and_eq_true,decide_eq_true_eq] at h2
 have:=h2.1; have:=h2.2
 constructor <;> (simp [IntKind.signed,IntKind.bits] at *; omega)
theorem gr {g : bF} (h : Au g) : Gr g∧g.f2.length ≤ 2932031007402:=by
 have h1:=h.2.2.1
 exact ⟨⟨by omega,xW h.2.2.2⟩,by omega⟩
theorem xz {a : Int} (h : (Lit.int .i64 a).wf = true) : -9223372036854775808 ≤ a∧a ≤ 9223372036854775807:=by
 simp only [Lit.wf,IntKind.min,IntKind.max,Bool.and_eq_true,decide_eq_true_eq] at h
 have:=h.1; have:=h.2
 constructor <;> (simp [IntKind.signed,IntKind.bits] at *; omega)
theorem yk {s : aG} (h : co s = false) (d : pM) : dD s d = (zS,2):=by
 have hr : ∀ t,fC s t = (zS,2):=fun t=>by unfold fC; rw [h]; rfl
 unfold dD kM
 simp only [hr,h,Bool.false_and,Bool.false_eq_true,if_false,ite_self]
theorem xg {s : aG} (hs : Sg s) (d : pM) : Big (dD s d).1:=by
 cases hm : co s
 ·rw [yk hm]; exact qQ
 ·rcases vP (iL hs hm) d with h | h
  ·exact h.2.big
  ·rw [h.2.1]; exact qQ
theorem mR (s : aG) (h : Big s) (k : Nat) (hk : 40000000000000 ≤ k) : dj.f k s s = some true:=by rw [f10 s s h k hk]; simp
end Go.Proofs.YtckilbegmbaeeaaGreat.Z3Sc

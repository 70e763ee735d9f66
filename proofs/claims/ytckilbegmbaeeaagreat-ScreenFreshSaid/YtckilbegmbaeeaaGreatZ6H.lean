import Derived.Test.YtckilbegmbaeeaaGreatZ6G
import Derived.Test.YtckilbegmbaeeaaGreatZ6U
namespace Go.Proofs.YtckilbegmbaeeaaGreat.Z6Sc
open Go Go.RowKit Go.Proofs.YtckilbegmbaeeaaGreat.SL Go.Proofs.YtckilbegmbaeeaaGreat.Z6 Go.Proofs.YtckilbegmbaeeaaGreat.Z6May Go.Proofs.YtckilbegmbaeeaaGreat.Z6Ls Go.Proofs.YtckilbegmbaeeaaGreat.Z6Op Go.Proofs.YtckilbegmbaeeaaGreat.Z6Sp
set_option linter.unusedVariables false
set_option linter.unusedSimpArgs false
theorem zd {l : List aY} (h : ∀ y_ ∈ l,xt y_) : ∀ x ∈ l,gp x:=fun x hx=>by
 have h2:=(h x hx).2.2.1
 simp only [Lit.wf,IntKind.min,IntKind.max,Bool.and_eq_true,decide_eq_true_eq] at h2
 have:=h2.1; have:=h2.2
 constructor <;> (simp [IntKind.signed,IntKind.bits] at *; omega)
theorem gr {g : bH} (h : vx g) : Gr g∧g.f2.length ≤ 2932031007402:=by
 have a:=h.2.2.1
 exact ⟨⟨by omega,zd h.2.2.2⟩,by omega⟩
theorem yX {s : aJ} (w : xr s) : Sg s∧Big s:=by
 obtain ⟨b,_,_,_,_,_,_,d,_,_,_,_,_,_,_,_,a,c⟩:=w
 have j:=d.1
 have h:=c.1
 exact ⟨⟨(gr b).1,(gr a).1,by omega,by omega⟩,⟨(gr b).2,(gr a).2,by omega,by omega⟩⟩
theorem wM {a : Int} (h : (Lit.int .i64 a).wf = true) : -9223372036854775808 ≤ a∧a ≤ 9223372036854775807:=by
 simp only [Lit.wf,IntKind.min,IntKind.max,Bool.and_eq_true,decide_eq_true_eq] at h
 have:=h.1; have:=h.2
 constructor <;> (simp [IntKind.signed,IntKind.bits] at *; omega)
theorem xO {s : aJ} (h : cx s = false) (d : qG) : dD s d = (zS,2):=by
 have hr : ∀ t,fF s t = (zS,2):=fun t=>by unfold fF; rw [h]; rfl
 unfold dD kH
 simp only [hr,h,Bool.false_and,Bool.false_eq_true,if_false,ite_self]
theorem wH {s : aJ} (hs : Sg s) (d : qG) : Big (dD s d).1:=by
 cases hm : cx s
 ·rw [xO hm]; exact uy
 ·rcases xP (iY hs hm) d with h | h
  ·exact h.2.big
  ·rw [h.2.1]; exact uy
theorem oO (s : aJ) (h : Big s) (k : Nat) (hk : 40000000000000 ≤ k) : db.f k s s = some true:=by rw [f10 s s h k hk]; simp
end Go.Proofs.YtckilbegmbaeeaaGreat.Z6Sc

import Derived.Test.YtckilbegmbaeeaaGreatZ7H
import Derived.Test.YtckilbegmbaeeaaGreatZ7T7
namespace Go.Proofs.YtckilbegmbaeeaaGreat.Z7Pure
open Go Go.RowKit Go.Proofs.YtckilbegmbaeeaaGreat.SL Go.Proofs.YtckilbegmbaeeaaGreat.Z7 Go.Proofs.YtckilbegmbaeeaaGreat.Z7May Go.Proofs.YtckilbegmbaeeaaGreat.Z7Sc
set_option linter.unusedVariables false
set_option linter.unusedSimpArgs false
theorem row (s : aJ) (d : qI) (o : aJ) (w0 : vJ s) (w1 : zm d) (w2 : vJ o) : ∃ k,F7.f k s d o = some true:=by
 obtain ⟨hs,hb⟩:=zj w0
 refine ⟨50000000000000,?_⟩
 generalize hk : (50000000000000 : Nat) = k
 unfold F7.f
 rw [yR s hs d k (by omega),zd s hs d (xd w1.2.1).2 k (by omega)]
 simp only [Option.bind_some]
 rw [sU _ (wV hs d) k (by omega),f74 s hs k (by omega),Ce s hs k (by omega),EK s o hb k (by omega),f10 s o hb k (by omega),f14 k (by omega)]
 simp
end Go.Proofs.YtckilbegmbaeeaaGreat.Z7Pure

import Derived.Test.YtckilbegmbaeeaaGreatZ6H
import Derived.Test.YtckilbegmbaeeaaGreatZ6T6
namespace Go.Proofs.YtckilbegmbaeeaaGreat.Z6Pure
open Go Go.RowKit Go.Proofs.YtckilbegmbaeeaaGreat.SL Go.Proofs.YtckilbegmbaeeaaGreat.Z6 Go.Proofs.YtckilbegmbaeeaaGreat.Z6May Go.Proofs.YtckilbegmbaeeaaGreat.Z6Sp Go.Proofs.YtckilbegmbaeeaaGreat.Z6Sc Go.Proofs.YtckilbegmbaeeaaGreat.Z6Op
set_option linter.unusedVariables false
set_option linter.unusedSimpArgs false
theorem DI (r : aJ × Int) (hr : r.1.f0.f2.length ≤ 2932031007402) : ∀ (m k i : Nat) (Z : List aY),Z.length = r.1.f0.f2.length → i + m = Z.length → m < k → ∃ Y,F6.l0 r k (i : Int) Z = some Y∧Y.length = r.1.f0.f2.length
 | _,0,_,_,_,_,hk=>by omega
 | 0,k + 1,i,Z,hZ,hi,hk=>⟨Z,by rw [F6.l0,if_pos hZ,if_neg (by omega)],hZ⟩
 | m + 1,k + 1,i,Z,hZ,hi,hk=>by
  obtain ⟨Y,a,b⟩:=DI r hr m k (i + 1) (Z.set (i : Int).toNat (aY.mk 1 ((rd Z (i : Int)).f1) ((rd Z (i : Int)).f2) ((rd Z (i : Int)).f3))) (by rw [List.length_set]; exact hZ) (by rw [List.length_set]; omega) (by omega)
  refine ⟨Y,?_,b⟩
  rw [F6.l0,if_pos hZ,if_pos (by omega),if_pos (by omega),gv (by omega)]
  exact a
theorem DJ (r : aJ × Int) (hr : r.1.f16.f2.length ≤ 2932031007402) : ∀ (m k i : Nat) (Z : List aY),Z.length = r.1.f16.f2.length → i + m = Z.length → m < k → ∃ Y,F6.l1 r k (i : Int) Z = some Y∧Y.length = r.1.f16.f2.length
 | _,0,_,_,_,_,hk=>by omega
 | 0,k + 1,i,Z,hZ,hi,hk=>⟨Z,by rw [F6.l1,if_pos hZ,if_neg (by omega)],hZ⟩
 | m + 1,k + 1,i,Z,hZ,hi,hk=>by
  obtain ⟨Y,a,b⟩:=DJ r hr m k (i + 1) (Z.set (i : Int).toNat (aY.mk 2 ((rd Z (i : Int)).f1) ((rd Z (i : Int)).f2) ((rd Z (i : Int)).f3))) (by rw [List.length_set]; exact hZ) (by rw [List.length_set]; omega) (by omega)
  refine ⟨Y,?_,b⟩
  rw [F6.l1,if_pos hZ,if_pos (by omega),if_pos (by omega),gv (by omega)]
  exact a
theorem DK (r : aJ × Int) (hr : r.1.f7.length ≤ 17592186044416) : ∀ (m k i : Nat) (Z : List Int),Z.length = r.1.f7.length → i + m = Z.length → m < k → ∃ Y,F6.l2 r k (i : Int) Z = some Y∧Y.length = r.1.f7.length
 | _,0,_,_,_,_,hk=>by omega
 | 0,k + 1,i,Z,hZ,hi,hk=>⟨Z,by rw [F6.l2,if_pos hZ,if_neg (by omega)],hZ⟩
 | m + 1,k + 1,i,Z,hZ,hi,hk=>by
  obtain ⟨Y,a,b⟩:=DK r hr m k (i + 1) (Z.set (i : Int).toNat (-1)) (by rw [List.length_set]; exact hZ) (by rw [List.length_set]; omega) (by omega)
  refine ⟨Y,?_,b⟩
  rw [F6.l2,if_pos hZ,if_pos (by omega),if_pos (by omega),gv (by omega)]
  exact a
theorem DL (r : aJ × Int) (hr : r.1.f17.length ≤ 35184372088832) : ∀ (m k i : Nat) (Z : List Int),Z.length = r.1.f17.length → i + m = Z.length → m < k → F6.l3 r k (i : Int) Z = some ()
 | _,0,_,_,_,_,hk=>by omega
 | 0,k + 1,i,Z,hZ,hi,hk=>by rw [F6.l3,if_pos hZ,if_neg (by omega)]
 | m + 1,k + 1,i,Z,hZ,hi,hk=>by
  rw [F6.l3,if_pos hZ,if_pos (by omega),if_pos (by omega),gv (by omega)]
  exact DL r hr m k (i + 1) _ (by rw [List.length_set]; exact hZ) (by rw [List.length_set]; omega) (by omega)
theorem row (s : aJ) (d : qG) (w0 : xr s) (w1 : za d) : ∃ k,F6.f k s d = some true:=by
 obtain ⟨hs,hb⟩:=yX w0
 refine ⟨50000000000000,?_⟩
 generalize hk : (50000000000000 : Nat) = k
 unfold F6.f
 have hB:=wH hs d
 obtain ⟨A,a,b⟩:=DI (dD s d) hB.g _ k 0 _ rfl (Nat.zero_add _) (by have:=hB.g; omega)
 obtain ⟨B,c,h⟩:=DJ (dD s d) hB.m _ k 0 _ rfl (Nat.zero_add _) (by have:=hB.m; omega)
 obtain ⟨C,c1,c2⟩:=DK (dD s d) hB.t _ k 0 _ rfl (Nat.zero_add _) (by have:=hB.t; omega)
 have j:=DL (dD s d) hB.u _ k 0 _ rfl (Nat.zero_add _) (by have:=hB.u; omega)
 rw [xZ s hb.g hb.m hb.t hb.u]
 simp only [Option.bind_some]
 rw [yF s hs d k (by omega)]
 simp only [Option.bind_some]
 rw [show F6.l0 (dD s d) k 0 (dD s d).1.f0.f2 = _ from a]
 simp only [Option.bind_some]
 rw [if_pos b,show F6.l1 (dD s d) k 0 (dD s d).1.f16.f2 = _ from c]
 simp only [Option.bind_some]
 rw [if_pos h,show F6.l2 (dD s d) k 0 (dD s d).1.f7 = _ from c1]
 simp only [Option.bind_some]
 rw [if_pos c2,show F6.l3 (dD s d) k 0 (dD s d).1.f17 = _ from j]
 simp only [Option.bind_some]
 rw [yR s hs d (wM w1.2.1).2 k (by omega),f14 k (by omega)]
 simp only [Option.bind_some,if_true]
 rw [oO s hb k (by omega),oO _ hB k (by omega)]
 simp [lt]
end Go.Proofs.YtckilbegmbaeeaaGreat.Z6Pure

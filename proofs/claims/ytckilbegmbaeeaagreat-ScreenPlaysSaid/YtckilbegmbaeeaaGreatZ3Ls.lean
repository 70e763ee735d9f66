import Derived.Test.YtckilbegmbaeeaaGreatZ3
import Derived.Test.YtckilbegmbaeeaaGreatZ3S1
namespace Go.Proofs.YtckilbegmbaeeaaGreat.Z3Ls
open Go Go.RowKit Go.Proofs.YtckilbegmbaeeaaGreat.SL Go.Proofs.YtckilbegmbaeeaaGreat.Z3
set_option linter.unusedVariables false
set_option linter.unusedSimpArgs false
section
variable {α : Type}
theorem dp {xs ys : List α} {o : Nat} (h : o + ys.length ≤ xs.length) (i : Nat) : (bo xs o ys)[i]? = if i < o then xs[i]? else if i < o + ys.length then ys[i - o]? else xs[i]?:=by
 unfold bo
 have h1 : (xs.take o).length = o:=by rw [List.length_take]; omega
 rw [List.append_assoc,List.getElem?_append,h1]
 by_cases hi : i < o
 ·rw [if_pos hi,if_pos hi,List.getElem?_take,if_pos hi]
 ·rw [if_neg hi,if_neg hi,List.getElem?_append]
  by_cases h2 : i < o + ys.length
  ·rw [if_pos (by omega),if_pos h2]
  ·rw [if_neg (by omega),if_neg h2,List.getElem?_drop]
   congr 1; omega
def win (xs : List α) (o n : Nat) : List α:=(xs.drop o).take n
theorem dE {xs : List α} {o n : Nat} (h : o + n ≤ xs.length) : (win xs o n).length = n:=by simp [win]; omega
theorem dX {xs : List α} {o n : Nat} (i : Nat) : (win xs o n)[i]? = if i < n then xs[o + i]? else none:=by
 unfold win; rw [List.getElem?_take]; split <;> simp
theorem ji {xs : List α} (o n : Nat) : sub xs (o : Int) ((o : Int) + (n : Int)) = win xs o n:=by
 unfold sub win
 rw [show ((o : Int) + (n : Int)).toNat - (o : Int).toNat = n from by omega,Int.toNat_natCast]
theorem aM {xs ys : List α} {o : Nat} (h : o + ys.length ≤ xs.length) : (bo xs o ys).length = xs.length:=eM h
theorem jF {xs : List α} {o : Nat} : bo xs o [] = xs:=by simp [bo]
theorem gv {X ys : List α} {o a n : Nat} (h1 : a + ys.length ≤ n) (h2 : o + n ≤ X.length) : bo X (o + a) ys = bo X o (bo (win X o n) a ys):=by
 have hw:=dE h2
 have hl : (bo (win X o n) a ys).length = n:=by rw [aM (by omega),hw]
 apply List.ext_getElem?
 intro i
 have e1:=dp (xs:=X) (ys:=ys) (o:=o + a) (by omega) i
 have e2:=dp (xs:=X) (ys:=bo (win X o n) a ys) (o:=o) (by omega) i
 have e3:=dp (xs:=win X o n) (ys:=ys) (o:=a) (by omega) (i - o)
 rw [e1,e2,hl]
 by_cases c1 : i < o
 ·rw [if_pos (by omega),if_pos c1]
 ·rw [if_neg c1]
  by_cases c2 : i < o + n
  ·rw [if_pos c2,e3,dX,if_pos (show i - o < n by omega),show o + (i - o) = i from by omega,show i - o - a = i - (o + a) from by omega]
   simp only [show (i - o < a) ↔ (i < o + a) from by omega,show (i - o < a + ys.length) ↔ (i < o + a + ys.length) from by omega]
  ·rw [if_neg c2,if_neg (by omega),if_neg (by omega)]
theorem kz {X R : List α} {o n : Nat} (h1 : R.length = n) (h2 : o + n ≤ X.length) : win (bo X o R) o n = R:=by
 apply List.ext_getElem?
 intro i
 rw [dX,dp (by omega)]
 by_cases c : i < n
 ·rw [if_pos c,if_neg (by omega),if_pos (by omega)]; congr 1; omega
 ·rw [if_neg c,List.getElem?_eq_none (by omega)]
theorem nf {X R R' : List α} {o : Nat} (h1 : R.length = R'.length) (h2 : o + R.length ≤ X.length) : bo (bo X o R) o R' = bo X o R':=by
 apply List.ext_getElem?
 intro i
 rw [dp (by rw [aM h2]; omega),dp h2,dp (by omega)]
 by_cases c1 : i < o
 ·simp [c1]
 ·by_cases c2 : i < o + R'.length
  ·simp [c1,c2]
  ·simp [c1,c2,h1]
theorem kH {X R : List α} {o n o' : Nat} (h : o + n ≤ X.length) (h1 : R.length = n) (h2 : o' + n ≤ o ∨ o + n ≤ o') : win (bo X o R) o' n = win X o' n:=by
 apply List.ext_getElem?
 intro i
 rw [dX,dX]
 by_cases c : i < n
 ·rw [if_pos c,if_pos c,dp (by omega)]
  rcases h2 with h2 | h2
  ·rw [if_pos (by omega)]
  ·rw [if_neg (by omega),if_neg (by omega)]
 ·rw [if_neg c,if_neg c]
theorem jt {X ys : List α} {o : Nat} {y : α} (h : o + ys.length < X.length) : (bo X o ys).set (o + ys.length) y = bo X o (ys ++ [y]):=by
 apply List.ext_getElem?
 intro i
 rw [List.getElem?_set,aM (by omega),dp (by omega),dp (by simp; omega),List.length_append,List.length_singleton]
 by_cases c1 : i < o
 ·rw [if_neg (by omega),if_pos c1,if_pos c1]
 ·rw [if_neg c1,if_neg c1]
  by_cases c2 : o + ys.length = i
  ·rw [if_pos c2,if_pos (by omega),if_pos (by omega),List.getElem?_append_right (by omega),show i - o - ys.length = 0 from by omega]; rfl
  ·rw [if_neg c2]
   by_cases c3 : i < o + ys.length
   ·rw [if_pos c3,if_pos (by omega),List.getElem?_append_left (by omega)]
   ·rw [if_neg c3,if_neg (by omega)]
theorem oQ {X ys : List α} {o : Nat} {y : α} (h : o + ys.length < X.length) (hy : X[o + ys.length]? = some y) : bo X o (ys ++ [y]) = bo X o ys:=by
 apply List.ext_getElem?
 intro i
 have e1:=dp (xs:=X) (ys:=ys) (o:=o) (by omega) i
 have e2:=dp (xs:=X) (ys:=ys ++ [y]) (o:=o) (by simp; omega) i
 rw [e1,e2,List.length_append,List.length_singleton]
 by_cases c1 : i < o
 ·rw [if_pos c1,if_pos c1]
 ·rw [if_neg c1,if_neg c1]
  by_cases c3 : i < o + ys.length
  ·rw [if_pos c3,if_pos (by omega),List.getElem?_append_left (by omega)]
  ·rw [if_neg c3]
   by_cases c2 : i < o + (ys.length + 1)
   ·rw [if_pos c2,List.getElem?_append_right (by omega),show i - o - ys.length = 0 from by omega,show i = o + ys.length from by omega,hy]; rfl
   ·rw [if_neg c2]
theorem jT {f : Nat → α} {n i : Nat} (h : i < n) : ((List.range n).map f).take (i + 1) = ((List.range n).map f).take i ++ [f i]:=by
 rw [← List.map_take,← List.map_take,List.take_range,List.take_range,show min (i + 1) n = min i n + 1 from by omega,List.range_succ,List.map_append,show min i n = i from by omega]; rfl
theorem lC [Inhabited α] {xs : List α} {i : Int} {y : α} (h0 : 0 ≤ i) (h : xs[i.toNat]? = some y) : rd xs i = y:=by
 unfold rd; rw [List.getD_eq_getElem?_getD,h]; rfl
theorem iD [Inhabited α] {xs : List α} {i : Nat} (h : i < xs.length) : xs[i]? = some (rd xs (i : Int)):=by rw [eQ h,List.getElem?_eq_getElem h]
theorem lU [Inhabited α] {xs : List α} {o n i : Nat} (h : i < n) (h2 : o + n ≤ xs.length) : rd (win xs o n) (i : Int) = rd xs ((o : Int) + (i : Int)):=by
 refine lC (by omega) ?_
 rw [Int.toNat_natCast,dX,if_pos h,iD (by omega)]; congr 2
theorem oG [Inhabited α] {X ys : List α} {o i : Nat} (h : o + ys.length ≤ i) (h2 : i < X.length) : rd (bo X o ys) (i : Int) = rd X (i : Int):=by
 refine lC (by omega) ?_
 rw [Int.toNat_natCast,dp (by omega),if_neg (by omega),if_neg (by omega),iD h2]
theorem rh [Inhabited α] {X ys : List α} {o i : Nat} (h : i < ys.length) (h2 : o + ys.length ≤ X.length) : rd (bo X o ys) ((o + i : Nat) : Int) = rd ys (i : Int):=by
 refine lC (by omega) ?_
 rw [Int.toNat_natCast,dp (by omega),if_neg (by omega),if_pos (by omega),show o + i - o = i from by omega,iD h]
def dC (W : List α) (d : Int) (b : α) : List α:=(List.range W.length).map fun (j : Nat)=>if 0 ≤ (j : Int) + d∧(j : Int) + d < (W.length : Int) then W.getD ((j : Int) + d).toNat b else b
theorem dF {W : List α} {d : Int} {b : α} : (dC W d b).length = W.length:=by simp [dC]
theorem lE {W : List α} {d : Int} {b : α} {j : Nat} (h : j < W.length) : (dC W d b)[j]? = some (if 0 ≤ (j : Int) + d∧(j : Int) + d < (W.length : Int) then W.getD ((j : Int) + d).toNat b else b):=by
 unfold dC; rw [List.getElem?_map,List.getElem?_range h]; rfl
theorem tu {W : List α} {e : Nat} {b : α} (h : e ≤ W.length) : bo (bo W 0 (W.drop e)) (W.length - e) (List.replicate e b) = dC W (e : Int) b:=by
 have h1 : (bo W 0 (W.drop e)).length = W.length:=aM (by simp)
 apply List.ext_getElem?
 intro i
 by_cases hi : i < W.length
 ·rw [lE hi,dp (by rw [h1]; simp; omega),dp (by simp),List.length_replicate,List.length_drop]
  by_cases c : i < W.length - e
  ·rw [if_pos c,if_neg (by omega),if_pos (by omega),if_pos (by omega),List.getElem?_drop,show ((i : Int) + (e : Int)).toNat = e + (i - 0) from by omega,List.getD_eq_getElem?_getD,List.getElem?_eq_getElem (by omega)]; rfl
  ·rw [if_neg c,if_pos (by omega),if_neg (by omega),List.getElem?_replicate,if_pos (by omega)]
 ·rw [List.getElem?_eq_none (by rw [aM (by rw [h1]; simp; omega),h1]; omega),List.getElem?_eq_none (by rw [dF]; omega)]
theorem qP {W : List α} {e : Nat} {b : α} (h : e ≤ W.length) : bo (bo W e (W.take (W.length - e))) 0 (List.replicate e b) = dC W (-(e : Int)) b:=by
 have h1 : (bo W e (W.take (W.length - e))).length = W.length:=aM (by rw [List.length_take]; omega)
 apply List.ext_getElem?
 intro i
 by_cases hi : i < W.length
 ·rw [lE hi,dp (by rw [h1]; simp; omega),dp (by rw [List.length_take]; omega),List.length_replicate,List.length_take]
  by_cases c : i < e
  ·rw [if_neg (by omega),if_pos (by omega),if_neg (by omega),List.getElem?_replicate,if_pos (by omega)]
  ·rw [if_neg (by omega),if_neg (by omega),if_neg c,if_pos (by omega),if_pos (by omega),List.getElem?_take,if_pos (by omega),show ((i : Int) + -(e : Int)).toNat = i - e from by omega,List.getD_eq_getElem?_getD,List.getElem?_eq_getElem (by omega)]; rfl
 ·rw [List.getElem?_eq_none (by rw [aM (by rw [h1]; simp; omega),h1]; omega),List.getElem?_eq_none (by rw [dF]; omega)]
end
end Go.Proofs.YtckilbegmbaeeaaGreat.Z3Ls

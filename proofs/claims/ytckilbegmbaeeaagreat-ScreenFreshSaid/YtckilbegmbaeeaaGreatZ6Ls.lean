import Derived.Test.YtckilbegmbaeeaaGreatZ6
import Derived.Test.YtckilbegmbaeeaaGreatZ6S1
namespace Go.Proofs.YtckilbegmbaeeaaGreat.Z6Ls
open Go Go.RowKit Go.Proofs.YtckilbegmbaeeaaGreat.SL Go.Proofs.YtckilbegmbaeeaaGreat.Z6
set_option linter.unusedVariables false
set_option linter.unusedSimpArgs false
section
variable {α : Type}
theorem dx {xs ys : List α} {o : Nat} (h : o + ys.length ≤ xs.length) (i : Nat) : (bB xs o ys)[i]? = if i < o then xs[i]? else if i < o + ys.length then ys[i - o]? else xs[i]?:=by
 unfold bB
 have a : (xs.take o).length = o:=by rw [List.length_take]; omega
 rw [List.append_assoc,List.getElem?_append,a]
 by_cases hi : i < o
 ·rw [if_pos hi,if_pos hi,List.getElem?_take,if_pos hi]
 ·rw [if_neg hi,if_neg hi,List.getElem?_append]
  by_cases h2 : i < o + ys.length
  ·rw [if_pos (by omega),if_pos h2]
  ·rw [if_neg (by omega),if_neg h2,List.getElem?_drop]
   congr 1; omega
def win (xs : List α) (o n : Nat) : List α:=(xs.drop o).take n
theorem dW {xs : List α} {o n : Nat} (h : o + n ≤ xs.length) : (win xs o n).length = n:=by simp [win]; omega
theorem er {xs : List α} {o n : Nat} (i : Nat) : (win xs o n)[i]? = if i < n then xs[o + i]? else none:=by
 unfold win; rw [List.getElem?_take]; split <;> simp
theorem jk {xs : List α} (o n : Nat) : sub xs (o : Int) ((o : Int) + (n : Int)) = win xs o n:=by
 unfold sub win
 rw [show ((o : Int) + (n : Int)).toNat - (o : Int).toNat = n from by omega,Int.toNat_natCast]
theorem aU {xs ys : List α} {o : Nat} (h : o + ys.length ≤ xs.length) : (bB xs o ys).length = xs.length:=eR h
theorem jz {xs : List α} {o : Nat} : bB xs o [] = xs:=by simp [bB]
theorem gA {X ys : List α} {o a n : Nat} (h1 : a + ys.length ≤ n) (h2 : o + n ≤ X.length) : bB X (o + a) ys = bB X o (bB (win X o n) a ys):=by
 have hw:=dW h2
 have hl : (bB (win X o n) a ys).length = n:=by rw [aU (by omega),hw]
 apply List.ext_getElem?
 intro i
 have b:=dx (xs:=X) (ys:=ys) (o:=o + a) (by omega) i
 have c:=dx (xs:=X) (ys:=bB (win X o n) a ys) (o:=o) (by omega) i
 have d:=dx (xs:=win X o n) (ys:=ys) (o:=a) (by omega) (i - o)
 rw [b,c,hl]
 by_cases c1 : i < o
 ·rw [if_pos (by omega),if_pos c1]
 ·rw [if_neg c1]
  by_cases c2 : i < o + n
  ·rw [if_pos c2,d,er,if_pos (show i - o < n by omega),show o + (i - o) = i from by omega,show i - o - a = i - (o + a) from by omega]
   simp only [show (i - o < a) ↔ (i < o + a) from by omega,show (i - o < a + ys.length) ↔ (i < o + a + ys.length) from by omega]
  ·rw [if_neg c2,if_neg (by omega),if_neg (by omega)]
theorem kx {X R : List α} {o n : Nat} (h1 : R.length = n) (h2 : o + n ≤ X.length) : win (bB X o R) o n = R:=by
 apply List.ext_getElem?
 intro i
 rw [er,dx (by omega)]
 by_cases c : i < n
 ·rw [if_pos c,if_neg (by omega),if_pos (by omega)]; congr 1; omega
 ·rw [if_neg c,List.getElem?_eq_none (by omega)]
theorem mW {X R R' : List α} {o : Nat} (h1 : R.length = R'.length) (h2 : o + R.length ≤ X.length) : bB (bB X o R) o R' = bB X o R':=by
 apply List.ext_getElem?
 intro i
 rw [dx (by rw [aU h2]; omega),dx h2,dx (by omega)]
 by_cases c1 : i < o
 ·simp [c1]
 ·by_cases c2 : i < o + R'.length
  ·simp [c1,c2]
  ·simp [c1,c2,h1]
theorem kP {X R : List α} {o n o' : Nat} (h : o + n ≤ X.length) (h1 : R.length = n) (h2 : o' + n ≤ o ∨ o + n ≤ o') : win (bB X o R) o' n = win X o' n:=by
 apply List.ext_getElem?
 intro i
 rw [er,er]
 by_cases c : i < n
 ·rw [if_pos c,if_pos c,dx (by omega)]
  rcases h2 with h2 | h2
  ·rw [if_pos (by omega)]
  ·rw [if_neg (by omega),if_neg (by omega)]
 ·rw [if_neg c,if_neg c]
theorem jA {X ys : List α} {o : Nat} {y : α} (h : o + ys.length < X.length) : (bB X o ys).set (o + ys.length) y = bB X o (ys ++ [y]):=by
 apply List.ext_getElem?
 intro i
 rw [List.getElem?_set,aU (by omega),dx (by omega),dx (by simp; omega),List.length_append,List.length_singleton]
 by_cases c1 : i < o
 ·rw [if_neg (by omega),if_pos c1,if_pos c1]
 ·rw [if_neg c1,if_neg c1]
  by_cases c2 : o + ys.length = i
  ·rw [if_pos c2,if_pos (by omega),if_pos (by omega),List.getElem?_append_right (by omega),show i - o - ys.length = 0 from by omega]; rfl
  ·rw [if_neg c2]
   by_cases c3 : i < o + ys.length
   ·rw [if_pos c3,if_pos (by omega),List.getElem?_append_left (by omega)]
   ·rw [if_neg c3,if_neg (by omega)]
theorem oJ {X ys : List α} {o : Nat} {y : α} (h : o + ys.length < X.length) (hy : X[o + ys.length]? = some y) : bB X o (ys ++ [y]) = bB X o ys:=by
 apply List.ext_getElem?
 intro i
 have a:=dx (xs:=X) (ys:=ys) (o:=o) (by omega) i
 have b:=dx (xs:=X) (ys:=ys ++ [y]) (o:=o) (by simp; omega) i
 rw [a,b,List.length_append,List.length_singleton]
 by_cases c1 : i < o
 ·rw [if_pos c1,if_pos c1]
 ·rw [if_neg c1,if_neg c1]
  by_cases c3 : i < o + ys.length
  ·rw [if_pos c3,if_pos (by omega),List.getElem?_append_left (by omega)]
  ·rw [if_neg c3]
   by_cases c2 : i < o + (ys.length + 1)
   ·rw [if_pos c2,List.getElem?_append_right (by omega),show i - o - ys.length = 0 from by omega,show i = o + ys.length from by omega,hy]; rfl
   ·rw [if_neg c2]
theorem jS {f : Nat → α} {n i : Nat} (h : i < n) : ((List.range n).map f).take (i + 1) = ((List.range n).map f).take i ++ [f i]:=by
 rw [← List.map_take,← List.map_take,List.take_range,List.take_range,show min (i + 1) n = min i n + 1 from by omega,List.range_succ,List.map_append,show min i n = i from by omega]; rfl
theorem lL [Inhabited α] {xs : List α} {i : Int} {y : α} (h0 : 0 ≤ i) (h : xs[i.toNat]? = some y) : rd xs i = y:=by
 unfold rd; rw [List.getD_eq_getElem?_getD,h]; rfl
theorem iH [Inhabited α] {xs : List α} {i : Nat} (h : i < xs.length) : xs[i]? = some (rd xs (i : Int)):=by rw [fa h,List.getElem?_eq_getElem h]
theorem md [Inhabited α] {xs : List α} {o n i : Nat} (h : i < n) (h2 : o + n ≤ xs.length) : rd (win xs o n) (i : Int) = rd xs ((o : Int) + (i : Int)):=by
 refine lL (by omega) ?_
 rw [Int.toNat_natCast,er,if_pos h,iH (by omega)]; congr 2
theorem ox [Inhabited α] {X ys : List α} {o i : Nat} (h : o + ys.length ≤ i) (h2 : i < X.length) : rd (bB X o ys) (i : Int) = rd X (i : Int):=by
 refine lL (by omega) ?_
 rw [Int.toNat_natCast,dx (by omega),if_neg (by omega),if_neg (by omega),iH h2]
theorem rm [Inhabited α] {X ys : List α} {o i : Nat} (h : i < ys.length) (h2 : o + ys.length ≤ X.length) : rd (bB X o ys) ((o + i : Nat) : Int) = rd ys (i : Int):=by
 refine lL (by omega) ?_
 rw [Int.toNat_natCast,dx (by omega),if_neg (by omega),if_pos (by omega),show o + i - o = i from by omega,iH h]
def dV (W : List α) (d : Int) (b : α) : List α:=(List.range W.length).map fun (j : Nat)=>if 0 ≤ (j : Int) + d∧(j : Int) + d < (W.length : Int) then W.getD ((j : Int) + d).toNat b else b
theorem dY {W : List α} {d : Int} {b : α} : (dV W d b).length = W.length:=by simp [dV]
theorem lN {W : List α} {d : Int} {b : α} {j : Nat} (h : j < W.length) : (dV W d b)[j]? = some (if 0 ≤ (j : Int) + d∧(j : Int) + d < (W.length : Int) then W.getD ((j : Int) + d).toNat b else b):=by
 unfold dV; rw [List.getElem?_map,List.getElem?_range h]; rfl
theorem uo {W : List α} {e : Nat} {b : α} (h : e ≤ W.length) : bB (bB W 0 (W.drop e)) (W.length - e) (List.replicate e b) = dV W (e : Int) b:=by
 have a : (bB W 0 (W.drop e)).length = W.length:=aU (by simp)
 apply List.ext_getElem?
 intro i
 by_cases hi : i < W.length
 ·rw [lN hi,dx (by rw [a]; simp; omega),dx (by simp),List.length_replicate,List.length_drop]
  by_cases c : i < W.length - e
  ·rw [if_pos c,if_neg (by omega),if_pos (by omega),if_pos (by omega),List.getElem?_drop,show ((i : Int) + (e : Int)).toNat = e + (i - 0) from by omega,List.getD_eq_getElem?_getD,List.getElem?_eq_getElem (by omega)]; rfl
  ·rw [if_neg c,if_pos (by omega),if_neg (by omega),List.getElem?_replicate,if_pos (by omega)]
 ·rw [List.getElem?_eq_none (by rw [aU (by rw [a]; simp; omega),a]; omega),List.getElem?_eq_none (by rw [dY]; omega)]
theorem rB {W : List α} {e : Nat} {b : α} (h : e ≤ W.length) : bB (bB W e (W.take (W.length - e))) 0 (List.replicate e b) = dV W (-(e : Int)) b:=by
 have a : (bB W e (W.take (W.length - e))).length = W.length:=aU (by rw [List.length_take]; omega)
 apply List.ext_getElem?
 intro i
 by_cases hi : i < W.length
 ·rw [lN hi,dx (by rw [a]; simp; omega),dx (by rw [List.length_take]; omega),List.length_replicate,List.length_take]
  by_cases c : i < e
  ·rw [if_neg (by omega),if_pos (by omega),if_neg (by omega),List.getElem?_replicate,if_pos (by omega)]
  ·rw [if_neg (by omega),if_neg (by omega),if_neg c,if_pos (by omega),if_pos (by omega),List.getElem?_take,if_pos (by omega),show ((i : Int) + -(e : Int)).toNat = i - e from by omega,List.getD_eq_getElem?_getD,List.getElem?_eq_getElem (by omega)]; rfl
 ·rw [List.getElem?_eq_none (by rw [aU (by rw [a]; simp; omega),a]; omega),List.getElem?_eq_none (by rw [dY]; omega)]
end
end Go.Proofs.YtckilbegmbaeeaaGreat.Z6Ls

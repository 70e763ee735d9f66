import Derived.Test.YtckilbegmbaeeaaGreatZ6May
import Derived.Test.YtckilbegmbaeeaaGreatZ6Ls
namespace Go.Proofs.YtckilbegmbaeeaaGreat.Z6Op
open Go Go.RowKit Go.Proofs.YtckilbegmbaeeaaGreat.SL Go.Proofs.YtckilbegmbaeeaaGreat.Z6 Go.Proofs.YtckilbegmbaeeaaGreat.Z6May Go.Proofs.YtckilbegmbaeeaaGreat.Z6Ls
set_option linter.unusedVariables false
set_option linter.unusedSimpArgs false
def eL (s : cM) : aY:=aY.mk 32 (fX.mk 0 0 0) 1 (cM.mk (-1) s.f1 false false false false false false false false)
theorem wI (s : cM) : nA.f s = some (eL s):=rfl
theorem xB (s : cM) : pE.f s = some (eL s):=rfl
theorem gv {i : Nat} (h : i < 4611686018427387904) : IntKind.i64.wrap ((i : Int) + 1) = ((i + 1 : Nat) : Int):=by rw [eV (by omega) (by omega)]; rfl
theorem yh (X : List aY) (o n : Nat) (b : aY) (h : o + n ≤ X.length) (hb : X.length < 4611686018427387904) : ∀ (m k i : Nat),i + m = n → m < k →
  eY.l0 X (o : Int) (n : Int) b k (i : Int) (bB X o (List.replicate i b)) = some (bB X o (List.replicate n b))
 | 0,0,_,_,hk=>by omega
 | 0,k + 1,i,hi,hk=>by
  rw [eY.l0,if_pos (by rw [aU (by simp; omega)]),if_neg (by omega)]
  rw [show i = n from by omega]
 | m + 1,0,_,_,hk=>by omega
 | m + 1,k + 1,i,hi,hk=>by
  rw [eY.l0,if_pos (by rw [aU (by simp; omega)]),if_pos (by omega),if_pos (by omega)]
  simp only [lt]
  rw [gv (by omega)]
  have e : ((o : Int) + (i : Int)).toNat = o + (List.replicate i b).length:=by simp; omega
  rw [e,jA (by simp; omega),← List.replicate_succ']
  exact yh X o n b h hb m k (i + 1) (by omega) (by omega)
theorem tB (X : List aY) (o n : Nat) (s : cM) (h : o + n ≤ X.length) (hb : X.length < 4611686018427387904) (k : Nat) (hk : n < k) :
  eY.f k X (o : Int) (n : Int) s = some (bB X o (List.replicate n (eL s))):=by
 unfold eY.f
 rw [if_pos (by omega),wI]
 have:=yh X o n (eL s) h hb n k 0 (by omega) hk
 rw [List.replicate_zero,jz] at this
 simp only [Option.bind_some]
 rw [show (0 : Int) = ((0 : Nat) : Int) from rfl,this]
 simp only [Option.bind_some]
 rw [if_pos (aU (by simp; omega))]
def nw (W : List aY) (i : Int) (w : Int) (s : cM) : Bool:=decide (0 ≤ i∧i < (W.length : Int)∧(rd W i).f2 = w∧(rd W i).f3 = s)
def iV (W : List aY) (i : Nat) : Bool :=
 (decide ((rd W (i : Int)).f2 = 2) && !nw W ((i : Int) + 1) 0 (rd W (i : Int)).f3) || (decide ((rd W (i : Int)).f2 = 0) && !nw W ((i : Int) - 1) 2 (rd W (i : Int)).f3)
def ey (W : List aY) (i : Nat) : aY:=if iV W i = true then eL (rd W (i : Int)).f3 else rd W (i : Int)
def co (W : List aY) : List aY:=(List.range W.length).map (ey W)
theorem cL {W : List aY} : (co W).length = W.length:=by simp [co]
theorem mE {W : List aY} {i : Nat} (h : i < W.length) : rd (co W) (i : Int) = ey W i:=by
 refine lL (by omega) ?_
 rw [Int.toNat_natCast,co,List.getElem?_map,List.getElem?_range h]; rfl
theorem xS (a w : Int) (s : cM) (Z : List aY) (o n : Nat) (h : o + n ≤ Z.length) :
  iq.f a w s Z (o : Int) (n : Int) = some (decide (0 ≤ a∧a < (n : Int)∧(rd Z ((o : Int) + a)).f2 = w∧(rd Z ((o : Int) + a)).f3 = s)):=by
 unfold iq.f
 rw [if_pos (by omega)]
 by_cases c : a ≥ 0
 ·rw [if_pos c]
  by_cases h2 : a < (n : Int)
  ·rw [if_pos h2,if_pos (by omega)]
   by_cases b : (rd Z ((o : Int) + a)).f2 = w
   ·rw [if_pos b,if_pos (by omega)]
    simp only [show (0 : Int) ≤ a from c,h2,b,true_and]
   ·rw [if_neg b]; simp [b]
  ·rw [if_neg h2]; simp [h2]
 ·rw [if_neg c]
  have : ¬ (0 : Int) ≤ a:=by omega
  simp [this]
theorem xK {W : List aY} {i : Nat} (hi : i < W.length) (h0 : 0 < i) (h2 : (rd W (i : Int)).f2 = 0) :
  ((ey W (i - 1)).f2 = 2∧(ey W (i - 1)).f3 = (rd W (i : Int)).f3) ↔ ((rd W (((i - 1 : Nat)) : Int)).f2 = 2∧(rd W ((i - 1 : Nat) : Int)).f3 = (rd W (i : Int)).f3):=by
 unfold ey
 by_cases hb : iV W (i - 1) = true
 ·rw [if_pos hb]
  constructor
  ·rintro ⟨h,_⟩; simp [eL] at h
  ·rintro ⟨h,h'⟩
   exfalso
   unfold iV at hb
   rw [show (((i - 1 : Nat) : Int) + 1) = (i : Int) from by omega] at hb
   simp [h,nw,hi,h2,h'] at hb
 ·rw [if_neg hb]
theorem DO (X : List aY) (o n : Nat) (h : o + n ≤ X.length) (hb : X.length < 4611686018427387904) (W : List aY) (hW : W = win X o n) : ∀ (m k i : Nat),i + m = n → m < k →
  ei.l0 X (o : Int) (n : Int) k (i : Int) (bB X o ((co W).take i)) = some (bB X o (co W))
 | 0,0,_,_,hk=>by omega
 | 0,k + 1,i,hi,hk=>by
  have hl : W.length = n:=by rw [hW]; exact dW h
  have ht : ((co W).take i).length = i:=by rw [List.length_take,cL]; omega
  rw [ei.l0,if_pos (aU (by omega)),if_neg (by omega),List.take_of_length_le (by rw [cL]; omega)]
 | m + 1,0,_,_,hk=>by omega
 | m + 1,k + 1,i,hi,hk=>by
  have hl : W.length = n:=by rw [hW]; exact dW h
  have ht : ((co W).take i).length = i:=by rw [List.length_take,cL]; omega
  have hZ : (bB X o ((co W).take i)).length = X.length:=aU (by omega)
  have hrd : ∀ j : Nat,i ≤ j → j < n → rd (bB X o ((co W).take i)) ((o : Int) + (j : Int)) = rd W (j : Int):=fun j c h2=>by
   rw [show (o : Int) + (j : Int) = ((o + j : Nat) : Int) from by omega,ox (by omega) (by omega),hW,md h2 h]; congr 1
  have hbf : ∀ j : Nat,j < i → rd (bB X o ((co W).take i)) ((o : Int) + (j : Int)) = ey W j:=fun j c=>by
   rw [show (o : Int) + (j : Int) = ((o + j : Nat) : Int) from by omega,rm (by omega) (by omega)]
   refine lL (by omega) ?_
   rw [Int.toNat_natCast,List.getElem?_take,if_pos c,co,List.getElem?_map,List.getElem?_range (by omega)]; rfl
  rw [ei.l0,if_pos hZ,if_pos (by omega),if_pos (by omega)]
  rw [hrd i (Nat.le_refl _) (by omega),gv (by omega)]
  have r : iq.f ((i + 1 : Nat) : Int) 0 (rd W (i : Int)).f3 (bB X o ((co W).take i)) (o : Int) (n : Int) = some (nw W ((i : Int) + 1) 0 (rd W (i : Int)).f3):=by
   rw [xS _ _ _ _ _ _ (by omega),nw,hl]
   congr 1
   by_cases hc : i + 1 < n
   ·rw [hrd (i + 1) (by omega) hc]; rfl
   ·simp [show ¬ ((i : Int) + 1 < (n : Int)) from by omega]
  have s : (rd W (i : Int)).f2 = 0 → iq.f (IntKind.i64.wrap ((i : Int) - 1)) 2 (rd W (i : Int)).f3 (bB X o ((co W).take i)) (o : Int) (n : Int) = some (nw W ((i : Int) - 1) 2 (rd W (i : Int)).f3):=fun u=>by
   rw [eV (by omega) (by omega),xS _ _ _ _ _ _ (by omega),nw,hl]
   congr 1
   by_cases hc : 0 < i
   ·have:=xK (W:=W) (i:=i) (by omega) hc u
    rw [show (i : Int) - 1 = ((i - 1 : Nat) : Int) from by omega,hbf (i - 1) (by omega)]
    simp only [this]
   ·obtain rfl : i = 0:=by omega
    simp
  have hcond : ((if (rd W (i : Int)).f2 = 2 then ((iq.f ((i + 1 : Nat) : Int) 0 (rd W (i : Int)).f3 (bB X o ((co W).take i)) (o : Int) (n : Int)).bind (fun p=>some (!p))) else (some false) : Option Bool).bind (fun d=>(if d = true then (some true) else (if (rd W (i : Int)).f2 = 0 then ((iq.f (IntKind.i64.wrap ((i : Int) - 1)) 2 (rd W (i : Int)).f3 (bB X o ((co W).take i)) (o : Int) (n : Int)).bind (fun q=>some (!q))) else (some false)) : Option Bool))) = some (iV W i):=by
   unfold iV
   by_cases c2 : (rd W (i : Int)).f2 = 2
   ·rw [if_pos c2,r]; simp only [Option.bind_some,c2]
    cases nw W ((i : Int) + 1) 0 (rd W (i : Int)).f3 <;> simp
   ·rw [if_neg c2]
    by_cases c0 : (rd W (i : Int)).f2 = 0
    ·simp only [Option.bind_some,c0,if_true,s c0]; simp
    ·simp [c2,c0]
  have hassoc:=congrArg (fun z : Option Bool=>z.bind (fun l=>if l = true then ((nA.f (rd W (i : Int)).f3).bind (fun b=>if (0 : Int) ≤ (i : Int)∧(i : Int) < (n : Int) then (lt ((bB X o ((co W).take i)).set ((o : Int) + (i : Int)).toNat b) fun a=>(ei.l0 X (o : Int) (n : Int) k ((i + 1 : Nat) : Int) a)) else none)) else (ei.l0 X (o : Int) (n : Int) k ((i + 1 : Nat) : Int) (bB X o ((co W).take i))))) hcond
  simp only [Option.bind_assoc] at hassoc
  refine hassoc.trans ?_
  have hnext : bB X o ((co W).take (i + 1)) = (if iV W i = true then (bB X o ((co W).take i)).set (o + i) (eL (rd W (i : Int)).f3) else bB X o ((co W).take i)):=by
   have hs : (co W).take (i + 1) = (co W).take i ++ [ey W i]:=jS (by omega)
   rw [hs]
   by_cases hbd : iV W i = true
   ·rw [if_pos hbd,ey,if_pos hbd]
    have:=jA (X:=X) (ys:=(co W).take i) (o:=o) (y:=eL (rd W (i : Int)).f3) (by omega)
    rw [ht] at this; exact this.symm
   ·rw [if_neg hbd]
    refine oJ (by omega) ?_
    rw [ht,ey,if_neg hbd,hW,md (by omega) h,show (o : Int) + (i : Int) = ((o + i : Nat) : Int) from by omega]
    exact iH (by omega)
  simp only [Option.bind_some]
  have ih:=DO X o n h hb W hW m k (i + 1) (by omega) (by omega)
  rw [hnext] at ih
  by_cases hbd : iV W i = true
  ·rw [if_pos hbd,wI]
   simp only [Option.bind_some,lt]
   rw [if_pos (by omega),show ((o : Int) + (i : Int)).toNat = o + i from by omega]
   rw [if_pos hbd] at ih; exact ih
  ·rw [if_neg hbd]
   rw [if_neg hbd] at ih; exact ih
theorem xD (X : List aY) (o n : Nat) (h : o + n ≤ X.length) (hb : X.length < 4611686018427387904) (k : Nat) (hk : n < k) : ei.f k X (o : Int) (n : Int) = some (bB X o (co (win X o n))):=by
 have hl : (win X o n).length = n:=dW h
 have:=DO X o n h hb _ rfl n k 0 (by omega) hk
 rw [List.take_zero,jz] at this
 unfold ei.f
 rw [if_pos (by omega),show (0 : Int) = ((0 : Nat) : Int) from rfl,this]
 simp only [Option.bind_some]
 rw [if_pos (aU (by rw [cL]; omega))]
end Go.Proofs.YtckilbegmbaeeaaGreat.Z6Op
namespace Go.Proofs.YtckilbegmbaeeaaGreat.Z6Op
open Go Go.RowKit Go.Proofs.YtckilbegmbaeeaaGreat.SL Go.Proofs.YtckilbegmbaeeaaGreat.Z6 Go.Proofs.YtckilbegmbaeeaaGreat.Z6May Go.Proofs.YtckilbegmbaeeaaGreat.Z6Ls
set_option linter.unusedVariables false
set_option linter.unusedSimpArgs false
set_option maxHeartbeats 2000000 in
theorem DR (X : List aY) (o n : Nat) (h : o + n ≤ X.length) (hb : X.length < 4611686018427387904) (W : List aY) (hW : W = win X o n) : ∀ (m k i : Nat),i + m = n → m < k →
  eJ.l0 X (o : Int) (n : Int) W k (i : Int) (bB X o ((co W).take i)) = some (bB X o (co W))
 | 0,0,_,_,hk=>by omega
 | 0,k + 1,i,hi,hk=>by
  have hl : W.length = n:=by rw [hW]; exact dW h
  have ht : ((co W).take i).length = i:=by rw [List.length_take,cL]; omega
  rw [eJ.l0,if_pos (aU (by omega)),if_neg (by omega),List.take_of_length_le (by rw [cL]; omega)]
 | m + 1,0,_,_,hk=>by omega
 | m + 1,k + 1,i,hi,hk=>by
  have hl : W.length = n:=by rw [hW]; exact dW h
  have ht : ((co W).take i).length = i:=by rw [List.length_take,cL]; omega
  have hZ : (bB X o ((co W).take i)).length = X.length:=aU (by omega)
  have hnext : bB X o ((co W).take (i + 1)) = (if iV W i = true then (bB X o ((co W).take i)).set (o + i) (eL (rd W (i : Int)).f3) else bB X o ((co W).take i)):=by
   have hs : (co W).take (i + 1) = (co W).take i ++ [ey W i]:=jS (by omega)
   rw [hs]
   by_cases hbd : iV W i = true
   ·rw [if_pos hbd,ey,if_pos hbd]
    have:=jA (X:=X) (ys:=(co W).take i) (o:=o) (y:=eL (rd W (i : Int)).f3) (by omega)
    rw [ht] at this; exact this.symm
   ·rw [if_neg hbd]
    refine oJ (by omega) ?_
    rw [ht,ey,if_neg hbd,hW,md (by omega) h,show (o : Int) + (i : Int) = ((o + i : Nat) : Int) from by omega]
    exact iH (by omega)
  have ih:=DR X o n h hb W hW m k (i + 1) (by omega) (by omega)
  rw [hnext] at ih
  have l : (0 : Int) ≤ (i : Int)∧(i : Int) < (W.length : Int):=by omega
  have u : (0 : Int) ≤ (i : Int)∧(i : Int) < (n : Int):=by omega
  have E : (i : Int) < (n : Int):=u.2
  rw [eJ.l0,if_pos hZ,if_pos E,gv (by omega)]
  have hlast : ∀ bd : Bool,bd = iV W i → (if bd = true then (if (0 : Int) ≤ (i : Int)∧(i : Int) < (W.length : Int) then ((pE.f ((rd W (i : Int)).f3)).bind (fun j=>if (0 : Int) ≤ (i : Int)∧(i : Int) < (n : Int) then (lt ((bB X o ((co W).take i)).set ((o : Int) + (i : Int)).toNat j) fun b=>(lt ((i + 1 : Nat) : Int) fun c=>eJ.l0 X (o : Int) (n : Int) W k c b)) else none)) else none) else (lt ((i + 1 : Nat) : Int) fun d=>eJ.l0 X (o : Int) (n : Int) W k d (bB X o ((co W).take i)))) = some (bB X o (co W)):=by
   rintro bd rfl
   by_cases hbd : iV W i = true
   ·rw [if_pos hbd,if_pos l,xB]
    simp only [Option.bind_some,lt]
    rw [if_pos u,show ((o : Int) + (i : Int)).toNat = o + i from by omega]
    rw [if_pos hbd] at ih; exact ih
   ·rw [if_neg hbd]
    simp only [lt]
    rw [if_neg hbd] at ih; exact ih
  have fin : ∀ (z : Option Bool),z = some (iV W i) → z.bind (fun B=>(if B = true then (if (0 : Int) ≤ (i : Int)∧(i : Int) < (W.length : Int) then ((pE.f ((rd W (i : Int)).f3)).bind (fun j=>if (0 : Int) ≤ (i : Int)∧(i : Int) < (n : Int) then (lt ((bB X o ((co W).take i)).set ((o : Int) + (i : Int)).toNat j) fun b=>(lt ((i + 1 : Nat) : Int) fun c=>eJ.l0 X (o : Int) (n : Int) W k c b)) else none)) else none) else (lt ((i + 1 : Nat) : Int) fun d=>eJ.l0 X (o : Int) (n : Int) W k d (bB X o ((co W).take i))))) = some (bB X o (co W)):=by
   rintro z rfl
   exact hlast _ rfl
  refine fin _ ?_
  clear fin hlast ih hnext
  have ep : 0 < i → IntKind.i64.wrap ((i : Int) - 1) = (i : Int) - 1:=fun _=>eV (by omega) (by omega)
  have es : ((i + 1 : Nat) : Int) = (i : Int) + 1:=by omega
  rw [if_pos l,es]
  unfold iV nw
  by_cases c2 : (rd W (i : Int)).f2 = 2
  ·rw [if_pos c2]
   by_cases s : (i : Int) + 1 ≥ (n : Int)
   ·rw [if_pos s]
    have : ¬ ((i : Int) + 1 < (W.length : Int)):=by omega
    simp [c2,this]
   ·have q : (0 : Int) ≤ (i : Int) + 1∧(i : Int) + 1 < (W.length : Int):=by omega
    rw [if_neg s,if_pos q]
    by_cases a : (rd W ((i : Int) + 1)).f2 = 0
    ·rw [if_neg (by simpa using a),if_pos q,if_pos l]
     by_cases p : (rd W ((i : Int) + 1)).f3 = (rd W (i : Int)).f3
     ·rw [if_neg (by simpa using p),if_pos l,if_neg (by rw [c2]; decide)]
      simp [c2,a,p,q]
     ·rw [if_pos p]; simp [c2,a,p]
    ·rw [if_pos a]; simp [c2,a]
  ·rw [if_neg c2,if_pos l]
   by_cases c0 : (rd W (i : Int)).f2 = 0
   ·rw [if_pos c0]
    by_cases D : i = 0
    ·subst D
     have c0' : (rd W 0).f2 = 0:=c0
     simp [c0']
    ·have r : (0 : Int) ≤ (i : Int) - 1∧(i : Int) - 1 < (W.length : Int):=by omega
     rw [if_neg (by omega),ep (by omega),if_pos r]
     by_cases a : (rd W ((i : Int) - 1)).f2 = 2
     ·rw [if_neg (by simpa using a),if_pos r,if_pos l]
      simp [c0,a,r,show ¬ ((i : Int) < 1) from by omega]
     ·rw [if_pos a]; simp [c0,a]
   ·rw [if_neg c0]; simp [c0,c2]
theorem f90 (X : List aY) (o n : Nat) (h : o + n ≤ X.length) (hb : X.length < 4611686018427387904) (hn : n ≤ 1048576) (k : Nat) (hk : n < k) : eJ.f k X (o : Int) (n : Int) = some (bB X o (co (win X o n))):=by
 have hl : (win X o n).length = n:=dW h
 have:=DR X o n h hb _ rfl n k 0 (by omega) hk
 rw [List.take_zero,jz] at this
 unfold eJ.f
 rw [if_pos (by omega),jk,if_pos (by simp; omega)]
 simp only [lt,List.nil_append]
 rw [show (0 : Int) = ((0 : Nat) : Int) from rfl,this]
 simp only [Option.bind_some]
 rw [if_pos (aU (by rw [cL]; omega))]
theorem iF {X R : List aY} {o n : Nat} (h : o + n ≤ X.length) (hR : R.length = n) : bB (bB X o R) o (co (win (bB X o R) o n)) = bB X o (co R):=by
 rw [kx hR h,mW (by rw [cL]) (by omega)]
theorem EJ (X : List aY) (o n a : Nat) (l : List aY) (h : o + n ≤ X.length) (ha : a ≤ n) (hb : X.length < 4611686018427387904) (k : Nat) (hk : n < k) :
  hD.f k X (o : Int) (n : Int) (a : Int) l = some (bB X o (co (bB (win X o n) a (l.take (n - a))))):=by
 have hw : (win X o n).length = n:=dW h
 have ht : (l.take (n - a)).length ≤ n - a:=by rw [List.length_take]; omega
 have b : (bB (win X o n) a (l.take (n - a))).length = n:=by rw [aU (by omega),hw]
 unfold hD.f
 rw [if_pos (by omega),if_pos (by omega),show ((o : Int) + (a : Int)).toNat = o + a from by omega,show ((n : Int) - (a : Int)).toNat = n - a from by omega,gA (n:=n) (by omega) h]
 simp only [lt]
 have hZ : (bB X o (bB (win X o n) a (l.take (n - a)))).length = X.length:=aU (by omega)
 rw [xD _ o n (by omega) (by omega) k hk,iF h b]
 simp only [Option.bind_some]
 rw [if_pos (by rw [hZ,aU (by rw [cL]; omega)])]
theorem EI (X : List aY) (o n a b : Nat) (s : cM) (h : o + n ≤ X.length) (hab : a ≤ b) (hbn : b ≤ n) (hb : X.length < 4611686018427387904) (k : Nat) (hk : n < k) :
  jb.f k X (o : Int) (n : Int) (a : Int) (b : Int) s = some (bB X o (co (bB (win X o n) a (List.replicate (b - a) (eL s))))):=by
 have hw : (win X o n).length = n:=dW h
 have c : (bB (win X o n) a (List.replicate (b - a) (eL s))).length = n:=by rw [aU (by simp; omega),hw]
 unfold jb.f
 rw [if_pos (by omega),if_pos (by omega),show (o : Int) + (a : Int) = ((o + a : Nat) : Int) from by omega,show (b : Int) - (a : Int) = ((b - a : Nat) : Int) from by omega,tB X (o + a) (b - a) s (by omega) hb k (by omega)]
 simp only [Option.bind_some]
 rw [gA (n:=n) (by simp; omega) h]
 have hZ : (bB X o (bB (win X o n) a (List.replicate (b - a) (eL s)))).length = X.length:=aU (by omega)
 rw [if_pos hZ,xD _ o n (by omega) (by omega) k hk,iF h c]
 simp only [Option.bind_some]
 rw [if_pos (by rw [hZ,aU (by rw [cL]; omega)])]
theorem sn {X : List aY} {o n e : Nat} {b : aY} (h : o + n ≤ X.length) (he : e ≤ n) : bB (bB X o (win X (o + e) (n - e))) (o + (n - e)) (List.replicate e b) = bB X o (dV (win X o n) (e : Int) b):=by
 have hw : (win X o n).length = n:=dW h
 have l : (win X (o + e) (n - e)).length = n - e:=dW (by omega)
 have d : win X (o + e) (n - e) = (win X o n).drop e:=by unfold win; rw [List.drop_take,List.drop_drop]
 have j : bB X o (win X (o + e) (n - e)) = bB X o (bB (win X o n) 0 (win X (o + e) (n - e))):=by
  have:=gA (X:=X) (ys:=win X (o + e) (n - e)) (o:=o) (a:=0) (n:=n) (by omega) h
  simpa using this
 have hl : (bB (win X o n) 0 (win X (o + e) (n - e))).length = n:=by rw [aU (by omega),hw]
 have c : (bB (bB (win X o n) 0 (win X (o + e) (n - e))) (n - e) (List.replicate e b)).length = n:=by rw [aU (by rw [hl]; simp; omega),hl]
 rw [j,gA (n:=n) (by simp; omega) (by rw [aU (by omega)]; exact h),kx hl h,mW (by rw [hl,c]) (by omega),d]
 have:=uo (W:=win X o n) (e:=e) (b:=b) (by omega)
 rw [hw] at this
 rw [this]
theorem oQ {X : List aY} {o n e : Nat} {b : aY} (h : o + n ≤ X.length) (he : e ≤ n) : bB (bB X (o + e) ((win X o n).take (n - e))) o (List.replicate e b) = bB X o (dV (win X o n) (-(e : Int)) b):=by
 have hw : (win X o n).length = n:=dW h
 have ht : ((win X o n).take (n - e)).length = n - e:=by rw [List.length_take]; omega
 have hl : (bB (win X o n) e ((win X o n).take (n - e))).length = n:=by rw [aU (by omega),hw]
 have c : bB (bB X (o + e) ((win X o n).take (n - e))) o (List.replicate e b) = bB (bB X o (bB (win X o n) e ((win X o n).take (n - e)))) (o + 0) (List.replicate e b):=by rw [gA (n:=n) (by omega) h,Nat.add_zero]
 have a : (bB (bB (win X o n) e ((win X o n).take (n - e))) 0 (List.replicate e b)).length = n:=by rw [aU (by rw [hl]; simp; omega),hl]
 rw [c,gA (n:=n) (by simp; omega) (by rw [aU (by omega)]; exact h),kx hl h,mW (by rw [hl,a]) (by omega)]
 have:=rB (W:=win X o n) (e:=e) (b:=b) (by omega)
 rw [hw] at this
 rw [this]
end Go.Proofs.YtckilbegmbaeeaaGreat.Z6Op
namespace Go.Proofs.YtckilbegmbaeeaaGreat.Z6Op
open Go Go.RowKit Go.Proofs.YtckilbegmbaeeaaGreat.SL Go.Proofs.YtckilbegmbaeeaaGreat.Z6 Go.Proofs.YtckilbegmbaeeaaGreat.Z6May Go.Proofs.YtckilbegmbaeeaaGreat.Z6Ls
set_option linter.unusedVariables false
set_option linter.unusedSimpArgs false
theorem jo {W : List aY} {d : Int} {b : aY} (h : (W.length : Int) ≤ d ∨ d ≤ -(W.length : Int)) : dV W d b = List.replicate W.length b:=by
 apply List.ext_getElem?
 intro i
 by_cases hi : i < W.length
 ·rw [lN hi,if_neg (by omega),List.getElem?_replicate,if_pos hi]
 ·rw [List.getElem?_eq_none (by rw [dY]; omega),List.getElem?_eq_none (by simp; omega)]
def fH (n x : Int) : Int:=max (-n) (min x n)
theorem rO {n x : Int} (h : 0 ≤ n) : -n ≤ fH n x∧fH n x ≤ n:=by unfold fH; omega
theorem rA {W : List aY} {x : Int} {b : aY} : dV W (-(fH (W.length : Int) x)) b = dV W (-x) b:=by
 by_cases h : -(W.length : Int) ≤ x∧x ≤ (W.length : Int)
 ·rw [show fH (W.length : Int) x = x from by unfold fH; omega]
 ·rw [jo (by unfold fH; omega),jo (by omega)]
theorem lA {W : List aY} {x : Int} {b : aY} {h w : Nat} (hl : W.length = h * w) (hw : 0 < w) : dV W (fH (h : Int) x * (w : Int)) b = dV W (x * (w : Int)) b:=by
 by_cases c : -(h : Int) ≤ x∧x ≤ (h : Int)
 ·rw [show fH (h : Int) x = x from by unfold fH; omega]
 ·have hlen : (W.length : Int) = (h : Int) * (w : Int):=by rw [hl]; simp
  by_cases c2 : x < -(h : Int)
  ·rw [show fH (h : Int) x = -(h : Int) from by unfold fH; omega,jo (.inr (by rw [hlen,Int.neg_mul]; exact Int.le_refl _))]
   refine (jo (.inr ?_)).symm
   rw [hlen,← Int.neg_mul]
   exact Int.mul_le_mul_of_nonneg_right (by omega) (by omega)
  ·rw [show fH (h : Int) x = (h : Int) from by unfold fH; omega,jo (.inl (by rw [hlen]; exact Int.le_refl _))]
   refine (jo (.inl ?_)).symm
   rw [hlen]
   exact Int.mul_le_mul_of_nonneg_right (by omega) (by omega)
theorem tu {X : List aY} {o n a : Nat} : win X (o + a) (n - a) = (win X o n).drop a:=by unfold win; rw [List.drop_take,List.drop_drop]
theorem f88 (X : List aY) (o n a : Nat) (by_ : Int) (s : cM) (h : o + n ≤ X.length) (ha : a ≤ n) (hb : X.length < 4611686018427387904) (hn : n ≤ 1048576) (k : Nat) (hk : n < k) :
  ja.f k X (o : Int) (n : Int) (a : Int) by_ s = some (bB X o (co (bB (win X o n) a (dV ((win X o n).drop a) (-by_) (eL s))))):=by
 have hw : (win X o n).length = n:=dW h
 have hdl : ((win X o n).drop a).length = n - a:=by simp; omega
 have l : fk (IntKind.i64.wrap (0 - ((n : Int) - (a : Int)))) (da by_ ((n : Int) - (a : Int))) = fH ((n - a : Nat) : Int) by_:=by
  rw [eV (by omega) (by omega),kI,hP]; unfold fH; omega
 have hsl : dV ((win X o n).drop a) (-by_) (eL s) = dV ((win X o n).drop a) (-(fH ((n - a : Nat) : Int) by_)) (eL s):=by
  have:=rA (W:=(win X o n).drop a) (x:=by_) (b:=eL s)
  rw [hdl] at this; exact this.symm
 have hcl:=rO (n:=((n - a : Nat) : Int)) (x:=by_) (by omega)
 have fin : ∀ d : Int,bB X (o + a) (dV (win X (o + a) (n - a)) d (eL s)) = bB X o (bB (win X o n) a (dV ((win X o n).drop a) d (eL s))):=fun d=>by
  rw [gA (n:=n) (by rw [dY,dW (by omega)]; omega) h,tu]
 have hfl : ∀ d : Int,(bB (win X o n) a (dV ((win X o n).drop a) d (eL s))).length = n:=fun d=>by rw [aU (by rw [dY]; omega),hw]
 unfold ja.f
 rw [if_pos (by omega),if_pos (by omega),l,hsl]
 simp only [lt]
 by_cases c : fH ((n - a : Nat) : Int) by_ ≥ 0
 ·rw [if_pos c,if_pos (by omega)]
  obtain ⟨e,he⟩ : ∃ e : Nat,fH ((n - a : Nat) : Int) by_ = (e : Int):=⟨(fH ((n - a : Nat) : Int) by_).toNat,by omega⟩
  rw [he]
  have hel : e ≤ n - a:=by omega
  rw [show ((o : Int) + (a : Int) + (e : Int)).toNat = (o + a) + e from by omega,show (o : Int) + (a : Int) + ((n : Int) - (a : Int)) = ((o + a : Nat) : Int) + ((n - a : Nat) : Int) from by omega,show (o : Int) + (a : Int) = ((o + a : Nat) : Int) from by omega,jk,
   show ((n : Int) - (a : Int) - (e : Int)).toNat = (n - a) - e from by omega,if_pos (by omega),show ((o + a : Nat) : Int) + 0 = ((o + a : Nat) : Int) from by omega,show (e : Int) - 0 = (e : Int) from by omega]
  have j : (bB X (o + a + e) ((win X (o + a) (n - a)).take (n - a - e))).length = X.length:=aU (by rw [List.length_take,dW (by omega)]; omega)
  rw [tB _ (o + a) e s (by omega) (by omega) k (by omega)]
  simp only [Option.bind_some]
  rw [oQ (by omega) hel,fin,if_pos (by rw [aU (by rw [hfl]; omega),j]),xD _ o n (by rw [aU (by rw [hfl]; omega)]; omega) (by rw [aU (by rw [hfl]; omega)]; omega) k hk,iF h (hfl _)]
  simp only [Option.bind_some]
  rw [if_pos (by rw [aU (by rw [cL,hfl]; omega),aU (by rw [hfl]; omega)])]
 ·rw [if_neg c]
  obtain ⟨e,he⟩ : ∃ e : Nat,fH ((n - a : Nat) : Int) by_ = -(e : Int):=⟨(-(fH ((n - a : Nat) : Int) by_)).toNat,by omega⟩
  rw [he]
  have hel : e ≤ n - a:=by omega
  rw [show (0 : Int) - -(e : Int) = (e : Int) from by omega,eV (x:=(e : Int)) (by omega) (by omega),if_pos (by omega),show (n : Int) - (a : Int) + -(e : Int) = ((n - a - e : Nat) : Int) from by omega,eV (x:=((n - a - e : Nat) : Int)) (by omega) (by omega)]
  rw [show (o : Int) + (a : Int) + (e : Int) = ((o + a + e : Nat) : Int) from by omega,show (n : Int) - (a : Int) - (e : Int) = ((n - a - e : Nat) : Int) from by omega,jk,show ((o : Int) + (a : Int)).toNat = o + a from by omega,show ((n : Int) - (a : Int)).toNat = n - a from by omega,
   List.take_of_length_le (by rw [dW (by omega)]; omega),if_pos (by omega),show (o : Int) + (a : Int) + ((n - a - e : Nat) : Int) = ((o + a + (n - a - e) : Nat) : Int) from by omega,show (n : Int) - (a : Int) - ((n - a - e : Nat) : Int) = (e : Int) from by omega]
  have j : (bB X (o + a) (win X (o + a + e) (n - a - e))).length = X.length:=aU (by rw [dW (by omega)]; omega)
  rw [tB _ (o + a + (n - a - e)) e s (by omega) (by omega) k (by omega)]
  simp only [Option.bind_some]
  rw [sn (by omega) hel,fin,Int.neg_neg,if_pos (by rw [aU (by rw [hfl]; omega),j]),xD _ o n (by rw [aU (by rw [hfl]; omega)]; omega) (by rw [aU (by rw [hfl]; omega)]; omega) k hk,iF h (hfl _)]
  simp only [Option.bind_some]
  rw [if_pos (by rw [aU (by rw [cL,hfl]; omega),aU (by rw [hfl]; omega)])]
theorem EG (S : aJ) (X : List aY) (w h t u : Nat) (r by_ : Int) (s : cM) (hS : S.f0 = bH.mk (w : Int) r X) (hX : X.length = w * h) (hw0 : 0 < w) (hw : w ≤ 512) (hh : h ≤ 512) (htu : t ≤ u) (hu : u < h) (k : Nat) (hk : 1048576 < k) :
  de.f k S (t : Int) (u : Int) by_ s = some { S with f0:=bH.mk (w : Int) r (bB X (t * w) (dV (win X (t * w) ((u + 1 - t) * w)) (by_ * (w : Int)) (eL s))) }:=by
 have hmul : ∀ {a b : Nat},a ≤ b → a * w ≤ b * w:=fun q=>Nat.mul_le_mul_right _ q
 have l : h * w ≤ 512 * 512:=Nat.mul_le_mul hh hw
 have m : (u + 1) * w ≤ h * w:=hmul (by omega)
 have p : t * w ≤ (u + 1) * w:=hmul (by omega)
 have y : (u + 1 - t) * w = (u + 1) * w - t * w:=Nat.sub_mul _ _ _
 have z : w * h = h * w:=Nat.mul_comm _ _
 have hcl:=rO (n:=((u + 1 - t : Nat) : Int)) (x:=by_) (by omega)
 generalize ho : t * w = o at *
 generalize hn : (u + 1 - t) * w = n at *
 have hwn : (win X o n).length = n:=dW (by omega)
 have hc : fk (IntKind.i64.wrap (0 - IntKind.i64.wrap (IntKind.i64.wrap ((u : Int) - (t : Int)) + 1))) (da by_ (IntKind.i64.wrap (IntKind.i64.wrap ((u : Int) - (t : Int)) + 1))) = fH ((u + 1 - t : Nat) : Int) by_:=by
  rw [eV (x:=(u : Int) - (t : Int)) (by omega) (by omega),eV (x:=(u : Int) - (t : Int) + 1) (by omega) (by omega),eV (by omega) (by omega),kI,hP]; unfold fH; omega
 have hsl : dV (win X o n) (by_ * (w : Int)) (eL s) = dV (win X o n) (fH ((u + 1 - t : Nat) : Int) by_ * (w : Int)) (eL s):=(lA (by rw [hwn,hn]) hw0).symm
 have hol : (t : Int) * (w : Int) = (o : Int):=by rw [← ho]; simp
 have hul : ((u : Int) + 1) * (w : Int) = ((o + n : Nat) : Int):=by rw [show o + n = (u + 1) * w from by omega]; simp
 unfold de.f
 rw [hS]
 simp only [lt,hc]
 rw [hol,eV (x:=(o : Int)) (by omega) (by omega),eV (x:=(u : Int) + 1) (by omega) (by omega),hul,eV (x:=((o + n : Nat) : Int)) (by omega) (by omega),hsl]
 by_cases c : 0 ≤ fH ((u + 1 - t : Nat) : Int) by_
 ·obtain ⟨q,hq⟩ : ∃ q : Nat,fH ((u + 1 - t : Nat) : Int) by_ = (q : Int):=⟨(fH ((u + 1 - t : Nat) : Int) by_).toNat,by omega⟩
  have hqw : q * w ≤ n:=by rw [← hn]; exact hmul (by omega)
  rw [hq,show (q : Int) * (w : Int) = ((q * w : Nat) : Int) from by simp]
  generalize q * w = e at *
  rw [eV (x:=(e : Int)) (by omega) (by omega),if_pos (by omega),if_pos (by omega),if_pos (by omega)]
  rw [show (0 : Int) + (o : Int) + (e : Int) = ((o + e : Nat) : Int) from by omega,show ((o + n : Nat) : Int) - (o : Int) - (e : Int) = ((n - e : Nat) : Int) from by omega,jk,show ((0 : Int) + (o : Int)).toNat = o from by omega,show (((o + n : Nat) : Int) - (o : Int)).toNat = n from by omega,
   List.take_of_length_le (by rw [dW (by omega)]; omega),eV (x:=((n - e : Nat) : Int)) (by omega) (by omega),if_pos (by omega),show (0 : Int) + (o : Int) + ((n - e : Nat) : Int) = ((o + (n - e) : Nat) : Int) from by omega,show ((o + n : Nat) : Int) - (o : Int) - ((n - e : Nat) : Int) = (e : Int) from by omega]
  have d : (bB X o (win X (o + e) (n - e))).length = X.length:=aU (by rw [dW (by omega)]; omega)
  rw [tB _ (o + (n - e)) e s (by omega) (by omega) k (by omega)]
  simp only [Option.bind_some]
  rw [sn (by omega) hqw,if_pos (by rw [aU (by rw [dY]; omega),d])]
 ·obtain ⟨q,hq⟩ : ∃ q : Nat,fH ((u + 1 - t : Nat) : Int) by_ = -(q : Int):=⟨(-(fH ((u + 1 - t : Nat) : Int) by_)).toNat,by omega⟩
  have hqw : q * w ≤ n:=by rw [← hn]; exact hmul (by omega)
  have j : 0 < q * w:=Nat.mul_pos (by omega) hw0
  rw [hq,Int.neg_mul,show (q : Int) * (w : Int) = ((q * w : Nat) : Int) from by simp]
  generalize q * w = e at *
  rw [eV (x:=-(e : Int)) (by omega) (by omega),if_pos (by omega),if_neg (by omega),show (0 : Int) - -(e : Int) = (e : Int) from by omega,eV (x:=(e : Int)) (by omega) (by omega),if_pos (by omega)]
  rw [show (0 : Int) + (o : Int) + (e : Int) = ((o + e : Nat) : Int) from by omega,show ((o + n : Nat) : Int) - (o : Int) - (e : Int) = ((n - e : Nat) : Int) from by omega,show (0 : Int) + (o : Int) + (((o + n : Nat) : Int) - (o : Int)) = (o : Int) + (n : Int) from by omega,show (0 : Int) + (o : Int) = (o : Int) from by omega,jk,
   Int.toNat_natCast,Int.toNat_natCast,if_pos (by omega),show (o : Int) + 0 = (o : Int) from by omega,show (e : Int) - 0 = (e : Int) from by omega]
  have d : (bB X (o + e) ((win X o n).take (n - e))).length = X.length:=aU (by rw [List.length_take]; omega)
  rw [tB _ o e s (by omega) (by omega) k (by omega)]
  simp only [Option.bind_some]
  rw [oQ (by omega) hqw,if_pos (by rw [aU (by rw [dY]; omega),d])]
end Go.Proofs.YtckilbegmbaeeaaGreat.Z6Op
namespace Go.Proofs.YtckilbegmbaeeaaGreat.Z6Sp
open Go Go.RowKit Go.Proofs.YtckilbegmbaeeaaGreat.SL Go.Proofs.YtckilbegmbaeeaaGreat.Z6 Go.Proofs.YtckilbegmbaeeaaGreat.Z6May Go.Proofs.YtckilbegmbaeeaaGreat.Z6Ls Go.Proofs.YtckilbegmbaeeaaGreat.Z6Op
set_option linter.unusedVariables false
set_option linter.unusedSimpArgs false
theorem ku {ρ σ β : Type} {r : ρ} {f : ρ → Option β} {g : σ → Option β} : Out.el (.ret r) f g = f r:=rfl
theorem jG {ρ σ β : Type} {s : σ} {f : ρ → Option β} {g : σ → Option β} : Out.el (.go s) f g = g s:=rfl
structure Gr (g : bH) : Prop where
 len : g.f2.length < 4611686018427387904
 wide : ∀ x ∈ g.f2,0 ≤ x.f2∧x.f2 < 256
def eE (c r : Int) : Bool:=decide (1 ≤ c∧c ≤ 512∧1 ≤ r∧r ≤ 512)
theorem f78 (c r : Int) : qF.f c r = some (eE c r):=by
 unfold qF.f eE
 simp only [lt]
 congr 1
 by_cases a : 1 ≤ c <;> by_cases h2 : c ≤ 512 <;> by_cases b : 1 ≤ r <;> by_cases d : r ≤ 512 <;> simp [a,h2,b,d]
theorem fP {c r : Int} (h : eE c r = true) : ∃ w q : Nat,c = (w : Int)∧r = (q : Int)∧0 < w∧w ≤ 512∧0 < q∧q ≤ 512∧w * q ≤ 262144∧c * r = ((w * q : Nat) : Int)∧IntKind.i64.wrap (c * r) = ((w * q : Nat) : Int):=by
 unfold eE at h
 simp only [decide_eq_true_eq] at h
 obtain ⟨a,b,c',d⟩:=h
 obtain ⟨w,rfl⟩ : ∃ w : Nat,c = (w : Int):=⟨c.toNat,by omega⟩
 obtain ⟨q,rfl⟩ : ∃ q : Nat,r = (q : Int):=⟨r.toNat,by omega⟩
 have hm : w * q ≤ 512 * 512:=Nat.mul_le_mul (by omega) (by omega)
 have hc : (w : Int) * (q : Int) = ((w * q : Nat) : Int):=by simp
 exact ⟨w,q,rfl,rfl,by omega,by omega,by omega,by omega,by omega,hc,by rw [hc,eV (by omega) (by omega)]⟩
theorem oG {g : bH} (h : ¬ g.f2.length ≤ 1048576) : ct g = false:=by
 unfold ct
 rw [Bool.and_eq_false_iff]; left
 rw [decide_eq_false_iff_not]
 rintro ⟨a,b,c,d,e⟩
 obtain ⟨w,q,j,h2,_,_,_,_,hq,hc,_⟩:=fP (c:=g.f0) (r:=g.f1) (by unfold eE; simp [a,b,c,d])
 omega
theorem uZ (g : bH) (hg : Gr g) (k : Nat) (hk : 1100000 ≤ k) : fL.f k g = some (ct g):=by
 by_cases h : g.f2.length ≤ 1048576
 ·exact EB g h hg.wide k (by omega)
 ·rw [oG h]
  unfold fL.f
  rw [f78]
  simp only [Option.bind_some,lt]
  rw [if_pos]
  cases hs : eE g.f0 g.f1
  ·simp
  ·obtain ⟨w,q,a,h2,_,_,_,_,hq,hc,hw⟩:=fP hs
   rw [hw]; simp; omega
theorem zj (n : Int) : oU.f n = some (decide (1 ≤ n∧n ≤ 512)):=by
 unfold oU.f
 simp only [lt]
 congr 1
 by_cases a : 1 ≤ n <;> by_cases h2 : n ≤ 512 <;> simp [a,h2]
theorem vZ (c r : Int) : (decide (1 ≤ c∧c ≤ 512) && decide (1 ≤ r∧r ≤ 512)) = eE c r:=by
 unfold eE
 by_cases a : 1 ≤ c <;> by_cases h2 : c ≤ 512 <;> by_cases b : 1 ≤ r <;> by_cases d : r ≤ 512 <;> simp [a,h2,b,d]
theorem uY (g : bH) (hg : Gr g) (k : Nat) (hk : 1100000 ≤ k) : fA.f k g = some (ct g):=by
 by_cases h : g.f2.length ≤ 1048576
 ·exact Ey g h hg.wide k (by omega)
 ·rw [oG h]
  unfold fA.f
  rw [zj,zj]
  simp only [Option.bind_some,lt]
  have hs:=vZ g.f0 g.f1
  cases a : decide (1 ≤ g.f0∧g.f0 ≤ 512)
  ·simp
  ·cases h2 : decide (1 ≤ g.f1∧g.f1 ≤ 512)
   ·simp
   ·rw [a,h2] at hs
    obtain ⟨w,q,_,_,_,_,_,_,hq,hc,hw⟩:=fP hs.symm
    rw [hw]
    have : (g.f2.length : Int) ≠ ((w * q : Nat) : Int):=by omega
    rw [decide_eq_true this]; simp
theorem gM {g : bH} (h : ct g = true) : ∃ w q : Nat,g.f0 = (w : Int)∧g.f1 = (q : Int)∧0 < w∧w ≤ 512∧0 < q∧q ≤ 512∧g.f2.length = w * q∧w * q ≤ 262144:=by
 unfold ct at h
 simp only [Bool.and_eq_true,decide_eq_true_eq] at h
 obtain ⟨⟨a,b,c,d,e⟩,_⟩:=h
 obtain ⟨w,q,j,h2,l,m,o,p,hq,hc,hw⟩:=fP (c:=g.f0) (r:=g.f1) (by unfold eE; simp [a,b,c,d])
 exact ⟨w,q,j,h2,l,m,o,p,by omega,hq⟩
def no : bH × Int:=(bH.mk 0 0 [],2)
theorem f72 (g : bH) (h : g.f2.length ≤ 2932031007402) : oT.f g = some g:=by
 unfold oT.f st.f
 rw [if_pos (by simpa using h)]
 simp [lt]
theorem xA (g : bH) (h : g.f2.length ≤ 2932031007402) : hH.f g = some g:=by
 unfold hH.f
 rw [if_pos (by simpa using h)]
 simp [lt]
theorem fg {w q i : Nat} (hq : i < q) : i * w + w ≤ w * q:=by
 have : (i + 1) * w ≤ q * w:=Nat.mul_le_mul_right _ hq
 rw [Nat.add_mul,Nat.one_mul,Nat.mul_comm q w] at this; exact this
theorem wE (X : List aY) (w q i : Nat) (r : Int) (hX : X.length = w * q) (hb : w * q ≤ 262144) (hi : i < q) : jc.f (bH.mk (w : Int) r X) (i : Int) = some (((i * w : Nat) : Int),(w : Int)):=by
 have hp:=fg (w:=w) hi
 unfold jc.f
 simp only [lt]
 rw [show (i : Int) * (w : Int) = ((i * w : Nat) : Int) from by simp,eV (x:=((i * w : Nat) : Int)) (by omega) (by omega),eV (x:=((i * w : Nat) : Int) + (w : Int)) (by omega) (by omega),if_pos (by omega)]
 congr 2 <;> omega
theorem xN (X : List aY) (w q i : Nat) (r : Int) (hX : X.length = w * q) (hb : w * q ≤ 262144) (hi : i < q) : pM.f (bH.mk (w : Int) r X) (i : Int) = some (win X (i * w) w):=by
 have hp:=fg (w:=w) hi
 unfold pM.f
 simp only [lt]
 rw [show (i : Int) * (w : Int) = ((i * w : Nat) : Int) from by simp,eV (x:=((i * w : Nat) : Int)) (by omega) (by omega),eV (x:=((i * w : Nat) : Int) + (w : Int)) (by omega) (by omega),if_pos (by omega),jk]
theorem nq (X : List aY) (w q i : Nat) (r : Int) (hX : X.length = w * q) (hb : w * q ≤ 262144) (hq : q ≤ 512) (hi : i < q) : dv.f (bH.mk (w : Int) r X) (i : Int) = some (((i * w : Nat) : Int),(w : Int)):=by
 have hp:=fg (w:=w) hi
 unfold dv.f
 rw [eV (x:=(i : Int) + 1) (by omega) (by omega),show ((i : Int) + 1) * (w : Int) = ((i * w + w : Nat) : Int) from by rw [Int.add_mul]; simp,show (i : Int) * (w : Int) = ((i * w : Nat) : Int) from by simp,eV (x:=((i * w : Nat) : Int)) (by omega) (by omega),eV (x:=((i * w + w : Nat) : Int)) (by omega) (by omega),if_pos (show _∧_∧_ ≤ (X.length : Int) from by omega)]
 congr 2 <;> omega
def ik (g : bH) (row : Int) (s : cM) : Bool:=ct g && (decide (0 ≤ row) && (decide (row < g.f1) && cn s))
theorem f82 (g : bH) (hg : Gr g) (s : cM) (row : Int) (k : Nat) (hk : 1100000 ≤ k) : ip.f k g s row = some (!ik g row s):=by
 unfold ip.f ik
 rw [uY g hg k hk]
 simp only [Option.bind_some,lt,ya]
 cases hm : ct g
 ·simp
 ·cases hs : cn s
  ·simp
  ·by_cases a : 0 ≤ row <;> by_cases b : row < g.f1
   ·simp [a,b,show ¬ (row < 0) from by omega,show ¬ (g.f1 ≤ row) from by omega]
   ·simp [a,b,show ¬ (row < 0) from by omega,show (g.f1 ≤ row) from by omega]
   ·simp [a,b,show (row < 0) from by omega]
   ·simp [a,b,show (row < 0) from by omega]
def lu (g : bH) (row : Int) (f : List aY → List aY) : bH × Int:=(bH.mk g.f0 g.f1 (bB g.f2 (row.toNat * g.f0.toNat) (co (f (win g.f2 (row.toNat * g.f0.toNat) g.f0.toNat)))),0)
theorem kL {g : bH} {row : Int} {s : cM} (h : ik g row s = true) : ∃ w q i : Nat,g.f0 = (w : Int)∧g.f1 = (q : Int)∧row = (i : Int)∧0 < w∧w ≤ 512∧q ≤ 512∧i < q∧g.f2.length = w * q∧w * q ≤ 262144∧i * w + w ≤ g.f2.length:=by
 unfold ik at h
 simp only [Bool.and_eq_true,decide_eq_true_eq] at h
 obtain ⟨hm,m,o,_⟩:=h
 obtain ⟨w,q,j,l,a,b,c,d,hl,hb⟩:=gM hm
 exact ⟨w,q,row.toNat,j,l,by omega,a,b,d,by omega,hl,hb,by rw [hl]; exact fg (by omega)⟩
end Go.Proofs.YtckilbegmbaeeaaGreat.Z6Sp
namespace Go.Proofs.YtckilbegmbaeeaaGreat.Z6Sp
open Go Go.RowKit Go.Proofs.YtckilbegmbaeeaaGreat.SL Go.Proofs.YtckilbegmbaeeaaGreat.Z6 Go.Proofs.YtckilbegmbaeeaaGreat.Z6May Go.Proofs.YtckilbegmbaeeaaGreat.Z6Ls Go.Proofs.YtckilbegmbaeeaaGreat.Z6Op
set_option linter.unusedVariables false
set_option linter.unusedSimpArgs false
def pr (g : bH) (row col : Int) (s : cM) (l : List aY) : bH × Int :=
 if (ik g row s && (decide (0 ≤ col) && (decide (col < g.f0) && l.all cv))) = true then lu g row (fun W=>bB W col.toNat (l.take (g.f0.toNat - col.toNat))) else no
theorem Dz (l : List aY) (hw : ∀ x ∈ l,0 ≤ x.f2∧x.f2 < 256) (hl : l.length < 4611686018427387904) (z : bH) : ∀ (m k i : Nat),i + m = l.length → m + 44 < k →
  eQ.l0 l k z (i : Int) = some (if (l.drop i).all cv = true then Out.go z else Out.ret no)
 | 0,0,_,_,hk=>by omega
 | 0,k + 1,i,hi,hk=>by
  rw [eQ.l0,if_neg (by omega),List.drop_of_length_le (by omega)]; simp
 | m + 1,0,_,_,hk=>by omega
 | m + 1,k + 1,i,hi,hk=>by
  have hi' : i < l.length:=by omega
  have hx:=hw _ (List.getElem_mem hi')
  rw [eQ.l0,if_pos (by omega),if_pos (by omega),fa hi',BN _ hx.1 hx.2 k (by omega),List.drop_eq_getElem_cons hi']
  simp only [Option.bind_some,lt]
  cases hf : cv l[i]
  ·simp only [List.all_cons,hf,Bool.false_and,Bool.not_false,if_true,Bool.false_eq_true,if_false,no]
  ·simp only [Bool.not_true,Bool.false_eq_true,if_false,gv (show i < 4611686018427387904 by omega)]
   rw [Dz l hw hl z m k (i + 1) (by omega) (by omega)]
   simp only [List.all_cons,hf,Bool.true_and]
theorem ED (g : bH) (hg : Gr g) (row col : Int) (s : cM) (l : List aY) (hw : ∀ x ∈ l,0 ≤ x.f2∧x.f2 < 256) (hl : l.length < 4611686018427387904) (k : Nat) (hk : 1100000 + l.length ≤ k) : eQ.f k g row col s l = some (pr g row col s l):=by
 unfold eQ.f pr
 rw [f82 g hg s row k (by omega)]
 simp only [Option.bind_some,lt]
 cases hr : ik g row s
 ·simp [no]
 ·obtain ⟨w,q,i,c,r,rfl,o,p,d,hi,hlen,hb,hp⟩:=kL hr
  rw [c]
  simp only [Bool.not_true,Bool.false_or]
  by_cases c0 : col < 0
  ·simp [c0,show ¬ (0 ≤ col) from by omega,no]
  ·by_cases c1 : col ≥ (w : Int)
   ·simp [c0,c1,show ¬ (col < (w : Int)) from by omega,no]
   ·obtain ⟨a,rfl⟩ : ∃ a : Nat,col = (a : Int):=⟨col.toNat,by omega⟩
    simp only [c0,c1,decide_false,Bool.or_self,Bool.false_eq_true,if_false,Option.bind_some]
    have h:=Dz l hw hl (bH.mk 0 0 []) l.length k 0 (by omega) (by omega)
    rw [show (0 : Int) = ((0 : Nat) : Int) from rfl] at h ⊢
    rw [h,List.drop_zero]
    cases hall : l.all cv
    ·simp [no,hall,ku]
    ·simp only [Option.bind_some,if_true,jG]
     rw [xA g (by omega)]
     simp only [Option.bind_some]
     have ha:=nq g.f2 w q i g.f1 hlen hb d hi
     rw [← c] at ha
     rw [show dv.f g (i : Int) = some (((i * w : Nat) : Int),g.f0) from ha]
     simp only [Option.bind_some]
     rw [c,if_pos (by omega),if_pos (by omega),show (((i * w : Nat) : Int) + (a : Int)).toNat = i * w + a from by omega,show ((w : Int) - (a : Int)).toNat = w - a from by omega]
     have ht : (l.take (w - a)).length ≤ w - a:=by rw [List.length_take]; omega
     have b : (bB (win g.f2 (i * w) w) a (l.take (w - a))).length = w:=by rw [aU (by rw [dW (by omega)]; omega),dW (by omega)]
     have m : (bB g.f2 (i * w + a) (l.take (w - a))).length = g.f2.length:=aU (by omega)
     have j:=nq (bB g.f2 (i * w + a) (l.take (w - a))) w q i g.f1 (by rw [m]; exact hlen) hb d hi
     rw [j]
     simp only [Option.bind_some]
     rw [if_pos (by omega),f90 _ (i * w) w (by omega) (by omega) (by omega) k (by omega)]
     simp only [Option.bind_some]
     rw [gA (n:=w) (by omega) (by omega),iF (by omega) b,if_pos (by rw [aU (by rw [cL,b]; omega),aU (by rw [b]; omega)])]
     have hc : (a : Int) < (w : Int):=by omega
     simp [lu,c,hc]
def ru (g : bH) (row a b : Int) (s : cM) : bH × Int :=
 if (ik g row s && (decide (0 ≤ a) && (decide (a ≤ b) && decide (b ≤ g.f0)))) = true then lu g row (fun W=>bB W a.toNat (List.replicate (b.toNat - a.toNat) (eL s))) else no
theorem DC (g : bH) (w q i b : Nat) (s : cM) (a : Nat) (e0 : g.f0 = (w : Int)) (hlen : g.f2.length = w * q) (hb : w * q ≤ 262144) (hq5 : q ≤ 512) (hi : i < q) (hbw : b ≤ w) (hp : i * w + w ≤ g.f2.length) : ∀ (m k j : Nat),a + j + m = b → m < k →
  fy.l0 (i : Int) (b : Int) s g k ((a + j : Nat) : Int) (bB g.f2 (i * w + a) (List.replicate j (eL s))) = some (bB g.f2 (i * w + a) (List.replicate (b - a) (eL s)))
 | 0,0,_,_,hk=>by omega
 | 0,k + 1,j,hj,hk=>by
  rw [fy.l0,if_pos (aU (by simp; omega)),if_neg (by omega),show b - a = j from by omega]
 | m + 1,0,_,_,hk=>by omega
 | m + 1,k + 1,j,hj,hk=>by
  have c : (bB g.f2 (i * w + a) (List.replicate j (eL s))).length = g.f2.length:=aU (by simp; omega)
  have ha:=nq (bB g.f2 (i * w + a) (List.replicate j (eL s))) w q i g.f1 (by rw [c]; exact hlen) hb hq5 hi
  rw [fy.l0,if_pos c,if_pos (by omega),e0,ha]
  simp only [Option.bind_some]
  rw [if_pos (by omega),xB]
  simp only [Option.bind_some,lt]
  rw [if_pos (by omega),gv (by omega),show (((i * w : Nat) : Int) + ((a + j : Nat) : Int)).toNat = i * w + a + (List.replicate j (eL s)).length from by simp; omega,jA (by simp; omega),← List.replicate_succ']
  exact DC g w q i b s a e0 hlen hb hq5 hi hbw hp m k (j + 1) (by omega) (by omega)
theorem EE (g : bH) (hg : Gr g) (row a b : Int) (s : cM) (k : Nat) (hk : 1100000 ≤ k) : fy.f k g row a b s = some (ru g row a b s):=by
 unfold fy.f ru
 rw [f82 g hg s row k (by omega)]
 simp only [Option.bind_some,lt]
 cases hr : ik g row s
 ·simp [no]
 ·obtain ⟨w,q,i,d,u,rfl,p,r,j,hi,hlen,hb,hp⟩:=kL hr
  rw [d]
  simp only [Bool.not_true,Bool.false_or]
  by_cases c0 : a < 0
  ·simp [c0,show ¬ (0 ≤ a) from by omega,no]
  ·by_cases c1 : a > b
   ·simp [c0,c1,show ¬ (a ≤ b) from by omega,no]
   ·by_cases c2 : b > (w : Int)
    ·simp [c0,c1,c2,show ¬ (b ≤ (w : Int)) from by omega,no]
    ·obtain ⟨a,rfl⟩ : ∃ a' : Nat,a = (a' : Int):=⟨a.toNat,by omega⟩
     obtain ⟨b,rfl⟩ : ∃ b' : Nat,b = (b' : Int):=⟨b.toNat,by omega⟩
     simp only [c0,c1,c2,decide_false,Bool.or_self,Bool.false_eq_true,if_false,Option.bind_some]
     rw [xA g (by omega)]
     simp only [Option.bind_some]
     have l:=DC g w q i b s a d hlen hb j hi (by omega) hp (b - a) k 0 (by omega) (by omega)
     rw [List.replicate_zero,jz,Nat.add_zero] at l
     rw [l]
     simp only [Option.bind_some]
     have h : (bB g.f2 (i * w + a) (List.replicate (b - a) (eL s))).length = g.f2.length:=aU (by simp; omega)
     have c : (bB (win g.f2 (i * w) w) a (List.replicate (b - a) (eL s))).length = w:=by rw [aU (by rw [dW (by omega)]; simp; omega),dW (by omega)]
     have m:=nq (bB g.f2 (i * w + a) (List.replicate (b - a) (eL s))) w q i g.f1 (by rw [h]; exact hlen) hb j hi
     rw [if_pos h,d,m]
     simp only [Option.bind_some]
     rw [if_pos (by omega),f90 _ (i * w) w (by omega) (by omega) (by omega) k (by omega)]
     simp only [Option.bind_some]
     rw [gA (n:=w) (by simp; omega) (by omega),iF (by omega) c,if_pos (by rw [aU (by rw [cL,c]; omega),aU (by rw [c]; omega)])]
     have hc : (a : Int) ≤ (b : Int):=by omega
     have o : (b : Int) ≤ (w : Int):=by omega
     simp [lu,d,hc,o]
end Go.Proofs.YtckilbegmbaeeaaGreat.Z6Sp
namespace Go.Proofs.YtckilbegmbaeeaaGreat.Z6Sp
open Go Go.RowKit Go.Proofs.YtckilbegmbaeeaaGreat.SL Go.Proofs.YtckilbegmbaeeaaGreat.Z6 Go.Proofs.YtckilbegmbaeeaaGreat.Z6May Go.Proofs.YtckilbegmbaeeaaGreat.Z6Ls Go.Proofs.YtckilbegmbaeeaaGreat.Z6Op
set_option linter.unusedVariables false
set_option linter.unusedSimpArgs false
def rv (g : bH) (row a by_ : Int) (s : cM) : bH × Int :=
 if (ik g row s && (decide (0 ≤ a) && decide (a < g.f0))) = true then lu g row (fun W=>bB W a.toNat (dV (W.drop a.toNat) (-by_) (eL s))) else no
theorem nd {W : List aY} {a : Nat} {d : Int} {b : aY} (h : a ≤ W.length) : (bB W a (dV (W.drop a) d b)).length = W.length:=aU (by rw [dY]; simp; omega)
theorem oe {W : List aY} {d : Int} {b : aY} {j : Nat} (h : j < W.length) : (dV W d b).take (j + 1) = (dV W d b).take j ++ [if 0 ≤ (j : Int) + d∧(j : Int) + d < (W.length : Int) then W.getD ((j : Int) + d).toNat b else b]:=jS h
theorem DD (g : bH) (w q i a : Nat) (by_ : Int) (s : cM) (e0 : g.f0 = (w : Int)) (hlen : g.f2.length = w * q) (hb : w * q ≤ 262144) (hq5 : q ≤ 512) (hw5 : w ≤ 512) (hi : i < q) (haw : a < w) (hp : i * w + w ≤ g.f2.length)
  (S : List aY) (hS : S = dV ((win g.f2 (i * w) w).drop a) (-by_) (eL s)) : ∀ (m k j : Nat),a + j + m = w → m < k →
  fx.l0 g (i : Int) (a : Int) by_ s g k ((a + j : Nat) : Int) (bB g.f2 (i * w + a) (S.take j)) = some (bB g.f2 (i * w + a) S)
 | 0,0,_,_,hk=>by omega
 | 0,k + 1,j,hj,hk=>by
  have hSl : S.length = w - a:=by rw [hS,dY,List.length_drop,dW (by omega)]
  rw [fx.l0,if_pos (aU (by rw [List.length_take]; omega)),if_neg (by omega),List.take_of_length_le (by omega)]
 | m + 1,0,_,_,hk=>by omega
 | m + 1,k + 1,j,hj,hk=>by
  have hwl : (win g.f2 (i * w) w).length = w:=dW (by omega)
  have hdl : ((win g.f2 (i * w) w).drop a).length = w - a:=by rw [List.length_drop]; omega
  have hSl : S.length = w - a:=by rw [hS,dY,hdl]
  have htl : (S.take j).length = j:=by rw [List.length_take]; omega
  have h : (bB g.f2 (i * w + a) (S.take j)).length = g.f2.length:=aU (by omega)
  have ha:=nq (bB g.f2 (i * w + a) (S.take j)) w q i g.f1 (by rw [h]; exact hlen) hb hq5 hi
  have d:=nq g.f2 w q i g.f1 hlen hb hq5 hi
  rw [← e0] at d
  have l : dv.f g (i : Int) = some (((i * w : Nat) : Int),g.f0):=d
  have hnext : S.take (j + 1) = S.take j ++ [if 0 ≤ (j : Int) + -by_∧(j : Int) + -by_ < ((w - a : Nat) : Int) then ((win g.f2 (i * w) w).drop a).getD ((j : Int) + -by_).toNat (eL s) else eL s]:=by
   rw [hS,oe (by rw [hdl]; omega),hdl]
  rw [fx.l0,if_pos h,if_pos (by omega),xB]
  simp only [Option.bind_some,lt]
  rw [e0,ha]
  simp only [Option.bind_some]
  have hval : ∀ (G : aY → Option (List aY)),(if ((decide (by_ ≥ IntKind.i64.wrap (0 - (w : Int))) && decide (by_ ≤ (w : Int))) && decide (IntKind.i64.wrap (((a + j : Nat) : Int) - by_) ≥ (a : Int)) && decide (IntKind.i64.wrap (((a + j : Nat) : Int) - by_) < (w : Int))) = true then (dv.f g (i : Int)).bind (fun b=>if (0 ≤ b.1∧0 ≤ b.2∧b.1 + b.2 ≤ (g.f2.length : Int)) then (if 0 ≤ IntKind.i64.wrap (((a + j : Nat) : Int) - by_)∧IntKind.i64.wrap (((a + j : Nat) : Int) - by_) < b.2 then some (aY.mk (rd g.f2 (b.1 + (IntKind.i64.wrap (((a + j : Nat) : Int) - by_)))).f0 (rd g.f2 (b.1 + (IntKind.i64.wrap (((a + j : Nat) : Int) - by_)))).f1 (rd g.f2 (b.1 + (IntKind.i64.wrap (((a + j : Nat) : Int) - by_)))).f2 (rd g.f2 (b.1 + (IntKind.i64.wrap (((a + j : Nat) : Int) - by_)))).f3) else none) else none) else some (eL s)).bind G = G (if 0 ≤ (j : Int) + -by_∧(j : Int) + -by_ < ((w - a : Nat) : Int) then ((win g.f2 (i * w) w).drop a).getD ((j : Int) + -by_).toNat (eL s) else eL s):=fun G=>by
   rw [eV (x:=0 - (w : Int)) (by omega) (by omega)]
   by_cases c : -(w : Int) ≤ by_∧by_ ≤ (w : Int)
   ·rw [eV (x:=((a + j : Nat) : Int) - by_) (by omega) (by omega)]
    by_cases c2 : 0 ≤ (j : Int) + -by_∧(j : Int) + -by_ < ((w - a : Nat) : Int)
    ·have hcond : ((decide (by_ ≥ 0 - (w : Int)) && decide (by_ ≤ (w : Int))) && decide (((a + j : Nat) : Int) - by_ ≥ (a : Int)) && decide (((a + j : Nat) : Int) - by_ < (w : Int))) = true:=by simp; omega
     rw [if_pos hcond,l]
     simp only [Option.bind_some]
     rw [e0,if_pos (by omega),if_pos (by omega),if_pos c2]
     simp only [Option.bind_some]
     congr 1
     obtain ⟨t,ht⟩ : ∃ t : Nat,(j : Int) + -by_ = (t : Int):=⟨((j : Int) + -by_).toNat,by omega⟩
     rw [ht,Int.toNat_natCast,show ((a + j : Nat) : Int) - by_ = ((a + t : Nat) : Int) from by omega]
     have o : (win g.f2 (i * w) w)[a + t]? = some (rd g.f2 (((i * w : Nat) : Int) + ((a + t : Nat) : Int))):=by rw [← md (n:=w) (by omega) (by omega)]; exact iH (by omega)
     rw [List.getD_eq_getElem?_getD,List.getElem?_drop,o]; rfl
    ·have hcond : ¬ ((decide (by_ ≥ 0 - (w : Int)) && decide (by_ ≤ (w : Int))) && decide (((a + j : Nat) : Int) - by_ ≥ (a : Int)) && decide (((a + j : Nat) : Int) - by_ < (w : Int))) = true:=by simp; omega
     rw [if_neg hcond,if_neg c2]; rfl
   ·have hcond : (decide (by_ ≥ 0 - (w : Int)) && decide (by_ ≤ (w : Int))) = false:=by simp; omega
    rw [hcond,Bool.false_and,Bool.false_and,if_neg (by decide),if_neg (by omega)]; rfl
  rw [hval]
  rw [if_pos (by omega),if_pos (by omega),gv (by omega),show (((i * w : Nat) : Int) + ((a + j : Nat) : Int)).toNat = i * w + a + (S.take j).length from by omega,jA (by omega),← hnext]
  exact DD g w q i a by_ s e0 hlen hb hq5 hw5 hi haw hp S hS m k (j + 1) (by omega) (by omega)
theorem EF (g : bH) (hg : Gr g) (row a by_ : Int) (s : cM) (k : Nat) (hk : 1100000 ≤ k) : fx.f k g row a by_ s = some (rv g row a by_ s):=by
 unfold fx.f rv
 rw [f82 g hg s row k (by omega)]
 simp only [Option.bind_some,lt]
 cases hr : ik g row s
 ·simp [no]
 ·obtain ⟨w,q,i,c,p,rfl,o,m,h,hi,hlen,hb,hp⟩:=kL hr
  rw [c]
  simp only [Bool.not_true,Bool.false_or]
  by_cases c0 : a < 0
  ·simp [c0,show ¬ (0 ≤ a) from by omega,no]
  ·by_cases c1 : a ≥ (w : Int)
   ·simp [c0,c1,show ¬ (a < (w : Int)) from by omega,no]
   ·obtain ⟨a,rfl⟩ : ∃ a' : Nat,a = (a' : Int):=⟨a.toNat,by omega⟩
    simp only [c0,c1,decide_false,Bool.or_self,Bool.false_eq_true,if_false,Option.bind_some]
    rw [xA g (by omega)]
    simp only [Option.bind_some]
    have hwl : (win g.f2 (i * w) w).length = w:=dW (by omega)
    have j:=DD g w q i a by_ s c hlen hb h m hi (by omega) hp _ rfl (w - a) k 0 (by omega) (by omega)
    rw [List.take_zero,jz,Nat.add_zero] at j
    rw [j]
    simp only [Option.bind_some]
    have hsl : (dV ((win g.f2 (i * w) w).drop a) (-by_) (eL s)).length = w - a:=by rw [dY,List.length_drop]; omega
    have d : (bB g.f2 (i * w + a) (dV ((win g.f2 (i * w) w).drop a) (-by_) (eL s))).length = g.f2.length:=aU (by omega)
    have b : (bB (win g.f2 (i * w) w) a (dV ((win g.f2 (i * w) w).drop a) (-by_) (eL s))).length = w:=by rw [nd (by omega)]; exact hwl
    have l:=nq (bB g.f2 (i * w + a) (dV ((win g.f2 (i * w) w).drop a) (-by_) (eL s))) w q i g.f1 (by rw [d]; exact hlen) hb h hi
    rw [if_pos d,c,l]
    simp only [Option.bind_some]
    rw [if_pos (by omega),f90 _ (i * w) w (by omega) (by omega) (by omega) k (by omega)]
    simp only [Option.bind_some]
    rw [gA (n:=w) (by omega) (by omega),iF (by omega) b,if_pos (by rw [aU (by rw [cL,b]; omega),aU (by rw [b]; omega)])]
    have hc : (a : Int) < (w : Int):=by omega
    simp [lu,c,hc]
end Go.Proofs.YtckilbegmbaeeaaGreat.Z6Sp
namespace Go.Proofs.YtckilbegmbaeeaaGreat.Z6Sp
open Go Go.RowKit Go.Proofs.YtckilbegmbaeeaaGreat.SL Go.Proofs.YtckilbegmbaeeaaGreat.Z6 Go.Proofs.YtckilbegmbaeeaaGreat.Z6May Go.Proofs.YtckilbegmbaeeaaGreat.Z6Ls Go.Proofs.YtckilbegmbaeeaaGreat.Z6Op
set_option linter.unusedVariables false
set_option linter.unusedSimpArgs false
def gO (g : bH) (t u : Int) (s : cM) : Bool:=ct g && (decide (0 ≤ t) && (decide (t ≤ u) && (decide (u < g.f1) && cn s)))
def gC (g : bH) (t u by_ : Int) (s : cM) : bH × Int :=
 if gO g t u s = true then (bH.mk g.f0 g.f1 (bB g.f2 (t.toNat * g.f0.toNat) (dV (win g.f2 (t.toNat * g.f0.toNat) ((u.toNat + 1 - t.toNat) * g.f0.toNat)) (by_ * g.f0) (eL s))),0) else no
theorem iG {g : bH} {t u : Int} {s : cM} (h : gO g t u s = true) : ∃ w q i j : Nat,g.f0 = (w : Int)∧g.f1 = (q : Int)∧t = (i : Int)∧u = (j : Int)∧0 < w∧w ≤ 512∧q ≤ 512∧i ≤ j∧j < q∧g.f2.length = w * q∧w * q ≤ 262144:=by
 unfold gO at h
 simp only [Bool.and_eq_true,decide_eq_true_eq] at h
 obtain ⟨hm,o,p,h2,_⟩:=h
 obtain ⟨w,q,l,m,a,b,c,d,hl,hb⟩:=gM hm
 exact ⟨w,q,t.toNat,u.toNat,l,m,by omega,by omega,a,b,d,by omega,by omega,hl,hb⟩
theorem rp {p : Int} {c w : Nat} (hc : c < w) : 0 ≤ p * (w : Int) + (c : Int) ↔ 0 ≤ p:=by
 constructor
 ·intro h
  by_cases q : 0 ≤ p
  ·exact q
  ·exfalso
   have : p * (w : Int) ≤ -1 * (w : Int):=Int.mul_le_mul_of_nonneg_right (by omega) (by omega)
   omega
 ·intro h
  have : 0 ≤ p * (w : Int):=Int.mul_nonneg h (by omega)
  omega
theorem uh {p h : Int} {c w : Nat} (hc : c < w) : p * (w : Int) + (c : Int) < h * (w : Int) ↔ p < h:=by
 have:=rp (p:=p - h) hc
 rw [Int.sub_mul] at this
 omega
theorem yp (g : bH) (w q i j : Nat) (by_ : Int) (s : cM) (e0 : g.f0 = (w : Int)) (e1 : g.f1 = (q : Int)) (hlen : g.f2.length = w * q) (hb : w * q ≤ 262144) (hq5 : q ≤ 512) (hw5 : w ≤ 512) (hij : i ≤ j) (hj : j < q)
  (S : List aY) (hS : S = dV (win g.f2 (i * w) ((j + 1 - i) * w)) (by_ * (w : Int)) (eL s)) (r : Nat) (hr : i + r ≤ j) (Z0 : List aY) (hZ0 : Z0.length = g.f2.length) : ∀ (m k c : Nat),c + m = w → m < k →
  cA.l1 g (i : Int) (j : Int) by_ s g ((i + r : Nat) : Int) Z0 k (c : Int) (bB g.f2 (i * w) (S.take (r * w + c))) = some (bB g.f2 (i * w) (S.take (r * w + w)))
 | 0,0,_,_,hk=>by omega
 | 0,k + 1,c,hc,hk=>by
  have b : (i + (j + 1 - i)) * w ≤ q * w:=Nat.mul_le_mul_right _ (by omega)
  rw [Nat.add_mul,Nat.mul_comm q w] at b
  have hSl : S.length = (j + 1 - i) * w:=by rw [hS,dY,dW (by omega)]
  have d : (r + 1) * w ≤ (j + 1 - i) * w:=Nat.mul_le_mul_right _ (by omega)
  rw [Nat.add_mul,Nat.one_mul] at d
  have hcw : c = w:=by omega
  rw [cA.l1,if_pos (by rw [hZ0]; exact aU (by rw [List.length_take]; omega)),e0,if_neg (by omega),hcw]
 | m + 1,0,_,_,hk=>by omega
 | m + 1,k + 1,c,hc,hk=>by
  have b : (i + (j + 1 - i)) * w ≤ q * w:=Nat.mul_le_mul_right _ (by omega)
  rw [Nat.add_mul,Nat.mul_comm q w] at b
  have hSl : S.length = (j + 1 - i) * w:=by rw [hS,dY,dW (by omega)]
  have d : (r + 1) * w ≤ (j + 1 - i) * w:=Nat.mul_le_mul_right _ (by omega)
  rw [Nat.add_mul,Nat.one_mul] at d
  have hwl : (win g.f2 (i * w) ((j + 1 - i) * w)).length = (j + 1 - i) * w:=dW (by omega)
  have htl : (S.take (r * w + c)).length = r * w + c:=by rw [List.length_take]; omega
  have l : (bB g.f2 (i * w) (S.take (r * w + c))).length = g.f2.length:=aU (by omega)
  have ha:=nq (bB g.f2 (i * w) (S.take (r * w + c))) w q (i + r) (q : Int) (by rw [l]; exact hlen) hb hq5 (by omega)
  have hnext : S.take (r * w + c + 1) = S.take (r * w + c) ++ [if 0 ≤ ((r * w + c : Nat) : Int) + by_ * (w : Int)∧((r * w + c : Nat) : Int) + by_ * (w : Int) < (((j + 1 - i) * w : Nat) : Int) then (win g.f2 (i * w) ((j + 1 - i) * w)).getD (((r * w + c : Nat) : Int) + by_ * (w : Int)).toNat (eL s) else eL s]:=by
   rw [hS,oe (by rw [hwl]; omega),hwl]
  have hplace : ((r * w + c : Nat) : Int) + by_ * (w : Int) = ((r : Int) + by_) * (w : Int) + (c : Int):=by
   rw [Int.add_mul,show ((r * w + c : Nat) : Int) = (r : Int) * (w : Int) + (c : Int) from by simp]; omega
  have hhi : (((j + 1 - i) * w : Nat) : Int) = ((j + 1 - i : Nat) : Int) * (w : Int):=by simp
  rw [hplace,hhi] at hnext
  simp only [rp (p:=(r : Int) + by_) (show c < w by omega),uh (p:=(r : Int) + by_) (show c < w by omega)] at hnext
  rw [cA.l1,if_pos (by rw [hZ0]; exact l),e0,if_pos (by omega),xB,e1]
  simp only [Option.bind_some,lt]
  rw [ha]
  simp only [Option.bind_some]
  have hval : ∀ (G : aY → Option (List aY)),(if ((decide (by_ ≥ IntKind.i64.wrap (0 - (q : Int))) && decide (by_ ≤ (q : Int))) && decide (IntKind.i64.wrap (((i + r : Nat) : Int) + by_) ≥ (i : Int)) && decide (IntKind.i64.wrap (((i + r : Nat) : Int) + by_) ≤ (j : Int))) = true then (dv.f g (IntKind.i64.wrap (((i + r : Nat) : Int) + by_))).bind (fun a=>if (0 ≤ a.1∧0 ≤ a.2∧a.1 + a.2 ≤ (g.f2.length : Int)) then (if 0 ≤ (c : Int)∧(c : Int) < a.2 then some (aY.mk (rd g.f2 (a.1 + (c : Int))).f0 (rd g.f2 (a.1 + (c : Int))).f1 (rd g.f2 (a.1 + (c : Int))).f2 (rd g.f2 (a.1 + (c : Int))).f3) else none) else none) else some (eL s)).bind G = G (if 0 ≤ (r : Int) + by_∧(r : Int) + by_ < ((j + 1 - i : Nat) : Int) then (win g.f2 (i * w) ((j + 1 - i) * w)).getD (((r : Int) + by_) * (w : Int) + (c : Int)).toNat (eL s) else eL s):=fun G=>by
   rw [eV (x:=0 - (q : Int)) (by omega) (by omega)]
   by_cases c1 : -(q : Int) ≤ by_∧by_ ≤ (q : Int)
   ·rw [eV (x:=((i + r : Nat) : Int) + by_) (by omega) (by omega)]
    by_cases c2 : 0 ≤ (r : Int) + by_∧(r : Int) + by_ < ((j + 1 - i : Nat) : Int)
    ·have hcond : ((decide (by_ ≥ 0 - (q : Int)) && decide (by_ ≤ (q : Int))) && decide (((i + r : Nat) : Int) + by_ ≥ (i : Int)) && decide (((i + r : Nat) : Int) + by_ ≤ (j : Int))) = true:=by simp; omega
     obtain ⟨p,hp⟩ : ∃ p : Nat,(r : Int) + by_ = (p : Int):=⟨((r : Int) + by_).toNat,by omega⟩
     have hip : i + p < q:=by omega
     have h:=nq g.f2 w q (i + p) g.f1 hlen hb hq5 hip
     rw [← e0] at h
     have hpl:=fg (w:=w) hip
     rw [if_pos hcond,if_pos c2,show ((i + r : Nat) : Int) + by_ = ((i + p : Nat) : Int) from by omega,show dv.f g ((i + p : Nat) : Int) = some ((((i + p) * w : Nat) : Int),g.f0) from h,e0]
     simp only [Option.bind_some]
     rw [if_pos (by omega),if_pos (by omega)]
     simp only [Option.bind_some]
     congr 1
     rw [hp,show ((p : Int) * (w : Int) + (c : Int)).toNat = p * w + c from by rw [show (p : Int) * (w : Int) + (c : Int) = ((p * w + c : Nat) : Int) from by simp]; exact Int.toNat_natCast _]
     have hpw : p * w + w ≤ (j + 1 - i) * w:=by
      have : (p + 1) * w ≤ (j + 1 - i) * w:=Nat.mul_le_mul_right _ (by omega)
      rwa [Nat.add_mul,Nat.one_mul] at this
     have hx : (win g.f2 (i * w) ((j + 1 - i) * w))[p * w + c]? = some (rd g.f2 ((((i + p) * w : Nat) : Int) + (c : Int))):=by
      rw [er,if_pos (by omega)]
      rw [show ((((i + p) * w : Nat) : Int) + (c : Int)) = (((i + p) * w + c : Nat) : Int) from by omega,← iH (by omega)]
      congr 1; rw [Nat.add_mul]; omega
     rw [List.getD_eq_getElem?_getD,hx]; rfl
    ·have hcond : ¬ ((decide (by_ ≥ 0 - (q : Int)) && decide (by_ ≤ (q : Int))) && decide (((i + r : Nat) : Int) + by_ ≥ (i : Int)) && decide (((i + r : Nat) : Int) + by_ ≤ (j : Int))) = true:=by simp; omega
     rw [if_neg hcond,if_neg c2]; rfl
   ·have hcond : (decide (by_ ≥ 0 - (q : Int)) && decide (by_ ≤ (q : Int))) = false:=by simp; omega
    rw [hcond,Bool.false_and,Bool.false_and,if_neg (by decide),if_neg (by omega)]; rfl
  rw [hval]
  have hirw : (i + r) * w = i * w + r * w:=Nat.add_mul _ _ _
  rw [if_pos (by omega),if_pos (by omega),gv (by omega),show ((((i + r) * w : Nat) : Int) + (c : Int)).toNat = i * w + (S.take (r * w + c)).length from by omega,jA (by omega),← hnext]
  exact yp g w q i j by_ s e0 e1 hlen hb hq5 hw5 hij hj S hS r hr Z0 hZ0 m k (c + 1) (by omega) (by omega)
theorem Dw (g : bH) (w q i j : Nat) (by_ : Int) (s : cM) (e0 : g.f0 = (w : Int)) (e1 : g.f1 = (q : Int)) (hlen : g.f2.length = w * q) (hb : w * q ≤ 262144) (hq5 : q ≤ 512) (hw5 : w ≤ 512) (hij : i ≤ j) (hj : j < q)
  (S : List aY) (hS : S = dV (win g.f2 (i * w) ((j + 1 - i) * w)) (by_ * (w : Int)) (eL s)) : ∀ (m k r : Nat),i + r + m = j + 1 → m + 520 < k →
  cA.l0 g (i : Int) (j : Int) by_ s g k ((i + r : Nat) : Int) (bB g.f2 (i * w) (S.take (r * w))) = some (bB g.f2 (i * w) S)
 | 0,0,_,_,hk=>by omega
 | 0,k + 1,r,hr,hk=>by
  have a : (i + (j + 1 - i)) * w ≤ q * w:=Nat.mul_le_mul_right _ (by omega)
  rw [Nat.add_mul,Nat.mul_comm q w] at a
  have hSl : S.length = (j + 1 - i) * w:=by rw [hS,dY,dW (by omega)]
  have hrr : r = j + 1 - i:=by omega
  rw [cA.l0,if_pos (aU (by rw [List.length_take]; omega)),if_neg (by omega),List.take_of_length_le (by rw [hSl,hrr]; exact Nat.le_refl _)]
 | m + 1,0,_,_,hk=>by omega
 | m + 1,k + 1,r,hr,hk=>by
  have a : (i + (j + 1 - i)) * w ≤ q * w:=Nat.mul_le_mul_right _ (by omega)
  rw [Nat.add_mul,Nat.mul_comm q w] at a
  have hSl : S.length = (j + 1 - i) * w:=by rw [hS,dY,dW (by omega)]
  have hZ : (bB g.f2 (i * w) (S.take (r * w))).length = g.f2.length:=aU (by rw [List.length_take]; omega)
  have b:=yp g w q i j by_ s e0 e1 hlen hb hq5 hw5 hij hj S hS r (by omega) _ hZ w k 0 (by omega) (by omega)
  rw [Nat.add_zero] at b
  rw [cA.l0,if_pos hZ,if_pos (by omega),show (0 : Int) = ((0 : Nat) : Int) from rfl,b]
  simp only [Option.bind_some,lt]
  rw [if_pos (by rw [aU (by rw [List.length_take]; omega),aU (by rw [List.length_take]; omega)]),gv (by omega)]
  have ih:=Dw g w q i j by_ s e0 e1 hlen hb hq5 hw5 hij hj S hS m k (r + 1) (by omega) (by omega)
  rw [Nat.add_mul,Nat.one_mul] at ih
  exact ih
theorem EA (g : bH) (hg : Gr g) (t u by_ : Int) (s : cM) (k : Nat) (hk : 1100000 ≤ k) : cA.f k g t u by_ s = some (gC g t u by_ s):=by
 unfold cA.f gC
 rw [f82 g hg s t k (by omega)]
 simp only [Option.bind_some,lt]
 cases hr : gO g t u s
 ·by_cases m : t ≤ u
  ·by_cases h2 : u < g.f1
   ·have o : t < g.f1:=by omega
    have : ik g t s = false:=by
     unfold gO at hr; unfold ik
     simpa [m,h2,o] using hr
    simp [this,no]
   ·simp [show u ≥ g.f1 from by omega,no]
  ·simp [show u < t from by omega,no]
 ·obtain ⟨w,q,i,j,a,l,rfl,rfl,p,h,d,hij,hj,hlen,hb⟩:=iG hr
  have hro : ik g (i : Int) s = true:=by
   unfold gO at hr; unfold ik
   simp only [Bool.and_eq_true,decide_eq_true_eq] at hr ⊢
   exact ⟨hr.1,hr.2.1,by omega,hr.2.2.2.2⟩
  have c : (i + (j + 1 - i)) * w ≤ q * w:=Nat.mul_le_mul_right _ (by omega)
  rw [Nat.add_mul,Nat.mul_comm q w] at c
  simp only [hro,show ¬ ((j : Int) < (i : Int)) from by omega,show ¬ ((j : Int) ≥ g.f1) from by omega,decide_false,Bool.not_true,Bool.or_self,Bool.false_eq_true,if_false,Option.bind_some]
  rw [xA g (by omega)]
  simp only [Option.bind_some]
  have b:=Dw g w q i j by_ s a l hlen hb d h hij hj _ rfl (j + 1 - i) k 0 (by omega) (by omega)
  rw [Nat.zero_mul,List.take_zero,jz,Nat.add_zero] at b
  rw [b]
  simp only [Option.bind_some]
  rw [if_pos (aU (by rw [dY,dW (by omega)]; omega))]
  simp [a]
theorem Dx (a b : bH) (h : a.f2.length = b.f2.length) (hl : a.f2.length < 4611686018427387904) : ∀ (m k i : Nat),i + m = a.f2.length → m < k →
  en.l0 a b k (i : Int) = some (if a.f2.drop i = b.f2.drop i then Out.go () else Out.ret false)
 | 0,0,_,_,hk=>by omega
 | 0,k + 1,i,hi,hk=>by
  rw [en.l0,if_neg (by omega),List.drop_of_length_le (by omega),List.drop_of_length_le (by omega)]; simp
 | m + 1,0,_,_,hk=>by omega
 | m + 1,k + 1,i,hi,hk=>by
  have c : i < a.f2.length:=by omega
  have h2 : i < b.f2.length:=by omega
  rw [en.l0,if_pos (by omega),if_pos (by omega),if_pos (by omega),fa c,fa h2,List.drop_eq_getElem_cons c,List.drop_eq_getElem_cons h2]
  by_cases he : a.f2[i] = b.f2[i]
  ·rw [if_neg (by simpa using he)]
   simp only [lt,gv (show i < 4611686018427387904 by omega)]
   rw [Dx a b h hl m k (i + 1) (by omega) (by omega)]
   simp only [List.cons.injEq,he,true_and]
  ·rw [if_pos he,if_neg (by intro q; exact he (List.cons.inj q).1)]
def sh (a b : bH) : Bool:=decide (a.f0 = b.f0) && (decide (a.f1 = b.f1) && decide (a.f2 = b.f2))
theorem BK (a b : bH) (hl : a.f2.length < 4611686018427387904) (k : Nat) (hk : a.f2.length < k) : en.f k a b = some (sh a b):=by
 unfold en.f sh
 simp only [lt]
 by_cases d : a.f0 = b.f0
 ·by_cases h : a.f1 = b.f1
  ·by_cases h2 : a.f2.length = b.f2.length
   ·have j:=Dx a b h2 hl a.f2.length k 0 (by omega) hk
    rw [List.drop_zero,List.drop_zero] at j
    have e : en.l0 a b k 0 = some (if a.f2 = b.f2 then Out.go () else Out.ret false):=j
    simp only [d,h,h2,ne_eq,not_true_eq_false,decide_false,Bool.or_self,Bool.false_eq_true,if_false,e,Option.bind_some]
    by_cases c : a.f2 = b.f2
    ·rw [if_pos c]; simp [jG,c]
    ·rw [if_neg c]; simp [ku,c]
   ·have : a.f2 ≠ b.f2:=fun q=>h2 (by rw [q])
    have h2' : ¬ ((a.f2.length : Int) = (b.f2.length : Int)):=by omega
    simp [d,h,h2,this]
    intro q; exact absurd q h2'
  ·simp [h]
 ·simp [d]
end Go.Proofs.YtckilbegmbaeeaaGreat.Z6Sp
namespace Go.Proofs.YtckilbegmbaeeaaGreat.Z6Sp
open Go Go.RowKit Go.Proofs.YtckilbegmbaeeaaGreat.SL Go.Proofs.YtckilbegmbaeeaaGreat.Z6 Go.Proofs.YtckilbegmbaeeaaGreat.Z6May Go.Proofs.YtckilbegmbaeeaaGreat.Z6Ls Go.Proofs.YtckilbegmbaeeaaGreat.Z6Op
set_option linter.unusedVariables false
set_option linter.unusedSimpArgs false
def oa (c r : Int) (s : cM) : bH × Int:=if (eE c r && cn s) = true then (bH.mk c r (List.replicate (c * r).toNat (eL s)),0) else no
theorem vR (X : List aY) (b : aY) (hb : X.length < 4611686018427387904) : ∀ (m k i : Nat),i + m = X.length → m < k →
  gP.l0 X b k (i : Int) (bB X 0 (List.replicate i b)) = some (bB X 0 (List.replicate X.length b))
 | 0,0,_,_,hk=>by omega
 | 0,k + 1,i,hi,hk=>by
  rw [gP.l0,if_pos (by rw [aU (by simp; omega)]),if_neg (by omega),show i = X.length from by omega]
 | m + 1,0,_,_,hk=>by omega
 | m + 1,k + 1,i,hi,hk=>by
  rw [gP.l0,if_pos (by rw [aU (by simp; omega)]),if_pos (by omega),if_pos (by rw [aU (by simp; omega)]; omega)]
  simp only [lt]
  rw [gv (by omega)]
  have e : ((i : Int)).toNat = 0 + (List.replicate i b).length:=by simp
  rw [e,jA (by simp; omega),← List.replicate_succ']
  exact vR X b hb m k (i + 1) (by omega) (by omega)
theorem xU (X : List aY) (s : cM) (hb : X.length < 4611686018427387904) (k : Nat) (hk : X.length < k) : gP.f k X s = some (List.replicate X.length (eL s)):=by
 unfold gP.f
 rw [wI]
 have:=vR X (eL s) hb X.length k 0 (by omega) hk
 rw [List.replicate_zero,jz] at this
 simp only [Option.bind_some]
 rw [show (0 : Int) = ((0 : Nat) : Int) from rfl,this]
 simp only [Option.bind_some]
 rw [if_pos (aU (by simp))]
 unfold bB; simp
theorem zV (w q : Nat) (s : cM) (hq : w * q ≤ 262144) (k : Nat) (hk : 262144 < k) : ta.f k (w : Int) (q : Int) s = some (bH.mk (w : Int) (q : Int) (List.replicate (w * q) (eL s))):=by
 unfold ta.f
 rw [show (w : Int) * (q : Int) = ((w * q : Nat) : Int) from by simp,eV (by omega) (by omega),if_pos (by omega),Int.toNat_natCast]
 simp only [lt]
 rw [xU _ s (by simp; omega) k (by simp; omega)]
 simp
theorem EC (c r : Int) (s : cM) (k : Nat) (hk : 1100000 ≤ k) : wc.f k c r s = some (oa c r s):=by
 unfold wc.f oa
 rw [f78]
 simp only [Option.bind_some,xC]
 cases hs : eE c r
 ·simp [no]
 ·cases hm : cn s
  ·simp [no]
  ·obtain ⟨w,q,rfl,rfl,_,_,_,_,hq,hc,_⟩:=fP hs
   simp only [Bool.not_true,Bool.false_eq_true,if_false,Option.bind_some,Bool.and_self,if_true]
   rw [zV w q s hq k (by omega),hc,Int.toNat_natCast]
   rfl
theorem Dy (w q : Nat) (s : cM) (hq : w * q ≤ 262144) : ∀ (m k i : Nat),i + m = w * q → m < k →
  pQ.l0 (w : Int) (q : Int) s k (bH.mk (w : Int) (q : Int) (List.replicate i (eL s))) (i : Int) = some (bH.mk (w : Int) (q : Int) (List.replicate (w * q) (eL s)))
 | 0,0,_,_,hk=>by omega
 | 0,k + 1,i,hi,hk=>by
  rw [pQ.l0,show (w : Int) * (q : Int) = ((w * q : Nat) : Int) from by simp,eV (by omega) (by omega),if_neg (by omega),show i = w * q from by omega]
 | m + 1,0,_,_,hk=>by omega
 | m + 1,k + 1,i,hi,hk=>by
  rw [pQ.l0,show (w : Int) * (q : Int) = ((w * q : Nat) : Int) from by simp,eV (x:=((w * q : Nat) : Int)) (by omega) (by omega),if_pos (by omega),xB]
  simp only [Option.bind_some,lt]
  rw [if_pos (by simp; omega),gv (by omega),← List.replicate_succ']
  exact Dy w q s hq m k (i + 1) (by omega) (by omega)
theorem BL (c r : Int) (s : cM) (k : Nat) (hk : 1100000 ≤ k) : pQ.f k c r s = some (oa c r s):=by
 unfold pQ.f oa
 rw [zj,zj]
 simp only [Option.bind_some,ya]
 have hss:=vZ c r
 cases a : decide (1 ≤ c∧c ≤ 512)
 ·rw [a,Bool.false_and] at hss; rw [← hss]; simp [no]
 ·cases h2 : decide (1 ≤ r∧r ≤ 512)
  ·rw [a,h2,Bool.and_false] at hss; rw [← hss]; simp [no]
  ·rw [a,h2,Bool.and_self] at hss
   cases hm : cn s
   ·rw [← hss]; simp [no]
   ·obtain ⟨w,q,rfl,rfl,_,_,_,_,hq,hc,_⟩:=fP hss.symm
    rw [← hss]
    simp only [Bool.not_true,Bool.false_eq_true,if_false,Option.bind_some,Bool.and_self,if_true]
    have b:=Dy w q s hq (w * q) k 0 (by omega) (by omega)
    rw [List.replicate_zero] at b
    rw [show (0 : Int) = ((0 : Nat) : Int) from rfl,b,hc,Int.toNat_natCast]
    rfl
def mI (X : List aY) (w w' : Nat) : Nat → Nat → List aY → List aY
 | 0,_,Z=>Z
 | n + 1,i,Z=>mI X w w' n (i + 1) (bB Z (i * w') (co (bB (win Z (i * w') w') 0 ((win X (i * w) w).take w'))))
theorem lx {X Z : List aY} {w w' i : Nat} (hz : i * w' + w' ≤ Z.length) : (bB Z (i * w') (co (bB (win Z (i * w') w') 0 ((win X (i * w) w).take w')))).length = Z.length :=
 aU (by rw [cL,aU (by rw [List.length_take,dW hz]; omega),dW hz]; exact hz)
theorem mJ {X : List aY} {w w' q' : Nat} : ∀ (n i : Nat) (Z : List aY),i + n ≤ q' → Z.length = w' * q' → (mI X w w' n i Z).length = w' * q'
 | 0,i,Z,h,hl=>hl
 | n + 1,i,Z,h,hl=>by
  have hp:=fg (w:=w') (i:=i) (q:=q') (by omega)
  rw [mI]
  exact mJ n (i + 1) _ (by omega) (by rw [lx (by omega)]; exact hl)
def dB (g : bH) (c r : Int) (s : cM) : bH × Int :=
 if (ct g && (eE c r && cn s)) = true then (bH.mk c r (mI g.f2 g.f0.toNat c.toNat (min r g.f1).toNat 0 (List.replicate (c * r).toNat (eL s))),0) else no
theorem Dv (g : bH) (w q w' q' : Nat) (e0 : g.f0 = (w : Int)) (e1 : g.f1 = (q : Int)) (hlen : g.f2.length = w * q) (hb : w * q ≤ 262144) (hb' : w' * q' ≤ 262144) (hw' : w' ≤ 512) (hq5 : q' ≤ 512) (Z0 : List aY) (hZ0 : Z0.length = w' * q') : ∀ (m k i : Nat) (Z : List aY),i + m = min q' q → Z.length = w' * q' → m + 520 < k →
  qP.l0 g (q' : Int) (bH.mk (w' : Int) (q' : Int) Z0) k (i : Int) Z = some (mI g.f2 w w' m i Z)
 | 0,0,_,_,_,_,hk=>by omega
 | 0,k + 1,i,Z,hi,hZ,hk=>by
  rw [qP.l0,if_pos (show Z.length = Z0.length by omega),hP,e1,if_neg (by omega)]; rfl
 | m + 1,0,_,_,_,_,hk=>by omega
 | m + 1,k + 1,i,Z,hi,hZ,hk=>by
  have hp:=fg (w:=w') (i:=i) (q:=q') (by omega)
  have c:=wE Z w' q' i (q' : Int) hZ hb' (by omega)
  have h2:=xN g.f2 w q i g.f1 hlen hb (by omega)
  rw [← e0] at h2
  have hlt : ((win g.f2 (i * w) w).take w').length ≤ w':=by rw [List.length_take]; omega
  rw [qP.l0,if_pos (show Z.length = Z0.length by omega),hP,e1,if_pos (by omega),c]
  simp only [Option.bind_some]
  rw [if_pos (by omega),show pM.f g (i : Int) = some (win g.f2 (i * w) w) from h2]
  simp only [Option.bind_some,lt,Int.toNat_natCast]
  have hov : bB Z (i * w') ((win g.f2 (i * w) w).take w') = bB Z (i * w') (bB (win Z (i * w') w') 0 ((win g.f2 (i * w) w).take w')):=by
   have:=gA (X:=Z) (ys:=(win g.f2 (i * w) w).take w') (o:=i * w') (a:=0) (n:=w') (by omega) (by omega)
   simpa using this
  have b : (bB (win Z (i * w') w') 0 ((win g.f2 (i * w) w).take w')).length = w':=by rw [aU (by rw [dW (by omega)]; omega),dW (by omega)]
  have d : (bB Z (i * w') ((win g.f2 (i * w) w).take w')).length = Z.length:=aU (by omega)
  rw [xD _ (i * w') w' (by omega) (by omega) k (by omega)]
  simp only [Option.bind_some]
  rw [if_pos (aU (by rw [cL,dW (by omega)]; omega)),hov,iF (by omega) b,gv (by omega),mI]
  exact Dv g w q w' q' e0 e1 hlen hb hb' hw' hq5 Z0 hZ0 m k (i + 1) _ (by omega) (by rw [lx (by omega)]; exact hZ) (by omega)
theorem DF (g : bH) (w q w' q' : Nat) (e0 : g.f0 = (w : Int)) (e1 : g.f1 = (q : Int)) (hlen : g.f2.length = w * q) (hb : w * q ≤ 262144) (hb' : w' * q' ≤ 262144) (hw' : w' ≤ 512) (hq : q ≤ 512) (hq5 : q' ≤ 512) (Z0 : List aY) (hZ0 : Z0.length = w' * q') : ∀ (m k i : Nat) (Z : List aY),i + m = min q' q → Z.length = w' * q' → m + 520 < k →
  fQ.l0 g (q' : Int) (bH.mk (w' : Int) (q' : Int) Z0,0) k (i : Int) Z = some (mI g.f2 w w' m i Z)
 | 0,0,_,_,_,_,hk=>by omega
 | 0,k + 1,i,Z,hi,hZ,hk=>by
  rw [fQ.l0,if_pos (show Z.length = Z0.length by omega),hP,e1,if_neg (by omega)]; rfl
 | m + 1,0,_,_,_,_,hk=>by omega
 | m + 1,k + 1,i,Z,hi,hZ,hk=>by
  have hp:=fg (w:=w') (i:=i) (q:=q') (by omega)
  have d:=nq Z w' q' i (q' : Int) hZ hb' hq5 (by omega)
  have h2:=nq g.f2 w q i g.f1 hlen hb hq (by omega)
  have j:=fg (w:=w) (i:=i) (q:=q) (by omega)
  rw [← e0] at h2
  have hlt : ((win g.f2 (i * w) w).take w').length ≤ w':=by rw [List.length_take]; omega
  have b : (bB Z (i * w') ((win g.f2 (i * w) w).take w')).length = Z.length:=aU (by omega)
  have h:=nq (bB Z (i * w') ((win g.f2 (i * w) w).take w')) w' q' i (q' : Int) (by rw [b]; exact hZ) hb' hq5 (by omega)
  rw [fQ.l0,if_pos (show Z.length = Z0.length by omega),hP,e1,if_pos (by omega),d]
  simp only [Option.bind_some]
  rw [if_pos (by omega),show dv.f g (i : Int) = some (((i * w : Nat) : Int),g.f0) from h2,e0]
  simp only [Option.bind_some]
  rw [if_pos (by omega),jk]
  simp only [lt,Int.toNat_natCast]
  rw [h]
  simp only [Option.bind_some]
  have hov : bB Z (i * w') ((win g.f2 (i * w) w).take w') = bB Z (i * w') (bB (win Z (i * w') w') 0 ((win g.f2 (i * w) w).take w')):=by
   have:=gA (X:=Z) (ys:=(win g.f2 (i * w) w).take w') (o:=i * w') (a:=0) (n:=w') (by omega) (by omega)
   simpa using this
  have c : (bB (win Z (i * w') w') 0 ((win g.f2 (i * w) w).take w')).length = w':=by rw [aU (by rw [dW (by omega)]; omega),dW (by omega)]
  rw [if_pos (by omega),f90 _ (i * w') w' (by omega) (by omega) (by omega) k (by omega)]
  simp only [Option.bind_some]
  rw [if_pos (aU (by rw [cL,dW (by omega)]; omega)),hov,iF (by omega) c,gv (by omega),mI]
  exact DF g w q w' q' e0 e1 hlen hb hb' hw' hq hq5 Z0 hZ0 m k (i + 1) _ (by omega) (by rw [lx (by omega)]; exact hZ) (by omega)
theorem Ez (g : bH) (hg : Gr g) (c r : Int) (s : cM) (k : Nat) (hk : 1100000 ≤ k) : qP.f k g c r s = some (dB g c r s):=by
 unfold qP.f dB
 rw [uZ g hg k hk,f78]
 simp only [Option.bind_some,xC]
 cases hm : ct g
 ·simp [no]
 ·cases hs : eE c r
  ·simp [no]
  ·cases hy : cn s
   ·simp [no]
   ·obtain ⟨w,q,a,b,_,_,_,_,hlen,hb⟩:=gM hm
    obtain ⟨w',q',rfl,rfl,_,_,_,_,hq,hc,_⟩:=fP hs
    simp only [Bool.not_true,Bool.false_eq_true,if_false,Option.bind_some,Bool.and_self,if_true]
    rw [zV w' q' s hq k (by omega)]
    simp only [Option.bind_some]
    have d:=Dv g w q w' q' a b hlen hb hq (by omega) (by omega) (List.replicate (w' * q') (eL s)) (by simp) (min q' q) k 0 (List.replicate (w' * q') (eL s)) (by omega) (by simp) (by omega)
    rw [show (0 : Int) = ((0 : Nat) : Int) from rfl,d]
    simp only [Option.bind_some]
    rw [if_pos (by rw [mJ (q':=q') _ _ _ (by omega) (by simp)]; simp),hc,a,b]
    simp only [Int.toNat_natCast,show (min (q' : Int) (q : Int)).toNat = min q' q from by omega]
theorem yu (g : bH) (w q w' q' : Nat) (e0 : g.f0 = (w : Int)) (e1 : g.f1 = (q : Int)) (hlen : g.f2.length = w * q) (hb : w * q ≤ 262144) (hb' : w' * q' ≤ 262144) (hw' : w' ≤ 512) (hq5 : q' ≤ 512) (Z0 : List aY) (hZ0 : Z0.length = w' * q') : ∀ (m k i : Nat) (Z : List aY),i + m = min q' q → Z.length = w' * q' → m + 520 < k →
  js.l0 g (q' : Int) (bH.mk (w' : Int) (q' : Int) Z0) k (i : Int) Z = some (mI g.f2 w w' m i Z)
 | 0,0,_,_,_,_,hk=>by omega
 | 0,k + 1,i,Z,hi,hZ,hk=>by
  rw [js.l0,if_pos (show Z.length = Z0.length by omega),hP,e1,if_neg (by omega)]; rfl
 | m + 1,0,_,_,_,_,hk=>by omega
 | m + 1,k + 1,i,Z,hi,hZ,hk=>by
  have hp:=fg (w:=w') (i:=i) (q:=q') (by omega)
  have c:=wE Z w' q' i (q' : Int) hZ hb' (by omega)
  have h2:=wE g.f2 w q i g.f1 hlen hb (by omega)
  have h:=fg (w:=w) (i:=i) (q:=q) (by omega)
  rw [← e0] at h2
  have hlt : ((win g.f2 (i * w) w).take w').length ≤ w':=by rw [List.length_take]; omega
  rw [js.l0,if_pos (show Z.length = Z0.length by omega),hP,e1,if_pos (by omega),c]
  simp only [Option.bind_some]
  rw [if_pos (by omega),show jc.f g (i : Int) = some (((i * w : Nat) : Int),g.f0) from h2,e0]
  simp only [Option.bind_some]
  rw [if_pos (by omega),jk]
  simp only [lt,Int.toNat_natCast]
  have hov : bB Z (i * w') ((win g.f2 (i * w) w).take w') = bB Z (i * w') (bB (win Z (i * w') w') 0 ((win g.f2 (i * w) w).take w')):=by
   have:=gA (X:=Z) (ys:=(win g.f2 (i * w) w).take w') (o:=i * w') (a:=0) (n:=w') (by omega) (by omega)
   simpa using this
  have b : (bB (win Z (i * w') w') 0 ((win g.f2 (i * w) w).take w')).length = w':=by rw [aU (by rw [dW (by omega)]; omega),dW (by omega)]
  have d : (bB Z (i * w') ((win g.f2 (i * w) w).take w')).length = Z.length:=aU (by omega)
  rw [xD _ (i * w') w' (by omega) (by omega) k (by omega)]
  simp only [Option.bind_some]
  rw [if_pos (aU (by rw [cL,dW (by omega)]; omega)),hov,iF (by omega) b,gv (by omega),mI]
  exact yu g w q w' q' e0 e1 hlen hb hb' hw' hq5 Z0 hZ0 m k (i + 1) _ (by omega) (by rw [lx (by omega)]; exact hZ) (by omega)
theorem zW (g : bH) (hg : Gr g) (c r : Int) (s : cM) (k : Nat) (hk : 1100000 ≤ k) : js.f k g c r s = some (dB g c r s):=by
 unfold js.f dB
 rw [uZ g hg k hk,f78]
 simp only [Option.bind_some,xC]
 cases hm : ct g
 ·simp [no]
 ·cases hs : eE c r
  ·simp [no]
  ·cases hy : cn s
   ·simp [no]
   ·obtain ⟨w,q,a,b,_,_,_,_,hlen,hb⟩:=gM hm
    obtain ⟨w',q',rfl,rfl,_,_,_,_,hq,hc,_⟩:=fP hs
    simp only [Bool.not_true,Bool.false_eq_true,if_false,Option.bind_some,Bool.and_self,if_true]
    rw [zV w' q' s hq k (by omega)]
    simp only [Option.bind_some]
    have d:=yu g w q w' q' a b hlen hb hq (by omega) (by omega) (List.replicate (w' * q') (eL s)) (by simp) (min q' q) k 0 (List.replicate (w' * q') (eL s)) (by omega) (by simp) (by omega)
    rw [show (0 : Int) = ((0 : Nat) : Int) from rfl,d]
    simp only [Option.bind_some]
    rw [if_pos (by rw [mJ (q':=q') _ _ _ (by omega) (by simp)]; simp),hc,a,b]
    simp only [Int.toNat_natCast,show (min (q' : Int) (q : Int)).toNat = min q' q from by omega]
theorem BM (g : bH) (hg : Gr g) (c r : Int) (s : cM) (k : Nat) (hk : 1100000 ≤ k) : fQ.f k g c r s = some (dB g c r s):=by
 unfold fQ.f dB
 rw [uY g hg k hk,BL c r s k hk]
 simp only [Option.bind_some]
 cases hm : ct g
 ·simp [no]
 ·unfold oa
  cases hs : eE c r
  ·simp [no]
  ·cases hy : cn s
   ·simp [no]
   ·obtain ⟨w,q,a,b,_,_,_,_,hlen,hb⟩:=gM hm
    obtain ⟨w',q',rfl,rfl,_,_,_,_,hq,hc,_⟩:=fP hs
    simp only [Bool.not_true,Bool.false_eq_true,if_false,Bool.and_self,if_true,ne_eq,not_true_eq_false]
    rw [hc,Int.toNat_natCast]
    have d:=DF g w q w' q' a b hlen hb hq (by omega) (by omega) (by omega) (List.replicate (w' * q') (eL s)) (by simp) (min q' q) k 0 (List.replicate (w' * q') (eL s)) (by omega) (by simp) (by omega)
    rw [show fQ.l0 g (q' : Int) (bH.mk (w' : Int) (q' : Int) (List.replicate (w' * q') (eL s)),0) k 0 (List.replicate (w' * q') (eL s)) = _ from d]
    simp only [Option.bind_some]
    rw [if_pos (by rw [mJ (q':=q') _ _ _ (by omega) (by simp)]; simp),a,b]
    simp only [Int.toNat_natCast,show (min (q' : Int) (q : Int)).toNat = min q' q from by omega]
end Go.Proofs.YtckilbegmbaeeaaGreat.Z6Sp
namespace Go.Proofs.YtckilbegmbaeeaaGreat.Z6Sp
open Go Go.RowKit Go.Proofs.YtckilbegmbaeeaaGreat.SL Go.Proofs.YtckilbegmbaeeaaGreat.Z6 Go.Proofs.YtckilbegmbaeeaaGreat.Z6May Go.Proofs.YtckilbegmbaeeaaGreat.Z6Ls Go.Proofs.YtckilbegmbaeeaaGreat.Z6Op
set_option linter.unusedVariables false
set_option linter.unusedSimpArgs false
def ug (W : List aY) (j : Nat) : Prop :=
 cv (rd W (j : Int)) = true∧((rd W (j : Int)).f2 = 0 ↔ (0 < j∧(rd W ((j - 1 : Nat) : Int)).f2 = 2)) ∧
  ((0 < j∧(rd W ((j - 1 : Nat) : Int)).f2 = 2) → (rd W (j : Int)).f3 = (rd W ((j - 1 : Nat) : Int)).f3)∧¬ ((rd W (j : Int)).f2 = 2∧j = W.length - 1)
def lP (W : List aY) : Prop:=∀ j,j < W.length → ug W j
theorem rX (g : bH) (w i j : Nat) (hj : j < w) (hl : i * w + w ≤ g.f2.length) : tQ g w (i * w + j) = true ↔ ug (win g.f2 (i * w) w) j:=by
 rw [kK]; unfold ug
 have hm : (i * w + j) % w = j:=by rw [Nat.mul_comm,Nat.mul_add_mod,Nat.mod_eq_of_lt hj]
 have a : rd (win g.f2 (i * w) w) (j : Int) = rd g.f2 ((i * w + j : Nat) : Int):=by rw [md hj hl]; congr 1
 rw [hm,dW hl,a]
 by_cases c : j = 0
 ·subst c; simp
 ·have b : rd (win g.f2 (i * w) w) ((j - 1 : Nat) : Int) = rd g.f2 ((i * w + j - 1 : Nat) : Int):=by
   rw [md (by omega) hl,show i * w + j - 1 = i * w + (j - 1) from by omega]; congr 1
  rw [b]
theorem eU (g : bH) : ct g = true ↔ ∃ w q : Nat,g.f0 = (w : Int)∧g.f1 = (q : Int)∧0 < w∧w ≤ 512∧0 < q∧q ≤ 512∧g.f2.length = w * q∧∀ i,i < q → lP (win g.f2 (i * w) w):=by
 constructor
 ·intro h
  obtain ⟨w,q,l,m,a,b,c,d,hl,_⟩:=gM h
  refine ⟨w,q,l,m,a,b,c,d,hl,fun i hi j hj=>?_⟩
  have hp:=fg (w:=w) hi
  rw [dW (by omega)] at hj
  unfold ct at h
  simp only [Bool.and_eq_true,List.all_eq_true,List.mem_range] at h
  have:=h.2 (i * w + j) (by omega)
  rw [l,Int.toNat_natCast] at this
  exact (rX g w i j hj (by omega)).1 this
 ·rintro ⟨w,q,l,m,a,b,c,d,hl,hr⟩
  unfold ct
  simp only [Bool.and_eq_true,List.all_eq_true,List.mem_range,decide_eq_true_eq]
  refine ⟨⟨by omega,by omega,by omega,by omega,by rw [hl,l,m]; simp⟩,fun n hn=>?_⟩
  rw [l,Int.toNat_natCast]
  have o:=Nat.mod_lt n a
  have h2:=Nat.div_add_mod n w
  have p : n / w < q:=Nat.div_lt_of_lt_mul (by omega)
  have hp:=fg (w:=w) p
  have r : n = n / w * w + n % w:=by rw [Nat.mul_comm]; omega
  rw [r]
  exact (rX g w (n / w) (n % w) o (by omega)).2 (hr _ p _ (by rw [dW (by omega)]; exact o))
theorem wV {l : List aY} {x : aY} (h : x ∈ l) : ∃ i,i < l.length∧rd l (i : Int) = x:=by
 obtain ⟨i,hi,e⟩:=List.getElem_of_mem h
 exact ⟨i,hi,by rw [fa hi,e]⟩
theorem nW {l : List aY} {i : Nat} (h : i < l.length) : rd l (i : Int) ∈ l:=by rw [fa h]; exact List.getElem_mem h
theorem lP.cells {W : List aY} (h : lP W) : ∀ x ∈ W,cv x = true:=fun x hx=>by
 obtain ⟨i,hi,e⟩:=wV hx
 rw [← e]; exact (h i hi).1
theorem zc : gI 32 = 1:=by kernel_rfl
theorem lJ {s : cM} (h : cn s = true) : cv (eL s) = true:=by
 have a : qj s.f1 = true:=by unfold cn at h; simp only [Bool.and_eq_true] at h; exact h.2
 have h2 : cn (cM.mk (-1) s.f1 false false false false false false false false) = true:=by unfold cn; rw [a]; rfl
 unfold cv eL
 simp only [h2,zc]
 simp [gz]
theorem sG {x : aY} (h : cv x = true) : cn x.f3 = true:=by
 unfold cv at h
 cases hs : cn x.f3
 ·rw [hs] at h; simp at h
 ·rfl
theorem lK {W : List aY} (h : ∀ x ∈ W,cv x = true) : lP (co W):=by
 intro j hj
 rw [cL] at hj
 have key : ∀ i,i < W.length → cv (ey W i) = true:=fun i hi=>by
  have hm:=h _ (nW hi)
  unfold ey; split
  ·exact lJ (sG hm)
  ·exact hm
 have a : ∀ i,i < W.length → ((ey W i).f2 = 2 ↔ (rd W (i : Int)).f2 = 2∧nw W ((i : Int) + 1) 0 (rd W (i : Int)).f3 = true):=fun i hi=>by
  unfold ey iV
  by_cases c1 : (rd W (i : Int)).f2 = 2
  ·cases c2 : nw W ((i : Int) + 1) 0 (rd W (i : Int)).f3 <;> simp [c1,eL]
  ·cases c2 : nw W ((i : Int) - 1) 2 (rd W (i : Int)).f3 <;> by_cases c3 : (rd W (i : Int)).f2 = 0 <;> simp [c1,c3,eL]
 have m : ∀ i,i < W.length → ((ey W i).f2 = 0 ↔ (rd W (i : Int)).f2 = 0∧nw W ((i : Int) - 1) 2 (rd W (i : Int)).f3 = true):=fun i hi=>by
  unfold ey iV
  by_cases c1 : (rd W (i : Int)).f2 = 0
  ·cases c2 : nw W ((i : Int) - 1) 2 (rd W (i : Int)).f3 <;> simp [c1,eL]
  ·cases c2 : nw W ((i : Int) + 1) 0 (rd W (i : Int)).f3 <;> by_cases c3 : (rd W (i : Int)).f2 = 2 <;> simp [c1,c3,eL]
 have y : ∀ i,(ey W i).f2 = 2 → ey W i = rd W (i : Int):=fun i hi=>by
  unfold ey at hi ⊢; split
  ·rename_i q; rw [if_pos q] at hi; simp [eL] at hi
  ·rfl
 have u : ∀ i,(ey W i).f2 = 0 → ey W i = rd W (i : Int):=fun i hi=>by
  unfold ey at hi ⊢; split
  ·rename_i q; rw [if_pos q] at hi; simp [eL] at hi
  ·rfl
 unfold ug
 rw [mE hj,cL]
 refine ⟨key j hj,?_,?_,?_⟩
 ·rw [m j hj]
  constructor
  ·rintro ⟨c1,c2⟩
   unfold nw at c2
   simp only [decide_eq_true_eq] at c2
   obtain ⟨B,D,o,p⟩:=c2
   have d : 0 < j:=by omega
   have ej : (j : Int) - 1 = ((j - 1 : Nat) : Int):=by omega
   rw [ej] at o p
   refine ⟨d,?_⟩
   rw [mE (by omega),a _ (by omega)]
   refine ⟨o,?_⟩
   unfold nw
   rw [show ((j - 1 : Nat) : Int) + 1 = (j : Int) from by omega]
   simp only [decide_eq_true_eq]
   exact ⟨by omega,by omega,c1,p.symm⟩
  ·rintro ⟨d,c⟩
   rw [mE (by omega),a _ (by omega)] at c
   obtain ⟨c1,c2⟩:=c
   unfold nw at c2
   rw [show ((j - 1 : Nat) : Int) + 1 = (j : Int) from by omega] at c2
   simp only [decide_eq_true_eq] at c2
   obtain ⟨r,s,l,b⟩:=c2
   refine ⟨l,?_⟩
   unfold nw
   rw [show (j : Int) - 1 = ((j - 1 : Nat) : Int) from by omega]
   simp only [decide_eq_true_eq]
   exact ⟨by omega,by omega,c1,b.symm⟩
 ·rintro ⟨d,c⟩
  rw [mE (by omega)] at c ⊢
  have c':=(a _ (by omega)).1 c
  rw [y _ c]
  obtain ⟨c1,c2⟩:=c'
  unfold nw at c2
  rw [show ((j - 1 : Nat) : Int) + 1 = (j : Int) from by omega] at c2
  simp only [decide_eq_true_eq] at c2
  obtain ⟨r,s,l,b⟩:=c2
  have z : (ey W j).f2 = 0:=by
   rw [m j hj]; refine ⟨l,?_⟩
   unfold nw
   rw [show (j : Int) - 1 = ((j - 1 : Nat) : Int) from by omega]
   simp only [decide_eq_true_eq]
   exact ⟨by omega,by omega,c1,b.symm⟩
  rw [u _ z]; exact b
 ·rintro ⟨c,e⟩
  rw [a j hj] at c
  have c2:=c.2
  unfold nw at c2
  simp only [decide_eq_true_eq] at c2
  omega
theorem jy {xs ys : List aY} {o : Nat} {x : aY} (h : x ∈ bB xs o ys) : x ∈ xs ∨ x ∈ ys:=by
 unfold bB at h
 simp only [List.mem_append] at h
 rcases h with (h | h) | h
 ·exact .inl (List.mem_of_mem_take h)
 ·exact .inr h
 ·exact .inl (List.mem_of_mem_drop h)
theorem oS {W : List aY} {d : Int} {b x : aY} (h : x ∈ dV W d b) : x ∈ W ∨ x = b:=by
 unfold dV at h
 simp only [List.mem_map,List.mem_range] at h
 obtain ⟨j,hj,e⟩:=h
 split at e
 ·rename_i q
  rw [← e,List.getD_eq_getElem?_getD,List.getElem?_eq_getElem (by omega)]
  exact .inl (List.getElem_mem _)
 ·exact .inr e.symm
theorem sL {g : bH} {row : Int} {s : cM} {f : List aY → List aY} (h : ik g row s = true) (hf : ∀ W : List aY,W.length = g.f0.toNat → (∀ x ∈ W,cv x = true) → (f W).length = W.length∧∀ x ∈ f W,cv x = true) : ct (lu g row f).1 = true:=by
 have hm : ct g = true:=by unfold ik at h; simp only [Bool.and_eq_true] at h; exact h.1
 obtain ⟨w,q,l,m,a,b,c,d,hl,hr⟩:=(eU g).1 hm
 obtain ⟨w',q',i,e0',e1',rfl,_,_,_,hi',hl',hb,hp⟩:=kL h
 obtain rfl : w' = w:=by omega
 obtain rfl : q' = q:=by omega
 unfold lu
 rw [l] at hf ⊢
 simp only [Int.toNat_natCast] at hf ⊢
 have hw:=dW (xs:=g.f2) hp
 obtain ⟨f1,f2⟩:=hf _ hw (hr i hi').cells
 have hR : (co (f (win g.f2 (i * w') w'))).length = w':=by rw [cL,f1,hw]
 rw [eU]
 refine ⟨w',q',rfl,m,a,b,c,d,by rw [aU (by omega)]; exact hl,fun j hj=>?_⟩
 by_cases hij : j = i
 ·subst hij
  show lP (win (bB g.f2 (j * w') _) (j * w') w')
  rw [kx hR hp]
  exact lK f2
 ·show lP (win (bB g.f2 (i * w') _) (j * w') w')
  rw [kP hp hR]
  ·exact hr j hj
  ·rcases Nat.lt_or_ge j i with z | z
   ·left; have:=Nat.mul_le_mul_right w' (show j + 1 ≤ i from z); rw [Nat.add_mul] at this; omega
   ·right; have:=Nat.mul_le_mul_right w' (show i + 1 ≤ j from by omega); rw [Nat.add_mul] at this; omega
theorem kE (n : Nat) {s : cM} (h : cn s = true) : lP (List.replicate n (eL s)):=by
 intro j hj
 rw [List.length_replicate] at hj
 have e : ∀ i,i < n → rd (List.replicate n (eL s)) (i : Int) = eL s:=fun i hi=>by rw [fa (by simpa using hi)]; simp
 unfold ug
 rw [e j hj]
 refine ⟨lJ h,?_,?_,?_⟩
 ·constructor
  ·intro z; simp [eL] at z
  ·rintro ⟨z,y⟩; rw [e _ (by omega)] at y; simp [eL] at y
 ·rintro ⟨z,y⟩; rw [e _ (by omega)] at y; simp [eL] at y
 ·rintro ⟨z,_⟩; simp [eL] at z
theorem sT {W : List aY} {w h p : Nat} {d : Int} {b : aY} (hl : W.length = h * w) (hp : p < h) :
  win (dV W (d * (w : Int)) b) (p * w) w = if 0 ≤ (p : Int) + d∧(p : Int) + d < (h : Int) then win W (((p : Int) + d).toNat * w) w else List.replicate w b:=by
 have hpw:=fg (w:=w) hp
 rw [Nat.mul_comm w h,← hl] at hpw
 apply List.ext_getElem?
 intro c
 rw [er]
 by_cases hc : c < w
 ·rw [if_pos hc,lN (by omega)]
  have e : ((p * w + c : Nat) : Int) + d * (w : Int) = ((p : Int) + d) * (w : Int) + (c : Int):=by rw [Int.add_mul]; push_cast; omega
  rw [e,hl,show ((h * w : Nat) : Int) = (h : Int) * (w : Int) from by simp]
  have j:=rp (p:=(p : Int) + d) hc
  have l:=uh (p:=(p : Int) + d) (h:=(h : Int)) hc
  by_cases q : 0 ≤ (p : Int) + d∧(p : Int) + d < (h : Int)
  ·rw [if_pos ⟨j.2 q.1,l.2 q.2⟩,if_pos q,er,if_pos hc]
   obtain ⟨z,hz⟩ : ∃ z : Nat,(p : Int) + d = (z : Int):=⟨((p : Int) + d).toNat,by omega⟩
   rw [hz] at q ⊢
   have a:=fg (w:=w) (show z < h by omega)
   rw [Nat.mul_comm w h,← hl] at a
   rw [show ((z : Int) * (w : Int) + (c : Int)).toNat = z * w + c from by rw [show (z : Int) * (w : Int) + (c : Int) = ((z * w + c : Nat) : Int) from by simp]; exact Int.toNat_natCast _,Int.toNat_natCast,List.getD_eq_getElem?_getD,List.getElem?_eq_getElem (show z * w + c < W.length by omega)]
   rfl
  ·rw [if_neg (fun z=>q ⟨j.1 z.1,l.1 z.2⟩),if_neg q,List.getElem?_replicate,if_pos hc]
 ·rw [if_neg hc]
  split
  ·rw [er,if_neg hc]
  ·rw [List.getElem?_replicate,if_neg hc]
theorem ry {g : bH} {t u d : Int} {s : cM} (h : (gC g t u d s).2 = 0) : ct (gC g t u d s).1 = true:=by
 unfold gC at h ⊢
 split
 ·rename_i h
  have hs : cn s = true:=by unfold gO at h; simp only [Bool.and_eq_true] at h; exact h.2.2.2.2
  have hm : ct g = true:=by unfold gO at h; simp only [Bool.and_eq_true] at h; exact h.1
  obtain ⟨w,q,r,l,a,b,c,d',hl,hr⟩:=(eU g).1 hm
  obtain ⟨w',q',i,j,e0',e1',rfl,rfl,_,_,_,hij,hj,hl',hb⟩:=iG h
  obtain rfl : w' = w:=by omega
  obtain rfl : q' = q:=by omega
  rw [r]
  simp only [Int.toNat_natCast]
  have D : i * w' + (j + 1 - i) * w' ≤ w' * q':=by
   rw [← Nat.add_mul,Nat.mul_comm w' q']
   exact Nat.mul_le_mul_right _ (by omega)
  have hW:=dW (xs:=g.f2) (o:=i * w') (n:=(j + 1 - i) * w') (by omega)
  have hS : (dV (win g.f2 (i * w') ((j + 1 - i) * w')) (d * (w' : Int)) (eL s)).length = (j + 1 - i) * w':=by rw [dY,hW]
  have hgood : ∀ p,p < j + 1 - i → lP (win (dV (win g.f2 (i * w') ((j + 1 - i) * w')) (d * (w' : Int)) (eL s)) (p * w') w'):=fun p hp=>by
   rw [sT hW hp]
   split
   ·rename_i z
    obtain ⟨y,hy⟩ : ∃ y : Nat,(p : Int) + d = (y : Int):=⟨((p : Int) + d).toNat,by omega⟩
    rw [hy] at z ⊢
    rw [Int.toNat_natCast]
    have m:=fg (w:=w') (show y < j + 1 - i by omega)
    rw [Nat.mul_comm w' (j + 1 - i)] at m
    have : win (win g.f2 (i * w') ((j + 1 - i) * w')) (y * w') w' = win g.f2 ((i + y) * w') w':=by
     apply List.ext_getElem?
     intro c'
     rw [er,er,er]
     by_cases hc : c' < w'
     ·rw [if_pos hc,if_pos (by omega),if_pos hc,Nat.add_mul]; congr 1; omega
     ·rw [if_neg hc,if_neg hc]
    rw [this]
    exact hr _ (by omega)
   ·exact kE w' hs
  generalize dV (win g.f2 (i * w') ((j + 1 - i) * w')) (d * (w' : Int)) (eL s) = R at hS hgood
  rw [eU]
  refine ⟨w',q',rfl,l,a,b,c,d',by rw [aU (by omega)]; exact hl,fun p hp=>?_⟩
  show lP (win (bB g.f2 (i * w') R) (p * w') w')
  have hpp:=fg (w:=w') hp
  by_cases c1 : p < i
  ·have e : win (bB g.f2 (i * w') R) (p * w') w' = win g.f2 (p * w') w':=by
    have:=Nat.mul_le_mul_right w' (show p + 1 ≤ i from c1)
    rw [Nat.add_mul] at this
    apply List.ext_getElem?
    intro c'
    rw [er,er,dx (by omega)]
    by_cases hc : c' < w'
    ·rw [if_pos hc,if_pos hc,if_pos (by omega)]
    ·rw [if_neg hc,if_neg hc]
   rw [e]; exact hr p hp
  ·by_cases c2 : p ≤ j
   ·have e : win (bB g.f2 (i * w') R) (p * w') w' = win R ((p - i) * w') w':=by
     have l : p * w' = i * w' + (p - i) * w':=by rw [← Nat.add_mul]; congr 1; omega
     have B:=fg (w:=w') (show p - i < j + 1 - i by omega)
     rw [Nat.mul_comm w' (j + 1 - i)] at B
     apply List.ext_getElem?
     intro c'
     rw [er,er,dx (by omega)]
     by_cases hc : c' < w'
     ·rw [if_pos hc,if_pos hc,if_neg (by omega),if_pos (by omega)]; congr 1; omega
     ·rw [if_neg hc,if_neg hc]
    rw [e]; exact hgood _ (by omega)
   ·have e : win (bB g.f2 (i * w') R) (p * w') w' = win g.f2 (p * w') w':=by
     have:=Nat.mul_le_mul_right w' (show j + 1 ≤ p by omega)
     have l : i * w' + (j + 1 - i) * w' = (j + 1) * w':=by rw [← Nat.add_mul]; congr 1; omega
     apply List.ext_getElem?
     intro c'
     rw [er,er,dx (by omega)]
     by_cases hc : c' < w'
     ·rw [if_pos hc,if_pos hc,if_neg (by omega),if_neg (by omega)]
     ·rw [if_neg hc,if_neg hc]
    rw [e]; exact hr p hp
 ·rename_i q; rw [if_neg q] at h; simp [no] at h
theorem sd {X : List aY} {w w' q q' : Nat} (hX : ∀ i,i < q → ∀ x ∈ win X (i * w) w,cv x = true) : ∀ (n i : Nat) (Z : List aY),i + n ≤ q' → i + n ≤ q → Z.length = w' * q' → (∀ p,p < q' → lP (win Z (p * w') w')) → ∀ p,p < q' → lP (win (mI X w w' n i Z) (p * w') w')
 | 0,i,Z,_,_,hl,h,p,hp=>h p hp
 | n + 1,i,Z,a,h2,hl,h,p,hp=>by
  have hi:=fg (w:=w') (i:=i) (q:=q') (by omega)
  have ht : ((win X (i * w) w).take w').length ≤ w':=by rw [List.length_take]; omega
  have hR : (co (bB (win Z (i * w') w') 0 ((win X (i * w) w).take w'))).length = w':=by rw [cL,aU (by rw [dW (by omega)]; omega),dW (by omega)]
  rw [mI]
  refine sd hX n (i + 1) _ (by omega) (by omega) (by rw [lx (by omega)]; exact hl) (fun r hr=>?_) p hp
  by_cases hir : r = i
  ·subst hir
   rw [kx hR (by omega)]
   refine lK fun x hx=>?_
   rcases jy hx with z | z
   ·exact (h r hr).cells x z
   ·exact hX r (by omega) x (List.mem_of_mem_take z)
  ·rw [kP (by omega) hR]
   ·exact h r hr
   ·rcases Nat.lt_or_ge r i with z | z
    ·left; have:=Nat.mul_le_mul_right w' (show r + 1 ≤ i from z); rw [Nat.add_mul] at this; omega
    ·right; have:=Nat.mul_le_mul_right w' (show i + 1 ≤ r from by omega); rw [Nat.add_mul] at this; omega
theorem mb {w q p : Nat} {b : aY} (hp : p < q) : win (List.replicate (w * q) b) (p * w) w = List.replicate w b:=by
 have:=fg (w:=w) hp
 apply List.ext_getElem?
 intro c
 rw [er,List.getElem?_replicate,List.getElem?_replicate]
 by_cases hc : c < w
 ·rw [if_pos hc,if_pos hc,if_pos (by omega)]
 ·rw [if_neg hc,if_neg hc]
theorem nY {g : bH} {c r : Int} {s : cM} (h : (dB g c r s).2 = 0) : ct (dB g c r s).1 = true:=by
 unfold dB at h ⊢
 split
 ·rename_i h
  simp only [Bool.and_eq_true] at h
  obtain ⟨hm,hs,hy⟩:=h
  obtain ⟨w,q,j,l,_,_,_,_,hlen,hr⟩:=(eU g).1 hm
  obtain ⟨w',q',rfl,rfl,a,b,c',d,hq,hc,_⟩:=fP hs
  rw [hc,j,l]
  simp only [Int.toNat_natCast]
  rw [eU]
  refine ⟨w',q',rfl,rfl,a,b,c',d,mJ _ _ _ (by omega) (by simp),?_⟩
  exact sd (q:=q) (fun i hi=>(hr i hi).cells) _ _ _ (by omega) (by omega) (by simp) (fun p hp=>by rw [mb hp]; exact kE _ hy)
 ·rename_i q; rw [if_neg q] at h; simp [no] at h
end Go.Proofs.YtckilbegmbaeeaaGreat.Z6Sp
namespace Go.Proofs.YtckilbegmbaeeaaGreat.Z6May
open Go Go.RowKit Go.Proofs.YtckilbegmbaeeaaGreat.SL Go.Proofs.YtckilbegmbaeeaaGreat.Z6 Go.Proofs.YtckilbegmbaeeaaGreat.Z6Sp
set_option linter.unusedVariables false
set_option linter.unusedSimpArgs false
def jB (g : bH) (r c : Int) (p : Bool) : Bool:=decide (0 ≤ r) && decide (r < g.f1) && decide (0 ≤ c) && decide (c < g.f0) && (!p || decide (c = g.f0 - 1))
def fq (w : Int) : Int → List Int → Bool
 | _,[]=>true
 | last,c::r=>decide (last < c) && decide (c < w) && fq w c r
def kT (s : aJ) : Bool:=if s.f15 = true then ct s.f16 && decide (s.f16.f0 = s.f0.f0) && decide (s.f16.f1 = s.f0.f1) else decide (s.f16.f0 = 0) && decide (s.f16.f1 = 0) && decide (s.f16.f2.length = 0)
def nn (l : List Int) : Bool:=l.all fun c=>decide (0 ≤ c)
theorem rW {c : Int} {r : List Int} : nn (c::r) = (decide (0 ≤ c) && nn r):=rfl
theorem wX : nn [] = true:=rfl
def mO (l : List Int) : Bool:=decide (l.length ≤ 256) && nn l
def cx (s : aJ) : Bool:=ct s.f0 && cn s.f4 && cn s.f14.f4 && (decide (0 ≤ s.f5) && decide (s.f5 ≤ s.f6) && decide (s.f6 < s.f0.f1)) &&
 jB s.f0 s.f1 s.f2 s.f3 && jB s.f0 s.f14.f0 s.f14.f1 s.f14.f2 && fq s.f0.f0 (-1) s.f7 && kT s && mO s.f17
theorem mV {g : bH} (h : ct g = true) : 1 ≤ g.f0∧g.f0 ≤ 512:=by
 unfold ct at h
 simp only [Bool.and_eq_true,decide_eq_true_eq] at h
 exact ⟨h.1.1,h.1.2.1⟩
theorem xk {α : Type} [Inhabited α] (a b : α) : rd [a,b] 0 = a:=rfl
theorem gB {α : Type} [Inhabited α] (a b : α) : rd [a,b] 1 = b:=rfl
theorem dn {a b : Int} : decide (a ≤ b) = !decide (b < a):=by by_cases h : b < a <;> simp [h] <;> omega
theorem vY {r c h w v : Int} {p : Bool} : (if (decide (r < 0) || decide (r ≥ h) || decide (c < 0) || decide (c ≥ w)) = true then some true else (if p = true then some (decide (c ≠ v)) else some false) : Option Bool) =
  some (!(decide (0 ≤ r) && decide (r < h) && decide (0 ≤ c) && decide (c < w) && (!p || decide (c = v)))):=by
 have q : decide (r ≥ h) = !decide (r < h):=dn
 have s : decide (c ≥ w) = !decide (c < w):=dn
 have u : decide (c ≠ v) = !decide (c = v):=by simp
 rw [q,s,u,dn (a:=0) (b:=r),dn (a:=0) (b:=c)]
 generalize decide (r < 0) = d
 generalize decide (r < h) = j
 generalize decide (c < 0) = l
 generalize decide (c < w) = m
 generalize decide (c = v) = o
 cases d <;> cases j <;> cases l <;> cases m <;> cases o <;> cases p <;> rfl
theorem AM (s : aJ) (hw : 1 ≤ s.f0.f0∧s.f0.f0 ≤ 512) (k : Nat) (hk : 44 ≤ k) : eF.l0 s k 0 = some (if (jB s.f0 s.f1 s.f2 s.f3 && jB s.f0 s.f14.f0 s.f14.f1 s.f14.f2) = true then Out.go () else Out.ret false):=by
 obtain ⟨k,rfl⟩ : ∃ j,k = j + 3:=⟨k - 3,by omega⟩
 have ew : IntKind.i64.wrap (s.f0.f0 - 1) = s.f0.f0 - 1:=eV (by omega) (by omega)
 unfold jB
 have h : (0 : Int) < 2:=by decide
 have l : (1 : Int) < 2:=by decide
 have m : ¬ (2 : Int) < 2:=by decide
 have c : (0 : Int) ≤ 0∧(0 : Int) < 2:=by decide
 have d : (0 : Int) ≤ 1∧(1 : Int) < 2:=by decide
 rw [eF.l0,if_pos h,if_pos c,xk,ze,eF.l0,if_pos l,if_pos d,gB,zf,eF.l0,if_neg m]
 simp only [lt]
 rw [ew,vY,vY]
 simp only [Option.bind_some]
 generalize (decide (0 ≤ s.f1) && decide (s.f1 < s.f0.f1) && decide (0 ≤ s.f2) && decide (s.f2 < s.f0.f0) && (!s.f3 || decide (s.f2 = s.f0.f0 - 1))) = a
 generalize (decide (0 ≤ s.f14.f0) && decide (s.f14.f0 < s.f0.f1) && decide (0 ≤ s.f14.f1) && decide (s.f14.f1 < s.f0.f0) && (!s.f14.f2 || decide (s.f14.f1 = s.f0.f0 - 1))) = b
 cases a <;> cases b <;> simp
theorem xR (g : bH) (hw : 1 ≤ g.f0∧g.f0 ≤ 512) (r c : Int) (p : Bool) : lf.f g r c p = some (jB g r c p):=by
 have ew : IntKind.i64.wrap (g.f0 - 1) = g.f0 - 1:=eV (by omega) (by omega)
 unfold lf.f jB
 simp only [lt,ew,ge_iff_le,Option.bind_some]
 generalize decide (0 ≤ r) = a
 generalize decide (r < g.f1) = b
 generalize decide (0 ≤ c) = d
 generalize decide (c < g.f0) = h
 generalize decide (c = g.f0 - 1) = j
 cases a <;> cases b <;> cases d <;> cases h <;> cases j <;> cases p <;> rfl
theorem yq (s : aJ) (hs : s.f7.length < 4611686018427387904) : ∀ (n k : Nat) (a : Int) (i : Nat),i + n = s.f7.length → n < k → eF.l1 s k a (i : Int) = some (if fq s.f0.f0 a (s.f7.drop i) = true then Out.go () else Out.ret false)
 | n,0,_,_,_,h=>by omega
 | 0,k + 1,a,i,h,hk=>by rw [eF.l1,if_neg (by omega),List.drop_of_length_le (by omega)]; rfl
 | n + 1,k + 1,a,i,h,hk=>by
  have hi : i < s.f7.length:=by omega
  have ew : IntKind.i64.wrap ((i : Int) + 1) = ((i + 1 : Nat) : Int):=by rw [eV (by omega) (by omega)]; rfl
  rw [eF.l1,if_pos (by omega),if_pos (by omega),ew,fa hi,List.drop_eq_getElem_cons hi,fq]
  simp only [lt]
  rw [yq s hs n k _ (i + 1) (by omega) (by omega)]
  generalize fq s.f0.f0 s.f7[i] (s.f7.drop (i + 1)) = b
  generalize s.f7[i] = c
  by_cases d : a < c <;> by_cases h2 : c < s.f0.f0 <;> simp [d,h2] <;> first | omega | (rw [if_pos (by omega)]) | (rw [if_neg (by omega)])
theorem yr (s : aJ) (hs : s.f7.length < 4611686018427387904) : ∀ (n k : Nat) (i : Nat),i + n = s.f7.length → n < k → (0 < i → 0 ≤ rd s.f7 ((i - 1 : Nat) : Int)) →
  fe.l0 s k (i : Int) = some (if fq s.f0.f0 (if i = 0 then -1 else rd s.f7 ((i - 1 : Nat) : Int)) (s.f7.drop i) = true then Out.go () else Out.ret false)
 | n,0,_,_,h,_=>by omega
 | 0,k + 1,i,h,hk,_=>by rw [fe.l0,if_neg (by omega),List.drop_of_length_le (by omega)]; rfl
 | n + 1,k + 1,i,h,hk,hp=>by
  have hi : i < s.f7.length:=by omega
  have ew : IntKind.i64.wrap ((i : Int) + 1) = ((i + 1 : Nat) : Int):=by rw [eV (by omega) (by omega)]; rfl
  have r : 0 ≤ (i : Int)∧(i : Int) < (s.f7.length : Int):=by omega
  have ih : 0 ≤ rd s.f7 (i : Int) → fe.l0 s k ((i + 1 : Nat) : Int) = some (if fq s.f0.f0 (rd s.f7 (i : Int)) (s.f7.drop (i + 1)) = true then Out.go () else Out.ret false):=fun q=>by
   have z:=yr s hs n k (i + 1) (by omega) (by omega) (fun _=>q)
   rwa [if_neg (Nat.succ_ne_zero i)] at z
  rw [fe.l0,if_pos (by omega),ew,List.drop_eq_getElem_cons hi,fq]
  simp only [lt,if_pos r,if_true]
  rw [← fa hi]
  rcases Nat.eq_zero_or_pos i with j | j
  ·subst j
   have hz : ¬ (((0 : Nat) : Int) > 0):=by omega
   simp only [hz,if_false,if_true]
   by_cases a : rd s.f7 ((0 : Nat) : Int) < 0
   ·have d : ¬ (-1 < rd s.f7 ((0 : Nat) : Int)):=by omega
    simp only [a,d,if_true,decide_false,Bool.false_and,Option.bind_some,Bool.false_eq_true,if_false]
   ·have d : -1 < rd s.f7 ((0 : Nat) : Int):=by omega
    rw [ih (by omega)]
    generalize fq s.f0.f0 (rd s.f7 ((0 : Nat) : Int)) (s.f7.drop (0 + 1)) = b
    by_cases h2 : rd s.f7 ((0 : Nat) : Int) < s.f0.f0
    ·have c : ¬ (rd s.f7 ((0 : Nat) : Int) ≥ s.f0.f0):=by omega
     simp only [a,h2,d,c,if_false,decide_true,Bool.true_and,Option.bind_some,Bool.false_eq_true]
    ·have c : rd s.f7 ((0 : Nat) : Int) ≥ s.f0.f0:=by omega
     simp only [a,h2,d,c,if_false,if_true,decide_true,decide_false,Bool.true_and,Bool.false_and,Option.bind_some,Bool.false_eq_true]
  ·have hz : ((i : Int) > 0):=by omega
   have m : IntKind.i64.wrap ((i : Int) - 1) = ((i - 1 : Nat) : Int):=by rw [eV (by omega) (by omega)]; omega
   have hb : 0 ≤ ((i - 1 : Nat) : Int)∧((i - 1 : Nat) : Int) < (s.f7.length : Int):=by omega
   have y:=hp j
   have u : ¬ i = 0:=by omega
   simp only [hz,m,if_pos hb,if_true,u,if_false]
   generalize rd s.f7 ((i - 1 : Nat) : Int) = p at y
   by_cases a : rd s.f7 (i : Int) < 0
   ·have d : ¬ (p < rd s.f7 (i : Int)):=by omega
    simp only [a,d,if_true,decide_false,Bool.false_and,Option.bind_some,Bool.false_eq_true,if_false]
   ·rw [ih (by omega)]
    generalize fq s.f0.f0 (rd s.f7 (i : Int)) (s.f7.drop (i + 1)) = b
    by_cases h2 : rd s.f7 (i : Int) < s.f0.f0
    ·have c : ¬ (rd s.f7 (i : Int) ≥ s.f0.f0):=by omega
     by_cases o : p < rd s.f7 (i : Int)
     ·have l : ¬ (rd s.f7 (i : Int) ≤ p):=by omega
      simp only [a,h2,c,o,l,if_false,decide_true,decide_false,Bool.true_and,Option.bind_some,Bool.false_eq_true]
     ·have l : rd s.f7 (i : Int) ≤ p:=by omega
      simp only [a,h2,c,o,l,if_false,if_true,decide_true,decide_false,Bool.true_and,Bool.false_and,Option.bind_some,Bool.false_eq_true]
    ·have c : rd s.f7 (i : Int) ≥ s.f0.f0:=by omega
     simp only [a,h2,c,if_false,if_true,decide_true,decide_false,Bool.and_false,Bool.false_and,Option.bind_some,Bool.false_eq_true]
theorem wL (a : List aY) (k : Nat) (hk : 0 < k) : jq.f k a ([] : List aY) = some (decide (a.length = 0)):=by
 unfold jq.f
 obtain ⟨k,rfl⟩ : ∃ j,k = j + 1:=⟨k - 1,by omega⟩
 by_cases h : a.length = 0
 ·rw [if_neg (by simp [h]),jq.l0,if_neg (by omega)]; simp [ku,jG,h]
 ·rw [if_pos (by simpa using h)]; simp [h]
theorem yn (l : List Int) (hl : l.length < 4611686018427387904) : ∀ (n k : Nat) (i : Nat),i + n = l.length → n < k → ∃ t,iZ.l0 l (fun x=>uI.f x) k (i : Int) = some t∧(nn (l.drop i) = true → t = Out.go ())∧(nn (l.drop i) = false → ∃ j : Nat,t = Out.ret (j : Int))
 | n,0,_,_,h=>by omega
 | 0,k + 1,i,h,hk=>⟨_,by rw [iZ.l0,if_neg (by omega)],fun _=>rfl,fun q=>by rw [List.drop_of_length_le (by omega),wX] at q; cases q⟩
 | n + 1,k + 1,i,h,hk=>by
  have hi : i < l.length:=by omega
  have ew : IntKind.i64.wrap ((i : Int) + 1) = ((i + 1 : Nat) : Int):=by rw [eV (by omega) (by omega)]; rfl
  obtain ⟨t,a,h2,b⟩:=yn l hl n k (i + 1) (by omega) (by omega)
  rw [iZ.l0,if_pos (by omega),if_pos (by omega),ew,fa hi,List.drop_eq_getElem_cons hi,a]
  rw [rW]
  simp only [uI.f,Option.bind_some]
  by_cases hc : l[i] < 0
  ·refine ⟨_,by rw [if_pos (by simpa using hc)],fun q=>?_,fun _=>⟨i,rfl⟩⟩
   simp only [Bool.and_eq_true,decide_eq_true_eq] at q; omega
  ·have e : decide (0 ≤ l[i]) = true:=decide_eq_true (by omega)
   refine ⟨t,by rw [if_neg (by simpa using hc)],fun q=>?_,fun q=>?_⟩
   ·rw [e,Bool.true_and] at q; exact h2 q
   ·rw [e,Bool.true_and] at q; exact b q
theorem my (l : List Int) (hl : l.length < 4611686018427387904) (k : Nat) (hk : l.length < k) : qd.f k l (fun x=>uI.f x) = some (!nn l):=by
 obtain ⟨t,a,h2,b⟩:=yn l hl l.length k 0 (by omega) hk
 rw [show ((0 : Nat) : Int) = 0 from rfl] at a
 rw [List.drop_zero] at h2 b
 unfold qd.f iZ.f
 rw [a]
 cases hb : nn l
 ·obtain ⟨j,rfl⟩:=b hb
  simp [ku,jG]
 ·rw [h2 hb]; simp [ku,jG]
theorem yt (s : aJ) (hs : s.f17.length < 4611686018427387904) : ∀ (n k : Nat) (i : Nat),i + n = s.f17.length → n < k → fe.l1 s k (i : Int) = some (if nn (s.f17.drop i) = true then Out.go () else Out.ret false)
 | n,0,_,_,h=>by omega
 | 0,k + 1,i,h,hk=>by rw [fe.l1,if_neg (by omega),List.drop_of_length_le (by omega)]; rfl
 | n + 1,k + 1,i,h,hk=>by
  have hi : i < s.f17.length:=by omega
  have ew : IntKind.i64.wrap ((i : Int) + 1) = ((i + 1 : Nat) : Int):=by rw [eV (by omega) (by omega)]; rfl
  rw [fe.l1,if_pos (by omega),if_pos (by omega),ew,fa hi,List.drop_eq_getElem_cons hi]
  simp only [lt]
  rw [rW,yt s hs n k (i + 1) (by omega) (by omega)]
  generalize nn (s.f17.drop (i + 1)) = b
  generalize s.f17[i] = c
  by_cases a : c < 0
  ·have : ¬ (0 ≤ c):=by omega
   simp [a,this]
  ·have : 0 ≤ c:=by omega
   simp [a,this]
structure Sg (s : aJ) : Prop where
 g : Gr s.f0
 m : Gr s.f16
 t : s.f7.length < 17592186044416
 u : s.f17.length < 35184372088832
theorem f74 (s : aJ) (hs : Sg s) (k : Nat) (hk : 40000000000000 ≤ k) : eF.f k s = some (cx s):=by
 have h2 : s.f7.length < 4611686018427387904:=by have:=hs.t; omega
 have K : s.f17.length < 4611686018427387904:=by have:=hs.u; omega
 have h4':=hs.u
 have h2':=hs.t
 unfold eF.f cx
 rw [uZ _ hs.g k (by omega),uZ _ hs.m k (by omega),xC,xC,my _ K k (by omega)]
 simp only [Option.bind_some]
 cases hg : ct s.f0
 ·simp [lt]
 ·have hb:=yq s h2 s.f7.length k (-1) 0 (by omega) (by omega)
  rw [show ((0 : Nat) : Int) = 0 from rfl,List.drop_zero] at hb
  have l : qc.f k s.f16 (bH.mk 0 0 ([] : List aY)) = some (decide (s.f16.f0 = 0) && decide (s.f16.f1 = 0) && decide (s.f16.f2.length = 0)):=by
   unfold qc.f
   simp only [lt,wL _ k (by omega),Option.bind_some]
   by_cases q : (decide (s.f16.f0 = 0) && decide (s.f16.f1 = 0)) = true
   ·rw [if_pos q,q]; simp
   ·rw [if_neg q]; simp only [Bool.not_eq_true] at q; rw [q]; simp
  rw [AM s (mV hg) k (by omega),hb,l]
  unfold kT mO
  have F : decide (0 ≤ s.f5) = !decide (s.f5 < 0):=dn
  have I : decide (s.f5 ≤ s.f6) = !decide (s.f5 > s.f6):=dn
  have J : decide (s.f6 ≥ s.f0.f1) = !decide (s.f6 < s.f0.f1):=dn
  have et : ((s.f17.length : Int) ≤ 256) ↔ s.f17.length ≤ 256:=by omega
  simp only [lt,F,I,J,et]
  generalize cn s.f4 = o
  generalize cn s.f14.f4 = p
  generalize decide (s.f5 < 0) = r
  generalize decide (s.f5 > s.f6) = y
  generalize decide (s.f6 < s.f0.f1) = z
  generalize jB s.f0 s.f1 s.f2 s.f3 = B
  generalize jB s.f0 s.f14.f0 s.f14.f1 s.f14.f2 = D
  generalize fq s.f0.f0 (-1) s.f7 = E
  generalize nn s.f17 = a
  cases o <;> cases p <;> cases r <;> cases y <;> cases z <;> cases B <;> cases D <;> cases E <;> simp [ku,jG]
  by_cases ht : s.f17.length ≤ 256 <;> cases ha : s.f15
  ·by_cases d : s.f16.f0 = 0 <;> by_cases h : s.f16.f1 = 0 <;> by_cases j : s.f16.f2 = [] <;> cases a <;> simp [ht,d,h,j]
  ·cases hm : ct s.f16 <;> by_cases b : s.f16.f0 = s.f0.f0 <;> by_cases c : s.f16.f1 = s.f0.f1 <;> cases a <;> simp [ht,b,c]
  ·by_cases d : s.f16.f0 = 0 <;> by_cases h : s.f16.f1 = 0 <;> by_cases j : s.f16.f2 = [] <;> cases a <;> simp [ht,d,h,j]
  ·cases hm : ct s.f16 <;> by_cases b : s.f16.f0 = s.f0.f0 <;> by_cases c : s.f16.f1 = s.f0.f1 <;> cases a <;> simp [ht,b,c]
theorem EH (s : aJ) (hs : Sg s) (k : Nat) (hk : 40000000000000 ≤ k) : fe.f k s = some (cx s):=by
 have h2 : s.f7.length < 4611686018427387904:=by have:=hs.t; omega
 have J : s.f17.length < 4611686018427387904:=by have:=hs.u; omega
 have h4':=hs.u
 have h2':=hs.t
 unfold fe.f cx
 rw [uY _ hs.g k (by omega),uY _ hs.m k (by omega),ya,ya]
 simp only [Option.bind_some]
 cases hg : ct s.f0
 ·simp [lt]
 ·have ha:=yr s h2 s.f7.length k 0 (by omega) (by omega) (fun h=>by omega)
  rw [if_pos rfl,show ((0 : Nat) : Int) = 0 from rfl,List.drop_zero] at ha
  have hb:=yt s J s.f17.length k 0 (by omega) (by omega)
  rw [show ((0 : Nat) : Int) = 0 from rfl,List.drop_zero] at hb
  rw [xR _ (mV hg),xR _ (mV hg),ha,hb]
  unfold kT mO
  have E : decide (0 ≤ s.f5) = !decide (s.f5 < 0):=dn
  have F : decide (s.f5 ≤ s.f6) = !decide (s.f5 > s.f6):=dn
  have I : decide (s.f6 ≥ s.f0.f1) = !decide (s.f6 < s.f0.f1):=dn
  have et : ((s.f17.length : Int) > 256) ↔ ¬ s.f17.length ≤ 256:=by omega
  simp only [lt,E,F,I,et]
  generalize cn s.f4 = o
  generalize cn s.f14.f4 = p
  generalize decide (s.f5 < 0) = q
  generalize decide (s.f5 > s.f6) = r
  generalize decide (s.f6 < s.f0.f1) = y
  generalize jB s.f0 s.f1 s.f2 s.f3 = z
  generalize jB s.f0 s.f14.f0 s.f14.f1 s.f14.f2 = B
  generalize fq s.f0.f0 (-1) s.f7 = D
  generalize nn s.f17 = a
  cases o <;> cases p <;> cases q <;> cases r <;> cases y <;> cases z <;> cases B <;> cases D <;> simp [ku,jG]
  by_cases ht : s.f17.length ≤ 256 <;> cases ha : s.f15
  ·by_cases d : s.f16.f0 = 0 <;> by_cases j : s.f16.f1 = 0 <;> by_cases l : s.f16.f2 = [] <;> cases a <;> simp [ht,d,j,l,ku,jG]
  ·cases hm : ct s.f16 <;> by_cases b : s.f16.f0 = s.f0.f0 <;> by_cases c : s.f16.f1 = s.f0.f1 <;> cases a <;> simp [ht,b,c,ku,jG]
  ·by_cases d : s.f16.f0 = 0 <;> by_cases j : s.f16.f1 = 0 <;> by_cases l : s.f16.f2 = [] <;> cases a <;> simp [ht,d,j,l,ku,jG]
  ·cases hm : ct s.f16 <;> by_cases b : s.f16.f0 = s.f0.f0 <;> by_cases c : s.f16.f1 = s.f0.f1 <;> cases a <;> simp [ht,b,c,ku,jG]
end Go.Proofs.YtckilbegmbaeeaaGreat.Z6May
namespace Go.Proofs.YtckilbegmbaeeaaGreat.Z6Sc
open Go Go.RowKit Go.Proofs.YtckilbegmbaeeaaGreat.SL Go.Proofs.YtckilbegmbaeeaaGreat.Z6 Go.Proofs.YtckilbegmbaeeaaGreat.Z6May Go.Proofs.YtckilbegmbaeeaaGreat.Z6Ls Go.Proofs.YtckilbegmbaeeaaGreat.Z6Op Go.Proofs.YtckilbegmbaeeaaGreat.Z6Sp
set_option linter.unusedVariables false
set_option linter.unusedSimpArgs false
def gp (x : aY) : Prop:=0 ≤ x.f2∧x.f2 < 256
theorem nM (s : cM) : gp (eL s):=by constructor <;> simp [eL]
theorem mD {W : List aY} (h : ∀ x ∈ W,gp x) : ∀ x ∈ co W,gp x:=fun x hx=>by
 unfold co at hx
 simp only [List.mem_map,List.mem_range] at hx
 obtain ⟨i,hi,rfl⟩:=hx
 unfold ey; split
 ·exact nM _
 ·exact h _ (nW hi)
theorem kO {X : List aY} {o n : Nat} (h : ∀ x ∈ X,gp x) : ∀ x ∈ win X o n,gp x:=fun x hx=>h x (List.mem_of_mem_drop (List.mem_of_mem_take hx))
theorem hU {X Y : List aY} {o : Nat} (h : ∀ x ∈ X,gp x) (h2 : ∀ x ∈ Y,gp x) : ∀ x ∈ bB X o Y,gp x:=fun x hx=>by
 rcases jy hx with q | q
 ·exact h x q
 ·exact h2 x q
theorem mH {n : Nat} {s : cM} : ∀ x ∈ List.replicate n (eL s),gp x:=fun x hx=>by rw [(List.mem_replicate.1 hx).2]; exact nM s
theorem oR {W : List aY} {d : Int} {s : cM} (h : ∀ x ∈ W,gp x) : ∀ x ∈ dV W d (eL s),gp x:=fun x hx=>by
 rcases oS hx with q | q
 ·exact h x q
 ·rw [q]; exact nM s
theorem sK {g : bH} {row : Int} {f : List aY → List aY} (h : ∀ x ∈ g.f2,gp x) (hf : ∀ W : List aY,(∀ x ∈ W,gp x) → ∀ x ∈ f W,gp x) : ∀ x ∈ (lu g row f).1.f2,gp x :=
 hU h (mD (hf _ (kO h)))
theorem tM : ∀ x ∈ no.1.f2,gp x:=fun x hx=>by simp [no] at hx
theorem rx {g : bH} {t u d : Int} {s : cM} (h : ∀ x ∈ g.f2,gp x) : ∀ x ∈ (gC g t u d s).1.f2,gp x:=by
 unfold gC; split
 ·exact hU h (oR (kO h))
 ·exact tM
theorem rZ {X : List aY} {w w' : Nat} (h : ∀ x ∈ X,gp x) : ∀ (n i : Nat) (Z : List aY),(∀ x ∈ Z,gp x) → ∀ x ∈ mI X w w' n i Z,gp x
 | 0,i,Z,hZ=>hZ
 | n + 1,i,Z,hZ=>rZ h n (i + 1) _ (hU hZ (mD (hU (kO hZ) fun x hx=>kO h x (List.mem_of_mem_take hx))))
theorem nX {g : bH} {c r : Int} {s : cM} (h : ∀ x ∈ g.f2,gp x) : ∀ x ∈ (dB g c r s).1.f2,gp x:=by
 unfold dB; split
 ·exact rZ h _ _ _ mH
 ·exact tM
theorem AE {g : bH} (h1 : g.f2.length ≤ 262144) (h2 : ∀ x ∈ g.f2,gp x) : Gr g:=⟨by omega,h2⟩
theorem qu {X Y : List aY} {w q : Nat} (hX : X.length = w * q) (hY : Y.length = w * q) (h : ∀ n,n < q → win X (n * w) w = win Y (n * w) w) : X = Y:=by
 apply List.ext_getElem?
 intro i
 by_cases hi : i < w * q
 ·have hw : 0 < w:=by
   rcases Nat.eq_zero_or_pos w with h | h
   ·subst h; simp at hi
   ·exact h
  have a:=Nat.mod_lt i hw
  have h2:=Nat.div_add_mod i w
  have b : i / w < q:=Nat.div_lt_of_lt_mul hi
  have e:=congrArg (·[i % w]?) (h _ b)
  simp only [er,a,if_true] at e
  rwa [show i / w * w + i % w = i from by rw [Nat.mul_comm]; omega] at e
 ·rw [List.getElem?_eq_none (by omega),List.getElem?_eq_none (by omega)]
theorem rV {W : List aY} (h : lP W) : co W = W:=by
 apply List.ext_getElem?
 intro i
 by_cases hi : i < W.length
 ·rw [iH (xs:=co W) (by rw [cL]; exact hi),mE hi,iH hi]
  congr 1
  unfold ey
  rw [if_neg]
  intro hb
  obtain ⟨p,h2,j,l⟩:=h i hi
  unfold iV at hb
  simp only [Bool.or_eq_true,Bool.and_eq_true,decide_eq_true_eq,Bool.not_eq_true'] at hb
  rcases hb with ⟨b,a⟩ | ⟨b,a⟩
  ·have hl : i + 1 < W.length:=by
    rcases Nat.lt_or_ge (i + 1) W.length with z | z
    ·exact z
    ·exact absurd ⟨b,by omega⟩ l
   obtain ⟨q,m,o,r⟩:=h (i + 1) hl
   have hz : (rd W ((i + 1 : Nat) : Int)).f2 = 0:=m.2 ⟨by omega,by rw [show i + 1 - 1 = i from by omega]; exact b⟩
   have hs:=o ⟨by omega,by rw [show i + 1 - 1 = i from by omega]; exact b⟩
   rw [show i + 1 - 1 = i from by omega] at hs
   unfold nw at a
   rw [show (i : Int) + 1 = ((i + 1 : Nat) : Int) from by omega,decide_eq_false_iff_not] at a
   exact a ⟨by omega,by omega,hz,hs⟩
  ·obtain ⟨d,c⟩:=h2.1 b
   have hs:=j ⟨d,c⟩
   unfold nw at a
   rw [show (i : Int) - 1 = ((i - 1 : Nat) : Int) from by omega,decide_eq_false_iff_not] at a
   exact a ⟨by omega,by omega,c,hs.symm⟩
 ·rw [List.getElem?_eq_none (by rw [cL]; omega),List.getElem?_eq_none (by omega)]
structure M (s : aJ) : Prop where
 g : ct s.f0 = true
 y : cn s.f4 = true
 y2 : cn s.f14.f4 = true
 t0 : 0 ≤ s.f5
 t1 : s.f5 ≤ s.f6
 t2 : s.f6 < s.f0.f1
 p : jB s.f0 s.f1 s.f2 s.f3 = true
 p2 : jB s.f0 s.f14.f0 s.f14.f1 s.f14.f2 = true
 tabs : fq s.f0.f0 (-1) s.f7 = true
 alt : kT s = true
 ti : mO s.f17 = true
theorem rU (s : aJ) : cx s = true ↔ M s:=by
 unfold cx
 simp only [Bool.and_eq_true,decide_eq_true_eq]
 constructor
 ·rintro ⟨⟨⟨⟨⟨⟨⟨⟨a,b⟩,c⟩,⟨d,e⟩,f⟩,g⟩,h⟩,i⟩,j⟩,k⟩; exact ⟨a,b,c,d,e,f,g,h,i,j,k⟩
 ·rintro ⟨a,b,c,d,e,f,g,h,i,j,k⟩; exact ⟨⟨⟨⟨⟨⟨⟨⟨a,b⟩,c⟩,⟨d,e⟩,f⟩,g⟩,h⟩,i⟩,j⟩,k⟩
theorem eO {g : bH} {r c : Int} {p : Bool} : jB g r c p = true ↔ 0 ≤ r∧r < g.f1∧0 ≤ c∧c < g.f0∧(p = true → c = g.f0 - 1):=by
 unfold jB
 cases p <;> simp [and_assoc]
theorem mM {w : Int} : ∀ {l : List Int} {a : Int},fq w a l = true ↔ List.Pairwise (· < ·) l∧∀ x ∈ l,a < x∧x < w
 | [],a=>by simp [fq]
 | c::r,a=>by
  unfold fq
  simp only [Bool.and_eq_true,decide_eq_true_eq,List.pairwise_cons,List.mem_cons,mM (l:=r)]
  constructor
  ·rintro ⟨⟨d,h2⟩,b,h⟩
   refine ⟨⟨fun x hx=>(h x hx).1,b⟩,?_⟩
   rintro x (rfl | hx)
   ·exact ⟨d,h2⟩
   ·exact ⟨by have:=(h x hx).1; omega,(h x hx).2⟩
  ·rintro ⟨⟨d,h2⟩,b⟩
   exact ⟨b c (.inl rfl),h2,fun x hx=>⟨d x hx,(b x (.inr hx)).2⟩⟩
theorem qA {w : Int} : ∀ {l : List Int} {a : Int},a < w → fq w a l = true → (l.length : Int) < w - a
 | [],a,h,_=>by simp; omega
 | c::r,a,h,q=>by
  unfold fq at q
  simp only [Bool.and_eq_true,decide_eq_true_eq] at q
  have:=qA (l:=r) q.1.2 q.2
  rw [List.length_cons]; push_cast; omega
structure Ok (s : aJ) : Prop where
 m : M s
 b : ∀ x ∈ s.f0.f2,gp x
 b2 : ∀ x ∈ s.f16.f2,gp x
theorem Ok.size {s : aJ} (h : Ok s) : ∃ w q : Nat,s.f0.f0 = (w : Int)∧s.f0.f1 = (q : Int)∧0 < w∧w ≤ 512∧0 < q∧q ≤ 512∧s.f0.f2.length = w * q∧w * q ≤ 262144:=gM h.m.g
theorem nv {s : aJ} (h : M s) : s.f16.f2.length ≤ 262144:=by
 have:=h.alt
 unfold kT at this
 split at this
 ·simp only [Bool.and_eq_true,decide_eq_true_eq] at this
  obtain ⟨w,q,_,_,_,_,_,_,hl,hb⟩:=gM this.1.1
  omega
 ·simp only [Bool.and_eq_true,decide_eq_true_eq] at this
  omega
theorem Ok.gr {s : aJ} (h : Ok s) : Gr s.f0:=by
 obtain ⟨w,q,_,_,_,_,_,_,hl,hb⟩:=h.size
 exact AE (by omega) h.b
theorem Ok.grm {s : aJ} (h : Ok s) : Gr s.f16:=AE (nv h.m) h.b2
theorem gu {s : aJ} (h : M s) : s.f7.length ≤ 512:=by
 obtain ⟨w,q,a,_,_,_,_,_,_,_⟩:=gM h.g
 have:=qA (by omega) h.tabs
 omega
theorem jP {s : aJ} (h : M s) : s.f17.length ≤ 256:=by
 have:=h.ti
 unfold mO at this
 simp only [Bool.and_eq_true,decide_eq_true_eq] at this
 exact this.1
theorem Ok.sg {s : aJ} (h : Ok s) : Sg s:=by
 have a:=gu h.m
 have h2:=jP h.m
 exact ⟨h.gr,h.grm,by omega,by omega⟩
theorem Ok.may {s : aJ} (h : Ok s) : cx s = true:=(rU s).2 h.m
theorem iY {s : aJ} (hs : Sg s) (hm : cx s = true) : Ok s:=⟨(rU s).1 hm,hs.g.wide,hs.m.wide⟩
theorem BO (s : aJ) (h : Ok s) : lE.f s = some s:=by
 obtain ⟨w,q,_,_,_,_,_,_,hl,hb⟩:=h.size
 have a:=nv h.m
 have h2:=gu h.m
 have b:=jP h.m
 unfold lE.f sr.f ss.f
 rw [f72 _ (by omega),f72 _ (by omega)]
 simp only [Option.bind_some,lt,List.nil_append,List.length_nil]
 rw [if_pos (by omega),if_pos (by omega)]
 rfl
theorem xZ (s : aJ) (h1 : s.f0.f2.length ≤ 2932031007402) (h2 : s.f16.f2.length ≤ 2932031007402) (h3 : s.f7.length ≤ 17592186044416) (h4 : s.f17.length ≤ 35184372088832) : ld.f s = some s:=by
 unfold ld.f
 rw [xA _ h1,xA _ h2]
 simp only [Option.bind_some,lt,List.nil_append,List.length_nil]
 rw [if_pos (by omega),if_pos (by omega)]
theorem Ew (s : aJ) (h : Ok s) : ld.f s = some s:=by
 obtain ⟨w,q,_,_,_,_,_,_,hl,hb⟩:=h.size
 have a:=nv h.m
 have h2:=gu h.m
 have b:=jP h.m
 exact xZ s (by omega) (by omega) (by omega) (by omega)
def zS : aJ:=aJ.mk (bH.mk 0 0 ([] : (List aY))) 0 0 false (cM.mk 0 0 false false false false false false false false) 0 0 ([] : (List Int)) false false false false false false (dz.mk 0 0 false false (cM.mk 0 0 false false false false false false false false)) false (bH.mk 0 0 ([] : (List aY))) ([] : (List Int))
def fF (s t : aJ) : aJ × Int:=if cx s = true then (t,0) else (zS,2)
theorem rP (s : aJ) (hs : Sg s) (k : Nat) (hk : 40000000000000 ≤ k) : gk.f k s = some (if cx s = true then (s,true) else (zS,false)):=by
 unfold gk.f
 rw [EH s hs k hk]
 cases hm : cx s
 ·simp [zS]
 ·simp only [Option.bind_some,Bool.not_true,Bool.false_eq_true,if_false,if_true]
  rw [Ew s (iY hs hm)]; rfl
end Go.Proofs.YtckilbegmbaeeaaGreat.Z6Sc
namespace Go.Proofs.YtckilbegmbaeeaaGreat.Z6Sc
open Go Go.RowKit Go.Proofs.YtckilbegmbaeeaaGreat.SL Go.Proofs.YtckilbegmbaeeaaGreat.Z6 Go.Proofs.YtckilbegmbaeeaaGreat.Z6May Go.Proofs.YtckilbegmbaeeaaGreat.Z6Ls Go.Proofs.YtckilbegmbaeeaaGreat.Z6Op Go.Proofs.YtckilbegmbaeeaaGreat.Z6Sp
set_option linter.unusedVariables false
set_option linter.unusedSimpArgs false
theorem wJ (a b c : Int) : kB.f a b c = some (max b (min a c)):=by
 unfold kB.f; simp only [lt,kI,hP]
theorem tC (a : Int) : lX.f a = some (max (-1024) (min a 1024)):=by
 unfold lX.f; rw [wJ]; rfl
def mv (n by_ lo hi : Int) : Int:=max lo (min (n + by_) hi)
theorem my {n by_ lo hi : Int} (h0 : 0 ≤ n) (h1 : n ≤ 2000) (h2 : -2000 ≤ lo) (h3 : lo ≤ n) (h4 : n ≤ hi) (h5 : hi ≤ 2000) : kz.f n by_ lo hi = some (mv n by_ lo hi):=by
 unfold kz.f mv
 rw [eV (x:=hi - n) (by omega) (by omega),eV (x:=lo - n) (by omega) (by omega)]
 by_cases c1 : by_ > hi - n
 ·rw [if_pos c1]; congr 1; omega
 ·by_cases c2 : by_ < lo - n
  ·rw [if_neg c1,if_pos c2]; congr 1; omega
  ·rw [if_neg c1,if_neg c2,eV (by omega) (by omega)]; simp only [lt]; congr 1; omega
theorem mu {n by_ lo hi : Int} (h0 : 0 ≤ n) (h1 : n ≤ 600) (h2 : 0 ≤ lo) (h3 : lo ≤ hi) (h5 : hi ≤ 600) : kB.f (IntKind.i64.wrap (n + max (-1024) (min by_ 1024))) lo hi = some (mv n by_ lo hi):=by
 rw [eV (by omega) (by omega),wJ]; unfold mv; congr 1; omega
structure Mg (s : aJ) : Prop where
 g : ct s.f0 = true
 b : ∀ x ∈ s.f0.f2,gp x
 y : cn s.f4 = true
 t0 : 0 ≤ s.f5
 t1 : s.f5 ≤ s.f6
 t2 : s.f6 < s.f0.f1
 r0 : 0 ≤ s.f1
 r1 : s.f1 < s.f0.f1
theorem Ok.mg {s : aJ} (h : Ok s) : Mg s:=by
 have hp:=eO.1 h.m.p
 exact ⟨h.m.g,h.b,h.m.y,h.m.t0,h.m.t1,h.m.t2,hp.1,hp.2.1⟩
theorem Mg.size {s : aJ} (h : Mg s) : ∃ w q : Nat,s.f0.f0 = (w : Int)∧s.f0.f1 = (q : Int)∧0 < w∧w ≤ 512∧0 < q∧q ≤ 512∧s.f0.f2.length = w * q∧w * q ≤ 262144:=gM h.g
theorem Mg.gr {s : aJ} (h : Mg s) : Gr s.f0:=by
 obtain ⟨w,q,_,_,_,_,_,_,hl,hb⟩:=h.size
 exact AE (by omega) h.b
def qw (s : aJ) (t u by_ : Int) : aJ:={ s with f0:=(gC s.f0 t u by_ s.f4).1 }
theorem jO {s : aJ} (h : Mg s) {t u : Int} (h0 : 0 ≤ t) (h1 : t ≤ u) (h2 : u < s.f0.f1) : gO s.f0 t u s.f4 = true:=by
 unfold gO
 simp only [h.g,h.y,Bool.true_and,Bool.and_true,Bool.and_eq_true,decide_eq_true_eq]
 exact ⟨h0,h1,h2⟩
theorem up (s : aJ) (h : Mg s) (t u by_ : Int) (h0 : 0 ≤ t) (h1 : t ≤ u) (h2 : u < s.f0.f1) (k : Nat) (hk : 1100000 ≤ k) : de.f k s t u by_ s.f4 = some (qw s t u by_):=by
 have hok:=jO h h0 h1 h2
 obtain ⟨w,q,i,j,a,l,rfl,rfl,c,d,b,hij,hj,hl,hb⟩:=iG hok
 rw [EG s s.f0.f2 w q i j s.f0.f1 by_ s.f4 (by rw [← a]) hl c d b hij hj k (by omega)]
 unfold qw gC
 rw [if_pos hok,a]
 simp only [Int.toNat_natCast]
theorem nx (s : aJ) (h : Mg s) (t u by_ : Int) (k : Nat) (hk : 1100000 ≤ k) : cA.f k s.f0 t u by_ s.f4 = some (gC s.f0 t u by_ s.f4):=EA s.f0 h.gr t u by_ s.f4 k hk
theorem qy {s : aJ} (h : Mg s) {t u by_ : Int} (h0 : 0 ≤ t) (h1 : t ≤ u) (h2 : u < s.f0.f1) : (qw s t u by_).f0.f0 = s.f0.f0∧(qw s t u by_).f0.f1 = s.f0.f1:=by
 have hok:=jO h h0 h1 h2
 unfold qw gC
 rw [if_pos hok]; exact ⟨rfl,rfl⟩
theorem pt {s : aJ} (h : Mg s) {t u by_ : Int} (h0 : 0 ≤ t) (h1 : t ≤ u) (h2 : u < s.f0.f1) : Mg (qw s t u by_):=by
 obtain ⟨c,a⟩:=qy (by_:=by_) h h0 h1 h2
 have hok:=jO h h0 h1 h2
 refine ⟨ry (by unfold gC; rw [if_pos hok]),rx h.b,h.y,h.t0,h.t1,?_,h.r0,?_⟩
 ·rw [a]; exact h.t2
 ·rw [a]; exact h.r1
theorem qx {s : aJ} (h : Mg s) {t u x y : Int} (h0 : 0 ≤ t) (h1 : t ≤ u) (h2 : u < s.f0.f1) (e : fH 512 x = fH 512 y) : qw s t u x = qw s t u y:=by
 have hok:=jO h h0 h1 h2
 obtain ⟨w,q,i,j,b,m,rfl,rfl,a,l,d,hij,hj,hl,hb⟩:=iG hok
 unfold qw gC
 rw [if_pos hok,if_pos hok,b]
 simp only [Int.toNat_natCast]
 have hm : i * w + (j + 1 - i) * w ≤ w * q:=by
  rw [← Nat.add_mul,Nat.mul_comm w q]
  exact Nat.mul_le_mul_right _ (by omega)
 have hW:=dW (xs:=s.f0.f2) (o:=i * w) (n:=(j + 1 - i) * w) (by omega)
 have c : fH ((j + 1 - i : Nat) : Int) x = fH ((j + 1 - i : Nat) : Int) y:=by
  unfold fH at e ⊢; omega
 rw [← lA (x:=x) hW a,← lA (x:=y) hW a,c]
def gL (s : aJ) : aJ:=if s.f1 = s.f6 then qw s s.f5 s.f6 1 else if s.f1 < s.f0.f1 - 1 then { s with f1:=s.f1 + 1 } else s
def jv (s : aJ) : aJ:=if s.f1 = s.f5 then qw s s.f5 s.f6 (-1) else if s.f1 > 0 then { s with f1:=s.f1 - 1 } else s
theorem tY (s : aJ) (h : Mg s) (k : Nat) (hk : 1100000 ≤ k) : eW.f k s = some (gL s):=by
 obtain ⟨w,q,a,b,_,_,_,_,_,_⟩:=h.size
 have:=h.r0; have:=h.r1
 unfold eW.f gL
 rw [up s h _ _ _ h.t0 h.t1 h.t2 k hk,eV (x:=s.f0.f1 - 1) (by omega) (by omega),eV (x:=s.f1 + 1) (by omega) (by omega)]
 simp only [Option.bind_some]
 split
 ·rfl
 ·split <;> rfl
theorem ue (s : aJ) (h : Mg s) (k : Nat) (hk : 1100000 ≤ k) : il.f k s = some (gL s):=by
 obtain ⟨w,q,a,b,_,_,_,_,_,_⟩:=h.size
 have:=h.r0; have:=h.r1
 unfold il.f gL
 rw [nx s h _ _ _ k hk,eV (x:=s.f0.f1 - 1) (by omega) (by omega),eV (x:=s.f1 + 1) (by omega) (by omega)]
 simp only [Option.bind_some]
 split
 ·rfl
 ·split <;> rfl
theorem yE (s : aJ) (h : Mg s) (k : Nat) (hk : 1100000 ≤ k) : io.f k s = some (jv s):=by
 obtain ⟨w,q,a,b,_,_,_,_,_,_⟩:=h.size
 have:=h.r0; have:=h.r1
 unfold io.f jv
 rw [up s h _ _ _ h.t0 h.t1 h.t2 k hk,eV (x:=s.f1 - 1) (by omega) (by omega)]
 simp only [Option.bind_some]
 split
 ·rfl
 ·split <;> rfl
theorem pd {s : aJ} (h : Mg s) : Mg (gL s):=by
 unfold gL
 split
 ·exact pt h h.t0 h.t1 h.t2
 ·split
  ·exact ⟨h.g,h.b,h.y,h.t0,h.t1,h.t2,by have:=h.r0; show 0 ≤ s.f1 + 1; omega,by show s.f1 + 1 < s.f0.f1; omega⟩
  ·exact h
theorem uW {s : aJ} (h : Mg s) : Mg (jv s):=by
 unfold jv
 split
 ·exact pt h h.t0 h.t1 h.t2
 ·split
  ·exact ⟨h.g,h.b,h.y,h.t0,h.t1,h.t2,by show 0 ≤ s.f1 - 1; omega,by have:=h.r1; show s.f1 - 1 < s.f0.f1; omega⟩
  ·exact h
structure iU (s t : aJ) : Prop where
 d0 : t.f0.f0 = s.f0.f0
 d1 : t.f0.f1 = s.f0.f1
 f4 : t.f4 = s.f4
 f5 : t.f5 = s.f5
 f6 : t.f6 = s.f6
 f7 : t.f7 = s.f7
 f8 : t.f8 = s.f8
 f9 : t.f9 = s.f9
 f10 : t.f10 = s.f10
 f14 : t.f14 = s.f14
 f15 : t.f15 = s.f15
 f16 : t.f16 = s.f16
 f17 : t.f17 = s.f17
theorem iU.refl (s : aJ) : iU s s:=⟨rfl,rfl,rfl,rfl,rfl,rfl,rfl,rfl,rfl,rfl,rfl,rfl,rfl⟩
theorem iU.trans {s t u : aJ} (a : iU s t) (b : iU t u) : iU s u:=⟨b.d0.trans a.d0,b.d1.trans a.d1,b.f4.trans a.f4,b.f5.trans a.f5,b.f6.trans a.f6,b.f7.trans a.f7,b.f8.trans a.f8,b.f9.trans a.f9,b.f10.trans a.f10,b.f14.trans a.f14,b.f15.trans a.f15,b.f16.trans a.f16,b.f17.trans a.f17⟩
theorem mL {s : aJ} (h : Mg s) {t u by_ : Int} (h0 : 0 ≤ t) (h1 : t ≤ u) (h2 : u < s.f0.f1) : iU s (qw s t u by_):=by
 obtain ⟨a,b⟩:=qy (by_:=by_) h h0 h1 h2
 exact ⟨a,b,rfl,rfl,rfl,rfl,rfl,rfl,rfl,rfl,rfl,rfl,rfl⟩
theorem lH {s : aJ} (h : Mg s) : iU s (gL s)∧(gL s).f2 = s.f2∧(gL s).f3 = s.f3:=by
 unfold gL
 split
 ·exact ⟨mL h h.t0 h.t1 h.t2,rfl,rfl⟩
 ·split
  ·exact ⟨⟨rfl,rfl,rfl,rfl,rfl,rfl,rfl,rfl,rfl,rfl,rfl,rfl,rfl⟩,rfl,rfl⟩
  ·exact ⟨iU.refl s,rfl,rfl⟩
theorem sD {s : aJ} (h : Mg s) : iU s (jv s)∧(jv s).f2 = s.f2∧(jv s).f3 = s.f3:=by
 unfold jv
 split
 ·exact ⟨mL h h.t0 h.t1 h.t2,rfl,rfl⟩
 ·split
  ·exact ⟨⟨rfl,rfl,rfl,rfl,rfl,rfl,rfl,rfl,rfl,rfl,rfl,rfl,rfl⟩,rfl,rfl⟩
  ·exact ⟨iU.refl s,rfl,rfl⟩
theorem fK {s t : aJ} (h : Ok s) (l : iU s t) (hg : Mg t) (hc : 0 ≤ t.f2∧t.f2 < t.f0.f0∧(t.f3 = true → t.f2 = t.f0.f0 - 1)) : Ok t:=by
 refine ⟨⟨hg.g,hg.y,?_,hg.t0,hg.t1,hg.t2,eO.2 ⟨hg.r0,hg.r1,hc⟩,?_,?_,?_,?_⟩,hg.b,?_⟩
 ·rw [l.f14]; exact h.m.y2
 ·rw [l.f14]; have:=eO.1 h.m.p2; rw [eO,l.d0,l.d1]; exact this
 ·rw [l.f7,l.d0]; exact h.m.tabs
 ·have:=h.m.alt; unfold kT at this ⊢; rw [l.f15,l.f16,l.d0,l.d1]; exact this
 ·rw [l.f17]; exact h.m.ti
 ·rw [l.f16]; exact h.b2
def nO (s : aJ) (a b : Int) : aJ :=
 { s with f1:=mv s.f1 a (if s.f1 ≥ s.f5 then s.f5 else 0) (if s.f1 ≤ s.f6 then s.f6 else s.f0.f1 - 1),f2:=mv s.f2 b 0 (s.f0.f0 - 1),f3:=false }
def kG (s : aJ) (a b : Int) : aJ :=
 { s with f1:=mv (if s.f9 = true then s.f5 else 0) a (if s.f9 = true then s.f5 else 0) (if s.f9 = true then s.f6 else s.f0.f1 - 1),f2:=mv 0 b 0 (s.f0.f0 - 1),f3:=false }
theorem nk (s : aJ) (h0 : 1 ≤ s.f0.f0) (h1 : s.f0.f0 ≤ 512) : dp.f s = some (s.f0.f0 - 1):=by
 unfold dp.f; rw [eV (by omega) (by omega)]; rfl
theorem yO (s : aJ) (h : Ok s) (a b : Int) : iL.f s a b = some (nO s a b):=by
 obtain ⟨w,q,c,d,_,_,_,_,_,_⟩:=h.size
 have hp:=eO.1 h.m.p
 have:=h.m.t0; have:=h.m.t1; have:=h.m.t2
 unfold iL.f nO
 rw [eV (x:=s.f0.f1 - 1) (by omega) (by omega),tC,tC]
 simp only [lt]
 by_cases c1 : s.f1 ≤ s.f6
 ·by_cases c2 : s.f1 ≥ s.f5
  ·simp only [c1,c2,if_true,Option.bind_some]
   rw [mu (by omega) (by omega) (by omega) (by omega) (by omega)]
   simp only [Option.bind_some]
   rw [nk _ (by show 1 ≤ s.f0.f0; omega) (by show s.f0.f0 ≤ 512; omega)]
   simp only [Option.bind_some]
   rw [mu (by omega) (by omega) (by omega) (by omega) (by omega)]; rfl
  ·simp only [c1,c2,if_true,if_false,Option.bind_some]
   rw [mu (by omega) (by omega) (by omega) (by omega) (by omega)]
   simp only [Option.bind_some]
   rw [nk _ (by show 1 ≤ s.f0.f0; omega) (by show s.f0.f0 ≤ 512; omega)]
   simp only [Option.bind_some]
   rw [mu (by omega) (by omega) (by omega) (by omega) (by omega)]; rfl
 ·have c2 : s.f1 ≥ s.f5:=by omega
  simp only [c1,c2,if_true,if_false,Option.bind_some]
  rw [mu (by omega) (by omega) (by omega) (by omega) (by omega)]
  simp only [Option.bind_some]
  rw [nk _ (by show 1 ≤ s.f0.f0; omega) (by show s.f0.f0 ≤ 512; omega)]
  simp only [Option.bind_some]
  rw [mu (by omega) (by omega) (by omega) (by omega) (by omega)]; rfl
theorem yU (s : aJ) (hs : Sg s) (a b : Int) (k : Nat) (hk : 40000000000000 ≤ k) : pS.f k s a b = some (fF s (nO s a b)):=by
 unfold pS.f fF
 rw [rP s hs k hk]
 cases hm : cx s
 ·simp
 ·have h:=iY hs hm
  obtain ⟨w,q,c,d,_,_,_,_,_,_⟩:=h.size
  have hp:=eO.1 h.m.p
  have:=h.m.t0; have:=h.m.t1; have:=h.m.t2
  simp only [Option.bind_some,if_true,Bool.not_true,Bool.false_eq_true,if_false,lt]
  rw [eV (x:=s.f0.f1 - 1) (by omega) (by omega),eV (x:=s.f0.f0 - 1) (by omega) (by omega)]
  unfold nO
  by_cases c1 : s.f1 ≤ s.f6
  ·by_cases c2 : s.f1 ≥ s.f5
   ·simp only [c1,c2,if_true,Option.bind_some]
    rw [my (by omega) (by omega) (by omega) (by omega) (by omega) (by omega),my (by omega) (by omega) (by omega) (by omega) (by omega) (by omega)]; rfl
   ·simp only [c1,c2,if_true,if_false,Option.bind_some]
    rw [my (by omega) (by omega) (by omega) (by omega) (by omega) (by omega),my (by omega) (by omega) (by omega) (by omega) (by omega) (by omega)]; rfl
  ·have c2 : s.f1 ≥ s.f5:=by omega
   simp only [c1,c2,if_true,if_false,Option.bind_some]
   rw [my (by omega) (by omega) (by omega) (by omega) (by omega) (by omega),my (by omega) (by omega) (by omega) (by omega) (by omega) (by omega)]; rfl
theorem nS {n b lo hi : Int} (h : lo ≤ hi) : lo ≤ mv n b lo hi∧mv n b lo hi ≤ hi:=by unfold mv; omega
theorem xd {s : aJ} (h : Ok s) (a b : Int) : Ok (nO s a b):=by
 obtain ⟨w,q,j,l,_,_,_,_,_,_⟩:=h.size
 have hp:=eO.1 h.m.p
 have:=h.m.t0; have:=h.m.t1; have:=h.m.t2
 have hm:=h.mg
 have c:=nS (n:=s.f1) (b:=a) (lo:=if s.f1 ≥ s.f5 then s.f5 else 0) (hi:=if s.f1 ≤ s.f6 then s.f6 else s.f0.f1 - 1) (by split <;> split <;> omega)
 have d:=nS (n:=s.f2) (b:=b) (lo:=0) (hi:=s.f0.f0 - 1) (by omega)
 refine fK h ⟨rfl,rfl,rfl,rfl,rfl,rfl,rfl,rfl,rfl,rfl,rfl,rfl,rfl⟩ ⟨hm.g,hm.b,hm.y,hm.t0,hm.t1,hm.t2,?_,?_⟩ ⟨d.1,?_,fun q=>by cases q⟩
 ·refine Int.le_trans ?_ c.1; split <;> omega
 ·refine Int.lt_of_le_of_lt c.2 ?_
  show _ < s.f0.f1
  split <;> omega
 ·show mv s.f2 b 0 (s.f0.f0 - 1) < s.f0.f0
  omega
theorem rl (s : aJ) (h0 : 1 ≤ s.f0.f0) (h1 : s.f0.f0 ≤ 512) (h2 : 1 ≤ s.f0.f1) (h3 : s.f0.f1 ≤ 512) (t0 : 0 ≤ s.f5) (t1 : s.f5 ≤ s.f6) (t2 : s.f6 < s.f0.f1) (a b : Int) : fB.f s a b = some (kG s a b):=by
 have col : kB.f b 0 (s.f0.f0 - 1) = some (mv 0 b 0 (s.f0.f0 - 1)):=by rw [wJ]; unfold mv; congr 1; omega
 unfold fB.f kG
 rw [eV (x:=s.f0.f1 - 1) (by omega) (by omega),tC]
 simp only [lt]
 cases hf : s.f9
 ·simp only [Bool.false_eq_true,if_false,Option.bind_some]
  rw [mu (by omega) (by omega) (by omega) (by omega) (by omega)]
  simp only [Option.bind_some]
  rw [nk _ (by show 1 ≤ s.f0.f0; omega) (by show s.f0.f0 ≤ 512; omega)]
  simp only [Option.bind_some]
  rw [col]; simp only [hf,Option.bind_some]
 ·simp only [if_true,Option.bind_some]
  rw [mu (by omega) (by omega) (by omega) (by omega) (by omega)]
  simp only [Option.bind_some]
  rw [nk _ (by show 1 ≤ s.f0.f0; omega) (by show s.f0.f0 ≤ 512; omega)]
  simp only [Option.bind_some]
  rw [col]; simp only [hf,Option.bind_some]
theorem rq (s : aJ) (hs : Sg s) (a b : Int) (k : Nat) (hk : 40000000000000 ≤ k) : jW.f k s a b = some (fF s (kG s a b)):=by
 unfold jW.f fF
 rw [rP s hs k hk]
 cases hm : cx s
 ·simp
 ·have h:=iY hs hm
  obtain ⟨w,q,c,d,_,_,_,_,_,_⟩:=h.size
  have:=h.m.t0; have:=h.m.t1; have:=h.m.t2
  simp only [Option.bind_some,if_true,Bool.not_true,Bool.false_eq_true,if_false,lt]
  rw [eV (x:=s.f0.f1 - 1) (by omega) (by omega),eV (x:=s.f0.f0 - 1) (by omega) (by omega)]
  unfold kG
  cases hf : s.f9
  ·simp only [Bool.false_eq_true,if_false,Option.bind_some]
   rw [my (by omega) (by omega) (by omega) (by omega) (by omega) (by omega),my (by omega) (by omega) (by omega) (by omega) (by omega) (by omega)]; simp only [hf,Option.bind_some]
  ·simp only [if_true,Option.bind_some]
   rw [my (by omega) (by omega) (by omega) (by omega) (by omega) (by omega),my (by omega) (by omega) (by omega) (by omega) (by omega) (by omega)]; simp only [hf,Option.bind_some]
theorem pn {s : aJ} (h : Ok s) (a b : Int) : Ok (kG s a b):=by
 obtain ⟨w,q,j,l,_,_,_,_,_,_⟩:=h.size
 have:=h.m.t0; have:=h.m.t1; have:=h.m.t2
 have hm:=h.mg
 have c:=nS (n:=if s.f9 = true then s.f5 else 0) (b:=a) (lo:=if s.f9 = true then s.f5 else 0) (hi:=if s.f9 = true then s.f6 else s.f0.f1 - 1) (by split <;> omega)
 have d:=nS (n:=0) (b:=b) (lo:=0) (hi:=s.f0.f0 - 1) (by omega)
 refine fK h ⟨rfl,rfl,rfl,rfl,rfl,rfl,rfl,rfl,rfl,rfl,rfl,rfl,rfl⟩ ⟨hm.g,hm.b,hm.y,hm.t0,hm.t1,hm.t2,?_,?_⟩ ⟨d.1,?_,fun q=>by cases q⟩
 ·refine Int.le_trans ?_ c.1; split <;> omega
 ·refine Int.lt_of_le_of_lt c.2 ?_
  show _ < s.f0.f1
  split <;> omega
 ·show mv 0 b 0 (s.f0.f0 - 1) < s.f0.f0
  omega
def jN (s : aJ) (t b : Int) : aJ:=if t < 0 ∨ t ≥ b ∨ b ≥ s.f0.f1 then s else kG { s with f5:=t,f6:=b } 0 0
theorem vo (s : aJ) (h : Ok s) (t b : Int) : iQ.f s t b = some (jN s t b):=by
 obtain ⟨w,q,a,d,_,_,_,_,_,_⟩:=h.size
 unfold iQ.f jN
 simp only [lt]
 by_cases c : t < 0 ∨ t ≥ b ∨ b ≥ s.f0.f1
 ·rw [if_pos c,if_pos (by simpa [or_assoc] using c)]
 ·rw [if_neg c,if_neg (by simpa [or_assoc] using c),rl _ (by show 1 ≤ s.f0.f0; omega) (by show s.f0.f0 ≤ 512; omega) (by show 1 ≤ s.f0.f1; omega) (by show s.f0.f1 ≤ 512; omega) (by show 0 ≤ t; omega) (by show t ≤ b; omega) (by show b < s.f0.f1; omega)]
  rfl
theorem oM {s : aJ} (h : Ok s) {t b : Int} (c : ¬ (t < 0 ∨ t ≥ b ∨ b ≥ s.f0.f1)) : Ok { s with f5:=t,f6:=b } :=
 ⟨⟨h.m.g,h.m.y,h.m.y2,by show 0 ≤ t; omega,by show t ≤ b; omega,by show b < s.f0.f1; omega,h.m.p,h.m.p2,h.m.tabs,h.m.alt,h.m.ti⟩,h.b,h.b2⟩
theorem vt (s : aJ) (hs : Sg s) (t b : Int) (k : Nat) (hk : 40000000000000 ≤ k) : pW.f k s t b = some (fF s (jN s t b)):=by
 unfold pW.f
 rw [rP s hs k hk]
 cases hm : cx s
 ·simp [fF,hm]
 ·have h:=iY hs hm
  simp only [Option.bind_some,if_true,Bool.not_true,Bool.false_eq_true,if_false,lt,fF,hm]
  unfold jN
  by_cases c : t < 0 ∨ t ≥ b ∨ b ≥ s.f0.f1
  ·rw [if_pos c,if_pos (by simpa [or_assoc] using c)]
  ·have h2:=oM h c
   rw [if_neg c,if_neg (by simpa [or_assoc] using c),rq _ h2.sg 0 0 k hk]
   simp only [Option.bind_some,fF,h2.may,if_true]
theorem tR {s : aJ} (h : Ok s) (t b : Int) : Ok (jN s t b):=by
 unfold jN
 split
 ·exact h
 ·rename_i c; exact pn (oM h c) 0 0
def ll (s : aJ) (back : Bool) : aJ:=if back = true then { s with f1:=s.f14.f0,f2:=s.f14.f1,f3:=s.f14.f2,f9:=s.f14.f3,f4:=s.f14.f4 } else { s with f14:=dz.mk s.f1 s.f2 s.f3 s.f9 s.f4 }
theorem tZ (s : aJ) (b : Bool) : fM.f s b = some (ll s b):=by
 unfold fM.f ll; split <;> rfl
theorem uf (s : aJ) (hs : Sg s) (b : Bool) (k : Nat) (hk : 40000000000000 ≤ k) : jf.f k s b = some (fF s (ll s b)):=by
 unfold jf.f fF
 rw [rP s hs k hk]
 cases hm : cx s
 ·simp
 ·cases b <;> simp [ll]
theorem nT {s : aJ} (h : Ok s) (b : Bool) : Ok (ll s b):=by
 unfold ll
 split
 ·exact ⟨⟨h.m.g,h.m.y2,h.m.y2,h.m.t0,h.m.t1,h.m.t2,h.m.p2,h.m.p2,h.m.tabs,h.m.alt,h.m.ti⟩,h.b,h.b2⟩
 ·exact ⟨⟨h.m.g,h.m.y,h.m.y,h.m.t0,h.m.t1,h.m.t2,h.m.p,h.m.p,h.m.tabs,h.m.alt,h.m.ti⟩,h.b,h.b2⟩
def mw (s : aJ) (n : Int) : aJ:={ qw s s.f5 s.f6 n with f3:=false }
def lm (s : aJ) (n : Int) : aJ:=if s.f1 < s.f5 ∨ s.f1 > s.f6 then s else { qw s s.f1 s.f6 (-n) with f2:=0,f3:=false }
theorem vq (s : aJ) (h : Ok s) (n : Int) (k : Nat) (hk : 1100000 ≤ k) : iP.f k s n = some (mw s n):=by
 unfold iP.f
 rw [up s h.mg _ _ _ h.m.t0 h.m.t1 h.m.t2 k hk]; rfl
theorem ui (s : aJ) (hs : Sg s) (n : Int) (k : Nat) (hk : 40000000000000 ≤ k) : pV.f k s n = some (fF s (mw s n)):=by
 unfold pV.f fF
 rw [rP s hs k hk]
 cases hm : cx s
 ·simp
 ·have h:=iY hs hm
  simp only [Option.bind_some,if_true,Bool.not_true,Bool.false_eq_true,if_false]
  rw [nx s h.mg _ _ _ k (by omega)]; rfl
theorem fp {s : aJ} (h : Ok s) : 0 ≤ s.f2∧s.f2 < s.f0.f0∧(s.f3 = true → s.f2 = s.f0.f0 - 1):=(eO.1 h.m.p).2.2
theorem fJ {s : aJ} (h : Mg s) (c : Int) (p : Bool) : Mg { s with f2:=c,f3:=p }:=⟨h.g,h.b,h.y,h.t0,h.t1,h.t2,h.r0,h.r1⟩
theorem fE {s t : aJ} (l : iU s t) (c : Int) (p : Bool) : iU s { t with f2:=c,f3:=p }:=⟨l.d0,l.d1,l.f4,l.f5,l.f6,l.f7,l.f8,l.f9,l.f10,l.f14,l.f15,l.f16,l.f17⟩
theorem tT {s : aJ} (h : Ok s) (n : Int) : Ok (mw s n):=by
 have hm:=pt (by_:=n) h.mg h.m.t0 h.m.t1 h.m.t2
 have hl:=mL (by_:=n) h.mg h.m.t0 h.m.t1 h.m.t2
 have hc:=fp h
 exact fK h (fE hl s.f2 false) (fJ hm s.f2 false) ⟨hc.1,by have:=hl.d0; show s.f2 < (qw s s.f5 s.f6 n).f0.f0; omega,fun q=>by cases q⟩
theorem tK {n : Int} : fH 512 (-(max (-1024) (min n 1024))) = fH 512 (-n):=by unfold fH; omega
theorem xh (s : aJ) (h : Ok s) (n : Int) (k : Nat) (hk : 1100000 ≤ k) : iN.f k s n = some (lm s n):=by
 have hp:=eO.1 h.m.p
 unfold iN.f lm
 rw [tC]
 by_cases c1 : s.f1 < s.f5
 ·simp [c1]
 ·by_cases c2 : s.f1 > s.f6
  ·simp [c1,c2]
  ·have c3 : ¬ (s.f1 < s.f5 ∨ s.f1 > s.f6):=by omega
   simp only [c1,c2,c3,if_false,decide_false,Option.bind_some,Bool.false_eq_true]
   rw [up s h.mg _ _ _ (by omega) (by omega) h.m.t2 k hk,eV (by omega) (by omega),show (0 : Int) - max (-1024) (min n 1024) = -(max (-1024) (min n 1024)) from by omega,qx h.mg (by omega) (by omega) h.m.t2 tK]
   rfl
theorem xo (s : aJ) (hs : Sg s) (n : Int) (hn : n ≤ 9223372036854775807) (k : Nat) (hk : 40000000000000 ≤ k) : pT.f k s n = some (fF s (lm s n)):=by
 unfold pT.f fF
 rw [rP s hs k hk]
 cases hm : cx s
 ·simp
 ·have h:=iY hs hm
  have hp:=eO.1 h.m.p
  simp only [Option.bind_some,if_true,Bool.not_true,Bool.false_eq_true,if_false,lt]
  unfold lm
  by_cases c3 : s.f1 < s.f5 ∨ s.f1 > s.f6
  ·rw [if_pos c3,if_pos (by simpa using c3)]
  ·rw [if_neg c3,if_neg (by simpa using c3),kI,eV (by omega) (by omega),my (by omega) (by omega) (by omega) (by omega) (by omega) (by omega)]
   simp only [Option.bind_some]
   rw [nx s h.mg _ _ _ k (by omega)]
   simp only [Option.bind_some]
   have:=qx h.mg (t:=s.f1) (u:=s.f6) (x:=mv 0 (0 - max n (-1000)) (-1000) 1000) (y:=-n) (by omega) (by omega) h.m.t2 (by unfold fH mv; omega)
   unfold qw at this ⊢
   have e:=congrArg aJ.f0 this
   simp only at e
   rw [e]
theorem vk {s : aJ} (h : Ok s) (n : Int) : Ok (lm s n):=by
 unfold lm
 split
 ·exact h
 ·have hp:=eO.1 h.m.p
  have hm:=pt (t:=s.f1) (u:=s.f6) (by_:=-n) h.mg (by omega) (by omega) h.m.t2
  have hl:=mL (t:=s.f1) (u:=s.f6) (by_:=-n) h.mg (by omega) (by omega) h.m.t2
  obtain ⟨w,q,a,b,_,_,_,_,_,_⟩:=h.size
  exact fK h (fE hl 0 false) (fJ hm 0 false) ⟨by show (0 : Int) ≤ 0; omega,by have:=hl.d0; show (0 : Int) < (qw s s.f1 s.f6 (-n)).f0.f0; omega,fun q=>by cases q⟩
end Go.Proofs.YtckilbegmbaeeaaGreat.Z6Sc
namespace Go.Proofs.YtckilbegmbaeeaaGreat.Z6Sc
open Go Go.RowKit Go.Proofs.YtckilbegmbaeeaaGreat.SL Go.Proofs.YtckilbegmbaeeaaGreat.Z6 Go.Proofs.YtckilbegmbaeeaaGreat.Z6May Go.Proofs.YtckilbegmbaeeaaGreat.Z6Ls Go.Proofs.YtckilbegmbaeeaaGreat.Z6Op Go.Proofs.YtckilbegmbaeeaaGreat.Z6Sp
set_option linter.unusedVariables false
set_option linter.unusedSimpArgs false
theorem Mg.at {s : aJ} (h : Mg s) : ∃ w q i : Nat,s.f0.f0 = (w : Int)∧s.f0.f1 = (q : Int)∧s.f1 = (i : Int)∧0 < w∧w ≤ 512∧0 < q∧q ≤ 512∧i < q∧s.f0.f2.length = w * q∧w * q ≤ 262144∧i * w + w ≤ s.f0.f2.length:=by
 obtain ⟨w,q,j,l,a,b,c,d,hl,hb⟩:=h.size
 have m:=h.r0
 have o:=h.r1
 have hp:=fg (w:=w) (i:=s.f1.toNat) (q:=q) (by omega)
 exact ⟨w,q,s.f1.toNat,j,l,by omega,a,b,c,d,by omega,hl,hb,by rw [hl]; exact hp⟩
theorem vH (s : aJ) (w q i : Nat) (e0 : s.f0.f0 = (w : Int)) (hl : s.f0.f2.length = w * q) (hb : w * q ≤ 262144) (hi : i < q) : eb.f s (i : Int) = some (((i * w : Nat) : Int),(w : Int)):=by
 have hp:=fg (w:=w) hi
 unfold eb.f
 simp only [lt]
 rw [e0,show (i : Int) * (w : Int) = ((i * w : Nat) : Int) from by simp,eV (x:=((i * w : Nat) : Int)) (by omega) (by omega),eV (x:=((i * w : Nat) : Int) + (w : Int)) (by omega) (by omega),if_pos (by omega)]
 congr 2 <;> omega
theorem ua (s : aJ) (w q i : Nat) (e0 : s.f0.f0 = (w : Int)) (e2 : s.f1 = (i : Int)) (hl : s.f0.f2.length = w * q) (hb : w * q ≤ 262144) (hi : i < q) : ef.f s = some (((i * w : Nat) : Int),(w : Int)):=by
 have hp:=fg (w:=w) hi
 unfold ef.f
 rw [e2,vH s w q i e0 hl hb hi]
 simp only [Option.bind_some]
 rw [if_pos (by omega)]
def ls (s : aJ) (f : List aY → List aY) : aJ:={ s with f0:=(lu s.f0 s.f1 f).1 }
theorem nU {s : aJ} {w i : Nat} {f : List aY → List aY} (e0 : s.f0.f0 = (w : Int)) (e2 : s.f1 = (i : Int)) :
  ls s f = { s with f0:=bH.mk s.f0.f0 s.f0.f1 (bB s.f0.f2 (i * w) (co (f (win s.f0.f2 (i * w) w)))) }:=by
 unfold ls lu; rw [e0,e2]; simp only [Int.toNat_natCast]
theorem mK {s : aJ} (h : Mg s) : ik s.f0 s.f1 s.f4 = true:=by
 unfold ik
 simp only [h.g,h.y,Bool.true_and,Bool.and_true,Bool.and_eq_true,decide_eq_true_eq]
 exact ⟨h.r0,h.r1⟩
theorem nV (s : aJ) (f : List aY → List aY) : iU s (ls s f):=⟨rfl,rfl,rfl,rfl,rfl,rfl,rfl,rfl,rfl,rfl,rfl,rfl,rfl⟩
theorem ri {s : aJ} (h : Mg s) {f : List aY → List aY} (hf : ∀ W : List aY,W.length = s.f0.f0.toNat → (∀ x ∈ W,cv x = true) → (f W).length = W.length∧∀ x ∈ f W,cv x = true) (hb : ∀ W : List aY,(∀ x ∈ W,gp x) → ∀ x ∈ f W,gp x) : Mg (ls s f) :=
 ⟨sL (mK h) hf,sK h.b hb,h.y,h.t0,h.t1,h.t2,h.r0,h.r1⟩
def pc (s : aJ) (n : Int) : List aY → List aY:=fun W=>bB W s.f2.toNat (dV (W.drop s.f2.toNat) (-n) (eL s.f4))
def mP (s : aJ) (n : Int) : aJ:={ ls s (pc s n) with f3:=false }
theorem od {s : aJ} (h : Mg s) (hc : 0 ≤ s.f2∧s.f2 < s.f0.f0) (n : Int) : Mg (ls s (pc s n)):=by
 refine ri h (fun W hW hm=>⟨nd (by omega),fun x hx=>?_⟩) (fun W hW=>hU hW (oR fun x hx=>hW x (List.mem_of_mem_drop hx)))
 rcases jy hx with q | q
 ·exact hm x q
 ·rcases oS q with q | q
  ·exact hm x (List.mem_of_mem_drop q)
  ·rw [q]; exact lJ h.y
theorem ub (s : aJ) (h : Mg s) (hc : 0 ≤ s.f2∧s.f2 < s.f0.f0) (n : Int) (w q i : Nat) (e0 : s.f0.f0 = (w : Int)) (e2 : s.f1 = (i : Int)) (hw : w ≤ 512) (hl : s.f0.f2.length = w * q) (hb : w * q ≤ 262144) (hp : i * w + w ≤ s.f0.f2.length) (k : Nat) (hk : 1100000 ≤ k) :
  ja.f k s.f0.f2 ((i * w : Nat) : Int) (w : Int) s.f2 n s.f4 = some (bB s.f0.f2 (i * w) (co (pc s n (win s.f0.f2 (i * w) w)))):=by
 obtain ⟨c,a⟩ : ∃ c : Nat,s.f2 = (c : Int):=⟨s.f2.toNat,by omega⟩
 unfold pc
 rw [a,f88 s.f0.f2 (i * w) w c n s.f4 hp (by omega) (by omega) (by omega) k (by omega)]
 simp only [Int.toNat_natCast]
theorem rQ {s : aJ} {n : Int} {W : List aY} (h : s.f2.toNat ≤ W.length) : (pc s n W).length = W.length:=nd h
theorem xf (s : aJ) (h : Ok s) (n : Int) (k : Nat) (hk : 1100000 ≤ k) : iO.f k s n = some (mP s n):=by
 obtain ⟨w,q,i,j,m,l,a,b,c,d,hi,hl,hb,hp⟩:=h.mg.at
 have hc:=fp h
 unfold iO.f mP
 rw [ua s w q i j l hl hb hi]
 simp only [Option.bind_some]
 rw [if_pos (by omega),ub s h.mg ⟨hc.1,hc.2.1⟩ n w q i j l b hl hb hp k hk]
 simp only [Option.bind_some]
 have hw:=dW hp
 rw [if_pos (aU (by rw [cL,rQ (by omega),hw]; exact hp)),nU j l]
theorem uj (s : aJ) (h : Mg s) (hc : 0 ≤ s.f2∧s.f2 < s.f0.f0) (n : Int) (k : Nat) (hk : 1100000 ≤ k) : fx.f k s.f0 s.f1 s.f2 n s.f4 = some ((ls s (pc s n)).f0,0):=by
 rw [EF s.f0 h.gr _ _ _ _ k hk]
 unfold rv
 rw [if_pos (by rw [mK h]; simp; exact hc)]
 rfl
theorem xm (s : aJ) (hs : Sg s) (n : Int) (k : Nat) (hk : 40000000000000 ≤ k) : pU.f k s n = some (fF s (mP s n)):=by
 unfold pU.f fF
 rw [rP s hs k hk]
 cases hm : cx s
 ·simp
 ·have h:=iY hs hm
  have hc:=fp h
  simp only [Option.bind_some,if_true,Bool.not_true,Bool.false_eq_true,if_false]
  rw [uj s h.mg ⟨hc.1,hc.2.1⟩ n k (by omega)]
  rfl
theorem vW {s : aJ} (h : Ok s) {f : List aY → List aY} (hm : Mg (ls s f)) : Ok { ls s f with f3:=false }:=by
 have hc:=fp h
 exact fK h (fE (nV s f) s.f2 false) (fJ hm s.f2 false) ⟨hc.1,hc.2.1,fun q=>by cases q⟩
theorem vi {s : aJ} (h : Ok s) (n : Int) : Ok (mP s n):=by
 have hc:=fp h
 exact vW h (od h.mg ⟨hc.1,hc.2.1⟩ n)
def mT (s : aJ) (a b : Int) : List aY → List aY:=fun W=>bB W a.toNat (List.replicate (b.toNat - a.toNat) (eL s.f4))
def oE (s : aJ) (n : Int) : aJ:={ ls s (mT s s.f2 (mv s.f2 n s.f2 s.f0.f0)) with f3:=false }
theorem mz {s : aJ} {a b : Int} {W : List aY} (h : a ≤ b) (h0 : 0 ≤ a) (h2 : b.toNat ≤ W.length) : (mT s a b W).length = W.length:=aU (by rw [List.length_replicate]; omega)
theorem tA {s : aJ} (h : Mg s) {a b : Int} (h0 : 0 ≤ a) (h1 : a ≤ b) (h2 : b ≤ s.f0.f0) : Mg (ls s (mT s a b)):=by
 refine ri h (fun W hW hm=>⟨mz h1 h0 (by omega),fun x hx=>?_⟩) (fun W hW=>hU hW mH)
 rcases jy hx with q | q
 ·exact hm x q
 ·rw [(List.mem_replicate.1 q).2]; exact lJ h.y
theorem rj (X : List aY) (s : aJ) (a b : Int) (h0 : 0 ≤ a) (h1 : a ≤ b) (w o : Nat) (h2 : b ≤ (w : Int)) (hp : o + w ≤ X.length) (hl : X.length ≤ 262144) (k : Nat) (hk : 1100000 ≤ k) :
  jb.f k X (o : Int) (w : Int) a b s.f4 = some (bB X o (co (mT s a b (win X o w)))):=by
 obtain ⟨a,rfl⟩ : ∃ c : Nat,a = (c : Int):=⟨a.toNat,by omega⟩
 obtain ⟨b,rfl⟩ : ∃ c : Nat,b = (c : Int):=⟨b.toNat,by omega⟩
 unfold mT
 rw [EI X o w a b s.f4 hp (by omega) (by omega) (by omega) k (by omega)]
 simp only [Int.toNat_natCast]
theorem yQ (s : aJ) (h : Ok s) (n : Int) (k : Nat) (hk : 1100000 ≤ k) : iT.f k s n = some (oE s n):=by
 obtain ⟨w,q,i,j,m,l,a,b,c,d,hi,hl,hb,hp⟩:=h.mg.at
 have hc:=fp h
 have hm:=nS (n:=s.f2) (b:=n) (lo:=s.f2) (hi:=s.f0.f0) (by omega)
 unfold iT.f oE
 rw [ua s w q i j l hl hb hi]
 simp only [Option.bind_some]
 rw [if_pos (by omega),tC]
 simp only [Option.bind_some]
 rw [mu (by omega) (by omega) (by omega) (by omega) (by omega)]
 simp only [Option.bind_some]
 have hw:=dW hp
 rw [rj s.f0.f2 s s.f2 _ hc.1 hm.1 w (i * w) (by omega) hp (by omega) k hk]
 simp only [Option.bind_some]
 rw [if_pos (aU (by rw [cL,mz hm.1 hc.1 (by omega),hw]; exact hp)),nU j l]
theorem ud (s : aJ) (h : Mg s) {a b : Int} (h0 : 0 ≤ a) (h1 : a ≤ b) (h2 : b ≤ s.f0.f0) (k : Nat) (hk : 1100000 ≤ k) : fy.f k s.f0 s.f1 a b s.f4 = some ((ls s (mT s a b)).f0,0):=by
 rw [EE s.f0 h.gr _ _ _ _ k hk]
 unfold ru
 rw [if_pos (by rw [mK h]; simp; exact ⟨h0,h1,h2⟩)]
 rfl
theorem yW (s : aJ) (hs : Sg s) (n : Int) (k : Nat) (hk : 40000000000000 ≤ k) : pY.f k s n = some (fF s (oE s n)):=by
 unfold pY.f fF
 rw [rP s hs k hk]
 cases hm : cx s
 ·simp
 ·have h:=iY hs hm
  have hc:=fp h
  obtain ⟨w,q,a,c,_,_,_,_,_,_⟩:=h.size
  have hv:=nS (n:=s.f2) (b:=n) (lo:=s.f2) (hi:=s.f0.f0) (by omega)
  simp only [Option.bind_some,if_true,Bool.not_true,Bool.false_eq_true,if_false]
  rw [my (by omega) (by omega) (by omega) (by omega) (by omega) (by omega),kI,show mv s.f2 (max 0 n) s.f2 s.f0.f0 = mv s.f2 n s.f2 s.f0.f0 from by unfold mv; omega]
  simp only [Option.bind_some]
  rw [ud s h.mg hc.1 hv.1 hv.2 k (by omega)]
  rfl
theorem xe {s : aJ} (h : Ok s) (n : Int) : Ok (oE s n):=by
 have hc:=fp h
 obtain ⟨w,q,a,c,_,_,_,_,_,_⟩:=h.size
 have hv:=nS (n:=s.f2) (b:=n) (lo:=s.f2) (hi:=s.f0.f0) (by omega)
 exact vW h (tA h.mg hc.1 hv.1 hv.2)
theorem mB {w : Nat} {R : Nat → List aY} : ∀ (q : Nat),(∀ n,n < q → (R n).length = w) → ((List.range q).flatMap R).length = w * q
 | 0,_=>by simp
 | q + 1,h=>by
  rw [List.range_succ,List.flatMap_append,List.length_append,mB q fun n hn=>h n (by omega)]
  simp only [List.flatMap_cons,List.flatMap_nil,List.append_nil]
  rw [h q (by omega),Nat.mul_add,Nat.mul_one]
theorem oh {w : Nat} {R : Nat → List aY} : ∀ (q n : Nat),(∀ n,n < q → (R n).length = w) → n < q → win ((List.range q).flatMap R) (n * w) w = R n
 | 0,n,_,h=>by omega
 | q + 1,n,h,hn=>by
  have hl:=mB q fun n hn=>h n (by omega)
  rw [List.range_succ,List.flatMap_append]
  simp only [List.flatMap_cons,List.flatMap_nil,List.append_nil]
  have hR:=h q (by omega)
  apply List.ext_getElem?
  intro j
  rw [er]
  by_cases hj : j < w
  ·rw [if_pos hj]
   by_cases hq : n < q
   ·have hp:=fg (w:=w) hq
    have e:=congrArg (·[j]?) (oh q n (fun n hn=>h n (by omega)) hq)
    simp only [er,hj,if_true] at e
    rw [List.getElem?_append_left (by omega)]; exact e
   ·obtain rfl : n = q:=by omega
    rw [List.getElem?_append_right (by rw [hl,Nat.mul_comm]; omega),hl]
    congr 1; rw [Nat.mul_comm]; omega
  ·rw [if_neg hj,List.getElem?_eq_none (by rw [h n hn]; omega)]
theorem pi {X : List aY} {w q : Nat} {R : Nat → List aY} (hl : X.length = w * q) (hR : ∀ n,n < q → (R n).length = w) (h : ∀ n,n < q → win X (n * w) w = R n) : X = (List.range q).flatMap R :=
 qu hl (mB q hR) fun n hn=>by rw [h n hn,oh q n hR hn]
theorem px {X R : List aY} {w q n r : Nat} (hl : X.length = w * q) (hn : n < q) (hr : r < q) (hR : R.length = w) : win (bB X (n * w) R) (r * w) w = if r = n then R else win X (r * w) w:=by
 have hp:=fg (w:=w) hn
 split
 ·rename_i e; subst e; exact kx hR (by omega)
 ·rename_i e
  refine kP (by omega) hR ?_
  rcases Nat.lt_or_ge r n with z | z
  ·left; have:=Nat.mul_le_mul_right w (show r + 1 ≤ n from z); rw [Nat.add_mul] at this; omega
  ·right; have:=Nat.mul_le_mul_right w (show n + 1 ≤ r from by omega); rw [Nat.add_mul] at this; omega
def oo (s : aJ) (lines : Bool) (kind : Int) (n : Int) : Int × Int :=
 if n = s.f1∧kind = 0 then (s.f2,s.f0.f0) else if n = s.f1∧kind = 1 then (0,s.f2 + 1) else
 if (kind = 2∧(lines = true ∨ n = s.f1)) ∨ (lines = true∧kind = 0∧n > s.f1) ∨ (lines = true∧kind = 1∧n < s.f1) then (0,s.f0.f0) else (0,0)
theorem rc {s : aJ} (h : 0 ≤ s.f2∧s.f2 < s.f0.f0) (lines : Bool) (kind n : Int) : 0 ≤ (oo s lines kind n).1∧(oo s lines kind n).1 ≤ (oo s lines kind n).2∧(oo s lines kind n).2 ≤ s.f0.f0:=by
 unfold oo
 split
 ·exact ⟨by simp; omega,by simp; omega,by simp⟩
 ·split
  ·exact ⟨by simp,by simp; omega,by simp; omega⟩
  ·split
   ·exact ⟨by simp,by simp; omega,by simp⟩
   ·exact ⟨by simp,by simp,by simp; omega⟩
def kr (s : aJ) (lines : Bool) (kind : Int) (n : Nat) : List aY :=
 co (mT s (oo s lines kind n).1 (oo s lines kind n).2 (win s.f0.f2 (n * s.f0.f0.toNat) s.f0.f0.toNat))
def lk (s : aJ) (lines : Bool) (kind : Int) : aJ :=
 { s with f0:=bH.mk s.f0.f0 s.f0.f1 ((List.range s.f0.f1.toNat).flatMap (kr s lines kind)),f3:=false }
theorem kt {s : aJ} {w q : Nat} (e0 : s.f0.f0 = (w : Int)) (hl : s.f0.f2.length = w * q) (hc : 0 ≤ s.f2∧s.f2 < s.f0.f0) {lines : Bool} {kind : Int} {n : Nat} (hn : n < q) : (kr s lines kind n).length = w:=by
 have hp:=fg (w:=w) hn
 have hi:=rc hc lines kind n
 unfold kr
 rw [cL,e0,Int.toNat_natCast]
 have hw:=dW (xs:=s.f0.f2) (o:=n * w) (n:=w) (by omega)
 rw [mz hi.2.1 hi.1 (by omega),hw]
theorem tD {s : aJ} {W : List aY} : mT s 0 0 W = W:=by unfold mT bB; simp
theorem kw {s : aJ} (h : Mg s) {w q n : Nat} (e0 : s.f0.f0 = (w : Int)) (e1 : s.f0.f1 = (q : Int)) (hn : n < q) : lP (win s.f0.f2 (n * w) w):=by
 obtain ⟨w',q',e0',e1',_,_,_,_,_,hr⟩:=(eU s.f0).1 h.g
 obtain rfl : w' = w:=by omega
 obtain rfl : q' = q:=by omega
 exact hr n hn
theorem yv (s : aJ) (lines : Bool) (kind : Int) (w q : Nat) (h : Ok s) (e0 : s.f0.f0 = (w : Int)) (e1 : s.f0.f1 = (q : Int)) : ∀ (m k n : Nat) (X : List aY),n + m = q → m + 1100000 < k → X.length = w * q →
  (∀ r,r < q → win X (r * w) w = if r < n then kr s lines kind r else win s.f0.f2 (r * w) w) →
  jJ.l0 lines kind k { s with f0:=bH.mk s.f0.f0 s.f0.f1 X } (n : Int) = some { s with f0:=bH.mk s.f0.f0 s.f0.f1 ((List.range q).flatMap (kr s lines kind)) }
 | _,0,_,_,_,hk,_,_=>by omega
 | 0,k + 1,n,X,hn,hk,hX,hw=>by
  obtain ⟨_,_,_,_,_,_,_,_,hl,hb⟩:=h.size
  have hc:=fp h
  obtain rfl : n = q:=by omega
  have hl' : s.f0.f2.length = w * n:=by
   obtain ⟨w',q',e0',e1',_,_,_,_,hl,hb⟩:=h.size
   obtain rfl : w' = w:=by omega
   obtain rfl : q' = n:=by omega
   exact hl
  rw [jJ.l0,if_neg (by show ¬ (n : Int) < s.f0.f1; omega),pi hX (fun r hr=>kt e0 hl' ⟨hc.1,hc.2.1⟩ hr) fun r hr=>by rw [hw r hr,if_pos hr]]
 | m + 1,k + 1,n,X,hn,hk,hX,hw=>by
  obtain ⟨w',q',e0',e1',a,b,c,d,hl,hb⟩:=h.size
  obtain rfl : w' = w:=by omega
  obtain rfl : q' = q:=by omega
  have hc:=fp h
  have hi:=rc ⟨hc.1,hc.2.1⟩ lines kind n
  have hp:=fg (w:=w') (i:=n) (q:=q') (by omega)
  have hg : ct (bH.mk s.f0.f0 s.f0.f1 X) = true:=by
   rw [eU]
   refine ⟨w',q',e0,e1,a,b,c,d,hX,fun r hr=>?_⟩
   show lP (win X (r * w') w')
   rw [hw r hr]
   split
   ·unfold kr
    refine lK fun x hx=>?_
    unfold mT at hx
    rcases jy hx with z | z
    ·rw [e0,Int.toNat_natCast] at z
     exact (kw h.mg e0 e1 hr).cells x z
    ·rw [(List.mem_replicate.1 z).2]; exact lJ h.m.y
   ·exact kw h.mg e0 e1 hr
  have hbX : ∀ x ∈ X,gp x:=by
   have e : X = (List.range q').flatMap fun r=>if r < n then kr s lines kind r else win s.f0.f2 (r * w') w':=pi hX (fun r hr=>by
    split
    ·exact kt e0 hl ⟨hc.1,hc.2.1⟩ hr
    ·have:=fg (w:=w') hr; exact dW (by omega)) hw
   rw [e]
   intro x hx
   simp only [List.mem_flatMap] at hx
   obtain ⟨r,_,hx⟩:=hx
   split at hx
   ·unfold kr at hx
    exact mD (hU (kO h.b) mH) x hx
   ·exact kO h.b x hx
  have hmg : Mg { s with f0:=bH.mk s.f0.f0 s.f0.f1 X,f1:=(n : Int) }:=⟨hg,hbX,h.m.y,h.m.t0,h.m.t1,h.m.t2,by show (0 : Int) ≤ (n : Int); omega,by show (n : Int) < s.f0.f1; omega⟩
  have hpair : ∀ (G : Int × Int → Option aJ),(lt ((decide ((n : Int) = s.f1)) && (decide (kind = 0))) fun K=>if K = true then (some (s.f2,s.f0.f0)) else (lt ((decide ((n : Int) = s.f1)) && (decide (kind = 1))) fun D=>if D = true then (lt (IntKind.i64.wrap (s.f2 + 1)) fun B=>some (0,B)) else ((if kind = 2 then (if lines = true then (some true) else (some (decide ((n : Int) = s.f1)))) else (some false) : Option Bool).bind (fun p=>(if p = true then (some p) else (lt (lines && (decide (kind = 0))) fun E=>lt (E && (decide ((n : Int) > s.f1))) fun u=>if u = true then (some u) else (lt (lines && (decide (kind = 1))) fun F=>lt (F && (decide ((n : Int) < s.f1))) fun I=>some I)) : Option (Bool)).bind (fun J=>if J = true then (some (0,s.f0.f0)) else (some (0,0)))))) : Option (Int × Int)).bind G = G (oo s lines kind n):=fun G=>by
   rw [eV (x:=s.f2 + 1) (by omega) (by omega)]
   unfold oo
   simp only [lt]
   by_cases c1 : (n : Int) = s.f1
   ·by_cases j : kind = 0
    ·simp [c1,j]
    ·by_cases l : kind = 1
     ·simp [c1,l]
     ·by_cases o : kind = 2
      ·cases lines <;> simp [c1,o]
      ·cases lines <;> simp [c1,j,l,o]
   ·by_cases j : kind = 0
    ·by_cases c2 : (n : Int) > s.f1 <;> cases lines <;> simp [c1,j,c2]
    ·by_cases l : kind = 1
     ·by_cases c2 : (n : Int) < s.f1 <;> cases lines <;> simp [c1,l,c2]
     ·by_cases o : kind = 2
      ·cases lines <;> simp [c1,o]
      ·cases lines <;> simp [c1,j,l,o]
  rw [jJ.l0,if_pos (by show (n : Int) < s.f0.f1; omega)]
  show Option.bind (_ : Option (Int × Int)) _ = _
  rw [hpair]
  have hre:=ud _ hmg (a:=(oo s lines kind n).1) (b:=(oo s lines kind n).2) hi.1 hi.2.1 hi.2.2 k (by omega)
  rw [nU (s:={ s with f0:=bH.mk s.f0.f0 s.f0.f1 X,f1:=(n : Int) }) (i:=n) e0 rfl] at hre
  show Option.bind (fy.f k (bH.mk s.f0.f0 s.f0.f1 X) (n : Int) (oo s lines kind n).1 (oo s lines kind n).2 s.f4) _ = _
  rw [show fy.f k (bH.mk s.f0.f0 s.f0.f1 X) (n : Int) (oo s lines kind n).1 (oo s lines kind n).2 s.f4 = _ from hre]
  simp only [Option.bind_some,lt]
  rw [eV (by omega) (by omega)]
  have hR : (co (mT { s with f0:=bH.mk s.f0.f0 s.f0.f1 X,f1:=(n : Int) } (oo s lines kind n).1 (oo s lines kind n).2 (win X (n * w') w'))) = kr s lines kind n:=by
   unfold kr
   rw [hw n (by omega),if_neg (by omega),e0,Int.toNat_natCast]; rfl
  have hRl:=kt (lines:=lines) (kind:=kind) e0 hl ⟨hc.1,hc.2.1⟩ (show n < q' by omega)
  rw [hR]
  exact yv s lines kind w' q' h e0 e1 m k (n + 1) _ (by omega) (by omega) (by rw [aU (by omega)]; exact hX) fun r hr=>by
   rw [px hX (by omega) hr hRl]
   by_cases z : r = n
   ·subst z; rw [if_pos rfl,if_pos (by omega)]
   ·rw [if_neg z,hw r hr]
    by_cases L : r < n
    ·rw [if_pos L,if_pos (by omega)]
    ·rw [if_neg L,if_neg (by omega)]
theorem vr (s : aJ) (hs : Sg s) (lines : Bool) (kind : Int) (k : Nat) (hk : 40000000000000 ≤ k) : jJ.f k s lines kind = some (fF s (lk s lines kind)):=by
 unfold jJ.f fF
 rw [rP s hs k hk]
 cases hm : cx s
 ·simp
 ·have h:=iY hs hm
  obtain ⟨w,q,b,a,_,_,_,_,hl,hb⟩:=h.size
  simp only [Option.bind_some,if_true,Bool.not_true,Bool.false_eq_true,if_false]
  have:=yv s lines kind w q h b a q k 0 s.f0.f2 (by omega) (by omega) hl (fun r hr=>by rw [if_neg (by omega)])
  rw [show jJ.l0 lines kind k s 0 = _ from this]
  simp only [Option.bind_some]
  unfold lk
  rw [a,Int.toNat_natCast]
theorem vj {s : aJ} (h : Ok s) (lines : Bool) (kind : Int) : Ok (lk s lines kind):=by
 obtain ⟨w,q,j,l,a,b,c,d,hl,hb⟩:=h.size
 have hc:=fp h
 have hm:=h.mg
 refine fK h ⟨rfl,rfl,rfl,rfl,rfl,rfl,rfl,rfl,rfl,rfl,rfl,rfl,rfl⟩ ⟨?_,?_,hm.y,hm.t0,hm.t1,hm.t2,hm.r0,hm.r1⟩ ⟨hc.1,hc.2.1,fun q=>by cases q⟩
 ·rw [eU]
  refine ⟨w,q,j,l,a,b,c,d,?_,fun r hr=>?_⟩
  ·show (List.flatMap _ _).length = _
   rw [l,Int.toNat_natCast]; exact mB q fun r hr=>kt j hl ⟨hc.1,hc.2.1⟩ hr
  ·show lP (win (List.flatMap _ _) (r * w) w)
   rw [l,Int.toNat_natCast,oh q r (fun r hr=>kt j hl ⟨hc.1,hc.2.1⟩ hr) hr]
   unfold kr
   refine lK fun x hx=>?_
   unfold mT at hx
   rcases jy hx with z | z
   ·rw [j,Int.toNat_natCast] at z
    exact (kw h.mg j l hr).cells x z
   ·rw [(List.mem_replicate.1 z).2]; exact lJ h.m.y
 ·intro x hx
  replace hx : x ∈ (List.range s.f0.f1.toNat).flatMap (kr s lines kind):=hx
  simp only [List.mem_flatMap] at hx
  obtain ⟨r,_,hx⟩:=hx
  unfold kr at hx
  exact mD (hU (kO h.b) mH) x hx
theorem yo (s : aJ) (w q b : Nat) (e0 : s.f0.f0 = (w : Int)) (hw5 : w ≤ 512) (hq5 : q ≤ 512) (hl : s.f0.f2.length = w * q) (hb : w * q ≤ 262144) (hbq : b ≤ q) : ∀ (m k n : Nat) (X : List aY),n + m = b → m + 1100000 < k → X.length = w * q →
  ∃ Y,cX.l0 s (b : Int) k (n : Int) X = some Y∧Y.length = w * q∧∀ r,r < q → win Y (r * w) w = if n ≤ r∧r < b then co (mT s 0 (w : Int) (win X (r * w) w)) else win X (r * w) w
 | _,0,_,_,_,hk,_=>by omega
 | 0,k + 1,n,X,hn,hk,hX=>⟨X,by rw [cX.l0,if_pos (by omega),if_neg (by omega)],hX,fun r hr=>by rw [if_neg (by omega)]⟩
 | m + 1,k + 1,n,X,hn,hk,hX=>by
  have hp:=fg (w:=w) (i:=n) (q:=q) (by omega)
  have hwX:=dW (xs:=X) (o:=n * w) (n:=w) (by omega)
  have hRl : (co (mT s 0 (w : Int) (win X (n * w) w))).length = w:=by rw [cL,mz (by omega) (by omega) (by omega),hwX]
  obtain ⟨Y,c,h2,d⟩:=yo s w q b e0 hw5 hq5 hl hb hbq m k (n + 1) (bB X (n * w) (co (mT s 0 (w : Int) (win X (n * w) w)))) (by omega) (by omega) (by rw [aU (by omega)]; exact hX)
  refine ⟨Y,?_,h2,fun r hr=>?_⟩
  ·rw [cX.l0,if_pos (by omega),if_pos (by omega)]
   have hat:=vH { s with f0:=bH.mk s.f0.f0 s.f0.f1 X } w q n e0 hX hb (by omega)
   rw [show eb.f (aJ.mk (bH.mk s.f0.f0 s.f0.f1 X) s.f1 s.f2 s.f3 s.f4 s.f5 s.f6 s.f7 s.f8 s.f9 s.f10 s.f11 s.f12 s.f13 s.f14 s.f15 s.f16 s.f17) (n : Int) = _ from hat]
   simp only [Option.bind_some]
   rw [if_pos (by omega),e0,rj X s 0 (w : Int) (by omega) (by omega) w (n * w) (by omega) (by omega) (by omega) k (by omega)]
   simp only [Option.bind_some,lt]
   rw [if_pos (aU (by omega)),eV (by omega) (by omega)]
   exact c
  ·rw [d r hr,px hX (by omega) hr hRl]
   by_cases z : r = n
   ·subst z; rw [if_neg (by omega),if_pos rfl,if_pos (by omega)]
   ·rw [if_neg z]
    by_cases a : n + 1 ≤ r∧r < b
    ·rw [if_pos a,if_pos (by omega)]
    ·rw [if_neg a,if_neg (by omega)]
theorem wK (s : aJ) (w q a b : Nat) (e0 : s.f0.f0 = (w : Int)) (hw5 : w ≤ 512) (hq5 : q ≤ 512) (hl : s.f0.f2.length = w * q) (hb : w * q ≤ 262144) (hbq : b ≤ q) (k : Nat) (hk : 1200000 ≤ k) :
  ∃ Y,cX.f k s (a : Int) (b : Int) = some { s with f0:=bH.mk s.f0.f0 s.f0.f1 Y }∧Y.length = w * q∧∀ r,r < q → win Y (r * w) w = if a ≤ r∧r < b then co (mT s 0 (w : Int) (win s.f0.f2 (r * w) w)) else win s.f0.f2 (r * w) w:=by
 obtain ⟨k,rfl⟩ : ∃ j,k = j + 1:=⟨k - 1,by omega⟩
 by_cases hab : a ≤ b
 ·obtain ⟨Y,c,h2,d⟩:=yo s w q b e0 hw5 hq5 hl hb hbq (b - a) (k + 1) a s.f0.f2 (by omega) (by omega) hl
  exact ⟨Y,by unfold cX.f; rw [c]; simp only [Option.bind_some]; rw [if_pos (by omega)],h2,d⟩
 ·refine ⟨s.f0.f2,?_,hl,fun r hr=>by rw [if_neg (by omega)]⟩
  unfold cX.f
  rw [cX.l0,if_pos rfl,if_neg (by omega)]
  simp
theorem vn (s : aJ) (h : Ok s) (lines : Bool) (kind : Int) (k : Nat) (hk : 1200000 ≤ k) : iM.f k s lines kind = some (lk s lines kind):=by
 obtain ⟨w,q,i,j,u,E,a,b,c,d,hi,hl,hb,hp⟩:=h.mg.at
 have hc:=fp h
 have hpair : ∃ A B ab be : Nat,(∀ (G : Int × Int × Int × Int → Option aJ),(if kind = 0 then (some (s.f2,s.f0.f0,0,s.f0.f1)) else (if kind = 1 then (lt (IntKind.i64.wrap (s.f2 + 1)) fun y=>some (0,y,s.f1,0)) else (if kind = 2 then (some (0,s.f0.f0,s.f1,s.f0.f1)) else (some (0,0,0,0)))) : Option (Int × Int × Int × Int)).bind G = G ((A : Int),(B : Int),(ab : Int),(be : Int))) ∧
   oo s lines kind (i : Int) = ((A : Int),(B : Int))∧ab ≤ i∧be ≤ q∧(∀ r : Nat,r < q → r ≠ i → oo s lines kind (r : Int) = if lines = true∧(r < ab ∨ (i + 1 ≤ r∧r < be)) then (0,(w : Int)) else (0,0)):=by
  unfold oo
  rw [eV (x:=s.f2 + 1) (by omega) (by omega),E]
  obtain ⟨cc,hcc⟩ : ∃ cc : Nat,s.f2 = (cc : Int):=⟨s.f2.toNat,by omega⟩
  by_cases l : kind = 0
  ·refine ⟨cc,w,0,q,fun G=>by simp [l,hcc,j,u],by simp [l,hcc,j],by omega,by omega,fun r hr hri=>?_⟩
   by_cases z : r > i
   ·cases lines <;> simp [l,j,z,show ¬ (r : Int) = (i : Int) from by omega,show (r : Int) > (i : Int) from by omega,show i + 1 ≤ r from z,hr]
   ·cases lines <;> simp [l,j,show ¬ (r : Int) = (i : Int) from by omega,show ¬ (r : Int) > (i : Int) from by omega,show ¬ i + 1 ≤ r from z]; try omega
  ·by_cases m : kind = 1
   ·refine ⟨0,cc + 1,i,0,fun G=>by simp [m,hcc,lt],by simp [m,hcc],by omega,by omega,fun r hr hri=>?_⟩
    by_cases z : r < i
    ·cases lines <;> simp [m,j,z,show ¬ (r : Int) = (i : Int) from by omega,show (r : Int) < (i : Int) from by omega]
    ·cases lines <;> simp [m,j,z,show ¬ (r : Int) = (i : Int) from by omega,show ¬ (r : Int) < (i : Int) from by omega]; try omega
   ·by_cases o : kind = 2
    ·refine ⟨0,w,i,q,fun G=>by simp [o,j,u],by simp [o,j],by omega,by omega,fun r hr hri=>?_⟩
     cases lines
     ·simp [o,j,show ¬ (r : Int) = (i : Int) from by omega]
     ·have : r < i ∨ (i + 1 ≤ r∧r < q):=by omega
      simp [o,j,this,show ¬ (r : Int) = (i : Int) from by omega]
    ·exact ⟨0,0,0,0,fun G=>by simp [l,m,o],by simp [l,m,o],by omega,by omega,fun r hr hri=>by simp [l,m,o]⟩
 obtain ⟨A,B,ab,be,hG,hE,hab,hbe,hO⟩:=hpair
 have hin:=rc ⟨hc.1,hc.2.1⟩ lines kind (i : Int)
 rw [hE] at hin
 simp only at hin
 unfold iM.f
 rw [hG,ua s w q i j E hl hb hi]
 simp only [Option.bind_some]
 have hwX:=dW hp
 have hRl : (co (mT s (A : Int) (B : Int) (win s.f0.f2 (i * w) w))).length = w:=by rw [cL,mz (by omega) (by omega) (by omega),hwX]
 have hXl : (bB s.f0.f2 (i * w) (co (mT s (A : Int) (B : Int) (win s.f0.f2 (i * w) w)))).length = w * q:=by rw [aU (by omega)]; exact hl
 rw [if_pos (by omega),rj s.f0.f2 s (A : Int) (B : Int) (by omega) (by omega) w (i * w) (by omega) hp (by omega) k (by omega)]
 simp only [Option.bind_some]
 rw [if_pos (by omega)]
 generalize F : bB s.f0.f2 (i * w) (co (mT s (A : Int) (B : Int) (win s.f0.f2 (i * w) w))) = p at hXl
 have D : ∀ r,r < q → win p (r * w) w = if r = i then co (mT s (A : Int) (B : Int) (win s.f0.f2 (i * w) w)) else win s.f0.f2 (r * w) w:=fun r hr=>by rw [← F]; exact px hl hi hr hRl
 have fin : ∀ Y : List aY,Y.length = w * q → (∀ r,r < q → win Y (r * w) w = kr s lines kind r) → ({ s with f0:=bH.mk s.f0.f0 s.f0.f1 Y,f3:=false } : aJ) = lk s lines kind:=fun Y hY hw=>by
  unfold lk
  rw [u,Int.toNat_natCast,← pi hY (fun r hr=>kt j hl ⟨hc.1,hc.2.1⟩ hr) hw]
 have hself : ∀ r,r < q → r ≠ i → oo s lines kind (r : Int) = (0,0) → win s.f0.f2 (r * w) w = kr s lines kind r:=fun r hr hri he=>by
  unfold kr
  rw [he,tD,j,Int.toNat_natCast,rV (kw h.mg j u hr)]
 have hrow : co (mT s (A : Int) (B : Int) (win s.f0.f2 (i * w) w)) = kr s lines kind i:=by
  unfold kr; rw [hE,j,Int.toNat_natCast]
 cases lines
 ·simp only [Bool.false_eq_true,if_false,Option.bind_some]
  refine congrArg some (fin p hXl fun r hr=>?_)
  rw [D r hr]
  by_cases z : r = i
  ·subst z; rw [if_pos rfl]; exact hrow
  ·rw [if_neg z]; exact hself r hr z (by rw [hO r hr z]; simp)
 ·simp only [if_true]
  obtain ⟨Y,I,J,K⟩:=wK { s with f0:=bH.mk s.f0.f0 s.f0.f1 p } w q 0 ab j b d hXl hb (by omega) k hk
  rw [show cX.f k (aJ.mk (bH.mk s.f0.f0 s.f0.f1 p) s.f1 s.f2 s.f3 s.f4 s.f5 s.f6 s.f7 s.f8 s.f9 s.f10 s.f11 s.f12 s.f13 s.f14 s.f15 s.f16 s.f17) 0 (ab : Int) = _ from I]
  simp only [Option.bind_some]
  rw [show IntKind.i64.wrap (s.f1 + 1) = ((i + 1 : Nat) : Int) from by rw [E,eV (by omega) (by omega)]; rfl]
  obtain ⟨Z,L,M,N⟩:=wK { s with f0:=bH.mk s.f0.f0 s.f0.f1 Y } w q (i + 1) be j b d J hb hbe k hk
  rw [show cX.f k (aJ.mk (bH.mk s.f0.f0 s.f0.f1 Y) s.f1 s.f2 s.f3 s.f4 s.f5 s.f6 s.f7 s.f8 s.f9 s.f10 s.f11 s.f12 s.f13 s.f14 s.f15 s.f16 s.f17) ((i + 1 : Nat) : Int) (be : Int) = _ from L]
  simp only [Option.bind_some]
  refine congrArg some (fin Z M fun r hr=>?_)
  have y3':=K r hr
  have z3':=N r hr
  replace y3' : win Y (r * w) w = if 0 ≤ r∧r < ab then co (mT s 0 (w : Int) (win p (r * w) w)) else win p (r * w) w:=y3'
  replace z3' : win Z (r * w) w = if i + 1 ≤ r∧r < be then co (mT s 0 (w : Int) (win Y (r * w) w)) else win Y (r * w) w:=z3'
  rw [z3',y3',D r hr]
  have hfull : oo s true kind (r : Int) = (0,(w : Int)) → co (mT s 0 (w : Int) (win s.f0.f2 (r * w) w)) = kr s true kind r:=fun he=>by
   unfold kr; rw [he,j,Int.toNat_natCast]
  by_cases z : r = i
  ·subst z
   rw [if_neg (by omega),if_neg (by omega),if_pos rfl]; exact hrow
  ·rw [if_neg z]
   have ho:=hO r hr z
   by_cases c1 : r < ab
   ·rw [if_neg (by omega),if_pos (by omega)]
    exact hfull (by rw [ho,if_pos ⟨rfl,.inl c1⟩])
   ·rw [if_neg (c:=0 ≤ r∧r < ab) (by omega)]
    by_cases c2 : i + 1 ≤ r∧r < be
    ·rw [if_pos c2]
     exact hfull (by rw [ho,if_pos ⟨rfl,.inr c2⟩])
    ·rw [if_neg c2]
     exact hself r hr z (by rw [ho,if_neg (by rintro ⟨_,z⟩; omega)])
end Go.Proofs.YtckilbegmbaeeaaGreat.Z6Sc
namespace Go.Proofs.YtckilbegmbaeeaaGreat.Z6Sc
open Go Go.RowKit Go.Proofs.YtckilbegmbaeeaaGreat.SL Go.Proofs.YtckilbegmbaeeaaGreat.Z6 Go.Proofs.YtckilbegmbaeeaaGreat.Z6May Go.Proofs.YtckilbegmbaeeaaGreat.Z6Ls Go.Proofs.YtckilbegmbaeeaaGreat.Z6Op Go.Proofs.YtckilbegmbaeeaaGreat.Z6Sp
set_option linter.unusedVariables false
set_option linter.unusedSimpArgs false
def kM (x : aY) (c : Int) : aY :=
 if x.f1.f0 = 0 then { x with f1:=fX.mk c x.f1.f1 x.f1.f2 } else if x.f1.f1 = 0 then { x with f1:=fX.mk x.f1.f0 c x.f1.f2 } else if x.f1.f2 = 0 then { x with f1:=fX.mk x.f1.f0 x.f1.f1 c } else x
def lU (x : aY) (c : Int) : aY:=if gI c ≠ 0 ∨ x.f2 = 0 ∨ x.f2 > 2 then x else kM x c
theorem xY (x : aY) (c : Int) (k : Nat) (hk : 44 ≤ k) : ml.f k x c = some (lU x c):=by
 obtain ⟨k,rfl⟩ : ∃ j,k = j + 4:=⟨k - 4,by omega⟩
 have m : (0 : Int) < 3:=by decide
 have o : (1 : Int) < 3:=by decide
 have p : (2 : Int) < 3:=by decide
 have q : ¬ (3 : Int) < 3:=by decide
 have d : (0 : Int) ≤ 0∧(0 : Int) < 3:=by decide
 have h : (0 : Int) ≤ 1∧(1 : Int) < 3:=by decide
 have l : (0 : Int) ≤ 2∧(2 : Int) < 3:=by decide
 have hl : ml.l0 x c (k + 4) x 0 = some (kM x c):=by
  unfold kM
  simp only [ml.l0,lt,oq,oL,nr,ze,zf,zH,m,o,p,q,d,h,l,and_self,if_true,if_false]
  by_cases ha : x.f1.f0 = 0
  ·simp [ha]
  ·by_cases hb : x.f1.f1 = 0
   ·simp [ha,hb]
   ·by_cases hc : x.f1.f2 = 0
    ·simp [ha,hb,hc]
    ·simp [ha,hb,hc]
 unfold ml.f lU
 rw [qm c (k + 4) (by omega),hl]
 simp only [Option.bind_some,lt]
 by_cases a : gI c = 0
 ·by_cases b : x.f2 = 0
  ·simp [a,b]
  ·by_cases h2 : x.f2 > 2
   ·simp [a,b,h2]
   ·simp [a,b,h2]
 ·simp [a]
theorem xX (x : aY) (c : Int) (hx : gp x) (k : Nat) (hk : 44 ≤ k) : mj.f k x c = some (lU x c):=by
 obtain ⟨k,rfl⟩ : ∃ j,k = j + 4:=⟨k - 4,by omega⟩
 have q : (0 : Int) < 3:=by decide
 have r : (1 : Int) < 3:=by decide
 have s : (2 : Int) < 3:=by decide
 have u : ¬ (3 : Int) < 3:=by decide
 have m : (0 : Int) ≤ 0∧(0 : Int) < 3:=by decide
 have o : (0 : Int) ≤ 1∧(1 : Int) < 3:=by decide
 have p : (0 : Int) ≤ 2∧(2 : Int) < 3:=by decide
 have hl : ∀ z,(mj.l0 c (k + 4) x z 0).bind (fun l=>Out.el l (fun r_=>some r_) (fun h=>some (h.1))) = some (kM x c):=fun z=>by
  unfold kM
  simp only [mj.l0,lt,oq,oL,nr,ze,zf,zH,q,r,s,u,m,o,p,and_self,if_true,if_false]
  by_cases ha : x.f1.f0 = 0
  ·simp [ha,ku]
  ·by_cases hb : x.f1.f1 = 0
   ·simp [ha,hb,ku]
   ·by_cases hc : x.f1.f2 = 0
    ·simp [ha,hb,hc,ku]
    ·simp [ha,hb,hc,jG]
 unfold mj.f lU
 rw [ql c (k + 4) (by omega)]
 simp only [Option.bind_some,lt]
 rw [hl]
 have:=hx.1
 by_cases a : gI c = 0
 ·by_cases b : x.f2 = 0
  ·simp [a,b]
  ·by_cases h2 : x.f2 > 2
   ·simp [a,b,h2,show ¬ x.f2 = 1 from by omega,show ¬ x.f2 = 2 from by omega]
   ·by_cases d : x.f2 = 1
    ·simp [a,b,h2,d]
    ·simp [a,b,h2,d,show x.f2 = 2 from by omega]
 ·simp [a]
theorem rT (x : aY) (c : Int) : (lU x c).f2 = x.f2∧(lU x c).f3 = x.f3:=by
 unfold lU kM
 split
 ·exact ⟨rfl,rfl⟩
 ·split
  ·exact ⟨rfl,rfl⟩
  ·split
   ·exact ⟨rfl,rfl⟩
   ·split <;> exact ⟨rfl,rfl⟩
theorem Bz : gI 0 = -1:=by kernel_rfl
theorem tL {x : aY} {c : Int} (h : cv x = true) : cv (lU x c) = true:=by
 unfold lU
 split
 ·exact h
 ·rename_i q
  have j : gI c = 0:=by
   by_cases z : gI c = 0
   ·exact z
   ·exact absurd (.inl z) q
  have b : ¬ x.f2 = 0:=fun z=>q (.inr (.inl z))
  have d : ¬ x.f2 > 2:=fun z=>q (.inr (.inr z))
  have a : c ≠ 0:=fun z=>by rw [z,Bz] at j; omega
  unfold cv at h
  by_cases hy : cn x.f3 = false
  ·rw [if_pos hy] at h; cases h
  ·rw [if_neg hy,if_neg b,if_neg d] at h
   by_cases hw : gI x.f0 = x.f2
   ·rw [if_pos hw] at h
    unfold kM
    unfold gz at h
    by_cases ha : x.f1.f0 = 0
    ·rw [if_pos ha] at h ⊢
     simp only [Bool.and_eq_true,decide_eq_true_eq] at h
     unfold cv
     simp only [hy,b,d,hw,if_false,if_true]
     unfold gz
     simp [a,h.1,h.2,j]
    ·rw [if_neg ha] at h ⊢
     by_cases hb : x.f1.f1 = 0
     ·rw [if_pos hb] at h ⊢
      simp only [Bool.and_eq_true,decide_eq_true_eq] at h
      unfold cv
      simp only [hy,b,d,hw,if_false,if_true]
      unfold gz
      simp [a,ha,h.1,h.2,j]
     ·rw [if_neg hb] at h ⊢
      simp only [Bool.and_eq_true,Bool.or_eq_true,decide_eq_true_eq] at h
      by_cases hd : x.f1.f2 = 0
      ·rw [if_pos hd]
       unfold cv
       simp only [hy,b,d,hw,if_false,if_true]
       unfold gz
       simp [a,ha,hb,h.1,j]
      ·rw [if_neg hd]
       unfold cv
       simp only [hy,b,d,hw,if_false,if_true]
       unfold gz
       rcases h.2 with z | z
       ·exact absurd z hd
       ·simp [ha,hb,hd,h.1,z]
   ·rw [if_neg hw] at h; cases h
theorem vf {g : bH} {Y : List aY} (h : ct g = true) (hl : Y.length = g.f2.length) (hY : ∀ i,i < Y.length → (rd Y (i : Int)).f2 = (rd g.f2 (i : Int)).f2∧(rd Y (i : Int)).f3 = (rd g.f2 (i : Int)).f3∧cv (rd Y (i : Int)) = true) : ct (bH.mk g.f0 g.f1 Y) = true:=by
 unfold ct at h ⊢
 simp only [Bool.and_eq_true,List.all_eq_true,List.mem_range] at h ⊢
 refine ⟨by rw [hl]; exact h.1,fun i hi=>?_⟩
 have h2:=h.2 i (by omega)
 rw [kK] at h2 ⊢
 obtain ⟨a,b,c,d⟩:=h2
 obtain ⟨j,l,m⟩:=hY i hi
 simp only at j l m ⊢
 by_cases o : i = 0
 ·subst o
  rw [j,l]
  refine ⟨m,⟨fun z=>absurd (b.1 z).1 (by simp),fun z=>absurd z.1 (by simp)⟩,fun z=>absurd z.1 (by simp),d⟩
 ·obtain ⟨p,p2,_⟩:=hY (i - 1) (by omega)
  rw [j,l,p,p2]
  exact ⟨m,b,c,d⟩
theorem xn {X : List aY} {n i : Nat} {v : aY} (hn : n < X.length) (hi : i < X.length) : rd (X.set n v) (i : Int) = if i = n then v else rd X (i : Int):=by
 refine lL (by omega) ?_
 rw [Int.toNat_natCast,List.getElem?_set]
 by_cases z : n = i
 ·rw [if_pos z,if_pos z.symm,if_pos (by omega)]
 ·rw [if_neg z,if_neg (Ne.symm z),iH hi]
def wU (s : aJ) : Nat :=
 let n:=s.f1.toNat * s.f0.f0.toNat + (if s.f3 = true then s.f2 else s.f2 - 1).toNat
 if (rd s.f0.f2 (n : Int)).f2 = 0 then n - 1 else n
def nN (s : aJ) (c : Int) : aJ :=
 if (if s.f3 = true then s.f2 else s.f2 - 1) < 0 then s else { s with f0:=bH.mk s.f0.f0 s.f0.f1 (s.f0.f2.set (wU s) (lU (rd s.f0.f2 (wU s : Int)) c)) }
theorem yc {s : aJ} (h : Mg s) {w q i j : Nat} (e0 : s.f0.f0 = (w : Int)) (e1 : s.f0.f1 = (q : Int)) (hi : i < q) (hj : j < w) (hp : i * w + w ≤ s.f0.f2.length) (hz : (rd s.f0.f2 ((i * w + j : Nat) : Int)).f2 = 0) : 0 < j:=by
 have hr:=kw h e0 e1 hi j (by rw [dW hp]; exact hj)
 have e : rd (win s.f0.f2 (i * w) w) (j : Int) = rd s.f0.f2 ((i * w + j : Nat) : Int):=by rw [md hj hp]; congr 1
 have:=hr.2.1.1 (by rw [e]; exact hz)
 exact this.1
theorem yM (s : aJ) (h : Ok s) (c : Int) (k : Nat) (hk : 1100000 ≤ k) : im.f k s c = some (nN s c):=by
 obtain ⟨w,q,i,l,o,m,a,b,c',d,hi,hl,hb,hp⟩:=h.mg.at
 have hc:=fp h
 have e1' : (if (!s.f3) = true then (lt (IntKind.i64.wrap (s.f2 - 1)) fun n10=>some n10) else (some s.f2) : Option Int) = some (if s.f3 = true then s.f2 else s.f2 - 1):=by
  rw [eV (by omega) (by omega)]; cases s.f3 <;> rfl
 unfold im.f nN wU
 rw [e1',l,m]
 simp only [Option.bind_some,Int.toNat_natCast]
 have hlt : (if s.f3 = true then s.f2 else s.f2 - 1) < (w : Int):=by split <;> omega
 generalize (if s.f3 = true then s.f2 else s.f2 - 1) = t at hlt ⊢
 by_cases ht : t < 0
 ·rw [if_pos ht,if_pos ht]
 ·obtain ⟨j,rfl⟩ : ∃ j : Nat,t = (j : Int):=⟨t.toNat,by omega⟩
  have hj : j < w:=by omega
  rw [if_neg ht,if_neg ht,ua s w q i l m hl hb hi]
  simp only [Option.bind_some,Int.toNat_natCast]
  rw [if_pos (by omega),if_pos (by omega),show ((i * w : Nat) : Int) + (j : Int) = ((i * w + j : Nat) : Int) from by omega]
  by_cases hz : (rd s.f0.f2 ((i * w + j : Nat) : Int)).f2 = 0
  ·have p:=yc h.mg l o hi hj hp hz
   rw [if_pos hz,if_pos hz,eV (by omega) (by omega)]
   simp only [lt,Option.bind_some]
   rw [if_pos (by omega),show ((i * w : Nat) : Int) + ((j : Int) - 1) = ((i * w + j - 1 : Nat) : Int) from by omega,xY _ c k (by omega)]
   simp only [Option.bind_some,Int.toNat_natCast]
   rw [if_pos (by omega)]
  ·rw [if_neg hz,if_neg hz]
   simp only [lt,Option.bind_some]
   rw [if_pos (by omega),show ((i * w : Nat) : Int) + (j : Int) = ((i * w + j : Nat) : Int) from by omega,xY _ c k (by omega)]
   simp only [Option.bind_some,Int.toNat_natCast]
   rw [if_pos (by omega)]
theorem yS (s : aJ) (h : Ok s) (c : Int) (k : Nat) (hk : 1100000 ≤ k) : lV.f k s c = some (nN s c):=by
 obtain ⟨w,q,i,l,m,o,a,b,c',d,hi,hl,hb,hp⟩:=h.mg.at
 have hc:=fp h
 unfold lV.f nN wU
 rw [eV (x:=s.f2 - 1) (by omega) (by omega),l,o]
 have e1' : (if s.f3 = true then (some s.f2) else (some (s.f2 - 1)) : Option Int) = some (if s.f3 = true then s.f2 else s.f2 - 1):=by cases s.f3 <;> rfl
 simp only [lt,e1',Option.bind_some,Int.toNat_natCast]
 have hlt : (if s.f3 = true then s.f2 else s.f2 - 1) < (w : Int):=by split <;> omega
 generalize (if s.f3 = true then s.f2 else s.f2 - 1) = t at hlt ⊢
 by_cases ht : t < 0
 ·rw [if_pos ht,if_pos ht]
 ·obtain ⟨j,rfl⟩ : ∃ j : Nat,t = (j : Int):=⟨t.toNat,by omega⟩
  have hj : j < w:=by omega
  rw [if_neg ht,if_neg ht,show (i : Int) * (w : Int) = ((i * w : Nat) : Int) from by simp,eV (x:=((i * w : Nat) : Int)) (by omega) (by omega),eV (by omega) (by omega),show ((i * w : Nat) : Int) + (j : Int) = ((i * w + j : Nat) : Int) from by omega,if_pos (by omega)]
  simp only [Int.toNat_natCast]
  by_cases hz : (rd s.f0.f2 ((i * w + j : Nat) : Int)).f2 = 0
  ·have p:=yc h.mg l m hi hj hp hz
   rw [if_pos hz,if_pos hz,eV (by omega) (by omega)]
   simp only [lt,Option.bind_some]
   rw [if_pos (by omega),show ((i * w + j : Nat) : Int) - 1 = ((i * w + j - 1 : Nat) : Int) from by omega,xX _ c (h.b _ (nW (by omega))) k (by omega)]
   simp only [Option.bind_some,Int.toNat_natCast]
   rw [if_pos (by omega)]
  ·rw [if_neg hz,if_neg hz]
   simp only [lt,Option.bind_some]
   rw [if_pos (by omega),xX _ c (h.b _ (nW (by omega))) k (by omega)]
   simp only [Option.bind_some,Int.toNat_natCast]
   rw [if_pos (by omega)]
theorem xa {s : aJ} (h : Ok s) (c : Int) : Ok (nN s c):=by
 obtain ⟨w,q,i,l,p,o,a,b,c',d,hi,hl,hb,hp⟩:=h.mg.at
 have hc:=fp h
 unfold nN
 by_cases ht : (if s.f3 = true then s.f2 else s.f2 - 1) < 0
 ·rw [if_pos ht]; exact h
 ·rw [if_neg ht]
  have hn : wU s < s.f0.f2.length:=by
   unfold wU
   rw [l,o]
   simp only [Int.toNat_natCast]
   have : (if s.f3 = true then s.f2 else s.f2 - 1).toNat < w:=by split <;> omega
   generalize (if s.f3 = true then s.f2 else s.f2 - 1).toNat = j at this ⊢
   split <;> omega
  generalize wU s = n at hn
  have hm:=h.mg
  refine fK h ⟨rfl,rfl,rfl,rfl,rfl,rfl,rfl,rfl,rfl,rfl,rfl,rfl,rfl⟩ ⟨vf h.m.g (by simp) fun r hr=>?_,fun x hx=>?_,hm.y,hm.t0,hm.t1,hm.t2,hm.r0,hm.r1⟩ hc
  ·rw [List.length_set] at hr
   rw [xn hn hr]
   have hcell : cv (rd s.f0.f2 (r : Int)) = true:=by
    have:=h.m.g
    unfold ct at this
    simp only [Bool.and_eq_true,List.all_eq_true,List.mem_range] at this
    exact ((kK _ _ _).1 (this.2 r hr)).1
   by_cases z : r = n
   ·subst z; rw [if_pos rfl]
    have:=rT (rd s.f0.f2 (r : Int)) c
    exact ⟨this.1,this.2,tL hcell⟩
   ·rw [if_neg z]; exact ⟨rfl,rfl,hcell⟩
  ·replace hx : x ∈ s.f0.f2.set n _:=hx
   rcases List.mem_or_eq_of_mem_set hx with z | z
   ·exact h.b x z
   ·have:=rT (rd s.f0.f2 (n : Int)) c
    have h2:=h.b _ (nW hn)
    unfold gp at h2 ⊢
    rw [z,this.1]; exact h2
theorem rF (c : Int) : gI c = -1 ∨ gI c = 0 ∨ gI c = 1 ∨ gI c = 2:=by
 unfold gI; split
 ·exact .inl rfl
 ·split
  ·exact .inr (.inl rfl)
  ·split
   ·exact .inr (.inr (.inr rfl))
   ·exact .inr (.inr (.inl rfl))
def kW (c w : Int) (y : cM) : List aY:=aY.mk c (fX.mk 0 0 0) w y::(if w = 2 then [aY.mk 0 (fX.mk 0 0 0) 0 y] else [])
theorem qq {c w : Int} {y : cM} (hy : cn y = true) (hw : gI c = w) (h : w = 1 ∨ w = 2) : ∀ x ∈ kW c w y,cv x = true:=by
 have a : cv (aY.mk c (fX.mk 0 0 0) w y) = true:=by
  unfold cv
  have b : ¬ w = 0:=by omega
  have d : ¬ w > 2:=by omega
  simp only [hy,b,d,hw,if_false,if_true,Bool.true_eq_false]
  decide
 have h2 : cv (aY.mk 0 (fX.mk 0 0 0) 0 y) = true:=by
  unfold cv
  simp only [hy,if_true,Bool.true_eq_false,if_false]
  decide
 intro x hx
 unfold kW at hx
 split at hx
 ·simp only [List.mem_cons,List.not_mem_nil,or_false] at hx
  rcases hx with rfl | rfl
  ·exact a
  ·exact h2
 ·simp only [List.mem_cons,List.not_mem_nil,or_false] at hx
  rw [hx]; exact a
theorem oK {c w : Int} {y : cM} (h : w = 1 ∨ w = 2) : ∀ x ∈ kW c w y,gp x:=by
 intro x hx
 unfold kW at hx
 unfold gp
 split at hx
 ·simp only [List.mem_cons,List.not_mem_nil,or_false] at hx
  rcases hx with rfl | rfl
  ·simp only; omega
  ·simp only; omega
 ·simp only [List.mem_cons,List.not_mem_nil,or_false] at hx
  rw [hx]; simp only; omega
theorem zQ (c : Int) (y : cM) {w : Int} (hw : gI c = w) (h : w = 1 ∨ w = 2) (k : Nat) (hk : 44 ≤ k) : pL.f k c y = some (kW c w y):=by
 unfold pL.f qN.f kW
 rw [qm c k (by omega),hw]
 rcases h with rfl | rfl
 ·simp only [Option.bind_some,if_true,decide_true]
  simp [lt,show IntKind.u8.wrap 1 = 1 from by decide]
 ·simp only [Option.bind_some,decide_true]
  simp [lt,show IntKind.u8.wrap 2 = 2 from by decide]
theorem zP (c : Int) (y : cM) {w : Int} (hw : gI c = w) (h : w = 1 ∨ w = 2) (k : Nat) (hk : 44 ≤ k) : pI.f k c y = some (kW c w y):=by
 unfold pI.f kW
 rw [ql c k (by omega),hw]
 rcases h with rfl | rfl
 ·simp
 ·simp
def mA (s : aJ) (c w : Int) : List aY → List aY:=fun W=>bB W s.f2.toNat ((kW c w s.f4).take (s.f0.f0.toNat - s.f2.toNat))
theorem tE {s : aJ} {c w : Int} {W : List aY} (hW : W.length = s.f0.f0.toNat) (h : s.f2.toNat ≤ s.f0.f0.toNat) : (mA s c w W).length = W.length:=aU (by rw [List.length_take]; omega)
def ov (s : aJ) (c w : Int) : aJ :=
 let t:=if s.f10 = true then ls s (pc s w) else s
 let u:=ls t (mA t c w)
 if s.f2 + w > s.f0.f0 - 1 then { u with f2:=s.f0.f0 - 1,f3:=true } else { u with f2:=s.f2 + w }
theorem xj {s : aJ} (h : Mg s) (hc : 0 ≤ s.f2∧s.f2 < s.f0.f0) {c w : Int} (hw : gI c = w) (h1 : w = 1 ∨ w = 2) : Mg (ls s (mA s c w)):=by
 refine ri h (fun W hW hm=>⟨tE hW (by omega),fun x hx=>?_⟩) (fun W hW=>hU hW fun x hx=>oK h1 x (List.mem_of_mem_take hx))
 rcases jy hx with q | q
 ·exact hm x q
 ·exact qq h.y hw h1 x (List.mem_of_mem_take q)
structure Pr (s : aJ) : Prop where
 m : Mg s
 c : 0 ≤ s.f2∧s.f2 < s.f0.f0
 p : s.f3 = false
theorem tU {s0 s : aJ} (h : Ok s0) (l : iU s0 s) (hp : Pr s) {c w : Int} (hw : gI c = w) (h1 : w = 1 ∨ w = 2) : Ok (ov s c w):=by
 have ht : Mg (if s.f10 = true then ls s (pc s w) else s):=by
  split
  ·exact od hp.m hp.c w
  ·exact hp.m
 have hl : iU s (if s.f10 = true then ls s (pc s w) else s):=by
  split
  ·exact nV s _
  ·exact iU.refl s
 have h2 : (if s.f10 = true then ls s (pc s w) else s).f2 = s.f2:=by split <;> rfl
 have a : (if s.f10 = true then ls s (pc s w) else s).f3 = s.f3:=by split <;> rfl
 unfold ov
 simp only
 generalize (if s.f10 = true then ls s (pc s w) else s) = t at ht hl h2 a
 have hu:=xj ht (by rw [h2,hl.d0]; exact hp.c) hw h1
 have hlu : iU s0 (ls t (mA t c w)):=(l.trans hl).trans (nV t _)
 have b : (ls t (mA t c w)).f0.f0 = s.f0.f0:=hl.d0
 have hc:=hp.c
 split
 ·exact fK h (fE hlu _ _) (fJ hu _ _) ⟨by show 0 ≤ s.f0.f0 - 1; omega,by show s.f0.f0 - 1 < (ls t (mA t c w)).f0.f0; omega,fun _=>by show s.f0.f0 - 1 = (ls t (mA t c w)).f0.f0 - 1; omega⟩
 ·refine fK h (fE hlu (s.f2 + w) (ls t (mA t c w)).f3) (fJ hu _ _) ⟨by show 0 ≤ s.f2 + w; omega,by show s.f2 + w < (ls t (mA t c w)).f0.f0; omega,fun q=>?_⟩
  have : (ls t (mA t c w)).f3 = s.f3:=a
  replace q : (ls t (mA t c w)).f3 = true:=q
  rw [this,hp.p] at q; cases q
def Tp (k : Nat) (a1 r8 : Int) (s794 : aJ) : Option aJ:=(ef.f s794).bind (fun a=>if (0 ≤ a.1∧0 ≤ a.2∧a.1 + a.2 ≤ (s794.f0.f2.length : Int)) then ((if s794.f10 = true then ((ja.f k s794.f0.f2 a.1 a.2 s794.f2 r8 s794.f4).bind (fun d=>if d.length = s794.f0.f2.length then (some d) else none)) else (some s794.f0.f2) : Option ((List aY))).bind (fun c=>if c.length = s794.f0.f2.length then ((pL.f k a1 s794.f4).bind (fun h=>(hD.f k c a.1 a.2 s794.f2 h).bind (fun b=>if b.length = c.length then ((dp.f (aJ.mk (bH.mk s794.f0.f0 s794.f0.f1 b) s794.f1 (IntKind.i64.wrap (s794.f2 + r8)) s794.f3 s794.f4 s794.f5 s794.f6 s794.f7 s794.f8 s794.f9 s794.f10 s794.f11 s794.f12 s794.f13 s794.f14 s794.f15 s794.f16 s794.f17)).bind (fun j=>if (IntKind.i64.wrap (s794.f2 + r8)) > j then ((dp.f (aJ.mk (bH.mk s794.f0.f0 s794.f0.f1 b) s794.f1 (IntKind.i64.wrap (s794.f2 + r8)) s794.f3 s794.f4 s794.f5 s794.f6 s794.f7 s794.f8 s794.f9 s794.f10 s794.f11 s794.f12 s794.f13 s794.f14 s794.f15 s794.f16 s794.f17)).bind (fun l=>some ((aJ.mk (bH.mk s794.f0.f0 s794.f0.f1 b) s794.f1 l true s794.f4 s794.f5 s794.f6 s794.f7 s794.f8 s794.f9 s794.f10 s794.f11 s794.f12 s794.f13 s794.f14 s794.f15 s794.f16 s794.f17)))) else (some ((aJ.mk (bH.mk s794.f0.f0 s794.f0.f1 b) s794.f1 (IntKind.i64.wrap (s794.f2 + r8)) s794.f3 s794.f4 s794.f5 s794.f6 s794.f7 s794.f8 s794.f9 s794.f10 s794.f11 s794.f12 s794.f13 s794.f14 s794.f15 s794.f16 s794.f17))))) else none))) else none)) else none)
theorem yP (s : aJ) (h : Pr s) (c : Int) {w' : Int} (hw' : gI c = w') (h1 : w' = 1 ∨ w' = 2) (k : Nat) (hk : 1100000 ≤ k) : Tp k c w' s = some (ov s c w'):=by
 obtain ⟨w,q,i,o,r,p,a,b,c',d,hi,hl,hb,hp⟩:=h.m.at
 have hc:=h.c
 unfold Tp
 rw [ua s w q i o p hl hb hi]
 simp only [Option.bind_some]
 rw [if_pos (by omega)]
 obtain ⟨X,hX,hXl,hT⟩ : ∃ X : List aY,(if s.f10 = true then ((ja.f k s.f0.f2 ((i * w : Nat) : Int) (w : Int) s.f2 w' s.f4).bind (fun l=>if l.length = s.f0.f2.length then (some l) else none)) else (some s.f0.f2) : Option ((List aY))) = some X∧X.length = s.f0.f2.length∧(if s.f10 = true then ls s (pc s w') else s) = { s with f0:=bH.mk s.f0.f0 s.f0.f1 X }:=by
  by_cases j : s.f10 = true
  ·have hw:=dW hp
   have hXl : (bB s.f0.f2 (i * w) (co (pc s w' (win s.f0.f2 (i * w) w)))).length = s.f0.f2.length:=aU (by rw [cL,rQ (by omega),hw]; exact hp)
   refine ⟨_,?_,hXl,?_⟩
   ·rw [if_pos j,ub s h.m hc w' w q i o p b hl hb hp k hk]
    simp only [Option.bind_some]
    rw [if_pos hXl]
   ·rw [if_pos j,nU o p]
  ·refine ⟨s.f0.f2,by rw [if_neg j],rfl,by rw [if_neg j]⟩
 rw [hX]
 simp only [Option.bind_some]
 rw [if_pos hXl,zQ c s.f4 hw' h1 k (by omega)]
 simp only [Option.bind_some]
 obtain ⟨cc,hcc⟩ : ∃ cc : Nat,s.f2 = (cc : Int):=⟨s.f2.toNat,by omega⟩
 have hput : hD.f k X ((i * w : Nat) : Int) (w : Int) s.f2 (kW c w' s.f4) = some (bB X (i * w) (co (bB (win X (i * w) w) cc ((kW c w' s.f4).take (w - cc))))):=by
  rw [hcc]; exact EJ X (i * w) w cc (kW c w' s.f4) (by omega) (by omega) (by omega) k (by omega)
 rw [hput]
 simp only [Option.bind_some]
 have hYl : (bB X (i * w) (co (bB (win X (i * w) w) cc ((kW c w' s.f4).take (w - cc))))).length = X.length:=aU (by rw [cL,aU (by rw [List.length_take,dW (by omega)]; omega),dW (by omega)]; omega)
 rw [if_pos hYl,nk _ (by show 1 ≤ s.f0.f0; omega) (by show s.f0.f0 ≤ 512; omega)]
 simp only [Option.bind_some]
 rw [eV (x:=s.f2 + w') (by omega) (by omega)]
 unfold ov
 simp only
 rw [hT,nU (s:={ s with f0:=bH.mk s.f0.f0 s.f0.f1 X }) (w:=w) (i:=i) o p]
 have hf : mA { s with f0:=bH.mk s.f0.f0 s.f0.f1 X } c w' (win X (i * w) w) = bB (win X (i * w) w) cc ((kW c w' s.f4).take (w - cc)):=by
  unfold mA
  simp only [o,hcc,Int.toNat_natCast]
 simp only
 rw [hf]
 split <;> rfl
def Tr (k : Nat) (a1 r27 n85 : Int) (u : aJ) : Option (aJ × Int):=(if u.f10 = true then ((fx.f k u.f0 u.f1 u.f2 r27 u.f4).bind (fun c=>some (aJ.mk c.1 u.f1 u.f2 u.f3 u.f4 u.f5 u.f6 u.f7 u.f8 u.f9 u.f10 u.f11 u.f12 u.f13 u.f14 u.f15 u.f16 u.f17))) else (some u) : Option (aJ)).bind (fun a=>(pI.f k a1 a.f4).bind (fun d=>(eQ.f k a.f0 a.f1 a.f2 a.f4 d).bind (fun b=>if (IntKind.i64.wrap (a.f2 + r27)) > n85 then (some (((aJ.mk b.1 a.f1 n85 true a.f4 a.f5 a.f6 a.f7 a.f8 a.f9 a.f10 a.f11 a.f12 a.f13 a.f14 a.f15 a.f16 a.f17),0))) else (some (((aJ.mk b.1 a.f1 (IntKind.i64.wrap (a.f2 + r27)) a.f3 a.f4 a.f5 a.f6 a.f7 a.f8 a.f9 a.f10 a.f11 a.f12 a.f13 a.f14 a.f15 a.f16 a.f17),0))))))
theorem yV (s : aJ) (h : Pr s) (c : Int) {w' : Int} (hw' : gI c = w') (h1 : w' = 1 ∨ w' = 2) (k : Nat) (hk : 1100100 ≤ k) : Tr k c w' (s.f0.f0 - 1) s = some (ov s c w',0):=by
 have hc:=h.c
 obtain ⟨w,q,o,p,a,b,c',d,hl,hb⟩:=h.m.size
 have hX : (if s.f10 = true then ((fx.f k s.f0 s.f1 s.f2 w' s.f4).bind (fun l=>some (aJ.mk l.1 s.f1 s.f2 s.f3 s.f4 s.f5 s.f6 s.f7 s.f8 s.f9 s.f10 s.f11 s.f12 s.f13 s.f14 s.f15 s.f16 s.f17))) else (some s) : Option (aJ)) = some (if s.f10 = true then ls s (pc s w') else s):=by
  by_cases j : s.f10 = true
  ·rw [if_pos j,if_pos j,uj s h.m hc w' k (by omega)]; rfl
  ·rw [if_neg j,if_neg j]
 have ht : Mg (if s.f10 = true then ls s (pc s w') else s):=by
  split
  ·exact od h.m hc w'
  ·exact h.m
 have hd : (if s.f10 = true then ls s (pc s w') else s).f0.f0 = s.f0.f0∧(if s.f10 = true then ls s (pc s w') else s).f2 = s.f2:=by split <;> exact ⟨rfl,rfl⟩
 unfold Tr ov
 rw [hX]
 simp only [Option.bind_some]
 generalize (if s.f10 = true then ls s (pc s w') else s) = t at ht hd
 rw [zP c t.f4 hw' h1 k (by omega)]
 simp only [Option.bind_some]
 have hL : (kW c w' t.f4).length ≤ 2:=by unfold kW; split <;> simp
 rw [ED t.f0 ht.gr t.f1 t.f2 t.f4 (kW c w' t.f4) (fun x hx=>oK h1 x hx) (by omega) k (by omega)]
 simp only [Option.bind_some]
 have hsw : pr t.f0 t.f1 t.f2 t.f4 (kW c w' t.f4) = ((ls t (mA t c w')).f0,0):=by
  unfold pr
  rw [if_pos (by rw [mK ht,hd.1,hd.2]; simp only [Bool.true_and,Bool.and_eq_true,decide_eq_true_eq]; exact ⟨hc.1,hc.2,List.all_eq_true.2 (qq ht.y hw' h1)⟩)]
  rfl
 rw [hsw,hd.2,eV (x:=s.f2 + w') (by omega) (by omega)]
 split <;> rfl
def bZ (s : aJ) : aJ:=if (s.f3 && s.f8) = true then gL { s with f2:=0 } else s
def uX (u : aJ) (c : Int) : aJ :=
 if gI c = 2∧u.f2 = u.f0.f0 - 1 then
  if u.f8 = false ∨ u.f0.f0 - 1 = 0 then u else ov (gL { u with f2:=0 }) c (gI c)
 else ov u c (gI c)
def ln (s : aJ) (c : Int) : aJ :=
 if gI c ≤ 0 then (if gI c = 0 then nN s c else s) else uX { bZ s with f3:=false } c
theorem py {s : aJ} (h : Ok s) : Pr { bZ s with f3:=false }∧iU s { bZ s with f3:=false }∧Mg (bZ s):=by
 have hc:=fp h
 have hm : Mg (bZ s):=by
  unfold bZ
  split
  ·exact pd (fJ h.mg 0 s.f3)
  ·exact h.mg
 have hl : iU s (bZ s):=by
  unfold bZ
  split
  ·exact (fE (iU.refl s) 0 s.f3).trans (lH (fJ h.mg 0 s.f3)).1
  ·exact iU.refl s
 have h2 : 0 ≤ (bZ s).f2∧(bZ s).f2 < s.f0.f0:=by
  unfold bZ
  split
  ·rw [(lH (fJ h.mg 0 s.f3)).2.1]; exact ⟨Int.le_refl _,by show (0 : Int) < s.f0.f0; omega⟩
  ·exact ⟨hc.1,hc.2.1⟩
 exact ⟨⟨fJ hm (bZ s).f2 false,⟨h2.1,by show (bZ s).f2 < (bZ s).f0.f0; rw [hl.d0]; exact h2.2⟩,rfl⟩,fE hl (bZ s).f2 false,hm⟩
theorem nL {s u : aJ} (hu : Pr u) (l : iU s u) : Pr (gL { u with f2:=0 })∧iU s (gL { u with f2:=0 }):=by
 have hm:=fJ hu.m 0 u.f3
 have hf:=lH hm
 have hc:=hu.c
 refine ⟨⟨pd hm,?_,?_⟩,(fE l 0 u.f3).trans hf.1⟩
 ·rw [hf.2.1,hf.1.d0]; exact ⟨Int.le_refl _,by show (0 : Int) < u.f0.f0; omega⟩
 ·rw [hf.2.2]; exact hu.p
theorem vl {s : aJ} (h : Ok s) (c : Int) : Ok (ln s c):=by
 unfold ln
 split
 ·split
  ·exact xa h c
  ·exact h
 ·rename_i hw
  have d : gI c = 1 ∨ gI c = 2:=by have:=rF c; omega
  obtain ⟨hp,hl,_⟩:=py h
  generalize ({ bZ s with f3:=false } : aJ) = u at hp hl ⊢
  unfold uX
  split
  ·split
   ·exact fK h hl hp.m ⟨hp.c.1,hp.c.2,fun q=>by rw [hp.p] at q; cases q⟩
   ·obtain ⟨a,b⟩:=nL hp hl
    exact tU h b a rfl d
  ·exact tU h hl hp rfl d
theorem xi (s : aJ) (h : Ok s) (c : Int) (k : Nat) (hk : 1100100 ≤ k) : iJ.f k s c = some (ln s c):=by
 have hT : ∀ (u : aJ),Pr u → gI c = 1 ∨ gI c = 2 → Tp k c (gI c) u = some (ov u c (gI c)):=fun u hu j=>yP u hu c rfl j k (by omega)
 obtain ⟨w,q,E,F,a,b,c',d,hl,hb⟩:=h.size
 unfold iJ.f ln
 rw [qm c k (by omega)]
 simp only [Option.bind_some]
 by_cases hw : gI c ≤ 0
 ·rw [if_pos hw,if_pos hw,yM s h c k (by omega)]
  by_cases hz : gI c = 0
  ·rw [if_pos hz,if_pos hz]; rfl
  ·rw [if_neg hz,if_neg hz]
 ·have j : gI c = 1 ∨ gI c = 2:=by have:=rF c; omega
  obtain ⟨hp,hl',hm⟩:=py h
  rw [if_neg hw,if_neg hw]
  simp only [lt]
  have e : (if (s.f3 && s.f8) = true then ((eW.f k (aJ.mk s.f0 s.f1 0 s.f3 s.f4 s.f5 s.f6 s.f7 s.f8 s.f9 s.f10 s.f11 s.f12 s.f13 s.f14 s.f15 s.f16 s.f17)).bind (fun p=>some p)) else (some s) : Option (aJ)) = some (bZ s):=by
   unfold bZ
   split
   ·have:=tY { s with f2:=0 } (fJ h.mg 0 s.f3) k (by omega)
    rw [show eW.f k (aJ.mk s.f0 s.f1 0 s.f3 s.f4 s.f5 s.f6 s.f7 s.f8 s.f9 s.f10 s.f11 s.f12 s.f13 s.f14 s.f15 s.f16 s.f17) = _ from this]; rfl
   ·rfl
  rw [e]
  simp only [Option.bind_some]
  generalize hu : ({ bZ s with f3:=false } : aJ) = u at hp hl' ⊢
  unfold uX
  have hu' : aJ.mk (bZ s).f0 (bZ s).f1 (bZ s).f2 false (bZ s).f4 (bZ s).f5 (bZ s).f6 (bZ s).f7 (bZ s).f8 (bZ s).f9 (bZ s).f10 (bZ s).f11 (bZ s).f12 (bZ s).f13 (bZ s).f14 (bZ s).f15 (bZ s).f16 (bZ s).f17 = u:=hu
  have o : aJ.mk (bZ s).f0 (bZ s).f1 0 false (bZ s).f4 (bZ s).f5 (bZ s).f6 (bZ s).f7 (bZ s).f8 (bZ s).f9 (bZ s).f10 (bZ s).f11 (bZ s).f12 (bZ s).f13 (bZ s).f14 (bZ s).f15 (bZ s).f16 (bZ s).f17 = { u with f2:=0 }:=by rw [← hu]
  have r : (bZ s).f2 = u.f2:=by rw [← hu]
  have y : (bZ s).f8 = u.f8:=by rw [← hu]
  try rw [hu']
  rw [o,r,y,nk u (by rw [hl'.d0]; omega) (by rw [hl'.d0]; omega)]
  obtain ⟨ha,hb'⟩:=nL hp hl'
  have hf:=tY { u with f2:=0 } (fJ hp.m 0 u.f3) k (by omega)
  rw [hf]
  simp only [Option.bind_some]
  by_cases c1 : gI c = 2
  ·rw [if_pos c1]
   simp only [Option.bind_some,decide_eq_true_eq]
   by_cases c2 : u.f2 = u.f0.f0 - 1
   ·rw [if_pos c2,if_pos (⟨c1,c2⟩ : gI c = 2∧u.f2 = u.f0.f0 - 1)]
    by_cases c3 : u.f8 = false ∨ u.f0.f0 - 1 = 0
    ·rw [if_pos c3]
     cases l : u.f8
     ·simp [ku]
     ·rcases c3 with z | z
      ·rw [l] at z; cases z
      ·simp [z,ku]
    ·rw [if_neg c3]
     have B : u.f8 = true:=by cases l : u.f8 <;> simp_all
     have D : ¬ (u.f0.f0 - 1 = 0):=fun z=>c3 (.inr z)
     rw [if_neg (show ¬ ((!u.f8) = true) by rw [B]; decide)]
     simp only [D,Bool.false_eq_true,if_false,Option.bind_some,decide_false,jG]
     exact hT _ ha j
   ·rw [if_neg c2,if_neg (show ¬ (gI c = 2∧u.f2 = u.f0.f0 - 1) from fun z=>c2 z.2)]
    simp only [Option.bind_some,jG]
    exact hT _ hp j
  ·rw [if_neg c1,if_neg (show ¬ (gI c = 2∧u.f2 = u.f0.f0 - 1) from fun z=>c1 z.1)]
   simp only [Option.bind_some,jG,Bool.false_eq_true,if_false]
   exact hT _ hp j
theorem xp (s : aJ) (hs : Sg s) (c : Int) (k : Nat) (hk : 40000000000000 ≤ k) : pR.f k s c = some (fF s (ln s c)):=by
 unfold pR.f fF
 rw [rP s hs k hk]
 cases hm : cx s
 ·simp
 ·have h:=iY hs hm
  obtain ⟨w,q,J,K,a,b,c',d,hl,hb⟩:=h.size
  have hT : ∀ (u : aJ),Pr u → gI c = 1 ∨ gI c = 2 → Tr k c (gI c) (u.f0.f0 - 1) u = some (ov u c (gI c),0):=fun u hu j=>yV u hu c rfl j k (by omega)
  simp only [Option.bind_some,if_true,Bool.not_true,Bool.false_eq_true,if_false]
  rw [ql c k (by omega),yS s h c k (by omega)]
  simp only [Option.bind_some]
  unfold ln
  by_cases hw : gI c ≤ 0
  ·rw [if_pos hw]
   by_cases hz : gI c = 0
   ·rw [if_neg (by omega),if_pos hz,if_pos hz]
   ·rw [if_pos (by omega),if_neg hz]
  ·have j : gI c = 1 ∨ gI c = 2:=by have:=rF c; omega
   obtain ⟨hp,hl',hm'⟩:=py h
   rw [if_neg (by omega),if_neg (by omega),if_neg hw]
   simp only [lt]
   have e : (if (s.f3 && s.f8) = true then ((il.f k (aJ.mk s.f0 s.f1 0 s.f3 s.f4 s.f5 s.f6 s.f7 s.f8 s.f9 s.f10 s.f11 s.f12 s.f13 s.f14 s.f15 s.f16 s.f17)).bind (fun y=>some y)) else (some s) : Option (aJ)) = some (bZ s):=by
    unfold bZ
    split
    ·have:=ue { s with f2:=0 } (fJ h.mg 0 s.f3) k (by omega)
     rw [show il.f k (aJ.mk s.f0 s.f1 0 s.f3 s.f4 s.f5 s.f6 s.f7 s.f8 s.f9 s.f10 s.f11 s.f12 s.f13 s.f14 s.f15 s.f16 s.f17) = _ from this]; rfl
    ·rfl
   rw [e]
   simp only [Option.bind_some]
   generalize hu : ({ bZ s with f3:=false } : aJ) = u at hp hl' ⊢
   unfold uX
   have hu' : aJ.mk (bZ s).f0 (bZ s).f1 (bZ s).f2 false (bZ s).f4 (bZ s).f5 (bZ s).f6 (bZ s).f7 (bZ s).f8 (bZ s).f9 (bZ s).f10 (bZ s).f11 (bZ s).f12 (bZ s).f13 (bZ s).f14 (bZ s).f15 (bZ s).f16 (bZ s).f17 = u:=hu
   have r : aJ.mk (bZ s).f0 (bZ s).f1 0 false (bZ s).f4 (bZ s).f5 (bZ s).f6 (bZ s).f7 (bZ s).f8 (bZ s).f9 (bZ s).f10 (bZ s).f11 (bZ s).f12 (bZ s).f13 (bZ s).f14 (bZ s).f15 (bZ s).f16 (bZ s).f17 = { u with f2:=0 }:=by rw [← hu]
   have B : (bZ s).f0.f0 = u.f0.f0:=by rw [← hu]
   have D : (bZ s).f2 = u.f2:=by rw [← hu]
   have E : (bZ s).f8 = u.f8:=by rw [← hu]
   have o:=hl'.d0
   try rw [hu']
   rw [r,B,D,E,eV (x:=u.f0.f0 - 1) (by omega) (by omega)]
   obtain ⟨ha,hb'⟩:=nL hp hl'
   have hf:=ue { u with f2:=0 } (fJ hp.m 0 u.f3) k (by omega)
   have p : (gL { u with f2:=0 }).f0.f0 = u.f0.f0:=by rw [hb'.d0,o]
   rw [hf]
   simp only [Option.bind_some]
   by_cases c1 : gI c = 2
   ·by_cases c2 : u.f2 = u.f0.f0 - 1
    ·rw [if_pos (⟨c1,c2⟩ : gI c = 2∧u.f2 = u.f0.f0 - 1)]
     simp only [c1,c2,decide_true,Bool.and_self,if_true]
     by_cases c3 : u.f8 = false ∨ u.f0.f0 - 1 = 0
     ·rw [if_pos c3]
      cases l : u.f8
      ·simp [ku]
      ·rcases c3 with z | z
       ·rw [l] at z; cases z
       ·simp [z,ku]
     ·rw [if_neg c3]
      have F : u.f8 = true:=by cases l : u.f8 <;> simp_all
      have I : ¬ (u.f0.f0 - 1 = 0):=fun z=>c3 (.inr z)
      rw [if_neg (show ¬ ((!u.f8 || decide (u.f0.f0 - 1 = 0)) = true) by rw [F,decide_eq_false I]; decide)]
      simp only [Option.bind_some,jG]
      have:=hT _ ha j
      rw [p,c1] at this
      exact this
    ·rw [if_neg (show ¬ (gI c = 2∧u.f2 = u.f0.f0 - 1) from fun z=>c2 z.2)]
     simp only [c1,c2,decide_true,decide_false,Bool.and_false,Bool.false_eq_true,if_false,Option.bind_some,jG]
     have:=hT _ hp j
     rw [c1] at this
     exact this
   ·rw [if_neg (show ¬ (gI c = 2∧u.f2 = u.f0.f0 - 1) from fun z=>c1 z.1)]
    simp only [c1,decide_false,Bool.false_and,Bool.false_eq_true,if_false,Option.bind_some,jG]
    exact hT _ hp j
end Go.Proofs.YtckilbegmbaeeaaGreat.Z6Sc
namespace Go.Proofs.YtckilbegmbaeeaaGreat.Z6Sc
open Go Go.RowKit Go.Proofs.YtckilbegmbaeeaaGreat.SL Go.Proofs.YtckilbegmbaeeaaGreat.Z6 Go.Proofs.YtckilbegmbaeeaaGreat.Z6May Go.Proofs.YtckilbegmbaeeaaGreat.Z6Ls Go.Proofs.YtckilbegmbaeeaaGreat.Z6Op Go.Proofs.YtckilbegmbaeeaaGreat.Z6Sp
set_option linter.unusedVariables false
set_option linter.unusedSimpArgs false
def bL (s : aJ) (on : Bool) : aJ :=
 if (on && !s.f15) = true then { s with f0:=bH.mk s.f0.f0 s.f0.f1 (List.replicate s.f0.f2.length (eL s.f4)),f15:=true,f16:=s.f0 }
 else if (!on && s.f15) = true then { s with f0:=s.f16,f15:=false,f16:=bH.mk 0 0 [] } else s
theorem rk (s : aJ) (h : Ok s) (on : Bool) (k : Nat) (hk : 1300000 ≤ k) : gw.f k s on = some (bL s on):=by
 obtain ⟨w,q,l,o,a,b,c,d,hl,hb⟩:=h.size
 unfold gw.f bL
 simp only [lt]
 cases ho : (on && !s.f15)
 ·simp only [Bool.false_eq_true,if_false]
  split <;> rfl
 ·simp only [if_true]
  rw [if_pos (by omega)]
  have hz : (List.replicate (s.f0.f2.length : Int).toNat (aY.mk 0 (fX.mk 0 0 0) 0 (cM.mk 0 0 false false false false false false false false))).length = w * q:=by rw [List.length_replicate,Int.toNat_natCast,hl]
  generalize List.replicate (s.f0.f2.length : Int).toNat (aY.mk 0 (fX.mk 0 0 0) 0 (cM.mk 0 0 false false false false false false false false)) = Z at hz
  obtain ⟨Y,j,p,r⟩:=wK { s with f0:=bH.mk s.f0.f0 s.f0.f1 Z,f15:=true,f16:=s.f0 } w q 0 q l b d hz hb (by omega) k (by omega)
  rw [← o] at j
  rw [show cX.f k (aJ.mk (bH.mk s.f0.f0 s.f0.f1 Z) s.f1 s.f2 s.f3 s.f4 s.f5 s.f6 s.f7 s.f8 s.f9 s.f10 s.f11 s.f12 s.f13 s.f14 true s.f0 s.f17) 0 s.f0.f1 = _ from j]
  simp only [Option.bind_some]
  have hY : Y = List.replicate s.f0.f2.length (eL s.f4):=by
   refine qu p (by simp [hl]) fun n hn=>?_
   have:=r n hn
   rw [this,if_pos (by omega),hl,mb hn]
   have hp:=fg (w:=w) hn
   have hwz : (win Z (n * w) w).length = w:=dW (by omega)
   have hf : mT { s with f0:=bH.mk s.f0.f0 s.f0.f1 Z,f15:=true,f16:=s.f0 } 0 (w : Int) (win Z (n * w) w) = List.replicate w (eL s.f4):=by
    unfold mT bB
    simp [hwz]
   show co (mT { s with f0:=bH.mk s.f0.f0 s.f0.f1 Z,f15:=true,f16:=s.f0 } 0 (w : Int) (win Z (n * w) w)) = _
   rw [hf,rV (kE w h.m.y)]
  rw [hY]
theorem yi (s : aJ) (r : bH × Int) (N : Nat) (hN : N ≤ 262144) (hr : r.1.f2.length = N) : ∀ (m k i : Nat),i + m = N → m < k → fz.l0 s r k (i : Int) (List.replicate N (eL s.f4)) = some (List.replicate N (eL s.f4))
 | _,0,_,_,hk=>by omega
 | 0,k + 1,i,hi,hk=>by rw [fz.l0,if_pos (by simp [hr]),if_neg (by simp; omega)]
 | m + 1,k + 1,i,hi,hk=>by
  rw [fz.l0,if_pos (by simp [hr]),if_pos (by simp; omega),xB]
  simp only [Option.bind_some,lt]
  rw [if_pos (by simp; omega),gv (by omega)]
  have : (List.replicate N (eL s.f4)).set (i : Int).toNat (eL s.f4) = List.replicate N (eL s.f4):=by
   apply List.ext_getElem?
   intro j
   rw [List.getElem?_set]
   by_cases z : (i : Int).toNat = j
   ·rw [Int.toNat_natCast] at z
    subst z
    rw [Int.toNat_natCast,if_pos rfl,if_pos (by rw [List.length_replicate]; omega),List.getElem?_replicate,if_pos (by omega)]
   ·rw [if_neg z]
  rw [this]
  exact yi s r N hN hr m k (i + 1) (by omega) (by omega)
def qo (s : aJ) (on : Bool) : Nat:=if (on && !s.f15) = true then 0 else if (!on && s.f15) = true then 1 else 2
theorem rn (s : aJ) (h : Ok s) (on : Bool) (k : Nat) (hk : 1300000 ≤ k) : fz.f k s on = some (qo s on,bL s on):=by
 obtain ⟨w,q,j,l,a,b,c,d,hl,hb⟩:=h.size
 unfold fz.f bL qo
 simp only [lt]
 cases ho : (on && !s.f15)
 ·simp only [Bool.false_eq_true,if_false]
  split <;> rfl
 ·simp only [if_true]
  have hn : oa s.f0.f0 s.f0.f1 s.f4 = (bH.mk s.f0.f0 s.f0.f1 (List.replicate (w * q) (eL s.f4)),0):=by
   unfold oa
   rw [if_pos (by rw [h.m.y,Bool.and_true]; unfold eE; simp; omega),show (s.f0.f0 * s.f0.f1).toNat = w * q from by rw [j,l,show (w : Int) * (q : Int) = ((w * q : Nat) : Int) from by simp]; exact Int.toNat_natCast _]
  rw [BL _ _ _ k (by omega),hn]
  simp only [Option.bind_some]
  have:=yi s (bH.mk s.f0.f0 s.f0.f1 (List.replicate (w * q) (eL s.f4)),0) (w * q) hb (by simp) (w * q) k 0 (by omega) (by omega)
  rw [show fz.l0 s (bH.mk s.f0.f0 s.f0.f1 (List.replicate (w * q) (eL s.f4)),0) k 0 (List.replicate (w * q) (eL s.f4)) = _ from this]
  simp only [Option.bind_some]
  rw [if_pos trivial,hl]
theorem qZ {s : aJ} (h : Ok s) : ct (bH.mk s.f0.f0 s.f0.f1 (List.replicate s.f0.f2.length (eL s.f4))) = true:=by
 obtain ⟨w,q,j,l,a,b,c,d,hl,hb⟩:=h.size
 rw [eU]
 refine ⟨w,q,j,l,a,b,c,d,by simp [hl],fun r hr=>?_⟩
 show lP (win (List.replicate s.f0.f2.length (eL s.f4)) (r * w) w)
 rw [hl,mb hr]
 exact kE w h.m.y
theorem mF {s : aJ} (h : Ok s) (on : Bool) : Ok (bL s on):=by
 unfold bL
 split
 ·refine ⟨⟨qZ h,h.m.y,h.m.y2,h.m.t0,h.m.t1,h.m.t2,h.m.p,h.m.p2,h.m.tabs,?_,h.m.ti⟩,mH,h.b⟩
  unfold kT
  simp [h.m.g]
 ·split
  ·rename_i _ ho
   simp only [Bool.and_eq_true] at ho
   have ha:=h.m.alt
   unfold kT at ha
   rw [if_pos ho.2] at ha
   simp only [Bool.and_eq_true,decide_eq_true_eq] at ha
   obtain ⟨⟨d,a⟩,c⟩:=ha
   have p:=eO.1 h.m.p
   have p2:=eO.1 h.m.p2
   refine ⟨⟨d,h.m.y,h.m.y2,h.m.t0,h.m.t1,by show s.f6 < s.f16.f1; rw [c]; exact h.m.t2,eO.2 (by show 0 ≤ s.f1∧s.f1 < s.f16.f1∧0 ≤ s.f2∧s.f2 < s.f16.f0∧(s.f3 = true → s.f2 = s.f16.f0 - 1); rw [a,c]; exact p),eO.2 (by show 0 ≤ s.f14.f0∧s.f14.f0 < s.f16.f1∧0 ≤ s.f14.f1∧s.f14.f1 < s.f16.f0∧(s.f14.f2 = true → s.f14.f1 = s.f16.f0 - 1); rw [a,c]; exact p2),by show fq s.f16.f0 (-1) s.f7 = true; rw [a]; exact h.m.tabs,by unfold kT; simp,h.m.ti⟩,h.b2,fun x hx=>by simp at hx⟩
  ·exact h
def nh (s : aJ) (priv : Bool) (n : Int) (on : Bool) : aJ :=
 if priv = false then (if n = 4 then { s with f10:=on } else s)
 else if n = 1 then { s with f11:=on } else if n = 6 then kG { s with f9:=on } 0 0 else if n = 7 then { s with f8:=on } else if n = 25 then { s with f13:=on } else if n = 2004 then { s with f12:=on }
 else if n = 47 ∨ n = 1047 then bL s on
 else if n = 1049 then (if on = true then bL (ll s false) true else if s.f15 = true then ll (bL s false) true else s)
 else s
theorem jx {s : aJ} (h : Ok s) (b8 b9 b10 b11 b12 b13 : Bool) : Ok { s with f8:=b8,f9:=b9,f10:=b10,f11:=b11,f12:=b12,f13:=b13 } :=
 ⟨⟨h.m.g,h.m.y,h.m.y2,h.m.t0,h.m.t1,h.m.t2,h.m.p,h.m.p2,h.m.tabs,h.m.alt,h.m.ti⟩,h.b,h.b2⟩
theorem xb {s : aJ} (h : Ok s) (priv : Bool) (n : Int) (on : Bool) : Ok (nh s priv n on):=by
 unfold nh
 split
 ·split
  ·exact jx h s.f8 s.f9 on s.f11 s.f12 s.f13
  ·exact h
 ·split
  ·exact jx h s.f8 s.f9 s.f10 on s.f12 s.f13
  ·split
   ·exact pn (jx h s.f8 on s.f10 s.f11 s.f12 s.f13) 0 0
   ·split
    ·exact jx h on s.f9 s.f10 s.f11 s.f12 s.f13
    ·split
     ·exact jx h s.f8 s.f9 s.f10 s.f11 s.f12 on
     ·split
      ·exact jx h s.f8 s.f9 s.f10 s.f11 on s.f13
      ·split
       ·exact mF h on
       ·split
        ·split
         ·exact mF (nT h false) true
         ·split
          ·exact nT (mF h false) true
          ·exact h
        ·exact h
theorem yN (s : aJ) (h : Ok s) (priv : Bool) (n : Int) (on : Bool) (k : Nat) (hk : 1300000 ≤ k) : iR.f k s priv n on = some (nh s priv n on):=by
 obtain ⟨w,q,u,y,a,b,c,d,hl,hb⟩:=h.size
 have hp:=rl { s with f9:=on } (by show 1 ≤ s.f0.f0; omega) (by show s.f0.f0 ≤ 512; omega) (by show 1 ≤ s.f0.f1; omega) (by show s.f0.f1 ≤ 512; omega) h.m.t0 h.m.t1 h.m.t2 0 0
 unfold iR.f nh
 cases priv
 ·simp only [Bool.not_false,if_true]
  split <;> rfl
 ·simp only [Bool.not_true,Bool.false_eq_true,if_false,Bool.true_eq_false]
  rw [show fB.f (aJ.mk s.f0 s.f1 s.f2 s.f3 s.f4 s.f5 s.f6 s.f7 s.f8 on s.f10 s.f11 s.f12 s.f13 s.f14 s.f15 s.f16 s.f17) 0 0 = _ from hp,rk s h on k hk]
  simp only [Option.bind_some]
  by_cases o : n = 1
  ·simp only [o,if_true]
  ·by_cases n6 : n = 6
   ·simp [o,n6]
   ·by_cases n7 : n = 7
    ·simp [o,n6,n7]
    ·by_cases n25 : n = 25
     ·simp [o,n6,n7,n25]
     ·by_cases j : n = 2004
      ·simp [o,n6,n7,n25,j]
      ·by_cases n47 : n = 47
       ·simp [o,n6,n7,n25,j,n47]
       ·by_cases l : n = 1047
        ·simp [o,n6,n7,n25,j,n47,l]
        ·by_cases p : n = 1049
         ·simp only [if_neg o,if_neg n6,if_neg n7,if_neg n25,if_neg j,if_neg n47,decide_eq_false l,if_neg (show ¬ (n = 47 ∨ n = 1047) from fun z=>z.elim n47 l),if_pos p,Option.bind_some,Bool.false_eq_true,if_false]
          cases on
          ·simp only [Bool.false_eq_true,if_false,Option.bind_some,lt,Bool.not_false,Bool.true_and]
           rw [rk s h false k hk]
           simp only [Option.bind_some]
           cases r : s.f15
           ·simp only [Bool.false_eq_true,if_false]
            unfold bL
            simp [r]
           ·simp only [if_true]
            rw [tZ]; rfl
          ·simp only [if_true]
           rw [tZ]
           simp only [Option.bind_some]
           rw [rk _ (nT h false) true k hk]
           simp [lt]
         ·simp [o,n6,n7,n25,j,n47,l,p]
theorem yT (s : aJ) (hs : Sg s) (priv : Bool) (n : Int) (on : Bool) (k : Nat) (hk : 40000000000000 ≤ k) : pX.f k s priv n on = some (fF s (nh s priv n on)):=by
 unfold pX.f
 rw [rP s hs k hk]
 cases hm : cx s
 ·simp [fF,hm]
 ·have h:=iY hs hm
  simp only [Option.bind_some,if_true,Bool.not_true,Bool.false_eq_true,if_false,fF,hm]
  unfold nh
  cases priv
  ·simp only [Bool.not_false,if_true]
   split <;> rfl
  ·have m:=jx h s.f8 on s.f10 s.f11 s.f12 s.f13
   have hp:=rq { s with f9:=on } m.sg 0 0 k hk
   simp only [Bool.not_true,Bool.false_eq_true,if_false,Bool.true_eq_false]
   rw [show jW.f k (aJ.mk s.f0 s.f1 s.f2 s.f3 s.f4 s.f5 s.f6 s.f7 s.f8 on s.f10 s.f11 s.f12 s.f13 s.f14 s.f15 s.f16 s.f17) 0 0 = _ from hp,rn s h on k (by omega)]
   have hmay : cx { s with f9:=on } = true:=m.may
   simp only [Option.bind_some,fF,hmay,if_true]
   have hall : ∀ (t : aJ) (o : Bool),(if qo t o = 0 then (some (((aJ.mk (bL t o).f0 (bL t o).f1 (bL t o).f2 (bL t o).f3 (bL t o).f4 (bL t o).f5 (bL t o).f6 t.f7 (bL t o).f8 (bL t o).f9 (bL t o).f10 (bL t o).f11 (bL t o).f12 (bL t o).f13 (bL t o).f14 (bL t o).f15 (bH.mk (bL t o).f16.f0 (bL t o).f16.f1 t.f0.f2) t.f17),(0 : Int)))) else (if qo t o = 1 then (some (((aJ.mk (bH.mk (bL t o).f0.f0 (bL t o).f0.f1 t.f16.f2) (bL t o).f1 (bL t o).f2 (bL t o).f3 (bL t o).f4 (bL t o).f5 (bL t o).f6 t.f7 (bL t o).f8 (bL t o).f9 (bL t o).f10 (bL t o).f11 (bL t o).f12 (bL t o).f13 (bL t o).f14 (bL t o).f15 (bL t o).f16 t.f17),0))) else (if qo t o = 2 then (some (((aJ.mk (bH.mk (bL t o).f0.f0 (bL t o).f0.f1 t.f0.f2) (bL t o).f1 (bL t o).f2 (bL t o).f3 (bL t o).f4 (bL t o).f5 (bL t o).f6 t.f7 (bL t o).f8 (bL t o).f9 (bL t o).f10 (bL t o).f11 (bL t o).f12 (bL t o).f13 (bL t o).f14 (bL t o).f15 (bH.mk (bL t o).f16.f0 (bL t o).f16.f1 t.f16.f2) t.f17),0))) else none))) = some (bL t o,0):=fun t o=>by
    unfold qo bL
    cases o <;> cases t.f15 <;> rfl
   by_cases c : n = 1
   ·simp only [c,if_true]
   ·by_cases n6 : n = 6
    ·simp [c,n6]
    ·by_cases n7 : n = 7
     ·simp [c,n6,n7]
     ·by_cases n25 : n = 25
      ·simp [c,n6,n7,n25]
      ·by_cases a : n = 2004
       ·simp [c,n6,n7,n25,a]
       ·by_cases n47 : n = 47
        ·simp only [c,n6,n7,n25,a,n47,if_false,if_true,Option.bind_some,decide_true,true_or]
         exact hall s on
        ·by_cases b : n = 1047
         ·simp only [c,n6,n7,n25,a,n47,b,if_false,if_true,Option.bind_some,decide_true,or_true]
          exact hall s on
         ·by_cases j : n = 1049
          ·simp only [if_neg c,if_neg n6,if_neg n7,if_neg n25,if_neg a,if_neg n47,decide_eq_false b,if_neg (show ¬ (n = 47 ∨ n = 1047) from fun z=>z.elim n47 b),if_pos j,Option.bind_some,Bool.false_eq_true,if_false]
           cases on
           ·simp only [Bool.false_eq_true,if_false]
            cases l : s.f15
            ·simp
            ·simp only [if_true]
             rw [rn s h false k (by omega)]
             simp only [Option.bind_some]
             have ht : qo s false = 1:=by unfold qo; simp [l]
             rw [ht]
             have hd : aJ.mk (bH.mk (bL s false).f0.f0 (bL s false).f0.f1 s.f16.f2) (bL s false).f1 (bL s false).f2 (bL s false).f3 (bL s false).f4 (bL s false).f5 (bL s false).f6 s.f7 (bL s false).f8 (bL s false).f9 (bL s false).f10 (bL s false).f11 (bL s false).f12 (bL s false).f13 (bL s false).f14 (bL s false).f15 (bL s false).f16 s.f17 = bL s false:=by
              unfold bL; simp [l]
             have d:=uf (bL s false) (mF h false).sg true k hk
             simp only [fF,(mF h false).may,if_true] at d
             rw [if_neg (show ¬ ((1 : Nat) = 0) by decide),if_pos rfl,hd,d]
             rfl
           ·simp only [if_true]
            have d:=uf s hs false k hk
            simp only [fF,hm,if_true] at d
            rw [d]
            simp only [Option.bind_some]
            rw [rn _ (nT h false) true k (by omega)]
            exact hall (ll s false) true
          ·simp [c,n6,n7,n25,a,n47,b,j]
end Go.Proofs.YtckilbegmbaeeaaGreat.Z6Sc
namespace Go.Proofs.YtckilbegmbaeeaaGreat.Z6Sc
open Go Go.RowKit Go.Proofs.YtckilbegmbaeeaaGreat.SL Go.Proofs.YtckilbegmbaeeaaGreat.Z6 Go.Proofs.YtckilbegmbaeeaaGreat.Z6May Go.Proofs.YtckilbegmbaeeaaGreat.Z6Ls Go.Proofs.YtckilbegmbaeeaaGreat.Z6Op Go.Proofs.YtckilbegmbaeeaaGreat.Z6Sp
set_option linter.unusedVariables false
set_option linter.unusedSimpArgs false
theorem wQ (l : List Int) (a : Int) (hl : l.length ≤ 1048576) (S : ∀ (i j : Nat) (hi : i < l.length) (hj : j < l.length),i < j → l[i] < l[j]) :
  ∀ (n k lo hi : Nat),hi - lo ≤ n → n < k → lo ≤ hi → hi ≤ l.length → (∀ (i : Nat) (h : i < l.length),i < lo → l[i] < a) → (∀ (i : Nat) (h : i < l.length),hi ≤ i → a ≤ l[i]) →
   ∃ p : Nat,fR.l0 l a k (lo : Int) (hi : Int) = some (p : Int)∧p ≤ l.length∧(∀ (i : Nat) (h : i < l.length),i < p → l[i] < a)∧(∀ (i : Nat) (h : i < l.length),p ≤ i → a ≤ l[i])
 | n,0,_,_,_,h,_,_,_,_=>by omega
 | n,k + 1,lo,hi,o,h2,r,b,ha,hb=>by
  rw [fR.l0]
  by_cases hlt : lo < hi
  ·rw [if_pos (by omega)]
   have d : IntKind.i64.wrap (gR .u64 (IntKind.u64.wrap (IntKind.i64.wrap ((lo : Int) + (hi : Int)))) 1) = (((lo + hi) / 2 : Nat) : Int):=by
    have c : gR .u64 (IntKind.u64.wrap ((lo : Int) + (hi : Int))) 1 = (((lo + hi) / 2 : Nat) : Int):=by
     rw [vz,Int.emod_eq_of_lt (by omega) (by omega),show (1 : Int) = ((1 : Nat) : Int) from rfl,sk _ _ 1 (by decide)]
     simp
    rw [eV (x:=(lo : Int) + (hi : Int)) (by omega) (by omega),c,eV (by omega) (by omega)]
   have hm : (lo + hi) / 2 < l.length:=by omega
   simp only [lt,d]
   rw [if_pos (by omega),fa hm]
   obtain ⟨m,rfl⟩ : ∃ m,n = m + 1:=⟨n - 1,by omega⟩
   have hless : qO.f l[(lo + hi) / 2] a = some (decide (l[(lo + hi) / 2] < a)):=by
    unfold qO.f pP.f; simp [lt]
   rw [hless]
   simp only [Option.bind_some,decide_eq_true_eq]
   by_cases hc : l[(lo + hi) / 2] < a
   ·rw [if_pos hc,eV (by omega) (by omega)]
    exact wQ l a hl S m k ((lo + hi) / 2 + 1) hi (by omega) (by omega) (by omega) b (fun i h hi'=>by
     rcases Nat.lt_or_ge i ((lo + hi) / 2) with q | q
     ·have:=S _ _ h hm q; omega
     ·obtain rfl : i = (lo + hi) / 2:=by omega
      exact hc) hb
   ·rw [if_neg hc]
    exact wQ l a hl S m k lo ((lo + hi) / 2) (by omega) (by omega) (by omega) (by omega) ha (fun i h hi'=>by
     rcases Nat.lt_or_ge ((lo + hi) / 2) i with q | q
     ·have:=S _ _ hm h q; omega
     ·obtain rfl : i = (lo + hi) / 2:=by omega
      omega)
  ·obtain rfl : lo = hi:=by omega
   rw [if_neg (by omega)]
   exact ⟨lo,rfl,b,ha,hb⟩
theorem xW (l : List Int) (a : Int) (hl : l.length ≤ 1048576) (S : List.Pairwise (· < ·) l) (k : Nat) (hk : l.length < k) :
  ∃ p : Nat,fR.f k l a = some ((p : Int),decide (p < l.length∧rd l (p : Int) = a))∧p ≤ l.length∧(∀ (i : Nat) (h : i < l.length),i < p → l[i] < a)∧(∀ (i : Nat) (h : i < l.length),p ≤ i → a ≤ l[i]):=by
 obtain ⟨p,b,h2,c,d⟩:=wQ l a hl (fun i j hi hj hij=>List.pairwise_iff_getElem.1 S i j hi hj hij) l.length k 0 l.length (by omega) hk (by omega) (by omega) (fun i h q=>by omega) (fun i h q=>by omega)
 refine ⟨p,?_,h2,c,d⟩
 unfold fR.f pO.f
 simp only [lt]
 rw [show fR.l0 l a k 0 (l.length : Int) = some (p : Int) from b]
 simp only [Option.bind_some]
 by_cases hp : p < l.length
 ·rw [if_pos (by omega),if_pos (by omega)]
  by_cases he : rd l (p : Int) = a
  ·simp [he,hp]
  ·rw [if_neg he]
   simp [he,hp]
 ·rw [if_neg (by omega)]
  simp [hp]
def nt : List Int → Int → Int → Int
 | [],_,d=>d
 | t::r,c,d=>if t > c then t else nt r c d
theorem tN : ∀ (l : List Int) (t c d : Int),nt (l ++ [t]) c d = nt l c (if t > c then t else d)
 | [],t,c,d=>rfl
 | x::r,t,c,d=>by
  show (if x > c then x else nt (r ++ [t]) c d) = _
  rw [tN r t c d]; rfl
theorem tO : ∀ (l : List Int) (c d : Int) (p : Nat),(∀ (i : Nat) (h : i < l.length),i < p → l[i] ≤ c) → (∀ (i : Nat) (h : i < l.length),p ≤ i → c < l[i]) → p ≤ l.length → nt l c d = if p < l.length then rd l (p : Int) else d
 | [],c,d,p,_,_,_=>by simp [nt]
 | t::r,c,d,0,_,h2,_=>by
  have:=h2 0 (by simp) (by omega)
  simp only [List.getElem_cons_zero] at this
  unfold nt
  rw [if_pos this]; rfl
 | t::r,c,d,p + 1,a,h2,b=>by
  have:=a 0 (by simp) (by omega)
  simp only [List.getElem_cons_zero] at this
  unfold nt
  rw [if_neg (by omega),tO r c d p (fun i h hi=>by have:=a (i + 1) (by simp; omega) (by omega); simpa using this) (fun i h hi=>by have:=h2 (i + 1) (by simp; omega) (by omega); simpa using this) (by simp at b; omega)]
  by_cases hp : p < r.length
  ·rw [if_pos hp,if_pos (by simp; omega),fa hp,fa (xs:=t::r) (show p + 1 < (t::r).length by simp; omega)]; rfl
  ·rw [if_neg hp,if_neg (by simp; omega)]
theorem vU : ∀ (l : List Int) (c d : Int),nt l c d = d ∨ nt l c d ∈ l
 | [],_,_=>.inl rfl
 | t::r,c,d=>by
  unfold nt
  split
  ·exact .inr (by simp)
  ·rcases vU r c d with z | z
   ·exact .inl z
   ·exact .inr (by simp [z])
theorem uA (r : aJ × Bool) (hl : r.1.f7.length ≤ 1048576) : ∀ (n k : Nat) (d : Int),n ≤ r.1.f7.length → n < k → jI.l0 r k d ((n : Int) - 1) = some (nt (r.1.f7.take n) r.1.f2 d)
 | _,0,_,_,hk=>by omega
 | 0,k + 1,d,_,hk=>by rw [jI.l0,if_neg (by omega)]; rfl
 | n + 1,k + 1,d,hn,hk=>by
  have hn' : n < r.1.f7.length:=by omega
  have hb : 0 ≤ (((n + 1 : Nat) : Int) - 1)∧(((n + 1 : Nat) : Int) - 1) < (r.1.f7.length : Int):=by omega
  have et : r.1.f7.take (n + 1) = r.1.f7.take n ++ [rd r.1.f7 (n : Int)]:=by rw [fa hn',List.take_add_one,List.getElem?_eq_getElem hn']; rfl
  rw [jI.l0,if_pos (by omega),if_pos hb,if_pos hb,eV (by omega) (by omega),show ((n + 1 : Nat) : Int) - 1 = (n : Int) from by omega,et,tN]
  simp only [lt]
  by_cases hc : rd r.1.f7 (n : Int) > r.1.f2
  ·rw [if_pos hc,if_pos hc]
   exact uA r hl n k _ (by omega) (by omega)
  ·rw [if_neg hc,if_neg hc]
   exact uA r hl n k _ (by omega) (by omega)
def iW (s : aJ) (c : Int) : aJ :=
 if c = 8 then { s with f2:=max (s.f2 - 1) 0,f3:=false } else if c = 9 then { s with f2:=nt s.f7 s.f2 (s.f0.f0 - 1),f3:=false }
 else if c = 10 ∨ c = 11 ∨ c = 12 then { gL s with f3:=false } else if c = 13 then { s with f2:=0,f3:=false } else if c = 141 then { jv s with f3:=false } else s
theorem mN {s : aJ} (h : M s) : List.Pairwise (· < ·) s.f7∧∀ x ∈ s.f7,-1 < x∧x < s.f0.f0:=mM.1 h.tabs
theorem vh {s : aJ} (h : Ok s) : 0 ≤ nt s.f7 s.f2 (s.f0.f0 - 1)∧nt s.f7 s.f2 (s.f0.f0 - 1) < s.f0.f0:=by
 obtain ⟨w,q,a,_,_,_,_,_,_,_⟩:=h.size
 rcases vU s.f7 s.f2 (s.f0.f0 - 1) with z | z
 ·omega
 ·have:=(mN h.m).2 _ z; omega
theorem sJ {s : aJ} (h : Ok s) (c : Int) : Ok (iW s c):=by
 have hc:=fp h
 have hn:=vh h
 have hr:=iU.refl s
 unfold iW
 split
 ·exact fK h (fE hr _ _) (fJ h.mg _ _) ⟨by show 0 ≤ max (s.f2 - 1) 0; omega,by show max (s.f2 - 1) 0 < s.f0.f0; omega,fun q=>by cases q⟩
 ·split
  ·exact fK h (fE hr _ _) (fJ h.mg _ _) ⟨hn.1,hn.2,fun q=>by cases q⟩
  ·split
   ·obtain ⟨l,a,b⟩:=lH h.mg
    exact fK h (fE l (gL s).f2 false) (fJ (pd h.mg) (gL s).f2 false) ⟨by show 0 ≤ (gL s).f2; rw [a]; exact hc.1,by show (gL s).f2 < (gL s).f0.f0; rw [a,l.d0]; exact hc.2.1,fun q=>by cases q⟩
   ·split
    ·exact fK h (fE hr _ _) (fJ h.mg _ _) ⟨by show (0 : Int) ≤ 0; omega,by show (0 : Int) < s.f0.f0; omega,fun q=>by cases q⟩
    ·split
     ·obtain ⟨l,a,b⟩:=sD h.mg
      exact fK h (fE l (jv s).f2 false) (fJ (uW h.mg) (jv s).f2 false) ⟨by show 0 ≤ (jv s).f2; rw [a]; exact hc.1,by show (jv s).f2 < (jv s).f0.f0; rw [a,l.d0]; exact hc.2.1,fun q=>by cases q⟩
     ·exact h
theorem tX (s : aJ) (h : Ok s) (c : Int) (k : Nat) (hk : 1100000 ≤ k) : iK.f k s c = some (iW s c):=by
 obtain ⟨w,q,J,K,a,b,c',d,hl,hb⟩:=h.size
 have hc:=fp h
 have ht:=gu h.m
 have hpw:=mN h.m
 unfold iK.f iW
 by_cases r : c = 8
 ·rw [if_pos r,if_pos r,eV (by omega) (by omega),kI]; rfl
 ·rw [if_neg r,if_neg r]
  by_cases u : c = 9
  ·rw [if_pos u,if_pos u]
   obtain ⟨p,I,h2,E,F⟩:=xW s.f7 s.f2 (by omega) hpw.1 k (by omega)
   rw [I,nk s (by omega) (by omega)]
   simp only [Option.bind_some,decide_eq_true_eq]
   have S : ∀ (i j : Nat) (hi : i < s.f7.length) (hj : j < s.f7.length),i < j → s.f7[i] < s.f7[j]:=fun i j hi hj hij=>List.pairwise_iff_getElem.1 hpw.1 i j hi hj hij
   by_cases hf : p < s.f7.length∧rd s.f7 (p : Int) = s.f2
   ·rw [if_pos hf,eV (by omega) (by omega)]
    simp only [lt,Option.bind_some]
    have hn:=tO s.f7 s.f2 (s.f0.f0 - 1) (p + 1) (fun i hi hip=>by
     rcases Nat.lt_or_ge i p with z | z
     ·have:=E i hi z; omega
     ·obtain rfl : i = p:=by omega
      rw [← fa hi,hf.2]; exact Int.le_refl _) (fun i hi hip=>by
     have:=S p i hf.1 hi (by omega)
     rw [← fa hf.1,hf.2] at this; exact this) (by omega)
    rw [hn]
    by_cases z : p + 1 < s.f7.length
    ·rw [if_pos (by omega),if_pos (by omega),if_pos z]; rfl
    ·rw [if_neg (by omega),if_neg z]; rfl
   ·rw [if_neg hf]
    simp only [Option.bind_some]
    have hn:=tO s.f7 s.f2 (s.f0.f0 - 1) p (fun i hi hip=>by have:=E i hi hip; omega) (fun i hi hip=>by
     have L:=F i hi hip
     rcases Nat.lt_or_ge p i with z | z
     ·have M:=F p (by omega) (Nat.le_refl _)
      have:=S p i (by omega) hi z
      omega
     ·obtain rfl : i = p:=by omega
      have : ¬ rd s.f7 (i : Int) = s.f2:=fun q=>hf ⟨hi,q⟩
      rw [fa hi] at this; omega) h2
    rw [hn]
    by_cases z : p < s.f7.length
    ·rw [if_pos (by omega),if_pos (by omega),if_pos z]; rfl
    ·rw [if_neg (by omega),if_neg z]; rfl
  ·rw [if_neg u,if_neg u,tY s h.mg k hk,yE s h.mg k hk]
   simp only [Option.bind_some]
   by_cases y : c = 10
   ·subst y; rfl
   ·by_cases B : c = 11
    ·subst B; rfl
    ·by_cases D : c = 12
     ·subst D; rfl
     ·simp only [y,B,D,if_false,decide_false,Option.bind_some,Bool.false_eq_true,or_self]
      by_cases o : c = 13
      ·rw [if_pos o,if_pos o]; rfl
      ·rw [if_neg o,if_neg o]
       by_cases l : c = 141
       ·rw [if_pos l,if_pos l]; rfl
       ·rw [if_neg l,if_neg l]; rfl
theorem uc (s : aJ) (hs : Sg s) (c : Int) (k : Nat) (hk : 40000000000000 ≤ k) : jI.f k s c = some (fF s (iW s c)):=by
 unfold jI.f fF
 rw [rP s hs k hk]
 cases hm : cx s
 ·simp
 ·have h:=iY hs hm
  obtain ⟨w,q,B,D,a,b,c',d,hl,hb⟩:=h.size
  have hc:=fp h
  have ht:=gu h.m
  have hr:=eO.1 h.m.p
  simp only [Option.bind_some,if_true,Bool.not_true,Bool.false_eq_true,if_false,lt]
  unfold iW
  by_cases o : c = 8
  ·rw [if_pos o,if_pos o,eV (by omega) (by omega),kI,Int.max_comm]
  ·rw [if_neg o,if_neg o]
   by_cases r : c = 9
   ·rw [if_pos r,if_pos r,eV (x:=s.f0.f0 - 1) (by omega) (by omega),eV (by omega) (by omega),uA (s,true) (by show s.f7.length ≤ 1048576; omega) s.f7.length k _ (by show s.f7.length ≤ s.f7.length; omega) (by omega)]
    simp only [Option.bind_some]
    rw [List.take_length]
   ·rw [if_neg r,if_neg r,ue s h.mg k (by omega),nx s h.mg _ _ _ k (by omega),eV (x:=s.f1 - 1) (by omega) (by omega)]
    simp only [Option.bind_some]
    by_cases u : c = 10
    ·subst u; rfl
    ·by_cases y : c = 11
     ·subst y; rfl
     ·by_cases z : c = 12
      ·subst z; rfl
      ·simp only [u,y,z,if_false,decide_false,Option.bind_some,Bool.false_eq_true,or_self]
       by_cases l : c = 13
       ·rw [if_pos l,if_pos l]
       ·rw [if_neg l,if_neg l]
        by_cases j : c = 141
        ·rw [if_pos j,if_pos j]
         unfold jv
         split
         ·rfl
         ·split <;> rfl
        ·rw [if_neg j,if_neg j]
def uz (c : Int) : List Int → List Int
 | []=>[c]
 | t::r=>if t < c then t::uz c r else if t = c then t::r else c::t::r
theorem lI {c x : Int} : ∀ {l : List Int},x ∈ uz c l ↔ x = c ∨ x ∈ l
 | []=>by simp [uz]
 | t::r=>by
  unfold uz
  split
  ·simp only [List.mem_cons,lI (l:=r)]
   constructor
   ·rintro (h | h | h) <;> simp [h]
   ·rintro (h | h | h) <;> simp [h]
  ·split
   ·rename_i h; simp [h]
   ·simp
theorem pg {c : Int} : ∀ {l : List Int},List.Pairwise (· < ·) l → List.Pairwise (· < ·) (uz c l)
 | [],_=>by simp [uz]
 | t::r,h=>by
  rw [List.pairwise_cons] at h
  unfold uz
  split
  ·rw [List.pairwise_cons]
   refine ⟨fun x hx=>?_,pg h.2⟩
   rcases lI.1 hx with z | z
   ·omega
   ·exact h.1 x z
  ·split
   ·exact List.pairwise_cons.2 h
   ·rw [List.pairwise_cons]
    refine ⟨fun x hx=>?_,List.pairwise_cons.2 h⟩
    rcases List.mem_cons.1 hx with z | z
    ·omega
    ·have:=h.1 x z; omega
theorem pq : ∀ {l m : List Int},List.Pairwise (· < ·) l → List.Pairwise (· < ·) m → (∀ x,x ∈ l ↔ x ∈ m) → l = m
 | [],[],_,_,_=>rfl
 | [],b::m,_,_,h=>absurd ((h b).2 (by simp)) (by simp)
 | a::l,[],_,_,h=>absurd ((h a).1 (by simp)) (by simp)
 | a::l,b::m,hl,hm,h=>by
  rw [List.pairwise_cons] at hl hm
  have hab : a = b:=by
   rcases List.mem_cons.1 ((h a).1 (by simp)) with z | z
   ·exact z
   ·rcases List.mem_cons.1 ((h b).2 (by simp)) with y | y
    ·exact y.symm
    ·have:=hm.1 a z; have:=hl.1 b y; omega
  subst hab
  rw [pq hl.2 hm.2 fun x=>?_]
  constructor
  ·intro hx
   rcases List.mem_cons.1 ((h x).1 (by simp [hx])) with z | z
   ·have:=hl.1 x hx; omega
   ·exact z
  ·intro hx
   rcases List.mem_cons.1 ((h x).2 (by simp [hx])) with z | z
   ·have:=hm.1 x hx; omega
   ·exact z
def lQ (l : List Int) (c kind : Int) : List Int:=if kind = 0 then uz c l else if kind = 1 then l.filter (fun x=>decide (x ≠ c)) else if kind = 2 then [] else l
def qk (s : aJ) (kind : Int) : aJ:={ s with f7:=lQ s.f7 s.f2 kind }
theorem qC {l : List Int} {c kind : Int} (h : List.Pairwise (· < ·) l) : List.Pairwise (· < ·) (lQ l c kind):=by
 unfold lQ
 split
 ·exact pg h
 ·split
  ·exact List.Pairwise.filter _ h
  ·split
   ·exact List.Pairwise.nil
   ·exact h
theorem qB {l : List Int} {c kind x : Int} (h : x ∈ lQ l c kind) : x = c ∨ x ∈ l:=by
 unfold lQ at h
 split at h
 ·exact lI.1 h
 ·split at h
  ·exact .inr (List.mem_filter.1 h).1
  ·split at h
   ·simp at h
   ·exact .inr h
theorem yy {s : aJ} (h : Ok s) (kind : Int) : Ok (qk s kind):=by
 have hc:=fp h
 have hp:=mN h.m
 refine ⟨⟨h.m.g,h.m.y,h.m.y2,h.m.t0,h.m.t1,h.m.t2,h.m.p,h.m.p2,mM.2 ⟨qC hp.1,fun x hx=>?_⟩,h.m.alt,h.m.ti⟩,h.b,h.b2⟩
 rcases qB hx with z | z
 ·rw [z]; exact ⟨by omega,hc.2.1⟩
 ·exact hp.2 x z
theorem uq {l : List Int} {c : Int} (hp : List.Pairwise (· < ·) l) {p : Nat} (h2 : p ≤ l.length) (h3 : ∀ (i : Nat) (h : i < l.length),i < p → l[i] < c) (h4 : ∀ (i : Nat) (h : i < l.length),p ≤ i → c ≤ l[i]) (hn : ¬ (p < l.length∧rd l (p : Int) = c)) :
  l.take p ++ [c] ++ l.drop p = uz c l:=by
 have hgt : ∀ (i : Nat) (h : i < l.length),p ≤ i → c < l[i]:=fun i hi hpi=>by
  have d:=h4 i hi hpi
  rcases Nat.lt_or_ge p i with z | z
  ·have j:=h4 p (by omega) (Nat.le_refl _)
   have:=List.pairwise_iff_getElem.1 hp p i (by omega) hi z
   omega
  ·obtain rfl : i = p:=by omega
   have : ¬ rd l (i : Int) = c:=fun q=>hn ⟨hi,q⟩
   rw [fa hi] at this; omega
 have ha : ∀ x ∈ l.take p,x < c:=fun x hx=>by
  obtain ⟨i,hi,rfl⟩:=List.getElem_of_mem hx
  rw [List.length_take] at hi
  rw [List.getElem_take]; exact h3 i (by omega) (by omega)
 have hb : ∀ x ∈ l.drop p,c < x:=fun x hx=>by
  obtain ⟨i,hi,rfl⟩:=List.getElem_of_mem hx
  rw [List.length_drop] at hi
  rw [List.getElem_drop]; exact hgt _ (by omega) (by omega)
 refine pq ?_ (pg hp) fun x=>?_
 ·have hp':=hp
  rw [← List.take_append_drop p l,List.pairwise_append] at hp'
  rw [List.append_assoc,List.pairwise_append]
  refine ⟨hp'.1,?_,fun a ha' b hb'=>?_⟩
  ·rw [List.singleton_append,List.pairwise_cons]
   exact ⟨hb,hp'.2.1⟩
  ·rw [List.singleton_append] at hb'
   rcases List.mem_cons.1 hb' with z | z
   ·rw [z]; exact ha a ha'
   ·exact hp'.2.2 a ha' b z
 ·rw [lI]
  have e : x ∈ l ↔ x ∈ l.take p ∨ x ∈ l.drop p:=by rw [← List.mem_append,List.take_append_drop]
  rw [e]
  simp only [List.mem_append,List.mem_singleton]
  constructor
  ·rintro ((h | h) | h) <;> simp [h]
  ·rintro (h | h | h) <;> simp [h]
theorem wG {l : List Int} {c : Int} (hp : List.Pairwise (· < ·) l) {p : Nat} (h1 : p < l.length) (hc : rd l (p : Int) = c) : l.take p ++ l.drop (p + 1) = l.filter (fun x=>decide (x ≠ c)):=by
 have S : ∀ (i j : Nat) (hi : i < l.length) (hj : j < l.length),i < j → l[i] < l[j]:=fun i j hi hj hij=>List.pairwise_iff_getElem.1 hp i j hi hj hij
 rw [fa h1] at hc
 have hd : l.drop p = c::l.drop (p + 1):=by rw [List.drop_eq_getElem_cons h1,hc]
 have e : l = l.take p ++ (c::l.drop (p + 1)):=by rw [← hd,List.take_append_drop]
 have ha : ∀ x ∈ l.take p,x < c:=fun x hx=>by
  obtain ⟨i,hi,rfl⟩:=List.getElem_of_mem hx
  rw [List.length_take] at hi
  rw [List.getElem_take,← hc]; exact S _ _ _ _ (by omega)
 have hb : ∀ x ∈ l.drop (p + 1),c < x:=fun x hx=>by
  obtain ⟨i,hi,rfl⟩:=List.getElem_of_mem hx
  rw [List.length_drop] at hi
  rw [List.getElem_drop,← hc]; exact S _ _ _ _ (by omega)
 conv=>rhs; rw [e]
 rw [List.filter_append,List.filter_cons_of_neg (by simp),List.filter_eq_self.2 (fun x hx=>by have:=ha x hx; simp; omega),List.filter_eq_self.2 (fun x hx=>by have:=hb x hx; simp; omega)]
theorem zR (l m : List Int) (p : Nat) (hp : p ≤ l.length) (hl : l.length + m.length ≤ 17592186044416) : jr.f l (p : Int) m = some (l.take p ++ m ++ l.drop p):=by
 unfold jr.f
 rw [if_pos (by omega)]
 simp only [lt]
 by_cases hm : (m.length : Int) = 0
 ·rw [if_pos hm]
  have : m = []:=List.length_eq_zero_iff.1 (by omega)
  subst this
  simp
 ·rw [if_neg hm]
  by_cases hq : (p : Int) = (l.length : Int)
  ·rw [if_pos hq,if_pos hl]
   have : p = l.length:=by omega
   subst this
   simp
  ·rw [if_neg hq,if_pos hl,Int.toNat_natCast]
theorem zU (l : List Int) (p : Nat) (hp : p < l.length) (hl : l.length ≤ 1048576) : lY.f l (p : Int) ((p + 1 : Nat) : Int) = some (l.take p ++ l.drop (p + 1)):=by
 unfold lY.f
 rw [if_pos (by omega),if_neg (by omega)]
 simp only [lt]
 rw [if_pos (by omega),if_pos (by omega),if_pos (by omega)]
 have a : sub l (0 + ((p + 1 : Nat) : Int)) (0 + ((p + 1 : Nat) : Int) + ((l.length : Int) - ((p + 1 : Nat) : Int))) = l.drop (p + 1):=by
  rw [show (0 : Int) + ((p + 1 : Nat) : Int) = ((p + 1 : Nat) : Int) from by omega,show (l.length : Int) - ((p + 1 : Nat) : Int) = ((l.length - (p + 1) : Nat) : Int) from by omega,jk]
  unfold win
  rw [List.take_of_length_le (by simp)]
 rw [a,show ((0 : Int) + 0 + ((p : Int) - 0)).toNat = p from by omega]
 have hX : (bB l p (l.drop (p + 1))).length = l.length:=aU (by rw [List.length_drop]; omega)
 rw [if_pos (by omega),if_pos (by omega)]
 have b : ((p : Int) - 0 + ((l.length : Int) - ((p + 1 : Nat) : Int))).toNat = l.length - 1:=by omega
 have c : ((0 : Int) + 0 + ((p : Int) - 0 + ((l.length : Int) - ((p + 1 : Nat) : Int)))).toNat = l.length - 1:=by omega
 rw [c,b]
 have d : ((l.length : Int) - ((p : Int) - 0 + ((l.length : Int) - ((p + 1 : Nat) : Int)))).toNat = 1:=by omega
 rw [d]
 congr 1
 apply List.ext_getElem?
 intro i
 rw [List.getElem?_take]
 by_cases hi : i < l.length - 1
 ·rw [if_pos hi,dx (by rw [hX]; simp; omega),if_pos (by omega),dx (by rw [List.length_drop]; omega),List.length_drop]
  by_cases hip : i < p
  ·rw [if_pos hip,List.getElem?_append_left (by rw [List.length_take]; omega),List.getElem?_take,if_pos hip]
  ·rw [if_neg hip,if_pos (by omega),List.getElem?_append_right (by rw [List.length_take]; omega),List.length_take,Nat.min_eq_left (by omega)]
 ·rw [if_neg hi,List.getElem?_eq_none (by simp; omega)]
theorem Bo (s : aJ) (h : Ok s) (kind : Int) (k : Nat) (hk : 1100000 ≤ k) : iS.f k s kind = some (qk s kind):=by
 have ht:=gu h.m
 have hp:=mN h.m
 obtain ⟨p,j,h2,c,d⟩:=xW s.f7 s.f2 (by omega) hp.1 k (by omega)
 unfold iS.f qk lQ
 rw [j]
 simp only [Option.bind_some,lt]
 by_cases hf : p < s.f7.length∧rd s.f7 (p : Int) = s.f2
 ·rw [decide_eq_true hf]
  simp only [Bool.not_true,Bool.and_false,Bool.false_eq_true,if_false,Bool.and_true,decide_eq_true_eq]
  by_cases a : kind = 0
  ·rw [if_neg (by omega),if_neg (by omega),if_pos a]
   have hm : s.f2 ∈ s.f7:=by rw [← hf.2,fa hf.1]; exact List.getElem_mem _
   have hins : uz s.f2 s.f7 = s.f7:=pq (pg hp.1) hp.1 fun x=>by
    rw [lI]
    constructor
    ·rintro (z | z)
     ·rw [z]; exact hm
     ·exact z
    ·exact fun z=>.inr z
   rw [hins]
  ·rw [if_neg a]
   by_cases b : kind = 1
   ·rw [if_pos b,if_pos b,eV (by omega) (by omega),show ((p : Int) + 1) = ((p + 1 : Nat) : Int) from rfl,zU s.f7 p hf.1 (by omega),wG hp.1 hf.1 hf.2]
    rfl
   ·rw [if_neg b,if_neg b]
    split <;> rfl
 ·rw [decide_eq_false hf]
  simp only [Bool.not_false,Bool.and_true,Bool.and_false,Bool.false_eq_true,if_false,decide_eq_true_eq]
  by_cases a : kind = 0
  ·rw [if_pos a,if_pos a,zR s.f7 [s.f2] p h2 (by simp; omega),uq hp.1 h2 c d hf]
   rfl
  ·rw [if_neg a,if_neg a]
   by_cases b : kind = 1
   ·rw [if_neg (by omega),if_pos b]
    have hm : ∀ x ∈ s.f7,x ≠ s.f2:=fun x hx z=>by
     obtain ⟨i,hi,hx⟩:=List.getElem_of_mem hx
     rcases Nat.lt_or_ge i p with y | y
     ·have:=c i hi y; omega
     ·rcases Nat.lt_or_ge p i with v | v
      ·have l:=d p (by omega) (Nat.le_refl _)
       have:=List.pairwise_iff_getElem.1 hp.1 p i (by omega) hi v
       omega
      ·obtain rfl : i = p:=by omega
       exact hf ⟨hi,by rw [fa hi,hx,z]⟩
    rw [List.filter_eq_self.2 (fun x hx=>by simp [hm x hx])]
   ·rw [if_neg b]
    split <;> rfl
theorem wR (r : aJ × Bool) (x : Int) (hl : r.1.f7.length ≤ 1048576) : ∀ (n k i : Nat) (b : Bool),i + n = r.1.f7.length → n < k → fV.l1 r x k b (i : Int) = some (b || (r.1.f7.drop i).any fun t=>decide (t = x))
 | _,0,_,_,_,hk=>by omega
 | 0,k + 1,i,b,hi,hk=>by rw [fV.l1,if_neg (by omega),List.drop_of_length_le (by omega)]; simp
 | n + 1,k + 1,i,b,hi,hk=>by
  have hi' : i < r.1.f7.length:=by omega
  rw [fV.l1,if_pos (by omega),if_pos (show 0 ≤ (i : Int)∧(i : Int) < (r.1.f7.length : Int) by omega),gv (by omega),List.drop_eq_getElem_cons hi',fa hi']
  simp only [lt]
  cases b
  ·simp only [Bool.false_eq_true,if_false,Option.bind_some]
   rw [wR r x hl n k (i + 1) _ (by omega) (by omega),Bool.false_or,List.any_cons]
  ·simp only [if_true,Option.bind_some]
   rw [wR r x hl n k (i + 1) _ (by omega) (by omega)]
   simp
def jd (s : aJ) (kind : Int) (i : Nat) : Bool :=
 if kind = 0∧(i : Int) = s.f2 then true else if kind = 2 ∨ (kind = 1∧(i : Int) = s.f2) then false else s.f7.any fun t=>decide (t = (i : Int))
theorem DG (s : aJ) (kind : Int) (w : Nat) (e0 : s.f0.f0 = (w : Int)) (hw : w ≤ 512) (hl : s.f7.length ≤ 1048576) : ∀ (n k i : Nat),i + n = w → n + 1048580 < k →
  fV.l0 kind (s,true) k (((List.range i).filter (jd s kind)).map fun j=>((j : Nat) : Int)) (i : Int) = some (((List.range w).filter (jd s kind)).map fun j=>((j : Nat) : Int))
 | _,0,_,_,hk=>by omega
 | 0,k + 1,i,hi,hk=>by
  rw [fV.l0,if_neg (by show ¬ (i : Int) < s.f0.f0; omega),show i = w from by omega]
 | n + 1,k + 1,i,hi,hk=>by
  have hlen : (((List.range i).filter (jd s kind)).map fun j=>((j : Nat) : Int)).length ≤ i:=by
   rw [List.length_map]
   have:=List.length_filter_le (jd s kind) (List.range i)
   simp at this ⊢; exact this
  have hb:=wR (s,true) (i : Int) hl s.f7.length k 0 false (by show 0 + s.f7.length = s.f7.length; omega) (by omega)
  rw [fV.l0,if_pos (by show (i : Int) < s.f0.f0; omega),show fV.l1 (s,true) (i : Int) k false 0 = _ from hb,gv (by omega)]
  simp only [Option.bind_some,lt,Bool.false_or]
  rw [show (s,true).1.f7.drop 0 = s.f7 from rfl]
  have hst : ∀ G : Bool → Option (List Int),((if kind = 2 then (some true) else (if kind = 1 then (some (decide ((i : Int) = s.f2))) else (some false)) : Option Bool).bind (fun d=>(if d = true then (some false) else (some (s.f7.any fun t=>decide (t = (i : Int)))) : Option (Bool)).bind (fun h=>(if (decide (kind = 0) && decide ((i : Int) = s.f2)) = true then (some true) else (some h) : Option (Bool)).bind G))) = G (jd s kind i):=fun G=>by
   unfold jd
   by_cases a : kind = 0
   ·by_cases c1 : (i : Int) = s.f2 <;> simp [a,c1]
   ·by_cases b : kind = 1
    ·by_cases c1 : (i : Int) = s.f2 <;> simp [b,c1]
    ·by_cases c : kind = 2
     ·simp [c]
     ·simp [a,b,c]
  rw [hst]
  have ih:=DG s kind w e0 hw hl n k (i + 1) (by omega) (by omega)
  rw [List.range_succ,List.filter_append,List.map_append] at ih
  cases hs : jd s kind i
  ·simp only [Bool.false_eq_true,if_false]
   rw [show List.filter (jd s kind) [i] = [] from by simp [hs],List.map_nil,List.append_nil] at ih
   exact ih
  ·simp only [if_true]
   rw [if_pos (by rw [List.length_singleton]; omega)]
   rw [show List.filter (jd s kind) [i] = [i] from by simp [hs]] at ih
   exact ih
theorem Bp (s : aJ) (hs : Sg s) (kind : Int) (k : Nat) (hk : 40000000000000 ≤ k) : fV.f k s kind = some (fF s (qk s kind)):=by
 unfold fV.f fF
 rw [rP s hs k hk]
 cases hm : cx s
 ·simp
 ·have h:=iY hs hm
  obtain ⟨w,q,p,y,a,b,c',d,hl,hb⟩:=h.size
  have hc:=fp h
  have ht:=gu h.m
  have hp:=mN h.m
  simp only [Option.bind_some,if_true,Bool.not_true,Bool.false_eq_true,if_false,lt]
  by_cases l : kind < 0 ∨ kind > 2
  ·rw [if_pos (by simpa using l)]
   unfold qk lQ
   rw [if_neg (by omega),if_neg (by omega),if_neg (by omega)]
  ·rw [if_neg (by simpa using l)]
   have r:=DG s kind w p b (by omega) w k 0 (by omega) (by omega)
   rw [show fV.l0 kind (s,true) k [] 0 = _ from r]
   simp only [Option.bind_some]
   unfold qk
   congr 2
   rw [show ((List.range w).filter (jd s kind)).map (fun j=>((j : Nat) : Int)) = lQ s.f7 s.f2 kind from ?_]
   refine pq ?_ (qC hp.1) fun x=>?_
   ·rw [List.pairwise_map]
    refine List.Pairwise.filter _ ?_
    refine List.Pairwise.imp ?_ List.pairwise_lt_range
    intro a b hab; omega
   ·simp only [List.mem_map,List.mem_filter,List.mem_range]
    have hany : ∀ i : Nat,(s.f7.any fun t=>decide (t = (i : Int))) = true ↔ (i : Int) ∈ s.f7:=fun i=>by simp
    have key : ∀ i : Nat,jd s kind i = true ↔ (i : Int) ∈ lQ s.f7 s.f2 kind:=fun i=>by
     unfold jd lQ
     by_cases c : kind = 0
     ·rw [if_pos c,lI]
      by_cases c1 : (i : Int) = s.f2
      ·simp [c,c1]
      ·simp only [c,c1,and_false,if_false,false_or,show ¬ ((0 : Int) = 2 ∨ (0 : Int) = 1∧False) from by simp]
       exact hany i
     ·rw [if_neg c,if_neg (by rintro ⟨z,_⟩; exact c z)]
      by_cases o : kind = 1
      ·rw [if_pos o,List.mem_filter]
       by_cases c1 : (i : Int) = s.f2
       ·simp [o,c1]
       ·have hno : ¬ (kind = 2 ∨ kind = 1∧(i : Int) = s.f2):=fun z=>by
         rcases z with z | ⟨_,z⟩
         ·omega
         ·exact c1 z
        rw [if_neg hno,hany]
        simp [c1]
      ·rw [if_neg o,if_pos (show kind = 2 by omega),if_pos (.inl (by omega))]
       simp
    constructor
    ·rintro ⟨i,⟨_,hi⟩,rfl⟩; exact (key i).1 hi
    ·intro hx
     have u : 0 ≤ x∧x < (w : Int):=by
      rcases qB hx with z | z
      ·omega
      ·have:=hp.2 x z; omega
     exact ⟨x.toNat,⟨by omega,(key _).2 (by rw [show ((x.toNat : Nat) : Int) = x from by omega]; exact hx)⟩,by omega⟩
end Go.Proofs.YtckilbegmbaeeaaGreat.Z6Sc
namespace Go.Proofs.YtckilbegmbaeeaaGreat.Z6Sc
open Go Go.RowKit Go.Proofs.YtckilbegmbaeeaaGreat.SL Go.Proofs.YtckilbegmbaeeaaGreat.Z6 Go.Proofs.YtckilbegmbaeeaaGreat.Z6May Go.Proofs.YtckilbegmbaeeaaGreat.Z6Ls Go.Proofs.YtckilbegmbaeeaaGreat.Z6Op Go.Proofs.YtckilbegmbaeeaaGreat.Z6Sp
set_option linter.unusedVariables false
set_option linter.unusedSimpArgs false
def me (w : Nat) : List Int:=(List.range' 1 ((w + 7) / 8 - 1)).map fun j=>((8 * j : Nat) : Int)
theorem Ds (w : Nat) (hw : w ≤ 512) : ∀ (m k i : Nat) (l : List Int),1 ≤ i → i + m = (w + 7) / 8 → l.length ≤ i → m < k → oA.l0 (w : Int) k l ((8 * i : Nat) : Int) = some (l ++ (List.range' i m).map fun j=>((8 * j : Nat) : Int))
 | _,0,_,_,_,_,_,hk=>by omega
 | 0,k + 1,i,l,a,hi,hl,hk=>by rw [oA.l0,if_neg (by omega)]; simp
 | m + 1,k + 1,i,l,a,hi,hl,hk=>by
  rw [oA.l0,if_pos (by omega),if_pos (by rw [List.length_singleton]; omega),eV (by omega) (by omega),show ((8 * i : Nat) : Int) + 8 = ((8 * (i + 1) : Nat) : Int) from by omega]
  simp only [lt]
  rw [Ds w hw m k (i + 1) _ (by omega) (by omega) (by simp; omega) (by omega),List.range'_succ,List.map_cons,List.append_assoc]
  rfl
theorem BJ (w : Nat) (h0 : 0 < w) (hw : w ≤ 512) (k : Nat) (hk : 100 ≤ k) : oA.f k (w : Int) = some (me w):=by
 unfold oA.f
 have:=Ds w hw ((w + 7) / 8 - 1) k 1 [] (by omega) (by omega) (by simp) (by omega)
 rw [show oA.l0 (w : Int) k [] 8 = _ from this]
 rfl
theorem Dt (w : Nat) (hw : w ≤ 512) : ∀ (m k i : Nat) (l : List Int),1 ≤ i → i + m = (w + 7) / 8 → l.length ≤ i → m < k → qE.l0 (w : Int) k l ((8 * i : Nat) : Int) = some (l ++ (List.range' i m).map fun j=>((8 * j : Nat) : Int))
 | _,0,_,_,_,_,_,hk=>by omega
 | 0,k + 1,i,l,a,hi,hl,hk=>by rw [qE.l0,if_neg (by omega)]; simp
 | m + 1,k + 1,i,l,a,hi,hl,hk=>by
  rw [qE.l0,if_pos (by omega),if_pos (by rw [List.length_singleton]; omega),eV (by omega) (by omega),show ((8 * i : Nat) : Int) + 8 = ((8 * (i + 1) : Nat) : Int) from by omega]
  simp only [lt]
  rw [Dt w hw m k (i + 1) _ (by omega) (by omega) (by simp; omega) (by omega),List.range'_succ,List.map_cons,List.append_assoc]
  rfl
theorem Ex (w : Nat) (h0 : 0 < w) (hw : w ≤ 512) (k : Nat) (hk : 100 ≤ k) : qE.f k (w : Int) = some (me w):=by
 unfold qE.f
 have:=Dt w hw ((w + 7) / 8 - 1) k 1 [] (by omega) (by omega) (by simp) (by omega)
 rw [show qE.l0 (w : Int) k [] 8 = _ from this]
 rfl
theorem ut {w : Nat} (h0 : 0 < w) : fq (w : Int) (-1) (me w) = true:=by
 rw [mM]
 unfold me
 refine ⟨?_,fun x hx=>?_⟩
 ·rw [List.pairwise_map]
  refine List.Pairwise.imp ?_ List.pairwise_lt_range'
  intro a b hab; omega
 ·simp only [List.mem_map,List.mem_range'] at hx
  obtain ⟨i,⟨j,hj,rfl⟩,rfl⟩:=hx
  constructor <;> omega
def plain : cM:=cM.mk (-1) (-1) false false false false false false false false
theorem sN : cn plain = true:=by decide
def AN (c r : Int) : aJ:=aJ.mk (bH.mk c r (List.replicate (c * r).toNat (eL plain))) 0 0 false plain 0 (r - 1) (me c.toNat) true false false false false true (dz.mk 0 0 false false plain) false (bH.mk 0 0 []) []
def xQ (c r : Int) : aJ × Int:=if eE c r = true then (AN c r,0) else (zS,2)
theorem lM {c r : Int} : eE c r = true ↔ ∃ w q : Nat,c = (w : Int)∧r = (q : Int)∧0 < w∧w ≤ 512∧0 < q∧q ≤ 512:=by
 unfold eE
 simp only [decide_eq_true_eq]
 constructor
 ·rintro ⟨a,b,c',d⟩; exact ⟨c.toNat,r.toNat,by omega,by omega,by omega,by omega,by omega,by omega⟩
 ·rintro ⟨w,q,rfl,rfl,a,b,c',d⟩; omega
theorem wW {c r : Int} {y : cM} (hy : cn y = true) (h : eE c r = true) : oa c r y = (bH.mk c r (List.replicate (c * r).toNat (eL y)),0):=by unfold oa; rw [h,hy]; rfl
theorem f8 (c r : Int) (k : Nat) (hk : 1100000 ≤ k) : F8.f k c r = some (xQ c r):=by
 have h : su.f = some plain:=rfl
 unfold F8.f xQ
 rw [h]
 simp only [Option.bind_some]
 rw [EC c r plain k hk]
 simp only [Option.bind_some]
 cases hs : eE c r
 ·have : oa c r plain = no:=by unfold oa; rw [hs]; rfl
  rw [this]; rfl
 ·obtain ⟨w,q,rfl,rfl,a,b,c',d⟩:=lM.1 hs
  rw [wW sN hs,BJ w a b k (by omega),eV (x:=(q : Int) - 1) (by omega) (by omega)]
  rfl
def xq (s : aJ) (c r : Int) : aJ :=
 { s with f0:=(dB s.f0 c r s.f4).1,f16:=(if s.f15 = true then (dB s.f16 c r s.f4).1 else s.f16),f1:=min s.f1 (r - 1),f2:=min s.f2 (c - 1),f3:=false,f5:=0,f6:=r - 1,f7:=me c.toNat,f14:=dz.mk (min s.f14.f0 (r - 1)) (min s.f14.f1 (c - 1)) false s.f14.f3 s.f14.f4 }
def kH (s : aJ) (c r : Int) : aJ × Int:=if (cx s && eE c r) = true then (xq s c r,0) else (zS,2)
theorem nl {g : bH} {c r : Int} {y : cM} (hg : ct g = true) (hy : cn y = true) (h : eE c r = true) : dB g c r y = (bH.mk c r (mI g.f2 g.f0.toNat c.toNat (min r g.f1).toNat 0 (List.replicate (c * r).toNat (eL y))),0):=by
 unfold dB; rw [hg,hy,h]; rfl
theorem oZ {s : aJ} (h : Ok s) (ha : s.f15 = true) : ct s.f16 = true∧s.f16.f0 = s.f0.f0∧s.f16.f1 = s.f0.f1:=by
 have:=h.m.alt
 unfold kT at this
 rw [if_pos ha] at this
 simp only [Bool.and_eq_true,decide_eq_true_eq] at this
 exact ⟨this.1.1,this.1.2,this.2⟩
theorem vp (s : aJ) (hs : Sg s) (c r : Int) (k : Nat) (hk : 40000000000000 ≤ k) : wt.f k s c r = some (kH s c r):=by
 unfold wt.f kH
 rw [f74 s hs k hk]
 cases hm : cx s
 ·rfl
 ·have h:=iY hs hm
  simp only [Option.bind_some,Bool.not_true,Bool.false_eq_true,if_false,Bool.true_and]
  rw [Ez s.f0 h.gr c r s.f4 k (by omega)]
  simp only [Option.bind_some]
  cases hz : eE c r
  ·have : dB s.f0 c r s.f4 = no:=by unfold dB; rw [hz]; simp
   rw [this]; rfl
  ·obtain ⟨w,q,rfl,rfl,a,b,c',d⟩:=lM.1 hz
   rw [nl h.m.g h.m.y hz,BO s h]
   simp only [Option.bind_some,ne_eq,not_true_eq_false,if_false,if_true]
   rw [zW s.f16 h.grm _ _ s.f4 k (by omega),BJ w a b k (by omega),eV (x:=(q : Int) - 1) (by omega) (by omega),eV (x:=(w : Int) - 1) (by omega) (by omega)]
   simp only [Option.bind_some,hP]
   unfold xq
   rw [nl h.m.g h.m.y hz]
   cases ha : s.f15
   ·simp [jG,ha]
   ·rw [nl (oZ h ha).1 h.m.y hz]
    simp [jG,ha]
theorem vu (s : aJ) (hs : Sg s) (c r : Int) (k : Nat) (hk : 40000000000000 ≤ k) : pZ.f k s c r = some (kH s c r):=by
 unfold pZ.f kH
 rw [rP s hs k hk]
 cases hm : cx s
 ·simp
 ·have h:=iY hs hm
  simp only [Option.bind_some,Bool.not_true,Bool.false_eq_true,if_false,if_true,Bool.true_and]
  rw [BM s.f0 h.gr c r s.f4 k (by omega)]
  simp only [Option.bind_some]
  cases hz : eE c r
  ·have : dB s.f0 c r s.f4 = no:=by unfold dB; rw [hz]; simp
   rw [this]; rfl
  ·obtain ⟨w,q,rfl,rfl,a,b,c',d⟩:=lM.1 hz
   rw [nl h.m.g h.m.y hz]
   simp only [ne_eq,not_true_eq_false,if_false,if_true]
   rw [BM s.f16 h.grm _ _ s.f4 k (by omega),Ex w a b k (by omega),eV (x:=(q : Int) - 1) (by omega) (by omega),eV (x:=(w : Int) - 1) (by omega) (by omega)]
   simp only [Option.bind_some,hP]
   unfold xq
   rw [nl h.m.g h.m.y hz]
   cases ha : s.f15
   ·simp [ha]
   ·rw [nl (oZ h ha).1 h.m.y hz]
    simp [ha]
theorem tS {s : aJ} (h : Ok s) {c r : Int} (hz : eE c r = true) : Ok (xq s c r):=by
 obtain ⟨w,q,rfl,rfl,a,b,c',d⟩:=lM.1 hz
 have p:=eO.1 h.m.p
 have p2:=eO.1 h.m.p2
 have hg:=nl h.m.g h.m.y hz
 have hm:=nY (g:=s.f0) (c:=(w : Int)) (r:=(q : Int)) (s:=s.f4) (by rw [hg])
 have u : (dB s.f0 (w : Int) (q : Int) s.f4).1.f0 = (w : Int)∧(dB s.f0 (w : Int) (q : Int) s.f4).1.f1 = (q : Int):=by rw [hg]; exact ⟨rfl,rfl⟩
 refine ⟨⟨hm,h.m.y,h.m.y2,Int.le_refl _,by show (0 : Int) ≤ (q : Int) - 1; omega,by show (q : Int) - 1 < (dB s.f0 (w : Int) (q : Int) s.f4).1.f1; omega,eO.2 ?_,eO.2 ?_,?_,?_,h.m.ti⟩,nX h.b,?_⟩
 ·show 0 ≤ min s.f1 ((q : Int) - 1)∧min s.f1 ((q : Int) - 1) < (dB s.f0 (w : Int) (q : Int) s.f4).1.f1∧0 ≤ min s.f2 ((w : Int) - 1)∧min s.f2 ((w : Int) - 1) < (dB s.f0 (w : Int) (q : Int) s.f4).1.f0∧(false = true → _)
  exact ⟨by omega,by omega,by omega,by omega,fun z=>by cases z⟩
 ·show 0 ≤ min s.f14.f0 ((q : Int) - 1)∧min s.f14.f0 ((q : Int) - 1) < (dB s.f0 (w : Int) (q : Int) s.f4).1.f1∧0 ≤ min s.f14.f1 ((w : Int) - 1)∧min s.f14.f1 ((w : Int) - 1) < (dB s.f0 (w : Int) (q : Int) s.f4).1.f0∧(false = true → _)
  exact ⟨by omega,by omega,by omega,by omega,fun z=>by cases z⟩
 ·show fq (dB s.f0 (w : Int) (q : Int) s.f4).1.f0 (-1) (me ((w : Int)).toNat) = true
  rw [u.1,Int.toNat_natCast]; exact ut a
 ·unfold kT
  show (if s.f15 = true then _ else _) = true
  cases ha : s.f15
  ·have:=h.m.alt
   unfold kT at this
   simp only [ha,Bool.false_eq_true,if_false] at this ⊢
   simp only [xq,ha,Bool.false_eq_true,if_false]
   exact this
  ·have l:=oZ h ha
   have j:=nl l.1 h.m.y hz
   have o:=nY (g:=s.f16) (c:=(w : Int)) (r:=(q : Int)) (s:=s.f4) (by rw [j])
   simp only [xq,ha,if_true]
   rw [o,j,hg]
   simp
 ·intro x hx
  simp only [xq] at hx
  split at hx
  ·exact nX h.b2 x hx
  ·exact h.b2 x hx
def dD (s : aJ) (d : qG) : aJ × Int :=
 if d.f0 = 0 then fF s (ln s (IntKind.i32.wrap d.f1)) else if d.f0 = 1 then fF s (iW s (IntKind.i32.wrap d.f1)) else if d.f0 = 2 then fF s (nO s d.f1 d.f2)
 else if d.f0 = 3 then fF s (kG s d.f1 d.f2) else if d.f0 = 4 then fF s (lk s d.f3 d.f1) else if d.f0 = 5 then fF s (lm s d.f1) else if d.f0 = 6 then fF s (mP s d.f1)
 else if d.f0 = 7 then fF s (mw s d.f1) else if d.f0 = 8 then fF s (jN s d.f1 d.f2) else if d.f0 = 9 then fF s (ll s d.f3) else if d.f0 = 10 then fF s (nh s d.f3 d.f1 (decide (d.f2 > 0)))
 else if d.f0 = 11 then fF s (qk s d.f1) else if d.f0 = 12 then fF s (oE s d.f1) else kH s d.f1 d.f2
theorem mQ {s t : aJ} (hs : Sg s) {F : aJ → Option aJ} (hF : Ok s → F s = some t) (k : Nat) (hk : 40000000000000 ≤ k) :
  (eF.f k s).bind (fun r10=>if (!r10) = true then (some ((zS,(2 : Int)))) else ((lE.f s).bind (fun r16=>(F r16).bind (fun r29=>some ((r29,0)))))) = some (fF s t):=by
 rw [f74 s hs k hk]
 cases hm : cx s
 ·simp [fF,hm]
 ·have h:=iY hs hm
  simp only [Option.bind_some,Bool.not_true,Bool.false_eq_true,if_false]
  rw [BO s h]
  simp only [Option.bind_some]
  rw [hF h]
  simp [fF,hm]
theorem mc (r : Option (aJ × Int)) : r.bind (fun r11=>some ((r11.1,r11.2))) = r:=by cases r <;> rfl
theorem mS (r : Option aJ) : r.bind (fun r11=>some r11) = r:=by cases r <;> rfl
theorem GL (s : aJ) (hs : Sg s) (c : Int) (k : Nat) (hk : 40000000000000 ≤ k) : uH.f k s c = some (fF s (ln s c)):=by
 unfold uH.f; rw [mc]; unfold iu.f jY.f; simp only [mS]; exact mQ hs (F:=fun x=>iJ.f k x c) (fun h=>xi s h c k (by omega)) k hk
theorem GM (s : aJ) (hs : Sg s) (c : Int) (k : Nat) (hk : 40000000000000 ≤ k) : we.f k s c = some (fF s (iW s c)):=by
 unfold we.f; rw [mc]; unfold iv.f jZ.f; simp only [mS]; exact mQ hs (F:=fun x=>iK.f k x c) (fun h=>tX s h c k (by omega)) k hk
theorem GN (s : aJ) (hs : Sg s) (a b : Int) (k : Nat) (hk : 40000000000000 ≤ k) : wg.f k s a b = some (fF s (nO s a b)):=by
 unfold wg.f; rw [mc]; unfold gS.f ka.f; simp only [mS]; exact mQ hs (F:=fun x=>iL.f x a b) (fun h=>yO s h a b) k hk
theorem GO (s : aJ) (hs : Sg s) (a b : Int) (k : Nat) (hk : 40000000000000 ≤ k) : wh.f k s a b = some (fF s (kG s a b)):=by
 unfold wh.f; rw [mc]; unfold gT.f kb.f; simp only [mS]; exact mQ hs (F:=fun x=>fB.f x a b) (fun h=>by
  obtain ⟨w,q,c,d,_,_,_,_,_,_⟩:=h.size
  exact rl s (by omega) (by omega) (by omega) (by omega) h.m.t0 h.m.t1 h.m.t2 a b) k hk
theorem GQ (s : aJ) (hs : Sg s) (l : Bool) (a : Int) (k : Nat) (hk : 40000000000000 ≤ k) : wi.f k s l a = some (fF s (lk s l a)):=by
 unfold wi.f; rw [mc]; unfold gU.f kc.f; simp only [mS]; exact mQ hs (F:=fun x=>iM.f k x l a) (fun h=>vn s h l a k (by omega)) k hk
theorem GR (s : aJ) (hs : Sg s) (a : Int) (k : Nat) (hk : 40000000000000 ≤ k) : wj.f k s a = some (fF s (lm s a)):=by
 unfold wj.f; rw [mc]; unfold iw.f ke.f; simp only [mS]; exact mQ hs (F:=fun x=>iN.f k x a) (fun h=>xh s h a k (by omega)) k hk
theorem GT (s : aJ) (hs : Sg s) (a : Int) (k : Nat) (hk : 40000000000000 ≤ k) : wk.f k s a = some (fF s (mP s a)):=by
 unfold wk.f; rw [mc]; unfold ix.f kf.f; simp only [mS]; exact mQ hs (F:=fun x=>iO.f k x a) (fun h=>xf s h a k (by omega)) k hk
theorem GU (s : aJ) (hs : Sg s) (a : Int) (k : Nat) (hk : 40000000000000 ≤ k) : wm.f k s a = some (fF s (mw s a)):=by
 unfold wm.f; rw [mc]; unfold iy.f kg.f; simp only [mS]; exact mQ hs (F:=fun x=>iP.f k x a) (fun h=>vq s h a k (by omega)) k hk
theorem GV (s : aJ) (hs : Sg s) (a b : Int) (k : Nat) (hk : 40000000000000 ≤ k) : wn.f k s a b = some (fF s (jN s a b)):=by
 unfold wn.f; rw [mc]; unfold gV.f ki.f; simp only [mS]; exact mQ hs (F:=fun x=>iQ.f x a b) (fun h=>vo s h a b) k hk
theorem GW (s : aJ) (hs : Sg s) (b : Bool) (k : Nat) (hk : 40000000000000 ≤ k) : wb.f k s b = some (fF s (ll s b)):=by
 unfold wb.f; rw [mc]; unfold ir.f jX.f; simp only [mS]; exact mQ hs (F:=fun x=>fM.f x b) (fun h=>tZ s b) k hk
theorem Bl (s : aJ) (hs : Sg s) (p : Bool) (a : Int) (b : Bool) (k : Nat) (hk : 40000000000000 ≤ k) : wo.f k s p a b = some (fF s (nh s p a b)):=by
 unfold wo.f; rw [mc]; unfold gx.f kj.f; simp only [mS]; exact mQ hs (F:=fun x=>iR.f k x p a b) (fun h=>yN s h p a b k (by omega)) k hk
theorem Bm (s : aJ) (hs : Sg s) (a : Int) (k : Nat) (hk : 40000000000000 ≤ k) : wq.f k s a = some (fF s (qk s a)):=by
 unfold wq.f; rw [mc]; unfold iz.f ko.f; simp only [mS]; exact mQ hs (F:=fun x=>iS.f k x a) (fun h=>Bo s h a k (by omega)) k hk
theorem Bn (s : aJ) (hs : Sg s) (a : Int) (k : Nat) (hk : 40000000000000 ≤ k) : ws.f k s a = some (fF s (oE s a)):=by
 unfold ws.f; rw [mc]; unfold iA.f kp.f; simp only [mS]; exact mQ hs (F:=fun x=>iT.f k x a) (fun h=>yQ s h a k (by omega)) k hk
theorem di {α : Type} {c : Prop} [Decidable c] {a b : α} : some (if c then a else b) = if c then some a else some b:=by split <;> rfl
theorem yF (s : aJ) (hs : Sg s) (d : qG) (k : Nat) (hk : 40000000000000 ≤ k) : uG.f k s d = some (dD s d):=by
 unfold uG.f dD
 simp only [mc,GL s hs _ k hk,GM s hs _ k hk,GN s hs _ _ k hk,GO s hs _ _ k hk,GQ s hs _ _ k hk,GR s hs _ k hk,GT s hs _ k hk,GU s hs _ k hk,GV s hs _ _ k hk,GW s hs _ k hk,Bl s hs _ _ _ k hk,Bm s hs _ k hk,Bn s hs _ k hk,vp s hs _ _ k hk]
 rw [di,di,di,di,di,di,di,di,di,di,di,di,di]
theorem yR (s : aJ) (hs : Sg s) (d : qG) (hd : d.f1 ≤ 9223372036854775807) (k : Nat) (hk : 40000000000000 ≤ k) : pN.f k s d = some (dD s d):=by
 unfold pN.f dD
 simp only [mc,xp s hs _ k hk,uc s hs _ k hk,yU s hs _ _ k hk,rq s hs _ _ k hk,vr s hs _ _ k hk,xo s hs _ hd k hk,xm s hs _ k hk,ui s hs _ k hk,vt s hs _ _ k hk,uf s hs _ k hk,yT s hs _ _ _ k hk,Bp s hs _ k hk,yW s hs _ k hk,vu s hs _ _ k hk]
 rw [di,di,di,di,di,di,di,di,di,di,di,di,di]
theorem xP {s : aJ} (h : Ok s) (d : qG) : ((dD s d).2 = 0∧Ok (dD s d).1) ∨ ((dD s d).2 = 2∧(dD s d).1 = zS∧d.f0 ≠ 0∧d.f0 ≠ 1∧d.f0 ≠ 2∧d.f0 ≠ 3∧d.f0 ≠ 4∧d.f0 ≠ 5∧d.f0 ≠ 6∧d.f0 ≠ 7∧d.f0 ≠ 8∧d.f0 ≠ 9∧d.f0 ≠ 10∧d.f0 ≠ 11∧d.f0 ≠ 12):=by
 have hr : ∀ t,Ok t → (fF s t).2 = 0∧Ok (fF s t).1:=fun t ht=>by unfold fF; rw [if_pos h.may]; exact ⟨rfl,ht⟩
 unfold dD
 by_cases c0 : d.f0 = 0
 ·rw [if_pos c0]; exact .inl (hr _ (vl h _))
 rw [if_neg c0]
 by_cases c1 : d.f0 = 1
 ·rw [if_pos c1]; exact .inl (hr _ (sJ h _))
 rw [if_neg c1]
 by_cases c2 : d.f0 = 2
 ·rw [if_pos c2]; exact .inl (hr _ (xd h _ _))
 rw [if_neg c2]
 by_cases c3 : d.f0 = 3
 ·rw [if_pos c3]; exact .inl (hr _ (pn h _ _))
 rw [if_neg c3]
 by_cases c4 : d.f0 = 4
 ·rw [if_pos c4]; exact .inl (hr _ (vj h _ _))
 rw [if_neg c4]
 by_cases j : d.f0 = 5
 ·rw [if_pos j]; exact .inl (hr _ (vk h _))
 rw [if_neg j]
 by_cases l : d.f0 = 6
 ·rw [if_pos l]; exact .inl (hr _ (vi h _))
 rw [if_neg l]
 by_cases m : d.f0 = 7
 ·rw [if_pos m]; exact .inl (hr _ (tT h _))
 rw [if_neg m]
 by_cases o : d.f0 = 8
 ·rw [if_pos o]; exact .inl (hr _ (tR h _ _))
 rw [if_neg o]
 by_cases p : d.f0 = 9
 ·rw [if_pos p]; exact .inl (hr _ (nT h _))
 rw [if_neg p]
 by_cases a : d.f0 = 10
 ·rw [if_pos a]; exact .inl (hr _ (xb h _ _ _))
 rw [if_neg a]
 by_cases b : d.f0 = 11
 ·rw [if_pos b]; exact .inl (hr _ (yy h _))
 rw [if_neg b]
 by_cases c : d.f0 = 12
 ·rw [if_pos c]; exact .inl (hr _ (xe h _))
 rw [if_neg c]
 unfold kH
 by_cases hz : eE d.f1 d.f2 = true
 ·rw [if_pos (by rw [h.may,hz]; rfl)]; exact .inl ⟨rfl,tS h hz⟩
 ·rw [if_neg (by rw [Bool.and_eq_true]; exact fun q=>hz q.2)]; exact .inr ⟨rfl,rfl,c0,c1,c2,c3,c4,j,l,m,o,p,a,b,c⟩
structure Big (s : aJ) : Prop where
 g : s.f0.f2.length ≤ 2932031007402
 m : s.f16.f2.length ≤ 2932031007402
 t : s.f7.length ≤ 17592186044416
 u : s.f17.length ≤ 35184372088832
theorem Ok.big {s : aJ} (h : Ok s) : Big s:=by
 obtain ⟨w,q,_,_,_,_,_,_,hl,hb⟩:=h.size
 have a:=nv h.m
 have h2:=gu h.m
 have b:=jP h.m
 exact ⟨by omega,by omega,by omega,by omega⟩
theorem uy : Big zS:=⟨by decide,by decide,by decide,by decide⟩
theorem yj (a b : aJ) (h : a.f7.length = b.f7.length) (hl : a.f7.length < 4611686018427387904) : ∀ (m k i : Nat),i + m = a.f7.length → m < k → db.l0 a b k (i : Int) = some (if a.f7.drop i = b.f7.drop i then Out.go () else Out.ret false)
 | _,0,_,_,hk=>by omega
 | 0,k + 1,i,hi,hk=>by rw [db.l0,if_neg (by omega),List.drop_of_length_le (by omega),List.drop_of_length_le (by omega)]; simp
 | m + 1,k + 1,i,hi,hk=>by
  have c : i < a.f7.length:=by omega
  have h2 : i < b.f7.length:=by omega
  rw [db.l0,if_pos (by omega),if_pos (by omega),if_pos (by omega),fa c,fa h2,List.drop_eq_getElem_cons c,List.drop_eq_getElem_cons h2]
  by_cases he : a.f7[i] = b.f7[i]
  ·rw [if_neg (by simpa using he),gv (by omega)]
   simp only [lt]
   rw [yj a b h hl m k (i + 1) (by omega) (by omega)]
   simp only [List.cons.injEq,he,true_and]
  ·rw [if_pos he,if_neg (by intro q; exact he (List.cons.inj q).1)]
theorem yk (a b : aJ) (h : a.f17.length = b.f17.length) (hl : a.f17.length < 4611686018427387904) : ∀ (m k i : Nat),i + m = a.f17.length → m < k → db.l1 a b k (i : Int) = some (if a.f17.drop i = b.f17.drop i then Out.go () else Out.ret false)
 | _,0,_,_,hk=>by omega
 | 0,k + 1,i,hi,hk=>by rw [db.l1,if_neg (by omega),List.drop_of_length_le (by omega),List.drop_of_length_le (by omega)]; simp
 | m + 1,k + 1,i,hi,hk=>by
  have c : i < a.f17.length:=by omega
  have h2 : i < b.f17.length:=by omega
  rw [db.l1,if_pos (by omega),if_pos (by omega),if_pos (by omega),fa c,fa h2,List.drop_eq_getElem_cons c,List.drop_eq_getElem_cons h2]
  by_cases he : a.f17[i] = b.f17[i]
  ·rw [if_neg (by simpa using he),gv (by omega)]
   simp only [lt]
   rw [yk a b h hl m k (i + 1) (by omega) (by omega)]
   simp only [List.cons.injEq,he,true_and]
  ·rw [if_pos he,if_neg (by intro q; exact he (List.cons.inj q).1)]
theorem qv (a b : bH) : sh a b = decide (a = b):=by
 unfold sh
 obtain ⟨c,d,h⟩:=a
 obtain ⟨j,l,m⟩:=b
 rw [Bool.eq_iff_iff]; simp
def yb (a b : aJ) : Prop:=a.f1 = b.f1∧a.f2 = b.f2∧a.f3 = b.f3∧a.f4 = b.f4∧a.f5 = b.f5∧a.f6 = b.f6∧a.f8 = b.f8∧a.f9 = b.f9∧a.f10 = b.f10∧a.f11 = b.f11∧a.f12 = b.f12∧a.f13 = b.f13∧a.f14 = b.f14∧a.f15 = b.f15
theorem tr {a b : aJ} : a = b ↔ a.f0 = b.f0∧a.f16 = b.f16∧a.f7 = b.f7∧a.f17 = b.f17∧yb a b:=by
 constructor
 ·rintro rfl; exact ⟨rfl,rfl,rfl,rfl,rfl,rfl,rfl,rfl,rfl,rfl,rfl,rfl,rfl,rfl,rfl,rfl,rfl,rfl⟩
 ·rintro ⟨q,o,D,p,r,s,u,y,z,B,E,F,c,d,h,j,l,m⟩
  obtain ⟨⟩:=a; obtain ⟨⟩:=b
  simp only at q o D p r s u y z B E F c d h j l m
  subst q o D p r s u y z B E F c d h j l m
  rfl
theorem f10 (a b : aJ) (h : Big a) (k : Nat) (hk : 40000000000000 ≤ k) : db.f k a b = some (decide (a = b)):=by
 have y:=h.g; have h2:=h.m; have z:=h.t; have B:=h.u
 unfold db.f
 rw [BK a.f0 b.f0 (by omega) k (by omega),BK a.f16 b.f16 (by omega) k (by omega),qv,qv]
 simp only [Option.bind_some,lt]
 by_cases d : a.f0 = b.f0
 ·by_cases c : a.f16 = b.f16
  ·by_cases p : a.f7.length = b.f7.length
   ·by_cases l : a.f17.length = b.f17.length
    ·have s:=yj a b p (by omega) a.f7.length k 0 (by omega) (by omega)
     have r:=yk a b l (by omega) a.f17.length k 0 (by omega) (by omega)
     rw [List.drop_zero,List.drop_zero] at s r
     simp only [d,c,decide_true,Bool.not_true,Bool.false_eq_true,if_false,Option.bind_some,p,l,ne_eq,not_true_eq_false,decide_false,Bool.or_self]
     rw [show db.l0 a b k 0 = _ from s,show db.l1 a b k 0 = _ from r]
     by_cases o : a.f7 = b.f7
     ·rw [if_pos o]
      simp only [Option.bind_some,jG]
      by_cases j : a.f17 = b.f17
      ·rw [if_pos j]
       simp only [Option.bind_some,jG]
       congr 1
       rw [Bool.eq_iff_iff]
       simp only [Bool.and_eq_true,decide_eq_true_eq,tr (a:=a) (b:=b),d,c,o,j,true_and,yb,and_assoc]
      ·rw [if_neg j]
       have : a ≠ b:=fun q=>j (by rw [q])
       simp [ku,this]
     ·rw [if_neg o]
      have : a ≠ b:=fun q=>o (by rw [q])
      simp [ku,this]
    ·have : a ≠ b:=fun q=>l (by rw [q])
     have l17' : ¬ ((a.f17.length : Int) = (b.f17.length : Int)):=by omega
     simp [d,c,p,l17',this]
   ·have : a ≠ b:=fun q=>p (by rw [q])
    have l7' : ¬ ((a.f7.length : Int) = (b.f7.length : Int)):=by omega
    simp [d,c,l7',this]
  ·have : a ≠ b:=fun q=>c (by rw [q])
   simp [d,c,this]
 ·have : a ≠ b:=fun q=>d (by rw [q])
  simp [d,this]
theorem f14 (k : Nat) (hk : 1000 ≤ k) : sZ.f k = some true:=by
 obtain ⟨j,rfl⟩ : ∃ j,k = j + 900:=⟨k - 900,by omega⟩
 kernel_rfl
end Go.Proofs.YtckilbegmbaeeaaGreat.Z6Sc

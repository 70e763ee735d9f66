import Derived.Test.YtckilbegmbaeeaaGreatZ3May
import Derived.Test.YtckilbegmbaeeaaGreatZ3Ls
namespace Go.Proofs.YtckilbegmbaeeaaGreat.Z3Op
open Go Go.RowKit Go.Proofs.YtckilbegmbaeeaaGreat.SL Go.Proofs.YtckilbegmbaeeaaGreat.Z3 Go.Proofs.YtckilbegmbaeeaaGreat.Z3May Go.Proofs.YtckilbegmbaeeaaGreat.Z3Ls
set_option linter.unusedVariables false
set_option linter.unusedSimpArgs false
def eA (s : cA) : aZ:=aZ.mk 32 (fR.mk 0 0 0) 1 (cA.mk (-1) s.f1 false false false false false false false false)
theorem wU (s : cA) : oo.f s = some (eA s):=rfl
theorem xD (s : cA) : pN.f s = some (eA s):=rfl
theorem gX {i : Nat} (h : i < 4611686018427387904) : IntKind.i64.wrap ((i : Int) + 1) = ((i + 1 : Nat) : Int):=by rw [eO (by omega) (by omega)]; rfl
theorem xM (X : List aZ) (o n : Nat) (b : aZ) (h : o + n ≤ X.length) (hb : X.length < 4611686018427387904) : ∀ (m k i : Nat),i + m = n → m < k →
  eT.l0 X (o : Int) (n : Int) b k (i : Int) (bo X o (List.replicate i b)) = some (bo X o (List.replicate n b))
 | 0,0,_,_,hk=>by omega
 | 0,k + 1,i,hi,hk=>by
  rw [eT.l0,if_pos (by rw [aM (by simp; omega)]),if_neg (by omega)]
  rw [show i = n from by omega]
 | m + 1,0,_,_,hk=>by omega
 | m + 1,k + 1,i,hi,hk=>by
  rw [eT.l0,if_pos (by rw [aM (by simp; omega)]),if_pos (by omega),if_pos (by omega)]
  simp only [lt]
  rw [gX (by omega)]
  have e : ((o : Int) + (i : Int)).toNat = o + (List.replicate i b).length:=by simp; omega
  rw [e,jt (by simp; omega),← List.replicate_succ']
  exact xM X o n b h hb m k (i + 1) (by omega) (by omega)
theorem ul (X : List aZ) (o n : Nat) (s : cA) (h : o + n ≤ X.length) (hb : X.length < 4611686018427387904) (k : Nat) (hk : n < k) :
  eT.f k X (o : Int) (n : Int) s = some (bo X o (List.replicate n (eA s))):=by
 unfold eT.f
 rw [if_pos (by omega),wU]
 have:=xM X o n (eA s) h hb n k 0 (by omega) hk
 rw [List.replicate_zero,jF] at this
 simp only [Option.bind_some]
 rw [show (0 : Int) = ((0 : Nat) : Int) from rfl,this]
 simp only [Option.bind_some]
 rw [if_pos (aM (by simp; omega))]
def nz (W : List aZ) (i : Int) (w : Int) (s : cA) : Bool:=decide (0 ≤ i∧i < (W.length : Int)∧(rd W i).f2 = w∧(rd W i).f3 = s)
def iM (W : List aZ) (i : Nat) : Bool :=
 (decide ((rd W (i : Int)).f2 = 2) && !nz W ((i : Int) + 1) 0 (rd W (i : Int)).f3) || (decide ((rd W (i : Int)).f2 = 0) && !nz W ((i : Int) - 1) 2 (rd W (i : Int)).f3)
def ef (W : List aZ) (i : Nat) : aZ:=if iM W i = true then eA (rd W (i : Int)).f3 else rd W (i : Int)
def ce (W : List aZ) : List aZ:=(List.range W.length).map (ef W)
theorem cB {W : List aZ} : (ce W).length = W.length:=by simp [ce]
theorem my {W : List aZ} {i : Nat} (h : i < W.length) : rd (ce W) (i : Int) = ef W i:=by
 refine lC (by omega) ?_
 rw [Int.toNat_natCast,ce,List.getElem?_map,List.getElem?_range h]; rfl
theorem xK (a w : Int) (s : cA) (Z : List aZ) (o n : Nat) (h : o + n ≤ Z.length) :
  iu.f a w s Z (o : Int) (n : Int) = some (decide (0 ≤ a∧a < (n : Int)∧(rd Z ((o : Int) + a)).f2 = w∧(rd Z ((o : Int) + a)).f3 = s)):=by
 unfold iu.f
 rw [if_pos (by omega)]
 by_cases h1 : a ≥ 0
 ·rw [if_pos h1]
  by_cases h2 : a < (n : Int)
  ·rw [if_pos h2,if_pos (by omega)]
   by_cases h3 : (rd Z ((o : Int) + a)).f2 = w
   ·rw [if_pos h3,if_pos (by omega)]
    simp only [show (0 : Int) ≤ a from h1,h2,h3,true_and]
   ·rw [if_neg h3]; simp [h3]
  ·rw [if_neg h2]; simp [h2]
 ·rw [if_neg h1]
  have : ¬ (0 : Int) ≤ a:=by omega
  simp [this]
theorem yQ {W : List aZ} {i : Nat} (hi : i < W.length) (h0 : 0 < i) (h2 : (rd W (i : Int)).f2 = 0) :
  ((ef W (i - 1)).f2 = 2∧(ef W (i - 1)).f3 = (rd W (i : Int)).f3) ↔ ((rd W (((i - 1 : Nat)) : Int)).f2 = 2∧(rd W ((i - 1 : Nat) : Int)).f3 = (rd W (i : Int)).f3):=by
 unfold ef
 by_cases hb : iM W (i - 1) = true
 ·rw [if_pos hb]
  constructor
  ·rintro ⟨h,_⟩; simp [eA] at h
  ·rintro ⟨h,h'⟩
   exfalso
   unfold iM at hb
   rw [show (((i - 1 : Nat) : Int) + 1) = (i : Int) from by omega] at hb
   simp [h,nz,hi,h2,h'] at hb
 ·rw [if_neg hb]
theorem Cd (X : List aZ) (o n : Nat) (h : o + n ≤ X.length) (hb : X.length < 4611686018427387904) (W : List aZ) (hW : W = win X o n) : ∀ (m k i : Nat),i + m = n → m < k →
  dW.l0 X (o : Int) (n : Int) k (i : Int) (bo X o ((ce W).take i)) = some (bo X o (ce W))
 | 0,0,_,_,hk=>by omega
 | 0,k + 1,i,hi,hk=>by
  have hl : W.length = n:=by rw [hW]; exact dE h
  have ht : ((ce W).take i).length = i:=by rw [List.length_take,cB]; omega
  rw [dW.l0,if_pos (aM (by omega)),if_neg (by omega),List.take_of_length_le (by rw [cB]; omega)]
 | m + 1,0,_,_,hk=>by omega
 | m + 1,k + 1,i,hi,hk=>by
  have hl : W.length = n:=by rw [hW]; exact dE h
  have ht : ((ce W).take i).length = i:=by rw [List.length_take,cB]; omega
  have hZ : (bo X o ((ce W).take i)).length = X.length:=aM (by omega)
  have hrd : ∀ j : Nat,i ≤ j → j < n → rd (bo X o ((ce W).take i)) ((o : Int) + (j : Int)) = rd W (j : Int):=fun j h1 h2=>by
   rw [show (o : Int) + (j : Int) = ((o + j : Nat) : Int) from by omega,oG (by omega) (by omega),hW,lU h2 h]; congr 1
  have hbf : ∀ j : Nat,j < i → rd (bo X o ((ce W).take i)) ((o : Int) + (j : Int)) = ef W j:=fun j h1=>by
   rw [show (o : Int) + (j : Int) = ((o + j : Nat) : Int) from by omega,rh (by omega) (by omega)]
   refine lC (by omega) ?_
   rw [Int.toNat_natCast,List.getElem?_take,if_pos h1,ce,List.getElem?_map,List.getElem?_range (by omega)]; rfl
  rw [dW.l0,if_pos hZ,if_pos (by omega),if_pos (by omega)]
  rw [hrd i (Nat.le_refl _) (by omega),gX (by omega)]
  have e1 : iu.f ((i + 1 : Nat) : Int) 0 (rd W (i : Int)).f3 (bo X o ((ce W).take i)) (o : Int) (n : Int) = some (nz W ((i : Int) + 1) 0 (rd W (i : Int)).f3):=by
   rw [xK _ _ _ _ _ _ (by omega),nz,hl]
   congr 1
   by_cases hc : i + 1 < n
   ·rw [hrd (i + 1) (by omega) hc]; rfl
   ·simp [show ¬ ((i : Int) + 1 < (n : Int)) from by omega]
  have e2 : (rd W (i : Int)).f2 = 0 → iu.f (IntKind.i64.wrap ((i : Int) - 1)) 2 (rd W (i : Int)).f3 (bo X o ((ce W).take i)) (o : Int) (n : Int) = some (nz W ((i : Int) - 1) 2 (rd W (i : Int)).f3):=fun h0=>by
   rw [eO (by omega) (by omega),xK _ _ _ _ _ _ (by omega),nz,hl]
   congr 1
   by_cases hc : 0 < i
   ·have:=yQ (W:=W) (i:=i) (by omega) hc h0
    rw [show (i : Int) - 1 = ((i - 1 : Nat) : Int) from by omega,hbf (i - 1) (by omega)]
    simp only [this]
   ·obtain rfl : i = 0:=by omega
    simp
  have hcond : ((if (rd W (i : Int)).f2 = 2 then ((iu.f ((i + 1 : Nat) : Int) 0 (rd W (i : Int)).f3 (bo X o ((ce W).take i)) (o : Int) (n : Int)).bind (fun r16=>some (!r16))) else (some false) : Option Bool).bind (fun q14=>(if q14 = true then (some true) else (if (rd W (i : Int)).f2 = 0 then ((iu.f (IntKind.i64.wrap ((i : Int) - 1)) 2 (rd W (i : Int)).f3 (bo X o ((ce W).take i)) (o : Int) (n : Int)).bind (fun r22=>some (!r22))) else (some false)) : Option Bool))) = some (iM W i):=by
   unfold iM
   by_cases c2 : (rd W (i : Int)).f2 = 2
   ·rw [if_pos c2,e1]; simp only [Option.bind_some,c2]
    cases nz W ((i : Int) + 1) 0 (rd W (i : Int)).f3 <;> simp
   ·rw [if_neg c2]
    by_cases c0 : (rd W (i : Int)).f2 = 0
    ·simp only [Option.bind_some,c0,if_true,e2 c0]; simp
    ·simp [c2,c0]
  have hassoc:=congrArg (fun z : Option Bool=>z.bind (fun q19=>if q19 = true then ((oo.f (rd W (i : Int)).f3).bind (fun r266=>if (0 : Int) ≤ (i : Int)∧(i : Int) < (n : Int) then (lt ((bo X o ((ce W).take i)).set ((o : Int) + (i : Int)).toNat r266) fun n386=>(dW.l0 X (o : Int) (n : Int) k ((i + 1 : Nat) : Int) n386)) else none)) else (dW.l0 X (o : Int) (n : Int) k ((i + 1 : Nat) : Int) (bo X o ((ce W).take i))))) hcond
  simp only [Option.bind_assoc] at hassoc
  refine hassoc.trans ?_
  have hnext : bo X o ((ce W).take (i + 1)) = (if iM W i = true then (bo X o ((ce W).take i)).set (o + i) (eA (rd W (i : Int)).f3) else bo X o ((ce W).take i)):=by
   have hs : (ce W).take (i + 1) = (ce W).take i ++ [ef W i]:=jT (by omega)
   rw [hs]
   by_cases hbd : iM W i = true
   ·rw [if_pos hbd,ef,if_pos hbd]
    have:=jt (X:=X) (ys:=(ce W).take i) (o:=o) (y:=eA (rd W (i : Int)).f3) (by omega)
    rw [ht] at this; exact this.symm
   ·rw [if_neg hbd]
    refine oQ (by omega) ?_
    rw [ht,ef,if_neg hbd,hW,lU (by omega) h,show (o : Int) + (i : Int) = ((o + i : Nat) : Int) from by omega]
    exact iD (by omega)
  simp only [Option.bind_some]
  have ih:=Cd X o n h hb W hW m k (i + 1) (by omega) (by omega)
  rw [hnext] at ih
  by_cases hbd : iM W i = true
  ·rw [if_pos hbd,wU]
   simp only [Option.bind_some,lt]
   rw [if_pos (by omega),show ((o : Int) + (i : Int)).toNat = o + i from by omega]
   rw [if_pos hbd] at ih; exact ih
  ·rw [if_neg hbd]
   rw [if_neg hbd] at ih; exact ih
theorem xB (X : List aZ) (o n : Nat) (h : o + n ≤ X.length) (hb : X.length < 4611686018427387904) (k : Nat) (hk : n < k) : dW.f k X (o : Int) (n : Int) = some (bo X o (ce (win X o n))):=by
 have hl : (win X o n).length = n:=dE h
 have:=Cd X o n h hb _ rfl n k 0 (by omega) hk
 rw [List.take_zero,jF] at this
 unfold dW.f
 rw [if_pos (by omega),show (0 : Int) = ((0 : Nat) : Int) from rfl,this]
 simp only [Option.bind_some]
 rw [if_pos (aM (by rw [cB]; omega))]
end Go.Proofs.YtckilbegmbaeeaaGreat.Z3Op
namespace Go.Proofs.YtckilbegmbaeeaaGreat.Z3Op
open Go Go.RowKit Go.Proofs.YtckilbegmbaeeaaGreat.SL Go.Proofs.YtckilbegmbaeeaaGreat.Z3 Go.Proofs.YtckilbegmbaeeaaGreat.Z3May Go.Proofs.YtckilbegmbaeeaaGreat.Z3Ls
set_option linter.unusedVariables false
set_option linter.unusedSimpArgs false
set_option maxHeartbeats 2000000 in
theorem BU (X : List aZ) (o n : Nat) (h : o + n ≤ X.length) (hb : X.length < 4611686018427387904) (W : List aZ) (hW : W = win X o n) : ∀ (m k i : Nat),i + m = n → m < k →
  eD.l0 X (o : Int) (n : Int) W k (i : Int) (bo X o ((ce W).take i)) = some (bo X o (ce W))
 | 0,0,_,_,hk=>by omega
 | 0,k + 1,i,hi,hk=>by
  have hl : W.length = n:=by rw [hW]; exact dE h
  have ht : ((ce W).take i).length = i:=by rw [List.length_take,cB]; omega
  rw [eD.l0,if_pos (aM (by omega)),if_neg (by omega),List.take_of_length_le (by rw [cB]; omega)]
 | m + 1,0,_,_,hk=>by omega
 | m + 1,k + 1,i,hi,hk=>by
  have hl : W.length = n:=by rw [hW]; exact dE h
  have ht : ((ce W).take i).length = i:=by rw [List.length_take,cB]; omega
  have hZ : (bo X o ((ce W).take i)).length = X.length:=aM (by omega)
  have hnext : bo X o ((ce W).take (i + 1)) = (if iM W i = true then (bo X o ((ce W).take i)).set (o + i) (eA (rd W (i : Int)).f3) else bo X o ((ce W).take i)):=by
   have hs : (ce W).take (i + 1) = (ce W).take i ++ [ef W i]:=jT (by omega)
   rw [hs]
   by_cases hbd : iM W i = true
   ·rw [if_pos hbd,ef,if_pos hbd]
    have:=jt (X:=X) (ys:=(ce W).take i) (o:=o) (y:=eA (rd W (i : Int)).f3) (by omega)
    rw [ht] at this; exact this.symm
   ·rw [if_neg hbd]
    refine oQ (by omega) ?_
    rw [ht,ef,if_neg hbd,hW,lU (by omega) h,show (o : Int) + (i : Int) = ((o + i : Nat) : Int) from by omega]
    exact iD (by omega)
  have ih:=BU X o n h hb W hW m k (i + 1) (by omega) (by omega)
  rw [hnext] at ih
  have g1 : (0 : Int) ≤ (i : Int)∧(i : Int) < (W.length : Int):=by omega
  have g2 : (0 : Int) ≤ (i : Int)∧(i : Int) < (n : Int):=by omega
  have g3 : (i : Int) < (n : Int):=g2.2
  rw [eD.l0,if_pos hZ,if_pos g3,gX (by omega)]
  have hlast : ∀ bd : Bool,bd = iM W i → (if bd = true then (if (0 : Int) ≤ (i : Int)∧(i : Int) < (W.length : Int) then ((pN.f ((rd W (i : Int)).f3)).bind (fun r4308=>if (0 : Int) ≤ (i : Int)∧(i : Int) < (n : Int) then (lt ((bo X o ((ce W).take i)).set ((o : Int) + (i : Int)).toNat r4308) fun n4313=>(lt ((i + 1 : Nat) : Int) fun n4314=>eD.l0 X (o : Int) (n : Int) W k n4314 n4313)) else none)) else none) else (lt ((i + 1 : Nat) : Int) fun n4316=>eD.l0 X (o : Int) (n : Int) W k n4316 (bo X o ((ce W).take i)))) = some (bo X o (ce W)):=by
   rintro bd rfl
   by_cases hbd : iM W i = true
   ·rw [if_pos hbd,if_pos g1,xD]
    simp only [Option.bind_some,lt]
    rw [if_pos g2,show ((o : Int) + (i : Int)).toNat = o + i from by omega]
    rw [if_pos hbd] at ih; exact ih
   ·rw [if_neg hbd]
    simp only [lt]
    rw [if_neg hbd] at ih; exact ih
  have fin : ∀ (z : Option Bool),z = some (iM W i) → z.bind (fun t13=>(if t13 = true then (if (0 : Int) ≤ (i : Int)∧(i : Int) < (W.length : Int) then ((pN.f ((rd W (i : Int)).f3)).bind (fun r4308=>if (0 : Int) ≤ (i : Int)∧(i : Int) < (n : Int) then (lt ((bo X o ((ce W).take i)).set ((o : Int) + (i : Int)).toNat r4308) fun n4313=>(lt ((i + 1 : Nat) : Int) fun n4314=>eD.l0 X (o : Int) (n : Int) W k n4314 n4313)) else none)) else none) else (lt ((i + 1 : Nat) : Int) fun n4316=>eD.l0 X (o : Int) (n : Int) W k n4316 (bo X o ((ce W).take i))))) = some (bo X o (ce W)):=by
   rintro z rfl
   exact hlast _ rfl
  refine fin _ ?_
  clear fin hlast ih hnext
  have ep : 0 < i → IntKind.i64.wrap ((i : Int) - 1) = (i : Int) - 1:=fun _=>eO (by omega) (by omega)
  have es : ((i + 1 : Nat) : Int) = (i : Int) + 1:=by omega
  rw [if_pos g1,es]
  unfold iM nz
  by_cases c2 : (rd W (i : Int)).f2 = 2
  ·rw [if_pos c2]
   by_cases d1 : (i : Int) + 1 ≥ (n : Int)
   ·rw [if_pos d1]
    have : ¬ ((i : Int) + 1 < (W.length : Int)):=by omega
    simp [c2,this]
   ·have g4 : (0 : Int) ≤ (i : Int) + 1∧(i : Int) + 1 < (W.length : Int):=by omega
    rw [if_neg d1,if_pos g4]
    by_cases d2 : (rd W ((i : Int) + 1)).f2 = 0
    ·rw [if_neg (by simpa using d2),if_pos g4,if_pos g1]
     by_cases d3 : (rd W ((i : Int) + 1)).f3 = (rd W (i : Int)).f3
     ·rw [if_neg (by simpa using d3),if_pos g1,if_neg (by rw [c2]; decide)]
      simp [c2,d2,d3,g4]
     ·rw [if_pos d3]; simp [c2,d2,d3]
    ·rw [if_pos d2]; simp [c2,d2]
  ·rw [if_neg c2,if_pos g1]
   by_cases c0 : (rd W (i : Int)).f2 = 0
   ·rw [if_pos c0]
    by_cases d0 : i = 0
    ·subst d0
     have c0' : (rd W 0).f2 = 0:=c0
     simp [c0']
    ·have g5 : (0 : Int) ≤ (i : Int) - 1∧(i : Int) - 1 < (W.length : Int):=by omega
     rw [if_neg (by omega),ep (by omega),if_pos g5]
     by_cases d2 : (rd W ((i : Int) - 1)).f2 = 2
     ·rw [if_neg (by simpa using d2),if_pos g5,if_pos g1]
      simp [c0,d2,g5,show ¬ ((i : Int) < 1) from by omega]
     ·rw [if_pos d2]; simp [c0,d2]
   ·rw [if_neg c0]; simp [c0,c2]
theorem f90 (X : List aZ) (o n : Nat) (h : o + n ≤ X.length) (hb : X.length < 4611686018427387904) (hn : n ≤ 1048576) (k : Nat) (hk : n < k) : eD.f k X (o : Int) (n : Int) = some (bo X o (ce (win X o n))):=by
 have hl : (win X o n).length = n:=dE h
 have:=BU X o n h hb _ rfl n k 0 (by omega) hk
 rw [List.take_zero,jF] at this
 unfold eD.f
 rw [if_pos (by omega),ji,if_pos (by simp; omega)]
 simp only [lt,List.nil_append]
 rw [show (0 : Int) = ((0 : Nat) : Int) from rfl,this]
 simp only [Option.bind_some]
 rw [if_pos (aM (by rw [cB]; omega))]
theorem iC {X R : List aZ} {o n : Nat} (h : o + n ≤ X.length) (hR : R.length = n) : bo (bo X o R) o (ce (win (bo X o R) o n)) = bo X o (ce R):=by
 rw [kz hR h,nf (by rw [cB]) (by omega)]
theorem FG (X : List aZ) (o n a : Nat) (l : List aZ) (h : o + n ≤ X.length) (ha : a ≤ n) (hb : X.length < 4611686018427387904) (k : Nat) (hk : n < k) :
  ib.f k X (o : Int) (n : Int) (a : Int) l = some (bo X o (ce (bo (win X o n) a (l.take (n - a))))):=by
 have hw : (win X o n).length = n:=dE h
 have ht : (l.take (n - a)).length ≤ n - a:=by rw [List.length_take]; omega
 have hl1 : (bo (win X o n) a (l.take (n - a))).length = n:=by rw [aM (by omega),hw]
 unfold ib.f
 rw [if_pos (by omega),if_pos (by omega),show ((o : Int) + (a : Int)).toNat = o + a from by omega,show ((n : Int) - (a : Int)).toNat = n - a from by omega,gv (n:=n) (by omega) h]
 simp only [lt]
 have hZ : (bo X o (bo (win X o n) a (l.take (n - a)))).length = X.length:=aM (by omega)
 rw [xB _ o n (by omega) (by omega) k hk,iC h hl1]
 simp only [Option.bind_some]
 rw [if_pos (by rw [hZ,aM (by rw [cB]; omega)])]
theorem Gl (X : List aZ) (o n a b : Nat) (s : cA) (h : o + n ≤ X.length) (hab : a ≤ b) (hbn : b ≤ n) (hb : X.length < 4611686018427387904) (k : Nat) (hk : n < k) :
  ja.f k X (o : Int) (n : Int) (a : Int) (b : Int) s = some (bo X o (ce (bo (win X o n) a (List.replicate (b - a) (eA s))))):=by
 have hw : (win X o n).length = n:=dE h
 have hl1 : (bo (win X o n) a (List.replicate (b - a) (eA s))).length = n:=by rw [aM (by simp; omega),hw]
 unfold ja.f
 rw [if_pos (by omega),if_pos (by omega),show (o : Int) + (a : Int) = ((o + a : Nat) : Int) from by omega,show (b : Int) - (a : Int) = ((b - a : Nat) : Int) from by omega,ul X (o + a) (b - a) s (by omega) hb k (by omega)]
 simp only [Option.bind_some]
 rw [gv (n:=n) (by simp; omega) h]
 have hZ : (bo X o (bo (win X o n) a (List.replicate (b - a) (eA s)))).length = X.length:=aM (by omega)
 rw [if_pos hZ,xB _ o n (by omega) (by omega) k hk,iC h hl1]
 simp only [Option.bind_some]
 rw [if_pos (by rw [hZ,aM (by rw [cB]; omega)])]
theorem sh {X : List aZ} {o n e : Nat} {b : aZ} (h : o + n ≤ X.length) (he : e ≤ n) : bo (bo X o (win X (o + e) (n - e))) (o + (n - e)) (List.replicate e b) = bo X o (dC (win X o n) (e : Int) b):=by
 have hw : (win X o n).length = n:=dE h
 have hw2 : (win X (o + e) (n - e)).length = n - e:=dE (by omega)
 have e1 : win X (o + e) (n - e) = (win X o n).drop e:=by unfold win; rw [List.drop_take,List.drop_drop]
 have e2 : bo X o (win X (o + e) (n - e)) = bo X o (bo (win X o n) 0 (win X (o + e) (n - e))):=by
  have:=gv (X:=X) (ys:=win X (o + e) (n - e)) (o:=o) (a:=0) (n:=n) (by omega) h
  simpa using this
 have hl : (bo (win X o n) 0 (win X (o + e) (n - e))).length = n:=by rw [aM (by omega),hw]
 have hl2 : (bo (bo (win X o n) 0 (win X (o + e) (n - e))) (n - e) (List.replicate e b)).length = n:=by rw [aM (by rw [hl]; simp; omega),hl]
 rw [e2,gv (n:=n) (by simp; omega) (by rw [aM (by omega)]; exact h),kz hl h,nf (by rw [hl,hl2]) (by omega),e1]
 have:=tu (W:=win X o n) (e:=e) (b:=b) (by omega)
 rw [hw] at this
 rw [this]
theorem oX {X : List aZ} {o n e : Nat} {b : aZ} (h : o + n ≤ X.length) (he : e ≤ n) : bo (bo X (o + e) ((win X o n).take (n - e))) o (List.replicate e b) = bo X o (dC (win X o n) (-(e : Int)) b):=by
 have hw : (win X o n).length = n:=dE h
 have ht : ((win X o n).take (n - e)).length = n - e:=by rw [List.length_take]; omega
 have hl : (bo (win X o n) e ((win X o n).take (n - e))).length = n:=by rw [aM (by omega),hw]
 have e3 : bo (bo X (o + e) ((win X o n).take (n - e))) o (List.replicate e b) = bo (bo X o (bo (win X o n) e ((win X o n).take (n - e)))) (o + 0) (List.replicate e b):=by rw [gv (n:=n) (by omega) h,Nat.add_zero]
 have hl2 : (bo (bo (win X o n) e ((win X o n).take (n - e))) 0 (List.replicate e b)).length = n:=by rw [aM (by rw [hl]; simp; omega),hl]
 rw [e3,gv (n:=n) (by simp; omega) (by rw [aM (by omega)]; exact h),kz hl h,nf (by rw [hl,hl2]) (by omega)]
 have:=qP (W:=win X o n) (e:=e) (b:=b) (by omega)
 rw [hw] at this
 rw [this]
end Go.Proofs.YtckilbegmbaeeaaGreat.Z3Op
namespace Go.Proofs.YtckilbegmbaeeaaGreat.Z3Op
open Go Go.RowKit Go.Proofs.YtckilbegmbaeeaaGreat.SL Go.Proofs.YtckilbegmbaeeaaGreat.Z3 Go.Proofs.YtckilbegmbaeeaaGreat.Z3May Go.Proofs.YtckilbegmbaeeaaGreat.Z3Ls
set_option linter.unusedVariables false
set_option linter.unusedSimpArgs false
theorem jl {W : List aZ} {d : Int} {b : aZ} (h : (W.length : Int) ≤ d ∨ d ≤ -(W.length : Int)) : dC W d b = List.replicate W.length b:=by
 apply List.ext_getElem?
 intro i
 by_cases hi : i < W.length
 ·rw [lE hi,if_neg (by omega),List.getElem?_replicate,if_pos hi]
 ·rw [List.getElem?_eq_none (by rw [dF]; omega),List.getElem?_eq_none (by simp; omega)]
def fG (n x : Int) : Int:=max (-n) (min x n)
theorem sr {n x : Int} (h : 0 ≤ n) : -n ≤ fG n x∧fG n x ≤ n:=by unfold fG; omega
theorem rb {W : List aZ} {x : Int} {b : aZ} : dC W (-(fG (W.length : Int) x)) b = dC W (-x) b:=by
 by_cases h : -(W.length : Int) ≤ x∧x ≤ (W.length : Int)
 ·rw [show fG (W.length : Int) x = x from by unfold fG; omega]
 ·rw [jl (by unfold fG; omega),jl (by omega)]
theorem ln {W : List aZ} {x : Int} {b : aZ} {h w : Nat} (hl : W.length = h * w) (hw : 0 < w) : dC W (fG (h : Int) x * (w : Int)) b = dC W (x * (w : Int)) b:=by
 by_cases c : -(h : Int) ≤ x∧x ≤ (h : Int)
 ·rw [show fG (h : Int) x = x from by unfold fG; omega]
 ·have hlen : (W.length : Int) = (h : Int) * (w : Int):=by rw [hl]; simp
  by_cases c2 : x < -(h : Int)
  ·rw [show fG (h : Int) x = -(h : Int) from by unfold fG; omega,jl (.inr (by rw [hlen,Int.neg_mul]; exact Int.le_refl _))]
   refine (jl (.inr ?_)).symm
   rw [hlen,← Int.neg_mul]
   exact Int.mul_le_mul_of_nonneg_right (by omega) (by omega)
  ·rw [show fG (h : Int) x = (h : Int) from by unfold fG; omega,jl (.inl (by rw [hlen]; exact Int.le_refl _))]
   refine (jl (.inl ?_)).symm
   rw [hlen]
   exact Int.mul_le_mul_of_nonneg_right (by omega) (by omega)
theorem tz {X : List aZ} {o n a : Nat} : win X (o + a) (n - a) = (win X o n).drop a:=by unfold win; rw [List.drop_take,List.drop_drop]
theorem f88 (X : List aZ) (o n a : Nat) (by_ : Int) (s : cA) (h : o + n ≤ X.length) (ha : a ≤ n) (hb : X.length < 4611686018427387904) (hn : n ≤ 1048576) (k : Nat) (hk : n < k) :
  iY.f k X (o : Int) (n : Int) (a : Int) by_ s = some (bo X o (ce (bo (win X o n) a (dC ((win X o n).drop a) (-by_) (eA s))))):=by
 have hw : (win X o n).length = n:=dE h
 have hdl : ((win X o n).drop a).length = n - a:=by simp; omega
 have hc0 : dO (IntKind.i64.wrap (0 - ((n : Int) - (a : Int)))) (cC by_ ((n : Int) - (a : Int))) = fG ((n - a : Nat) : Int) by_:=by
  rw [eO (by omega) (by omega),kO,ia]; unfold fG; omega
 have hsl : dC ((win X o n).drop a) (-by_) (eA s) = dC ((win X o n).drop a) (-(fG ((n - a : Nat) : Int) by_)) (eA s):=by
  have:=rb (W:=(win X o n).drop a) (x:=by_) (b:=eA s)
  rw [hdl] at this; exact this.symm
 have hcl:=sr (n:=((n - a : Nat) : Int)) (x:=by_) (by omega)
 have fin : ∀ d : Int,bo X (o + a) (dC (win X (o + a) (n - a)) d (eA s)) = bo X o (bo (win X o n) a (dC ((win X o n).drop a) d (eA s))):=fun d=>by
  rw [gv (n:=n) (by rw [dF,dE (by omega)]; omega) h,tz]
 have hfl : ∀ d : Int,(bo (win X o n) a (dC ((win X o n).drop a) d (eA s))).length = n:=fun d=>by rw [aM (by rw [dF]; omega),hw]
 unfold iY.f
 rw [if_pos (by omega),if_pos (by omega),hc0,hsl]
 simp only [lt]
 by_cases c : fG ((n - a : Nat) : Int) by_ ≥ 0
 ·rw [if_pos c,if_pos (by omega)]
  obtain ⟨e,he⟩ : ∃ e : Nat,fG ((n - a : Nat) : Int) by_ = (e : Int):=⟨(fG ((n - a : Nat) : Int) by_).toNat,by omega⟩
  rw [he]
  have hel : e ≤ n - a:=by omega
  rw [show ((o : Int) + (a : Int) + (e : Int)).toNat = (o + a) + e from by omega,show (o : Int) + (a : Int) + ((n : Int) - (a : Int)) = ((o + a : Nat) : Int) + ((n - a : Nat) : Int) from by omega,show (o : Int) + (a : Int) = ((o + a : Nat) : Int) from by omega,ji,
   show ((n : Int) - (a : Int) - (e : Int)).toNat = (n - a) - e from by omega,if_pos (by omega),show ((o + a : Nat) : Int) + 0 = ((o + a : Nat) : Int) from by omega,show (e : Int) - 0 = (e : Int) from by omega]
  have hl1 : (bo X (o + a + e) ((win X (o + a) (n - a)).take (n - a - e))).length = X.length:=aM (by rw [List.length_take,dE (by omega)]; omega)
  rw [ul _ (o + a) e s (by omega) (by omega) k (by omega)]
  simp only [Option.bind_some]
  rw [oX (by omega) hel,fin,if_pos (by rw [aM (by rw [hfl]; omega),hl1]),xB _ o n (by rw [aM (by rw [hfl]; omega)]; omega) (by rw [aM (by rw [hfl]; omega)]; omega) k hk,iC h (hfl _)]
  simp only [Option.bind_some]
  rw [if_pos (by rw [aM (by rw [cB,hfl]; omega),aM (by rw [hfl]; omega)])]
 ·rw [if_neg c]
  obtain ⟨e,he⟩ : ∃ e : Nat,fG ((n - a : Nat) : Int) by_ = -(e : Int):=⟨(-(fG ((n - a : Nat) : Int) by_)).toNat,by omega⟩
  rw [he]
  have hel : e ≤ n - a:=by omega
  rw [show (0 : Int) - -(e : Int) = (e : Int) from by omega,eO (x:=(e : Int)) (by omega) (by omega),if_pos (by omega),show (n : Int) - (a : Int) + -(e : Int) = ((n - a - e : Nat) : Int) from by omega,eO (x:=((n - a - e : Nat) : Int)) (by omega) (by omega)]
  rw [show (o : Int) + (a : Int) + (e : Int) = ((o + a + e : Nat) : Int) from by omega,show (n : Int) - (a : Int) - (e : Int) = ((n - a - e : Nat) : Int) from by omega,ji,show ((o : Int) + (a : Int)).toNat = o + a from by omega,show ((n : Int) - (a : Int)).toNat = n - a from by omega,
   List.take_of_length_le (by rw [dE (by omega)]; omega),if_pos (by omega),show (o : Int) + (a : Int) + ((n - a - e : Nat) : Int) = ((o + a + (n - a - e) : Nat) : Int) from by omega,show (n : Int) - (a : Int) - ((n - a - e : Nat) : Int) = (e : Int) from by omega]
  have hl1 : (bo X (o + a) (win X (o + a + e) (n - a - e))).length = X.length:=aM (by rw [dE (by omega)]; omega)
  rw [ul _ (o + a + (n - a - e)) e s (by omega) (by omega) k (by omega)]
  simp only [Option.bind_some]
  rw [sh (by omega) hel,fin,Int.neg_neg,if_pos (by rw [aM (by rw [hfl]; omega),hl1]),xB _ o n (by rw [aM (by rw [hfl]; omega)]; omega) (by rw [aM (by rw [hfl]; omega)]; omega) k hk,iC h (hfl _)]
  simp only [Option.bind_some]
  rw [if_pos (by rw [aM (by rw [cB,hfl]; omega),aM (by rw [hfl]; omega)])]
theorem Ei (S : aG) (X : List aZ) (w h t u : Nat) (r by_ : Int) (s : cA) (hS : S.f0 = bF.mk (w : Int) r X) (hX : X.length = w * h) (hw0 : 0 < w) (hw : w ≤ 512) (hh : h ≤ 512) (htu : t ≤ u) (hu : u < h) (k : Nat) (hk : 1048576 < k) :
  cT.f k S (t : Int) (u : Int) by_ s = some { S with f0:=bF.mk (w : Int) r (bo X (t * w) (dC (win X (t * w) ((u + 1 - t) * w)) (by_ * (w : Int)) (eA s))) }:=by
 have hmul : ∀ {a b : Nat},a ≤ b → a * w ≤ b * w:=fun q=>Nat.mul_le_mul_right _ q
 have m1 : h * w ≤ 512 * 512:=Nat.mul_le_mul hh hw
 have m2 : (u + 1) * w ≤ h * w:=hmul (by omega)
 have m3 : t * w ≤ (u + 1) * w:=hmul (by omega)
 have m4 : (u + 1 - t) * w = (u + 1) * w - t * w:=Nat.sub_mul _ _ _
 have m5 : w * h = h * w:=Nat.mul_comm _ _
 have hcl:=sr (n:=((u + 1 - t : Nat) : Int)) (x:=by_) (by omega)
 generalize ho : t * w = o at *
 generalize hn : (u + 1 - t) * w = n at *
 have hwn : (win X o n).length = n:=dE (by omega)
 have hc : dO (IntKind.i64.wrap (0 - IntKind.i64.wrap (IntKind.i64.wrap ((u : Int) - (t : Int)) + 1))) (cC by_ (IntKind.i64.wrap (IntKind.i64.wrap ((u : Int) - (t : Int)) + 1))) = fG ((u + 1 - t : Nat) : Int) by_:=by
  rw [eO (x:=(u : Int) - (t : Int)) (by omega) (by omega),eO (x:=(u : Int) - (t : Int) + 1) (by omega) (by omega),eO (by omega) (by omega),kO,ia]; unfold fG; omega
 have hsl : dC (win X o n) (by_ * (w : Int)) (eA s) = dC (win X o n) (fG ((u + 1 - t : Nat) : Int) by_ * (w : Int)) (eA s):=(ln (by rw [hwn,hn]) hw0).symm
 have hol : (t : Int) * (w : Int) = (o : Int):=by rw [← ho]; simp
 have hul : ((u : Int) + 1) * (w : Int) = ((o + n : Nat) : Int):=by rw [show o + n = (u + 1) * w from by omega]; simp
 unfold cT.f
 rw [hS]
 simp only [lt,hc]
 rw [hol,eO (x:=(o : Int)) (by omega) (by omega),eO (x:=(u : Int) + 1) (by omega) (by omega),hul,eO (x:=((o + n : Nat) : Int)) (by omega) (by omega),hsl]
 by_cases c : 0 ≤ fG ((u + 1 - t : Nat) : Int) by_
 ·obtain ⟨q,hq⟩ : ∃ q : Nat,fG ((u + 1 - t : Nat) : Int) by_ = (q : Int):=⟨(fG ((u + 1 - t : Nat) : Int) by_).toNat,by omega⟩
  have hqw : q * w ≤ n:=by rw [← hn]; exact hmul (by omega)
  rw [hq,show (q : Int) * (w : Int) = ((q * w : Nat) : Int) from by simp]
  generalize q * w = e at *
  rw [eO (x:=(e : Int)) (by omega) (by omega),if_pos (by omega),if_pos (by omega),if_pos (by omega)]
  rw [show (0 : Int) + (o : Int) + (e : Int) = ((o + e : Nat) : Int) from by omega,show ((o + n : Nat) : Int) - (o : Int) - (e : Int) = ((n - e : Nat) : Int) from by omega,ji,show ((0 : Int) + (o : Int)).toNat = o from by omega,show (((o + n : Nat) : Int) - (o : Int)).toNat = n from by omega,
   List.take_of_length_le (by rw [dE (by omega)]; omega),eO (x:=((n - e : Nat) : Int)) (by omega) (by omega),if_pos (by omega),show (0 : Int) + (o : Int) + ((n - e : Nat) : Int) = ((o + (n - e) : Nat) : Int) from by omega,show ((o + n : Nat) : Int) - (o : Int) - ((n - e : Nat) : Int) = (e : Int) from by omega]
  have hl1 : (bo X o (win X (o + e) (n - e))).length = X.length:=aM (by rw [dE (by omega)]; omega)
  rw [ul _ (o + (n - e)) e s (by omega) (by omega) k (by omega)]
  simp only [Option.bind_some]
  rw [sh (by omega) hqw,if_pos (by rw [aM (by rw [dF]; omega),hl1])]
 ·obtain ⟨q,hq⟩ : ∃ q : Nat,fG ((u + 1 - t : Nat) : Int) by_ = -(q : Int):=⟨(-(fG ((u + 1 - t : Nat) : Int) by_)).toNat,by omega⟩
  have hqw : q * w ≤ n:=by rw [← hn]; exact hmul (by omega)
  have hq0 : 0 < q * w:=Nat.mul_pos (by omega) hw0
  rw [hq,Int.neg_mul,show (q : Int) * (w : Int) = ((q * w : Nat) : Int) from by simp]
  generalize q * w = e at *
  rw [eO (x:=-(e : Int)) (by omega) (by omega),if_pos (by omega),if_neg (by omega),show (0 : Int) - -(e : Int) = (e : Int) from by omega,eO (x:=(e : Int)) (by omega) (by omega),if_pos (by omega)]
  rw [show (0 : Int) + (o : Int) + (e : Int) = ((o + e : Nat) : Int) from by omega,show ((o + n : Nat) : Int) - (o : Int) - (e : Int) = ((n - e : Nat) : Int) from by omega,show (0 : Int) + (o : Int) + (((o + n : Nat) : Int) - (o : Int)) = (o : Int) + (n : Int) from by omega,show (0 : Int) + (o : Int) = (o : Int) from by omega,ji,
   Int.toNat_natCast,Int.toNat_natCast,if_pos (by omega),show (o : Int) + 0 = (o : Int) from by omega,show (e : Int) - 0 = (e : Int) from by omega]
  have hl1 : (bo X (o + e) ((win X o n).take (n - e))).length = X.length:=aM (by rw [List.length_take]; omega)
  rw [ul _ o e s (by omega) (by omega) k (by omega)]
  simp only [Option.bind_some]
  rw [oX (by omega) hqw,if_pos (by rw [aM (by rw [dF]; omega),hl1])]
end Go.Proofs.YtckilbegmbaeeaaGreat.Z3Op
namespace Go.Proofs.YtckilbegmbaeeaaGreat.Z3Sp
open Go Go.RowKit Go.Proofs.YtckilbegmbaeeaaGreat.SL Go.Proofs.YtckilbegmbaeeaaGreat.Z3 Go.Proofs.YtckilbegmbaeeaaGreat.Z3May Go.Proofs.YtckilbegmbaeeaaGreat.Z3Ls Go.Proofs.YtckilbegmbaeeaaGreat.Z3Op
set_option linter.unusedVariables false
set_option linter.unusedSimpArgs false
theorem ku {ρ σ β : Type} {r : ρ} {f : ρ → Option β} {g : σ → Option β} : Out.el (.ret r) f g = f r:=rfl
theorem jh {ρ σ β : Type} {s : σ} {f : ρ → Option β} {g : σ → Option β} : Out.el (.go s) f g = g s:=rfl
structure Gr (g : bF) : Prop where
 len : g.f2.length < 4611686018427387904
 wide : ∀ x ∈ g.f2,0 ≤ x.f2∧x.f2 < 256
def dH (c r : Int) : Bool:=decide (1 ≤ c∧c ≤ 512∧1 ≤ r∧r ≤ 512)
theorem f78 (c r : Int) : qH.f c r = some (dH c r):=by
 unfold qH.f dH
 simp only [lt]
 congr 1
 by_cases h1 : 1 ≤ c <;> by_cases h2 : c ≤ 512 <;> by_cases h3 : 1 ≤ r <;> by_cases h4 : r ≤ 512 <;> simp [h1,h2,h3,h4]
theorem fL {c r : Int} (h : dH c r = true) : ∃ w q : Nat,c = (w : Int)∧r = (q : Int)∧0 < w∧w ≤ 512∧0 < q∧q ≤ 512∧w * q ≤ 262144∧c * r = ((w * q : Nat) : Int)∧IntKind.i64.wrap (c * r) = ((w * q : Nat) : Int):=by
 unfold dH at h
 simp only [decide_eq_true_eq] at h
 obtain ⟨a,b,c',d⟩:=h
 obtain ⟨w,rfl⟩ : ∃ w : Nat,c = (w : Int):=⟨c.toNat,by omega⟩
 obtain ⟨q,rfl⟩ : ∃ q : Nat,r = (q : Int):=⟨r.toNat,by omega⟩
 have hm : w * q ≤ 512 * 512:=Nat.mul_le_mul (by omega) (by omega)
 have hc : (w : Int) * (q : Int) = ((w * q : Nat) : Int):=by simp
 exact ⟨w,q,rfl,rfl,by omega,by omega,by omega,by omega,by omega,hc,by rw [hc,eO (by omega) (by omega)]⟩
theorem oO {g : bF} (h : ¬ g.f2.length ≤ 1048576) : ci g = false:=by
 unfold ci
 rw [Bool.and_eq_false_iff]; left
 rw [decide_eq_false_iff_not]
 rintro ⟨a,b,c,d,e⟩
 obtain ⟨w,q,h1,h2,_,_,_,_,hq,hc,_⟩:=fL (c:=g.f0) (r:=g.f1) (by unfold dH; simp [a,b,c,d])
 omega
theorem uD (g : bF) (hg : Gr g) (k : Nat) (hk : 1100000 ≤ k) : fJ.f k g = some (ci g):=by
 by_cases h : g.f2.length ≤ 1048576
 ·exact EM g h hg.wide k (by omega)
 ·rw [oO h]
  unfold fJ.f
  rw [f78]
  simp only [Option.bind_some,lt]
  rw [if_pos]
  cases hs : dH g.f0 g.f1
  ·simp
  ·obtain ⟨w,q,h1,h2,_,_,_,_,hq,hc,hw⟩:=fL hs
   rw [hw]; simp; omega
theorem zo (n : Int) : pQ.f n = some (decide (1 ≤ n∧n ≤ 512)):=by
 unfold pQ.f
 simp only [lt]
 congr 1
 by_cases h1 : 1 ≤ n <;> by_cases h2 : n ≤ 512 <;> simp [h1,h2]
theorem vW (c r : Int) : (decide (1 ≤ c∧c ≤ 512) && decide (1 ≤ r∧r ≤ 512)) = dH c r:=by
 unfold dH
 by_cases h1 : 1 ≤ c <;> by_cases h2 : c ≤ 512 <;> by_cases h3 : 1 ≤ r <;> by_cases h4 : r ≤ 512 <;> simp [h1,h2,h3,h4]
theorem uK (g : bF) (hg : Gr g) (k : Nat) (hk : 1100000 ≤ k) : gi.f k g = some (ci g):=by
 by_cases h : g.f2.length ≤ 1048576
 ·exact FD g h hg.wide k (by omega)
 ·rw [oO h]
  unfold gi.f
  rw [zo,zo]
  simp only [Option.bind_some,lt]
  have hs:=vW g.f0 g.f1
  cases h1 : decide (1 ≤ g.f0∧g.f0 ≤ 512)
  ·simp
  ·cases h2 : decide (1 ≤ g.f1∧g.f1 ≤ 512)
   ·simp
   ·rw [h1,h2] at hs
    obtain ⟨w,q,_,_,_,_,_,_,hq,hc,hw⟩:=fL hs.symm
    rw [hw]
    have : (g.f2.length : Int) ≠ ((w * q : Nat) : Int):=by omega
    rw [decide_eq_true this]; simp
theorem gK {g : bF} (h : ci g = true) : ∃ w q : Nat,g.f0 = (w : Int)∧g.f1 = (q : Int)∧0 < w∧w ≤ 512∧0 < q∧q ≤ 512∧g.f2.length = w * q∧w * q ≤ 262144:=by
 unfold ci at h
 simp only [Bool.and_eq_true,decide_eq_true_eq] at h
 obtain ⟨⟨a,b,c,d,e⟩,_⟩:=h
 obtain ⟨w,q,h1,h2,h3,h4,h5,h6,hq,hc,hw⟩:=fL (c:=g.f0) (r:=g.f1) (by unfold dH; simp [a,b,c,d])
 exact ⟨w,q,h1,h2,h3,h4,h5,h6,by omega,hq⟩
def no : bF × Int:=(bF.mk 0 0 [],2)
theorem f72 (g : bF) (h : g.f2.length ≤ 2932031007402) : pD.f g = some g:=by
 unfold pD.f sG.f
 rw [if_pos (by simpa using h)]
 simp [lt]
theorem xE (g : bF) (h : g.f2.length ≤ 2932031007402) : iQ.f g = some g:=by
 unfold iQ.f
 rw [if_pos (by simpa using h)]
 simp [lt]
theorem eZ {w q i : Nat} (hq : i < q) : i * w + w ≤ w * q:=by
 have : (i + 1) * w ≤ q * w:=Nat.mul_le_mul_right _ hq
 rw [Nat.add_mul,Nat.one_mul,Nat.mul_comm q w] at this; exact this
theorem xn (X : List aZ) (w q i : Nat) (r : Int) (hX : X.length = w * q) (hb : w * q ≤ 262144) (hi : i < q) : jb.f (bF.mk (w : Int) r X) (i : Int) = some (((i * w : Nat) : Int),(w : Int)):=by
 have hp:=eZ (w:=w) hi
 unfold jb.f
 simp only [lt]
 rw [show (i : Int) * (w : Int) = ((i * w : Nat) : Int) from by simp,eO (x:=((i * w : Nat) : Int)) (by omega) (by omega),eO (x:=((i * w : Nat) : Int) + (w : Int)) (by omega) (by omega),if_pos (by omega)]
 congr 2 <;> omega
theorem xJ (X : List aZ) (w q i : Nat) (r : Int) (hX : X.length = w * q) (hb : w * q ≤ 262144) (hi : i < q) : pY.f (bF.mk (w : Int) r X) (i : Int) = some (win X (i * w) w):=by
 have hp:=eZ (w:=w) hi
 unfold pY.f
 simp only [lt]
 rw [show (i : Int) * (w : Int) = ((i * w : Nat) : Int) from by simp,eO (x:=((i * w : Nat) : Int)) (by omega) (by omega),eO (x:=((i * w : Nat) : Int) + (w : Int)) (by omega) (by omega),if_pos (by omega),ji]
theorem nu (X : List aZ) (w q i : Nat) (r : Int) (hX : X.length = w * q) (hb : w * q ≤ 262144) (hq : q ≤ 512) (hi : i < q) : dk.f (bF.mk (w : Int) r X) (i : Int) = some (((i * w : Nat) : Int),(w : Int)):=by
 have hp:=eZ (w:=w) hi
 unfold dk.f
 rw [eO (x:=(i : Int) + 1) (by omega) (by omega),show ((i : Int) + 1) * (w : Int) = ((i * w + w : Nat) : Int) from by rw [Int.add_mul]; simp,show (i : Int) * (w : Int) = ((i * w : Nat) : Int) from by simp,eO (x:=((i * w : Nat) : Int)) (by omega) (by omega),eO (x:=((i * w + w : Nat) : Int)) (by omega) (by omega),if_pos (show _∧_∧_ ≤ (X.length : Int) from by omega)]
 congr 2 <;> omega
def ie (g : bF) (row : Int) (s : cA) : Bool:=ci g && (decide (0 ≤ row) && (decide (row < g.f1) && cd s))
theorem f82 (g : bF) (hg : Gr g) (s : cA) (row : Int) (k : Nat) (hk : 1100000 ≤ k) : ik.f k g s row = some (!ie g row s):=by
 unfold ik.f ie
 rw [uK g hg k hk]
 simp only [Option.bind_some,lt,yq]
 cases hm : ci g
 ·simp
 ·cases hs : cd s
  ·simp
  ·by_cases h0 : 0 ≤ row <;> by_cases h1 : row < g.f1
   ·simp [h0,h1,show ¬ (row < 0) from by omega,show ¬ (g.f1 ≤ row) from by omega]
   ·simp [h0,h1,show ¬ (row < 0) from by omega,show (g.f1 ≤ row) from by omega]
   ·simp [h0,h1,show (row < 0) from by omega]
   ·simp [h0,h1,show (row < 0) from by omega]
def lx (g : bF) (row : Int) (f : List aZ → List aZ) : bF × Int:=(bF.mk g.f0 g.f1 (bo g.f2 (row.toNat * g.f0.toNat) (ce (f (win g.f2 (row.toNat * g.f0.toNat) g.f0.toNat)))),0)
theorem kI {g : bF} {row : Int} {s : cA} (h : ie g row s = true) : ∃ w q i : Nat,g.f0 = (w : Int)∧g.f1 = (q : Int)∧row = (i : Int)∧0 < w∧w ≤ 512∧q ≤ 512∧i < q∧g.f2.length = w * q∧w * q ≤ 262144∧i * w + w ≤ g.f2.length:=by
 unfold ie at h
 simp only [Bool.and_eq_true,decide_eq_true_eq] at h
 obtain ⟨hm,h0,h1,_⟩:=h
 obtain ⟨w,q,e0,e1,a,b,c,d,hl,hb⟩:=gK hm
 exact ⟨w,q,row.toNat,e0,e1,by omega,a,b,d,by omega,hl,hb,by rw [hl]; exact eZ (by omega)⟩
end Go.Proofs.YtckilbegmbaeeaaGreat.Z3Sp
namespace Go.Proofs.YtckilbegmbaeeaaGreat.Z3Sp
open Go Go.RowKit Go.Proofs.YtckilbegmbaeeaaGreat.SL Go.Proofs.YtckilbegmbaeeaaGreat.Z3 Go.Proofs.YtckilbegmbaeeaaGreat.Z3May Go.Proofs.YtckilbegmbaeeaaGreat.Z3Ls Go.Proofs.YtckilbegmbaeeaaGreat.Z3Op
set_option linter.unusedVariables false
set_option linter.unusedSimpArgs false
def pq (g : bF) (row col : Int) (s : cA) (l : List aZ) : bF × Int :=
 if (ie g row s && (decide (0 ≤ col) && (decide (col < g.f0) && l.all cm))) = true then lx g row (fun W=>bo W col.toNat (l.take (g.f0.toNat - col.toNat))) else no
theorem Di (l : List aZ) (hw : ∀ x ∈ l,0 ≤ x.f2∧x.f2 < 256) (hl : l.length < 4611686018427387904) (z : bF) : ∀ (m k i : Nat),i + m = l.length → m + 44 < k →
  eL.l0 l k z (i : Int) = some (if (l.drop i).all cm = true then Out.go z else Out.ret no)
 | 0,0,_,_,hk=>by omega
 | 0,k + 1,i,hi,hk=>by
  rw [eL.l0,if_neg (by omega),List.drop_of_length_le (by omega)]; simp
 | m + 1,0,_,_,hk=>by omega
 | m + 1,k + 1,i,hi,hk=>by
  have hi' : i < l.length:=by omega
  have hx:=hw _ (List.getElem_mem hi')
  rw [eL.l0,if_pos (by omega),if_pos (by omega),eQ hi',De _ hx.1 hx.2 k (by omega),List.drop_eq_getElem_cons hi']
  simp only [Option.bind_some,lt]
  cases hf : cm l[i]
  ·simp only [List.all_cons,hf,Bool.false_and,Bool.not_false,if_true,Bool.false_eq_true,if_false,no]
  ·simp only [Bool.not_true,Bool.false_eq_true,if_false,gX (show i < 4611686018427387904 by omega)]
   rw [Di l hw hl z m k (i + 1) (by omega) (by omega)]
   simp only [List.all_cons,hf,Bool.true_and]
theorem Eh (g : bF) (hg : Gr g) (row col : Int) (s : cA) (l : List aZ) (hw : ∀ x ∈ l,0 ≤ x.f2∧x.f2 < 256) (hl : l.length < 4611686018427387904) (k : Nat) (hk : 1100000 + l.length ≤ k) : eL.f k g row col s l = some (pq g row col s l):=by
 unfold eL.f pq
 rw [f82 g hg s row k (by omega)]
 simp only [Option.bind_some,lt]
 cases hr : ie g row s
 ·simp [no]
 ·obtain ⟨w,q,i,e0,e1,rfl,hw0,hw5,hq5,hi,hlen,hb,hp⟩:=kI hr
  rw [e0]
  simp only [Bool.not_true,Bool.false_or]
  by_cases c0 : col < 0
  ·simp [c0,show ¬ (0 ≤ col) from by omega,no]
  ·by_cases c1 : col ≥ (w : Int)
   ·simp [c0,c1,show ¬ (col < (w : Int)) from by omega,no]
   ·obtain ⟨a,rfl⟩ : ∃ a : Nat,col = (a : Int):=⟨col.toNat,by omega⟩
    simp only [c0,c1,decide_false,Bool.or_self,Bool.false_eq_true,if_false,Option.bind_some]
    have h0:=Di l hw hl (bF.mk 0 0 []) l.length k 0 (by omega) (by omega)
    rw [show (0 : Int) = ((0 : Nat) : Int) from rfl] at h0 ⊢
    rw [h0,List.drop_zero]
    cases hall : l.all cm
    ·simp [no,hall,ku]
    ·simp only [Option.bind_some,if_true,jh]
     rw [xE g (by omega)]
     simp only [Option.bind_some]
     have ha:=nu g.f2 w q i g.f1 hlen hb hq5 hi
     rw [← e0] at ha
     rw [show dk.f g (i : Int) = some (((i * w : Nat) : Int),g.f0) from ha]
     simp only [Option.bind_some]
     rw [e0,if_pos (by omega),if_pos (by omega),show (((i * w : Nat) : Int) + (a : Int)).toNat = i * w + a from by omega,show ((w : Int) - (a : Int)).toNat = w - a from by omega]
     have ht : (l.take (w - a)).length ≤ w - a:=by rw [List.length_take]; omega
     have hl2 : (bo (win g.f2 (i * w) w) a (l.take (w - a))).length = w:=by rw [aM (by rw [dE (by omega)]; omega),dE (by omega)]
     have hl1 : (bo g.f2 (i * w + a) (l.take (w - a))).length = g.f2.length:=aM (by omega)
     have ha2:=nu (bo g.f2 (i * w + a) (l.take (w - a))) w q i g.f1 (by rw [hl1]; exact hlen) hb hq5 hi
     rw [ha2]
     simp only [Option.bind_some]
     rw [if_pos (by omega),f90 _ (i * w) w (by omega) (by omega) (by omega) k (by omega)]
     simp only [Option.bind_some]
     rw [gv (n:=w) (by omega) (by omega),iC (by omega) hl2,if_pos (by rw [aM (by rw [cB,hl2]; omega),aM (by rw [hl2]; omega)])]
     have hc : (a : Int) < (w : Int):=by omega
     simp [lx,e0,hc]
def rf (g : bF) (row a b : Int) (s : cA) : bF × Int :=
 if (ie g row s && (decide (0 ≤ a) && (decide (a ≤ b) && decide (b ≤ g.f0)))) = true then lx g row (fun W=>bo W a.toNat (List.replicate (b.toNat - a.toNat) (eA s))) else no
theorem CS (g : bF) (w q i b : Nat) (s : cA) (a : Nat) (e0 : g.f0 = (w : Int)) (hlen : g.f2.length = w * q) (hb : w * q ≤ 262144) (hq5 : q ≤ 512) (hi : i < q) (hbw : b ≤ w) (hp : i * w + w ≤ g.f2.length) : ∀ (m k j : Nat),a + j + m = b → m < k →
  fo.l0 (i : Int) (b : Int) s g k ((a + j : Nat) : Int) (bo g.f2 (i * w + a) (List.replicate j (eA s))) = some (bo g.f2 (i * w + a) (List.replicate (b - a) (eA s)))
 | 0,0,_,_,hk=>by omega
 | 0,k + 1,j,hj,hk=>by
  rw [fo.l0,if_pos (aM (by simp; omega)),if_neg (by omega),show b - a = j from by omega]
 | m + 1,0,_,_,hk=>by omega
 | m + 1,k + 1,j,hj,hk=>by
  have hl1 : (bo g.f2 (i * w + a) (List.replicate j (eA s))).length = g.f2.length:=aM (by simp; omega)
  have ha:=nu (bo g.f2 (i * w + a) (List.replicate j (eA s))) w q i g.f1 (by rw [hl1]; exact hlen) hb hq5 hi
  rw [fo.l0,if_pos hl1,if_pos (by omega),e0,ha]
  simp only [Option.bind_some]
  rw [if_pos (by omega),xD]
  simp only [Option.bind_some,lt]
  rw [if_pos (by omega),gX (by omega),show (((i * w : Nat) : Int) + ((a + j : Nat) : Int)).toNat = i * w + a + (List.replicate j (eA s)).length from by simp; omega,jt (by simp; omega),← List.replicate_succ']
  exact CS g w q i b s a e0 hlen hb hq5 hi hbw hp m k (j + 1) (by omega) (by omega)
theorem EY (g : bF) (hg : Gr g) (row a b : Int) (s : cA) (k : Nat) (hk : 1100000 ≤ k) : fo.f k g row a b s = some (rf g row a b s):=by
 unfold fo.f rf
 rw [f82 g hg s row k (by omega)]
 simp only [Option.bind_some,lt]
 cases hr : ie g row s
 ·simp [no]
 ·obtain ⟨w,q,i,e0,e1,rfl,hw0,hw5,hq5,hi,hlen,hb,hp⟩:=kI hr
  rw [e0]
  simp only [Bool.not_true,Bool.false_or]
  by_cases c0 : a < 0
  ·simp [c0,show ¬ (0 ≤ a) from by omega,no]
  ·by_cases c1 : a > b
   ·simp [c0,c1,show ¬ (a ≤ b) from by omega,no]
   ·by_cases c2 : b > (w : Int)
    ·simp [c0,c1,c2,show ¬ (b ≤ (w : Int)) from by omega,no]
    ·obtain ⟨a,rfl⟩ : ∃ a' : Nat,a = (a' : Int):=⟨a.toNat,by omega⟩
     obtain ⟨b,rfl⟩ : ∃ b' : Nat,b = (b' : Int):=⟨b.toNat,by omega⟩
     simp only [c0,c1,c2,decide_false,Bool.or_self,Bool.false_eq_true,if_false,Option.bind_some]
     rw [xE g (by omega)]
     simp only [Option.bind_some]
     have h0:=CS g w q i b s a e0 hlen hb hq5 hi (by omega) hp (b - a) k 0 (by omega) (by omega)
     rw [List.replicate_zero,jF,Nat.add_zero] at h0
     rw [h0]
     simp only [Option.bind_some]
     have hl1 : (bo g.f2 (i * w + a) (List.replicate (b - a) (eA s))).length = g.f2.length:=aM (by simp; omega)
     have hl2 : (bo (win g.f2 (i * w) w) a (List.replicate (b - a) (eA s))).length = w:=by rw [aM (by rw [dE (by omega)]; simp; omega),dE (by omega)]
     have ha2:=nu (bo g.f2 (i * w + a) (List.replicate (b - a) (eA s))) w q i g.f1 (by rw [hl1]; exact hlen) hb hq5 hi
     rw [if_pos hl1,e0,ha2]
     simp only [Option.bind_some]
     rw [if_pos (by omega),f90 _ (i * w) w (by omega) (by omega) (by omega) k (by omega)]
     simp only [Option.bind_some]
     rw [gv (n:=w) (by simp; omega) (by omega),iC (by omega) hl2,if_pos (by rw [aM (by rw [cB,hl2]; omega),aM (by rw [hl2]; omega)])]
     have hc : (a : Int) ≤ (b : Int):=by omega
     have hc2 : (b : Int) ≤ (w : Int):=by omega
     simp [lx,e0,hc,hc2]
end Go.Proofs.YtckilbegmbaeeaaGreat.Z3Sp
namespace Go.Proofs.YtckilbegmbaeeaaGreat.Z3Sp
open Go Go.RowKit Go.Proofs.YtckilbegmbaeeaaGreat.SL Go.Proofs.YtckilbegmbaeeaaGreat.Z3 Go.Proofs.YtckilbegmbaeeaaGreat.Z3May Go.Proofs.YtckilbegmbaeeaaGreat.Z3Ls Go.Proofs.YtckilbegmbaeeaaGreat.Z3Op
set_option linter.unusedVariables false
set_option linter.unusedSimpArgs false
def rz (g : bF) (row a by_ : Int) (s : cA) : bF × Int :=
 if (ie g row s && (decide (0 ≤ a) && decide (a < g.f0))) = true then lx g row (fun W=>bo W a.toNat (dC (W.drop a.toNat) (-by_) (eA s))) else no
theorem nb {W : List aZ} {a : Nat} {d : Int} {b : aZ} (h : a ≤ W.length) : (bo W a (dC (W.drop a) d b)).length = W.length:=aM (by rw [dF]; simp; omega)
theorem oq {W : List aZ} {d : Int} {b : aZ} {j : Nat} (h : j < W.length) : (dC W d b).take (j + 1) = (dC W d b).take j ++ [if 0 ≤ (j : Int) + d∧(j : Int) + d < (W.length : Int) then W.getD ((j : Int) + d).toNat b else b]:=jT h
theorem Ct (g : bF) (w q i a : Nat) (by_ : Int) (s : cA) (e0 : g.f0 = (w : Int)) (hlen : g.f2.length = w * q) (hb : w * q ≤ 262144) (hq5 : q ≤ 512) (hw5 : w ≤ 512) (hi : i < q) (haw : a < w) (hp : i * w + w ≤ g.f2.length)
  (S : List aZ) (hS : S = dC ((win g.f2 (i * w) w).drop a) (-by_) (eA s)) : ∀ (m k j : Nat),a + j + m = w → m < k →
  fx.l0 g (i : Int) (a : Int) by_ s g k ((a + j : Nat) : Int) (bo g.f2 (i * w + a) (S.take j)) = some (bo g.f2 (i * w + a) S)
 | 0,0,_,_,hk=>by omega
 | 0,k + 1,j,hj,hk=>by
  have hSl : S.length = w - a:=by rw [hS,dF,List.length_drop,dE (by omega)]
  rw [fx.l0,if_pos (aM (by rw [List.length_take]; omega)),if_neg (by omega),List.take_of_length_le (by omega)]
 | m + 1,0,_,_,hk=>by omega
 | m + 1,k + 1,j,hj,hk=>by
  have hwl : (win g.f2 (i * w) w).length = w:=dE (by omega)
  have hdl : ((win g.f2 (i * w) w).drop a).length = w - a:=by rw [List.length_drop]; omega
  have hSl : S.length = w - a:=by rw [hS,dF,hdl]
  have htl : (S.take j).length = j:=by rw [List.length_take]; omega
  have hl1 : (bo g.f2 (i * w + a) (S.take j)).length = g.f2.length:=aM (by omega)
  have ha:=nu (bo g.f2 (i * w + a) (S.take j)) w q i g.f1 (by rw [hl1]; exact hlen) hb hq5 hi
  have ha2:=nu g.f2 w q i g.f1 hlen hb hq5 hi
  rw [← e0] at ha2
  have ha3 : dk.f g (i : Int) = some (((i * w : Nat) : Int),g.f0):=ha2
  have hnext : S.take (j + 1) = S.take j ++ [if 0 ≤ (j : Int) + -by_∧(j : Int) + -by_ < ((w - a : Nat) : Int) then ((win g.f2 (i * w) w).drop a).getD ((j : Int) + -by_).toNat (eA s) else eA s]:=by
   rw [hS,oq (by rw [hdl]; omega),hdl]
  rw [fx.l0,if_pos hl1,if_pos (by omega),xD]
  simp only [Option.bind_some,lt]
  rw [e0,ha]
  simp only [Option.bind_some]
  have hval : ∀ (G : aZ → Option (List aZ)),(if ((decide (by_ ≥ IntKind.i64.wrap (0 - (w : Int))) && decide (by_ ≤ (w : Int))) && decide (IntKind.i64.wrap (((a + j : Nat) : Int) - by_) ≥ (a : Int)) && decide (IntKind.i64.wrap (((a + j : Nat) : Int) - by_) < (w : Int))) = true then (dk.f g (i : Int)).bind (fun r47=>if (0 ≤ r47.1∧0 ≤ r47.2∧r47.1 + r47.2 ≤ (g.f2.length : Int)) then (if 0 ≤ IntKind.i64.wrap (((a + j : Nat) : Int) - by_)∧IntKind.i64.wrap (((a + j : Nat) : Int) - by_) < r47.2 then some (aZ.mk (rd g.f2 (r47.1 + (IntKind.i64.wrap (((a + j : Nat) : Int) - by_)))).f0 (rd g.f2 (r47.1 + (IntKind.i64.wrap (((a + j : Nat) : Int) - by_)))).f1 (rd g.f2 (r47.1 + (IntKind.i64.wrap (((a + j : Nat) : Int) - by_)))).f2 (rd g.f2 (r47.1 + (IntKind.i64.wrap (((a + j : Nat) : Int) - by_)))).f3) else none) else none) else some (eA s)).bind G = G (if 0 ≤ (j : Int) + -by_∧(j : Int) + -by_ < ((w - a : Nat) : Int) then ((win g.f2 (i * w) w).drop a).getD ((j : Int) + -by_).toNat (eA s) else eA s):=fun G=>by
   rw [eO (x:=0 - (w : Int)) (by omega) (by omega)]
   by_cases c : -(w : Int) ≤ by_∧by_ ≤ (w : Int)
   ·rw [eO (x:=((a + j : Nat) : Int) - by_) (by omega) (by omega)]
    by_cases c2 : 0 ≤ (j : Int) + -by_∧(j : Int) + -by_ < ((w - a : Nat) : Int)
    ·have hcond : ((decide (by_ ≥ 0 - (w : Int)) && decide (by_ ≤ (w : Int))) && decide (((a + j : Nat) : Int) - by_ ≥ (a : Int)) && decide (((a + j : Nat) : Int) - by_ < (w : Int))) = true:=by simp; omega
     rw [if_pos hcond,ha3]
     simp only [Option.bind_some]
     rw [e0,if_pos (by omega),if_pos (by omega),if_pos c2]
     simp only [Option.bind_some]
     congr 1
     obtain ⟨t,ht⟩ : ∃ t : Nat,(j : Int) + -by_ = (t : Int):=⟨((j : Int) + -by_).toNat,by omega⟩
     rw [ht,Int.toNat_natCast,show ((a + j : Nat) : Int) - by_ = ((a + t : Nat) : Int) from by omega]
     have h1 : (win g.f2 (i * w) w)[a + t]? = some (rd g.f2 (((i * w : Nat) : Int) + ((a + t : Nat) : Int))):=by rw [← lU (n:=w) (by omega) (by omega)]; exact iD (by omega)
     rw [List.getD_eq_getElem?_getD,List.getElem?_drop,h1]; rfl
    ·have hcond : ¬ ((decide (by_ ≥ 0 - (w : Int)) && decide (by_ ≤ (w : Int))) && decide (((a + j : Nat) : Int) - by_ ≥ (a : Int)) && decide (((a + j : Nat) : Int) - by_ < (w : Int))) = true:=by simp; omega
     rw [if_neg hcond,if_neg c2]; rfl
   ·have hcond : (decide (by_ ≥ 0 - (w : Int)) && decide (by_ ≤ (w : Int))) = false:=by simp; omega
    rw [hcond,Bool.false_and,Bool.false_and,if_neg (by decide),if_neg (by omega)]; rfl
  rw [hval]
  rw [if_pos (by omega),if_pos (by omega),gX (by omega),show (((i * w : Nat) : Int) + ((a + j : Nat) : Int)).toNat = i * w + a + (S.take j).length from by omega,jt (by omega),← hnext]
  exact Ct g w q i a by_ s e0 hlen hb hq5 hw5 hi haw hp S hS m k (j + 1) (by omega) (by omega)
theorem Gj (g : bF) (hg : Gr g) (row a by_ : Int) (s : cA) (k : Nat) (hk : 1100000 ≤ k) : fx.f k g row a by_ s = some (rz g row a by_ s):=by
 unfold fx.f rz
 rw [f82 g hg s row k (by omega)]
 simp only [Option.bind_some,lt]
 cases hr : ie g row s
 ·simp [no]
 ·obtain ⟨w,q,i,e0,e1,rfl,hw0,hw5,hq5,hi,hlen,hb,hp⟩:=kI hr
  rw [e0]
  simp only [Bool.not_true,Bool.false_or]
  by_cases c0 : a < 0
  ·simp [c0,show ¬ (0 ≤ a) from by omega,no]
  ·by_cases c1 : a ≥ (w : Int)
   ·simp [c0,c1,show ¬ (a < (w : Int)) from by omega,no]
   ·obtain ⟨a,rfl⟩ : ∃ a' : Nat,a = (a' : Int):=⟨a.toNat,by omega⟩
    simp only [c0,c1,decide_false,Bool.or_self,Bool.false_eq_true,if_false,Option.bind_some]
    rw [xE g (by omega)]
    simp only [Option.bind_some]
    have hwl : (win g.f2 (i * w) w).length = w:=dE (by omega)
    have h0:=Ct g w q i a by_ s e0 hlen hb hq5 hw5 hi (by omega) hp _ rfl (w - a) k 0 (by omega) (by omega)
    rw [List.take_zero,jF,Nat.add_zero] at h0
    rw [h0]
    simp only [Option.bind_some]
    have hsl : (dC ((win g.f2 (i * w) w).drop a) (-by_) (eA s)).length = w - a:=by rw [dF,List.length_drop]; omega
    have hl1 : (bo g.f2 (i * w + a) (dC ((win g.f2 (i * w) w).drop a) (-by_) (eA s))).length = g.f2.length:=aM (by omega)
    have hl2 : (bo (win g.f2 (i * w) w) a (dC ((win g.f2 (i * w) w).drop a) (-by_) (eA s))).length = w:=by rw [nb (by omega)]; exact hwl
    have ha2:=nu (bo g.f2 (i * w + a) (dC ((win g.f2 (i * w) w).drop a) (-by_) (eA s))) w q i g.f1 (by rw [hl1]; exact hlen) hb hq5 hi
    rw [if_pos hl1,e0,ha2]
    simp only [Option.bind_some]
    rw [if_pos (by omega),f90 _ (i * w) w (by omega) (by omega) (by omega) k (by omega)]
    simp only [Option.bind_some]
    rw [gv (n:=w) (by omega) (by omega),iC (by omega) hl2,if_pos (by rw [aM (by rw [cB,hl2]; omega),aM (by rw [hl2]; omega)])]
    have hc : (a : Int) < (w : Int):=by omega
    simp [lx,e0,hc]
end Go.Proofs.YtckilbegmbaeeaaGreat.Z3Sp
namespace Go.Proofs.YtckilbegmbaeeaaGreat.Z3Sp
open Go Go.RowKit Go.Proofs.YtckilbegmbaeeaaGreat.SL Go.Proofs.YtckilbegmbaeeaaGreat.Z3 Go.Proofs.YtckilbegmbaeeaaGreat.Z3May Go.Proofs.YtckilbegmbaeeaaGreat.Z3Ls Go.Proofs.YtckilbegmbaeeaaGreat.Z3Op
set_option linter.unusedVariables false
set_option linter.unusedSimpArgs false
def gF (g : bF) (t u : Int) (s : cA) : Bool:=ci g && (decide (0 ≤ t) && (decide (t ≤ u) && (decide (u < g.f1) && cd s)))
def gn (g : bF) (t u by_ : Int) (s : cA) : bF × Int :=
 if gF g t u s = true then (bF.mk g.f0 g.f1 (bo g.f2 (t.toNat * g.f0.toNat) (dC (win g.f2 (t.toNat * g.f0.toNat) ((u.toNat + 1 - t.toNat) * g.f0.toNat)) (by_ * g.f0) (eA s))),0) else no
theorem iA {g : bF} {t u : Int} {s : cA} (h : gF g t u s = true) : ∃ w q i j : Nat,g.f0 = (w : Int)∧g.f1 = (q : Int)∧t = (i : Int)∧u = (j : Int)∧0 < w∧w ≤ 512∧q ≤ 512∧i ≤ j∧j < q∧g.f2.length = w * q∧w * q ≤ 262144:=by
 unfold gF at h
 simp only [Bool.and_eq_true,decide_eq_true_eq] at h
 obtain ⟨hm,h0,h1,h2,_⟩:=h
 obtain ⟨w,q,e0,e1,a,b,c,d,hl,hb⟩:=gK hm
 exact ⟨w,q,t.toNat,u.toNat,e0,e1,by omega,by omega,a,b,d,by omega,by omega,hl,hb⟩
theorem qU {p : Int} {c w : Nat} (hc : c < w) : 0 ≤ p * (w : Int) + (c : Int) ↔ 0 ≤ p:=by
 constructor
 ·intro h
  by_cases q : 0 ≤ p
  ·exact q
  ·exfalso
   have : p * (w : Int) ≤ -1 * (w : Int):=Int.mul_le_mul_of_nonneg_right (by omega) (by omega)
   omega
 ·intro h
  have : 0 ≤ p * (w : Int):=Int.mul_nonneg h (by omega)
  omega
theorem tq {p h : Int} {c w : Nat} (hc : c < w) : p * (w : Int) + (c : Int) < h * (w : Int) ↔ p < h:=by
 have:=qU (p:=p - h) hc
 rw [Int.sub_mul] at this
 omega
theorem yR (g : bF) (w q i j : Nat) (by_ : Int) (s : cA) (e0 : g.f0 = (w : Int)) (e1 : g.f1 = (q : Int)) (hlen : g.f2.length = w * q) (hb : w * q ≤ 262144) (hq5 : q ≤ 512) (hw5 : w ≤ 512) (hij : i ≤ j) (hj : j < q)
  (S : List aZ) (hS : S = dC (win g.f2 (i * w) ((j + 1 - i) * w)) (by_ * (w : Int)) (eA s)) (r : Nat) (hr : i + r ≤ j) (Z0 : List aZ) (hZ0 : Z0.length = g.f2.length) : ∀ (m k c : Nat),c + m = w → m < k →
  cu.l1 g (i : Int) (j : Int) by_ s g ((i + r : Nat) : Int) Z0 k (c : Int) (bo g.f2 (i * w) (S.take (r * w + c))) = some (bo g.f2 (i * w) (S.take (r * w + w)))
 | 0,0,_,_,hk=>by omega
 | 0,k + 1,c,hc,hk=>by
  have hm1 : (i + (j + 1 - i)) * w ≤ q * w:=Nat.mul_le_mul_right _ (by omega)
  rw [Nat.add_mul,Nat.mul_comm q w] at hm1
  have hSl : S.length = (j + 1 - i) * w:=by rw [hS,dF,dE (by omega)]
  have hm2 : (r + 1) * w ≤ (j + 1 - i) * w:=Nat.mul_le_mul_right _ (by omega)
  rw [Nat.add_mul,Nat.one_mul] at hm2
  have hcw : c = w:=by omega
  rw [cu.l1,if_pos (by rw [hZ0]; exact aM (by rw [List.length_take]; omega)),e0,if_neg (by omega),hcw]
 | m + 1,0,_,_,hk=>by omega
 | m + 1,k + 1,c,hc,hk=>by
  have hm1 : (i + (j + 1 - i)) * w ≤ q * w:=Nat.mul_le_mul_right _ (by omega)
  rw [Nat.add_mul,Nat.mul_comm q w] at hm1
  have hSl : S.length = (j + 1 - i) * w:=by rw [hS,dF,dE (by omega)]
  have hm2 : (r + 1) * w ≤ (j + 1 - i) * w:=Nat.mul_le_mul_right _ (by omega)
  rw [Nat.add_mul,Nat.one_mul] at hm2
  have hwl : (win g.f2 (i * w) ((j + 1 - i) * w)).length = (j + 1 - i) * w:=dE (by omega)
  have htl : (S.take (r * w + c)).length = r * w + c:=by rw [List.length_take]; omega
  have hl1 : (bo g.f2 (i * w) (S.take (r * w + c))).length = g.f2.length:=aM (by omega)
  have ha:=nu (bo g.f2 (i * w) (S.take (r * w + c))) w q (i + r) (q : Int) (by rw [hl1]; exact hlen) hb hq5 (by omega)
  have hnext : S.take (r * w + c + 1) = S.take (r * w + c) ++ [if 0 ≤ ((r * w + c : Nat) : Int) + by_ * (w : Int)∧((r * w + c : Nat) : Int) + by_ * (w : Int) < (((j + 1 - i) * w : Nat) : Int) then (win g.f2 (i * w) ((j + 1 - i) * w)).getD (((r * w + c : Nat) : Int) + by_ * (w : Int)).toNat (eA s) else eA s]:=by
   rw [hS,oq (by rw [hwl]; omega),hwl]
  have hplace : ((r * w + c : Nat) : Int) + by_ * (w : Int) = ((r : Int) + by_) * (w : Int) + (c : Int):=by
   rw [Int.add_mul,show ((r * w + c : Nat) : Int) = (r : Int) * (w : Int) + (c : Int) from by simp]; omega
  have hhi : (((j + 1 - i) * w : Nat) : Int) = ((j + 1 - i : Nat) : Int) * (w : Int):=by simp
  rw [hplace,hhi] at hnext
  simp only [qU (p:=(r : Int) + by_) (show c < w by omega),tq (p:=(r : Int) + by_) (show c < w by omega)] at hnext
  rw [cu.l1,if_pos (by rw [hZ0]; exact hl1),e0,if_pos (by omega),xD,e1]
  simp only [Option.bind_some,lt]
  rw [ha]
  simp only [Option.bind_some]
  have hval : ∀ (G : aZ → Option (List aZ)),(if ((decide (by_ ≥ IntKind.i64.wrap (0 - (q : Int))) && decide (by_ ≤ (q : Int))) && decide (IntKind.i64.wrap (((i + r : Nat) : Int) + by_) ≥ (i : Int)) && decide (IntKind.i64.wrap (((i + r : Nat) : Int) + by_) ≤ (j : Int))) = true then (dk.f g (IntKind.i64.wrap (((i + r : Nat) : Int) + by_))).bind (fun r47=>if (0 ≤ r47.1∧0 ≤ r47.2∧r47.1 + r47.2 ≤ (g.f2.length : Int)) then (if 0 ≤ (c : Int)∧(c : Int) < r47.2 then some (aZ.mk (rd g.f2 (r47.1 + (c : Int))).f0 (rd g.f2 (r47.1 + (c : Int))).f1 (rd g.f2 (r47.1 + (c : Int))).f2 (rd g.f2 (r47.1 + (c : Int))).f3) else none) else none) else some (eA s)).bind G = G (if 0 ≤ (r : Int) + by_∧(r : Int) + by_ < ((j + 1 - i : Nat) : Int) then (win g.f2 (i * w) ((j + 1 - i) * w)).getD (((r : Int) + by_) * (w : Int) + (c : Int)).toNat (eA s) else eA s):=fun G=>by
   rw [eO (x:=0 - (q : Int)) (by omega) (by omega)]
   by_cases c1 : -(q : Int) ≤ by_∧by_ ≤ (q : Int)
   ·rw [eO (x:=((i + r : Nat) : Int) + by_) (by omega) (by omega)]
    by_cases c2 : 0 ≤ (r : Int) + by_∧(r : Int) + by_ < ((j + 1 - i : Nat) : Int)
    ·have hcond : ((decide (by_ ≥ 0 - (q : Int)) && decide (by_ ≤ (q : Int))) && decide (((i + r : Nat) : Int) + by_ ≥ (i : Int)) && decide (((i + r : Nat) : Int) + by_ ≤ (j : Int))) = true:=by simp; omega
     obtain ⟨p,hp⟩ : ∃ p : Nat,(r : Int) + by_ = (p : Int):=⟨((r : Int) + by_).toNat,by omega⟩
     have hip : i + p < q:=by omega
     have ha2:=nu g.f2 w q (i + p) g.f1 hlen hb hq5 hip
     rw [← e0] at ha2
     have hpl:=eZ (w:=w) hip
     rw [if_pos hcond,if_pos c2,show ((i + r : Nat) : Int) + by_ = ((i + p : Nat) : Int) from by omega,show dk.f g ((i + p : Nat) : Int) = some ((((i + p) * w : Nat) : Int),g.f0) from ha2,e0]
     simp only [Option.bind_some]
     rw [if_pos (by omega),if_pos (by omega)]
     simp only [Option.bind_some]
     congr 1
     rw [hp,show ((p : Int) * (w : Int) + (c : Int)).toNat = p * w + c from by rw [show (p : Int) * (w : Int) + (c : Int) = ((p * w + c : Nat) : Int) from by simp]; exact Int.toNat_natCast _]
     have hpw : p * w + w ≤ (j + 1 - i) * w:=by
      have : (p + 1) * w ≤ (j + 1 - i) * w:=Nat.mul_le_mul_right _ (by omega)
      rwa [Nat.add_mul,Nat.one_mul] at this
     have hx : (win g.f2 (i * w) ((j + 1 - i) * w))[p * w + c]? = some (rd g.f2 ((((i + p) * w : Nat) : Int) + (c : Int))):=by
      rw [dX,if_pos (by omega)]
      rw [show ((((i + p) * w : Nat) : Int) + (c : Int)) = (((i + p) * w + c : Nat) : Int) from by omega,← iD (by omega)]
      congr 1; rw [Nat.add_mul]; omega
     rw [List.getD_eq_getElem?_getD,hx]; rfl
    ·have hcond : ¬ ((decide (by_ ≥ 0 - (q : Int)) && decide (by_ ≤ (q : Int))) && decide (((i + r : Nat) : Int) + by_ ≥ (i : Int)) && decide (((i + r : Nat) : Int) + by_ ≤ (j : Int))) = true:=by simp; omega
     rw [if_neg hcond,if_neg c2]; rfl
   ·have hcond : (decide (by_ ≥ 0 - (q : Int)) && decide (by_ ≤ (q : Int))) = false:=by simp; omega
    rw [hcond,Bool.false_and,Bool.false_and,if_neg (by decide),if_neg (by omega)]; rfl
  rw [hval]
  have hirw : (i + r) * w = i * w + r * w:=Nat.add_mul _ _ _
  rw [if_pos (by omega),if_pos (by omega),gX (by omega),show ((((i + r) * w : Nat) : Int) + (c : Int)).toNat = i * w + (S.take (r * w + c)).length from by omega,jt (by omega),← hnext]
  exact yR g w q i j by_ s e0 e1 hlen hb hq5 hw5 hij hj S hS r hr Z0 hZ0 m k (c + 1) (by omega) (by omega)
theorem Ca (g : bF) (w q i j : Nat) (by_ : Int) (s : cA) (e0 : g.f0 = (w : Int)) (e1 : g.f1 = (q : Int)) (hlen : g.f2.length = w * q) (hb : w * q ≤ 262144) (hq5 : q ≤ 512) (hw5 : w ≤ 512) (hij : i ≤ j) (hj : j < q)
  (S : List aZ) (hS : S = dC (win g.f2 (i * w) ((j + 1 - i) * w)) (by_ * (w : Int)) (eA s)) : ∀ (m k r : Nat),i + r + m = j + 1 → m + 520 < k →
  cu.l0 g (i : Int) (j : Int) by_ s g k ((i + r : Nat) : Int) (bo g.f2 (i * w) (S.take (r * w))) = some (bo g.f2 (i * w) S)
 | 0,0,_,_,hk=>by omega
 | 0,k + 1,r,hr,hk=>by
  have hm1 : (i + (j + 1 - i)) * w ≤ q * w:=Nat.mul_le_mul_right _ (by omega)
  rw [Nat.add_mul,Nat.mul_comm q w] at hm1
  have hSl : S.length = (j + 1 - i) * w:=by rw [hS,dF,dE (by omega)]
  have hrr : r = j + 1 - i:=by omega
  rw [cu.l0,if_pos (aM (by rw [List.length_take]; omega)),if_neg (by omega),List.take_of_length_le (by rw [hSl,hrr]; exact Nat.le_refl _)]
 | m + 1,0,_,_,hk=>by omega
 | m + 1,k + 1,r,hr,hk=>by
  have hm1 : (i + (j + 1 - i)) * w ≤ q * w:=Nat.mul_le_mul_right _ (by omega)
  rw [Nat.add_mul,Nat.mul_comm q w] at hm1
  have hSl : S.length = (j + 1 - i) * w:=by rw [hS,dF,dE (by omega)]
  have hZ : (bo g.f2 (i * w) (S.take (r * w))).length = g.f2.length:=aM (by rw [List.length_take]; omega)
  have h1:=yR g w q i j by_ s e0 e1 hlen hb hq5 hw5 hij hj S hS r (by omega) _ hZ w k 0 (by omega) (by omega)
  rw [Nat.add_zero] at h1
  rw [cu.l0,if_pos hZ,if_pos (by omega),show (0 : Int) = ((0 : Nat) : Int) from rfl,h1]
  simp only [Option.bind_some,lt]
  rw [if_pos (by rw [aM (by rw [List.length_take]; omega),aM (by rw [List.length_take]; omega)]),gX (by omega)]
  have ih:=Ca g w q i j by_ s e0 e1 hlen hb hq5 hw5 hij hj S hS m k (r + 1) (by omega) (by omega)
  rw [Nat.add_mul,Nat.one_mul] at ih
  exact ih
theorem DK (g : bF) (hg : Gr g) (t u by_ : Int) (s : cA) (k : Nat) (hk : 1100000 ≤ k) : cu.f k g t u by_ s = some (gn g t u by_ s):=by
 unfold cu.f gn
 rw [f82 g hg s t k (by omega)]
 simp only [Option.bind_some,lt]
 cases hr : gF g t u s
 ·by_cases h1 : t ≤ u
  ·by_cases h2 : u < g.f1
   ·have h3 : t < g.f1:=by omega
    have : ie g t s = false:=by
     unfold gF at hr; unfold ie
     simpa [h1,h2,h3] using hr
    simp [this,no]
   ·simp [show u ≥ g.f1 from by omega,no]
  ·simp [show u < t from by omega,no]
 ·obtain ⟨w,q,i,j,e0,e1,rfl,rfl,hw0,hw5,hq5,hij,hj,hlen,hb⟩:=iA hr
  have hro : ie g (i : Int) s = true:=by
   unfold gF at hr; unfold ie
   simp only [Bool.and_eq_true,decide_eq_true_eq] at hr ⊢
   exact ⟨hr.1,hr.2.1,by omega,hr.2.2.2.2⟩
  have hm1 : (i + (j + 1 - i)) * w ≤ q * w:=Nat.mul_le_mul_right _ (by omega)
  rw [Nat.add_mul,Nat.mul_comm q w] at hm1
  simp only [hro,show ¬ ((j : Int) < (i : Int)) from by omega,show ¬ ((j : Int) ≥ g.f1) from by omega,decide_false,Bool.not_true,Bool.or_self,Bool.false_eq_true,if_false,Option.bind_some]
  rw [xE g (by omega)]
  simp only [Option.bind_some]
  have h0:=Ca g w q i j by_ s e0 e1 hlen hb hq5 hw5 hij hj _ rfl (j + 1 - i) k 0 (by omega) (by omega)
  rw [Nat.zero_mul,List.take_zero,jF,Nat.add_zero] at h0
  rw [h0]
  simp only [Option.bind_some]
  rw [if_pos (aM (by rw [dF,dE (by omega)]; omega))]
  simp [e0]
theorem Dw (a b : bF) (h : a.f2.length = b.f2.length) (hl : a.f2.length < 4611686018427387904) : ∀ (m k i : Nat),i + m = a.f2.length → m < k →
  eV.l0 a b k (i : Int) = some (if a.f2.drop i = b.f2.drop i then Out.go () else Out.ret false)
 | 0,0,_,_,hk=>by omega
 | 0,k + 1,i,hi,hk=>by
  rw [eV.l0,if_neg (by omega),List.drop_of_length_le (by omega),List.drop_of_length_le (by omega)]; simp
 | m + 1,0,_,_,hk=>by omega
 | m + 1,k + 1,i,hi,hk=>by
  have h1 : i < a.f2.length:=by omega
  have h2 : i < b.f2.length:=by omega
  rw [eV.l0,if_pos (by omega),if_pos (by omega),if_pos (by omega),eQ h1,eQ h2,List.drop_eq_getElem_cons h1,List.drop_eq_getElem_cons h2]
  by_cases he : a.f2[i] = b.f2[i]
  ·rw [if_neg (by simpa using he)]
   simp only [lt,gX (show i < 4611686018427387904 by omega)]
   rw [Dw a b h hl m k (i + 1) (by omega) (by omega)]
   simp only [List.cons.injEq,he,true_and]
  ·rw [if_pos he,if_neg (by intro q; exact he (List.cons.inj q).1)]
def rP (a b : bF) : Bool:=decide (a.f0 = b.f0) && (decide (a.f1 = b.f1) && decide (a.f2 = b.f2))
theorem CI (a b : bF) (hl : a.f2.length < 4611686018427387904) (k : Nat) (hk : a.f2.length < k) : eV.f k a b = some (rP a b):=by
 unfold eV.f rP
 simp only [lt]
 by_cases h0 : a.f0 = b.f0
 ·by_cases h1 : a.f1 = b.f1
  ·by_cases h2 : a.f2.length = b.f2.length
   ·have h3:=Dw a b h2 hl a.f2.length k 0 (by omega) hk
    rw [List.drop_zero,List.drop_zero] at h3
    have e : eV.l0 a b k 0 = some (if a.f2 = b.f2 then Out.go () else Out.ret false):=h3
    simp only [h0,h1,h2,ne_eq,not_true_eq_false,decide_false,Bool.or_self,Bool.false_eq_true,if_false,e,Option.bind_some]
    by_cases h4 : a.f2 = b.f2
    ·rw [if_pos h4]; simp [jh,h4]
    ·rw [if_neg h4]; simp [ku,h4]
   ·have : a.f2 ≠ b.f2:=fun q=>h2 (by rw [q])
    have h2' : ¬ ((a.f2.length : Int) = (b.f2.length : Int)):=by omega
    simp [h0,h1,h2,this]
    intro q; exact absurd q h2'
  ·simp [h1]
 ·simp [h0]
end Go.Proofs.YtckilbegmbaeeaaGreat.Z3Sp
namespace Go.Proofs.YtckilbegmbaeeaaGreat.Z3Sp
open Go Go.RowKit Go.Proofs.YtckilbegmbaeeaaGreat.SL Go.Proofs.YtckilbegmbaeeaaGreat.Z3 Go.Proofs.YtckilbegmbaeeaaGreat.Z3May Go.Proofs.YtckilbegmbaeeaaGreat.Z3Ls Go.Proofs.YtckilbegmbaeeaaGreat.Z3Op
set_option linter.unusedVariables false
set_option linter.unusedSimpArgs false
def mU (c r : Int) (s : cA) : bF × Int:=if (dH c r && cd s) = true then (bF.mk c r (List.replicate (c * r).toNat (eA s)),0) else no
theorem vG (X : List aZ) (b : aZ) (hb : X.length < 4611686018427387904) : ∀ (m k i : Nat),i + m = X.length → m < k →
  gN.l0 X b k (i : Int) (bo X 0 (List.replicate i b)) = some (bo X 0 (List.replicate X.length b))
 | 0,0,_,_,hk=>by omega
 | 0,k + 1,i,hi,hk=>by
  rw [gN.l0,if_pos (by rw [aM (by simp; omega)]),if_neg (by omega),show i = X.length from by omega]
 | m + 1,0,_,_,hk=>by omega
 | m + 1,k + 1,i,hi,hk=>by
  rw [gN.l0,if_pos (by rw [aM (by simp; omega)]),if_pos (by omega),if_pos (by rw [aM (by simp; omega)]; omega)]
  simp only [lt]
  rw [gX (by omega)]
  have e : ((i : Int)).toNat = 0 + (List.replicate i b).length:=by simp
  rw [e,jt (by simp; omega),← List.replicate_succ']
  exact vG X b hb m k (i + 1) (by omega) (by omega)
theorem ym (X : List aZ) (s : cA) (hb : X.length < 4611686018427387904) (k : Nat) (hk : X.length < k) : gN.f k X s = some (List.replicate X.length (eA s)):=by
 unfold gN.f
 rw [wU]
 have:=vG X (eA s) hb X.length k 0 (by omega) hk
 rw [List.replicate_zero,jF] at this
 simp only [Option.bind_some]
 rw [show (0 : Int) = ((0 : Nat) : Int) from rfl,this]
 simp only [Option.bind_some]
 rw [if_pos (aM (by simp))]
 unfold bo; simp
theorem AX (w q : Nat) (s : cA) (hq : w * q ≤ 262144) (k : Nat) (hk : 262144 < k) : tC.f k (w : Int) (q : Int) s = some (bF.mk (w : Int) (q : Int) (List.replicate (w * q) (eA s))):=by
 unfold tC.f
 rw [show (w : Int) * (q : Int) = ((w * q : Nat) : Int) from by simp,eO (by omega) (by omega),if_pos (by omega),Int.toNat_natCast]
 simp only [lt]
 rw [ym _ s (by simp; omega) k (by simp; omega)]
 simp
theorem Gt (c r : Int) (s : cA) (k : Nat) (hk : 1100000 ≤ k) : xd.f k c r s = some (mU c r s):=by
 unfold xd.f mU
 rw [f78]
 simp only [Option.bind_some,xC]
 cases hs : dH c r
 ·simp [no]
 ·cases hm : cd s
  ·simp [no]
  ·obtain ⟨w,q,rfl,rfl,_,_,_,_,hq,hc,_⟩:=fL hs
   simp only [Bool.not_true,Bool.false_eq_true,if_false,Option.bind_some,Bool.and_self,if_true]
   rw [AX w q s hq k (by omega),hc,Int.toNat_natCast]
   rfl
theorem Cy (w q : Nat) (s : cA) (hq : w * q ≤ 262144) : ∀ (m k i : Nat),i + m = w * q → m < k →
  pw.l0 (w : Int) (q : Int) s k (bF.mk (w : Int) (q : Int) (List.replicate i (eA s))) (i : Int) = some (bF.mk (w : Int) (q : Int) (List.replicate (w * q) (eA s)))
 | 0,0,_,_,hk=>by omega
 | 0,k + 1,i,hi,hk=>by
  rw [pw.l0,show (w : Int) * (q : Int) = ((w * q : Nat) : Int) from by simp,eO (by omega) (by omega),if_neg (by omega),show i = w * q from by omega]
 | m + 1,0,_,_,hk=>by omega
 | m + 1,k + 1,i,hi,hk=>by
  rw [pw.l0,show (w : Int) * (q : Int) = ((w * q : Nat) : Int) from by simp,eO (x:=((w * q : Nat) : Int)) (by omega) (by omega),if_pos (by omega),xD]
  simp only [Option.bind_some,lt]
  rw [if_pos (by simp; omega),gX (by omega),← List.replicate_succ']
  exact Cy w q s hq m k (i + 1) (by omega) (by omega)
theorem Ax (c r : Int) (s : cA) (k : Nat) (hk : 1100000 ≤ k) : pw.f k c r s = some (mU c r s):=by
 unfold pw.f mU
 rw [zo,zo]
 simp only [Option.bind_some,yq]
 have hss:=vW c r
 cases h1 : decide (1 ≤ c∧c ≤ 512)
 ·rw [h1,Bool.false_and] at hss; rw [← hss]; simp [no]
 ·cases h2 : decide (1 ≤ r∧r ≤ 512)
  ·rw [h1,h2,Bool.and_false] at hss; rw [← hss]; simp [no]
  ·rw [h1,h2,Bool.and_self] at hss
   cases hm : cd s
   ·rw [← hss]; simp [no]
   ·obtain ⟨w,q,rfl,rfl,_,_,_,_,hq,hc,_⟩:=fL hss.symm
    rw [← hss]
    simp only [Bool.not_true,Bool.false_eq_true,if_false,Option.bind_some,Bool.and_self,if_true]
    have h0:=Cy w q s hq (w * q) k 0 (by omega) (by omega)
    rw [List.replicate_zero] at h0
    rw [show (0 : Int) = ((0 : Nat) : Int) from rfl,h0,hc,Int.toNat_natCast]
    rfl
def mA (X : List aZ) (w w' : Nat) : Nat → Nat → List aZ → List aZ
 | 0,_,Z=>Z
 | n + 1,i,Z=>mA X w w' n (i + 1) (bo Z (i * w') (ce (bo (win Z (i * w') w') 0 ((win X (i * w) w).take w'))))
theorem lj {X Z : List aZ} {w w' i : Nat} (hz : i * w' + w' ≤ Z.length) : (bo Z (i * w') (ce (bo (win Z (i * w') w') 0 ((win X (i * w) w).take w')))).length = Z.length :=
 aM (by rw [cB,aM (by rw [List.length_take,dE hz]; omega),dE hz]; exact hz)
theorem me {X : List aZ} {w w' q' : Nat} : ∀ (n i : Nat) (Z : List aZ),i + n ≤ q' → Z.length = w' * q' → (mA X w w' n i Z).length = w' * q'
 | 0,i,Z,h,hl=>hl
 | n + 1,i,Z,h,hl=>by
  have hp:=eZ (w:=w') (i:=i) (q:=q') (by omega)
  rw [mA]
  exact me n (i + 1) _ (by omega) (by rw [lj (by omega)]; exact hl)
def dr (g : bF) (c r : Int) (s : cA) : bF × Int :=
 if (ci g && (dH c r && cd s)) = true then (bF.mk c r (mA g.f2 g.f0.toNat c.toNat (min r g.f1).toNat 0 (List.replicate (c * r).toNat (eA s))),0) else no
theorem BL (g : bF) (w q w' q' : Nat) (e0 : g.f0 = (w : Int)) (e1 : g.f1 = (q : Int)) (hlen : g.f2.length = w * q) (hb : w * q ≤ 262144) (hb' : w' * q' ≤ 262144) (hw' : w' ≤ 512) (hq5 : q' ≤ 512) (Z0 : List aZ) (hZ0 : Z0.length = w' * q') : ∀ (m k i : Nat) (Z : List aZ),i + m = min q' q → Z.length = w' * q' → m + 520 < k →
  qX.l0 g (q' : Int) (bF.mk (w' : Int) (q' : Int) Z0) k (i : Int) Z = some (mA g.f2 w w' m i Z)
 | 0,0,_,_,_,_,hk=>by omega
 | 0,k + 1,i,Z,hi,hZ,hk=>by
  rw [qX.l0,if_pos (show Z.length = Z0.length by omega),ia,e1,if_neg (by omega)]; rfl
 | m + 1,0,_,_,_,_,hk=>by omega
 | m + 1,k + 1,i,Z,hi,hZ,hk=>by
  have hp:=eZ (w:=w') (i:=i) (q:=q') (by omega)
  have h1:=xn Z w' q' i (q' : Int) hZ hb' (by omega)
  have h2:=xJ g.f2 w q i g.f1 hlen hb (by omega)
  rw [← e0] at h2
  have hlt : ((win g.f2 (i * w) w).take w').length ≤ w':=by rw [List.length_take]; omega
  rw [qX.l0,if_pos (show Z.length = Z0.length by omega),ia,e1,if_pos (by omega),h1]
  simp only [Option.bind_some]
  rw [if_pos (by omega),show pY.f g (i : Int) = some (win g.f2 (i * w) w) from h2]
  simp only [Option.bind_some,lt,Int.toNat_natCast]
  have hov : bo Z (i * w') ((win g.f2 (i * w) w).take w') = bo Z (i * w') (bo (win Z (i * w') w') 0 ((win g.f2 (i * w) w).take w')):=by
   have:=gv (X:=Z) (ys:=(win g.f2 (i * w) w).take w') (o:=i * w') (a:=0) (n:=w') (by omega) (by omega)
   simpa using this
  have hl2 : (bo (win Z (i * w') w') 0 ((win g.f2 (i * w) w).take w')).length = w':=by rw [aM (by rw [dE (by omega)]; omega),dE (by omega)]
  have hl1 : (bo Z (i * w') ((win g.f2 (i * w) w).take w')).length = Z.length:=aM (by omega)
  rw [xB _ (i * w') w' (by omega) (by omega) k (by omega)]
  simp only [Option.bind_some]
  rw [if_pos (aM (by rw [cB,dE (by omega)]; omega)),hov,iC (by omega) hl2,gX (by omega),mA]
  exact BL g w q w' q' e0 e1 hlen hb hb' hw' hq5 Z0 hZ0 m k (i + 1) _ (by omega) (by rw [lj (by omega)]; exact hZ) (by omega)
theorem BN (g : bF) (w q w' q' : Nat) (e0 : g.f0 = (w : Int)) (e1 : g.f1 = (q : Int)) (hlen : g.f2.length = w * q) (hb : w * q ≤ 262144) (hb' : w' * q' ≤ 262144) (hw' : w' ≤ 512) (hq : q ≤ 512) (hq5 : q' ≤ 512) (Z0 : List aZ) (hZ0 : Z0.length = w' * q') : ∀ (m k i : Nat) (Z : List aZ),i + m = min q' q → Z.length = w' * q' → m + 520 < k →
  fP.l0 g (q' : Int) (bF.mk (w' : Int) (q' : Int) Z0,0) k (i : Int) Z = some (mA g.f2 w w' m i Z)
 | 0,0,_,_,_,_,hk=>by omega
 | 0,k + 1,i,Z,hi,hZ,hk=>by
  rw [fP.l0,if_pos (show Z.length = Z0.length by omega),ia,e1,if_neg (by omega)]; rfl
 | m + 1,0,_,_,_,_,hk=>by omega
 | m + 1,k + 1,i,Z,hi,hZ,hk=>by
  have hp:=eZ (w:=w') (i:=i) (q:=q') (by omega)
  have h1:=nu Z w' q' i (q' : Int) hZ hb' hq5 (by omega)
  have h2:=nu g.f2 w q i g.f1 hlen hb hq (by omega)
  have hp2:=eZ (w:=w) (i:=i) (q:=q) (by omega)
  rw [← e0] at h2
  have hlt : ((win g.f2 (i * w) w).take w').length ≤ w':=by rw [List.length_take]; omega
  have hl1 : (bo Z (i * w') ((win g.f2 (i * w) w).take w')).length = Z.length:=aM (by omega)
  have h3:=nu (bo Z (i * w') ((win g.f2 (i * w) w).take w')) w' q' i (q' : Int) (by rw [hl1]; exact hZ) hb' hq5 (by omega)
  rw [fP.l0,if_pos (show Z.length = Z0.length by omega),ia,e1,if_pos (by omega),h1]
  simp only [Option.bind_some]
  rw [if_pos (by omega),show dk.f g (i : Int) = some (((i * w : Nat) : Int),g.f0) from h2,e0]
  simp only [Option.bind_some]
  rw [if_pos (by omega),ji]
  simp only [lt,Int.toNat_natCast]
  rw [h3]
  simp only [Option.bind_some]
  have hov : bo Z (i * w') ((win g.f2 (i * w) w).take w') = bo Z (i * w') (bo (win Z (i * w') w') 0 ((win g.f2 (i * w) w).take w')):=by
   have:=gv (X:=Z) (ys:=(win g.f2 (i * w) w).take w') (o:=i * w') (a:=0) (n:=w') (by omega) (by omega)
   simpa using this
  have hl2 : (bo (win Z (i * w') w') 0 ((win g.f2 (i * w) w).take w')).length = w':=by rw [aM (by rw [dE (by omega)]; omega),dE (by omega)]
  rw [if_pos (by omega),f90 _ (i * w') w' (by omega) (by omega) (by omega) k (by omega)]
  simp only [Option.bind_some]
  rw [if_pos (aM (by rw [cB,dE (by omega)]; omega)),hov,iC (by omega) hl2,gX (by omega),mA]
  exact BN g w q w' q' e0 e1 hlen hb hb' hw' hq hq5 Z0 hZ0 m k (i + 1) _ (by omega) (by rw [lj (by omega)]; exact hZ) (by omega)
theorem Ec (g : bF) (hg : Gr g) (c r : Int) (s : cA) (k : Nat) (hk : 1100000 ≤ k) : qX.f k g c r s = some (dr g c r s):=by
 unfold qX.f dr
 rw [uD g hg k hk,f78]
 simp only [Option.bind_some,xC]
 cases hm : ci g
 ·simp [no]
 ·cases hs : dH c r
  ·simp [no]
  ·cases hy : cd s
   ·simp [no]
   ·obtain ⟨w,q,e0,e1,_,_,_,_,hlen,hb⟩:=gK hm
    obtain ⟨w',q',rfl,rfl,_,_,_,_,hq,hc,_⟩:=fL hs
    simp only [Bool.not_true,Bool.false_eq_true,if_false,Option.bind_some,Bool.and_self,if_true]
    rw [AX w' q' s hq k (by omega)]
    simp only [Option.bind_some]
    have h0:=BL g w q w' q' e0 e1 hlen hb hq (by omega) (by omega) (List.replicate (w' * q') (eA s)) (by simp) (min q' q) k 0 (List.replicate (w' * q') (eA s)) (by omega) (by simp) (by omega)
    rw [show (0 : Int) = ((0 : Nat) : Int) from rfl,h0]
    simp only [Option.bind_some]
    rw [if_pos (by rw [me (q':=q') _ _ _ (by omega) (by simp)]; simp),hc,e0,e1]
    simp only [Int.toNat_natCast,show (min (q' : Int) (q : Int)).toNat = min q' q from by omega]
theorem yp (g : bF) (w q w' q' : Nat) (e0 : g.f0 = (w : Int)) (e1 : g.f1 = (q : Int)) (hlen : g.f2.length = w * q) (hb : w * q ≤ 262144) (hb' : w' * q' ≤ 262144) (hw' : w' ≤ 512) (hq5 : q' ≤ 512) (Z0 : List aZ) (hZ0 : Z0.length = w' * q') : ∀ (m k i : Nat) (Z : List aZ),i + m = min q' q → Z.length = w' * q' → m + 520 < k →
  jA.l0 g (q' : Int) (bF.mk (w' : Int) (q' : Int) Z0) k (i : Int) Z = some (mA g.f2 w w' m i Z)
 | 0,0,_,_,_,_,hk=>by omega
 | 0,k + 1,i,Z,hi,hZ,hk=>by
  rw [jA.l0,if_pos (show Z.length = Z0.length by omega),ia,e1,if_neg (by omega)]; rfl
 | m + 1,0,_,_,_,_,hk=>by omega
 | m + 1,k + 1,i,Z,hi,hZ,hk=>by
  have hp:=eZ (w:=w') (i:=i) (q:=q') (by omega)
  have h1:=xn Z w' q' i (q' : Int) hZ hb' (by omega)
  have h2:=xn g.f2 w q i g.f1 hlen hb (by omega)
  have hp2:=eZ (w:=w) (i:=i) (q:=q) (by omega)
  rw [← e0] at h2
  have hlt : ((win g.f2 (i * w) w).take w').length ≤ w':=by rw [List.length_take]; omega
  rw [jA.l0,if_pos (show Z.length = Z0.length by omega),ia,e1,if_pos (by omega),h1]
  simp only [Option.bind_some]
  rw [if_pos (by omega),show jb.f g (i : Int) = some (((i * w : Nat) : Int),g.f0) from h2,e0]
  simp only [Option.bind_some]
  rw [if_pos (by omega),ji]
  simp only [lt,Int.toNat_natCast]
  have hov : bo Z (i * w') ((win g.f2 (i * w) w).take w') = bo Z (i * w') (bo (win Z (i * w') w') 0 ((win g.f2 (i * w) w).take w')):=by
   have:=gv (X:=Z) (ys:=(win g.f2 (i * w) w).take w') (o:=i * w') (a:=0) (n:=w') (by omega) (by omega)
   simpa using this
  have hl2 : (bo (win Z (i * w') w') 0 ((win g.f2 (i * w) w).take w')).length = w':=by rw [aM (by rw [dE (by omega)]; omega),dE (by omega)]
  have hl1 : (bo Z (i * w') ((win g.f2 (i * w) w).take w')).length = Z.length:=aM (by omega)
  rw [xB _ (i * w') w' (by omega) (by omega) k (by omega)]
  simp only [Option.bind_some]
  rw [if_pos (aM (by rw [cB,dE (by omega)]; omega)),hov,iC (by omega) hl2,gX (by omega),mA]
  exact yp g w q w' q' e0 e1 hlen hb hb' hw' hq5 Z0 hZ0 m k (i + 1) _ (by omega) (by rw [lj (by omega)]; exact hZ) (by omega)
theorem Az (g : bF) (hg : Gr g) (c r : Int) (s : cA) (k : Nat) (hk : 1100000 ≤ k) : jA.f k g c r s = some (dr g c r s):=by
 unfold jA.f dr
 rw [uD g hg k hk,f78]
 simp only [Option.bind_some,xC]
 cases hm : ci g
 ·simp [no]
 ·cases hs : dH c r
  ·simp [no]
  ·cases hy : cd s
   ·simp [no]
   ·obtain ⟨w,q,e0,e1,_,_,_,_,hlen,hb⟩:=gK hm
    obtain ⟨w',q',rfl,rfl,_,_,_,_,hq,hc,_⟩:=fL hs
    simp only [Bool.not_true,Bool.false_eq_true,if_false,Option.bind_some,Bool.and_self,if_true]
    rw [AX w' q' s hq k (by omega)]
    simp only [Option.bind_some]
    have h0:=yp g w q w' q' e0 e1 hlen hb hq (by omega) (by omega) (List.replicate (w' * q') (eA s)) (by simp) (min q' q) k 0 (List.replicate (w' * q') (eA s)) (by omega) (by simp) (by omega)
    rw [show (0 : Int) = ((0 : Nat) : Int) from rfl,h0]
    simp only [Option.bind_some]
    rw [if_pos (by rw [me (q':=q') _ _ _ (by omega) (by simp)]; simp),hc,e0,e1]
    simp only [Int.toNat_natCast,show (min (q' : Int) (q : Int)).toNat = min q' q from by omega]
theorem Co (g : bF) (hg : Gr g) (c r : Int) (s : cA) (k : Nat) (hk : 1100000 ≤ k) : fP.f k g c r s = some (dr g c r s):=by
 unfold fP.f dr
 rw [uK g hg k hk,Ax c r s k hk]
 simp only [Option.bind_some]
 cases hm : ci g
 ·simp [no]
 ·unfold mU
  cases hs : dH c r
  ·simp [no]
  ·cases hy : cd s
   ·simp [no]
   ·obtain ⟨w,q,e0,e1,_,_,_,_,hlen,hb⟩:=gK hm
    obtain ⟨w',q',rfl,rfl,_,_,_,_,hq,hc,_⟩:=fL hs
    simp only [Bool.not_true,Bool.false_eq_true,if_false,Bool.and_self,if_true,ne_eq,not_true_eq_false]
    rw [hc,Int.toNat_natCast]
    have h0:=BN g w q w' q' e0 e1 hlen hb hq (by omega) (by omega) (by omega) (List.replicate (w' * q') (eA s)) (by simp) (min q' q) k 0 (List.replicate (w' * q') (eA s)) (by omega) (by simp) (by omega)
    rw [show fP.l0 g (q' : Int) (bF.mk (w' : Int) (q' : Int) (List.replicate (w' * q') (eA s)),0) k 0 (List.replicate (w' * q') (eA s)) = _ from h0]
    simp only [Option.bind_some]
    rw [if_pos (by rw [me (q':=q') _ _ _ (by omega) (by simp)]; simp),e0,e1]
    simp only [Int.toNat_natCast,show (min (q' : Int) (q : Int)).toNat = min q' q from by omega]
end Go.Proofs.YtckilbegmbaeeaaGreat.Z3Sp
namespace Go.Proofs.YtckilbegmbaeeaaGreat.Z3Sp
open Go Go.RowKit Go.Proofs.YtckilbegmbaeeaaGreat.SL Go.Proofs.YtckilbegmbaeeaaGreat.Z3 Go.Proofs.YtckilbegmbaeeaaGreat.Z3May Go.Proofs.YtckilbegmbaeeaaGreat.Z3Ls Go.Proofs.YtckilbegmbaeeaaGreat.Z3Op
set_option linter.unusedVariables false
set_option linter.unusedSimpArgs false
def uk (W : List aZ) (j : Nat) : Prop :=
 cm (rd W (j : Int)) = true∧((rd W (j : Int)).f2 = 0 ↔ (0 < j∧(rd W ((j - 1 : Nat) : Int)).f2 = 2)) ∧
  ((0 < j∧(rd W ((j - 1 : Nat) : Int)).f2 = 2) → (rd W (j : Int)).f3 = (rd W ((j - 1 : Nat) : Int)).f3)∧¬ ((rd W (j : Int)).f2 = 2∧j = W.length - 1)
def ly (W : List aZ) : Prop:=∀ j,j < W.length → uk W j
theorem rV (g : bF) (w i j : Nat) (hj : j < w) (hl : i * w + w ≤ g.f2.length) : tQ g w (i * w + j) = true ↔ uk (win g.f2 (i * w) w) j:=by
 rw [kE]; unfold uk
 have hm : (i * w + j) % w = j:=by rw [Nat.mul_comm,Nat.mul_add_mod,Nat.mod_eq_of_lt hj]
 have e1 : rd (win g.f2 (i * w) w) (j : Int) = rd g.f2 ((i * w + j : Nat) : Int):=by rw [lU hj hl]; congr 1
 rw [hm,dE hl,e1]
 by_cases h0 : j = 0
 ·subst h0; simp
 ·have e2 : rd (win g.f2 (i * w) w) ((j - 1 : Nat) : Int) = rd g.f2 ((i * w + j - 1 : Nat) : Int):=by
   rw [lU (by omega) hl,show i * w + j - 1 = i * w + (j - 1) from by omega]; congr 1
  rw [e2]
theorem eE (g : bF) : ci g = true ↔ ∃ w q : Nat,g.f0 = (w : Int)∧g.f1 = (q : Int)∧0 < w∧w ≤ 512∧0 < q∧q ≤ 512∧g.f2.length = w * q∧∀ i,i < q → ly (win g.f2 (i * w) w):=by
 constructor
 ·intro h
  obtain ⟨w,q,e0,e1,a,b,c,d,hl,_⟩:=gK h
  refine ⟨w,q,e0,e1,a,b,c,d,hl,fun i hi j hj=>?_⟩
  have hp:=eZ (w:=w) hi
  rw [dE (by omega)] at hj
  unfold ci at h
  simp only [Bool.and_eq_true,List.all_eq_true,List.mem_range] at h
  have:=h.2 (i * w + j) (by omega)
  rw [e0,Int.toNat_natCast] at this
  exact (rV g w i j hj (by omega)).1 this
 ·rintro ⟨w,q,e0,e1,a,b,c,d,hl,hr⟩
  unfold ci
  simp only [Bool.and_eq_true,List.all_eq_true,List.mem_range,decide_eq_true_eq]
  refine ⟨⟨by omega,by omega,by omega,by omega,by rw [hl,e0,e1]; simp⟩,fun n hn=>?_⟩
  rw [e0,Int.toNat_natCast]
  have h1:=Nat.mod_lt n a
  have h2:=Nat.div_add_mod n w
  have h3 : n / w < q:=Nat.div_lt_of_lt_mul (by omega)
  have hp:=eZ (w:=w) h3
  have h4 : n = n / w * w + n % w:=by rw [Nat.mul_comm]; omega
  rw [h4]
  exact (rV g w (n / w) (n % w) h1 (by omega)).2 (hr _ h3 _ (by rw [dE (by omega)]; exact h1))
theorem wL {l : List aZ} {x : aZ} (h : x ∈ l) : ∃ i,i < l.length∧rd l (i : Int) = x:=by
 obtain ⟨i,hi,e⟩:=List.getElem_of_mem h
 exact ⟨i,hi,by rw [eQ hi,e]⟩
theorem nF {l : List aZ} {i : Nat} (h : i < l.length) : rd l (i : Int) ∈ l:=by rw [eQ h]; exact List.getElem_mem h
theorem ly.cells {W : List aZ} (h : ly W) : ∀ x ∈ W,cm x = true:=fun x hx=>by
 obtain ⟨i,hi,e⟩:=wL hx
 rw [← e]; exact (h i hi).1
theorem yf : gA 32 = 1:=by kernel_rfl
theorem lD {s : cA} (h : cd s = true) : cm (eA s) = true:=by
 have h1 : ql s.f1 = true:=by unfold cd at h; simp only [Bool.and_eq_true] at h; exact h.2
 have h2 : cd (cA.mk (-1) s.f1 false false false false false false false false) = true:=by unfold cd; rw [h1]; rfl
 unfold cm eA
 simp only [h2,yf]
 simp [gk]
theorem sL {x : aZ} (h : cm x = true) : cd x.f3 = true:=by
 unfold cm at h
 cases hs : cd x.f3
 ·rw [hs] at h; simp at h
 ·rfl
theorem lO {W : List aZ} (h : ∀ x ∈ W,cm x = true) : ly (ce W):=by
 intro j hj
 rw [cB] at hj
 have key : ∀ i,i < W.length → cm (ef W i) = true:=fun i hi=>by
  have hm:=h _ (nF hi)
  unfold ef; split
  ·exact lD (sL hm)
  ·exact hm
 have b2 : ∀ i,i < W.length → ((ef W i).f2 = 2 ↔ (rd W (i : Int)).f2 = 2∧nz W ((i : Int) + 1) 0 (rd W (i : Int)).f3 = true):=fun i hi=>by
  unfold ef iM
  by_cases c1 : (rd W (i : Int)).f2 = 2
  ·cases c2 : nz W ((i : Int) + 1) 0 (rd W (i : Int)).f3 <;> simp [c1,eA]
  ·cases c2 : nz W ((i : Int) - 1) 2 (rd W (i : Int)).f3 <;> by_cases c3 : (rd W (i : Int)).f2 = 0 <;> simp [c1,c3,eA]
 have b0 : ∀ i,i < W.length → ((ef W i).f2 = 0 ↔ (rd W (i : Int)).f2 = 0∧nz W ((i : Int) - 1) 2 (rd W (i : Int)).f3 = true):=fun i hi=>by
  unfold ef iM
  by_cases c1 : (rd W (i : Int)).f2 = 0
  ·cases c2 : nz W ((i : Int) - 1) 2 (rd W (i : Int)).f3 <;> simp [c1,eA]
  ·cases c2 : nz W ((i : Int) + 1) 0 (rd W (i : Int)).f3 <;> by_cases c3 : (rd W (i : Int)).f2 = 2 <;> simp [c1,c3,eA]
 have k2 : ∀ i,(ef W i).f2 = 2 → ef W i = rd W (i : Int):=fun i hi=>by
  unfold ef at hi ⊢; split
  ·rename_i q; rw [if_pos q] at hi; simp [eA] at hi
  ·rfl
 have k0 : ∀ i,(ef W i).f2 = 0 → ef W i = rd W (i : Int):=fun i hi=>by
  unfold ef at hi ⊢; split
  ·rename_i q; rw [if_pos q] at hi; simp [eA] at hi
  ·rfl
 unfold uk
 rw [my hj,cB]
 refine ⟨key j hj,?_,?_,?_⟩
 ·rw [b0 j hj]
  constructor
  ·rintro ⟨c1,c2⟩
   unfold nz at c2
   simp only [decide_eq_true_eq] at c2
   obtain ⟨d1,d2,d3,d4⟩:=c2
   have d0 : 0 < j:=by omega
   have ej : (j : Int) - 1 = ((j - 1 : Nat) : Int):=by omega
   rw [ej] at d3 d4
   refine ⟨d0,?_⟩
   rw [my (by omega),b2 _ (by omega)]
   refine ⟨d3,?_⟩
   unfold nz
   rw [show ((j - 1 : Nat) : Int) + 1 = (j : Int) from by omega]
   simp only [decide_eq_true_eq]
   exact ⟨by omega,by omega,c1,d4.symm⟩
  ·rintro ⟨d0,c⟩
   rw [my (by omega),b2 _ (by omega)] at c
   obtain ⟨c1,c2⟩:=c
   unfold nz at c2
   rw [show ((j - 1 : Nat) : Int) + 1 = (j : Int) from by omega] at c2
   simp only [decide_eq_true_eq] at c2
   obtain ⟨e1,e2,e3,e4⟩:=c2
   refine ⟨e3,?_⟩
   unfold nz
   rw [show (j : Int) - 1 = ((j - 1 : Nat) : Int) from by omega]
   simp only [decide_eq_true_eq]
   exact ⟨by omega,by omega,c1,e4.symm⟩
 ·rintro ⟨d0,c⟩
  rw [my (by omega)] at c ⊢
  have c':=(b2 _ (by omega)).1 c
  rw [k2 _ c]
  obtain ⟨c1,c2⟩:=c'
  unfold nz at c2
  rw [show ((j - 1 : Nat) : Int) + 1 = (j : Int) from by omega] at c2
  simp only [decide_eq_true_eq] at c2
  obtain ⟨e1,e2,e3,e4⟩:=c2
  have z : (ef W j).f2 = 0:=by
   rw [b0 j hj]; refine ⟨e3,?_⟩
   unfold nz
   rw [show (j : Int) - 1 = ((j - 1 : Nat) : Int) from by omega]
   simp only [decide_eq_true_eq]
   exact ⟨by omega,by omega,c1,e4.symm⟩
  rw [k0 _ z]; exact e4
 ·rintro ⟨c,e⟩
  rw [b2 j hj] at c
  have c2:=c.2
  unfold nz at c2
  simp only [decide_eq_true_eq] at c2
  omega
theorem jv {xs ys : List aZ} {o : Nat} {x : aZ} (h : x ∈ bo xs o ys) : x ∈ xs ∨ x ∈ ys:=by
 unfold bo at h
 simp only [List.mem_append] at h
 rcases h with (h | h) | h
 ·exact .inl (List.mem_of_mem_take h)
 ·exact .inr h
 ·exact .inl (List.mem_of_mem_drop h)
theorem pg {W : List aZ} {d : Int} {b x : aZ} (h : x ∈ dC W d b) : x ∈ W ∨ x = b:=by
 unfold dC at h
 simp only [List.mem_map,List.mem_range] at h
 obtain ⟨j,hj,e⟩:=h
 split at e
 ·rename_i q
  rw [← e,List.getD_eq_getElem?_getD,List.getElem?_eq_getElem (by omega)]
  exact .inl (List.getElem_mem _)
 ·exact .inr e.symm
theorem sx {g : bF} {row : Int} {s : cA} {f : List aZ → List aZ} (h : ie g row s = true) (hf : ∀ W : List aZ,W.length = g.f0.toNat → (∀ x ∈ W,cm x = true) → (f W).length = W.length∧∀ x ∈ f W,cm x = true) : ci (lx g row f).1 = true:=by
 have hm : ci g = true:=by unfold ie at h; simp only [Bool.and_eq_true] at h; exact h.1
 obtain ⟨w,q,e0,e1,a,b,c,d,hl,hr⟩:=(eE g).1 hm
 obtain ⟨w',q',i,e0',e1',rfl,_,_,_,hi',hl',hb,hp⟩:=kI h
 obtain rfl : w' = w:=by omega
 obtain rfl : q' = q:=by omega
 unfold lx
 rw [e0] at hf ⊢
 simp only [Int.toNat_natCast] at hf ⊢
 have hw:=dE (xs:=g.f2) hp
 obtain ⟨f1,f2⟩:=hf _ hw (hr i hi').cells
 have hR : (ce (f (win g.f2 (i * w') w'))).length = w':=by rw [cB,f1,hw]
 rw [eE]
 refine ⟨w',q',rfl,e1,a,b,c,d,by rw [aM (by omega)]; exact hl,fun j hj=>?_⟩
 by_cases hij : j = i
 ·subst hij
  show ly (win (bo g.f2 (j * w') _) (j * w') w')
  rw [kz hR hp]
  exact lO f2
 ·show ly (win (bo g.f2 (i * w') _) (j * w') w')
  rw [kH hp hR]
  ·exact hr j hj
  ·rcases Nat.lt_or_ge j i with z | z
   ·left; have:=Nat.mul_le_mul_right w' (show j + 1 ≤ i from z); rw [Nat.add_mul] at this; omega
   ·right; have:=Nat.mul_le_mul_right w' (show i + 1 ≤ j from by omega); rw [Nat.add_mul] at this; omega
theorem jx (n : Nat) {s : cA} (h : cd s = true) : ly (List.replicate n (eA s)):=by
 intro j hj
 rw [List.length_replicate] at hj
 have e : ∀ i,i < n → rd (List.replicate n (eA s)) (i : Int) = eA s:=fun i hi=>by rw [eQ (by simpa using hi)]; simp
 unfold uk
 rw [e j hj]
 refine ⟨lD h,?_,?_,?_⟩
 ·constructor
  ·intro z; simp [eA] at z
  ·rintro ⟨z,y⟩; rw [e _ (by omega)] at y; simp [eA] at y
 ·rintro ⟨z,y⟩; rw [e _ (by omega)] at y; simp [eA] at y
 ·rintro ⟨z,_⟩; simp [eA] at z
theorem sv {W : List aZ} {w h p : Nat} {d : Int} {b : aZ} (hl : W.length = h * w) (hp : p < h) :
  win (dC W (d * (w : Int)) b) (p * w) w = if 0 ≤ (p : Int) + d∧(p : Int) + d < (h : Int) then win W (((p : Int) + d).toNat * w) w else List.replicate w b:=by
 have hpw:=eZ (w:=w) hp
 rw [Nat.mul_comm w h,← hl] at hpw
 apply List.ext_getElem?
 intro c
 rw [dX]
 by_cases hc : c < w
 ·rw [if_pos hc,lE (by omega)]
  have e : ((p * w + c : Nat) : Int) + d * (w : Int) = ((p : Int) + d) * (w : Int) + (c : Int):=by rw [Int.add_mul]; push_cast; omega
  rw [e,hl,show ((h * w : Nat) : Int) = (h : Int) * (w : Int) from by simp]
  have r1:=qU (p:=(p : Int) + d) hc
  have r2:=tq (p:=(p : Int) + d) (h:=(h : Int)) hc
  by_cases q : 0 ≤ (p : Int) + d∧(p : Int) + d < (h : Int)
  ·rw [if_pos ⟨r1.2 q.1,r2.2 q.2⟩,if_pos q,dX,if_pos hc]
   obtain ⟨z,hz⟩ : ∃ z : Nat,(p : Int) + d = (z : Int):=⟨((p : Int) + d).toNat,by omega⟩
   rw [hz] at q ⊢
   have hz2:=eZ (w:=w) (show z < h by omega)
   rw [Nat.mul_comm w h,← hl] at hz2
   rw [show ((z : Int) * (w : Int) + (c : Int)).toNat = z * w + c from by rw [show (z : Int) * (w : Int) + (c : Int) = ((z * w + c : Nat) : Int) from by simp]; exact Int.toNat_natCast _,Int.toNat_natCast,List.getD_eq_getElem?_getD,List.getElem?_eq_getElem (show z * w + c < W.length by omega)]
   rfl
  ·rw [if_neg (fun z=>q ⟨r1.1 z.1,r2.1 z.2⟩),if_neg q,List.getElem?_replicate,if_pos hc]
 ·rw [if_neg hc]
  split
  ·rw [dX,if_neg hc]
  ·rw [List.getElem?_replicate,if_neg hc]
theorem qV {g : bF} {t u d : Int} {s : cA} (h : (gn g t u d s).2 = 0) : ci (gn g t u d s).1 = true:=by
 unfold gn at h ⊢
 split
 ·rename_i h
  have hs : cd s = true:=by unfold gF at h; simp only [Bool.and_eq_true] at h; exact h.2.2.2.2
  have hm : ci g = true:=by unfold gF at h; simp only [Bool.and_eq_true] at h; exact h.1
  obtain ⟨w,q,e0,e1,a,b,c,d',hl,hr⟩:=(eE g).1 hm
  obtain ⟨w',q',i,j,e0',e1',rfl,rfl,_,_,_,hij,hj,hl',hb⟩:=iA h
  obtain rfl : w' = w:=by omega
  obtain rfl : q' = q:=by omega
  rw [e0]
  simp only [Int.toNat_natCast]
  have hm2 : i * w' + (j + 1 - i) * w' ≤ w' * q':=by
   rw [← Nat.add_mul,Nat.mul_comm w' q']
   exact Nat.mul_le_mul_right _ (by omega)
  have hW:=dE (xs:=g.f2) (o:=i * w') (n:=(j + 1 - i) * w') (by omega)
  have hS : (dC (win g.f2 (i * w') ((j + 1 - i) * w')) (d * (w' : Int)) (eA s)).length = (j + 1 - i) * w':=by rw [dF,hW]
  have hgood : ∀ p,p < j + 1 - i → ly (win (dC (win g.f2 (i * w') ((j + 1 - i) * w')) (d * (w' : Int)) (eA s)) (p * w') w'):=fun p hp=>by
   rw [sv hW hp]
   split
   ·rename_i z
    obtain ⟨y,hy⟩ : ∃ y : Nat,(p : Int) + d = (y : Int):=⟨((p : Int) + d).toNat,by omega⟩
    rw [hy] at z ⊢
    rw [Int.toNat_natCast]
    have hy2:=eZ (w:=w') (show y < j + 1 - i by omega)
    rw [Nat.mul_comm w' (j + 1 - i)] at hy2
    have : win (win g.f2 (i * w') ((j + 1 - i) * w')) (y * w') w' = win g.f2 ((i + y) * w') w':=by
     apply List.ext_getElem?
     intro c'
     rw [dX,dX,dX]
     by_cases hc : c' < w'
     ·rw [if_pos hc,if_pos (by omega),if_pos hc,Nat.add_mul]; congr 1; omega
     ·rw [if_neg hc,if_neg hc]
    rw [this]
    exact hr _ (by omega)
   ·exact jx w' hs
  generalize dC (win g.f2 (i * w') ((j + 1 - i) * w')) (d * (w' : Int)) (eA s) = R at hS hgood
  rw [eE]
  refine ⟨w',q',rfl,e1,a,b,c,d',by rw [aM (by omega)]; exact hl,fun p hp=>?_⟩
  show ly (win (bo g.f2 (i * w') R) (p * w') w')
  have hpp:=eZ (w:=w') hp
  by_cases c1 : p < i
  ·have e : win (bo g.f2 (i * w') R) (p * w') w' = win g.f2 (p * w') w':=by
    have:=Nat.mul_le_mul_right w' (show p + 1 ≤ i from c1)
    rw [Nat.add_mul] at this
    apply List.ext_getElem?
    intro c'
    rw [dX,dX,dp (by omega)]
    by_cases hc : c' < w'
    ·rw [if_pos hc,if_pos hc,if_pos (by omega)]
    ·rw [if_neg hc,if_neg hc]
   rw [e]; exact hr p hp
  ·by_cases c2 : p ≤ j
   ·have e : win (bo g.f2 (i * w') R) (p * w') w' = win R ((p - i) * w') w':=by
     have e1 : p * w' = i * w' + (p - i) * w':=by rw [← Nat.add_mul]; congr 1; omega
     have e2:=eZ (w:=w') (show p - i < j + 1 - i by omega)
     rw [Nat.mul_comm w' (j + 1 - i)] at e2
     apply List.ext_getElem?
     intro c'
     rw [dX,dX,dp (by omega)]
     by_cases hc : c' < w'
     ·rw [if_pos hc,if_pos hc,if_neg (by omega),if_pos (by omega)]; congr 1; omega
     ·rw [if_neg hc,if_neg hc]
    rw [e]; exact hgood _ (by omega)
   ·have e : win (bo g.f2 (i * w') R) (p * w') w' = win g.f2 (p * w') w':=by
     have:=Nat.mul_le_mul_right w' (show j + 1 ≤ p by omega)
     have e1 : i * w' + (j + 1 - i) * w' = (j + 1) * w':=by rw [← Nat.add_mul]; congr 1; omega
     apply List.ext_getElem?
     intro c'
     rw [dX,dX,dp (by omega)]
     by_cases hc : c' < w'
     ·rw [if_pos hc,if_pos hc,if_neg (by omega),if_neg (by omega)]
     ·rw [if_neg hc,if_neg hc]
    rw [e]; exact hr p hp
 ·rename_i q; rw [if_neg q] at h; simp [no] at h
theorem rJ {X : List aZ} {w w' q q' : Nat} (hX : ∀ i,i < q → ∀ x ∈ win X (i * w) w,cm x = true) : ∀ (n i : Nat) (Z : List aZ),i + n ≤ q' → i + n ≤ q → Z.length = w' * q' → (∀ p,p < q' → ly (win Z (p * w') w')) → ∀ p,p < q' → ly (win (mA X w w' n i Z) (p * w') w')
 | 0,i,Z,_,_,hl,h,p,hp=>h p hp
 | n + 1,i,Z,h1,h2,hl,h,p,hp=>by
  have hi:=eZ (w:=w') (i:=i) (q:=q') (by omega)
  have ht : ((win X (i * w) w).take w').length ≤ w':=by rw [List.length_take]; omega
  have hR : (ce (bo (win Z (i * w') w') 0 ((win X (i * w) w).take w'))).length = w':=by rw [cB,aM (by rw [dE (by omega)]; omega),dE (by omega)]
  rw [mA]
  refine rJ hX n (i + 1) _ (by omega) (by omega) (by rw [lj (by omega)]; exact hl) (fun r hr=>?_) p hp
  by_cases hir : r = i
  ·subst hir
   rw [kz hR (by omega)]
   refine lO fun x hx=>?_
   rcases jv hx with z | z
   ·exact (h r hr).cells x z
   ·exact hX r (by omega) x (List.mem_of_mem_take z)
  ·rw [kH (by omega) hR]
   ·exact h r hr
   ·rcases Nat.lt_or_ge r i with z | z
    ·left; have:=Nat.mul_le_mul_right w' (show r + 1 ≤ i from z); rw [Nat.add_mul] at this; omega
    ·right; have:=Nat.mul_le_mul_right w' (show i + 1 ≤ r from by omega); rw [Nat.add_mul] at this; omega
theorem kK {w q p : Nat} {b : aZ} (hp : p < q) : win (List.replicate (w * q) b) (p * w) w = List.replicate w b:=by
 have:=eZ (w:=w) hp
 apply List.ext_getElem?
 intro c
 rw [dX,List.getElem?_replicate,List.getElem?_replicate]
 by_cases hc : c < w
 ·rw [if_pos hc,if_pos hc,if_pos (by omega)]
 ·rw [if_neg hc,if_neg hc]
theorem ow {g : bF} {c r : Int} {s : cA} (h : (dr g c r s).2 = 0) : ci (dr g c r s).1 = true:=by
 unfold dr at h ⊢
 split
 ·rename_i h
  simp only [Bool.and_eq_true] at h
  obtain ⟨hm,hs,hy⟩:=h
  obtain ⟨w,q,e0,e1,_,_,_,_,hlen,hr⟩:=(eE g).1 hm
  obtain ⟨w',q',rfl,rfl,a,b,c',d,hq,hc,_⟩:=fL hs
  rw [hc,e0,e1]
  simp only [Int.toNat_natCast]
  rw [eE]
  refine ⟨w',q',rfl,rfl,a,b,c',d,me _ _ _ (by omega) (by simp),?_⟩
  exact rJ (q:=q) (fun i hi=>(hr i hi).cells) _ _ _ (by omega) (by omega) (by simp) (fun p hp=>by rw [kK hp]; exact jx _ hy)
 ·rename_i q; rw [if_neg q] at h; simp [no] at h
end Go.Proofs.YtckilbegmbaeeaaGreat.Z3Sp
namespace Go.Proofs.YtckilbegmbaeeaaGreat.Z3May
open Go Go.RowKit Go.Proofs.YtckilbegmbaeeaaGreat.SL Go.Proofs.YtckilbegmbaeeaaGreat.Z3 Go.Proofs.YtckilbegmbaeeaaGreat.Z3Sp
set_option linter.unusedVariables false
set_option linter.unusedSimpArgs false
def jw (g : bF) (r c : Int) (p : Bool) : Bool:=decide (0 ≤ r) && decide (r < g.f1) && decide (0 ≤ c) && decide (c < g.f0) && (!p || decide (c = g.f0 - 1))
def fg (w : Int) : Int → List Int → Bool
 | _,[]=>true
 | last,c::r=>decide (last < c) && decide (c < w) && fg w c r
def kw (s : aG) : Bool:=if s.f15 = true then ci s.f16 && decide (s.f16.f0 = s.f0.f0) && decide (s.f16.f1 = s.f0.f1) else decide (s.f16.f0 = 0) && decide (s.f16.f1 = 0) && decide (s.f16.f2.length = 0)
def nn (l : List Int) : Bool:=l.all fun c=>decide (0 ≤ c)
theorem rL {c : Int} {r : List Int} : nn (c::r) = (decide (0 ≤ c) && nn r):=rfl
theorem wK : nn [] = true:=rfl
def mB (l : List Int) : Bool:=decide (l.length ≤ 256) && nn l
def co (s : aG) : Bool:=ci s.f0 && cd s.f4 && cd s.f14.f4 && (decide (0 ≤ s.f5) && decide (s.f5 ≤ s.f6) && decide (s.f6 < s.f0.f1)) &&
 jw s.f0 s.f1 s.f2 s.f3 && jw s.f0 s.f14.f0 s.f14.f1 s.f14.f2 && fg s.f0.f0 (-1) s.f7 && kw s && mB s.f17
theorem mX {g : bF} (h : ci g = true) : 1 ≤ g.f0∧g.f0 ≤ 512:=by
 unfold ci at h
 simp only [Bool.and_eq_true,decide_eq_true_eq] at h
 exact ⟨h.1.1,h.1.2.1⟩
theorem wY {α : Type} [Inhabited α] (a b : α) : rd [a,b] 0 = a:=rfl
theorem gy {α : Type} [Inhabited α] (a b : α) : rd [a,b] 1 = b:=rfl
theorem dn {a b : Int} : decide (a ≤ b) = !decide (b < a):=by by_cases h : b < a <;> simp [h] <;> omega
theorem vF {r c h w v : Int} {p : Bool} : (if (decide (r < 0) || decide (r ≥ h) || decide (c < 0) || decide (c ≥ w)) = true then some true else (if p = true then some (decide (c ≠ v)) else some false) : Option Bool) =
  some (!(decide (0 ≤ r) && decide (r < h) && decide (0 ≤ c) && decide (c < w) && (!p || decide (c = v)))):=by
 have e1 : decide (r ≥ h) = !decide (r < h):=dn
 have e2 : decide (c ≥ w) = !decide (c < w):=dn
 have e3 : decide (c ≠ v) = !decide (c = v):=by simp
 rw [e1,e2,e3,dn (a:=0) (b:=r),dn (a:=0) (b:=c)]
 generalize decide (r < 0) = b1
 generalize decide (r < h) = b2
 generalize decide (c < 0) = b3
 generalize decide (c < w) = b4
 generalize decide (c = v) = b5
 cases b1 <;> cases b2 <;> cases b3 <;> cases b4 <;> cases b5 <;> cases p <;> rfl
theorem AT (s : aG) (hw : 1 ≤ s.f0.f0∧s.f0.f0 ≤ 512) (k : Nat) (hk : 44 ≤ k) : ei.l0 s k 0 = some (if (jw s.f0 s.f1 s.f2 s.f3 && jw s.f0 s.f14.f0 s.f14.f1 s.f14.f2) = true then Out.go () else Out.ret false):=by
 obtain ⟨k,rfl⟩ : ∃ j,k = j + 3:=⟨k - 3,by omega⟩
 have ew : IntKind.i64.wrap (s.f0.f0 - 1) = s.f0.f0 - 1:=eO (by omega) (by omega)
 unfold jw
 have n0 : (0 : Int) < 2:=by decide
 have n1 : (1 : Int) < 2:=by decide
 have n2 : ¬ (2 : Int) < 2:=by decide
 have m0 : (0 : Int) ≤ 0∧(0 : Int) < 2:=by decide
 have m1 : (0 : Int) ≤ 1∧(1 : Int) < 2:=by decide
 rw [ei.l0,if_pos n0,if_pos m0,wY,xP,ei.l0,if_pos n1,if_pos m1,gy,zb,ei.l0,if_neg n2]
 simp only [lt]
 rw [ew,vF,vF]
 simp only [Option.bind_some]
 generalize (decide (0 ≤ s.f1) && decide (s.f1 < s.f0.f1) && decide (0 ≤ s.f2) && decide (s.f2 < s.f0.f0) && (!s.f3 || decide (s.f2 = s.f0.f0 - 1))) = b1
 generalize (decide (0 ≤ s.f14.f0) && decide (s.f14.f0 < s.f0.f1) && decide (0 ≤ s.f14.f1) && decide (s.f14.f1 < s.f0.f0) && (!s.f14.f2 || decide (s.f14.f1 = s.f0.f0 - 1))) = b2
 cases b1 <;> cases b2 <;> simp
theorem yg (g : bF) (hw : 1 ≤ g.f0∧g.f0 ≤ 512) (r c : Int) (p : Bool) : mh.f g r c p = some (jw g r c p):=by
 have ew : IntKind.i64.wrap (g.f0 - 1) = g.f0 - 1:=eO (by omega) (by omega)
 unfold mh.f jw
 simp only [lt,ew,ge_iff_le,Option.bind_some]
 generalize decide (0 ≤ r) = b1
 generalize decide (r < g.f1) = b2
 generalize decide (0 ≤ c) = b3
 generalize decide (c < g.f0) = b4
 generalize decide (c = g.f0 - 1) = b5
 cases b1 <;> cases b2 <;> cases b3 <;> cases b4 <;> cases b5 <;> cases p <;> rfl
theorem yd (s : aG) (hs : s.f7.length < 4611686018427387904) : ∀ (n k : Nat) (a : Int) (i : Nat),i + n = s.f7.length → n < k → ei.l1 s k a (i : Int) = some (if fg s.f0.f0 a (s.f7.drop i) = true then Out.go () else Out.ret false)
 | n,0,_,_,_,h=>by omega
 | 0,k + 1,a,i,h,hk=>by rw [ei.l1,if_neg (by omega),List.drop_of_length_le (by omega)]; rfl
 | n + 1,k + 1,a,i,h,hk=>by
  have hi : i < s.f7.length:=by omega
  have ew : IntKind.i64.wrap ((i : Int) + 1) = ((i + 1 : Nat) : Int):=by rw [eO (by omega) (by omega)]; rfl
  rw [ei.l1,if_pos (by omega),if_pos (by omega),ew,eQ hi,List.drop_eq_getElem_cons hi,fg]
  simp only [lt]
  rw [yd s hs n k _ (i + 1) (by omega) (by omega)]
  generalize fg s.f0.f0 s.f7[i] (s.f7.drop (i + 1)) = b
  generalize s.f7[i] = c
  by_cases h1 : a < c <;> by_cases h2 : c < s.f0.f0 <;> simp [h1,h2] <;> first | omega | (rw [if_pos (by omega)]) | (rw [if_neg (by omega)])
theorem yc (s : aG) (hs : s.f7.length < 4611686018427387904) : ∀ (n k : Nat) (i : Nat),i + n = s.f7.length → n < k → (0 < i → 0 ≤ rd s.f7 ((i - 1 : Nat) : Int)) →
  fS.l0 s k (i : Int) = some (if fg s.f0.f0 (if i = 0 then -1 else rd s.f7 ((i - 1 : Nat) : Int)) (s.f7.drop i) = true then Out.go () else Out.ret false)
 | n,0,_,_,h,_=>by omega
 | 0,k + 1,i,h,hk,_=>by rw [fS.l0,if_neg (by omega),List.drop_of_length_le (by omega)]; rfl
 | n + 1,k + 1,i,h,hk,hp=>by
  have hi : i < s.f7.length:=by omega
  have ew : IntKind.i64.wrap ((i : Int) + 1) = ((i + 1 : Nat) : Int):=by rw [eO (by omega) (by omega)]; rfl
  have hb2 : 0 ≤ (i : Int)∧(i : Int) < (s.f7.length : Int):=by omega
  have ih : 0 ≤ rd s.f7 (i : Int) → fS.l0 s k ((i + 1 : Nat) : Int) = some (if fg s.f0.f0 (rd s.f7 (i : Int)) (s.f7.drop (i + 1)) = true then Out.go () else Out.ret false):=fun q=>by
   have z:=yc s hs n k (i + 1) (by omega) (by omega) (fun _=>q)
   rwa [if_neg (Nat.succ_ne_zero i)] at z
  rw [fS.l0,if_pos (by omega),ew,List.drop_eq_getElem_cons hi,fg]
  simp only [lt,if_pos hb2,if_true]
  rw [← eQ hi]
  rcases Nat.eq_zero_or_pos i with h0 | h0
  ·subst h0
   have hz : ¬ (((0 : Nat) : Int) > 0):=by omega
   simp only [hz,if_false,if_true]
   by_cases h1 : rd s.f7 ((0 : Nat) : Int) < 0
   ·have h3 : ¬ (-1 < rd s.f7 ((0 : Nat) : Int)):=by omega
    simp only [h1,h3,if_true,decide_false,Bool.false_and,Option.bind_some,Bool.false_eq_true,if_false]
   ·have h3 : -1 < rd s.f7 ((0 : Nat) : Int):=by omega
    rw [ih (by omega)]
    generalize fg s.f0.f0 (rd s.f7 ((0 : Nat) : Int)) (s.f7.drop (0 + 1)) = b
    by_cases h2 : rd s.f7 ((0 : Nat) : Int) < s.f0.f0
    ·have h4 : ¬ (rd s.f7 ((0 : Nat) : Int) ≥ s.f0.f0):=by omega
     simp only [h1,h2,h3,h4,if_false,decide_true,Bool.true_and,Option.bind_some,Bool.false_eq_true]
    ·have h4 : rd s.f7 ((0 : Nat) : Int) ≥ s.f0.f0:=by omega
     simp only [h1,h2,h3,h4,if_false,if_true,decide_true,decide_false,Bool.true_and,Bool.false_and,Option.bind_some,Bool.false_eq_true]
  ·have hz : ((i : Int) > 0):=by omega
   have ew2 : IntKind.i64.wrap ((i : Int) - 1) = ((i - 1 : Nat) : Int):=by rw [eO (by omega) (by omega)]; omega
   have hb : 0 ≤ ((i - 1 : Nat) : Int)∧((i - 1 : Nat) : Int) < (s.f7.length : Int):=by omega
   have hp1:=hp h0
   have hi0 : ¬ i = 0:=by omega
   simp only [hz,ew2,if_pos hb,if_true,hi0,if_false]
   generalize rd s.f7 ((i - 1 : Nat) : Int) = p at hp1
   by_cases h1 : rd s.f7 (i : Int) < 0
   ·have h3 : ¬ (p < rd s.f7 (i : Int)):=by omega
    simp only [h1,h3,if_true,decide_false,Bool.false_and,Option.bind_some,Bool.false_eq_true,if_false]
   ·rw [ih (by omega)]
    generalize fg s.f0.f0 (rd s.f7 (i : Int)) (s.f7.drop (i + 1)) = b
    by_cases h2 : rd s.f7 (i : Int) < s.f0.f0
    ·have h4 : ¬ (rd s.f7 (i : Int) ≥ s.f0.f0):=by omega
     by_cases h5 : p < rd s.f7 (i : Int)
     ·have h6 : ¬ (rd s.f7 (i : Int) ≤ p):=by omega
      simp only [h1,h2,h4,h5,h6,if_false,decide_true,decide_false,Bool.true_and,Option.bind_some,Bool.false_eq_true]
     ·have h6 : rd s.f7 (i : Int) ≤ p:=by omega
      simp only [h1,h2,h4,h5,h6,if_false,if_true,decide_true,decide_false,Bool.true_and,Bool.false_and,Option.bind_some,Bool.false_eq_true]
    ·have h4 : rd s.f7 (i : Int) ≥ s.f0.f0:=by omega
     simp only [h1,h2,h4,if_false,if_true,decide_true,decide_false,Bool.and_false,Bool.false_and,Option.bind_some,Bool.false_eq_true]
theorem wm (a : List aZ) (k : Nat) (hk : 0 < k) : jB.f k a ([] : List aZ) = some (decide (a.length = 0)):=by
 unfold jB.f
 obtain ⟨k,rfl⟩ : ∃ j,k = j + 1:=⟨k - 1,by omega⟩
 by_cases h : a.length = 0
 ·rw [if_neg (by simp [h]),jB.l0,if_neg (by omega)]; simp [ku,jh,h]
 ·rw [if_pos (by simpa using h)]; simp [h]
theorem xQ (l : List Int) (hl : l.length < 4611686018427387904) : ∀ (n k : Nat) (i : Nat),i + n = l.length → n < k → ∃ t,iZ.l0 l (fun x=>vg.f x) k (i : Int) = some t∧(nn (l.drop i) = true → t = Out.go ())∧(nn (l.drop i) = false → ∃ j : Nat,t = Out.ret (j : Int))
 | n,0,_,_,h=>by omega
 | 0,k + 1,i,h,hk=>⟨_,by rw [iZ.l0,if_neg (by omega)],fun _=>rfl,fun q=>by rw [List.drop_of_length_le (by omega),wK] at q; cases q⟩
 | n + 1,k + 1,i,h,hk=>by
  have hi : i < l.length:=by omega
  have ew : IntKind.i64.wrap ((i : Int) + 1) = ((i + 1 : Nat) : Int):=by rw [eO (by omega) (by omega)]; rfl
  obtain ⟨t,h1,h2,h3⟩:=xQ l hl n k (i + 1) (by omega) (by omega)
  rw [iZ.l0,if_pos (by omega),if_pos (by omega),ew,eQ hi,List.drop_eq_getElem_cons hi,h1]
  rw [rL]
  simp only [vg.f,Option.bind_some]
  by_cases hc : l[i] < 0
  ·refine ⟨_,by rw [if_pos (by simpa using hc)],fun q=>?_,fun _=>⟨i,rfl⟩⟩
   simp only [Bool.and_eq_true,decide_eq_true_eq] at q; omega
  ·have e : decide (0 ≤ l[i]) = true:=decide_eq_true (by omega)
   refine ⟨t,by rw [if_neg (by simpa using hc)],fun q=>?_,fun q=>?_⟩
   ·rw [e,Bool.true_and] at q; exact h2 q
   ·rw [e,Bool.true_and] at q; exact h3 q
theorem mF (l : List Int) (hl : l.length < 4611686018427387904) (k : Nat) (hk : l.length < k) : qi.f k l (fun x=>vg.f x) = some (!nn l):=by
 obtain ⟨t,h1,h2,h3⟩:=xQ l hl l.length k 0 (by omega) hk
 rw [show ((0 : Nat) : Int) = 0 from rfl] at h1
 rw [List.drop_zero] at h2 h3
 unfold qi.f iZ.f
 rw [h1]
 cases hb : nn l
 ·obtain ⟨j,rfl⟩:=h3 hb
  simp [ku,jh]
 ·rw [h2 hb]; simp [ku,jh]
theorem yT (s : aG) (hs : s.f17.length < 4611686018427387904) : ∀ (n k : Nat) (i : Nat),i + n = s.f17.length → n < k → fS.l1 s k (i : Int) = some (if nn (s.f17.drop i) = true then Out.go () else Out.ret false)
 | n,0,_,_,h=>by omega
 | 0,k + 1,i,h,hk=>by rw [fS.l1,if_neg (by omega),List.drop_of_length_le (by omega)]; rfl
 | n + 1,k + 1,i,h,hk=>by
  have hi : i < s.f17.length:=by omega
  have ew : IntKind.i64.wrap ((i : Int) + 1) = ((i + 1 : Nat) : Int):=by rw [eO (by omega) (by omega)]; rfl
  rw [fS.l1,if_pos (by omega),if_pos (by omega),ew,eQ hi,List.drop_eq_getElem_cons hi]
  simp only [lt]
  rw [rL,yT s hs n k (i + 1) (by omega) (by omega)]
  generalize nn (s.f17.drop (i + 1)) = b
  generalize s.f17[i] = c
  by_cases h1 : c < 0
  ·have : ¬ (0 ≤ c):=by omega
   simp [h1,this]
  ·have : 0 ≤ c:=by omega
   simp [h1,this]
structure Sg (s : aG) : Prop where
 g : Gr s.f0
 m : Gr s.f16
 t : s.f7.length < 17592186044416
 u : s.f17.length < 35184372088832
theorem f74 (s : aG) (hs : Sg s) (k : Nat) (hk : 40000000000000 ≤ k) : ei.f k s = some (co s):=by
 have h2 : s.f7.length < 4611686018427387904:=by have:=hs.t; omega
 have h4 : s.f17.length < 4611686018427387904:=by have:=hs.u; omega
 have h4':=hs.u
 have h2':=hs.t
 unfold ei.f co
 rw [uD _ hs.g k (by omega),uD _ hs.m k (by omega),xC,xC,mF _ h4 k (by omega)]
 simp only [Option.bind_some]
 cases hg : ci s.f0
 ·simp [lt]
 ·have hb:=yd s h2 s.f7.length k (-1) 0 (by omega) (by omega)
  rw [show ((0 : Nat) : Int) = 0 from rfl,List.drop_zero] at hb
  have h50 : pR.f k s.f16 (bF.mk 0 0 ([] : List aZ)) = some (decide (s.f16.f0 = 0) && decide (s.f16.f1 = 0) && decide (s.f16.f2.length = 0)):=by
   unfold pR.f
   simp only [lt,wm _ k (by omega),Option.bind_some]
   by_cases q : (decide (s.f16.f0 = 0) && decide (s.f16.f1 = 0)) = true
   ·rw [if_pos q,q]; simp
   ·rw [if_neg q]; simp only [Bool.not_eq_true] at q; rw [q]; simp
  rw [AT s (mX hg) k (by omega),hb,h50]
  unfold kw mB
  have e5 : decide (0 ≤ s.f5) = !decide (s.f5 < 0):=dn
  have e6 : decide (s.f5 ≤ s.f6) = !decide (s.f5 > s.f6):=dn
  have e7 : decide (s.f6 ≥ s.f0.f1) = !decide (s.f6 < s.f0.f1):=dn
  have et : ((s.f17.length : Int) ≤ 256) ↔ s.f17.length ≤ 256:=by omega
  simp only [lt,e5,e6,e7,et]
  generalize cd s.f4 = b1
  generalize cd s.f14.f4 = b2
  generalize decide (s.f5 < 0) = b3
  generalize decide (s.f5 > s.f6) = b4
  generalize decide (s.f6 < s.f0.f1) = b5
  generalize jw s.f0 s.f1 s.f2 s.f3 = b6
  generalize jw s.f0 s.f14.f0 s.f14.f1 s.f14.f2 = b7
  generalize fg s.f0.f0 (-1) s.f7 = b8
  generalize nn s.f17 = b9
  cases b1 <;> cases b2 <;> cases b3 <;> cases b4 <;> cases b5 <;> cases b6 <;> cases b7 <;> cases b8 <;> simp [ku,jh]
  by_cases ht : s.f17.length ≤ 256 <;> cases ha : s.f15
  ·by_cases q3 : s.f16.f0 = 0 <;> by_cases q4 : s.f16.f1 = 0 <;> by_cases q5 : s.f16.f2 = [] <;> cases b9 <;> simp [ht,q3,q4,q5]
  ·cases hm : ci s.f16 <;> by_cases q1 : s.f16.f0 = s.f0.f0 <;> by_cases q2 : s.f16.f1 = s.f0.f1 <;> cases b9 <;> simp [ht,q1,q2]
  ·by_cases q3 : s.f16.f0 = 0 <;> by_cases q4 : s.f16.f1 = 0 <;> by_cases q5 : s.f16.f2 = [] <;> cases b9 <;> simp [ht,q3,q4,q5]
  ·cases hm : ci s.f16 <;> by_cases q1 : s.f16.f0 = s.f0.f0 <;> by_cases q2 : s.f16.f1 = s.f0.f1 <;> cases b9 <;> simp [ht,q1,q2]
theorem FO (s : aG) (hs : Sg s) (k : Nat) (hk : 40000000000000 ≤ k) : fS.f k s = some (co s):=by
 have h2 : s.f7.length < 4611686018427387904:=by have:=hs.t; omega
 have h4 : s.f17.length < 4611686018427387904:=by have:=hs.u; omega
 have h4':=hs.u
 have h2':=hs.t
 unfold fS.f co
 rw [uK _ hs.g k (by omega),uK _ hs.m k (by omega),yq,yq]
 simp only [Option.bind_some]
 cases hg : ci s.f0
 ·simp [lt]
 ·have ha:=yc s h2 s.f7.length k 0 (by omega) (by omega) (fun h=>by omega)
  rw [if_pos rfl,show ((0 : Nat) : Int) = 0 from rfl,List.drop_zero] at ha
  have hb:=yT s h4 s.f17.length k 0 (by omega) (by omega)
  rw [show ((0 : Nat) : Int) = 0 from rfl,List.drop_zero] at hb
  rw [yg _ (mX hg),yg _ (mX hg),ha,hb]
  unfold kw mB
  have e5 : decide (0 ≤ s.f5) = !decide (s.f5 < 0):=dn
  have e6 : decide (s.f5 ≤ s.f6) = !decide (s.f5 > s.f6):=dn
  have e7 : decide (s.f6 ≥ s.f0.f1) = !decide (s.f6 < s.f0.f1):=dn
  have et : ((s.f17.length : Int) > 256) ↔ ¬ s.f17.length ≤ 256:=by omega
  simp only [lt,e5,e6,e7,et]
  generalize cd s.f4 = b1
  generalize cd s.f14.f4 = b2
  generalize decide (s.f5 < 0) = b3
  generalize decide (s.f5 > s.f6) = b4
  generalize decide (s.f6 < s.f0.f1) = b5
  generalize jw s.f0 s.f1 s.f2 s.f3 = b6
  generalize jw s.f0 s.f14.f0 s.f14.f1 s.f14.f2 = b7
  generalize fg s.f0.f0 (-1) s.f7 = b8
  generalize nn s.f17 = b9
  cases b1 <;> cases b2 <;> cases b3 <;> cases b4 <;> cases b5 <;> cases b6 <;> cases b7 <;> cases b8 <;> simp [ku,jh]
  by_cases ht : s.f17.length ≤ 256 <;> cases ha : s.f15
  ·by_cases q3 : s.f16.f0 = 0 <;> by_cases q4 : s.f16.f1 = 0 <;> by_cases q5 : s.f16.f2 = [] <;> cases b9 <;> simp [ht,q3,q4,q5,ku,jh]
  ·cases hm : ci s.f16 <;> by_cases q1 : s.f16.f0 = s.f0.f0 <;> by_cases q2 : s.f16.f1 = s.f0.f1 <;> cases b9 <;> simp [ht,q1,q2,ku,jh]
  ·by_cases q3 : s.f16.f0 = 0 <;> by_cases q4 : s.f16.f1 = 0 <;> by_cases q5 : s.f16.f2 = [] <;> cases b9 <;> simp [ht,q3,q4,q5,ku,jh]
  ·cases hm : ci s.f16 <;> by_cases q1 : s.f16.f0 = s.f0.f0 <;> by_cases q2 : s.f16.f1 = s.f0.f1 <;> cases b9 <;> simp [ht,q1,q2,ku,jh]
end Go.Proofs.YtckilbegmbaeeaaGreat.Z3May
namespace Go.Proofs.YtckilbegmbaeeaaGreat.Z3Sc
open Go Go.RowKit Go.Proofs.YtckilbegmbaeeaaGreat.SL Go.Proofs.YtckilbegmbaeeaaGreat.Z3 Go.Proofs.YtckilbegmbaeeaaGreat.Z3May Go.Proofs.YtckilbegmbaeeaaGreat.Z3Ls Go.Proofs.YtckilbegmbaeeaaGreat.Z3Op Go.Proofs.YtckilbegmbaeeaaGreat.Z3Sp
set_option linter.unusedVariables false
set_option linter.unusedSimpArgs false
def fX (x : aZ) : Prop:=0 ≤ x.f2∧x.f2 < 256
theorem nH (s : cA) : fX (eA s):=by constructor <;> simp [eA]
theorem mD {W : List aZ} (h : ∀ x ∈ W,fX x) : ∀ x ∈ ce W,fX x:=fun x hx=>by
 unfold ce at hx
 simp only [List.mem_map,List.mem_range] at hx
 obtain ⟨i,hi,rfl⟩:=hx
 unfold ef; split
 ·exact nH _
 ·exact h _ (nF hi)
theorem kL {X : List aZ} {o n : Nat} (h : ∀ x ∈ X,fX x) : ∀ x ∈ win X o n,fX x:=fun x hx=>h x (List.mem_of_mem_drop (List.mem_of_mem_take hx))
theorem hD {X Y : List aZ} {o : Nat} (h : ∀ x ∈ X,fX x) (h2 : ∀ x ∈ Y,fX x) : ∀ x ∈ bo X o Y,fX x:=fun x hx=>by
 rcases jv hx with q | q
 ·exact h x q
 ·exact h2 x q
theorem lM {n : Nat} {s : cA} : ∀ x ∈ List.replicate n (eA s),fX x:=fun x hx=>by rw [(List.mem_replicate.1 hx).2]; exact nH s
theorem oP {W : List aZ} {d : Int} {s : cA} (h : ∀ x ∈ W,fX x) : ∀ x ∈ dC W d (eA s),fX x:=fun x hx=>by
 rcases pg hx with q | q
 ·exact h x q
 ·rw [q]; exact nH s
theorem sO {g : bF} {row : Int} {f : List aZ → List aZ} (h : ∀ x ∈ g.f2,fX x) (hf : ∀ W : List aZ,(∀ x ∈ W,fX x) → ∀ x ∈ f W,fX x) : ∀ x ∈ (lx g row f).1.f2,fX x :=
 hD h (mD (hf _ (kL h)))
theorem tZ : ∀ x ∈ no.1.f2,fX x:=fun x hx=>by simp [no] at hx
theorem rm {g : bF} {t u d : Int} {s : cA} (h : ∀ x ∈ g.f2,fX x) : ∀ x ∈ (gn g t u d s).1.f2,fX x:=by
 unfold gn; split
 ·exact hD h (oP (kL h))
 ·exact tZ
theorem ss {X : List aZ} {w w' : Nat} (h : ∀ x ∈ X,fX x) : ∀ (n i : Nat) (Z : List aZ),(∀ x ∈ Z,fX x) → ∀ x ∈ mA X w w' n i Z,fX x
 | 0,i,Z,hZ=>hZ
 | n + 1,i,Z,hZ=>ss h n (i + 1) _ (hD hZ (mD (hD (kL hZ) fun x hx=>kL h x (List.mem_of_mem_take hx))))
theorem nT {g : bF} {c r : Int} {s : cA} (h : ∀ x ∈ g.f2,fX x) : ∀ x ∈ (dr g c r s).1.f2,fX x:=by
 unfold dr; split
 ·exact ss h _ _ _ lM
 ·exact tZ
theorem zL {g : bF} (h1 : g.f2.length ≤ 262144) (h2 : ∀ x ∈ g.f2,fX x) : Gr g:=⟨by omega,h2⟩
theorem qh {X Y : List aZ} {w q : Nat} (hX : X.length = w * q) (hY : Y.length = w * q) (h : ∀ n,n < q → win X (n * w) w = win Y (n * w) w) : X = Y:=by
 apply List.ext_getElem?
 intro i
 by_cases hi : i < w * q
 ·have hw : 0 < w:=by
   rcases Nat.eq_zero_or_pos w with h | h
   ·subst h; simp at hi
   ·exact h
  have h1:=Nat.mod_lt i hw
  have h2:=Nat.div_add_mod i w
  have h3 : i / w < q:=Nat.div_lt_of_lt_mul hi
  have e:=congrArg (·[i % w]?) (h _ h3)
  simp only [dX,h1,if_true] at e
  rwa [show i / w * w + i % w = i from by rw [Nat.mul_comm]; omega] at e
 ·rw [List.getElem?_eq_none (by omega),List.getElem?_eq_none (by omega)]
theorem sd {W : List aZ} (h : ly W) : ce W = W:=by
 apply List.ext_getElem?
 intro i
 by_cases hi : i < W.length
 ·rw [iD (xs:=ce W) (by rw [cB]; exact hi),my hi,iD hi]
  congr 1
  unfold ef
  rw [if_neg]
  intro hb
  obtain ⟨h1,h2,h3,h4⟩:=h i hi
  unfold iM at hb
  simp only [Bool.or_eq_true,Bool.and_eq_true,decide_eq_true_eq,Bool.not_eq_true'] at hb
  rcases hb with ⟨b1,b2⟩ | ⟨b1,b2⟩
  ·have hl : i + 1 < W.length:=by
    rcases Nat.lt_or_ge (i + 1) W.length with z | z
    ·exact z
    ·exact absurd ⟨b1,by omega⟩ h4
   obtain ⟨k1,k2,k3,k4⟩:=h (i + 1) hl
   have hz : (rd W ((i + 1 : Nat) : Int)).f2 = 0:=k2.2 ⟨by omega,by rw [show i + 1 - 1 = i from by omega]; exact b1⟩
   have hs:=k3 ⟨by omega,by rw [show i + 1 - 1 = i from by omega]; exact b1⟩
   rw [show i + 1 - 1 = i from by omega] at hs
   unfold nz at b2
   rw [show (i : Int) + 1 = ((i + 1 : Nat) : Int) from by omega,decide_eq_false_iff_not] at b2
   exact b2 ⟨by omega,by omega,hz,hs⟩
  ·obtain ⟨h0,h5⟩:=h2.1 b1
   have hs:=h3 ⟨h0,h5⟩
   unfold nz at b2
   rw [show (i : Int) - 1 = ((i - 1 : Nat) : Int) from by omega,decide_eq_false_iff_not] at b2
   exact b2 ⟨by omega,by omega,h5,hs.symm⟩
 ·rw [List.getElem?_eq_none (by rw [cB]; omega),List.getElem?_eq_none (by omega)]
structure M (s : aG) : Prop where
 g : ci s.f0 = true
 y : cd s.f4 = true
 y2 : cd s.f14.f4 = true
 t0 : 0 ≤ s.f5
 t1 : s.f5 ≤ s.f6
 t2 : s.f6 < s.f0.f1
 p : jw s.f0 s.f1 s.f2 s.f3 = true
 p2 : jw s.f0 s.f14.f0 s.f14.f1 s.f14.f2 = true
 tabs : fg s.f0.f0 (-1) s.f7 = true
 alt : kw s = true
 ti : mB s.f17 = true
theorem rN (s : aG) : co s = true ↔ M s:=by
 unfold co
 simp only [Bool.and_eq_true,decide_eq_true_eq]
 constructor
 ·rintro ⟨⟨⟨⟨⟨⟨⟨⟨a,b⟩,c⟩,⟨d,e⟩,f⟩,g⟩,h⟩,i⟩,j⟩,k⟩; exact ⟨a,b,c,d,e,f,g,h,i,j,k⟩
 ·rintro ⟨a,b,c,d,e,f,g,h,i,j,k⟩; exact ⟨⟨⟨⟨⟨⟨⟨⟨a,b⟩,c⟩,⟨d,e⟩,f⟩,g⟩,h⟩,i⟩,j⟩,k⟩
theorem dY {g : bF} {r c : Int} {p : Bool} : jw g r c p = true ↔ 0 ≤ r∧r < g.f1∧0 ≤ c∧c < g.f0∧(p = true → c = g.f0 - 1):=by
 unfold jw
 cases p <;> simp [and_assoc]
theorem mu {w : Int} : ∀ {l : List Int} {a : Int},fg w a l = true ↔ List.Pairwise (· < ·) l∧∀ x ∈ l,a < x∧x < w
 | [],a=>by simp [fg]
 | c::r,a=>by
  unfold fg
  simp only [Bool.and_eq_true,decide_eq_true_eq,List.pairwise_cons,List.mem_cons,mu (l:=r)]
  constructor
  ·rintro ⟨⟨h1,h2⟩,h3,h4⟩
   refine ⟨⟨fun x hx=>(h4 x hx).1,h3⟩,?_⟩
   rintro x (rfl | hx)
   ·exact ⟨h1,h2⟩
   ·exact ⟨by have:=(h4 x hx).1; omega,(h4 x hx).2⟩
  ·rintro ⟨⟨h1,h2⟩,h3⟩
   exact ⟨h3 c (.inl rfl),h2,fun x hx=>⟨h1 x hx,(h3 x (.inr hx)).2⟩⟩
theorem pW {w : Int} : ∀ {l : List Int} {a : Int},a < w → fg w a l = true → (l.length : Int) < w - a
 | [],a,h,_=>by simp; omega
 | c::r,a,h,q=>by
  unfold fg at q
  simp only [Bool.and_eq_true,decide_eq_true_eq] at q
  have:=pW (l:=r) q.1.2 q.2
  rw [List.length_cons]; push_cast; omega
structure Ok (s : aG) : Prop where
 m : M s
 b : ∀ x ∈ s.f0.f2,fX x
 b2 : ∀ x ∈ s.f16.f2,fX x
theorem Ok.size {s : aG} (h : Ok s) : ∃ w q : Nat,s.f0.f0 = (w : Int)∧s.f0.f1 = (q : Int)∧0 < w∧w ≤ 512∧0 < q∧q ≤ 512∧s.f0.f2.length = w * q∧w * q ≤ 262144:=gK h.m.g
theorem nw {s : aG} (h : M s) : s.f16.f2.length ≤ 262144:=by
 have:=h.alt
 unfold kw at this
 split at this
 ·simp only [Bool.and_eq_true,decide_eq_true_eq] at this
  obtain ⟨w,q,_,_,_,_,_,_,hl,hb⟩:=gK this.1.1
  omega
 ·simp only [Bool.and_eq_true,decide_eq_true_eq] at this
  omega
theorem Ok.gr {s : aG} (h : Ok s) : Gr s.f0:=by
 obtain ⟨w,q,_,_,_,_,_,_,hl,hb⟩:=h.size
 exact zL (by omega) h.b
theorem Ok.grm {s : aG} (h : Ok s) : Gr s.f16:=zL (nw h.m) h.b2
theorem fZ {s : aG} (h : M s) : s.f7.length ≤ 512:=by
 obtain ⟨w,q,e0,_,_,_,_,_,_,_⟩:=gK h.g
 have:=pW (by omega) h.tabs
 omega
theorem jO {s : aG} (h : M s) : s.f17.length ≤ 256:=by
 have:=h.ti
 unfold mB at this
 simp only [Bool.and_eq_true,decide_eq_true_eq] at this
 exact this.1
theorem Ok.sg {s : aG} (h : Ok s) : Sg s:=by
 have h1:=fZ h.m
 have h2:=jO h.m
 exact ⟨h.gr,h.grm,by omega,by omega⟩
theorem Ok.may {s : aG} (h : Ok s) : co s = true:=(rN s).2 h.m
theorem iL {s : aG} (hs : Sg s) (hm : co s = true) : Ok s:=⟨(rN s).1 hm,hs.g.wide,hs.m.wide⟩
theorem Cb (s : aG) (h : Ok s) : lL.f s = some s:=by
 obtain ⟨w,q,_,_,_,_,_,_,hl,hb⟩:=h.size
 have h1:=nw h.m
 have h2:=fZ h.m
 have h3:=jO h.m
 unfold lL.f sJ.f sT.f
 rw [f72 _ (by omega),f72 _ (by omega)]
 simp only [Option.bind_some,lt,List.nil_append,List.length_nil]
 rw [if_pos (by omega),if_pos (by omega)]
 rfl
theorem Bp (s : aG) (h1 : s.f0.f2.length ≤ 2932031007402) (h2 : s.f16.f2.length ≤ 2932031007402) (h3 : s.f7.length ≤ 17592186044416) (h4 : s.f17.length ≤ 35184372088832) : nk.f s = some s:=by
 unfold nk.f
 rw [xE _ h1,xE _ h2]
 simp only [Option.bind_some,lt,List.nil_append,List.length_nil]
 rw [if_pos (by omega),if_pos (by omega)]
theorem Et (s : aG) (h : Ok s) : nk.f s = some s:=by
 obtain ⟨w,q,_,_,_,_,_,_,hl,hb⟩:=h.size
 have h1:=nw h.m
 have h2:=fZ h.m
 have h3:=jO h.m
 exact Bp s (by omega) (by omega) (by omega) (by omega)
def zS : aG:=aG.mk (bF.mk 0 0 ([] : (List aZ))) 0 0 false (cA.mk 0 0 false false false false false false false false) 0 0 ([] : (List Int)) false false false false false false (dq.mk 0 0 false false (cA.mk 0 0 false false false false false false false false)) false (bF.mk 0 0 ([] : (List aZ))) ([] : (List Int))
def fC (s t : aG) : aG × Int:=if co s = true then (t,0) else (zS,2)
theorem rT (s : aG) (hs : Sg s) (k : Nat) (hk : 40000000000000 ≤ k) : eN.f k s = some (if co s = true then (s,true) else (zS,false)):=by
 unfold eN.f
 rw [FO s hs k hk]
 cases hm : co s
 ·simp [zS]
 ·simp only [Option.bind_some,Bool.not_true,Bool.false_eq_true,if_false,if_true]
  rw [Et s (iL hs hm)]; rfl
end Go.Proofs.YtckilbegmbaeeaaGreat.Z3Sc
namespace Go.Proofs.YtckilbegmbaeeaaGreat.Z3Sc
open Go Go.RowKit Go.Proofs.YtckilbegmbaeeaaGreat.SL Go.Proofs.YtckilbegmbaeeaaGreat.Z3 Go.Proofs.YtckilbegmbaeeaaGreat.Z3May Go.Proofs.YtckilbegmbaeeaaGreat.Z3Ls Go.Proofs.YtckilbegmbaeeaaGreat.Z3Op Go.Proofs.YtckilbegmbaeeaaGreat.Z3Sp
set_option linter.unusedVariables false
set_option linter.unusedSimpArgs false
theorem xy (a b c : Int) : kJ.f a b c = some (max b (min a c)):=by
 unfold kJ.f; simp only [lt,kO,ia]
theorem tH (a : Int) : mc.f a = some (max (-1024) (min a 1024)):=by
 unfold mc.f; rw [xy]; rfl
def mv (n by_ lo hi : Int) : Int:=max lo (min (n + by_) hi)
theorem mF {n by_ lo hi : Int} (h0 : 0 ≤ n) (h1 : n ≤ 2000) (h2 : -2000 ≤ lo) (h3 : lo ≤ n) (h4 : n ≤ hi) (h5 : hi ≤ 2000) : lr.f n by_ lo hi = some (mv n by_ lo hi):=by
 unfold lr.f mv
 rw [eO (x:=hi - n) (by omega) (by omega),eO (x:=lo - n) (by omega) (by omega)]
 by_cases c1 : by_ > hi - n
 ·rw [if_pos c1]; congr 1; omega
 ·by_cases c2 : by_ < lo - n
  ·rw [if_neg c1,if_pos c2]; congr 1; omega
  ·rw [if_neg c1,if_neg c2,eO (by omega) (by omega)]; simp only [lt]; congr 1; omega
theorem mG {n by_ lo hi : Int} (h0 : 0 ≤ n) (h1 : n ≤ 600) (h2 : 0 ≤ lo) (h3 : lo ≤ hi) (h5 : hi ≤ 600) : kJ.f (IntKind.i64.wrap (n + max (-1024) (min by_ 1024))) lo hi = some (mv n by_ lo hi):=by
 rw [eO (by omega) (by omega),xy]; unfold mv; congr 1; omega
structure Mg (s : aG) : Prop where
 g : ci s.f0 = true
 b : ∀ x ∈ s.f0.f2,fX x
 y : cd s.f4 = true
 t0 : 0 ≤ s.f5
 t1 : s.f5 ≤ s.f6
 t2 : s.f6 < s.f0.f1
 r0 : 0 ≤ s.f1
 r1 : s.f1 < s.f0.f1
theorem Ok.mg {s : aG} (h : Ok s) : Mg s:=by
 have hp:=dY.1 h.m.p
 exact ⟨h.m.g,h.b,h.m.y,h.m.t0,h.m.t1,h.m.t2,hp.1,hp.2.1⟩
theorem Mg.size {s : aG} (h : Mg s) : ∃ w q : Nat,s.f0.f0 = (w : Int)∧s.f0.f1 = (q : Int)∧0 < w∧w ≤ 512∧0 < q∧q ≤ 512∧s.f0.f2.length = w * q∧w * q ≤ 262144:=gK h.g
theorem Mg.gr {s : aG} (h : Mg s) : Gr s.f0:=by
 obtain ⟨w,q,_,_,_,_,_,_,hl,hb⟩:=h.size
 exact zL (by omega) h.b
def qm (s : aG) (t u by_ : Int) : aG:={ s with f0:=(gn s.f0 t u by_ s.f4).1 }
theorem jP {s : aG} (h : Mg s) {t u : Int} (h0 : 0 ≤ t) (h1 : t ≤ u) (h2 : u < s.f0.f1) : gF s.f0 t u s.f4 = true:=by
 unfold gF
 simp only [h.g,h.y,Bool.true_and,Bool.and_true,Bool.and_eq_true,decide_eq_true_eq]
 exact ⟨h0,h1,h2⟩
theorem up (s : aG) (h : Mg s) (t u by_ : Int) (h0 : 0 ≤ t) (h1 : t ≤ u) (h2 : u < s.f0.f1) (k : Nat) (hk : 1100000 ≤ k) : cT.f k s t u by_ s.f4 = some (qm s t u by_):=by
 have hok:=jP h h0 h1 h2
 obtain ⟨w,q,i,j,e0,e1,rfl,rfl,hw0,hw5,hq5,hij,hj,hl,hb⟩:=iA hok
 rw [Ei s s.f0.f2 w q i j s.f0.f1 by_ s.f4 (by rw [← e0]) hl hw0 hw5 hq5 hij hj k (by omega)]
 unfold qm gn
 rw [if_pos hok,e0]
 simp only [Int.toNat_natCast]
theorem nA (s : aG) (h : Mg s) (t u by_ : Int) (k : Nat) (hk : 1100000 ≤ k) : cu.f k s.f0 t u by_ s.f4 = some (gn s.f0 t u by_ s.f4):=DK s.f0 h.gr t u by_ s.f4 k hk
theorem qy {s : aG} (h : Mg s) {t u by_ : Int} (h0 : 0 ≤ t) (h1 : t ≤ u) (h2 : u < s.f0.f1) : (qm s t u by_).f0.f0 = s.f0.f0∧(qm s t u by_).f0.f1 = s.f0.f1:=by
 have hok:=jP h h0 h1 h2
 unfold qm gn
 rw [if_pos hok]; exact ⟨rfl,rfl⟩
theorem pj {s : aG} (h : Mg s) {t u by_ : Int} (h0 : 0 ≤ t) (h1 : t ≤ u) (h2 : u < s.f0.f1) : Mg (qm s t u by_):=by
 obtain ⟨d0,d1⟩:=qy (by_:=by_) h h0 h1 h2
 have hok:=jP h h0 h1 h2
 refine ⟨qV (by unfold gn; rw [if_pos hok]),rm h.b,h.y,h.t0,h.t1,?_,h.r0,?_⟩
 ·rw [d1]; exact h.t2
 ·rw [d1]; exact h.r1
theorem qk {s : aG} (h : Mg s) {t u x y : Int} (h0 : 0 ≤ t) (h1 : t ≤ u) (h2 : u < s.f0.f1) (e : fG 512 x = fG 512 y) : qm s t u x = qm s t u y:=by
 have hok:=jP h h0 h1 h2
 obtain ⟨w,q,i,j,e0,e1,rfl,rfl,hw0,hw5,hq5,hij,hj,hl,hb⟩:=iA hok
 unfold qm gn
 rw [if_pos hok,if_pos hok,e0]
 simp only [Int.toNat_natCast]
 have hm : i * w + (j + 1 - i) * w ≤ w * q:=by
  rw [← Nat.add_mul,Nat.mul_comm w q]
  exact Nat.mul_le_mul_right _ (by omega)
 have hW:=dE (xs:=s.f0.f2) (o:=i * w) (n:=(j + 1 - i) * w) (by omega)
 have e2 : fG ((j + 1 - i : Nat) : Int) x = fG ((j + 1 - i : Nat) : Int) y:=by
  unfold fG at e ⊢; omega
 rw [← ln (x:=x) hW hw0,← ln (x:=y) hW hw0,e2]
def gJ (s : aG) : aG:=if s.f1 = s.f6 then qm s s.f5 s.f6 1 else if s.f1 < s.f0.f1 - 1 then { s with f1:=s.f1 + 1 } else s
def jr (s : aG) : aG:=if s.f1 = s.f5 then qm s s.f5 s.f6 (-1) else if s.f1 > 0 then { s with f1:=s.f1 - 1 } else s
theorem uq (s : aG) (h : Mg s) (k : Nat) (hk : 1100000 ≤ k) : eS.f k s = some (gJ s):=by
 obtain ⟨w,q,e0,e1,_,_,_,_,_,_⟩:=h.size
 have:=h.r0; have:=h.r1
 unfold eS.f gJ
 rw [up s h _ _ _ h.t0 h.t1 h.t2 k hk,eO (x:=s.f0.f1 - 1) (by omega) (by omega),eO (x:=s.f1 + 1) (by omega) (by omega)]
 simp only [Option.bind_some]
 split
 ·rfl
 ·split <;> rfl
theorem tR (s : aG) (h : Mg s) (k : Nat) (hk : 1100000 ≤ k) : im.f k s = some (gJ s):=by
 obtain ⟨w,q,e0,e1,_,_,_,_,_,_⟩:=h.size
 have:=h.r0; have:=h.r1
 unfold im.f gJ
 rw [nA s h _ _ _ k hk,eO (x:=s.f0.f1 - 1) (by omega) (by omega),eO (x:=s.f1 + 1) (by omega) (by omega)]
 simp only [Option.bind_some]
 split
 ·rfl
 ·split <;> rfl
theorem yw (s : aG) (h : Mg s) (k : Nat) (hk : 1100000 ≤ k) : ix.f k s = some (jr s):=by
 obtain ⟨w,q,e0,e1,_,_,_,_,_,_⟩:=h.size
 have:=h.r0; have:=h.r1
 unfold ix.f jr
 rw [up s h _ _ _ h.t0 h.t1 h.t2 k hk,eO (x:=s.f1 - 1) (by omega) (by omega)]
 simp only [Option.bind_some]
 split
 ·rfl
 ·split <;> rfl
theorem pH {s : aG} (h : Mg s) : Mg (gJ s):=by
 unfold gJ
 split
 ·exact pj h h.t0 h.t1 h.t2
 ·split
  ·exact ⟨h.g,h.b,h.y,h.t0,h.t1,h.t2,by have:=h.r0; show 0 ≤ s.f1 + 1; omega,by show s.f1 + 1 < s.f0.f1; omega⟩
  ·exact h
theorem uJ {s : aG} (h : Mg s) : Mg (jr s):=by
 unfold jr
 split
 ·exact pj h h.t0 h.t1 h.t2
 ·split
  ·exact ⟨h.g,h.b,h.y,h.t0,h.t1,h.t2,by show 0 ≤ s.f1 - 1; omega,by have:=h.r1; show s.f1 - 1 < s.f0.f1; omega⟩
  ·exact h
structure iR (s t : aG) : Prop where
 d0 : t.f0.f0 = s.f0.f0
 d1 : t.f0.f1 = s.f0.f1
 f4 : t.f4 = s.f4
 f5 : t.f5 = s.f5
 f6 : t.f6 = s.f6
 f7 : t.f7 = s.f7
 f8 : t.f8 = s.f8
 f9 : t.f9 = s.f9
 f10 : t.f10 = s.f10
 f14 : t.f14 = s.f14
 f15 : t.f15 = s.f15
 f16 : t.f16 = s.f16
 f17 : t.f17 = s.f17
theorem iR.refl (s : aG) : iR s s:=⟨rfl,rfl,rfl,rfl,rfl,rfl,rfl,rfl,rfl,rfl,rfl,rfl,rfl⟩
theorem iR.trans {s t u : aG} (a : iR s t) (b : iR t u) : iR s u:=⟨b.d0.trans a.d0,b.d1.trans a.d1,b.f4.trans a.f4,b.f5.trans a.f5,b.f6.trans a.f6,b.f7.trans a.f7,b.f8.trans a.f8,b.f9.trans a.f9,b.f10.trans a.f10,b.f14.trans a.f14,b.f15.trans a.f15,b.f16.trans a.f16,b.f17.trans a.f17⟩
theorem mz {s : aG} (h : Mg s) {t u by_ : Int} (h0 : 0 ≤ t) (h1 : t ≤ u) (h2 : u < s.f0.f1) : iR s (qm s t u by_):=by
 obtain ⟨d0,d1⟩:=qy (by_:=by_) h h0 h1 h2
 exact ⟨d0,d1,rfl,rfl,rfl,rfl,rfl,rfl,rfl,rfl,rfl,rfl,rfl⟩
theorem lN {s : aG} (h : Mg s) : iR s (gJ s)∧(gJ s).f2 = s.f2∧(gJ s).f3 = s.f3:=by
 unfold gJ
 split
 ·exact ⟨mz h h.t0 h.t1 h.t2,rfl,rfl⟩
 ·split
  ·exact ⟨⟨rfl,rfl,rfl,rfl,rfl,rfl,rfl,rfl,rfl,rfl,rfl,rfl,rfl⟩,rfl,rfl⟩
  ·exact ⟨iR.refl s,rfl,rfl⟩
theorem sK {s : aG} (h : Mg s) : iR s (jr s)∧(jr s).f2 = s.f2∧(jr s).f3 = s.f3:=by
 unfold jr
 split
 ·exact ⟨mz h h.t0 h.t1 h.t2,rfl,rfl⟩
 ·split
  ·exact ⟨⟨rfl,rfl,rfl,rfl,rfl,rfl,rfl,rfl,rfl,rfl,rfl,rfl,rfl⟩,rfl,rfl⟩
  ·exact ⟨iR.refl s,rfl,rfl⟩
theorem fF {s t : aG} (h : Ok s) (l : iR s t) (hg : Mg t) (hc : 0 ≤ t.f2∧t.f2 < t.f0.f0∧(t.f3 = true → t.f2 = t.f0.f0 - 1)) : Ok t:=by
 refine ⟨⟨hg.g,hg.y,?_,hg.t0,hg.t1,hg.t2,dY.2 ⟨hg.r0,hg.r1,hc⟩,?_,?_,?_,?_⟩,hg.b,?_⟩
 ·rw [l.f14]; exact h.m.y2
 ·rw [l.f14]; have:=dY.1 h.m.p2; rw [dY,l.d0,l.d1]; exact this
 ·rw [l.f7,l.d0]; exact h.m.tabs
 ·have:=h.m.alt; unfold kw at this ⊢; rw [l.f15,l.f16,l.d0,l.d1]; exact this
 ·rw [l.f17]; exact h.m.ti
 ·rw [l.f16]; exact h.b2
def nD (s : aG) (a b : Int) : aG :=
 { s with f1:=mv s.f1 a (if s.f1 ≥ s.f5 then s.f5 else 0) (if s.f1 ≤ s.f6 then s.f6 else s.f0.f1 - 1),f2:=mv s.f2 b 0 (s.f0.f0 - 1),f3:=false }
def kG (s : aG) (a b : Int) : aG :=
 { s with f1:=mv (if s.f9 = true then s.f5 else 0) a (if s.f9 = true then s.f5 else 0) (if s.f9 = true then s.f6 else s.f0.f1 - 1),f2:=mv 0 b 0 (s.f0.f0 - 1),f3:=false }
theorem np (s : aG) (h0 : 1 ≤ s.f0.f0) (h1 : s.f0.f0 ≤ 512) : de.f s = some (s.f0.f0 - 1):=by
 unfold de.f; rw [eO (by omega) (by omega)]; rfl
theorem xI (s : aG) (h : Ok s) (a b : Int) : iI.f s a b = some (nD s a b):=by
 obtain ⟨w,q,e0,e1,_,_,_,_,_,_⟩:=h.size
 have hp:=dY.1 h.m.p
 have:=h.m.t0; have:=h.m.t1; have:=h.m.t2
 unfold iI.f nD
 rw [eO (x:=s.f0.f1 - 1) (by omega) (by omega),tH,tH]
 simp only [lt]
 by_cases c1 : s.f1 ≤ s.f6
 ·by_cases c2 : s.f1 ≥ s.f5
  ·simp only [c1,c2,if_true,Option.bind_some]
   rw [mG (by omega) (by omega) (by omega) (by omega) (by omega)]
   simp only [Option.bind_some]
   rw [np _ (by show 1 ≤ s.f0.f0; omega) (by show s.f0.f0 ≤ 512; omega)]
   simp only [Option.bind_some]
   rw [mG (by omega) (by omega) (by omega) (by omega) (by omega)]; rfl
  ·simp only [c1,c2,if_true,if_false,Option.bind_some]
   rw [mG (by omega) (by omega) (by omega) (by omega) (by omega)]
   simp only [Option.bind_some]
   rw [np _ (by show 1 ≤ s.f0.f0; omega) (by show s.f0.f0 ≤ 512; omega)]
   simp only [Option.bind_some]
   rw [mG (by omega) (by omega) (by omega) (by omega) (by omega)]; rfl
 ·have c2 : s.f1 ≥ s.f5:=by omega
  simp only [c1,c2,if_true,if_false,Option.bind_some]
  rw [mG (by omega) (by omega) (by omega) (by omega) (by omega)]
  simp only [Option.bind_some]
  rw [np _ (by show 1 ≤ s.f0.f0; omega) (by show s.f0.f0 ≤ 512; omega)]
  simp only [Option.bind_some]
  rw [mG (by omega) (by omega) (by omega) (by omega) (by omega)]; rfl
theorem yX (s : aG) (hs : Sg s) (a b : Int) (k : Nat) (hk : 40000000000000 ≤ k) : nN.f k s a b = some (fC s (nD s a b)):=by
 unfold nN.f fC
 rw [rT s hs k hk]
 cases hm : co s
 ·simp
 ·have h:=iL hs hm
  obtain ⟨w,q,e0,e1,_,_,_,_,_,_⟩:=h.size
  have hp:=dY.1 h.m.p
  have:=h.m.t0; have:=h.m.t1; have:=h.m.t2
  simp only [Option.bind_some,if_true,Bool.not_true,Bool.false_eq_true,if_false,lt]
  rw [eO (x:=s.f0.f1 - 1) (by omega) (by omega),eO (x:=s.f0.f0 - 1) (by omega) (by omega)]
  unfold nD
  by_cases c1 : s.f1 ≤ s.f6
  ·by_cases c2 : s.f1 ≥ s.f5
   ·simp only [c1,c2,if_true,Option.bind_some]
    rw [mF (by omega) (by omega) (by omega) (by omega) (by omega) (by omega),mF (by omega) (by omega) (by omega) (by omega) (by omega) (by omega)]; rfl
   ·simp only [c1,c2,if_true,if_false,Option.bind_some]
    rw [mF (by omega) (by omega) (by omega) (by omega) (by omega) (by omega),mF (by omega) (by omega) (by omega) (by omega) (by omega) (by omega)]; rfl
  ·have c2 : s.f1 ≥ s.f5:=by omega
   simp only [c1,c2,if_true,if_false,Option.bind_some]
   rw [mF (by omega) (by omega) (by omega) (by omega) (by omega) (by omega),mF (by omega) (by omega) (by omega) (by omega) (by omega) (by omega)]; rfl
theorem nR {n b lo hi : Int} (h : lo ≤ hi) : lo ≤ mv n b lo hi∧mv n b lo hi ≤ hi:=by unfold mv; omega
theorem xe {s : aG} (h : Ok s) (a b : Int) : Ok (nD s a b):=by
 obtain ⟨w,q,e0,e1,_,_,_,_,_,_⟩:=h.size
 have hp:=dY.1 h.m.p
 have:=h.m.t0; have:=h.m.t1; have:=h.m.t2
 have hm:=h.mg
 have z1:=nR (n:=s.f1) (b:=a) (lo:=if s.f1 ≥ s.f5 then s.f5 else 0) (hi:=if s.f1 ≤ s.f6 then s.f6 else s.f0.f1 - 1) (by split <;> split <;> omega)
 have z2:=nR (n:=s.f2) (b:=b) (lo:=0) (hi:=s.f0.f0 - 1) (by omega)
 refine fF h ⟨rfl,rfl,rfl,rfl,rfl,rfl,rfl,rfl,rfl,rfl,rfl,rfl,rfl⟩ ⟨hm.g,hm.b,hm.y,hm.t0,hm.t1,hm.t2,?_,?_⟩ ⟨z2.1,?_,fun q=>by cases q⟩
 ·refine Int.le_trans ?_ z1.1; split <;> omega
 ·refine Int.lt_of_le_of_lt z1.2 ?_
  show _ < s.f0.f1
  split <;> omega
 ·show mv s.f2 b 0 (s.f0.f0 - 1) < s.f0.f0
  omega
theorem qI (s : aG) (h0 : 1 ≤ s.f0.f0) (h1 : s.f0.f0 ≤ 512) (h2 : 1 ≤ s.f0.f1) (h3 : s.f0.f1 ≤ 512) (t0 : 0 ≤ s.f5) (t1 : s.f5 ≤ s.f6) (t2 : s.f6 < s.f0.f1) (a b : Int) : fw.f s a b = some (kG s a b):=by
 have col : kJ.f b 0 (s.f0.f0 - 1) = some (mv 0 b 0 (s.f0.f0 - 1)):=by rw [xy]; unfold mv; congr 1; omega
 unfold fw.f kG
 rw [eO (x:=s.f0.f1 - 1) (by omega) (by omega),tH]
 simp only [lt]
 cases hf : s.f9
 ·simp only [Bool.false_eq_true,if_false,Option.bind_some]
  rw [mG (by omega) (by omega) (by omega) (by omega) (by omega)]
  simp only [Option.bind_some]
  rw [np _ (by show 1 ≤ s.f0.f0; omega) (by show s.f0.f0 ≤ 512; omega)]
  simp only [Option.bind_some]
  rw [col]; simp only [hf,Option.bind_some]
 ·simp only [if_true,Option.bind_some]
  rw [mG (by omega) (by omega) (by omega) (by omega) (by omega)]
  simp only [Option.bind_some]
  rw [np _ (by show 1 ≤ s.f0.f0; omega) (by show s.f0.f0 ≤ 512; omega)]
  simp only [Option.bind_some]
  rw [col]; simp only [hf,Option.bind_some]
theorem qL (s : aG) (hs : Sg s) (a b : Int) (k : Nat) (hk : 40000000000000 ≤ k) : kR.f k s a b = some (fC s (kG s a b)):=by
 unfold kR.f fC
 rw [rT s hs k hk]
 cases hm : co s
 ·simp
 ·have h:=iL hs hm
  obtain ⟨w,q,e0,e1,_,_,_,_,_,_⟩:=h.size
  have:=h.m.t0; have:=h.m.t1; have:=h.m.t2
  simp only [Option.bind_some,if_true,Bool.not_true,Bool.false_eq_true,if_false,lt]
  rw [eO (x:=s.f0.f1 - 1) (by omega) (by omega),eO (x:=s.f0.f0 - 1) (by omega) (by omega)]
  unfold kG
  cases hf : s.f9
  ·simp only [Bool.false_eq_true,if_false,Option.bind_some]
   rw [mF (by omega) (by omega) (by omega) (by omega) (by omega) (by omega),mF (by omega) (by omega) (by omega) (by omega) (by omega) (by omega)]; simp only [hf,Option.bind_some]
  ·simp only [if_true,Option.bind_some]
   rw [mF (by omega) (by omega) (by omega) (by omega) (by omega) (by omega),mF (by omega) (by omega) (by omega) (by omega) (by omega) (by omega)]; simp only [hf,Option.bind_some]
theorem pC {s : aG} (h : Ok s) (a b : Int) : Ok (kG s a b):=by
 obtain ⟨w,q,e0,e1,_,_,_,_,_,_⟩:=h.size
 have:=h.m.t0; have:=h.m.t1; have:=h.m.t2
 have hm:=h.mg
 have z1:=nR (n:=if s.f9 = true then s.f5 else 0) (b:=a) (lo:=if s.f9 = true then s.f5 else 0) (hi:=if s.f9 = true then s.f6 else s.f0.f1 - 1) (by split <;> omega)
 have z2:=nR (n:=0) (b:=b) (lo:=0) (hi:=s.f0.f0 - 1) (by omega)
 refine fF h ⟨rfl,rfl,rfl,rfl,rfl,rfl,rfl,rfl,rfl,rfl,rfl,rfl,rfl⟩ ⟨hm.g,hm.b,hm.y,hm.t0,hm.t1,hm.t2,?_,?_⟩ ⟨z2.1,?_,fun q=>by cases q⟩
 ·refine Int.le_trans ?_ z1.1; split <;> omega
 ·refine Int.lt_of_le_of_lt z1.2 ?_
  show _ < s.f0.f1
  split <;> omega
 ·show mv 0 b 0 (s.f0.f0 - 1) < s.f0.f0
  omega
def jQ (s : aG) (t b : Int) : aG:=if t < 0 ∨ t ≥ b ∨ b ≥ s.f0.f1 then s else kG { s with f5:=t,f6:=b } 0 0
theorem uB (s : aG) (h : Ok s) (t b : Int) : iF.f s t b = some (jQ s t b):=by
 obtain ⟨w,q,e0,e1,_,_,_,_,_,_⟩:=h.size
 unfold iF.f jQ
 simp only [lt]
 by_cases c : t < 0 ∨ t ≥ b ∨ b ≥ s.f0.f1
 ·rw [if_pos c,if_pos (by simpa [or_assoc] using c)]
 ·rw [if_neg c,if_neg (by simpa [or_assoc] using c),qI _ (by show 1 ≤ s.f0.f0; omega) (by show s.f0.f0 ≤ 512; omega) (by show 1 ≤ s.f0.f1; omega) (by show s.f0.f1 ≤ 512; omega) (by show 0 ≤ t; omega) (by show t ≤ b; omega) (by show b < s.f0.f1; omega)]
  rfl
theorem pc {s : aG} (h : Ok s) {t b : Int} (c : ¬ (t < 0 ∨ t ≥ b ∨ b ≥ s.f0.f1)) : Ok { s with f5:=t,f6:=b } :=
 ⟨⟨h.m.g,h.m.y,h.m.y2,by show 0 ≤ t; omega,by show t ≤ b; omega,by show b < s.f0.f1; omega,h.m.p,h.m.p2,h.m.tabs,h.m.alt,h.m.ti⟩,h.b,h.b2⟩
theorem uR (s : aG) (hs : Sg s) (t b : Int) (k : Nat) (hk : 40000000000000 ≤ k) : nP.f k s t b = some (fC s (jQ s t b)):=by
 unfold nP.f
 rw [rT s hs k hk]
 cases hm : co s
 ·simp [fC,hm]
 ·have h:=iL hs hm
  simp only [Option.bind_some,if_true,Bool.not_true,Bool.false_eq_true,if_false,lt,fC,hm]
  unfold jQ
  by_cases c : t < 0 ∨ t ≥ b ∨ b ≥ s.f0.f1
  ·rw [if_pos c,if_pos (by simpa [or_assoc] using c)]
  ·have h2:=pc h c
   rw [if_neg c,if_neg (by simpa [or_assoc] using c),qL _ h2.sg 0 0 k hk]
   simp only [Option.bind_some,fC,h2.may,if_true]
theorem tt {s : aG} (h : Ok s) (t b : Int) : Ok (jQ s t b):=by
 unfold jQ
 split
 ·exact h
 ·rename_i c; exact pC (pc h c) 0 0
def kX (s : aG) (back : Bool) : aG:=if back = true then { s with f1:=s.f14.f0,f2:=s.f14.f1,f3:=s.f14.f2,f9:=s.f14.f3,f4:=s.f14.f4 } else { s with f14:=dq.mk s.f1 s.f2 s.f3 s.f9 s.f4 }
theorem tX (s : aG) (b : Bool) : fH.f s b = some (kX s b):=by
 unfold fH.f kX; split <;> rfl
theorem tk (s : aG) (hs : Sg s) (b : Bool) (k : Nat) (hk : 40000000000000 ≤ k) : ju.f k s b = some (fC s (kX s b)):=by
 unfold ju.f fC
 rw [rT s hs k hk]
 cases hm : co s
 ·simp
 ·cases b <;> simp [kX]
theorem od {s : aG} (h : Ok s) (b : Bool) : Ok (kX s b):=by
 unfold kX
 split
 ·exact ⟨⟨h.m.g,h.m.y2,h.m.y2,h.m.t0,h.m.t1,h.m.t2,h.m.p2,h.m.p2,h.m.tabs,h.m.alt,h.m.ti⟩,h.b,h.b2⟩
 ·exact ⟨⟨h.m.g,h.m.y,h.m.y,h.m.t0,h.m.t1,h.m.t2,h.m.p,h.m.p,h.m.tabs,h.m.alt,h.m.ti⟩,h.b,h.b2⟩
def mj (s : aG) (n : Int) : aG:={ qm s s.f5 s.f6 n with f3:=false }
def lu (s : aG) (n : Int) : aG:=if s.f1 < s.f5 ∨ s.f1 > s.f6 then s else { qm s s.f1 s.f6 (-n) with f2:=0,f3:=false }
theorem uI (s : aG) (h : Ok s) (n : Int) (k : Nat) (hk : 1100000 ≤ k) : iJ.f k s n = some (mj s n):=by
 unfold iJ.f
 rw [up s h.mg _ _ _ h.m.t0 h.m.t1 h.m.t2 k hk]; rfl
theorem tF (s : aG) (hs : Sg s) (n : Int) (k : Nat) (hk : 40000000000000 ≤ k) : nX.f k s n = some (fC s (mj s n)):=by
 unfold nX.f fC
 rw [rT s hs k hk]
 cases hm : co s
 ·simp
 ·have h:=iL hs hm
  simp only [Option.bind_some,if_true,Bool.not_true,Bool.false_eq_true,if_false]
  rw [nA s h.mg _ _ _ k (by omega)]; rfl
theorem fc {s : aG} (h : Ok s) : 0 ≤ s.f2∧s.f2 < s.f0.f0∧(s.f3 = true → s.f2 = s.f0.f0 - 1):=(dY.1 h.m.p).2.2
theorem fE {s : aG} (h : Mg s) (c : Int) (p : Bool) : Mg { s with f2:=c,f3:=p }:=⟨h.g,h.b,h.y,h.t0,h.t1,h.t2,h.r0,h.r1⟩
theorem fp {s t : aG} (l : iR s t) (c : Int) (p : Bool) : iR s { t with f2:=c,f3:=p }:=⟨l.d0,l.d1,l.f4,l.f5,l.f6,l.f7,l.f8,l.f9,l.f10,l.f14,l.f15,l.f16,l.f17⟩
theorem te {s : aG} (h : Ok s) (n : Int) : Ok (mj s n):=by
 have hm:=pj (by_:=n) h.mg h.m.t0 h.m.t1 h.m.t2
 have hl:=mz (by_:=n) h.mg h.m.t0 h.m.t1 h.m.t2
 have hc:=fc h
 exact fF h (fp hl s.f2 false) (fE hm s.f2 false) ⟨hc.1,by have:=hl.d0; show s.f2 < (qm s s.f5 s.f6 n).f0.f0; omega,fun q=>by cases q⟩
theorem tI {n : Int} : fG 512 (-(max (-1024) (min n 1024))) = fG 512 (-n):=by unfold fG; omega
theorem wt (s : aG) (h : Ok s) (n : Int) (k : Nat) (hk : 1100000 ≤ k) : iV.f k s n = some (lu s n):=by
 have hp:=dY.1 h.m.p
 unfold iV.f lu
 rw [tH]
 by_cases c1 : s.f1 < s.f5
 ·simp [c1]
 ·by_cases c2 : s.f1 > s.f6
  ·simp [c1,c2]
  ·have c3 : ¬ (s.f1 < s.f5 ∨ s.f1 > s.f6):=by omega
   simp only [c1,c2,c3,if_false,decide_false,Option.bind_some,Bool.false_eq_true]
   rw [up s h.mg _ _ _ (by omega) (by omega) h.m.t2 k hk,eO (by omega) (by omega),show (0 : Int) - max (-1024) (min n 1024) = -(max (-1024) (min n 1024)) from by omega,qk h.mg (by omega) (by omega) h.m.t2 tI]
   rfl
theorem wD (s : aG) (hs : Sg s) (n : Int) (hn : n ≤ 9223372036854775807) (k : Nat) (hk : 40000000000000 ≤ k) : oh.f k s n = some (fC s (lu s n)):=by
 unfold oh.f fC
 rw [rT s hs k hk]
 cases hm : co s
 ·simp
 ·have h:=iL hs hm
  have hp:=dY.1 h.m.p
  simp only [Option.bind_some,if_true,Bool.not_true,Bool.false_eq_true,if_false,lt]
  unfold lu
  by_cases c3 : s.f1 < s.f5 ∨ s.f1 > s.f6
  ·rw [if_pos c3,if_pos (by simpa using c3)]
  ·rw [if_neg c3,if_neg (by simpa using c3),kO,eO (by omega) (by omega),mF (by omega) (by omega) (by omega) (by omega) (by omega) (by omega)]
   simp only [Option.bind_some]
   rw [nA s h.mg _ _ _ k (by omega)]
   simp only [Option.bind_some]
   have:=qk h.mg (t:=s.f1) (u:=s.f6) (x:=mv 0 (0 - max n (-1000)) (-1000) 1000) (y:=-n) (by omega) (by omega) h.m.t2 (by unfold fG mv; omega)
   unfold qm at this ⊢
   have e:=congrArg aG.f0 this
   simp only at e
   rw [e]
theorem vh {s : aG} (h : Ok s) (n : Int) : Ok (lu s n):=by
 unfold lu
 split
 ·exact h
 ·have hp:=dY.1 h.m.p
  have hm:=pj (t:=s.f1) (u:=s.f6) (by_:=-n) h.mg (by omega) (by omega) h.m.t2
  have hl:=mz (t:=s.f1) (u:=s.f6) (by_:=-n) h.mg (by omega) (by omega) h.m.t2
  obtain ⟨w,q,e0,e1,_,_,_,_,_,_⟩:=h.size
  exact fF h (fp hl 0 false) (fE hm 0 false) ⟨by show (0 : Int) ≤ 0; omega,by have:=hl.d0; show (0 : Int) < (qm s s.f1 s.f6 (-n)).f0.f0; omega,fun q=>by cases q⟩
end Go.Proofs.YtckilbegmbaeeaaGreat.Z3Sc
namespace Go.Proofs.YtckilbegmbaeeaaGreat.Z3Sc
open Go Go.RowKit Go.Proofs.YtckilbegmbaeeaaGreat.SL Go.Proofs.YtckilbegmbaeeaaGreat.Z3 Go.Proofs.YtckilbegmbaeeaaGreat.Z3May Go.Proofs.YtckilbegmbaeeaaGreat.Z3Ls Go.Proofs.YtckilbegmbaeeaaGreat.Z3Op Go.Proofs.YtckilbegmbaeeaaGreat.Z3Sp
set_option linter.unusedVariables false
set_option linter.unusedSimpArgs false
theorem Mg.at {s : aG} (h : Mg s) : ∃ w q i : Nat,s.f0.f0 = (w : Int)∧s.f0.f1 = (q : Int)∧s.f1 = (i : Int)∧0 < w∧w ≤ 512∧0 < q∧q ≤ 512∧i < q∧s.f0.f2.length = w * q∧w * q ≤ 262144∧i * w + w ≤ s.f0.f2.length:=by
 obtain ⟨w,q,e0,e1,a,b,c,d,hl,hb⟩:=h.size
 have r0:=h.r0
 have r1:=h.r1
 have hp:=eZ (w:=w) (i:=s.f1.toNat) (q:=q) (by omega)
 exact ⟨w,q,s.f1.toNat,e0,e1,by omega,a,b,c,d,by omega,hl,hb,by rw [hl]; exact hp⟩
theorem vX (s : aG) (w q i : Nat) (e0 : s.f0.f0 = (w : Int)) (hl : s.f0.f2.length = w * q) (hb : w * q ≤ 262144) (hi : i < q) : dJ.f s (i : Int) = some (((i * w : Nat) : Int),(w : Int)):=by
 have hp:=eZ (w:=w) hi
 unfold dJ.f
 simp only [lt]
 rw [e0,show (i : Int) * (w : Int) = ((i * w : Nat) : Int) from by simp,eO (x:=((i * w : Nat) : Int)) (by omega) (by omega),eO (x:=((i * w : Nat) : Int) + (w : Int)) (by omega) (by omega),if_pos (by omega)]
 congr 2 <;> omega
theorem ta (s : aG) (w q i : Nat) (e0 : s.f0.f0 = (w : Int)) (e2 : s.f1 = (i : Int)) (hl : s.f0.f2.length = w * q) (hb : w * q ≤ 262144) (hi : i < q) : dP.f s = some (((i * w : Nat) : Int),(w : Int)):=by
 have hp:=eZ (w:=w) hi
 unfold dP.f
 rw [e2,vX s w q i e0 hl hb hi]
 simp only [Option.bind_some]
 rw [if_pos (by omega)]
def lA (s : aG) (f : List aZ → List aZ) : aG:={ s with f0:=(lx s.f0 s.f1 f).1 }
theorem ox {s : aG} {w i : Nat} {f : List aZ → List aZ} (e0 : s.f0.f0 = (w : Int)) (e2 : s.f1 = (i : Int)) :
  lA s f = { s with f0:=bF.mk s.f0.f0 s.f0.f1 (bo s.f0.f2 (i * w) (ce (f (win s.f0.f2 (i * w) w)))) }:=by
 unfold lA lx; rw [e0,e2]; simp only [Int.toNat_natCast]
theorem mr {s : aG} (h : Mg s) : ie s.f0 s.f1 s.f4 = true:=by
 unfold ie
 simp only [h.g,h.y,Bool.true_and,Bool.and_true,Bool.and_eq_true,decide_eq_true_eq]
 exact ⟨h.r0,h.r1⟩
theorem nO (s : aG) (f : List aZ → List aZ) : iR s (lA s f):=⟨rfl,rfl,rfl,rfl,rfl,rfl,rfl,rfl,rfl,rfl,rfl,rfl,rfl⟩
theorem qW {s : aG} (h : Mg s) {f : List aZ → List aZ} (hf : ∀ W : List aZ,W.length = s.f0.f0.toNat → (∀ x ∈ W,cm x = true) → (f W).length = W.length∧∀ x ∈ f W,cm x = true) (hb : ∀ W : List aZ,(∀ x ∈ W,fX x) → ∀ x ∈ f W,fX x) : Mg (lA s f) :=
 ⟨sx (mr h) hf,sO h.b hb,h.y,h.t0,h.t1,h.t2,h.r0,h.r1⟩
def pm (s : aG) (n : Int) : List aZ → List aZ:=fun W=>bo W s.f2.toNat (dC (W.drop s.f2.toNat) (-n) (eA s.f4))
def mV (s : aG) (n : Int) : aG:={ lA s (pm s n) with f3:=false }
theorem nC {s : aG} (h : Mg s) (hc : 0 ≤ s.f2∧s.f2 < s.f0.f0) (n : Int) : Mg (lA s (pm s n)):=by
 refine qW h (fun W hW hm=>⟨nb (by omega),fun x hx=>?_⟩) (fun W hW=>hD hW (oP fun x hx=>hW x (List.mem_of_mem_drop hx)))
 rcases jv hx with q | q
 ·exact hm x q
 ·rcases pg q with q | q
  ·exact hm x (List.mem_of_mem_drop q)
  ·rw [q]; exact lD h.y
theorem uj (s : aG) (h : Mg s) (hc : 0 ≤ s.f2∧s.f2 < s.f0.f0) (n : Int) (w q i : Nat) (e0 : s.f0.f0 = (w : Int)) (e2 : s.f1 = (i : Int)) (hw : w ≤ 512) (hl : s.f0.f2.length = w * q) (hb : w * q ≤ 262144) (hp : i * w + w ≤ s.f0.f2.length) (k : Nat) (hk : 1100000 ≤ k) :
  iY.f k s.f0.f2 ((i * w : Nat) : Int) (w : Int) s.f2 n s.f4 = some (bo s.f0.f2 (i * w) (ce (pm s n (win s.f0.f2 (i * w) w)))):=by
 obtain ⟨c,hc2⟩ : ∃ c : Nat,s.f2 = (c : Int):=⟨s.f2.toNat,by omega⟩
 unfold pm
 rw [hc2,f88 s.f0.f2 (i * w) w c n s.f4 hp (by omega) (by omega) (by omega) k (by omega)]
 simp only [Int.toNat_natCast]
theorem rW {s : aG} {n : Int} {W : List aZ} (h : s.f2.toNat ≤ W.length) : (pm s n W).length = W.length:=nb h
theorem wj (s : aG) (h : Ok s) (n : Int) (k : Nat) (hk : 1100000 ≤ k) : iN.f k s n = some (mV s n):=by
 obtain ⟨w,q,i,e0,e1,e2,a,b,c,d,hi,hl,hb,hp⟩:=h.mg.at
 have hc:=fc h
 unfold iN.f mV
 rw [ta s w q i e0 e2 hl hb hi]
 simp only [Option.bind_some]
 rw [if_pos (by omega),uj s h.mg ⟨hc.1,hc.2.1⟩ n w q i e0 e2 b hl hb hp k hk]
 simp only [Option.bind_some]
 have hw:=dE hp
 rw [if_pos (aM (by rw [cB,rW (by omega),hw]; exact hp)),ox e0 e2]
theorem uv (s : aG) (h : Mg s) (hc : 0 ≤ s.f2∧s.f2 < s.f0.f0) (n : Int) (k : Nat) (hk : 1100000 ≤ k) : fx.f k s.f0 s.f1 s.f2 n s.f4 = some ((lA s (pm s n)).f0,0):=by
 rw [Gj s.f0 h.gr _ _ _ _ k hk]
 unfold rz
 rw [if_pos (by rw [mr h]; simp; exact hc)]
 rfl
theorem wW (s : aG) (hs : Sg s) (n : Int) (k : Nat) (hk : 40000000000000 ≤ k) : nZ.f k s n = some (fC s (mV s n)):=by
 unfold nZ.f fC
 rw [rT s hs k hk]
 cases hm : co s
 ·simp
 ·have h:=iL hs hm
  have hc:=fc h
  simp only [Option.bind_some,if_true,Bool.not_true,Bool.false_eq_true,if_false]
  rw [uv s h.mg ⟨hc.1,hc.2.1⟩ n k (by omega)]
  rfl
theorem vL {s : aG} (h : Ok s) {f : List aZ → List aZ} (hm : Mg (lA s f)) : Ok { lA s f with f3:=false }:=by
 have hc:=fc h
 exact fF h (fp (nO s f) s.f2 false) (fE hm s.f2 false) ⟨hc.1,hc.2.1,fun q=>by cases q⟩
theorem vi {s : aG} (h : Ok s) (n : Int) : Ok (mV s n):=by
 have hc:=fc h
 exact vL h (nC h.mg ⟨hc.1,hc.2.1⟩ n)
def mS (s : aG) (a b : Int) : List aZ → List aZ:=fun W=>bo W a.toNat (List.replicate (b.toNat - a.toNat) (eA s.f4))
def oT (s : aG) (n : Int) : aG:={ lA s (mS s s.f2 (mv s.f2 n s.f2 s.f0.f0)) with f3:=false }
theorem mn {s : aG} {a b : Int} {W : List aZ} (h : a ≤ b) (h0 : 0 ≤ a) (h2 : b.toNat ≤ W.length) : (mS s a b W).length = W.length:=aM (by rw [List.length_replicate]; omega)
theorem tO {s : aG} (h : Mg s) {a b : Int} (h0 : 0 ≤ a) (h1 : a ≤ b) (h2 : b ≤ s.f0.f0) : Mg (lA s (mS s a b)):=by
 refine qW h (fun W hW hm=>⟨mn h1 h0 (by omega),fun x hx=>?_⟩) (fun W hW=>hD hW lM)
 rcases jv hx with q | q
 ·exact hm x q
 ·rw [(List.mem_replicate.1 q).2]; exact lD h.y
theorem rE (X : List aZ) (s : aG) (a b : Int) (h0 : 0 ≤ a) (h1 : a ≤ b) (w o : Nat) (h2 : b ≤ (w : Int)) (hp : o + w ≤ X.length) (hl : X.length ≤ 262144) (k : Nat) (hk : 1100000 ≤ k) :
  ja.f k X (o : Int) (w : Int) a b s.f4 = some (bo X o (ce (mS s a b (win X o w)))):=by
 obtain ⟨a,rfl⟩ : ∃ c : Nat,a = (c : Int):=⟨a.toNat,by omega⟩
 obtain ⟨b,rfl⟩ : ∃ c : Nat,b = (c : Int):=⟨b.toNat,by omega⟩
 unfold mS
 rw [Gl X o w a b s.f4 hp (by omega) (by omega) (by omega) k (by omega)]
 simp only [Int.toNat_natCast]
theorem xV (s : aG) (h : Ok s) (n : Int) (k : Nat) (hk : 1100000 ≤ k) : iP.f k s n = some (oT s n):=by
 obtain ⟨w,q,i,e0,e1,e2,a,b,c,d,hi,hl,hb,hp⟩:=h.mg.at
 have hc:=fc h
 have hm:=nR (n:=s.f2) (b:=n) (lo:=s.f2) (hi:=s.f0.f0) (by omega)
 unfold iP.f oT
 rw [ta s w q i e0 e2 hl hb hi]
 simp only [Option.bind_some]
 rw [if_pos (by omega),tH]
 simp only [Option.bind_some]
 rw [mG (by omega) (by omega) (by omega) (by omega) (by omega)]
 simp only [Option.bind_some]
 have hw:=dE hp
 rw [rE s.f0.f2 s s.f2 _ hc.1 hm.1 w (i * w) (by omega) hp (by omega) k hk]
 simp only [Option.bind_some]
 rw [if_pos (aM (by rw [cB,mn hm.1 hc.1 (by omega),hw]; exact hp)),ox e0 e2]
theorem tK (s : aG) (h : Mg s) {a b : Int} (h0 : 0 ≤ a) (h1 : a ≤ b) (h2 : b ≤ s.f0.f0) (k : Nat) (hk : 1100000 ≤ k) : fo.f k s.f0 s.f1 a b s.f4 = some ((lA s (mS s a b)).f0,0):=by
 rw [EY s.f0 h.gr _ _ _ _ k hk]
 unfold rf
 rw [if_pos (by rw [mr h]; simp; exact ⟨h0,h1,h2⟩)]
 rfl
theorem xS (s : aG) (hs : Sg s) (n : Int) (k : Nat) (hk : 40000000000000 ≤ k) : oB.f k s n = some (fC s (oT s n)):=by
 unfold oB.f fC
 rw [rT s hs k hk]
 cases hm : co s
 ·simp
 ·have h:=iL hs hm
  have hc:=fc h
  obtain ⟨w,q,e0,e1,_,_,_,_,_,_⟩:=h.size
  have hv:=nR (n:=s.f2) (b:=n) (lo:=s.f2) (hi:=s.f0.f0) (by omega)
  simp only [Option.bind_some,if_true,Bool.not_true,Bool.false_eq_true,if_false]
  rw [mF (by omega) (by omega) (by omega) (by omega) (by omega) (by omega),kO,show mv s.f2 (max 0 n) s.f2 s.f0.f0 = mv s.f2 n s.f2 s.f0.f0 from by unfold mv; omega]
  simp only [Option.bind_some]
  rw [tK s h.mg hc.1 hv.1 hv.2 k (by omega)]
  rfl
theorem wP {s : aG} (h : Ok s) (n : Int) : Ok (oT s n):=by
 have hc:=fc h
 obtain ⟨w,q,e0,e1,_,_,_,_,_,_⟩:=h.size
 have hv:=nR (n:=s.f2) (b:=n) (lo:=s.f2) (hi:=s.f0.f0) (by omega)
 exact vL h (tO h.mg hc.1 hv.1 hv.2)
theorem mo {w : Nat} {R : Nat → List aZ} : ∀ (q : Nat),(∀ n,n < q → (R n).length = w) → ((List.range q).flatMap R).length = w * q
 | 0,_=>by simp
 | q + 1,h=>by
  rw [List.range_succ,List.flatMap_append,List.length_append,mo q fun n hn=>h n (by omega)]
  simp only [List.flatMap_cons,List.flatMap_nil,List.append_nil]
  rw [h q (by omega),Nat.mul_add,Nat.mul_one]
theorem oA {w : Nat} {R : Nat → List aZ} : ∀ (q n : Nat),(∀ n,n < q → (R n).length = w) → n < q → win ((List.range q).flatMap R) (n * w) w = R n
 | 0,n,_,h=>by omega
 | q + 1,n,h,hn=>by
  have hl:=mo q fun n hn=>h n (by omega)
  rw [List.range_succ,List.flatMap_append]
  simp only [List.flatMap_cons,List.flatMap_nil,List.append_nil]
  have hR:=h q (by omega)
  apply List.ext_getElem?
  intro j
  rw [dX]
  by_cases hj : j < w
  ·rw [if_pos hj]
   by_cases hq : n < q
   ·have hp:=eZ (w:=w) hq
    have e:=congrArg (·[j]?) (oA q n (fun n hn=>h n (by omega)) hq)
    simp only [dX,hj,if_true] at e
    rw [List.getElem?_append_left (by omega)]; exact e
   ·obtain rfl : n = q:=by omega
    rw [List.getElem?_append_right (by rw [hl,Nat.mul_comm]; omega),hl]
    congr 1; rw [Nat.mul_comm]; omega
  ·rw [if_neg hj,List.getElem?_eq_none (by rw [h n hn]; omega)]
theorem pr {X : List aZ} {w q : Nat} {R : Nat → List aZ} (hl : X.length = w * q) (hR : ∀ n,n < q → (R n).length = w) (h : ∀ n,n < q → win X (n * w) w = R n) : X = (List.range q).flatMap R :=
 qh hl (mo q hR) fun n hn=>by rw [h n hn,oA q n hR hn]
theorem px {X R : List aZ} {w q n r : Nat} (hl : X.length = w * q) (hn : n < q) (hr : r < q) (hR : R.length = w) : win (bo X (n * w) R) (r * w) w = if r = n then R else win X (r * w) w:=by
 have hp:=eZ (w:=w) hn
 split
 ·rename_i e; subst e; exact kz hR (by omega)
 ·rename_i e
  refine kH (by omega) hR ?_
  rcases Nat.lt_or_ge r n with z | z
  ·left; have:=Nat.mul_le_mul_right w (show r + 1 ≤ n from z); rw [Nat.add_mul] at this; omega
  ·right; have:=Nat.mul_le_mul_right w (show n + 1 ≤ r from by omega); rw [Nat.add_mul] at this; omega
def oE (s : aG) (lines : Bool) (kind : Int) (n : Int) : Int × Int :=
 if n = s.f1∧kind = 0 then (s.f2,s.f0.f0) else if n = s.f1∧kind = 1 then (0,s.f2 + 1) else
 if (kind = 2∧(lines = true ∨ n = s.f1)) ∨ (lines = true∧kind = 0∧n > s.f1) ∨ (lines = true∧kind = 1∧n < s.f1) then (0,s.f0.f0) else (0,0)
theorem rx {s : aG} (h : 0 ≤ s.f2∧s.f2 < s.f0.f0) (lines : Bool) (kind n : Int) : 0 ≤ (oE s lines kind n).1∧(oE s lines kind n).1 ≤ (oE s lines kind n).2∧(oE s lines kind n).2 ≤ s.f0.f0:=by
 unfold oE
 split
 ·exact ⟨by simp; omega,by simp; omega,by simp⟩
 ·split
  ·exact ⟨by simp,by simp; omega,by simp; omega⟩
  ·split
   ·exact ⟨by simp,by simp; omega,by simp⟩
   ·exact ⟨by simp,by simp,by simp; omega⟩
def ke (s : aG) (lines : Bool) (kind : Int) (n : Nat) : List aZ :=
 ce (mS s (oE s lines kind n).1 (oE s lines kind n).2 (win s.f0.f2 (n * s.f0.f0.toNat) s.f0.f0.toNat))
def lp (s : aG) (lines : Bool) (kind : Int) : aG :=
 { s with f0:=bF.mk s.f0.f0 s.f0.f1 ((List.range s.f0.f1.toNat).flatMap (ke s lines kind)),f3:=false }
theorem jZ {s : aG} {w q : Nat} (e0 : s.f0.f0 = (w : Int)) (hl : s.f0.f2.length = w * q) (hc : 0 ≤ s.f2∧s.f2 < s.f0.f0) {lines : Bool} {kind : Int} {n : Nat} (hn : n < q) : (ke s lines kind n).length = w:=by
 have hp:=eZ (w:=w) hn
 have hi:=rx hc lines kind n
 unfold ke
 rw [cB,e0,Int.toNat_natCast]
 have hw:=dE (xs:=s.f0.f2) (o:=n * w) (n:=w) (by omega)
 rw [mn hi.2.1 hi.1 (by omega),hw]
theorem tN {s : aG} {W : List aZ} : mS s 0 0 W = W:=by unfold mS bo; simp
theorem kv {s : aG} (h : Mg s) {w q n : Nat} (e0 : s.f0.f0 = (w : Int)) (e1 : s.f0.f1 = (q : Int)) (hn : n < q) : ly (win s.f0.f2 (n * w) w):=by
 obtain ⟨w',q',e0',e1',_,_,_,_,_,hr⟩:=(eE s.f0).1 h.g
 obtain rfl : w' = w:=by omega
 obtain rfl : q' = q:=by omega
 exact hr n hn
theorem yD (s : aG) (lines : Bool) (kind : Int) (w q : Nat) (h : Ok s) (e0 : s.f0.f0 = (w : Int)) (e1 : s.f0.f1 = (q : Int)) : ∀ (m k n : Nat) (X : List aZ),n + m = q → m + 1100000 < k → X.length = w * q →
  (∀ r,r < q → win X (r * w) w = if r < n then ke s lines kind r else win s.f0.f2 (r * w) w) →
  jd.l0 lines kind k { s with f0:=bF.mk s.f0.f0 s.f0.f1 X } (n : Int) = some { s with f0:=bF.mk s.f0.f0 s.f0.f1 ((List.range q).flatMap (ke s lines kind)) }
 | _,0,_,_,_,hk,_,_=>by omega
 | 0,k + 1,n,X,hn,hk,hX,hw=>by
  obtain ⟨_,_,_,_,_,_,_,_,hl,hb⟩:=h.size
  have hc:=fc h
  obtain rfl : n = q:=by omega
  have hl' : s.f0.f2.length = w * n:=by
   obtain ⟨w',q',e0',e1',_,_,_,_,hl,hb⟩:=h.size
   obtain rfl : w' = w:=by omega
   obtain rfl : q' = n:=by omega
   exact hl
  rw [jd.l0,if_neg (by show ¬ (n : Int) < s.f0.f1; omega),pr hX (fun r hr=>jZ e0 hl' ⟨hc.1,hc.2.1⟩ hr) fun r hr=>by rw [hw r hr,if_pos hr]]
 | m + 1,k + 1,n,X,hn,hk,hX,hw=>by
  obtain ⟨w',q',e0',e1',a,b,c,d,hl,hb⟩:=h.size
  obtain rfl : w' = w:=by omega
  obtain rfl : q' = q:=by omega
  have hc:=fc h
  have hi:=rx ⟨hc.1,hc.2.1⟩ lines kind n
  have hp:=eZ (w:=w') (i:=n) (q:=q') (by omega)
  have hg : ci (bF.mk s.f0.f0 s.f0.f1 X) = true:=by
   rw [eE]
   refine ⟨w',q',e0,e1,a,b,c,d,hX,fun r hr=>?_⟩
   show ly (win X (r * w') w')
   rw [hw r hr]
   split
   ·unfold ke
    refine lO fun x hx=>?_
    unfold mS at hx
    rcases jv hx with z | z
    ·rw [e0,Int.toNat_natCast] at z
     exact (kv h.mg e0 e1 hr).cells x z
    ·rw [(List.mem_replicate.1 z).2]; exact lD h.m.y
   ·exact kv h.mg e0 e1 hr
  have hbX : ∀ x ∈ X,fX x:=by
   have e : X = (List.range q').flatMap fun r=>if r < n then ke s lines kind r else win s.f0.f2 (r * w') w':=pr hX (fun r hr=>by
    split
    ·exact jZ e0 hl ⟨hc.1,hc.2.1⟩ hr
    ·have:=eZ (w:=w') hr; exact dE (by omega)) hw
   rw [e]
   intro x hx
   simp only [List.mem_flatMap] at hx
   obtain ⟨r,_,hx⟩:=hx
   split at hx
   ·unfold ke at hx
    exact mD (hD (kL h.b) lM) x hx
   ·exact kL h.b x hx
  have hmg : Mg { s with f0:=bF.mk s.f0.f0 s.f0.f1 X,f1:=(n : Int) }:=⟨hg,hbX,h.m.y,h.m.t0,h.m.t1,h.m.t2,by show (0 : Int) ≤ (n : Int); omega,by show (n : Int) < s.f0.f1; omega⟩
  have hpair : ∀ (G : Int × Int → Option aG),(lt ((decide ((n : Int) = s.f1)) && (decide (kind = 0))) fun q58=>if q58 = true then (some (s.f2,s.f0.f0)) else (lt ((decide ((n : Int) = s.f1)) && (decide (kind = 1))) fun q483=>if q483 = true then (lt (IntKind.i64.wrap (s.f2 + 1)) fun n487=>some (0,n487)) else ((if kind = 2 then (if lines = true then (some true) else (some (decide ((n : Int) = s.f1)))) else (some false) : Option Bool).bind (fun q488=>(if q488 = true then (some q488) else (lt (lines && (decide (kind = 0))) fun q494=>lt (q494 && (decide ((n : Int) > s.f1))) fun q497=>if q497 = true then (some q497) else (lt (lines && (decide (kind = 1))) fun q501=>lt (q501 && (decide ((n : Int) < s.f1))) fun q504=>some q504)) : Option (Bool)).bind (fun t492=>if t492 = true then (some (0,s.f0.f0)) else (some (0,0)))))) : Option (Int × Int)).bind G = G (oE s lines kind n):=fun G=>by
   rw [eO (x:=s.f2 + 1) (by omega) (by omega)]
   unfold oE
   simp only [lt]
   by_cases c1 : (n : Int) = s.f1
   ·by_cases k0 : kind = 0
    ·simp [c1,k0]
    ·by_cases k1 : kind = 1
     ·simp [c1,k1]
     ·by_cases k2 : kind = 2
      ·cases lines <;> simp [c1,k2]
      ·cases lines <;> simp [c1,k0,k1,k2]
   ·by_cases k0 : kind = 0
    ·by_cases c2 : (n : Int) > s.f1 <;> cases lines <;> simp [c1,k0,c2]
    ·by_cases k1 : kind = 1
     ·by_cases c2 : (n : Int) < s.f1 <;> cases lines <;> simp [c1,k1,c2]
     ·by_cases k2 : kind = 2
      ·cases lines <;> simp [c1,k2]
      ·cases lines <;> simp [c1,k0,k1,k2]
  rw [jd.l0,if_pos (by show (n : Int) < s.f0.f1; omega)]
  show Option.bind (_ : Option (Int × Int)) _ = _
  rw [hpair]
  have hre:=tK _ hmg (a:=(oE s lines kind n).1) (b:=(oE s lines kind n).2) hi.1 hi.2.1 hi.2.2 k (by omega)
  rw [ox (s:={ s with f0:=bF.mk s.f0.f0 s.f0.f1 X,f1:=(n : Int) }) (i:=n) e0 rfl] at hre
  show Option.bind (fo.f k (bF.mk s.f0.f0 s.f0.f1 X) (n : Int) (oE s lines kind n).1 (oE s lines kind n).2 s.f4) _ = _
  rw [show fo.f k (bF.mk s.f0.f0 s.f0.f1 X) (n : Int) (oE s lines kind n).1 (oE s lines kind n).2 s.f4 = _ from hre]
  simp only [Option.bind_some,lt]
  rw [eO (by omega) (by omega)]
  have hR : (ce (mS { s with f0:=bF.mk s.f0.f0 s.f0.f1 X,f1:=(n : Int) } (oE s lines kind n).1 (oE s lines kind n).2 (win X (n * w') w'))) = ke s lines kind n:=by
   unfold ke
   rw [hw n (by omega),if_neg (by omega),e0,Int.toNat_natCast]; rfl
  have hRl:=jZ (lines:=lines) (kind:=kind) e0 hl ⟨hc.1,hc.2.1⟩ (show n < q' by omega)
  rw [hR]
  exact yD s lines kind w' q' h e0 e1 m k (n + 1) _ (by omega) (by omega) (by rw [aM (by omega)]; exact hX) fun r hr=>by
   rw [px hX (by omega) hr hRl]
   by_cases z : r = n
   ·subst z; rw [if_pos rfl,if_pos (by omega)]
   ·rw [if_neg z,hw r hr]
    by_cases z2 : r < n
    ·rw [if_pos z2,if_pos (by omega)]
    ·rw [if_neg z2,if_neg (by omega)]
theorem vx (s : aG) (hs : Sg s) (lines : Bool) (kind : Int) (k : Nat) (hk : 40000000000000 ≤ k) : jd.f k s lines kind = some (fC s (lp s lines kind)):=by
 unfold jd.f fC
 rw [rT s hs k hk]
 cases hm : co s
 ·simp
 ·have h:=iL hs hm
  obtain ⟨w,q,e0,e1,_,_,_,_,hl,hb⟩:=h.size
  simp only [Option.bind_some,if_true,Bool.not_true,Bool.false_eq_true,if_false]
  have:=yD s lines kind w q h e0 e1 q k 0 s.f0.f2 (by omega) (by omega) hl (fun r hr=>by rw [if_neg (by omega)])
  rw [show jd.l0 lines kind k s 0 = _ from this]
  simp only [Option.bind_some]
  unfold lp
  rw [e1,Int.toNat_natCast]
theorem vq {s : aG} (h : Ok s) (lines : Bool) (kind : Int) : Ok (lp s lines kind):=by
 obtain ⟨w,q,e0,e1,a,b,c,d,hl,hb⟩:=h.size
 have hc:=fc h
 have hm:=h.mg
 refine fF h ⟨rfl,rfl,rfl,rfl,rfl,rfl,rfl,rfl,rfl,rfl,rfl,rfl,rfl⟩ ⟨?_,?_,hm.y,hm.t0,hm.t1,hm.t2,hm.r0,hm.r1⟩ ⟨hc.1,hc.2.1,fun q=>by cases q⟩
 ·rw [eE]
  refine ⟨w,q,e0,e1,a,b,c,d,?_,fun r hr=>?_⟩
  ·show (List.flatMap _ _).length = _
   rw [e1,Int.toNat_natCast]; exact mo q fun r hr=>jZ e0 hl ⟨hc.1,hc.2.1⟩ hr
  ·show ly (win (List.flatMap _ _) (r * w) w)
   rw [e1,Int.toNat_natCast,oA q r (fun r hr=>jZ e0 hl ⟨hc.1,hc.2.1⟩ hr) hr]
   unfold ke
   refine lO fun x hx=>?_
   unfold mS at hx
   rcases jv hx with z | z
   ·rw [e0,Int.toNat_natCast] at z
    exact (kv h.mg e0 e1 hr).cells x z
   ·rw [(List.mem_replicate.1 z).2]; exact lD h.m.y
 ·intro x hx
  replace hx : x ∈ (List.range s.f0.f1.toNat).flatMap (ke s lines kind):=hx
  simp only [List.mem_flatMap] at hx
  obtain ⟨r,_,hx⟩:=hx
  unfold ke at hx
  exact mD (hD (kL h.b) lM) x hx
theorem yN (s : aG) (w q b : Nat) (e0 : s.f0.f0 = (w : Int)) (hw5 : w ≤ 512) (hq5 : q ≤ 512) (hl : s.f0.f2.length = w * q) (hb : w * q ≤ 262144) (hbq : b ≤ q) : ∀ (m k n : Nat) (X : List aZ),n + m = b → m + 1100000 < k → X.length = w * q →
  ∃ Y,cM.l0 s (b : Int) k (n : Int) X = some Y∧Y.length = w * q∧∀ r,r < q → win Y (r * w) w = if n ≤ r∧r < b then ce (mS s 0 (w : Int) (win X (r * w) w)) else win X (r * w) w
 | _,0,_,_,_,hk,_=>by omega
 | 0,k + 1,n,X,hn,hk,hX=>⟨X,by rw [cM.l0,if_pos (by omega),if_neg (by omega)],hX,fun r hr=>by rw [if_neg (by omega)]⟩
 | m + 1,k + 1,n,X,hn,hk,hX=>by
  have hp:=eZ (w:=w) (i:=n) (q:=q) (by omega)
  have hwX:=dE (xs:=X) (o:=n * w) (n:=w) (by omega)
  have hRl : (ce (mS s 0 (w : Int) (win X (n * w) w))).length = w:=by rw [cB,mn (by omega) (by omega) (by omega),hwX]
  obtain ⟨Y,h1,h2,h3⟩:=yN s w q b e0 hw5 hq5 hl hb hbq m k (n + 1) (bo X (n * w) (ce (mS s 0 (w : Int) (win X (n * w) w)))) (by omega) (by omega) (by rw [aM (by omega)]; exact hX)
  refine ⟨Y,?_,h2,fun r hr=>?_⟩
  ·rw [cM.l0,if_pos (by omega),if_pos (by omega)]
   have hat:=vX { s with f0:=bF.mk s.f0.f0 s.f0.f1 X } w q n e0 hX hb (by omega)
   rw [show dJ.f (aG.mk (bF.mk s.f0.f0 s.f0.f1 X) s.f1 s.f2 s.f3 s.f4 s.f5 s.f6 s.f7 s.f8 s.f9 s.f10 s.f11 s.f12 s.f13 s.f14 s.f15 s.f16 s.f17) (n : Int) = _ from hat]
   simp only [Option.bind_some]
   rw [if_pos (by omega),e0,rE X s 0 (w : Int) (by omega) (by omega) w (n * w) (by omega) (by omega) (by omega) k (by omega)]
   simp only [Option.bind_some,lt]
   rw [if_pos (aM (by omega)),eO (by omega) (by omega)]
   exact h1
  ·rw [h3 r hr,px hX (by omega) hr hRl]
   by_cases z : r = n
   ·subst z; rw [if_neg (by omega),if_pos rfl,if_pos (by omega)]
   ·rw [if_neg z]
    by_cases z2 : n + 1 ≤ r∧r < b
    ·rw [if_pos z2,if_pos (by omega)]
    ·rw [if_neg z2,if_neg (by omega)]
theorem xp (s : aG) (w q a b : Nat) (e0 : s.f0.f0 = (w : Int)) (hw5 : w ≤ 512) (hq5 : q ≤ 512) (hl : s.f0.f2.length = w * q) (hb : w * q ≤ 262144) (hbq : b ≤ q) (k : Nat) (hk : 1200000 ≤ k) :
  ∃ Y,cM.f k s (a : Int) (b : Int) = some { s with f0:=bF.mk s.f0.f0 s.f0.f1 Y }∧Y.length = w * q∧∀ r,r < q → win Y (r * w) w = if a ≤ r∧r < b then ce (mS s 0 (w : Int) (win s.f0.f2 (r * w) w)) else win s.f0.f2 (r * w) w:=by
 obtain ⟨k,rfl⟩ : ∃ j,k = j + 1:=⟨k - 1,by omega⟩
 by_cases hab : a ≤ b
 ·obtain ⟨Y,h1,h2,h3⟩:=yN s w q b e0 hw5 hq5 hl hb hbq (b - a) (k + 1) a s.f0.f2 (by omega) (by omega) hl
  exact ⟨Y,by unfold cM.f; rw [h1]; simp only [Option.bind_some]; rw [if_pos (by omega)],h2,h3⟩
 ·refine ⟨s.f0.f2,?_,hl,fun r hr=>by rw [if_neg (by omega)]⟩
  unfold cM.f
  rw [cM.l0,if_pos rfl,if_neg (by omega)]
  simp
theorem vz (s : aG) (h : Ok s) (lines : Bool) (kind : Int) (k : Nat) (hk : 1200000 ≤ k) : iW.f k s lines kind = some (lp s lines kind):=by
 obtain ⟨w,q,i,e0,e1,e2,a,b,c,d,hi,hl,hb,hp⟩:=h.mg.at
 have hc:=fc h
 have hpair : ∃ A B ab be : Nat,(∀ (G : Int × Int × Int × Int → Option aG),(if kind = 0 then (some (s.f2,s.f0.f0,0,s.f0.f1)) else (if kind = 1 then (lt (IntKind.i64.wrap (s.f2 + 1)) fun n1273=>some (0,n1273,s.f1,0)) else (if kind = 2 then (some (0,s.f0.f0,s.f1,s.f0.f1)) else (some (0,0,0,0)))) : Option (Int × Int × Int × Int)).bind G = G ((A : Int),(B : Int),(ab : Int),(be : Int))) ∧
   oE s lines kind (i : Int) = ((A : Int),(B : Int))∧ab ≤ i∧be ≤ q∧(∀ r : Nat,r < q → r ≠ i → oE s lines kind (r : Int) = if lines = true∧(r < ab ∨ (i + 1 ≤ r∧r < be)) then (0,(w : Int)) else (0,0)):=by
  unfold oE
  rw [eO (x:=s.f2 + 1) (by omega) (by omega),e2]
  obtain ⟨cc,hcc⟩ : ∃ cc : Nat,s.f2 = (cc : Int):=⟨s.f2.toNat,by omega⟩
  by_cases k0 : kind = 0
  ·refine ⟨cc,w,0,q,fun G=>by simp [k0,hcc,e0,e1],by simp [k0,hcc,e0],by omega,by omega,fun r hr hri=>?_⟩
   by_cases z : r > i
   ·cases lines <;> simp [k0,e0,z,show ¬ (r : Int) = (i : Int) from by omega,show (r : Int) > (i : Int) from by omega,show i + 1 ≤ r from z,hr]
   ·cases lines <;> simp [k0,e0,show ¬ (r : Int) = (i : Int) from by omega,show ¬ (r : Int) > (i : Int) from by omega,show ¬ i + 1 ≤ r from z]; try omega
  ·by_cases k1 : kind = 1
   ·refine ⟨0,cc + 1,i,0,fun G=>by simp [k1,hcc,lt],by simp [k1,hcc],by omega,by omega,fun r hr hri=>?_⟩
    by_cases z : r < i
    ·cases lines <;> simp [k1,e0,z,show ¬ (r : Int) = (i : Int) from by omega,show (r : Int) < (i : Int) from by omega]
    ·cases lines <;> simp [k1,e0,z,show ¬ (r : Int) = (i : Int) from by omega,show ¬ (r : Int) < (i : Int) from by omega]; try omega
   ·by_cases k2 : kind = 2
    ·refine ⟨0,w,i,q,fun G=>by simp [k2,e0,e1],by simp [k2,e0],by omega,by omega,fun r hr hri=>?_⟩
     cases lines
     ·simp [k2,e0,show ¬ (r : Int) = (i : Int) from by omega]
     ·have : r < i ∨ (i + 1 ≤ r∧r < q):=by omega
      simp [k2,e0,this,show ¬ (r : Int) = (i : Int) from by omega]
    ·exact ⟨0,0,0,0,fun G=>by simp [k0,k1,k2],by simp [k0,k1,k2],by omega,by omega,fun r hr hri=>by simp [k0,k1,k2]⟩
 obtain ⟨A,B,ab,be,hG,hE,hab,hbe,hO⟩:=hpair
 have hin:=rx ⟨hc.1,hc.2.1⟩ lines kind (i : Int)
 rw [hE] at hin
 simp only at hin
 unfold iW.f
 rw [hG,ta s w q i e0 e2 hl hb hi]
 simp only [Option.bind_some]
 have hwX:=dE hp
 have hRl : (ce (mS s (A : Int) (B : Int) (win s.f0.f2 (i * w) w))).length = w:=by rw [cB,mn (by omega) (by omega) (by omega),hwX]
 have hXl : (bo s.f0.f2 (i * w) (ce (mS s (A : Int) (B : Int) (win s.f0.f2 (i * w) w)))).length = w * q:=by rw [aM (by omega)]; exact hl
 rw [if_pos (by omega),rE s.f0.f2 s (A : Int) (B : Int) (by omega) (by omega) w (i * w) (by omega) hp (by omega) k (by omega)]
 simp only [Option.bind_some]
 rw [if_pos (by omega)]
 generalize hX1 : bo s.f0.f2 (i * w) (ce (mS s (A : Int) (B : Int) (win s.f0.f2 (i * w) w))) = X1 at hXl
 have hw1 : ∀ r,r < q → win X1 (r * w) w = if r = i then ce (mS s (A : Int) (B : Int) (win s.f0.f2 (i * w) w)) else win s.f0.f2 (r * w) w:=fun r hr=>by rw [← hX1]; exact px hl hi hr hRl
 have fin : ∀ Y : List aZ,Y.length = w * q → (∀ r,r < q → win Y (r * w) w = ke s lines kind r) → ({ s with f0:=bF.mk s.f0.f0 s.f0.f1 Y,f3:=false } : aG) = lp s lines kind:=fun Y hY hw=>by
  unfold lp
  rw [e1,Int.toNat_natCast,← pr hY (fun r hr=>jZ e0 hl ⟨hc.1,hc.2.1⟩ hr) hw]
 have hself : ∀ r,r < q → r ≠ i → oE s lines kind (r : Int) = (0,0) → win s.f0.f2 (r * w) w = ke s lines kind r:=fun r hr hri he=>by
  unfold ke
  rw [he,tN,e0,Int.toNat_natCast,sd (kv h.mg e0 e1 hr)]
 have hrow : ce (mS s (A : Int) (B : Int) (win s.f0.f2 (i * w) w)) = ke s lines kind i:=by
  unfold ke; rw [hE,e0,Int.toNat_natCast]
 cases lines
 ·simp only [Bool.false_eq_true,if_false,Option.bind_some]
  refine congrArg some (fin X1 hXl fun r hr=>?_)
  rw [hw1 r hr]
  by_cases z : r = i
  ·subst z; rw [if_pos rfl]; exact hrow
  ·rw [if_neg z]; exact hself r hr z (by rw [hO r hr z]; simp)
 ·simp only [if_true]
  obtain ⟨Y,y1,y2,y3⟩:=xp { s with f0:=bF.mk s.f0.f0 s.f0.f1 X1 } w q 0 ab e0 b d hXl hb (by omega) k hk
  rw [show cM.f k (aG.mk (bF.mk s.f0.f0 s.f0.f1 X1) s.f1 s.f2 s.f3 s.f4 s.f5 s.f6 s.f7 s.f8 s.f9 s.f10 s.f11 s.f12 s.f13 s.f14 s.f15 s.f16 s.f17) 0 (ab : Int) = _ from y1]
  simp only [Option.bind_some]
  rw [show IntKind.i64.wrap (s.f1 + 1) = ((i + 1 : Nat) : Int) from by rw [e2,eO (by omega) (by omega)]; rfl]
  obtain ⟨Z,z1,z2,z3⟩:=xp { s with f0:=bF.mk s.f0.f0 s.f0.f1 Y } w q (i + 1) be e0 b d y2 hb hbe k hk
  rw [show cM.f k (aG.mk (bF.mk s.f0.f0 s.f0.f1 Y) s.f1 s.f2 s.f3 s.f4 s.f5 s.f6 s.f7 s.f8 s.f9 s.f10 s.f11 s.f12 s.f13 s.f14 s.f15 s.f16 s.f17) ((i + 1 : Nat) : Int) (be : Int) = _ from z1]
  simp only [Option.bind_some]
  refine congrArg some (fin Z z2 fun r hr=>?_)
  have y3':=y3 r hr
  have z3':=z3 r hr
  replace y3' : win Y (r * w) w = if 0 ≤ r∧r < ab then ce (mS s 0 (w : Int) (win X1 (r * w) w)) else win X1 (r * w) w:=y3'
  replace z3' : win Z (r * w) w = if i + 1 ≤ r∧r < be then ce (mS s 0 (w : Int) (win Y (r * w) w)) else win Y (r * w) w:=z3'
  rw [z3',y3',hw1 r hr]
  have hfull : oE s true kind (r : Int) = (0,(w : Int)) → ce (mS s 0 (w : Int) (win s.f0.f2 (r * w) w)) = ke s true kind r:=fun he=>by
   unfold ke; rw [he,e0,Int.toNat_natCast]
  by_cases z : r = i
  ·subst z
   rw [if_neg (by omega),if_neg (by omega),if_pos rfl]; exact hrow
  ·rw [if_neg z]
   have ho:=hO r hr z
   by_cases c1 : r < ab
   ·rw [if_neg (by omega),if_pos (by omega)]
    exact hfull (by rw [ho,if_pos ⟨rfl,.inl c1⟩])
   ·rw [if_neg (c:=0 ≤ r∧r < ab) (by omega)]
    by_cases c2 : i + 1 ≤ r∧r < be
    ·rw [if_pos c2]
     exact hfull (by rw [ho,if_pos ⟨rfl,.inr c2⟩])
    ·rw [if_neg c2]
     exact hself r hr z (by rw [ho,if_neg (by rintro ⟨_,z⟩; omega)])
end Go.Proofs.YtckilbegmbaeeaaGreat.Z3Sc
namespace Go.Proofs.YtckilbegmbaeeaaGreat.Z3Sc
open Go Go.RowKit Go.Proofs.YtckilbegmbaeeaaGreat.SL Go.Proofs.YtckilbegmbaeeaaGreat.Z3 Go.Proofs.YtckilbegmbaeeaaGreat.Z3May Go.Proofs.YtckilbegmbaeeaaGreat.Z3Ls Go.Proofs.YtckilbegmbaeeaaGreat.Z3Op Go.Proofs.YtckilbegmbaeeaaGreat.Z3Sp
set_option linter.unusedVariables false
set_option linter.unusedSimpArgs false
def kC (x : aZ) (c : Int) : aZ :=
 if x.f1.f0 = 0 then { x with f1:=fR.mk c x.f1.f1 x.f1.f2 } else if x.f1.f1 = 0 then { x with f1:=fR.mk x.f1.f0 c x.f1.f2 } else if x.f1.f2 = 0 then { x with f1:=fR.mk x.f1.f0 x.f1.f1 c } else x
def lR (x : aZ) (c : Int) : aZ:=if gA c ≠ 0 ∨ x.f2 = 0 ∨ x.f2 > 2 then x else kC x c
theorem yH (x : aZ) (c : Int) (k : Nat) (hk : 44 ≤ k) : mm.f k x c = some (lR x c):=by
 obtain ⟨k,rfl⟩ : ∃ j,k = j + 4:=⟨k - 4,by omega⟩
 have n0 : (0 : Int) < 3:=by decide
 have n1 : (1 : Int) < 3:=by decide
 have n2 : (2 : Int) < 3:=by decide
 have n3 : ¬ (3 : Int) < 3:=by decide
 have m0 : (0 : Int) ≤ 0∧(0 : Int) < 3:=by decide
 have m1 : (0 : Int) ≤ 1∧(1 : Int) < 3:=by decide
 have m2 : (0 : Int) ≤ 2∧(2 : Int) < 3:=by decide
 have hl : mm.l0 x c (k + 4) x 0 = some (kC x c):=by
  unfold kC
  simp only [mm.l0,lt,oU,jH,nv,xP,zb,zD,n0,n1,n2,n3,m0,m1,m2,and_self,if_true,if_false]
  by_cases ha : x.f1.f0 = 0
  ·simp [ha]
  ·by_cases hb : x.f1.f1 = 0
   ·simp [ha,hb]
   ·by_cases hc : x.f1.f2 = 0
    ·simp [ha,hb,hc]
    ·simp [ha,hb,hc]
 unfold mm.f lR
 rw [qu c (k + 4) (by omega),hl]
 simp only [Option.bind_some,lt]
 by_cases h0 : gA c = 0
 ·by_cases h1 : x.f2 = 0
  ·simp [h0,h1]
  ·by_cases h2 : x.f2 > 2
   ·simp [h0,h1,h2]
   ·simp [h0,h1,h2]
 ·simp [h0]
theorem xT (x : aZ) (c : Int) (hx : fX x) (k : Nat) (hk : 44 ≤ k) : mE.f k x c = some (lR x c):=by
 obtain ⟨k,rfl⟩ : ∃ j,k = j + 4:=⟨k - 4,by omega⟩
 have n0 : (0 : Int) < 3:=by decide
 have n1 : (1 : Int) < 3:=by decide
 have n2 : (2 : Int) < 3:=by decide
 have n3 : ¬ (3 : Int) < 3:=by decide
 have m0 : (0 : Int) ≤ 0∧(0 : Int) < 3:=by decide
 have m1 : (0 : Int) ≤ 1∧(1 : Int) < 3:=by decide
 have m2 : (0 : Int) ≤ 2∧(2 : Int) < 3:=by decide
 have hl : ∀ z,(mE.l0 c (k + 4) x z 0).bind (fun t11=>Out.el t11 (fun r_=>some r_) (fun s12=>some (s12.1))) = some (kC x c):=fun z=>by
  unfold kC
  simp only [mE.l0,lt,oU,jH,nv,xP,zb,zD,n0,n1,n2,n3,m0,m1,m2,and_self,if_true,if_false]
  by_cases ha : x.f1.f0 = 0
  ·simp [ha,ku]
  ·by_cases hb : x.f1.f1 = 0
   ·simp [ha,hb,ku]
   ·by_cases hc : x.f1.f2 = 0
    ·simp [ha,hb,hc,ku]
    ·simp [ha,hb,hc,jh]
 unfold mE.f lR
 rw [qn c (k + 4) (by omega)]
 simp only [Option.bind_some,lt]
 rw [hl]
 have:=hx.1
 by_cases h0 : gA c = 0
 ·by_cases h1 : x.f2 = 0
  ·simp [h0,h1]
  ·by_cases h2 : x.f2 > 2
   ·simp [h0,h1,h2,show ¬ x.f2 = 1 from by omega,show ¬ x.f2 = 2 from by omega]
   ·by_cases h3 : x.f2 = 1
    ·simp [h0,h1,h2,h3]
    ·simp [h0,h1,h2,h3,show x.f2 = 2 from by omega]
 ·simp [h0]
theorem rS (x : aZ) (c : Int) : (lR x c).f2 = x.f2∧(lR x c).f3 = x.f3:=by
 unfold lR kC
 split
 ·exact ⟨rfl,rfl⟩
 ·split
  ·exact ⟨rfl,rfl⟩
  ·split
   ·exact ⟨rfl,rfl⟩
   ·split <;> exact ⟨rfl,rfl⟩
theorem AF : gA 0 = -1:=by kernel_rfl
theorem tw {x : aZ} {c : Int} (h : cm x = true) : cm (lR x c) = true:=by
 unfold lR
 split
 ·exact h
 ·rename_i q
  have q0 : gA c = 0:=by
   by_cases z : gA c = 0
   ·exact z
   ·exact absurd (.inl z) q
  have q1 : ¬ x.f2 = 0:=fun z=>q (.inr (.inl z))
  have q2 : ¬ x.f2 > 2:=fun z=>q (.inr (.inr z))
  have hc0 : c ≠ 0:=fun z=>by rw [z,AF] at q0; omega
  unfold cm at h
  by_cases hy : cd x.f3 = false
  ·rw [if_pos hy] at h; cases h
  ·rw [if_neg hy,if_neg q1,if_neg q2] at h
   by_cases hw : gA x.f0 = x.f2
   ·rw [if_pos hw] at h
    unfold kC
    unfold gk at h
    by_cases ha : x.f1.f0 = 0
    ·rw [if_pos ha] at h ⊢
     simp only [Bool.and_eq_true,decide_eq_true_eq] at h
     unfold cm
     simp only [hy,q1,q2,hw,if_false,if_true]
     unfold gk
     simp [hc0,h.1,h.2,q0]
    ·rw [if_neg ha] at h ⊢
     by_cases hb : x.f1.f1 = 0
     ·rw [if_pos hb] at h ⊢
      simp only [Bool.and_eq_true,decide_eq_true_eq] at h
      unfold cm
      simp only [hy,q1,q2,hw,if_false,if_true]
      unfold gk
      simp [hc0,ha,h.1,h.2,q0]
     ·rw [if_neg hb] at h ⊢
      simp only [Bool.and_eq_true,Bool.or_eq_true,decide_eq_true_eq] at h
      by_cases hd : x.f1.f2 = 0
      ·rw [if_pos hd]
       unfold cm
       simp only [hy,q1,q2,hw,if_false,if_true]
       unfold gk
       simp [hc0,ha,hb,h.1,q0]
      ·rw [if_neg hd]
       unfold cm
       simp only [hy,q1,q2,hw,if_false,if_true]
       unfold gk
       rcases h.2 with z | z
       ·exact absurd z hd
       ·simp [ha,hb,hd,h.1,z]
   ·rw [if_neg hw] at h; cases h
theorem uA {g : bF} {Y : List aZ} (h : ci g = true) (hl : Y.length = g.f2.length) (hY : ∀ i,i < Y.length → (rd Y (i : Int)).f2 = (rd g.f2 (i : Int)).f2∧(rd Y (i : Int)).f3 = (rd g.f2 (i : Int)).f3∧cm (rd Y (i : Int)) = true) : ci (bF.mk g.f0 g.f1 Y) = true:=by
 unfold ci at h ⊢
 simp only [Bool.and_eq_true,List.all_eq_true,List.mem_range] at h ⊢
 refine ⟨by rw [hl]; exact h.1,fun i hi=>?_⟩
 have h2:=h.2 i (by omega)
 rw [kE] at h2 ⊢
 obtain ⟨a,b,c,d⟩:=h2
 obtain ⟨e1,e2,e3⟩:=hY i hi
 simp only at e1 e2 e3 ⊢
 by_cases h0 : i = 0
 ·subst h0
  rw [e1,e2]
  refine ⟨e3,⟨fun z=>absurd (b.1 z).1 (by simp),fun z=>absurd z.1 (by simp)⟩,fun z=>absurd z.1 (by simp),d⟩
 ·obtain ⟨p1,p2,_⟩:=hY (i - 1) (by omega)
  rw [e1,e2,p1,p2]
  exact ⟨e3,b,c,d⟩
theorem wv {X : List aZ} {n i : Nat} {v : aZ} (hn : n < X.length) (hi : i < X.length) : rd (X.set n v) (i : Int) = if i = n then v else rd X (i : Int):=by
 refine lC (by omega) ?_
 rw [Int.toNat_natCast,List.getElem?_set]
 by_cases z : n = i
 ·rw [if_pos z,if_pos z.symm,if_pos (by omega)]
 ·rw [if_neg z,if_neg (Ne.symm z),iD hi]
def wQ (s : aG) : Nat :=
 let n:=s.f1.toNat * s.f0.f0.toNat + (if s.f3 = true then s.f2 else s.f2 - 1).toNat
 if (rd s.f0.f2 (n : Int)).f2 = 0 then n - 1 else n
def oz (s : aG) (c : Int) : aG :=
 if (if s.f3 = true then s.f2 else s.f2 - 1) < 0 then s else { s with f0:=bF.mk s.f0.f0 s.f0.f1 (s.f0.f2.set (wQ s) (lR (rd s.f0.f2 (wQ s : Int)) c)) }
theorem xL {s : aG} (h : Mg s) {w q i j : Nat} (e0 : s.f0.f0 = (w : Int)) (e1 : s.f0.f1 = (q : Int)) (hi : i < q) (hj : j < w) (hp : i * w + w ≤ s.f0.f2.length) (hz : (rd s.f0.f2 ((i * w + j : Nat) : Int)).f2 = 0) : 0 < j:=by
 have hr:=kv h e0 e1 hi j (by rw [dE hp]; exact hj)
 have e : rd (win s.f0.f2 (i * w) w) (j : Int) = rd s.f0.f2 ((i * w + j : Nat) : Int):=by rw [lU hj hp]; congr 1
 have:=hr.2.1.1 (by rw [e]; exact hz)
 exact this.1
theorem xU (s : aG) (h : Ok s) (c : Int) (k : Nat) (hk : 1100000 ≤ k) : iz.f k s c = some (oz s c):=by
 obtain ⟨w,q,i,e0,e1,e2,a,b,c',d,hi,hl,hb,hp⟩:=h.mg.at
 have hc:=fc h
 have e1' : (if (!s.f3) = true then (lt (IntKind.i64.wrap (s.f2 - 1)) fun n10=>some n10) else (some s.f2) : Option Int) = some (if s.f3 = true then s.f2 else s.f2 - 1):=by
  rw [eO (by omega) (by omega)]; cases s.f3 <;> rfl
 unfold iz.f oz wQ
 rw [e1',e0,e2]
 simp only [Option.bind_some,Int.toNat_natCast]
 have hlt : (if s.f3 = true then s.f2 else s.f2 - 1) < (w : Int):=by split <;> omega
 generalize (if s.f3 = true then s.f2 else s.f2 - 1) = t at hlt ⊢
 by_cases ht : t < 0
 ·rw [if_pos ht,if_pos ht]
 ·obtain ⟨j,rfl⟩ : ∃ j : Nat,t = (j : Int):=⟨t.toNat,by omega⟩
  have hj : j < w:=by omega
  rw [if_neg ht,if_neg ht,ta s w q i e0 e2 hl hb hi]
  simp only [Option.bind_some,Int.toNat_natCast]
  rw [if_pos (by omega),if_pos (by omega),show ((i * w : Nat) : Int) + (j : Int) = ((i * w + j : Nat) : Int) from by omega]
  by_cases hz : (rd s.f0.f2 ((i * w + j : Nat) : Int)).f2 = 0
  ·have h0:=xL h.mg e0 e1 hi hj hp hz
   rw [if_pos hz,if_pos hz,eO (by omega) (by omega)]
   simp only [lt,Option.bind_some]
   rw [if_pos (by omega),show ((i * w : Nat) : Int) + ((j : Int) - 1) = ((i * w + j - 1 : Nat) : Int) from by omega,yH _ c k (by omega)]
   simp only [Option.bind_some,Int.toNat_natCast]
   rw [if_pos (by omega)]
  ·rw [if_neg hz,if_neg hz]
   simp only [lt,Option.bind_some]
   rw [if_pos (by omega),show ((i * w : Nat) : Int) + (j : Int) = ((i * w + j : Nat) : Int) from by omega,yH _ c k (by omega)]
   simp only [Option.bind_some,Int.toNat_natCast]
   rw [if_pos (by omega)]
theorem yi (s : aG) (h : Ok s) (c : Int) (k : Nat) (hk : 1100000 ≤ k) : lW.f k s c = some (oz s c):=by
 obtain ⟨w,q,i,e0,e1,e2,a,b,c',d,hi,hl,hb,hp⟩:=h.mg.at
 have hc:=fc h
 unfold lW.f oz wQ
 rw [eO (x:=s.f2 - 1) (by omega) (by omega),e0,e2]
 have e1' : (if s.f3 = true then (some s.f2) else (some (s.f2 - 1)) : Option Int) = some (if s.f3 = true then s.f2 else s.f2 - 1):=by cases s.f3 <;> rfl
 simp only [lt,e1',Option.bind_some,Int.toNat_natCast]
 have hlt : (if s.f3 = true then s.f2 else s.f2 - 1) < (w : Int):=by split <;> omega
 generalize (if s.f3 = true then s.f2 else s.f2 - 1) = t at hlt ⊢
 by_cases ht : t < 0
 ·rw [if_pos ht,if_pos ht]
 ·obtain ⟨j,rfl⟩ : ∃ j : Nat,t = (j : Int):=⟨t.toNat,by omega⟩
  have hj : j < w:=by omega
  rw [if_neg ht,if_neg ht,show (i : Int) * (w : Int) = ((i * w : Nat) : Int) from by simp,eO (x:=((i * w : Nat) : Int)) (by omega) (by omega),eO (by omega) (by omega),show ((i * w : Nat) : Int) + (j : Int) = ((i * w + j : Nat) : Int) from by omega,if_pos (by omega)]
  simp only [Int.toNat_natCast]
  by_cases hz : (rd s.f0.f2 ((i * w + j : Nat) : Int)).f2 = 0
  ·have h0:=xL h.mg e0 e1 hi hj hp hz
   rw [if_pos hz,if_pos hz,eO (by omega) (by omega)]
   simp only [lt,Option.bind_some]
   rw [if_pos (by omega),show ((i * w + j : Nat) : Int) - 1 = ((i * w + j - 1 : Nat) : Int) from by omega,xT _ c (h.b _ (nF (by omega))) k (by omega)]
   simp only [Option.bind_some,Int.toNat_natCast]
   rw [if_pos (by omega)]
  ·rw [if_neg hz,if_neg hz]
   simp only [lt,Option.bind_some]
   rw [if_pos (by omega),xT _ c (h.b _ (nF (by omega))) k (by omega)]
   simp only [Option.bind_some,Int.toNat_natCast]
   rw [if_pos (by omega)]
theorem xo {s : aG} (h : Ok s) (c : Int) : Ok (oz s c):=by
 obtain ⟨w,q,i,e0,e1,e2,a,b,c',d,hi,hl,hb,hp⟩:=h.mg.at
 have hc:=fc h
 unfold oz
 by_cases ht : (if s.f3 = true then s.f2 else s.f2 - 1) < 0
 ·rw [if_pos ht]; exact h
 ·rw [if_neg ht]
  have hn : wQ s < s.f0.f2.length:=by
   unfold wQ
   rw [e0,e2]
   simp only [Int.toNat_natCast]
   have : (if s.f3 = true then s.f2 else s.f2 - 1).toNat < w:=by split <;> omega
   generalize (if s.f3 = true then s.f2 else s.f2 - 1).toNat = j at this ⊢
   split <;> omega
  generalize wQ s = n at hn
  have hm:=h.mg
  refine fF h ⟨rfl,rfl,rfl,rfl,rfl,rfl,rfl,rfl,rfl,rfl,rfl,rfl,rfl⟩ ⟨uA h.m.g (by simp) fun r hr=>?_,fun x hx=>?_,hm.y,hm.t0,hm.t1,hm.t2,hm.r0,hm.r1⟩ hc
  ·rw [List.length_set] at hr
   rw [wv hn hr]
   have hcell : cm (rd s.f0.f2 (r : Int)) = true:=by
    have:=h.m.g
    unfold ci at this
    simp only [Bool.and_eq_true,List.all_eq_true,List.mem_range] at this
    exact ((kE _ _ _).1 (this.2 r hr)).1
   by_cases z : r = n
   ·subst z; rw [if_pos rfl]
    have:=rS (rd s.f0.f2 (r : Int)) c
    exact ⟨this.1,this.2,tw hcell⟩
   ·rw [if_neg z]; exact ⟨rfl,rfl,hcell⟩
  ·replace hx : x ∈ s.f0.f2.set n _:=hx
   rcases List.mem_or_eq_of_mem_set hx with z | z
   ·exact h.b x z
   ·have:=rS (rd s.f0.f2 (n : Int)) c
    have h2:=h.b _ (nF hn)
    unfold fX at h2 ⊢
    rw [z,this.1]; exact h2
theorem rG (c : Int) : gA c = -1 ∨ gA c = 0 ∨ gA c = 1 ∨ gA c = 2:=by
 unfold gA; split
 ·exact .inl rfl
 ·split
  ·exact .inr (.inl rfl)
  ·split
   ·exact .inr (.inr (.inr rfl))
   ·exact .inr (.inr (.inl rfl))
def kV (c w : Int) (y : cA) : List aZ:=aZ.mk c (fR.mk 0 0 0) w y::(if w = 2 then [aZ.mk 0 (fR.mk 0 0 0) 0 y] else [])
theorem qC {c w : Int} {y : cA} (hy : cd y = true) (hw : gA c = w) (h : w = 1 ∨ w = 2) : ∀ x ∈ kV c w y,cm x = true:=by
 have h1 : cm (aZ.mk c (fR.mk 0 0 0) w y) = true:=by
  unfold cm
  have q1 : ¬ w = 0:=by omega
  have q2 : ¬ w > 2:=by omega
  simp only [hy,q1,q2,hw,if_false,if_true,Bool.true_eq_false]
  decide
 have h2 : cm (aZ.mk 0 (fR.mk 0 0 0) 0 y) = true:=by
  unfold cm
  simp only [hy,if_true,Bool.true_eq_false,if_false]
  decide
 intro x hx
 unfold kV at hx
 split at hx
 ·simp only [List.mem_cons,List.not_mem_nil,or_false] at hx
  rcases hx with rfl | rfl
  ·exact h1
  ·exact h2
 ·simp only [List.mem_cons,List.not_mem_nil,or_false] at hx
  rw [hx]; exact h1
theorem oS {c w : Int} {y : cA} (h : w = 1 ∨ w = 2) : ∀ x ∈ kV c w y,fX x:=by
 intro x hx
 unfold kV at hx
 unfold fX
 split at hx
 ·simp only [List.mem_cons,List.not_mem_nil,or_false] at hx
  rcases hx with rfl | rfl
  ·simp only; omega
  ·simp only; omega
 ·simp only [List.mem_cons,List.not_mem_nil,or_false] at hx
  rw [hx]; simp only; omega
theorem AN (c : Int) (y : cA) {w : Int} (hw : gA c = w) (h : w = 1 ∨ w = 2) (k : Nat) (hk : 44 ≤ k) : qq.f k c y = some (kV c w y):=by
 unfold qq.f rF.f kV
 rw [qu c k (by omega),hw]
 rcases h with rfl | rfl
 ·simp only [Option.bind_some,if_true,decide_true]
  simp [lt,show IntKind.u8.wrap 1 = 1 from by decide]
 ·simp only [Option.bind_some,decide_true]
  simp [lt,show IntKind.u8.wrap 2 = 2 from by decide]
theorem zH (c : Int) (y : cA) {w : Int} (hw : gA c = w) (h : w = 1 ∨ w = 2) (k : Nat) (hk : 44 ≤ k) : qe.f k c y = some (kV c w y):=by
 unfold qe.f kV
 rw [qn c k (by omega),hw]
 rcases h with rfl | rfl
 ·simp
 ·simp
def mJ (s : aG) (c w : Int) : List aZ → List aZ:=fun W=>bo W s.f2.toNat ((kV c w s.f4).take (s.f0.f0.toNat - s.f2.toNat))
theorem tP {s : aG} {c w : Int} {W : List aZ} (hW : W.length = s.f0.f0.toNat) (h : s.f2.toNat ≤ s.f0.f0.toNat) : (mJ s c w W).length = W.length:=aM (by rw [List.length_take]; omega)
def oL (s : aG) (c w : Int) : aG :=
 let t:=if s.f10 = true then lA s (pm s w) else s
 let u:=lA t (mJ t c w)
 if s.f2 + w > s.f0.f0 - 1 then { u with f2:=s.f0.f0 - 1,f3:=true } else { u with f2:=s.f2 + w }
theorem xv {s : aG} (h : Mg s) (hc : 0 ≤ s.f2∧s.f2 < s.f0.f0) {c w : Int} (hw : gA c = w) (h1 : w = 1 ∨ w = 2) : Mg (lA s (mJ s c w)):=by
 refine qW h (fun W hW hm=>⟨tP hW (by omega),fun x hx=>?_⟩) (fun W hW=>hD hW fun x hx=>oS h1 x (List.mem_of_mem_take hx))
 rcases jv hx with q | q
 ·exact hm x q
 ·exact qC h.y hw h1 x (List.mem_of_mem_take q)
structure Pr (s : aG) : Prop where
 m : Mg s
 c : 0 ≤ s.f2∧s.f2 < s.f0.f0
 p : s.f3 = false
theorem tr {s0 s : aG} (h : Ok s0) (l : iR s0 s) (hp : Pr s) {c w : Int} (hw : gA c = w) (h1 : w = 1 ∨ w = 2) : Ok (oL s c w):=by
 have ht : Mg (if s.f10 = true then lA s (pm s w) else s):=by
  split
  ·exact nC hp.m hp.c w
  ·exact hp.m
 have hl : iR s (if s.f10 = true then lA s (pm s w) else s):=by
  split
  ·exact nO s _
  ·exact iR.refl s
 have h2 : (if s.f10 = true then lA s (pm s w) else s).f2 = s.f2:=by split <;> rfl
 have h3 : (if s.f10 = true then lA s (pm s w) else s).f3 = s.f3:=by split <;> rfl
 unfold oL
 simp only
 generalize (if s.f10 = true then lA s (pm s w) else s) = t at ht hl h2 h3
 have hu:=xv ht (by rw [h2,hl.d0]; exact hp.c) hw h1
 have hlu : iR s0 (lA t (mJ t c w)):=(l.trans hl).trans (nO t _)
 have d0 : (lA t (mJ t c w)).f0.f0 = s.f0.f0:=hl.d0
 have hc:=hp.c
 split
 ·exact fF h (fp hlu _ _) (fE hu _ _) ⟨by show 0 ≤ s.f0.f0 - 1; omega,by show s.f0.f0 - 1 < (lA t (mJ t c w)).f0.f0; omega,fun _=>by show s.f0.f0 - 1 = (lA t (mJ t c w)).f0.f0 - 1; omega⟩
 ·refine fF h (fp hlu (s.f2 + w) (lA t (mJ t c w)).f3) (fE hu _ _) ⟨by show 0 ≤ s.f2 + w; omega,by show s.f2 + w < (lA t (mJ t c w)).f0.f0; omega,fun q=>?_⟩
  have : (lA t (mJ t c w)).f3 = s.f3:=h3
  replace q : (lA t (mJ t c w)).f3 = true:=q
  rw [this,hp.p] at q; cases q
def Tp (k : Nat) (a1 r8 : Int) (s794 : aG) : Option aG:=(dP.f s794).bind (fun r837=>if (0 ≤ r837.1∧0 ≤ r837.2∧r837.1 + r837.2 ≤ (s794.f0.f2.length : Int)) then ((if s794.f10 = true then ((iY.f k s794.f0.f2 r837.1 r837.2 s794.f2 r8 s794.f4).bind (fun r1564=>if r1564.length = s794.f0.f2.length then (some r1564) else none)) else (some s794.f0.f2) : Option ((List aZ))).bind (fun t842=>if t842.length = s794.f0.f2.length then ((qq.f k a1 s794.f4).bind (fun r2346=>(ib.f k t842 r837.1 r837.2 s794.f2 r2346).bind (fun r2406=>if r2406.length = t842.length then ((de.f (aG.mk (bF.mk s794.f0.f0 s794.f0.f1 r2406) s794.f1 (IntKind.i64.wrap (s794.f2 + r8)) s794.f3 s794.f4 s794.f5 s794.f6 s794.f7 s794.f8 s794.f9 s794.f10 s794.f11 s794.f12 s794.f13 s794.f14 s794.f15 s794.f16 s794.f17)).bind (fun r2828=>if (IntKind.i64.wrap (s794.f2 + r8)) > r2828 then ((de.f (aG.mk (bF.mk s794.f0.f0 s794.f0.f1 r2406) s794.f1 (IntKind.i64.wrap (s794.f2 + r8)) s794.f3 s794.f4 s794.f5 s794.f6 s794.f7 s794.f8 s794.f9 s794.f10 s794.f11 s794.f12 s794.f13 s794.f14 s794.f15 s794.f16 s794.f17)).bind (fun r3250=>some ((aG.mk (bF.mk s794.f0.f0 s794.f0.f1 r2406) s794.f1 r3250 true s794.f4 s794.f5 s794.f6 s794.f7 s794.f8 s794.f9 s794.f10 s794.f11 s794.f12 s794.f13 s794.f14 s794.f15 s794.f16 s794.f17)))) else (some ((aG.mk (bF.mk s794.f0.f0 s794.f0.f1 r2406) s794.f1 (IntKind.i64.wrap (s794.f2 + r8)) s794.f3 s794.f4 s794.f5 s794.f6 s794.f7 s794.f8 s794.f9 s794.f10 s794.f11 s794.f12 s794.f13 s794.f14 s794.f15 s794.f16 s794.f17))))) else none))) else none)) else none)
theorem yE (s : aG) (h : Pr s) (c : Int) {w' : Int} (hw' : gA c = w') (h1 : w' = 1 ∨ w' = 2) (k : Nat) (hk : 1100000 ≤ k) : Tp k c w' s = some (oL s c w'):=by
 obtain ⟨w,q,i,e0,e1,e2,a,b,c',d,hi,hl,hb,hp⟩:=h.m.at
 have hc:=h.c
 unfold Tp
 rw [ta s w q i e0 e2 hl hb hi]
 simp only [Option.bind_some]
 rw [if_pos (by omega)]
 obtain ⟨X,hX,hXl,hT⟩ : ∃ X : List aZ,(if s.f10 = true then ((iY.f k s.f0.f2 ((i * w : Nat) : Int) (w : Int) s.f2 w' s.f4).bind (fun r1564=>if r1564.length = s.f0.f2.length then (some r1564) else none)) else (some s.f0.f2) : Option ((List aZ))) = some X∧X.length = s.f0.f2.length∧(if s.f10 = true then lA s (pm s w') else s) = { s with f0:=bF.mk s.f0.f0 s.f0.f1 X }:=by
  by_cases c10 : s.f10 = true
  ·have hw:=dE hp
   have hXl : (bo s.f0.f2 (i * w) (ce (pm s w' (win s.f0.f2 (i * w) w)))).length = s.f0.f2.length:=aM (by rw [cB,rW (by omega),hw]; exact hp)
   refine ⟨_,?_,hXl,?_⟩
   ·rw [if_pos c10,uj s h.m hc w' w q i e0 e2 b hl hb hp k hk]
    simp only [Option.bind_some]
    rw [if_pos hXl]
   ·rw [if_pos c10,ox e0 e2]
  ·refine ⟨s.f0.f2,by rw [if_neg c10],rfl,by rw [if_neg c10]⟩
 rw [hX]
 simp only [Option.bind_some]
 rw [if_pos hXl,AN c s.f4 hw' h1 k (by omega)]
 simp only [Option.bind_some]
 obtain ⟨cc,hcc⟩ : ∃ cc : Nat,s.f2 = (cc : Int):=⟨s.f2.toNat,by omega⟩
 have hput : ib.f k X ((i * w : Nat) : Int) (w : Int) s.f2 (kV c w' s.f4) = some (bo X (i * w) (ce (bo (win X (i * w) w) cc ((kV c w' s.f4).take (w - cc))))):=by
  rw [hcc]; exact FG X (i * w) w cc (kV c w' s.f4) (by omega) (by omega) (by omega) k (by omega)
 rw [hput]
 simp only [Option.bind_some]
 have hYl : (bo X (i * w) (ce (bo (win X (i * w) w) cc ((kV c w' s.f4).take (w - cc))))).length = X.length:=aM (by rw [cB,aM (by rw [List.length_take,dE (by omega)]; omega),dE (by omega)]; omega)
 rw [if_pos hYl,np _ (by show 1 ≤ s.f0.f0; omega) (by show s.f0.f0 ≤ 512; omega)]
 simp only [Option.bind_some]
 rw [eO (x:=s.f2 + w') (by omega) (by omega)]
 unfold oL
 simp only
 rw [hT,ox (s:={ s with f0:=bF.mk s.f0.f0 s.f0.f1 X }) (w:=w) (i:=i) e0 e2]
 have hf : mJ { s with f0:=bF.mk s.f0.f0 s.f0.f1 X } c w' (win X (i * w) w) = bo (win X (i * w) w) cc ((kV c w' s.f4).take (w - cc)):=by
  unfold mJ
  simp only [e0,hcc,Int.toNat_natCast]
 simp only
 rw [hf]
 split <;> rfl
def Tr (k : Nat) (a1 r27 n85 : Int) (u : aG) : Option (aG × Int):=(if u.f10 = true then ((fx.f k u.f0 u.f1 u.f2 r27 u.f4).bind (fun r172=>some (aG.mk r172.1 u.f1 u.f2 u.f3 u.f4 u.f5 u.f6 u.f7 u.f8 u.f9 u.f10 u.f11 u.f12 u.f13 u.f14 u.f15 u.f16 u.f17))) else (some u) : Option (aG)).bind (fun t149=>(qe.f k a1 t149.f4).bind (fun r846=>(eL.f k t149.f0 t149.f1 t149.f2 t149.f4 r846).bind (fun r906=>if (IntKind.i64.wrap (t149.f2 + r27)) > n85 then (some (((aG.mk r906.1 t149.f1 n85 true t149.f4 t149.f5 t149.f6 t149.f7 t149.f8 t149.f9 t149.f10 t149.f11 t149.f12 t149.f13 t149.f14 t149.f15 t149.f16 t149.f17),0))) else (some (((aG.mk r906.1 t149.f1 (IntKind.i64.wrap (t149.f2 + r27)) t149.f3 t149.f4 t149.f5 t149.f6 t149.f7 t149.f8 t149.f9 t149.f10 t149.f11 t149.f12 t149.f13 t149.f14 t149.f15 t149.f16 t149.f17),0))))))
theorem xR (s : aG) (h : Pr s) (c : Int) {w' : Int} (hw' : gA c = w') (h1 : w' = 1 ∨ w' = 2) (k : Nat) (hk : 1100100 ≤ k) : Tr k c w' (s.f0.f0 - 1) s = some (oL s c w',0):=by
 have hc:=h.c
 obtain ⟨w,q,e0,e1,a,b,c',d,hl,hb⟩:=h.m.size
 have hX : (if s.f10 = true then ((fx.f k s.f0 s.f1 s.f2 w' s.f4).bind (fun r172=>some (aG.mk r172.1 s.f1 s.f2 s.f3 s.f4 s.f5 s.f6 s.f7 s.f8 s.f9 s.f10 s.f11 s.f12 s.f13 s.f14 s.f15 s.f16 s.f17))) else (some s) : Option (aG)) = some (if s.f10 = true then lA s (pm s w') else s):=by
  by_cases c10 : s.f10 = true
  ·rw [if_pos c10,if_pos c10,uv s h.m hc w' k (by omega)]; rfl
  ·rw [if_neg c10,if_neg c10]
 have ht : Mg (if s.f10 = true then lA s (pm s w') else s):=by
  split
  ·exact nC h.m hc w'
  ·exact h.m
 have hd : (if s.f10 = true then lA s (pm s w') else s).f0.f0 = s.f0.f0∧(if s.f10 = true then lA s (pm s w') else s).f2 = s.f2:=by split <;> exact ⟨rfl,rfl⟩
 unfold Tr oL
 rw [hX]
 simp only [Option.bind_some]
 generalize (if s.f10 = true then lA s (pm s w') else s) = t at ht hd
 rw [zH c t.f4 hw' h1 k (by omega)]
 simp only [Option.bind_some]
 have hL : (kV c w' t.f4).length ≤ 2:=by unfold kV; split <;> simp
 rw [Eh t.f0 ht.gr t.f1 t.f2 t.f4 (kV c w' t.f4) (fun x hx=>oS h1 x hx) (by omega) k (by omega)]
 simp only [Option.bind_some]
 have hsw : pq t.f0 t.f1 t.f2 t.f4 (kV c w' t.f4) = ((lA t (mJ t c w')).f0,0):=by
  unfold pq
  rw [if_pos (by rw [mr ht,hd.1,hd.2]; simp only [Bool.true_and,Bool.and_eq_true,decide_eq_true_eq]; exact ⟨hc.1,hc.2,List.all_eq_true.2 (qC ht.y hw' h1)⟩)]
  rfl
 rw [hsw,hd.2,eO (x:=s.f2 + w') (by omega) (by omega)]
 split <;> rfl
def bU (s : aG) : aG:=if (s.f3 && s.f8) = true then gJ { s with f2:=0 } else s
def uP (u : aG) (c : Int) : aG :=
 if gA c = 2∧u.f2 = u.f0.f0 - 1 then
  if u.f8 = false ∨ u.f0.f0 - 1 = 0 then u else oL (gJ { u with f2:=0 }) c (gA c)
 else oL u c (gA c)
def lB (s : aG) (c : Int) : aG :=
 if gA c ≤ 0 then (if gA c = 0 then oz s c else s) else uP { bU s with f3:=false } c
theorem pI {s : aG} (h : Ok s) : Pr { bU s with f3:=false }∧iR s { bU s with f3:=false }∧Mg (bU s):=by
 have hc:=fc h
 have hm : Mg (bU s):=by
  unfold bU
  split
  ·exact pH (fE h.mg 0 s.f3)
  ·exact h.mg
 have hl : iR s (bU s):=by
  unfold bU
  split
  ·exact (fp (iR.refl s) 0 s.f3).trans (lN (fE h.mg 0 s.f3)).1
  ·exact iR.refl s
 have h2 : 0 ≤ (bU s).f2∧(bU s).f2 < s.f0.f0:=by
  unfold bU
  split
  ·rw [(lN (fE h.mg 0 s.f3)).2.1]; exact ⟨Int.le_refl _,by show (0 : Int) < s.f0.f0; omega⟩
  ·exact ⟨hc.1,hc.2.1⟩
 exact ⟨⟨fE hm (bU s).f2 false,⟨h2.1,by show (bU s).f2 < (bU s).f0.f0; rw [hl.d0]; exact h2.2⟩,rfl⟩,fp hl (bU s).f2 false,hm⟩
theorem nM {s u : aG} (hu : Pr u) (l : iR s u) : Pr (gJ { u with f2:=0 })∧iR s (gJ { u with f2:=0 }):=by
 have hm:=fE hu.m 0 u.f3
 have hf:=lN hm
 have hc:=hu.c
 refine ⟨⟨pH hm,?_,?_⟩,(fp l 0 u.f3).trans hf.1⟩
 ·rw [hf.2.1,hf.1.d0]; exact ⟨Int.le_refl _,by show (0 : Int) < u.f0.f0; omega⟩
 ·rw [hf.2.2]; exact hu.p
theorem vf {s : aG} (h : Ok s) (c : Int) : Ok (lB s c):=by
 unfold lB
 split
 ·split
  ·exact xo h c
  ·exact h
 ·rename_i hw
  have h1 : gA c = 1 ∨ gA c = 2:=by have:=rG c; omega
  obtain ⟨hp,hl,_⟩:=pI h
  generalize ({ bU s with f3:=false } : aG) = u at hp hl ⊢
  unfold uP
  split
  ·split
   ·exact fF h hl hp.m ⟨hp.c.1,hp.c.2,fun q=>by rw [hp.p] at q; cases q⟩
   ·obtain ⟨a,b⟩:=nM hp hl
    exact tr h b a rfl h1
  ·exact tr h hl hp rfl h1
theorem wA (s : aG) (h : Ok s) (c : Int) (k : Nat) (hk : 1100100 ≤ k) : iK.f k s c = some (lB s c):=by
 have hT : ∀ (u : aG),Pr u → gA c = 1 ∨ gA c = 2 → Tp k c (gA c) u = some (oL u c (gA c)):=fun u hu h1=>yE u hu c rfl h1 k (by omega)
 obtain ⟨w,q,e0,e1,a,b,c',d,hl,hb⟩:=h.size
 unfold iK.f lB
 rw [qu c k (by omega)]
 simp only [Option.bind_some]
 by_cases hw : gA c ≤ 0
 ·rw [if_pos hw,if_pos hw,xU s h c k (by omega)]
  by_cases hz : gA c = 0
  ·rw [if_pos hz,if_pos hz]; rfl
  ·rw [if_neg hz,if_neg hz]
 ·have h1 : gA c = 1 ∨ gA c = 2:=by have:=rG c; omega
  obtain ⟨hp,hl',hm⟩:=pI h
  rw [if_neg hw,if_neg hw]
  simp only [lt]
  have e : (if (s.f3 && s.f8) = true then ((eS.f k (aG.mk s.f0 s.f1 0 s.f3 s.f4 s.f5 s.f6 s.f7 s.f8 s.f9 s.f10 s.f11 s.f12 s.f13 s.f14 s.f15 s.f16 s.f17)).bind (fun r50=>some r50)) else (some s) : Option (aG)) = some (bU s):=by
   unfold bU
   split
   ·have:=uq { s with f2:=0 } (fE h.mg 0 s.f3) k (by omega)
    rw [show eS.f k (aG.mk s.f0 s.f1 0 s.f3 s.f4 s.f5 s.f6 s.f7 s.f8 s.f9 s.f10 s.f11 s.f12 s.f13 s.f14 s.f15 s.f16 s.f17) = _ from this]; rfl
   ·rfl
  rw [e]
  simp only [Option.bind_some]
  generalize hu : ({ bU s with f3:=false } : aG) = u at hp hl' ⊢
  unfold uP
  have hu' : aG.mk (bU s).f0 (bU s).f1 (bU s).f2 false (bU s).f4 (bU s).f5 (bU s).f6 (bU s).f7 (bU s).f8 (bU s).f9 (bU s).f10 (bU s).f11 (bU s).f12 (bU s).f13 (bU s).f14 (bU s).f15 (bU s).f16 (bU s).f17 = u:=hu
  have hu0 : aG.mk (bU s).f0 (bU s).f1 0 false (bU s).f4 (bU s).f5 (bU s).f6 (bU s).f7 (bU s).f8 (bU s).f9 (bU s).f10 (bU s).f11 (bU s).f12 (bU s).f13 (bU s).f14 (bU s).f15 (bU s).f16 (bU s).f17 = { u with f2:=0 }:=by rw [← hu]
  have g2 : (bU s).f2 = u.f2:=by rw [← hu]
  have g8 : (bU s).f8 = u.f8:=by rw [← hu]
  try rw [hu']
  rw [hu0,g2,g8,np u (by rw [hl'.d0]; omega) (by rw [hl'.d0]; omega)]
  obtain ⟨ha,hb'⟩:=nM hp hl'
  have hf:=uq { u with f2:=0 } (fE hp.m 0 u.f3) k (by omega)
  rw [hf]
  simp only [Option.bind_some]
  by_cases c1 : gA c = 2
  ·rw [if_pos c1]
   simp only [Option.bind_some,decide_eq_true_eq]
   by_cases c2 : u.f2 = u.f0.f0 - 1
   ·rw [if_pos c2,if_pos (⟨c1,c2⟩ : gA c = 2∧u.f2 = u.f0.f0 - 1)]
    by_cases c3 : u.f8 = false ∨ u.f0.f0 - 1 = 0
    ·rw [if_pos c3]
     cases h8 : u.f8
     ·simp [ku]
     ·rcases c3 with z | z
      ·rw [h8] at z; cases z
      ·simp [z,ku]
    ·rw [if_neg c3]
     have z1 : u.f8 = true:=by cases h8 : u.f8 <;> simp_all
     have z2 : ¬ (u.f0.f0 - 1 = 0):=fun z=>c3 (.inr z)
     rw [if_neg (show ¬ ((!u.f8) = true) by rw [z1]; decide)]
     simp only [z2,Bool.false_eq_true,if_false,Option.bind_some,decide_false,jh]
     exact hT _ ha h1
   ·rw [if_neg c2,if_neg (show ¬ (gA c = 2∧u.f2 = u.f0.f0 - 1) from fun z=>c2 z.2)]
    simp only [Option.bind_some,jh]
    exact hT _ hp h1
  ·rw [if_neg c1,if_neg (show ¬ (gA c = 2∧u.f2 = u.f0.f0 - 1) from fun z=>c1 z.1)]
   simp only [Option.bind_some,jh,Bool.false_eq_true,if_false]
   exact hT _ hp h1
theorem wC (s : aG) (hs : Sg s) (c : Int) (k : Nat) (hk : 40000000000000 ≤ k) : nJ.f k s c = some (fC s (lB s c)):=by
 unfold nJ.f fC
 rw [rT s hs k hk]
 cases hm : co s
 ·simp
 ·have h:=iL hs hm
  obtain ⟨w,q,e0,e1,a,b,c',d,hl,hb⟩:=h.size
  have hT : ∀ (u : aG),Pr u → gA c = 1 ∨ gA c = 2 → Tr k c (gA c) (u.f0.f0 - 1) u = some (oL u c (gA c),0):=fun u hu h1=>xR u hu c rfl h1 k (by omega)
  simp only [Option.bind_some,if_true,Bool.not_true,Bool.false_eq_true,if_false]
  rw [qn c k (by omega),yi s h c k (by omega)]
  simp only [Option.bind_some]
  unfold lB
  by_cases hw : gA c ≤ 0
  ·rw [if_pos hw]
   by_cases hz : gA c = 0
   ·rw [if_neg (by omega),if_pos hz,if_pos hz]
   ·rw [if_pos (by omega),if_neg hz]
  ·have h1 : gA c = 1 ∨ gA c = 2:=by have:=rG c; omega
   obtain ⟨hp,hl',hm'⟩:=pI h
   rw [if_neg (by omega),if_neg (by omega),if_neg hw]
   simp only [lt]
   have e : (if (s.f3 && s.f8) = true then ((im.f k (aG.mk s.f0 s.f1 0 s.f3 s.f4 s.f5 s.f6 s.f7 s.f8 s.f9 s.f10 s.f11 s.f12 s.f13 s.f14 s.f15 s.f16 s.f17)).bind (fun r50=>some r50)) else (some s) : Option (aG)) = some (bU s):=by
    unfold bU
    split
    ·have:=tR { s with f2:=0 } (fE h.mg 0 s.f3) k (by omega)
     rw [show im.f k (aG.mk s.f0 s.f1 0 s.f3 s.f4 s.f5 s.f6 s.f7 s.f8 s.f9 s.f10 s.f11 s.f12 s.f13 s.f14 s.f15 s.f16 s.f17) = _ from this]; rfl
    ·rfl
   rw [e]
   simp only [Option.bind_some]
   generalize hu : ({ bU s with f3:=false } : aG) = u at hp hl' ⊢
   unfold uP
   have hu' : aG.mk (bU s).f0 (bU s).f1 (bU s).f2 false (bU s).f4 (bU s).f5 (bU s).f6 (bU s).f7 (bU s).f8 (bU s).f9 (bU s).f10 (bU s).f11 (bU s).f12 (bU s).f13 (bU s).f14 (bU s).f15 (bU s).f16 (bU s).f17 = u:=hu
   have hu0 : aG.mk (bU s).f0 (bU s).f1 0 false (bU s).f4 (bU s).f5 (bU s).f6 (bU s).f7 (bU s).f8 (bU s).f9 (bU s).f10 (bU s).f11 (bU s).f12 (bU s).f13 (bU s).f14 (bU s).f15 (bU s).f16 (bU s).f17 = { u with f2:=0 }:=by rw [← hu]
   have g0 : (bU s).f0.f0 = u.f0.f0:=by rw [← hu]
   have g2 : (bU s).f2 = u.f2:=by rw [← hu]
   have g8 : (bU s).f8 = u.f8:=by rw [← hu]
   have hd0:=hl'.d0
   try rw [hu']
   rw [hu0,g0,g2,g8,eO (x:=u.f0.f0 - 1) (by omega) (by omega)]
   obtain ⟨ha,hb'⟩:=nM hp hl'
   have hf:=tR { u with f2:=0 } (fE hp.m 0 u.f3) k (by omega)
   have hd1 : (gJ { u with f2:=0 }).f0.f0 = u.f0.f0:=by rw [hb'.d0,hd0]
   rw [hf]
   simp only [Option.bind_some]
   by_cases c1 : gA c = 2
   ·by_cases c2 : u.f2 = u.f0.f0 - 1
    ·rw [if_pos (⟨c1,c2⟩ : gA c = 2∧u.f2 = u.f0.f0 - 1)]
     simp only [c1,c2,decide_true,Bool.and_self,if_true]
     by_cases c3 : u.f8 = false ∨ u.f0.f0 - 1 = 0
     ·rw [if_pos c3]
      cases h8 : u.f8
      ·simp [ku]
      ·rcases c3 with z | z
       ·rw [h8] at z; cases z
       ·simp [z,ku]
     ·rw [if_neg c3]
      have z1 : u.f8 = true:=by cases h8 : u.f8 <;> simp_all
      have z2 : ¬ (u.f0.f0 - 1 = 0):=fun z=>c3 (.inr z)
      rw [if_neg (show ¬ ((!u.f8 || decide (u.f0.f0 - 1 = 0)) = true) by rw [z1,decide_eq_false z2]; decide)]
      simp only [Option.bind_some,jh]
      have:=hT _ ha h1
      rw [hd1,c1] at this
      exact this
    ·rw [if_neg (show ¬ (gA c = 2∧u.f2 = u.f0.f0 - 1) from fun z=>c2 z.2)]
     simp only [c1,c2,decide_true,decide_false,Bool.and_false,Bool.false_eq_true,if_false,Option.bind_some,jh]
     have:=hT _ hp h1
     rw [c1] at this
     exact this
   ·rw [if_neg (show ¬ (gA c = 2∧u.f2 = u.f0.f0 - 1) from fun z=>c1 z.1)]
    simp only [c1,decide_false,Bool.false_and,Bool.false_eq_true,if_false,Option.bind_some,jh]
    exact hT _ hp h1
end Go.Proofs.YtckilbegmbaeeaaGreat.Z3Sc
namespace Go.Proofs.YtckilbegmbaeeaaGreat.Z3Sc
open Go Go.RowKit Go.Proofs.YtckilbegmbaeeaaGreat.SL Go.Proofs.YtckilbegmbaeeaaGreat.Z3 Go.Proofs.YtckilbegmbaeeaaGreat.Z3May Go.Proofs.YtckilbegmbaeeaaGreat.Z3Ls Go.Proofs.YtckilbegmbaeeaaGreat.Z3Op Go.Proofs.YtckilbegmbaeeaaGreat.Z3Sp
set_option linter.unusedVariables false
set_option linter.unusedSimpArgs false
def bL (s : aG) (on : Bool) : aG :=
 if (on && !s.f15) = true then { s with f0:=bF.mk s.f0.f0 s.f0.f1 (List.replicate s.f0.f2.length (eA s.f4)),f15:=true,f16:=s.f0 }
 else if (!on && s.f15) = true then { s with f0:=s.f16,f15:=false,f16:=bF.mk 0 0 [] } else s
theorem ru (s : aG) (h : Ok s) (on : Bool) (k : Nat) (hk : 1300000 ≤ k) : gw.f k s on = some (bL s on):=by
 obtain ⟨w,q,e0,e1,a,b,c,d,hl,hb⟩:=h.size
 unfold gw.f bL
 simp only [lt]
 cases ho : (on && !s.f15)
 ·simp only [Bool.false_eq_true,if_false]
  split <;> rfl
 ·simp only [if_true]
  rw [if_pos (by omega)]
  have hz : (List.replicate (s.f0.f2.length : Int).toNat (aZ.mk 0 (fR.mk 0 0 0) 0 (cA.mk 0 0 false false false false false false false false))).length = w * q:=by rw [List.length_replicate,Int.toNat_natCast,hl]
  generalize List.replicate (s.f0.f2.length : Int).toNat (aZ.mk 0 (fR.mk 0 0 0) 0 (cA.mk 0 0 false false false false false false false false)) = Z at hz
  obtain ⟨Y,y1,y2,y3⟩:=xp { s with f0:=bF.mk s.f0.f0 s.f0.f1 Z,f15:=true,f16:=s.f0 } w q 0 q e0 b d hz hb (by omega) k (by omega)
  rw [← e1] at y1
  rw [show cM.f k (aG.mk (bF.mk s.f0.f0 s.f0.f1 Z) s.f1 s.f2 s.f3 s.f4 s.f5 s.f6 s.f7 s.f8 s.f9 s.f10 s.f11 s.f12 s.f13 s.f14 true s.f0 s.f17) 0 s.f0.f1 = _ from y1]
  simp only [Option.bind_some]
  have hY : Y = List.replicate s.f0.f2.length (eA s.f4):=by
   refine qh y2 (by simp [hl]) fun n hn=>?_
   have:=y3 n hn
   rw [this,if_pos (by omega),hl,kK hn]
   have hp:=eZ (w:=w) hn
   have hwz : (win Z (n * w) w).length = w:=dE (by omega)
   have hf : mS { s with f0:=bF.mk s.f0.f0 s.f0.f1 Z,f15:=true,f16:=s.f0 } 0 (w : Int) (win Z (n * w) w) = List.replicate w (eA s.f4):=by
    unfold mS bo
    simp [hwz]
   show ce (mS { s with f0:=bF.mk s.f0.f0 s.f0.f1 Z,f15:=true,f16:=s.f0 } 0 (w : Int) (win Z (n * w) w)) = _
   rw [hf,sd (jx w h.m.y)]
  rw [hY]
theorem yF (s : aG) (r : bF × Int) (N : Nat) (hN : N ≤ 262144) (hr : r.1.f2.length = N) : ∀ (m k i : Nat),i + m = N → m < k → fA.l0 s r k (i : Int) (List.replicate N (eA s.f4)) = some (List.replicate N (eA s.f4))
 | _,0,_,_,hk=>by omega
 | 0,k + 1,i,hi,hk=>by rw [fA.l0,if_pos (by simp [hr]),if_neg (by simp; omega)]
 | m + 1,k + 1,i,hi,hk=>by
  rw [fA.l0,if_pos (by simp [hr]),if_pos (by simp; omega),xD]
  simp only [Option.bind_some,lt]
  rw [if_pos (by simp; omega),gX (by omega)]
  have : (List.replicate N (eA s.f4)).set (i : Int).toNat (eA s.f4) = List.replicate N (eA s.f4):=by
   apply List.ext_getElem?
   intro j
   rw [List.getElem?_set]
   by_cases z : (i : Int).toNat = j
   ·rw [Int.toNat_natCast] at z
    subst z
    rw [Int.toNat_natCast,if_pos rfl,if_pos (by rw [List.length_replicate]; omega),List.getElem?_replicate,if_pos (by omega)]
   ·rw [if_neg z]
  rw [this]
  exact yF s r N hN hr m k (i + 1) (by omega) (by omega)
def pZ (s : aG) (on : Bool) : Nat:=if (on && !s.f15) = true then 0 else if (!on && s.f15) = true then 1 else 2
theorem qT (s : aG) (h : Ok s) (on : Bool) (k : Nat) (hk : 1300000 ≤ k) : fA.f k s on = some (pZ s on,bL s on):=by
 obtain ⟨w,q,e0,e1,a,b,c,d,hl,hb⟩:=h.size
 unfold fA.f bL pZ
 simp only [lt]
 cases ho : (on && !s.f15)
 ·simp only [Bool.false_eq_true,if_false]
  split <;> rfl
 ·simp only [if_true]
  have hn : mU s.f0.f0 s.f0.f1 s.f4 = (bF.mk s.f0.f0 s.f0.f1 (List.replicate (w * q) (eA s.f4)),0):=by
   unfold mU
   rw [if_pos (by rw [h.m.y,Bool.and_true]; unfold dH; simp; omega),show (s.f0.f0 * s.f0.f1).toNat = w * q from by rw [e0,e1,show (w : Int) * (q : Int) = ((w * q : Nat) : Int) from by simp]; exact Int.toNat_natCast _]
  rw [Ax _ _ _ k (by omega),hn]
  simp only [Option.bind_some]
  have:=yF s (bF.mk s.f0.f0 s.f0.f1 (List.replicate (w * q) (eA s.f4)),0) (w * q) hb (by simp) (w * q) k 0 (by omega) (by omega)
  rw [show fA.l0 s (bF.mk s.f0.f0 s.f0.f1 (List.replicate (w * q) (eA s.f4)),0) k 0 (List.replicate (w * q) (eA s.f4)) = _ from this]
  simp only [Option.bind_some]
  rw [if_pos trivial,hl]
theorem rA {s : aG} (h : Ok s) : ci (bF.mk s.f0.f0 s.f0.f1 (List.replicate s.f0.f2.length (eA s.f4))) = true:=by
 obtain ⟨w,q,e0,e1,a,b,c,d,hl,hb⟩:=h.size
 rw [eE]
 refine ⟨w,q,e0,e1,a,b,c,d,by simp [hl],fun r hr=>?_⟩
 show ly (win (List.replicate s.f0.f2.length (eA s.f4)) (r * w) w)
 rw [hl,kK hr]
 exact jx w h.m.y
theorem mw {s : aG} (h : Ok s) (on : Bool) : Ok (bL s on):=by
 unfold bL
 split
 ·refine ⟨⟨rA h,h.m.y,h.m.y2,h.m.t0,h.m.t1,h.m.t2,h.m.p,h.m.p2,h.m.tabs,?_,h.m.ti⟩,lM,h.b⟩
  unfold kw
  simp [h.m.g]
 ·split
  ·rename_i _ ho
   simp only [Bool.and_eq_true] at ho
   have ha:=h.m.alt
   unfold kw at ha
   rw [if_pos ho.2] at ha
   simp only [Bool.and_eq_true,decide_eq_true_eq] at ha
   obtain ⟨⟨a1,a2⟩,a3⟩:=ha
   have p:=dY.1 h.m.p
   have p2:=dY.1 h.m.p2
   refine ⟨⟨a1,h.m.y,h.m.y2,h.m.t0,h.m.t1,by show s.f6 < s.f16.f1; rw [a3]; exact h.m.t2,dY.2 (by show 0 ≤ s.f1∧s.f1 < s.f16.f1∧0 ≤ s.f2∧s.f2 < s.f16.f0∧(s.f3 = true → s.f2 = s.f16.f0 - 1); rw [a2,a3]; exact p),dY.2 (by show 0 ≤ s.f14.f0∧s.f14.f0 < s.f16.f1∧0 ≤ s.f14.f1∧s.f14.f1 < s.f16.f0∧(s.f14.f2 = true → s.f14.f1 = s.f16.f0 - 1); rw [a2,a3]; exact p2),by show fg s.f16.f0 (-1) s.f7 = true; rw [a2]; exact h.m.tabs,by unfold kw; simp,h.m.ti⟩,h.b2,fun x hx=>by simp at hx⟩
  ·exact h
def nj (s : aG) (priv : Bool) (n : Int) (on : Bool) : aG :=
 if priv = false then (if n = 4 then { s with f10:=on } else s)
 else if n = 1 then { s with f11:=on } else if n = 6 then kG { s with f9:=on } 0 0 else if n = 7 then { s with f8:=on } else if n = 25 then { s with f13:=on } else if n = 2004 then { s with f12:=on }
 else if n = 47 ∨ n = 1047 then bL s on
 else if n = 1049 then (if on = true then bL (kX s false) true else if s.f15 = true then kX (bL s false) true else s)
 else s
theorem jD {s : aG} (h : Ok s) (b8 b9 b10 b11 b12 b13 : Bool) : Ok { s with f8:=b8,f9:=b9,f10:=b10,f11:=b11,f12:=b12,f13:=b13 } :=
 ⟨⟨h.m.g,h.m.y,h.m.y2,h.m.t0,h.m.t1,h.m.t2,h.m.p,h.m.p2,h.m.tabs,h.m.alt,h.m.ti⟩,h.b,h.b2⟩
theorem wi {s : aG} (h : Ok s) (priv : Bool) (n : Int) (on : Bool) : Ok (nj s priv n on):=by
 unfold nj
 split
 ·split
  ·exact jD h s.f8 s.f9 on s.f11 s.f12 s.f13
  ·exact h
 ·split
  ·exact jD h s.f8 s.f9 s.f10 on s.f12 s.f13
  ·split
   ·exact pC (jD h s.f8 on s.f10 s.f11 s.f12 s.f13) 0 0
   ·split
    ·exact jD h on s.f9 s.f10 s.f11 s.f12 s.f13
    ·split
     ·exact jD h s.f8 s.f9 s.f10 s.f11 s.f12 on
     ·split
      ·exact jD h s.f8 s.f9 s.f10 s.f11 on s.f13
      ·split
       ·exact mw h on
       ·split
        ·split
         ·exact mw (od h false) true
         ·split
          ·exact od (mw h false) true
          ·exact h
        ·exact h
theorem ye (s : aG) (h : Ok s) (priv : Bool) (n : Int) (on : Bool) (k : Nat) (hk : 1300000 ≤ k) : iH.f k s priv n on = some (nj s priv n on):=by
 obtain ⟨w,q,e0,e1,a,b,c,d,hl,hb⟩:=h.size
 have hp:=qI { s with f9:=on } (by show 1 ≤ s.f0.f0; omega) (by show s.f0.f0 ≤ 512; omega) (by show 1 ≤ s.f0.f1; omega) (by show s.f0.f1 ≤ 512; omega) h.m.t0 h.m.t1 h.m.t2 0 0
 unfold iH.f nj
 cases priv
 ·simp only [Bool.not_false,if_true]
  split <;> rfl
 ·simp only [Bool.not_true,Bool.false_eq_true,if_false,Bool.true_eq_false]
  rw [show fw.f (aG.mk s.f0 s.f1 s.f2 s.f3 s.f4 s.f5 s.f6 s.f7 s.f8 on s.f10 s.f11 s.f12 s.f13 s.f14 s.f15 s.f16 s.f17) 0 0 = _ from hp,ru s h on k hk]
  simp only [Option.bind_some]
  by_cases n1 : n = 1
  ·simp only [n1,if_true]
  ·by_cases n6 : n = 6
   ·simp [n1,n6]
   ·by_cases n7 : n = 7
    ·simp [n1,n6,n7]
    ·by_cases n25 : n = 25
     ·simp [n1,n6,n7,n25]
     ·by_cases n2004 : n = 2004
      ·simp [n1,n6,n7,n25,n2004]
      ·by_cases n47 : n = 47
       ·simp [n1,n6,n7,n25,n2004,n47]
       ·by_cases n1047 : n = 1047
        ·simp [n1,n6,n7,n25,n2004,n47,n1047]
        ·by_cases n1049 : n = 1049
         ·simp only [if_neg n1,if_neg n6,if_neg n7,if_neg n25,if_neg n2004,if_neg n47,decide_eq_false n1047,if_neg (show ¬ (n = 47 ∨ n = 1047) from fun z=>z.elim n47 n1047),if_pos n1049,Option.bind_some,Bool.false_eq_true,if_false]
          cases on
          ·simp only [Bool.false_eq_true,if_false,Option.bind_some,lt,Bool.not_false,Bool.true_and]
           rw [ru s h false k hk]
           simp only [Option.bind_some]
           cases h15 : s.f15
           ·simp only [Bool.false_eq_true,if_false]
            unfold bL
            simp [h15]
           ·simp only [if_true]
            rw [tX]; rfl
          ·simp only [if_true]
           rw [tX]
           simp only [Option.bind_some]
           rw [ru _ (od h false) true k hk]
           simp [lt]
         ·simp [n1,n6,n7,n25,n2004,n47,n1047,n1049]
theorem yL (s : aG) (hs : Sg s) (priv : Bool) (n : Int) (on : Bool) (k : Nat) (hk : 40000000000000 ≤ k) : nK.f k s priv n on = some (fC s (nj s priv n on)):=by
 unfold nK.f
 rw [rT s hs k hk]
 cases hm : co s
 ·simp [fC,hm]
 ·have h:=iL hs hm
  simp only [Option.bind_some,if_true,Bool.not_true,Bool.false_eq_true,if_false,fC,hm]
  unfold nj
  cases priv
  ·simp only [Bool.not_false,if_true]
   split <;> rfl
  ·have h6:=jD h s.f8 on s.f10 s.f11 s.f12 s.f13
   have hp:=qL { s with f9:=on } h6.sg 0 0 k hk
   simp only [Bool.not_true,Bool.false_eq_true,if_false,Bool.true_eq_false]
   rw [show kR.f k (aG.mk s.f0 s.f1 s.f2 s.f3 s.f4 s.f5 s.f6 s.f7 s.f8 on s.f10 s.f11 s.f12 s.f13 s.f14 s.f15 s.f16 s.f17) 0 0 = _ from hp,qT s h on k (by omega)]
   have hmay : co { s with f9:=on } = true:=h6.may
   simp only [Option.bind_some,fC,hmay,if_true]
   have hall : ∀ (t : aG) (o : Bool),(if pZ t o = 0 then (some (((aG.mk (bL t o).f0 (bL t o).f1 (bL t o).f2 (bL t o).f3 (bL t o).f4 (bL t o).f5 (bL t o).f6 t.f7 (bL t o).f8 (bL t o).f9 (bL t o).f10 (bL t o).f11 (bL t o).f12 (bL t o).f13 (bL t o).f14 (bL t o).f15 (bF.mk (bL t o).f16.f0 (bL t o).f16.f1 t.f0.f2) t.f17),(0 : Int)))) else (if pZ t o = 1 then (some (((aG.mk (bF.mk (bL t o).f0.f0 (bL t o).f0.f1 t.f16.f2) (bL t o).f1 (bL t o).f2 (bL t o).f3 (bL t o).f4 (bL t o).f5 (bL t o).f6 t.f7 (bL t o).f8 (bL t o).f9 (bL t o).f10 (bL t o).f11 (bL t o).f12 (bL t o).f13 (bL t o).f14 (bL t o).f15 (bL t o).f16 t.f17),0))) else (if pZ t o = 2 then (some (((aG.mk (bF.mk (bL t o).f0.f0 (bL t o).f0.f1 t.f0.f2) (bL t o).f1 (bL t o).f2 (bL t o).f3 (bL t o).f4 (bL t o).f5 (bL t o).f6 t.f7 (bL t o).f8 (bL t o).f9 (bL t o).f10 (bL t o).f11 (bL t o).f12 (bL t o).f13 (bL t o).f14 (bL t o).f15 (bF.mk (bL t o).f16.f0 (bL t o).f16.f1 t.f16.f2) t.f17),0))) else none))) = some (bL t o,0):=fun t o=>by
    unfold pZ bL
    cases o <;> cases t.f15 <;> rfl
   by_cases n1 : n = 1
   ·simp only [n1,if_true]
   ·by_cases n6 : n = 6
    ·simp [n1,n6]
    ·by_cases n7 : n = 7
     ·simp [n1,n6,n7]
     ·by_cases n25 : n = 25
      ·simp [n1,n6,n7,n25]
      ·by_cases n2004 : n = 2004
       ·simp [n1,n6,n7,n25,n2004]
       ·by_cases n47 : n = 47
        ·simp only [n1,n6,n7,n25,n2004,n47,if_false,if_true,Option.bind_some,decide_true,true_or]
         exact hall s on
        ·by_cases n1047 : n = 1047
         ·simp only [n1,n6,n7,n25,n2004,n47,n1047,if_false,if_true,Option.bind_some,decide_true,or_true]
          exact hall s on
         ·by_cases n1049 : n = 1049
          ·simp only [if_neg n1,if_neg n6,if_neg n7,if_neg n25,if_neg n2004,if_neg n47,decide_eq_false n1047,if_neg (show ¬ (n = 47 ∨ n = 1047) from fun z=>z.elim n47 n1047),if_pos n1049,Option.bind_some,Bool.false_eq_true,if_false]
           cases on
           ·simp only [Bool.false_eq_true,if_false]
            cases h15 : s.f15
            ·simp
            ·simp only [if_true]
             rw [qT s h false k (by omega)]
             simp only [Option.bind_some]
             have ht : pZ s false = 1:=by unfold pZ; simp [h15]
             rw [ht]
             have hd : aG.mk (bF.mk (bL s false).f0.f0 (bL s false).f0.f1 s.f16.f2) (bL s false).f1 (bL s false).f2 (bL s false).f3 (bL s false).f4 (bL s false).f5 (bL s false).f6 s.f7 (bL s false).f8 (bL s false).f9 (bL s false).f10 (bL s false).f11 (bL s false).f12 (bL s false).f13 (bL s false).f14 (bL s false).f15 (bL s false).f16 s.f17 = bL s false:=by
              unfold bL; simp [h15]
             have hk2:=tk (bL s false) (mw h false).sg true k hk
             simp only [fC,(mw h false).may,if_true] at hk2
             rw [if_neg (show ¬ ((1 : Nat) = 0) by decide),if_pos rfl,hd,hk2]
             rfl
           ·simp only [if_true]
            have hk2:=tk s hs false k hk
            simp only [fC,hm,if_true] at hk2
            rw [hk2]
            simp only [Option.bind_some]
            rw [qT _ (od h false) true k (by omega)]
            exact hall (kX s false) true
          ·simp [n1,n6,n7,n25,n2004,n47,n1047,n1049]
end Go.Proofs.YtckilbegmbaeeaaGreat.Z3Sc
namespace Go.Proofs.YtckilbegmbaeeaaGreat.Z3Sc
open Go Go.RowKit Go.Proofs.YtckilbegmbaeeaaGreat.SL Go.Proofs.YtckilbegmbaeeaaGreat.Z3 Go.Proofs.YtckilbegmbaeeaaGreat.Z3May Go.Proofs.YtckilbegmbaeeaaGreat.Z3Ls Go.Proofs.YtckilbegmbaeeaaGreat.Z3Op Go.Proofs.YtckilbegmbaeeaaGreat.Z3Sp
set_option linter.unusedVariables false
set_option linter.unusedSimpArgs false
theorem xm (l : List Int) (a : Int) (hl : l.length ≤ 1048576) (S : ∀ (i j : Nat) (hi : i < l.length) (hj : j < l.length),i < j → l[i] < l[j]) :
  ∀ (n k lo hi : Nat),hi - lo ≤ n → n < k → lo ≤ hi → hi ≤ l.length → (∀ (i : Nat) (h : i < l.length),i < lo → l[i] < a) → (∀ (i : Nat) (h : i < l.length),hi ≤ i → a ≤ l[i]) →
   ∃ p : Nat,fO.l0 l a k (lo : Int) (hi : Int) = some (p : Int)∧p ≤ l.length∧(∀ (i : Nat) (h : i < l.length),i < p → l[i] < a)∧(∀ (i : Nat) (h : i < l.length),p ≤ i → a ≤ l[i])
 | n,0,_,_,_,h,_,_,_,_=>by omega
 | n,k + 1,lo,hi,h1,h2,h3,h4,ha,hb=>by
  rw [fO.l0]
  by_cases hlt : lo < hi
  ·rw [if_pos (by omega)]
   have e1 : IntKind.i64.wrap (eX .u64 (IntKind.u64.wrap (IntKind.i64.wrap ((lo : Int) + (hi : Int)))) 1) = (((lo + hi) / 2 : Nat) : Int):=by
    have e0 : eX .u64 (IntKind.u64.wrap ((lo : Int) + (hi : Int))) 1 = (((lo + hi) / 2 : Nat) : Int):=by
     rw [uT,Int.emod_eq_of_lt (by omega) (by omega),show (1 : Int) = ((1 : Nat) : Int) from rfl,rZ _ _ 1 (by decide)]
     simp
    rw [eO (x:=(lo : Int) + (hi : Int)) (by omega) (by omega),e0,eO (by omega) (by omega)]
   have hm : (lo + hi) / 2 < l.length:=by omega
   simp only [lt,e1]
   rw [if_pos (by omega),eQ hm]
   obtain ⟨m,rfl⟩ : ∃ m,n = m + 1:=⟨n - 1,by omega⟩
   have hless : rq.f l[(lo + hi) / 2] a = some (decide (l[(lo + hi) / 2] < a)):=by
    unfold rq.f qt.f; simp [lt]
   rw [hless]
   simp only [Option.bind_some,decide_eq_true_eq]
   by_cases hc : l[(lo + hi) / 2] < a
   ·rw [if_pos hc,eO (by omega) (by omega)]
    exact xm l a hl S m k ((lo + hi) / 2 + 1) hi (by omega) (by omega) (by omega) h4 (fun i h hi'=>by
     rcases Nat.lt_or_ge i ((lo + hi) / 2) with q | q
     ·have:=S _ _ h hm q; omega
     ·obtain rfl : i = (lo + hi) / 2:=by omega
      exact hc) hb
   ·rw [if_neg hc]
    exact xm l a hl S m k lo ((lo + hi) / 2) (by omega) (by omega) (by omega) (by omega) ha (fun i h hi'=>by
     rcases Nat.lt_or_ge ((lo + hi) / 2) i with q | q
     ·have:=S _ _ hm h q; omega
     ·obtain rfl : i = (lo + hi) / 2:=by omega
      omega)
  ·obtain rfl : lo = hi:=by omega
   rw [if_neg (by omega)]
   exact ⟨lo,rfl,h4,ha,hb⟩
theorem yu (l : List Int) (a : Int) (hl : l.length ≤ 1048576) (S : List.Pairwise (· < ·) l) (k : Nat) (hk : l.length < k) :
  ∃ p : Nat,fO.f k l a = some ((p : Int),decide (p < l.length∧rd l (p : Int) = a))∧p ≤ l.length∧(∀ (i : Nat) (h : i < l.length),i < p → l[i] < a)∧(∀ (i : Nat) (h : i < l.length),p ≤ i → a ≤ l[i]):=by
 obtain ⟨p,h1,h2,h3,h4⟩:=xm l a hl (fun i j hi hj hij=>List.pairwise_iff_getElem.1 S i j hi hj hij) l.length k 0 l.length (by omega) hk (by omega) (by omega) (fun i h q=>by omega) (fun i h q=>by omega)
 refine ⟨p,?_,h2,h3,h4⟩
 unfold fO.f qb.f
 simp only [lt]
 rw [show fO.l0 l a k 0 (l.length : Int) = some (p : Int) from h1]
 simp only [Option.bind_some]
 by_cases hp : p < l.length
 ·rw [if_pos (by omega),if_pos (by omega)]
  by_cases he : rd l (p : Int) = a
  ·simp [he,hp]
  ·rw [if_neg he]
   simp [he,hp]
 ·rw [if_neg (by omega)]
  simp [hp]
def nt : List Int → Int → Int → Int
 | [],_,d=>d
 | t::r,c,d=>if t > c then t else nt r c d
theorem tG : ∀ (l : List Int) (t c d : Int),nt (l ++ [t]) c d = nt l c (if t > c then t else d)
 | [],t,c,d=>rfl
 | x::r,t,c,d=>by
  show (if x > c then x else nt (r ++ [t]) c d) = _
  rw [tG r t c d]; rfl
theorem ui : ∀ (l : List Int) (c d : Int) (p : Nat),(∀ (i : Nat) (h : i < l.length),i < p → l[i] ≤ c) → (∀ (i : Nat) (h : i < l.length),p ≤ i → c < l[i]) → p ≤ l.length → nt l c d = if p < l.length then rd l (p : Int) else d
 | [],c,d,p,_,_,_=>by simp [nt]
 | t::r,c,d,0,_,h2,_=>by
  have:=h2 0 (by simp) (by omega)
  simp only [List.getElem_cons_zero] at this
  unfold nt
  rw [if_pos this]; rfl
 | t::r,c,d,p + 1,h1,h2,h3=>by
  have:=h1 0 (by simp) (by omega)
  simp only [List.getElem_cons_zero] at this
  unfold nt
  rw [if_neg (by omega),ui r c d p (fun i h hi=>by have:=h1 (i + 1) (by simp; omega) (by omega); simpa using this) (fun i h hi=>by have:=h2 (i + 1) (by simp; omega) (by omega); simpa using this) (by simp at h3; omega)]
  by_cases hp : p < r.length
  ·rw [if_pos hp,if_pos (by simp; omega),eQ hp,eQ (xs:=t::r) (show p + 1 < (t::r).length by simp; omega)]; rfl
  ·rw [if_neg hp,if_neg (by simp; omega)]
theorem vQ : ∀ (l : List Int) (c d : Int),nt l c d = d ∨ nt l c d ∈ l
 | [],_,_=>.inl rfl
 | t::r,c,d=>by
  unfold nt
  split
  ·exact .inr (by simp)
  ·rcases vQ r c d with z | z
   ·exact .inl z
   ·exact .inr (by simp [z])
theorem uz (r : aG × Bool) (hl : r.1.f7.length ≤ 1048576) : ∀ (n k : Nat) (d : Int),n ≤ r.1.f7.length → n < k → jg.l0 r k d ((n : Int) - 1) = some (nt (r.1.f7.take n) r.1.f2 d)
 | _,0,_,_,hk=>by omega
 | 0,k + 1,d,_,hk=>by rw [jg.l0,if_neg (by omega)]; rfl
 | n + 1,k + 1,d,hn,hk=>by
  have hn' : n < r.1.f7.length:=by omega
  have hb : 0 ≤ (((n + 1 : Nat) : Int) - 1)∧(((n + 1 : Nat) : Int) - 1) < (r.1.f7.length : Int):=by omega
  have et : r.1.f7.take (n + 1) = r.1.f7.take n ++ [rd r.1.f7 (n : Int)]:=by rw [eQ hn',List.take_add_one,List.getElem?_eq_getElem hn']; rfl
  rw [jg.l0,if_pos (by omega),if_pos hb,if_pos hb,eO (by omega) (by omega),show ((n + 1 : Nat) : Int) - 1 = (n : Int) from by omega,et,tG]
  simp only [lt]
  by_cases hc : rd r.1.f7 (n : Int) > r.1.f2
  ·rw [if_pos hc,if_pos hc]
   exact uz r hl n k _ (by omega) (by omega)
  ·rw [if_neg hc,if_neg hc]
   exact uz r hl n k _ (by omega) (by omega)
def iE (s : aG) (c : Int) : aG :=
 if c = 8 then { s with f2:=max (s.f2 - 1) 0,f3:=false } else if c = 9 then { s with f2:=nt s.f7 s.f2 (s.f0.f0 - 1),f3:=false }
 else if c = 10 ∨ c = 11 ∨ c = 12 then { gJ s with f3:=false } else if c = 13 then { s with f2:=0,f3:=false } else if c = 141 then { jr s with f3:=false } else s
theorem mI {s : aG} (h : M s) : List.Pairwise (· < ·) s.f7∧∀ x ∈ s.f7,-1 < x∧x < s.f0.f0:=mu.1 h.tabs
theorem uV {s : aG} (h : Ok s) : 0 ≤ nt s.f7 s.f2 (s.f0.f0 - 1)∧nt s.f7 s.f2 (s.f0.f0 - 1) < s.f0.f0:=by
 obtain ⟨w,q,e0,_,_,_,_,_,_,_⟩:=h.size
 rcases vQ s.f7 s.f2 (s.f0.f0 - 1) with z | z
 ·omega
 ·have:=(mI h.m).2 _ z; omega
theorem sI {s : aG} (h : Ok s) (c : Int) : Ok (iE s c):=by
 have hc:=fc h
 have hn:=uV h
 have hr:=iR.refl s
 unfold iE
 split
 ·exact fF h (fp hr _ _) (fE h.mg _ _) ⟨by show 0 ≤ max (s.f2 - 1) 0; omega,by show max (s.f2 - 1) 0 < s.f0.f0; omega,fun q=>by cases q⟩
 ·split
  ·exact fF h (fp hr _ _) (fE h.mg _ _) ⟨hn.1,hn.2,fun q=>by cases q⟩
  ·split
   ·obtain ⟨l,e2,e3⟩:=lN h.mg
    exact fF h (fp l (gJ s).f2 false) (fE (pH h.mg) (gJ s).f2 false) ⟨by show 0 ≤ (gJ s).f2; rw [e2]; exact hc.1,by show (gJ s).f2 < (gJ s).f0.f0; rw [e2,l.d0]; exact hc.2.1,fun q=>by cases q⟩
   ·split
    ·exact fF h (fp hr _ _) (fE h.mg _ _) ⟨by show (0 : Int) ≤ 0; omega,by show (0 : Int) < s.f0.f0; omega,fun q=>by cases q⟩
    ·split
     ·obtain ⟨l,e2,e3⟩:=sK h.mg
      exact fF h (fp l (jr s).f2 false) (fE (uJ h.mg) (jr s).f2 false) ⟨by show 0 ≤ (jr s).f2; rw [e2]; exact hc.1,by show (jr s).f2 < (jr s).f0.f0; rw [e2,l.d0]; exact hc.2.1,fun q=>by cases q⟩
     ·exact h
theorem tL (s : aG) (h : Ok s) (c : Int) (k : Nat) (hk : 1100000 ≤ k) : iG.f k s c = some (iE s c):=by
 obtain ⟨w,q,e0,e1,a,b,c',d,hl,hb⟩:=h.size
 have hc:=fc h
 have ht:=fZ h.m
 have hpw:=mI h.m
 unfold iG.f iE
 by_cases c8 : c = 8
 ·rw [if_pos c8,if_pos c8,eO (by omega) (by omega),kO]; rfl
 ·rw [if_neg c8,if_neg c8]
  by_cases c9 : c = 9
  ·rw [if_pos c9,if_pos c9]
   obtain ⟨p,h1,h2,h3,h4⟩:=yu s.f7 s.f2 (by omega) hpw.1 k (by omega)
   rw [h1,np s (by omega) (by omega)]
   simp only [Option.bind_some,decide_eq_true_eq]
   have S : ∀ (i j : Nat) (hi : i < s.f7.length) (hj : j < s.f7.length),i < j → s.f7[i] < s.f7[j]:=fun i j hi hj hij=>List.pairwise_iff_getElem.1 hpw.1 i j hi hj hij
   by_cases hf : p < s.f7.length∧rd s.f7 (p : Int) = s.f2
   ·rw [if_pos hf,eO (by omega) (by omega)]
    simp only [lt,Option.bind_some]
    have hn:=ui s.f7 s.f2 (s.f0.f0 - 1) (p + 1) (fun i hi hip=>by
     rcases Nat.lt_or_ge i p with z | z
     ·have:=h3 i hi z; omega
     ·obtain rfl : i = p:=by omega
      rw [← eQ hi,hf.2]; exact Int.le_refl _) (fun i hi hip=>by
     have:=S p i hf.1 hi (by omega)
     rw [← eQ hf.1,hf.2] at this; exact this) (by omega)
    rw [hn]
    by_cases z : p + 1 < s.f7.length
    ·rw [if_pos (by omega),if_pos (by omega),if_pos z]; rfl
    ·rw [if_neg (by omega),if_neg z]; rfl
   ·rw [if_neg hf]
    simp only [Option.bind_some]
    have hn:=ui s.f7 s.f2 (s.f0.f0 - 1) p (fun i hi hip=>by have:=h3 i hi hip; omega) (fun i hi hip=>by
     have h5:=h4 i hi hip
     rcases Nat.lt_or_ge p i with z | z
     ·have h6:=h4 p (by omega) (Nat.le_refl _)
      have:=S p i (by omega) hi z
      omega
     ·obtain rfl : i = p:=by omega
      have : ¬ rd s.f7 (i : Int) = s.f2:=fun q=>hf ⟨hi,q⟩
      rw [eQ hi] at this; omega) h2
    rw [hn]
    by_cases z : p < s.f7.length
    ·rw [if_pos (by omega),if_pos (by omega),if_pos z]; rfl
    ·rw [if_neg (by omega),if_neg z]; rfl
  ·rw [if_neg c9,if_neg c9,uq s h.mg k hk,yw s h.mg k hk]
   simp only [Option.bind_some]
   by_cases c10 : c = 10
   ·subst c10; rfl
   ·by_cases c11 : c = 11
    ·subst c11; rfl
    ·by_cases c12 : c = 12
     ·subst c12; rfl
     ·simp only [c10,c11,c12,if_false,decide_false,Option.bind_some,Bool.false_eq_true,or_self]
      by_cases c13 : c = 13
      ·rw [if_pos c13,if_pos c13]; rfl
      ·rw [if_neg c13,if_neg c13]
       by_cases c141 : c = 141
       ·rw [if_pos c141,if_pos c141]; rfl
       ·rw [if_neg c141,if_neg c141]; rfl
theorem ut (s : aG) (hs : Sg s) (c : Int) (k : Nat) (hk : 40000000000000 ≤ k) : jg.f k s c = some (fC s (iE s c)):=by
 unfold jg.f fC
 rw [rT s hs k hk]
 cases hm : co s
 ·simp
 ·have h:=iL hs hm
  obtain ⟨w,q,e0,e1,a,b,c',d,hl,hb⟩:=h.size
  have hc:=fc h
  have ht:=fZ h.m
  have hr:=dY.1 h.m.p
  simp only [Option.bind_some,if_true,Bool.not_true,Bool.false_eq_true,if_false,lt]
  unfold iE
  by_cases c8 : c = 8
  ·rw [if_pos c8,if_pos c8,eO (by omega) (by omega),kO,Int.max_comm]
  ·rw [if_neg c8,if_neg c8]
   by_cases c9 : c = 9
   ·rw [if_pos c9,if_pos c9,eO (x:=s.f0.f0 - 1) (by omega) (by omega),eO (by omega) (by omega),uz (s,true) (by show s.f7.length ≤ 1048576; omega) s.f7.length k _ (by show s.f7.length ≤ s.f7.length; omega) (by omega)]
    simp only [Option.bind_some]
    rw [List.take_length]
   ·rw [if_neg c9,if_neg c9,tR s h.mg k (by omega),nA s h.mg _ _ _ k (by omega),eO (x:=s.f1 - 1) (by omega) (by omega)]
    simp only [Option.bind_some]
    by_cases c10 : c = 10
    ·subst c10; rfl
    ·by_cases c11 : c = 11
     ·subst c11; rfl
     ·by_cases c12 : c = 12
      ·subst c12; rfl
      ·simp only [c10,c11,c12,if_false,decide_false,Option.bind_some,Bool.false_eq_true,or_self]
       by_cases c13 : c = 13
       ·rw [if_pos c13,if_pos c13]
       ·rw [if_neg c13,if_neg c13]
        by_cases c141 : c = 141
        ·rw [if_pos c141,if_pos c141]
         unfold jr
         split
         ·rfl
         ·split <;> rfl
        ·rw [if_neg c141,if_neg c141]
def uy (c : Int) : List Int → List Int
 | []=>[c]
 | t::r=>if t < c then t::uy c r else if t = c then t::r else c::t::r
theorem lK {c x : Int} : ∀ {l : List Int},x ∈ uy c l ↔ x = c ∨ x ∈ l
 | []=>by simp [uy]
 | t::r=>by
  unfold uy
  split
  ·simp only [List.mem_cons,lK (l:=r)]
   constructor
   ·rintro (h | h | h) <;> simp [h]
   ·rintro (h | h | h) <;> simp [h]
  ·split
   ·rename_i h; simp [h]
   ·simp
theorem pi {c : Int} : ∀ {l : List Int},List.Pairwise (· < ·) l → List.Pairwise (· < ·) (uy c l)
 | [],_=>by simp [uy]
 | t::r,h=>by
  rw [List.pairwise_cons] at h
  unfold uy
  split
  ·rw [List.pairwise_cons]
   refine ⟨fun x hx=>?_,pi h.2⟩
   rcases lK.1 hx with z | z
   ·omega
   ·exact h.1 x z
  ·split
   ·exact List.pairwise_cons.2 h
   ·rw [List.pairwise_cons]
    refine ⟨fun x hx=>?_,List.pairwise_cons.2 h⟩
    rcases List.mem_cons.1 hx with z | z
    ·omega
    ·have:=h.1 x z; omega
theorem pJ : ∀ {l m : List Int},List.Pairwise (· < ·) l → List.Pairwise (· < ·) m → (∀ x,x ∈ l ↔ x ∈ m) → l = m
 | [],[],_,_,_=>rfl
 | [],b::m,_,_,h=>absurd ((h b).2 (by simp)) (by simp)
 | a::l,[],_,_,h=>absurd ((h a).1 (by simp)) (by simp)
 | a::l,b::m,hl,hm,h=>by
  rw [List.pairwise_cons] at hl hm
  have hab : a = b:=by
   rcases List.mem_cons.1 ((h a).1 (by simp)) with z | z
   ·exact z
   ·rcases List.mem_cons.1 ((h b).2 (by simp)) with y | y
    ·exact y.symm
    ·have:=hm.1 a z; have:=hl.1 b y; omega
  subst hab
  rw [pJ hl.2 hm.2 fun x=>?_]
  constructor
  ·intro hx
   rcases List.mem_cons.1 ((h x).1 (by simp [hx])) with z | z
   ·have:=hl.1 x hx; omega
   ·exact z
  ·intro hx
   rcases List.mem_cons.1 ((h x).2 (by simp [hx])) with z | z
   ·have:=hm.1 x hx; omega
   ·exact z
def lQ (l : List Int) (c kind : Int) : List Int:=if kind = 0 then uy c l else if kind = 1 then l.filter (fun x=>decide (x ≠ c)) else if kind = 2 then [] else l
def qx (s : aG) (kind : Int) : aG:={ s with f7:=lQ s.f7 s.f2 kind }
theorem qg {l : List Int} {c kind : Int} (h : List.Pairwise (· < ·) l) : List.Pairwise (· < ·) (lQ l c kind):=by
 unfold lQ
 split
 ·exact pi h
 ·split
  ·exact List.Pairwise.filter _ h
  ·split
   ·exact List.Pairwise.nil
   ·exact h
theorem qc {l : List Int} {c kind x : Int} (h : x ∈ lQ l c kind) : x = c ∨ x ∈ l:=by
 unfold lQ at h
 split at h
 ·exact lK.1 h
 ·split at h
  ·exact .inr (List.mem_filter.1 h).1
  ·split at h
   ·simp at h
   ·exact .inr h
theorem yK {s : aG} (h : Ok s) (kind : Int) : Ok (qx s kind):=by
 have hc:=fc h
 have hp:=mI h.m
 refine ⟨⟨h.m.g,h.m.y,h.m.y2,h.m.t0,h.m.t1,h.m.t2,h.m.p,h.m.p2,mu.2 ⟨qg hp.1,fun x hx=>?_⟩,h.m.alt,h.m.ti⟩,h.b,h.b2⟩
 rcases qc hx with z | z
 ·rw [z]; exact ⟨by omega,hc.2.1⟩
 ·exact hp.2 x z
theorem ud {l : List Int} {c : Int} (hp : List.Pairwise (· < ·) l) {p : Nat} (h2 : p ≤ l.length) (h3 : ∀ (i : Nat) (h : i < l.length),i < p → l[i] < c) (h4 : ∀ (i : Nat) (h : i < l.length),p ≤ i → c ≤ l[i]) (hn : ¬ (p < l.length∧rd l (p : Int) = c)) :
  l.take p ++ [c] ++ l.drop p = uy c l:=by
 have hgt : ∀ (i : Nat) (h : i < l.length),p ≤ i → c < l[i]:=fun i hi hpi=>by
  have h5:=h4 i hi hpi
  rcases Nat.lt_or_ge p i with z | z
  ·have h6:=h4 p (by omega) (Nat.le_refl _)
   have:=List.pairwise_iff_getElem.1 hp p i (by omega) hi z
   omega
  ·obtain rfl : i = p:=by omega
   have : ¬ rd l (i : Int) = c:=fun q=>hn ⟨hi,q⟩
   rw [eQ hi] at this; omega
 have ha : ∀ x ∈ l.take p,x < c:=fun x hx=>by
  obtain ⟨i,hi,rfl⟩:=List.getElem_of_mem hx
  rw [List.length_take] at hi
  rw [List.getElem_take]; exact h3 i (by omega) (by omega)
 have hb : ∀ x ∈ l.drop p,c < x:=fun x hx=>by
  obtain ⟨i,hi,rfl⟩:=List.getElem_of_mem hx
  rw [List.length_drop] at hi
  rw [List.getElem_drop]; exact hgt _ (by omega) (by omega)
 refine pJ ?_ (pi hp) fun x=>?_
 ·have hp':=hp
  rw [← List.take_append_drop p l,List.pairwise_append] at hp'
  rw [List.append_assoc,List.pairwise_append]
  refine ⟨hp'.1,?_,fun a ha' b hb'=>?_⟩
  ·rw [List.singleton_append,List.pairwise_cons]
   exact ⟨hb,hp'.2.1⟩
  ·rw [List.singleton_append] at hb'
   rcases List.mem_cons.1 hb' with z | z
   ·rw [z]; exact ha a ha'
   ·exact hp'.2.2 a ha' b z
 ·rw [lK]
  have e : x ∈ l ↔ x ∈ l.take p ∨ x ∈ l.drop p:=by rw [← List.mem_append,List.take_append_drop]
  rw [e]
  simp only [List.mem_append,List.mem_singleton]
  constructor
  ·rintro ((h | h) | h) <;> simp [h]
  ·rintro (h | h | h) <;> simp [h]
theorem xq {l : List Int} {c : Int} (hp : List.Pairwise (· < ·) l) {p : Nat} (h1 : p < l.length) (hc : rd l (p : Int) = c) : l.take p ++ l.drop (p + 1) = l.filter (fun x=>decide (x ≠ c)):=by
 have S : ∀ (i j : Nat) (hi : i < l.length) (hj : j < l.length),i < j → l[i] < l[j]:=fun i j hi hj hij=>List.pairwise_iff_getElem.1 hp i j hi hj hij
 rw [eQ h1] at hc
 have hd : l.drop p = c::l.drop (p + 1):=by rw [List.drop_eq_getElem_cons h1,hc]
 have e : l = l.take p ++ (c::l.drop (p + 1)):=by rw [← hd,List.take_append_drop]
 have ha : ∀ x ∈ l.take p,x < c:=fun x hx=>by
  obtain ⟨i,hi,rfl⟩:=List.getElem_of_mem hx
  rw [List.length_take] at hi
  rw [List.getElem_take,← hc]; exact S _ _ _ _ (by omega)
 have hb : ∀ x ∈ l.drop (p + 1),c < x:=fun x hx=>by
  obtain ⟨i,hi,rfl⟩:=List.getElem_of_mem hx
  rw [List.length_drop] at hi
  rw [List.getElem_drop,← hc]; exact S _ _ _ _ (by omega)
 conv=>rhs; rw [e]
 rw [List.filter_append,List.filter_cons_of_neg (by simp),List.filter_eq_self.2 (fun x hx=>by have:=ha x hx; simp; omega),List.filter_eq_self.2 (fun x hx=>by have:=hb x hx; simp; omega)]
theorem AH (l m : List Int) (p : Nat) (hp : p ≤ l.length) (hl : l.length + m.length ≤ 17592186044416) : js.f l (p : Int) m = some (l.take p ++ m ++ l.drop p):=by
 unfold js.f
 rw [if_pos (by omega)]
 simp only [lt]
 by_cases hm : (m.length : Int) = 0
 ·rw [if_pos hm]
  have : m = []:=List.length_eq_zero_iff.1 (by omega)
  subst this
  simp
 ·rw [if_neg hm]
  by_cases hq : (p : Int) = (l.length : Int)
  ·rw [if_pos hq,if_pos hl]
   have : p = l.length:=by omega
   subst this
   simp
  ·rw [if_neg hq,if_pos hl,Int.toNat_natCast]
theorem Bh (l : List Int) (p : Nat) (hp : p < l.length) (hl : l.length ≤ 1048576) : ma.f l (p : Int) ((p + 1 : Nat) : Int) = some (l.take p ++ l.drop (p + 1)):=by
 unfold ma.f
 rw [if_pos (by omega),if_neg (by omega)]
 simp only [lt]
 rw [if_pos (by omega),if_pos (by omega),if_pos (by omega)]
 have e1 : sub l (0 + ((p + 1 : Nat) : Int)) (0 + ((p + 1 : Nat) : Int) + ((l.length : Int) - ((p + 1 : Nat) : Int))) = l.drop (p + 1):=by
  rw [show (0 : Int) + ((p + 1 : Nat) : Int) = ((p + 1 : Nat) : Int) from by omega,show (l.length : Int) - ((p + 1 : Nat) : Int) = ((l.length - (p + 1) : Nat) : Int) from by omega,ji]
  unfold win
  rw [List.take_of_length_le (by simp)]
 rw [e1,show ((0 : Int) + 0 + ((p : Int) - 0)).toNat = p from by omega]
 have hX : (bo l p (l.drop (p + 1))).length = l.length:=aM (by rw [List.length_drop]; omega)
 rw [if_pos (by omega),if_pos (by omega)]
 have e3 : ((p : Int) - 0 + ((l.length : Int) - ((p + 1 : Nat) : Int))).toNat = l.length - 1:=by omega
 have e4 : ((0 : Int) + 0 + ((p : Int) - 0 + ((l.length : Int) - ((p + 1 : Nat) : Int)))).toNat = l.length - 1:=by omega
 rw [e4,e3]
 have e5 : ((l.length : Int) - ((p : Int) - 0 + ((l.length : Int) - ((p + 1 : Nat) : Int)))).toNat = 1:=by omega
 rw [e5]
 congr 1
 apply List.ext_getElem?
 intro i
 rw [List.getElem?_take]
 by_cases hi : i < l.length - 1
 ·rw [if_pos hi,dp (by rw [hX]; simp; omega),if_pos (by omega),dp (by rw [List.length_drop]; omega),List.length_drop]
  by_cases hip : i < p
  ·rw [if_pos hip,List.getElem?_append_left (by rw [List.length_take]; omega),List.getElem?_take,if_pos hip]
  ·rw [if_neg hip,if_pos (by omega),List.getElem?_append_right (by rw [List.length_take]; omega),List.length_take,Nat.min_eq_left (by omega)]
 ·rw [if_neg hi,List.getElem?_eq_none (by simp; omega)]
theorem AJ (s : aG) (h : Ok s) (kind : Int) (k : Nat) (hk : 1100000 ≤ k) : iS.f k s kind = some (qx s kind):=by
 have ht:=fZ h.m
 have hp:=mI h.m
 obtain ⟨p,h1,h2,h3,h4⟩:=yu s.f7 s.f2 (by omega) hp.1 k (by omega)
 unfold iS.f qx lQ
 rw [h1]
 simp only [Option.bind_some,lt]
 by_cases hf : p < s.f7.length∧rd s.f7 (p : Int) = s.f2
 ·rw [decide_eq_true hf]
  simp only [Bool.not_true,Bool.and_false,Bool.false_eq_true,if_false,Bool.and_true,decide_eq_true_eq]
  by_cases k0 : kind = 0
  ·rw [if_neg (by omega),if_neg (by omega),if_pos k0]
   have hm : s.f2 ∈ s.f7:=by rw [← hf.2,eQ hf.1]; exact List.getElem_mem _
   have hins : uy s.f2 s.f7 = s.f7:=pJ (pi hp.1) hp.1 fun x=>by
    rw [lK]
    constructor
    ·rintro (z | z)
     ·rw [z]; exact hm
     ·exact z
    ·exact fun z=>.inr z
   rw [hins]
  ·rw [if_neg k0]
   by_cases k1 : kind = 1
   ·rw [if_pos k1,if_pos k1,eO (by omega) (by omega),show ((p : Int) + 1) = ((p + 1 : Nat) : Int) from rfl,Bh s.f7 p hf.1 (by omega),xq hp.1 hf.1 hf.2]
    rfl
   ·rw [if_neg k1,if_neg k1]
    split <;> rfl
 ·rw [decide_eq_false hf]
  simp only [Bool.not_false,Bool.and_true,Bool.and_false,Bool.false_eq_true,if_false,decide_eq_true_eq]
  by_cases k0 : kind = 0
  ·rw [if_pos k0,if_pos k0,AH s.f7 [s.f2] p h2 (by simp; omega),ud hp.1 h2 h3 h4 hf]
   rfl
  ·rw [if_neg k0,if_neg k0]
   by_cases k1 : kind = 1
   ·rw [if_neg (by omega),if_pos k1]
    have hm : ∀ x ∈ s.f7,x ≠ s.f2:=fun x hx z=>by
     obtain ⟨i,hi,hx⟩:=List.getElem_of_mem hx
     rcases Nat.lt_or_ge i p with y | y
     ·have:=h3 i hi y; omega
     ·rcases Nat.lt_or_ge p i with v | v
      ·have h6:=h4 p (by omega) (Nat.le_refl _)
       have:=List.pairwise_iff_getElem.1 hp.1 p i (by omega) hi v
       omega
      ·obtain rfl : i = p:=by omega
       exact hf ⟨hi,by rw [eQ hi,hx,z]⟩
    rw [List.filter_eq_self.2 (fun x hx=>by simp [hm x hx])]
   ·rw [if_neg k1]
    split <;> rfl
theorem xt (r : aG × Bool) (x : Int) (hl : r.1.f7.length ≤ 1048576) : ∀ (n k i : Nat) (b : Bool),i + n = r.1.f7.length → n < k → fB.l1 r x k b (i : Int) = some (b || (r.1.f7.drop i).any fun t=>decide (t = x))
 | _,0,_,_,_,hk=>by omega
 | 0,k + 1,i,b,hi,hk=>by rw [fB.l1,if_neg (by omega),List.drop_of_length_le (by omega)]; simp
 | n + 1,k + 1,i,b,hi,hk=>by
  have hi' : i < r.1.f7.length:=by omega
  rw [fB.l1,if_pos (by omega),if_pos (show 0 ≤ (i : Int)∧(i : Int) < (r.1.f7.length : Int) by omega),gX (by omega),List.drop_eq_getElem_cons hi',eQ hi']
  simp only [lt]
  cases b
  ·simp only [Bool.false_eq_true,if_false,Option.bind_some]
   rw [xt r x hl n k (i + 1) _ (by omega) (by omega),Bool.false_or,List.any_cons]
  ·simp only [if_true,Option.bind_some]
   rw [xt r x hl n k (i + 1) _ (by omega) (by omega)]
   simp
def iX (s : aG) (kind : Int) (i : Nat) : Bool :=
 if kind = 0∧(i : Int) = s.f2 then true else if kind = 2 ∨ (kind = 1∧(i : Int) = s.f2) then false else s.f7.any fun t=>decide (t = (i : Int))
theorem BS (s : aG) (kind : Int) (w : Nat) (e0 : s.f0.f0 = (w : Int)) (hw : w ≤ 512) (hl : s.f7.length ≤ 1048576) : ∀ (n k i : Nat),i + n = w → n + 1048580 < k →
  fB.l0 kind (s,true) k (((List.range i).filter (iX s kind)).map fun j=>((j : Nat) : Int)) (i : Int) = some (((List.range w).filter (iX s kind)).map fun j=>((j : Nat) : Int))
 | _,0,_,_,hk=>by omega
 | 0,k + 1,i,hi,hk=>by
  rw [fB.l0,if_neg (by show ¬ (i : Int) < s.f0.f0; omega),show i = w from by omega]
 | n + 1,k + 1,i,hi,hk=>by
  have hlen : (((List.range i).filter (iX s kind)).map fun j=>((j : Nat) : Int)).length ≤ i:=by
   rw [List.length_map]
   have:=List.length_filter_le (iX s kind) (List.range i)
   simp at this ⊢; exact this
  have hb:=xt (s,true) (i : Int) hl s.f7.length k 0 false (by show 0 + s.f7.length = s.f7.length; omega) (by omega)
  rw [fB.l0,if_pos (by show (i : Int) < s.f0.f0; omega),show fB.l1 (s,true) (i : Int) k false 0 = _ from hb,gX (by omega)]
  simp only [Option.bind_some,lt,Bool.false_or]
  rw [show (s,true).1.f7.drop 0 = s.f7 from rfl]
  have hst : ∀ G : Bool → Option (List Int),((if kind = 2 then (some true) else (if kind = 1 then (some (decide ((i : Int) = s.f2))) else (some false)) : Option Bool).bind (fun q53=>(if q53 = true then (some false) else (some (s.f7.any fun t=>decide (t = (i : Int)))) : Option (Bool)).bind (fun t57=>(if (decide (kind = 0) && decide ((i : Int) = s.f2)) = true then (some true) else (some t57) : Option (Bool)).bind G))) = G (iX s kind i):=fun G=>by
   unfold iX
   by_cases k0 : kind = 0
   ·by_cases c1 : (i : Int) = s.f2 <;> simp [k0,c1]
   ·by_cases k1 : kind = 1
    ·by_cases c1 : (i : Int) = s.f2 <;> simp [k1,c1]
    ·by_cases k2 : kind = 2
     ·simp [k2]
     ·simp [k0,k1,k2]
  rw [hst]
  have ih:=BS s kind w e0 hw hl n k (i + 1) (by omega) (by omega)
  rw [List.range_succ,List.filter_append,List.map_append] at ih
  cases hs : iX s kind i
  ·simp only [Bool.false_eq_true,if_false]
   rw [show List.filter (iX s kind) [i] = [] from by simp [hs],List.map_nil,List.append_nil] at ih
   exact ih
  ·simp only [if_true]
   rw [if_pos (by rw [List.length_singleton]; omega)]
   rw [show List.filter (iX s kind) [i] = [i] from by simp [hs]] at ih
   exact ih
theorem AA (s : aG) (hs : Sg s) (kind : Int) (k : Nat) (hk : 40000000000000 ≤ k) : fB.f k s kind = some (fC s (qx s kind)):=by
 unfold fB.f fC
 rw [rT s hs k hk]
 cases hm : co s
 ·simp
 ·have h:=iL hs hm
  obtain ⟨w,q,e0,e1,a,b,c',d,hl,hb⟩:=h.size
  have hc:=fc h
  have ht:=fZ h.m
  have hp:=mI h.m
  simp only [Option.bind_some,if_true,Bool.not_true,Bool.false_eq_true,if_false,lt]
  by_cases hk2 : kind < 0 ∨ kind > 2
  ·rw [if_pos (by simpa using hk2)]
   unfold qx lQ
   rw [if_neg (by omega),if_neg (by omega),if_neg (by omega)]
  ·rw [if_neg (by simpa using hk2)]
   have h1:=BS s kind w e0 b (by omega) w k 0 (by omega) (by omega)
   rw [show fB.l0 kind (s,true) k [] 0 = _ from h1]
   simp only [Option.bind_some]
   unfold qx
   congr 2
   rw [show ((List.range w).filter (iX s kind)).map (fun j=>((j : Nat) : Int)) = lQ s.f7 s.f2 kind from ?_]
   refine pJ ?_ (qg hp.1) fun x=>?_
   ·rw [List.pairwise_map]
    refine List.Pairwise.filter _ ?_
    refine List.Pairwise.imp ?_ List.pairwise_lt_range
    intro a b hab; omega
   ·simp only [List.mem_map,List.mem_filter,List.mem_range]
    have hany : ∀ i : Nat,(s.f7.any fun t=>decide (t = (i : Int))) = true ↔ (i : Int) ∈ s.f7:=fun i=>by simp
    have key : ∀ i : Nat,iX s kind i = true ↔ (i : Int) ∈ lQ s.f7 s.f2 kind:=fun i=>by
     unfold iX lQ
     by_cases k0 : kind = 0
     ·rw [if_pos k0,lK]
      by_cases c1 : (i : Int) = s.f2
      ·simp [k0,c1]
      ·simp only [k0,c1,and_false,if_false,false_or,show ¬ ((0 : Int) = 2 ∨ (0 : Int) = 1∧False) from by simp]
       exact hany i
     ·rw [if_neg k0,if_neg (by rintro ⟨z,_⟩; exact k0 z)]
      by_cases k1 : kind = 1
      ·rw [if_pos k1,List.mem_filter]
       by_cases c1 : (i : Int) = s.f2
       ·simp [k1,c1]
       ·have hno : ¬ (kind = 2 ∨ kind = 1∧(i : Int) = s.f2):=fun z=>by
         rcases z with z | ⟨_,z⟩
         ·omega
         ·exact c1 z
        rw [if_neg hno,hany]
        simp [c1]
      ·rw [if_neg k1,if_pos (show kind = 2 by omega),if_pos (.inl (by omega))]
       simp
    constructor
    ·rintro ⟨i,⟨_,hi⟩,rfl⟩; exact (key i).1 hi
    ·intro hx
     have hx2 : 0 ≤ x∧x < (w : Int):=by
      rcases qc hx with z | z
      ·omega
      ·have:=hp.2 x z; omega
     exact ⟨x.toNat,⟨by omega,(key _).2 (by rw [show ((x.toNat : Nat) : Int) = x from by omega]; exact hx)⟩,by omega⟩
end Go.Proofs.YtckilbegmbaeeaaGreat.Z3Sc
namespace Go.Proofs.YtckilbegmbaeeaaGreat.Z3Sc
open Go Go.RowKit Go.Proofs.YtckilbegmbaeeaaGreat.SL Go.Proofs.YtckilbegmbaeeaaGreat.Z3 Go.Proofs.YtckilbegmbaeeaaGreat.Z3May Go.Proofs.YtckilbegmbaeeaaGreat.Z3Ls Go.Proofs.YtckilbegmbaeeaaGreat.Z3Op Go.Proofs.YtckilbegmbaeeaaGreat.Z3Sp
set_option linter.unusedVariables false
set_option linter.unusedSimpArgs false
def lY (w : Nat) : List Int:=(List.range' 1 ((w + 7) / 8 - 1)).map fun j=>((8 * j : Nat) : Int)
theorem CU (w : Nat) (hw : w ≤ 512) : ∀ (m k i : Nat) (l : List Int),1 ≤ i → i + m = (w + 7) / 8 → l.length ≤ i → m < k → oN.l0 (w : Int) k l ((8 * i : Nat) : Int) = some (l ++ (List.range' i m).map fun j=>((8 * j : Nat) : Int))
 | _,0,_,_,_,_,_,hk=>by omega
 | 0,k + 1,i,l,h1,hi,hl,hk=>by rw [oN.l0,if_neg (by omega)]; simp
 | m + 1,k + 1,i,l,h1,hi,hl,hk=>by
  rw [oN.l0,if_pos (by omega),if_pos (by rw [List.length_singleton]; omega),eO (by omega) (by omega),show ((8 * i : Nat) : Int) + 8 = ((8 * (i + 1) : Nat) : Int) from by omega]
  simp only [lt]
  rw [CU w hw m k (i + 1) _ (by omega) (by omega) (by simp; omega) (by omega),List.range'_succ,List.map_cons,List.append_assoc]
  rfl
theorem Dz (w : Nat) (h0 : 0 < w) (hw : w ≤ 512) (k : Nat) (hk : 100 ≤ k) : oN.f k (w : Int) = some (lY w):=by
 unfold oN.f
 have:=CU w hw ((w + 7) / 8 - 1) k 1 [] (by omega) (by omega) (by simp) (by omega)
 rw [show oN.l0 (w : Int) k [] 8 = _ from this]
 rfl
theorem BE (w : Nat) (hw : w ≤ 512) : ∀ (m k i : Nat) (l : List Int),1 ≤ i → i + m = (w + 7) / 8 → l.length ≤ i → m < k → pL.l0 (w : Int) k l ((8 * i : Nat) : Int) = some (l ++ (List.range' i m).map fun j=>((8 * j : Nat) : Int))
 | _,0,_,_,_,_,_,hk=>by omega
 | 0,k + 1,i,l,h1,hi,hl,hk=>by rw [pL.l0,if_neg (by omega)]; simp
 | m + 1,k + 1,i,l,h1,hi,hl,hk=>by
  rw [pL.l0,if_pos (by omega),if_pos (by rw [List.length_singleton]; omega),eO (by omega) (by omega),show ((8 * i : Nat) : Int) + 8 = ((8 * (i + 1) : Nat) : Int) from by omega]
  simp only [lt]
  rw [BE w hw m k (i + 1) _ (by omega) (by omega) (by simp; omega) (by omega),List.range'_succ,List.map_cons,List.append_assoc]
  rfl
theorem Dv (w : Nat) (h0 : 0 < w) (hw : w ≤ 512) (k : Nat) (hk : 100 ≤ k) : pL.f k (w : Int) = some (lY w):=by
 unfold pL.f
 have:=BE w hw ((w + 7) / 8 - 1) k 1 [] (by omega) (by omega) (by simp) (by omega)
 rw [show pL.l0 (w : Int) k [] 8 = _ from this]
 rfl
theorem pV {w : Nat} (h0 : 0 < w) : fg (w : Int) (-1) (lY w) = true:=by
 rw [mu]
 unfold lY
 refine ⟨?_,fun x hx=>?_⟩
 ·rw [List.pairwise_map]
  refine List.Pairwise.imp ?_ List.pairwise_lt_range'
  intro a b hab; omega
 ·simp only [List.mem_map,List.mem_range'] at hx
  obtain ⟨i,⟨j,hj,rfl⟩,rfl⟩:=hx
  constructor <;> omega
def plain : cA:=cA.mk (-1) (-1) false false false false false false false false
theorem kj : cd plain = true:=by decide
def oK (c r : Int) : aG:=aG.mk (bF.mk c r (List.replicate (c * r).toNat (eA plain))) 0 0 false plain 0 (r - 1) (lY c.toNat) true false false false false true (dq.mk 0 0 false false plain) false (bF.mk 0 0 []) []
def qz (c r : Int) : aG × Int:=if dH c r = true then (oK c r,0) else (zS,2)
theorem iy {c r : Int} : dH c r = true ↔ ∃ w q : Nat,c = (w : Int)∧r = (q : Int)∧0 < w∧w ≤ 512∧0 < q∧q ≤ 512:=by
 unfold dH
 simp only [decide_eq_true_eq]
 constructor
 ·rintro ⟨a,b,c',d⟩; exact ⟨c.toNat,r.toNat,by omega,by omega,by omega,by omega,by omega,by omega⟩
 ·rintro ⟨w,q,rfl,rfl,a,b,c',d⟩; omega
theorem tv {c r : Int} {y : cA} (hy : cd y = true) (h : dH c r = true) : mU c r y = (bF.mk c r (List.replicate (c * r).toNat (eA y)),0):=by unfold mU; rw [h,hy]; rfl
theorem f8 (c r : Int) (k : Nat) (hk : 1100000 ≤ k) : F8.f k c r = some (qz c r):=by
 have e1 : sS.f = some plain:=rfl
 unfold F8.f qz
 rw [e1]
 simp only [Option.bind_some]
 rw [Gt c r plain k hk]
 simp only [Option.bind_some]
 cases hs : dH c r
 ·have : mU c r plain = no:=by unfold mU; rw [hs]; rfl
  rw [this]; rfl
 ·obtain ⟨w,q,rfl,rfl,a,b,c',d⟩:=iy.1 hs
  rw [tv kj hs,Dz w a b k (by omega),eO (x:=(q : Int) - 1) (by omega) (by omega)]
  rfl
theorem f9 (c r : Int) (k : Nat) (hk : 1100000 ≤ k) : F9.f k c r = some (qz c r):=by
 have e1 : sY.f = some plain:=rfl
 unfold F9.f qz
 rw [e1]
 simp only [Option.bind_some]
 rw [Ax c r plain k hk]
 simp only [Option.bind_some]
 cases hs : dH c r
 ·have : mU c r plain = no:=by unfold mU; rw [hs]; rfl
  rw [this]; rfl
 ·obtain ⟨w,q,rfl,rfl,a,b,c',d⟩:=iy.1 hs
  rw [tv kj hs,Dv w a b k (by omega),eO (x:=(q : Int) - 1) (by omega) (by omega)]
  rfl
theorem uZ {w q : Nat} {b : aZ} : (List.replicate (((w : Int) * (q : Int)).toNat) b).length = w * q:=by
 rw [List.length_replicate,show (w : Int) * (q : Int) = ((w * q : Nat) : Int) from by simp,Int.toNat_natCast]
theorem uf {w q : Nat} {y : cA} (a : 0 < w) (b : w ≤ 512) (c : 0 < q) (d : q ≤ 512) (hy : cd y = true) : ci (bF.mk (w : Int) (q : Int) (List.replicate (((w : Int) * (q : Int)).toNat) (eA y))) = true:=by
 rw [eE]
 refine ⟨w,q,rfl,rfl,a,b,c,d,uZ,fun r hr=>?_⟩
 show ly (win (List.replicate (((w : Int) * (q : Int)).toNat) (eA y)) (r * w) w)
 rw [show ((w : Int) * (q : Int)).toNat = w * q from by rw [show (w : Int) * (q : Int) = ((w * q : Nat) : Int) from by simp]; exact Int.toNat_natCast _,kK hr]
 exact jx w hy
theorem vS {c r : Int} (h : dH c r = true) : Ok (oK c r):=by
 obtain ⟨w,q,rfl,rfl,a,b,c',d⟩:=iy.1 h
 refine ⟨⟨uf a b c' d kj,kj,kj,Int.le_refl _,by show (0 : Int) ≤ (q : Int) - 1; omega,by show (q : Int) - 1 < (q : Int); omega,dY.2 ⟨Int.le_refl _,by show (0 : Int) < (q : Int); omega,Int.le_refl _,by show (0 : Int) < (w : Int); omega,fun z=>by cases z⟩,dY.2 ⟨Int.le_refl _,by show (0 : Int) < (q : Int); omega,Int.le_refl _,by show (0 : Int) < (w : Int); omega,fun z=>by cases z⟩,pV a,by simp [kw,oK],rfl⟩,lM,fun x hx=>by simp [oK] at hx⟩
def wJ (s : aG) (c r : Int) : aG :=
 { s with f0:=(dr s.f0 c r s.f4).1,f16:=(if s.f15 = true then (dr s.f16 c r s.f4).1 else s.f16),f1:=min s.f1 (r - 1),f2:=min s.f2 (c - 1),f3:=false,f5:=0,f6:=r - 1,f7:=lY c.toNat,f14:=dq.mk (min s.f14.f0 (r - 1)) (min s.f14.f1 (c - 1)) false s.f14.f3 s.f14.f4 }
def kM (s : aG) (c r : Int) : aG × Int:=if (co s && dH c r) = true then (wJ s c r,0) else (zS,2)
theorem nm {g : bF} {c r : Int} {y : cA} (hg : ci g = true) (hy : cd y = true) (h : dH c r = true) : dr g c r y = (bF.mk c r (mA g.f2 g.f0.toNat c.toNat (min r g.f1).toNat 0 (List.replicate (c * r).toNat (eA y))),0):=by
 unfold dr; rw [hg,hy,h]; rfl
theorem pE {s : aG} (h : Ok s) (ha : s.f15 = true) : ci s.f16 = true∧s.f16.f0 = s.f0.f0∧s.f16.f1 = s.f0.f1:=by
 have:=h.m.alt
 unfold kw at this
 rw [if_pos ha] at this
 simp only [Bool.and_eq_true,decide_eq_true_eq] at this
 exact ⟨this.1.1,this.1.2,this.2⟩
theorem uE (s : aG) (hs : Sg s) (c r : Int) (k : Nat) (hk : 40000000000000 ≤ k) : wu.f k s c r = some (kM s c r):=by
 unfold wu.f kM
 rw [f74 s hs k hk]
 cases hm : co s
 ·rfl
 ·have h:=iL hs hm
  simp only [Option.bind_some,Bool.not_true,Bool.false_eq_true,if_false,Bool.true_and]
  rw [Ec s.f0 h.gr c r s.f4 k (by omega)]
  simp only [Option.bind_some]
  cases hz : dH c r
  ·have : dr s.f0 c r s.f4 = no:=by unfold dr; rw [hz]; simp
   rw [this]; rfl
  ·obtain ⟨w,q,rfl,rfl,a,b,c',d⟩:=iy.1 hz
   rw [nm h.m.g h.m.y hz,Cb s h]
   simp only [Option.bind_some,ne_eq,not_true_eq_false,if_false,if_true]
   rw [Az s.f16 h.grm _ _ s.f4 k (by omega),Dz w a b k (by omega),eO (x:=(q : Int) - 1) (by omega) (by omega),eO (x:=(w : Int) - 1) (by omega) (by omega)]
   simp only [Option.bind_some,ia]
   unfold wJ
   rw [nm h.m.g h.m.y hz]
   cases ha : s.f15
   ·simp [jh,ha]
   ·rw [nm (pE h ha).1 h.m.y hz]
    simp [jh,ha]
theorem uQ (s : aG) (hs : Sg s) (c r : Int) (k : Nat) (hk : 40000000000000 ≤ k) : oy.f k s c r = some (kM s c r):=by
 unfold oy.f kM
 rw [rT s hs k hk]
 cases hm : co s
 ·simp
 ·have h:=iL hs hm
  simp only [Option.bind_some,Bool.not_true,Bool.false_eq_true,if_false,if_true,Bool.true_and]
  rw [Co s.f0 h.gr c r s.f4 k (by omega)]
  simp only [Option.bind_some]
  cases hz : dH c r
  ·have : dr s.f0 c r s.f4 = no:=by unfold dr; rw [hz]; simp
   rw [this]; rfl
  ·obtain ⟨w,q,rfl,rfl,a,b,c',d⟩:=iy.1 hz
   rw [nm h.m.g h.m.y hz]
   simp only [ne_eq,not_true_eq_false,if_false,if_true]
   rw [Co s.f16 h.grm _ _ s.f4 k (by omega),Dv w a b k (by omega),eO (x:=(q : Int) - 1) (by omega) (by omega),eO (x:=(w : Int) - 1) (by omega) (by omega)]
   simp only [Option.bind_some,ia]
   unfold wJ
   rw [nm h.m.g h.m.y hz]
   cases ha : s.f15
   ·simp [ha]
   ·rw [nm (pE h ha).1 h.m.y hz]
    simp [ha]
theorem ux {s : aG} (h : Ok s) {c r : Int} (hz : dH c r = true) : Ok (wJ s c r):=by
 obtain ⟨w,q,rfl,rfl,a,b,c',d⟩:=iy.1 hz
 have p:=dY.1 h.m.p
 have p2:=dY.1 h.m.p2
 have hg:=nm h.m.g h.m.y hz
 have hm:=ow (g:=s.f0) (c:=(w : Int)) (r:=(q : Int)) (s:=s.f4) (by rw [hg])
 have d0 : (dr s.f0 (w : Int) (q : Int) s.f4).1.f0 = (w : Int)∧(dr s.f0 (w : Int) (q : Int) s.f4).1.f1 = (q : Int):=by rw [hg]; exact ⟨rfl,rfl⟩
 refine ⟨⟨hm,h.m.y,h.m.y2,Int.le_refl _,by show (0 : Int) ≤ (q : Int) - 1; omega,by show (q : Int) - 1 < (dr s.f0 (w : Int) (q : Int) s.f4).1.f1; omega,dY.2 ?_,dY.2 ?_,?_,?_,h.m.ti⟩,nT h.b,?_⟩
 ·show 0 ≤ min s.f1 ((q : Int) - 1)∧min s.f1 ((q : Int) - 1) < (dr s.f0 (w : Int) (q : Int) s.f4).1.f1∧0 ≤ min s.f2 ((w : Int) - 1)∧min s.f2 ((w : Int) - 1) < (dr s.f0 (w : Int) (q : Int) s.f4).1.f0∧(false = true → _)
  exact ⟨by omega,by omega,by omega,by omega,fun z=>by cases z⟩
 ·show 0 ≤ min s.f14.f0 ((q : Int) - 1)∧min s.f14.f0 ((q : Int) - 1) < (dr s.f0 (w : Int) (q : Int) s.f4).1.f1∧0 ≤ min s.f14.f1 ((w : Int) - 1)∧min s.f14.f1 ((w : Int) - 1) < (dr s.f0 (w : Int) (q : Int) s.f4).1.f0∧(false = true → _)
  exact ⟨by omega,by omega,by omega,by omega,fun z=>by cases z⟩
 ·show fg (dr s.f0 (w : Int) (q : Int) s.f4).1.f0 (-1) (lY ((w : Int)).toNat) = true
  rw [d0.1,Int.toNat_natCast]; exact pV a
 ·unfold kw
  show (if s.f15 = true then _ else _) = true
  cases ha : s.f15
  ·have:=h.m.alt
   unfold kw at this
   simp only [ha,Bool.false_eq_true,if_false] at this ⊢
   simp only [wJ,ha,Bool.false_eq_true,if_false]
   exact this
  ·have ha2:=pE h ha
   have hg2:=nm ha2.1 h.m.y hz
   have hm2:=ow (g:=s.f16) (c:=(w : Int)) (r:=(q : Int)) (s:=s.f4) (by rw [hg2])
   simp only [wJ,ha,if_true]
   rw [hm2,hg2,hg]
   simp
 ·intro x hx
  simp only [wJ] at hx
  split at hx
  ·exact nT h.b2 x hx
  ·exact h.b2 x hx
def dD (s : aG) (d : pM) : aG × Int :=
 if d.f0 = 0 then fC s (lB s (IntKind.i32.wrap d.f1)) else if d.f0 = 1 then fC s (iE s (IntKind.i32.wrap d.f1)) else if d.f0 = 2 then fC s (nD s d.f1 d.f2)
 else if d.f0 = 3 then fC s (kG s d.f1 d.f2) else if d.f0 = 4 then fC s (lp s d.f3 d.f1) else if d.f0 = 5 then fC s (lu s d.f1) else if d.f0 = 6 then fC s (mV s d.f1)
 else if d.f0 = 7 then fC s (mj s d.f1) else if d.f0 = 8 then fC s (jQ s d.f1 d.f2) else if d.f0 = 9 then fC s (kX s d.f3) else if d.f0 = 10 then fC s (nj s d.f3 d.f1 (decide (d.f2 > 0)))
 else if d.f0 = 11 then fC s (qx s d.f1) else if d.f0 = 12 then fC s (oT s d.f1) else kM s d.f1 d.f2
theorem nd {s t : aG} (hs : Sg s) {F : aG → Option aG} (hF : Ok s → F s = some t) (k : Nat) (hk : 40000000000000 ≤ k) :
  (ei.f k s).bind (fun r10=>if (!r10) = true then (some ((zS,(2 : Int)))) else ((lL.f s).bind (fun r16=>(F r16).bind (fun r29=>some ((r29,0)))))) = some (fC s t):=by
 rw [f74 s hs k hk]
 cases hm : co s
 ·simp [fC,hm]
 ·have h:=iL hs hm
  simp only [Option.bind_some,Bool.not_true,Bool.false_eq_true,if_false]
  rw [Cb s h]
  simp only [Option.bind_some]
  rw [hF h]
  simp [fC,hm]
theorem lV (r : Option (aG × Int)) : r.bind (fun r11=>some ((r11.1,r11.2))) = r:=by cases r <;> rfl
theorem mM (r : Option aG) : r.bind (fun r11=>some r11) = r:=by cases r <;> rfl
theorem EJ (s : aG) (hs : Sg s) (c : Int) (k : Nat) (hk : 40000000000000 ≤ k) : uM.f k s c = some (fC s (lB s c)):=by
 unfold uM.f; rw [lV]; unfold iw.f kx.f; simp only [mM]; exact nd hs (F:=fun x=>iK.f k x c) (fun h=>wA s h c k (by omega)) k hk
theorem DJ (s : aG) (hs : Sg s) (c : Int) (k : Nat) (hk : 40000000000000 ≤ k) : xA.f k s c = some (fC s (iE s c)):=by
 unfold xA.f; rw [lV]; unfold io.f ko.f; simp only [mM]; exact nd hs (F:=fun x=>iG.f k x c) (fun h=>tL s h c k (by omega)) k hk
theorem El (s : aG) (hs : Sg s) (a b : Int) (k : Nat) (hk : 40000000000000 ≤ k) : wh.f k s a b = some (fC s (nD s a b)):=by
 unfold wh.f; rw [lV]; unfold gW.f ka.f; simp only [mM]; exact nd hs (F:=fun x=>iI.f x a b) (fun h=>xI s h a b) k hk
theorem Gp (s : aG) (hs : Sg s) (a b : Int) (k : Nat) (hk : 40000000000000 ≤ k) : xb.f k s a b = some (fC s (kG s a b)):=by
 unfold xb.f; rw [lV]; unfold gP.f kp.f; simp only [mM]; exact nd hs (F:=fun x=>fw.f x a b) (fun h=>by
  obtain ⟨w,q,e0,e1,_,_,_,_,_,_⟩:=h.size
  exact qI s (by omega) (by omega) (by omega) (by omega) h.m.t0 h.m.t1 h.m.t2 a b) k hk
theorem Eg (s : aG) (hs : Sg s) (l : Bool) (a : Int) (k : Nat) (hk : 40000000000000 ≤ k) : wM.f k s l a = some (fC s (lp s l a)):=by
 unfold wM.f; rw [lV]; unfold gR.f kA.f; simp only [mM]; exact nd hs (F:=fun x=>iW.f k x l a) (fun h=>vz s h l a k (by omega)) k hk
theorem DV (s : aG) (hs : Sg s) (a : Int) (k : Nat) (hk : 40000000000000 ≤ k) : wV.f k s a = some (fC s (lu s a)):=by
 unfold wV.f; rw [lV]; unfold il.f kg.f; simp only [mM]; exact nd hs (F:=fun x=>iV.f k x a) (fun h=>wt s h a k (by omega)) k hk
theorem DI (s : aG) (hs : Sg s) (a : Int) (k : Nat) (hk : 40000000000000 ≤ k) : xj.f k s a = some (fC s (mV s a)):=by
 unfold xj.f; rw [lV]; unfold ir.f kc.f; simp only [mM]; exact nd hs (F:=fun x=>iN.f k x a) (fun h=>wj s h a k (by omega)) k hk
theorem Ee (s : aG) (hs : Sg s) (a : Int) (k : Nat) (hk : 40000000000000 ≤ k) : wg.f k s a = some (fC s (mj s a)):=by
 unfold wg.f; rw [lV]; unfold ij.f kf.f; simp only [mM]; exact nd hs (F:=fun x=>iJ.f k x a) (fun h=>uI s h a k (by omega)) k hk
theorem Fo (s : aG) (hs : Sg s) (a b : Int) (k : Nat) (hk : 40000000000000 ≤ k) : wR.f k s a b = some (fC s (jQ s a b)):=by
 unfold wR.f; rw [lV]; unfold gU.f kr.f; simp only [mM]; exact nd hs (F:=fun x=>iF.f x a b) (fun h=>uB s h a b) k hk
theorem Ft (s : aG) (hs : Sg s) (b : Bool) (k : Nat) (hk : 40000000000000 ≤ k) : wI.f k s b = some (fC s (kX s b)):=by
 unfold wI.f; rw [lV]; unfold iv.f ky.f; simp only [mM]; exact nd hs (F:=fun x=>fH.f x b) (fun h=>tX s b) k hk
theorem Af (s : aG) (hs : Sg s) (p : Bool) (a : Int) (b : Bool) (k : Nat) (hk : 40000000000000 ≤ k) : wz.f k s p a b = some (fC s (nj s p a b)):=by
 unfold wz.f; rw [lV]; unfold gq.f ki.f; simp only [mM]; exact nd hs (F:=fun x=>iH.f k x p a b) (fun h=>ye s h p a b k (by omega)) k hk
theorem By (s : aG) (hs : Sg s) (a : Int) (k : Nat) (hk : 40000000000000 ≤ k) : xi.f k s a = some (fC s (qx s a)):=by
 unfold xi.f; rw [lV]; unfold iq.f kb.f; simp only [mM]; exact nd hs (F:=fun x=>iS.f k x a) (fun h=>AJ s h a k (by omega)) k hk
theorem zQ (s : aG) (hs : Sg s) (a : Int) (k : Nat) (hk : 40000000000000 ≤ k) : xx.f k s a = some (fC s (oT s a)):=by
 unfold xx.f; rw [lV]; unfold ip.f kt.f; simp only [mM]; exact nd hs (F:=fun x=>iP.f k x a) (fun h=>xV s h a k (by omega)) k hk
theorem cW {α : Type} {c : Prop} [Decidable c] {a b : α} : some (if c then a else b) = if c then some a else some b:=by split <;> rfl
theorem yS (s : aG) (hs : Sg s) (d : pM) (k : Nat) (hk : 40000000000000 ≤ k) : vD.f k s d = some (dD s d):=by
 unfold vD.f dD
 simp only [lV,EJ s hs _ k hk,DJ s hs _ k hk,El s hs _ _ k hk,Gp s hs _ _ k hk,Eg s hs _ _ k hk,DV s hs _ k hk,DI s hs _ k hk,Ee s hs _ k hk,Fo s hs _ _ k hk,Ft s hs _ k hk,Af s hs _ _ _ k hk,By s hs _ k hk,zQ s hs _ k hk,uE s hs _ _ k hk]
 rw [cW,cW,cW,cW,cW,cW,cW,cW,cW,cW,cW,cW,cW]
theorem za (s : aG) (hs : Sg s) (d : pM) (hd : d.f1 ≤ 9223372036854775807) (k : Nat) (hk : 40000000000000 ≤ k) : ns.f k s d = some (dD s d):=by
 unfold ns.f dD
 simp only [lV,wC s hs _ k hk,ut s hs _ k hk,yX s hs _ _ k hk,qL s hs _ _ k hk,vx s hs _ _ k hk,wD s hs _ hd k hk,wW s hs _ k hk,tF s hs _ k hk,uR s hs _ _ k hk,tk s hs _ k hk,yL s hs _ _ _ k hk,AA s hs _ k hk,xS s hs _ k hk,uQ s hs _ _ k hk]
 rw [cW,cW,cW,cW,cW,cW,cW,cW,cW,cW,cW,cW,cW]
theorem vP {s : aG} (h : Ok s) (d : pM) : ((dD s d).2 = 0∧Ok (dD s d).1) ∨ ((dD s d).2 = 2∧(dD s d).1 = zS∧d.f0 ≠ 0∧d.f0 ≠ 1∧d.f0 ≠ 2∧d.f0 ≠ 3∧d.f0 ≠ 4∧d.f0 ≠ 5∧d.f0 ≠ 6∧d.f0 ≠ 7∧d.f0 ≠ 8∧d.f0 ≠ 9∧d.f0 ≠ 10∧d.f0 ≠ 11∧d.f0 ≠ 12):=by
 have hr : ∀ t,Ok t → (fC s t).2 = 0∧Ok (fC s t).1:=fun t ht=>by unfold fC; rw [if_pos h.may]; exact ⟨rfl,ht⟩
 unfold dD
 by_cases c0 : d.f0 = 0
 ·rw [if_pos c0]; exact .inl (hr _ (vf h _))
 rw [if_neg c0]
 by_cases c1 : d.f0 = 1
 ·rw [if_pos c1]; exact .inl (hr _ (sI h _))
 rw [if_neg c1]
 by_cases c2 : d.f0 = 2
 ·rw [if_pos c2]; exact .inl (hr _ (xe h _ _))
 rw [if_neg c2]
 by_cases c3 : d.f0 = 3
 ·rw [if_pos c3]; exact .inl (hr _ (pC h _ _))
 rw [if_neg c3]
 by_cases c4 : d.f0 = 4
 ·rw [if_pos c4]; exact .inl (hr _ (vq h _ _))
 rw [if_neg c4]
 by_cases c5 : d.f0 = 5
 ·rw [if_pos c5]; exact .inl (hr _ (vh h _))
 rw [if_neg c5]
 by_cases c6 : d.f0 = 6
 ·rw [if_pos c6]; exact .inl (hr _ (vi h _))
 rw [if_neg c6]
 by_cases c7 : d.f0 = 7
 ·rw [if_pos c7]; exact .inl (hr _ (te h _))
 rw [if_neg c7]
 by_cases c8 : d.f0 = 8
 ·rw [if_pos c8]; exact .inl (hr _ (tt h _ _))
 rw [if_neg c8]
 by_cases c9 : d.f0 = 9
 ·rw [if_pos c9]; exact .inl (hr _ (od h _))
 rw [if_neg c9]
 by_cases c10 : d.f0 = 10
 ·rw [if_pos c10]; exact .inl (hr _ (wi h _ _ _))
 rw [if_neg c10]
 by_cases c11 : d.f0 = 11
 ·rw [if_pos c11]; exact .inl (hr _ (yK h _))
 rw [if_neg c11]
 by_cases c12 : d.f0 = 12
 ·rw [if_pos c12]; exact .inl (hr _ (wP h _))
 rw [if_neg c12]
 unfold kM
 by_cases hz : dH d.f1 d.f2 = true
 ·rw [if_pos (by rw [h.may,hz]; rfl)]; exact .inl ⟨rfl,ux h hz⟩
 ·rw [if_neg (by rw [Bool.and_eq_true]; exact fun q=>hz q.2)]; exact .inr ⟨rfl,rfl,c0,c1,c2,c3,c4,c5,c6,c7,c8,c9,c10,c11,c12⟩
structure Big (s : aG) : Prop where
 g : s.f0.f2.length ≤ 2932031007402
 m : s.f16.f2.length ≤ 2932031007402
 t : s.f7.length ≤ 17592186044416
 u : s.f17.length ≤ 35184372088832
theorem Ok.big {s : aG} (h : Ok s) : Big s:=by
 obtain ⟨w,q,_,_,_,_,_,_,hl,hb⟩:=h.size
 have h1:=nw h.m
 have h2:=fZ h.m
 have h3:=jO h.m
 exact ⟨by omega,by omega,by omega,by omega⟩
theorem qQ : Big zS:=⟨by decide,by decide,by decide,by decide⟩
theorem yb (a b : aG) (h : a.f7.length = b.f7.length) (hl : a.f7.length < 4611686018427387904) : ∀ (m k i : Nat),i + m = a.f7.length → m < k → dj.l0 a b k (i : Int) = some (if a.f7.drop i = b.f7.drop i then Out.go () else Out.ret false)
 | _,0,_,_,hk=>by omega
 | 0,k + 1,i,hi,hk=>by rw [dj.l0,if_neg (by omega),List.drop_of_length_le (by omega),List.drop_of_length_le (by omega)]; simp
 | m + 1,k + 1,i,hi,hk=>by
  have h1 : i < a.f7.length:=by omega
  have h2 : i < b.f7.length:=by omega
  rw [dj.l0,if_pos (by omega),if_pos (by omega),if_pos (by omega),eQ h1,eQ h2,List.drop_eq_getElem_cons h1,List.drop_eq_getElem_cons h2]
  by_cases he : a.f7[i] = b.f7[i]
  ·rw [if_neg (by simpa using he),gX (by omega)]
   simp only [lt]
   rw [yb a b h hl m k (i + 1) (by omega) (by omega)]
   simp only [List.cons.injEq,he,true_and]
  ·rw [if_pos he,if_neg (by intro q; exact he (List.cons.inj q).1)]
theorem yB (a b : aG) (h : a.f17.length = b.f17.length) (hl : a.f17.length < 4611686018427387904) : ∀ (m k i : Nat),i + m = a.f17.length → m < k → dj.l1 a b k (i : Int) = some (if a.f17.drop i = b.f17.drop i then Out.go () else Out.ret false)
 | _,0,_,_,hk=>by omega
 | 0,k + 1,i,hi,hk=>by rw [dj.l1,if_neg (by omega),List.drop_of_length_le (by omega),List.drop_of_length_le (by omega)]; simp
 | m + 1,k + 1,i,hi,hk=>by
  have h1 : i < a.f17.length:=by omega
  have h2 : i < b.f17.length:=by omega
  rw [dj.l1,if_pos (by omega),if_pos (by omega),if_pos (by omega),eQ h1,eQ h2,List.drop_eq_getElem_cons h1,List.drop_eq_getElem_cons h2]
  by_cases he : a.f17[i] = b.f17[i]
  ·rw [if_neg (by simpa using he),gX (by omega)]
   simp only [lt]
   rw [yB a b h hl m k (i + 1) (by omega) (by omega)]
   simp only [List.cons.injEq,he,true_and]
  ·rw [if_pos he,if_neg (by intro q; exact he (List.cons.inj q).1)]
theorem qp (a b : bF) : rP a b = decide (a = b):=by
 unfold rP
 obtain ⟨a0,a1,a2⟩:=a
 obtain ⟨b0,b1,b2⟩:=b
 rw [Bool.eq_iff_iff]; simp
def yy (a b : aG) : Prop:=a.f1 = b.f1∧a.f2 = b.f2∧a.f3 = b.f3∧a.f4 = b.f4∧a.f5 = b.f5∧a.f6 = b.f6∧a.f8 = b.f8∧a.f9 = b.f9∧a.f10 = b.f10∧a.f11 = b.f11∧a.f12 = b.f12∧a.f13 = b.f13∧a.f14 = b.f14∧a.f15 = b.f15
theorem tc {a b : aG} : a = b ↔ a.f0 = b.f0∧a.f16 = b.f16∧a.f7 = b.f7∧a.f17 = b.f17∧yy a b:=by
 constructor
 ·rintro rfl; exact ⟨rfl,rfl,rfl,rfl,rfl,rfl,rfl,rfl,rfl,rfl,rfl,rfl,rfl,rfl,rfl,rfl,rfl,rfl⟩
 ·rintro ⟨e0,e16,e7,e17,e1,e2,e3,e4,e5,e6,e8,e9,e10,e11,e12,e13,e14,e15⟩
  obtain ⟨⟩:=a; obtain ⟨⟩:=b
  simp only at e0 e16 e7 e17 e1 e2 e3 e4 e5 e6 e8 e9 e10 e11 e12 e13 e14 e15
  subst e0 e16 e7 e17 e1 e2 e3 e4 e5 e6 e8 e9 e10 e11 e12 e13 e14 e15
  rfl
theorem f10 (a b : aG) (h : Big a) (k : Nat) (hk : 40000000000000 ≤ k) : dj.f k a b = some (decide (a = b)):=by
 have h1:=h.g; have h2:=h.m; have h3:=h.t; have h4:=h.u
 unfold dj.f
 rw [CI a.f0 b.f0 (by omega) k (by omega),CI a.f16 b.f16 (by omega) k (by omega),qp,qp]
 simp only [Option.bind_some,lt]
 by_cases e0 : a.f0 = b.f0
 ·by_cases e16 : a.f16 = b.f16
  ·by_cases l7 : a.f7.length = b.f7.length
   ·by_cases l17 : a.f17.length = b.f17.length
    ·have z7:=yb a b l7 (by omega) a.f7.length k 0 (by omega) (by omega)
     have z17:=yB a b l17 (by omega) a.f17.length k 0 (by omega) (by omega)
     rw [List.drop_zero,List.drop_zero] at z7 z17
     simp only [e0,e16,decide_true,Bool.not_true,Bool.false_eq_true,if_false,Option.bind_some,l7,l17,ne_eq,not_true_eq_false,decide_false,Bool.or_self]
     rw [show dj.l0 a b k 0 = _ from z7,show dj.l1 a b k 0 = _ from z17]
     by_cases e7 : a.f7 = b.f7
     ·rw [if_pos e7]
      simp only [Option.bind_some,jh]
      by_cases e17 : a.f17 = b.f17
      ·rw [if_pos e17]
       simp only [Option.bind_some,jh]
       congr 1
       rw [Bool.eq_iff_iff]
       simp only [Bool.and_eq_true,decide_eq_true_eq,tc (a:=a) (b:=b),e0,e16,e7,e17,true_and,yy,and_assoc]
      ·rw [if_neg e17]
       have : a ≠ b:=fun q=>e17 (by rw [q])
       simp [ku,this]
     ·rw [if_neg e7]
      have : a ≠ b:=fun q=>e7 (by rw [q])
      simp [ku,this]
    ·have : a ≠ b:=fun q=>l17 (by rw [q])
     have l17' : ¬ ((a.f17.length : Int) = (b.f17.length : Int)):=by omega
     simp [e0,e16,l7,l17',this]
   ·have : a ≠ b:=fun q=>l7 (by rw [q])
    have l7' : ¬ ((a.f7.length : Int) = (b.f7.length : Int)):=by omega
    simp [e0,e16,l7',this]
  ·have : a ≠ b:=fun q=>e16 (by rw [q])
   simp [e0,e16,this]
 ·have : a ≠ b:=fun q=>e0 (by rw [q])
  simp [e0,this]
theorem f14 (k : Nat) (hk : 1000 ≤ k) : tV.f k = some true:=by
 obtain ⟨j,rfl⟩ : ∃ j,k = j + 900:=⟨k - 900,by omega⟩
 kernel_rfl
end Go.Proofs.YtckilbegmbaeeaaGreat.Z3Sc

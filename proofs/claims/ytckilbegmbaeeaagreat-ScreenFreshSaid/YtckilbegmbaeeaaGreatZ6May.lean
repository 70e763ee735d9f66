import Derived.Test.YtckilbegmbaeeaaGreatZ6
import Derived.Test.YtckilbegmbaeeaaGreatZ6S1
namespace Go.Proofs.YtckilbegmbaeeaaGreat.Z6May
open Go Go.RowKit Go.Proofs.YtckilbegmbaeeaaGreat.SL Go.Proofs.YtckilbegmbaeeaaGreat.Z6
set_option linter.unusedVariables false
set_option linter.unusedSimpArgs false
def fo : List aZ:=qL.f.getD []
def gK : List aZ:=qM.f.getD []
def uR : List bY:=qK.f.getD []
def uT : List bY:=qJ.f.getD []
def pe (l : List (Int × Int)) (c : Int) : Bool:=l.any fun p=>decide (p.1 ≤ c) && decide (c ≤ p.2)
def wT : List (Int × Int):=fo.map fun s=>(s.f0,s.f1)
def zT : List (Int × Int):=gK.map fun s=>(s.f0,s.f1)
theorem GZ : (uR.map fun s=>(s.f0,s.f1)) = wT:=by decide +kernel
theorem Ha : (uT.map fun s=>(s.f0,s.f1)) = zT:=by decide +kernel
theorem tG {p : Int × Int} {l : List (Int × Int)} {c : Int} : pe (p::l) c = (decide (p.1 ≤ c) && decide (c ≤ p.2) || pe l c):=rfl
theorem wN {l : List aZ} {c : Int} (h : ∀ (i : Nat) (hi : i < l.length),¬ (l[i].f0 ≤ c∧c ≤ l[i].f1)) : pe (l.map fun s=>(s.f0,s.f1)) c = false:=by
 unfold pe
 rw [List.any_eq_false]
 intro p hp
 obtain ⟨s,hs,rfl⟩:=List.mem_map.1 hp
 obtain ⟨i,hi,rfl⟩:=List.getElem_of_mem hs
 have:=h i hi
 simp only [Bool.and_eq_true,decide_eq_true_eq]
 exact this
theorem vd {l : List aZ} {c : Int} {i : Nat} (hi : i < l.length) (h : l[i].f0 ≤ c∧c ≤ l[i].f1) : pe (l.map fun s=>(s.f0,s.f1)) c = true:=by
 unfold pe
 rw [List.any_eq_true]
 exact ⟨(l[i].f0,l[i].f1),List.mem_map.2 ⟨l[i],List.getElem_mem hi,rfl⟩,by simp only [Bool.and_eq_true,decide_eq_true_eq]; exact h⟩
theorem wP (l : List aZ) (c : Int) (hl : l.length ≤ 1048576) (S : ∀ (i j : Nat) (hi : i < l.length) (hj : j < l.length),i < j → l[i].f1 < l[j].f0) (R : ∀ (i : Nat) (hi : i < l.length),l[i].f0 ≤ l[i].f1) :
  ∀ (n k : Nat) (lo hi : Nat),hi - lo ≤ n → n < k → lo ≤ hi → hi ≤ l.length → (∀ (i : Nat) (h : i < l.length),i < lo → l[i].f1 < c) → (∀ (i : Nat) (h : i < l.length),hi ≤ i → c < l[i].f0) →
   lb.l0 l c k (lo : Int) (hi : Int) = some (if pe (l.map fun s=>(s.f0,s.f1)) c = true then Out.ret true else Out.go ())
 | n,0,_,_,_,h,_,_,_,_=>by omega
 | n,k + 1,lo,hi,o,h2,r,d,ha,hb=>by
  rw [lb.l0]
  by_cases hlt : lo < hi
  ·rw [if_pos (by omega)]
   have a : gR .u64 (IntKind.u64.wrap ((lo : Int) + (hi : Int))) 1 = (((lo + hi) / 2 : Nat) : Int):=by
    rw [vz,Int.emod_eq_of_lt (by omega) (by omega),show (1 : Int) = ((1 : Nat) : Int) from rfl,sk _ _ 1 (by decide)]
    simp
   have hm : (lo + hi) / 2 < l.length:=by omega
   simp only [lt,a]
   rw [if_pos (by omega),fa hm]
   obtain ⟨m,rfl⟩ : ∃ m,n = m + 1:=⟨n - 1,by omega⟩
   by_cases hc : c < l[(lo + hi) / 2].f0
   ·rw [if_pos hc]
    refine wP l c hl S R m k lo ((lo + hi) / 2) (by omega) (by omega) (by omega) (by omega) ha (fun i h hi'=>?_)
    rcases Nat.lt_or_ge ((lo + hi) / 2) i with q | q
    ·have:=S _ _ hm h q; have:=R _ hm; omega
    ·obtain rfl : i = (lo + hi) / 2:=by omega
     exact hc
   ·rw [if_neg hc,if_pos (by omega)]
    by_cases hd : c > l[(lo + hi) / 2].f1
    ·rw [if_pos hd]
     have b : IntKind.u64.wrap ((((lo + hi) / 2 : Nat) : Int) + 1) = (((lo + hi) / 2 + 1 : Nat) : Int):=by
      rw [vz,Int.emod_eq_of_lt (by omega) (by omega)]; simp
     rw [b]
     refine wP l c hl S R m k ((lo + hi) / 2 + 1) hi (by omega) (by omega) (by omega) d (fun i h hi'=>?_) hb
     rcases Nat.lt_or_ge i ((lo + hi) / 2) with q | q
     ·have:=S _ _ h hm q; have:=R _ hm; omega
     ·obtain rfl : i = (lo + hi) / 2:=by omega
      exact hd
    ·rw [if_neg hd,vd hm ⟨by omega,by omega⟩]; rfl
  ·rw [if_neg (by omega),wN (fun i h q=>by
    rcases Nat.lt_or_ge i lo with p | p
    ·have:=ha i h p; omega
    ·have:=hb i h (by omega); omega)]
   rfl
theorem xV (l : List aZ) (c : Int) (hl : l.length ≤ 1048576) (S : List.Pairwise (fun a b : aZ=>a.f1 < b.f0) l) (R : ∀ s ∈ l,s.f0 ≤ s.f1) (k : Nat) (hk : l.length < k) : lb.f k l c = some (pe (l.map fun s=>(s.f0,s.f1)) c):=by
 have e : IntKind.u64.wrap (l.length : Int) = (l.length : Int):=by rw [vz,Int.emod_eq_of_lt (by omega) (by omega)]
 have h:=wP l c hl (fun i j hi hj hij=>List.pairwise_iff_getElem.1 S i j hi hj hij) (fun i hi=>R _ (List.getElem_mem hi)) l.length k 0 l.length (by omega) hk (by omega) (by omega) (fun i h q=>by omega) (fun i h q=>by omega)
 rw [show ((0 : Nat) : Int) = 0 from rfl] at h
 unfold lb.f
 simp only [lt,e,h]
 cases pe (l.map fun s=>(s.f0,s.f1)) c <;> rfl
def ctl (c : Int) : Bool:=decide (c < 32) || (decide (c ≥ 127) && decide (c ≤ 159)) || decide (c > 1114111) || (decide (c ≥ 55296) && decide (c ≤ 57343))
def gI (c : Int) : Int:=if ctl c = true then -1 else if pe zT c = true then 0 else if pe wT c = true then 2 else 1
theorem qm (c : Int) (k : Nat) (hk : 40 ≤ k) : lW.f k c = some (gI c):=by
 have b : qL.f = some fo:=rfl
 have d : qM.f = some gK:=rfl
 have lw : fo.length = 37:=by decide +kernel
 have lz : gK.length = 26:=by decide +kernel
 have hw:=xV fo c (by rw [lw]; decide) (by decide +kernel) (by decide +kernel) k (by rw [lw]; omega)
 have hz:=xV gK c (by rw [lz]; decide) (by decide +kernel) (by decide +kernel) k (by rw [lz]; omega)
 have ew : [rd fo 0,rd fo 1,rd fo 2,rd fo 3,rd fo 4,rd fo 5,rd fo 6,rd fo 7,rd fo 8,rd fo 9,rd fo 10,rd fo 11,rd fo 12,rd fo 13,rd fo 14,rd fo 15,rd fo 16,rd fo 17,rd fo 18,rd fo 19,rd fo 20,rd fo 21,rd fo 22,rd fo 23,rd fo 24,rd fo 25,rd fo 26,rd fo 27,rd fo 28,rd fo 29,rd fo 30,rd fo 31,rd fo 32,rd fo 33,rd fo 34,rd fo 35,rd fo 36] = fo:=by decide +kernel
 have ez : [rd gK 0,rd gK 1,rd gK 2,rd gK 3,rd gK 4,rd gK 5,rd gK 6,rd gK 7,rd gK 8,rd gK 9,rd gK 10,rd gK 11,rd gK 12,rd gK 13,rd gK 14,rd gK 15,rd gK 16,rd gK 17,rd gK 18,rd gK 19,rd gK 20,rd gK 21,rd gK 22,rd gK 23,rd gK 24,rd gK 25] = gK:=by decide +kernel
 unfold lW.f
 rw [b,d]
 simp only [Option.bind_some,ew,ez,hw,hz,lt]
 unfold gI ctl wT zT
 by_cases a : c < 32
 ·simp [a]
 ·by_cases h2 : c ≥ 127 <;> by_cases h : c ≤ 159 <;> by_cases j : c > 1114111 <;> by_cases l : c ≥ 55296 <;> by_cases m : c ≤ 57343 <;> simp [a,h2,h,j,l,m] <;> (cases pe (gK.map fun s=>(s.f0,s.f1)) c <;> cases pe (fo.map fun s=>(s.f0,s.f1)) c <;> simp)
theorem ym (l : List bY) (c : Int) (hl : l.length ≤ 1048576) : ∀ (n k : Nat) (i : Nat),i + n = l.length → n < k →
  gj.l0 l c k (i : Int) = some (if pe ((l.drop i).map fun s=>(s.f0,s.f1)) c = true then Out.ret true else Out.go ())
 | n,0,_,_,h=>by omega
 | 0,k + 1,i,h,hk=>by rw [gj.l0,if_neg (by omega),List.drop_of_length_le (by omega)]; rfl
 | n + 1,k + 1,i,h,hk=>by
  have hi : i < l.length:=by omega
  have ew : IntKind.i64.wrap ((i : Int) + 1) = ((i + 1 : Nat) : Int):=by rw [eV (by omega) (by omega)]; rfl
  rw [gj.l0,if_pos (by omega),if_pos (by omega),fa hi,List.drop_eq_getElem_cons hi,if_pos (c:=0 ≤ (i : Int)∧(i : Int) < (l.length : Int)) (by omega)]
  simp only [lt,ew]
  rw [ym l c hl n k (i + 1) (by omega) (by omega),List.map_cons,tG]
  generalize pe ((List.drop (i + 1) l).map fun s=>(s.f0,s.f1)) c = b
  generalize l[i] = s
  by_cases a : s.f0 ≤ c <;> by_cases h2 : c ≤ s.f1 <;> simp [a,h2]
theorem xT (l : List bY) (c : Int) (hl : l.length ≤ 1048576) (k : Nat) (hk : l.length < k) : gj.f k l c = some (pe (l.map fun s=>(s.f0,s.f1)) c):=by
 have h:=ym l c hl l.length k 0 (by omega) hk
 rw [show ((0 : Nat) : Int) = 0 from rfl,List.drop_zero] at h
 unfold gj.f
 rw [h]
 cases pe (l.map fun s=>(s.f0,s.f1)) c <;> rfl
theorem ql (c : Int) (k : Nat) (hk : 40 ≤ k) : qQ.f k c = some (gI c):=by
 have b : qK.f = some uR:=rfl
 have d : qJ.f = some uT:=rfl
 have lw : uR.length = 37:=by decide +kernel
 have lz : uT.length = 26:=by decide +kernel
 have hw:=xT uR c (by rw [lw]; decide) k (by rw [lw]; omega)
 have hz:=xT uT c (by rw [lz]; decide) k (by rw [lz]; omega)
 rw [GZ] at hw
 rw [Ha] at hz
 unfold qQ.f
 rw [b,d]
 simp only [Option.bind_some,hw,hz,lt]
 unfold gI ctl
 by_cases a : c < 32
 ·simp [a]
 ·by_cases h2 : c ≥ 127 <;> by_cases h : c ≤ 159 <;> by_cases j : c > 1114111 <;> by_cases l : c ≥ 55296 <;> by_cases m : c ≤ 57343 <;> simp [a,h2,h,j,l,m] <;> (cases pe zT c <;> cases pe wT c <;> simp)
def qj (n : Int) : Bool:=decide (-1 ≤ n) && decide (n ≤ 255)
def cn (s : cM) : Bool:=qj s.f0 && qj s.f1
theorem xC (s : cM) : qb.f s = some (cn s):=by
 unfold qb.f pK.f cn qj
 simp only [lt,Option.bind_some]
 by_cases h : (decide (s.f0 ≥ -1) && decide (s.f0 ≤ 255)) = true
 ·rw [if_pos h]; simp only [Option.bind_some,ge_iff_le] at h ⊢; rw [h]; simp
 ·rw [if_neg h]; simp only [Option.bind_some,ge_iff_le] at h ⊢; simp only [Bool.not_eq_true] at h; rw [h]; simp
theorem ya (s : cM) : qa.f s = some (cn s):=by
 unfold qa.f pJ.f cn qj
 simp only [lt,Option.bind_some]
 by_cases h : (decide (s.f0 ≥ -1) && decide (s.f0 ≤ 255)) = true
 ·rw [if_pos h]; simp only [Option.bind_some,ge_iff_le] at h ⊢; rw [h]; simp
 ·rw [if_neg h]; simp only [Option.bind_some,ge_iff_le] at h ⊢; simp only [Bool.not_eq_true] at h; rw [h]; simp
def gz (a b c : Int) : Bool:=if a = 0 then decide (b = 0) && decide (c = 0) else if b = 0 then decide (gI a = 0) && decide (c = 0) else decide (gI a = 0) && decide (gI b = 0) && (decide (c = 0) || decide (gI c = 0))
def cv (x : aY) : Bool :=
 if cn x.f3 = false then false else if x.f2 = 0 then decide (x.f0 = 0) && decide (x.f1 = fX.mk 0 0 0)
 else if x.f2 > 2 then false else if gI x.f0 = x.f2 then gz x.f1.f0 x.f1.f1 x.f1.f2 else false
theorem w8 {x : Int} (h0 : 0 ≤ x) (h1 : x < 256) : IntKind.i64.wrap x = x:=eV (by omega) (by omega)
theorem oq (a b c : Int) : rd [a,b,c] 0 = a:=rfl
theorem oL (a b c : Int) : rd [a,b,c] 1 = b:=rfl
theorem nr (a b c : Int) : rd [a,b,c] 2 = c:=rfl
theorem ze : IntKind.i64.wrap (0 + 1) = 1:=by decide
theorem zf : IntKind.i64.wrap (1 + 1) = 2:=by decide
theorem zH : IntKind.i64.wrap (2 + 1) = 3:=by decide
theorem GK (x : aY) (k : Nat) (hk : 44 ≤ k) : kZ.l0 x k false 0 = some (if gz x.f1.f0 x.f1.f1 x.f1.f2 = true then Out.go () else Out.ret false):=by
 obtain ⟨k,rfl⟩ : ∃ j,k = j + 4:=⟨k - 4,by omega⟩
 have w:=fun c=>qm c k (by omega)
 have d:=fun c=>qm c (k + 1) (by omega)
 have h:=fun c=>qm c (k + 2) (by omega)
 have l:=fun c=>qm c (k + 3) (by omega)
 unfold gz
 simp only [kZ.l0,lt,oq,oL,nr,ze,zf,zH,w,d,h,l,Option.bind_some]
 by_cases ha : x.f1.f0 = 0 <;> by_cases hb : x.f1.f1 = 0 <;> by_cases hc : x.f1.f2 = 0 <;> by_cases a : gI x.f1.f0 = 0 <;> by_cases b : gI x.f1.f1 = 0 <;> by_cases c0 : gI x.f1.f2 = 0 <;> simp [ha,hb,hc,a,b,c0]
theorem GJ (x : aY) (k : Nat) (hk : 44 ≤ k) : kA.l0 x k 0 = some (if gz x.f1.f0 x.f1.f1 x.f1.f2 = true then Out.go () else Out.ret false):=by
 obtain ⟨k,rfl⟩ : ∃ j,k = j + 4:=⟨k - 4,by omega⟩
 have w:=fun c=>ql c k (by omega)
 have d:=fun c=>ql c (k + 1) (by omega)
 have h:=fun c=>ql c (k + 2) (by omega)
 have l:=fun c=>ql c (k + 3) (by omega)
 unfold gz
 simp only [kA.l0,lt,oq,oL,nr,ze,zf,zH,w,d,h,l,Option.bind_some]
 by_cases ha : x.f1.f0 = 0 <;> by_cases hb : x.f1.f1 = 0 <;> by_cases hc : x.f1.f2 = 0 <;> by_cases a : gI x.f1.f0 = 0 <;> by_cases b : gI x.f1.f1 = 0 <;> by_cases c0 : gI x.f1.f2 = 0 <;> simp [ha,hb,hc,a,b,c0]
theorem f84 (x : aY) (h0 : 0 ≤ x.f2) (h1 : x.f2 < 256) (k : Nat) (hk : 44 ≤ k) : kZ.f k x = some (cv x):=by
 unfold kZ.f cv
 rw [xC,qm x.f0 k (by omega),GK x k hk,w8 h0 h1]
 simp only [Option.bind_some,lt]
 cases cn x.f3
 ·simp
 ·by_cases h2 : x.f2 = 0
  ·simp [h2]
  ·by_cases a : x.f2 > 2
   ·simp [h2,a]
   ·by_cases b : gI x.f0 = x.f2
    ·cases hm : gz x.f1.f0 x.f1.f1 x.f1.f2 <;> simp [h2,a,b,hm,Out.el]
    ·simp [h2,a,b]
theorem BN (x : aY) (h0 : 0 ≤ x.f2) (h1 : x.f2 < 256) (k : Nat) (hk : 44 ≤ k) : kA.f k x = some (cv x):=by
 unfold kA.f cv
 rw [ya,ql x.f0 k (by omega),GJ x k hk,w8 h0 h1]
 simp only [Option.bind_some,lt]
 cases cn x.f3
 ·simp
 ·by_cases h2 : x.f2 = 0
  ·simp [h2]
  ·by_cases a : x.f2 > 2
   ·simp [h2,a]
   ·by_cases b : gI x.f0 = x.f2
    ·cases hm : gz x.f1.f0 x.f1.f1 x.f1.f2 <;> simp [h2,a,b,hm,Out.el]
    ·simp [h2,a,b]
theorem pj (i w : Nat) (hw : 0 < w) : (i + 1) % w = if i % w = w - 1 then 0 else i % w + 1:=by
 have a:=Nat.mod_lt i hw
 have h2:=Nat.div_add_mod i w
 split
 ·rename_i h
  have : i + 1 = w * (i / w + 1):=by rw [Nat.mul_add]; omega
  rw [this,Nat.mul_mod_right]
 ·rename_i h
  have : i + 1 = (i % w + 1) + w * (i / w):=by omega
  rw [this,Nat.add_mul_mod_self_left,Nat.mod_eq_of_lt (by omega)]
def tQ (g : bH) (w i : Nat) : Bool :=
 cv (rd g.f2 (i : Int)) && (decide ((rd g.f2 (i : Int)).f2 = 0) == (decide (0 < i % w) && decide ((rd g.f2 ((i - 1 : Nat) : Int)).f2 = 2))) &&
 (!(decide (0 < i % w) && decide ((rd g.f2 ((i - 1 : Nat) : Int)).f2 = 2)) || decide ((rd g.f2 (i : Int)).f3 = (rd g.f2 ((i - 1 : Nat) : Int)).f3)) &&
 !(decide ((rd g.f2 (i : Int)).f2 = 2) && decide (i % w = w - 1))
def vV (g : bH) (w : Nat) (a : aY) (i : Nat) : Bool :=
 !(decide (i % w = 0) && decide (a.f2 = 2)) && cv (rd g.f2 (i : Int)) &&
 (decide (a.f2 = 2) == (decide ((rd g.f2 (i : Int)).f2 = 0) && decide ((rd g.f2 (i : Int)).f3 = a.f3) && decide (0 < i % w))) &&
 (!(decide ((rd g.f2 (i : Int)).f2 = 0)) || (decide ((rd g.f2 (i : Int)).f2 = 0) && decide ((rd g.f2 (i : Int)).f3 = a.f3) && decide (0 < i % w)))
theorem kK (g : bH) (w i : Nat) : tQ g w i = true ↔ cv (rd g.f2 (i : Int)) = true∧((rd g.f2 (i : Int)).f2 = 0 ↔ (0 < i % w∧(rd g.f2 ((i - 1 : Nat) : Int)).f2 = 2)) ∧
  ((0 < i % w∧(rd g.f2 ((i - 1 : Nat) : Int)).f2 = 2) → (rd g.f2 (i : Int)).f3 = (rd g.f2 ((i - 1 : Nat) : Int)).f3)∧¬ ((rd g.f2 (i : Int)).f2 = 2∧i % w = w - 1):=by
 unfold tQ
 generalize rd g.f2 (i : Int) = c
 generalize rd g.f2 ((i - 1 : Nat) : Int) = p
 by_cases a : c.f2 = 0 <;> by_cases h2 : 0 < i % w <;> by_cases b : p.f2 = 2 <;> by_cases d : c.f3 = p.f3 <;> by_cases h : c.f2 = 2 <;> by_cases j : i % w = w - 1 <;> simp [a,h2,b,d,h,j,and_assoc]
theorem pm (g : bH) (w : Nat) (a : aY) (i : Nat) : vV g w a i = true ↔ ¬ (i % w = 0∧a.f2 = 2)∧cv (rd g.f2 (i : Int)) = true∧(a.f2 = 2 ↔ ((rd g.f2 (i : Int)).f2 = 0∧(rd g.f2 (i : Int)).f3 = a.f3∧0 < i % w)) ∧
  ((rd g.f2 (i : Int)).f2 = 0 → ((rd g.f2 (i : Int)).f3 = a.f3∧0 < i % w)):=by
 unfold vV
 generalize rd g.f2 (i : Int) = c
 by_cases b : c.f2 = 0 <;> by_cases h2 : 0 < i % w <;> by_cases d : a.f2 = 2 <;> by_cases h : c.f3 = a.f3 <;> by_cases j : i % w = 0 <;> simp [b,h2,d,h,j]
def oy (g : bH) (w : Nat) : Nat → aY → Nat → Option aY
 | 0,a,_=>some a
 | n + 1,a,i=>if vV g w a i = true then oy g w n (rd g.f2 (i : Int)) (i + 1) else none
def pv (g : bH) (i : Nat) (a : aY) (j : Nat) : aY:=if j = i then a else rd g.f2 ((j - 1 : Nat) : Int)
theorem mY (g : bH) (w : Nat) : ∀ (n : Nat) (a : aY) (i : Nat),(∀ j,i ≤ j → j < i + n → vV g w (pv g i a j) j = true) → oy g w n a i = some (pv g i a (i + n))
 | 0,a,i,_=>by simp [oy,pv]
 | n + 1,a,i,h=>by
  have b:=h i (Nat.le_refl _) (by omega)
  unfold pv at b
  rw [if_pos rfl] at b
  rw [oy,if_pos b,mY g w n _ (i + 1) (fun j c h2=>by
   have:=h j (by omega) (by omega)
   unfold pv at this ⊢
   rw [if_neg (by omega)] at this
   by_cases hj : j = i + 1
   ·subst hj; rw [if_pos rfl]; exact this
   ·rw [if_neg hj]; exact this)]
  unfold pv
  by_cases hn : n = 0
  ·subst hn; rw [if_pos (by omega),if_neg (by omega)]; rfl
  ·rw [if_neg (by omega),if_neg (by omega),show i + 1 + n = i + (n + 1) from by omega]
theorem sf (g : bH) (w : Nat) : ∀ (n : Nat) (a : aY) (i : Nat) (z : aY),oy g w n a i = some z → ∀ j,i ≤ j → j < i + n → vV g w (pv g i a j) j = true
 | 0,a,i,z,_,j,c,h2=>by omega
 | n + 1,a,i,z,h,j,c,h2=>by
  rw [oy] at h
  by_cases hk : vV g w a i = true
  ·rw [if_pos hk] at h
   by_cases hj : j = i
   ·subst hj; unfold pv; rw [if_pos rfl]; exact hk
   ·have:=sf g w n _ (i + 1) z h j (by omega) (by omega)
    unfold pv at this ⊢
    rw [if_neg hj]
    by_cases b : j = i + 1
    ·subst b; rw [if_pos rfl] at this; exact this
    ·rw [if_neg b] at this; exact this
  ·rw [if_neg hk] at h; cases h
def c0 : aY:=aY.mk 0 (fX.mk 0 0 0) 1 (cM.mk 0 0 false false false false false false false false)
theorem vm (g : bH) (w n : Nat) (hw : 0 < w) (hn : 0 < n) (hl : n % w = 0) : ((∀ j,j < n → vV g w (pv g 0 c0 j) j = true)∧(pv g 0 c0 n).f2 ≠ 2) ↔ ∀ i,i < n → tQ g w i = true:=by
 have p : pv g 0 c0 0 = c0:=rfl
 have pp : ∀ j,0 < j → pv g 0 c0 j = rd g.f2 ((j - 1 : Nat) : Int):=fun j h=>by unfold pv; rw [if_neg (by omega)]
 have c2 : c0.f2 = 1:=rfl
 constructor
 ·rintro ⟨hp,hz⟩ i hi
  have a:=(pm g w _ i).1 (hp i hi)
  rw [kK]
  have last : ¬ ((rd g.f2 (i : Int)).f2 = 2∧i % w = w - 1):=by
   rintro ⟨d,l⟩
   by_cases o : i + 1 < n
   ·have h2:=(pm g w _ (i + 1)).1 (hp (i + 1) o)
    rw [pp (i + 1) (by omega),show i + 1 - 1 = i from rfl] at h2
    exact h2.1 ⟨by rw [pj i w hw,if_pos l],d⟩
   ·obtain rfl : n = i + 1:=by omega
    rw [pp (i + 1) (by omega),show i + 1 - 1 = i from rfl] at hz
    exact hz d
  rcases Nat.eq_zero_or_pos i with rfl | hpos
  ·rw [p,c2] at a
   simp only [Nat.zero_mod] at a ⊢
   refine ⟨a.2.1,?_,fun h=>by omega,by simpa using last⟩
   constructor
   ·intro h; have:=(a.2.2.2 h).2; omega
   ·rintro ⟨h,_⟩; omega
  ·rw [pp i hpos] at a
   refine ⟨a.2.1,?_,fun h=>(a.2.2.1.1 h.2).2.1,last⟩
   constructor
   ·intro h; have b:=a.2.2.2 h; exact ⟨b.2,a.2.2.1.2 ⟨h,b.1,b.2⟩⟩
   ·rintro ⟨_,h⟩; exact (a.2.2.1.1 h).1
 ·intro hr
  refine ⟨fun j hj=>?_,?_⟩
  ·have a:=(kK g w j).1 (hr j hj)
   rw [pm]
   rcases Nat.eq_zero_or_pos j with rfl | hpos
   ·rw [p,c2]
    simp only [Nat.zero_mod] at a ⊢
    have m : ¬ (rd g.f2 ((0 : Nat) : Int)).f2 = 0:=fun h=>by have:=(a.2.1.1 h).1; omega
    refine ⟨by omega,a.1,?_,fun h=>absurd h m⟩
    constructor
    ·intro h; omega
    ·rintro ⟨h,_⟩; exact absurd h m
   ·rw [pp j hpos]
    have h2:=(kK g w (j - 1)).1 (hr (j - 1) (by omega))
    have hm:=pj (j - 1) w hw
    rw [show j - 1 + 1 = j from by omega] at hm
    have na : ¬ (j % w = 0∧(rd g.f2 ((j - 1 : Nat) : Int)).f2 = 2):=by
     rintro ⟨d,l⟩
     refine h2.2.2.2 ⟨l,?_⟩
     rw [d] at hm
     by_cases hq : (j - 1) % w = w - 1
     ·exact hq
     ·rw [if_neg hq] at hm; omega
    refine ⟨na,a.1,?_,fun h=>?_⟩
    ·constructor
     ·intro h
      have c : 0 < j % w:=by
       rcases Nat.eq_zero_or_pos (j % w) with q | q
       ·exact absurd ⟨q,h⟩ na
       ·exact q
      exact ⟨a.2.1.2 ⟨c,h⟩,a.2.2.1 ⟨c,h⟩,c⟩
     ·rintro ⟨h,_,_⟩; exact (a.2.1.1 h).2
    ·have b:=a.2.1.1 h
     exact ⟨a.2.2.1 b,b.1⟩
  ·rw [pp n hn]
   intro h
   have h2:=(kK g w (n - 1)).1 (hr (n - 1) (by omega))
   refine h2.2.2.2 ⟨h,?_⟩
   have hm:=pj (n - 1) w hw
   rw [show n - 1 + 1 = n from by omega,hl] at hm
   by_cases hq : (n - 1) % w = w - 1
   ·exact hq
   ·rw [if_neg hq] at hm; omega
def ct (g : bH) : Bool:=decide (1 ≤ g.f0∧g.f0 ≤ 512∧1 ≤ g.f1∧g.f1 ≤ 512∧(g.f2.length : Int) = g.f0 * g.f1) && (List.range g.f2.length).all (tQ g g.f0.toNat)
theorem tm (i w : Nat) : ((i : Int)).tmod (w : Int) = ((i % w : Nat) : Int):=by rw [Int.tmod_eq_emod_of_nonneg (by omega)]; simp
theorem uA (g : bH) (w : Nat) (hg : g.f2.length ≤ 1048576) (hw : g.f0 = (w : Int)) (h0 : 0 < w) (hc : ∀ x ∈ g.f2,0 ≤ x.f2∧x.f2 < 256) : ∀ (n k : Nat) (a : aY) (i : Nat),i + n = g.f2.length → n + 45 ≤ k →
  fL.l0 g k a (i : Int) = some (match oy g w n a i with | some z=>Out.go z | none=>Out.ret false)
 | n,0,_,_,_,h=>by omega
 | 0,k + 1,a,i,h,hk=>by rw [fL.l0,if_neg (by omega)]; rfl
 | n + 1,k + 1,a,i,h,hk=>by
  have hi : i < g.f2.length:=by omega
  have ew : IntKind.i64.wrap ((i : Int) + 1) = ((i + 1 : Nat) : Int):=by rw [eV (by omega) (by omega)]; rfl
  have hci:=hc _ (List.getElem_mem hi)
  rw [← fa hi] at hci
  have ih:=uA g w hg hw h0 hc n k (rd g.f2 (i : Int)) (i + 1) (by omega) (by omega)
  rw [fL.l0,if_pos (by omega),if_pos (by omega),hw,if_pos (by omega),tm]
  have hm : kZ.f k (aY.mk (rd g.f2 (i : Int)).f0 (rd g.f2 (i : Int)).f1 (rd g.f2 (i : Int)).f2 (rd g.f2 (i : Int)).f3) = some (cv (rd g.f2 (i : Int))):=f84 _ hci.1 hci.2 k (by omega)
  have hf : fL.l0 g k (aY.mk (rd g.f2 (i : Int)).f0 (rd g.f2 (i : Int)).f1 (rd g.f2 (i : Int)).f2 (rd g.f2 (i : Int)).f3) ((i + 1 : Nat) : Int) = _:=ih
  rw [hm,ew,oy]
  simp only [lt,hf,Option.bind_some]
  rw [if_pos (c:=((w : Int)) ≠ 0) (by omega)]
  have l : (((i % w : Nat) : Int) = 0) ↔ i % w = 0:=by omega
  have m : (((i % w : Nat) : Int) > 0) ↔ 0 < i % w:=by omega
  unfold vV
  simp only [l,m]
  generalize rd g.f2 (i : Int) = c
  generalize oy g w n c (i + 1) = rr
  have zz : (i % w = 0) ↔ ¬ (0 < i % w):=by omega
  simp only [zz]
  cases hmc : cv c <;> by_cases b : c.f2 = 0 <;> by_cases h2 : 0 < i % w <;> by_cases d : a.f2 = 2 <;> by_cases j : c.f3 = a.f3 <;> simp [b,h2,d,j]
theorem EB (g : bH) (hg : g.f2.length ≤ 1048576) (hc : ∀ x ∈ g.f2,0 ≤ x.f2∧x.f2 < 256) (k : Nat) (hk : g.f2.length + 45 ≤ k) : fL.f k g = some (ct g):=by
 unfold fL.f
 have m : qF.f g.f0 g.f1 = some (decide (1 ≤ g.f0∧g.f0 ≤ 512∧1 ≤ g.f1∧g.f1 ≤ 512)):=by
  unfold qF.f; simp only [lt]; congr 1; rw [Bool.eq_iff_iff]; simp only [Bool.and_eq_true,decide_eq_true_eq]; omega
 rw [m]
 unfold ct
 by_cases hs : 1 ≤ g.f0∧g.f0 ≤ 512∧1 ≤ g.f1∧g.f1 ≤ 512
 ·obtain ⟨w,hw⟩ : ∃ w : Nat,g.f0 = (w : Int):=⟨g.f0.toNat,by omega⟩
  obtain ⟨v,hv⟩ : ∃ v : Nat,g.f1 = (v : Int):=⟨g.f1.toNat,by omega⟩
  have hwv : w * v ≤ 512 * 512:=Nat.mul_le_mul (by omega) (by omega)
  have em : IntKind.i64.wrap (g.f0 * g.f1) = ((w * v : Nat) : Int):=by
   rw [hw,hv,eV (by rw [← Int.natCast_mul]; omega) (by rw [← Int.natCast_mul]; omega)]; simp
  have o : g.f0 * g.f1 = ((w * v : Nat) : Int):=by rw [hw,hv]; simp
  rw [em,o]
  by_cases hl : g.f2.length = w * v
  ·have d:=uA g w hg hw (by omega) hc g.f2.length k c0 0 (by omega) hk
   rw [show ((0 : Nat) : Int) = 0 from rfl] at d
   have p : (aY.mk 0 (fX.mk 0 0 0) 1 (cM.mk 0 0 false false false false false false false false)) = c0:=rfl
   have hpos : 0 < g.f2.length:=by rw [hl]; exact Nat.mul_pos (by omega) (by omega)
   have same:=vm g w g.f2.length (by omega) hpos (by rw [hl,Nat.mul_mod_right])
   have r : g.f0.toNat = w:=by omega
   have a : decide (1 ≤ g.f0∧g.f0 ≤ 512∧1 ≤ g.f1∧g.f1 ≤ 512) = true:=decide_eq_true hs
   have l : decide (((g.f2.length : Nat) : Int) ≠ ((w * v : Nat) : Int)) = false:=by rw [hl]; simp
   have b : decide (1 ≤ g.f0∧g.f0 ≤ 512∧1 ≤ g.f1∧g.f1 ≤ 512∧((g.f2.length : Nat) : Int) = ((w * v : Nat) : Int)) = true:=decide_eq_true ⟨hs.1,hs.2.1,hs.2.2.1,hs.2.2.2,by rw [hl]⟩
   simp only [Option.bind_some,lt,a,l,b,p,d,Bool.not_true,Bool.or_self,Bool.false_eq_true,if_false,Bool.true_and,r]
   cases hr : oy g w g.f2.length c0 0 with
   | none =>
    have : ¬ ∀ i,i < g.f2.length → tQ g w i = true:=fun h=>by
     have h2:=(same.2 h).1
     have c:=mY g w g.f2.length c0 0 (fun j _ q=>h2 j (by omega))
     rw [hr] at c; cases c
    have hall : (List.range g.f2.length).all (tQ g w) = false:=by
     rw [Bool.eq_false_iff]; intro h; apply this; intro i hi; exact List.all_eq_true.1 h i (List.mem_range.2 hi)
    simp [Out.el,hall]
   | some z =>
    have hok:=sf g w g.f2.length c0 0 z hr
    have hz : z = pv g 0 c0 g.f2.length:=by
     have c:=mY g w g.f2.length c0 0 hok
     rw [hr,Nat.zero_add] at c; exact Option.some.inj c
    simp only [Option.bind_some,Out.el]
    congr 1
    rw [Bool.eq_iff_iff,decide_eq_true_eq,List.all_eq_true,hz]
    constructor
    ·intro h i hi; exact same.1 ⟨fun j hj=>hok j (by omega) (by omega),h⟩ i (List.mem_range.1 hi)
    ·intro h; exact (same.2 fun i hi=>h i (List.mem_range.2 hi)).2
  ·have a : decide (1 ≤ g.f0∧g.f0 ≤ 512∧1 ≤ g.f1∧g.f1 ≤ 512) = true:=decide_eq_true hs
   have l : decide (((g.f2.length : Nat) : Int) ≠ ((w * v : Nat) : Int)) = true:=decide_eq_true (by omega)
   have b : decide (1 ≤ g.f0∧g.f0 ≤ 512∧1 ≤ g.f1∧g.f1 ≤ 512∧((g.f2.length : Nat) : Int) = ((w * v : Nat) : Int)) = false:=decide_eq_false (fun h=>hl (by omega))
   simp only [Option.bind_some,lt,a,l,b,Bool.not_true,Bool.false_or,if_true,Bool.false_and]
 ·have a : decide (1 ≤ g.f0∧g.f0 ≤ 512∧1 ≤ g.f1∧g.f1 ≤ 512) = false:=decide_eq_false hs
  have b : decide (1 ≤ g.f0∧g.f0 ≤ 512∧1 ≤ g.f1∧g.f1 ≤ 512∧((g.f2.length : Nat) : Int) = g.f0 * g.f1) = false:=decide_eq_false (fun h=>hs ⟨h.1,h.2.1,h.2.2.1,h.2.2.2.1⟩)
  simp [lt,a,b]
theorem Du (g : bH) (w : Nat) (hg : g.f2.length ≤ 1048576) (hw : g.f0 = (w : Int)) (h0 : 0 < w) (h5 : w ≤ 512) (hc : ∀ x ∈ g.f2,0 ≤ x.f2∧x.f2 < 256) : ∀ (n k : Nat) (i : Nat),i + n = g.f2.length → n + 45 ≤ k →
  fA.l0 g k (i : Int) = some (if (List.range' i n).all (tQ g w) = true then Out.go () else Out.ret false)
 | n,0,_,_,h=>by omega
 | 0,k + 1,i,h,hk=>by rw [fA.l0,if_neg (by omega)]; rfl
 | n + 1,k + 1,i,h,hk=>by
  have hi : i < g.f2.length:=by omega
  have ew : IntKind.i64.wrap ((i : Int) + 1) = ((i + 1 : Nat) : Int):=by rw [eV (by omega) (by omega)]; rfl
  have l : IntKind.i64.wrap ((w : Int) - 1) = ((w - 1 : Nat) : Int):=by rw [eV (by omega) (by omega)]; omega
  have hci:=hc _ (List.getElem_mem hi)
  rw [← fa hi] at hci
  have hm : kA.f k (rd g.f2 (i : Int)) = some (cv (rd g.f2 (i : Int))):=BN _ hci.1 hci.2 k (by omega)
  have ih:=Du g w hg hw h0 h5 hc n k (i + 1) (by omega) (by omega)
  rw [fA.l0,if_pos (by omega),if_pos (by omega),hm,hw,tm,ew,l]
  simp only [lt,ih,Option.bind_some,List.range'_succ,List.all_cons]
  rw [if_pos (c:=((w : Int)) ≠ 0) (by omega),if_pos (c:=0 ≤ (i : Int)∧(i : Int) < (g.f2.length : Int)) (by omega),if_pos (c:=0 ≤ (i : Int)∧(i : Int) < (g.f2.length : Int)) (by omega)]
  generalize (List.range' (i + 1) n).all (tQ g w) = rr
  have s : (((i % w : Nat) : Int) > 0) ↔ 0 < i % w:=by omega
  have u : (((i % w : Nat) : Int) = ((w - 1 : Nat) : Int)) ↔ i % w = w - 1:=by omega
  unfold tQ
  simp only [s,u]
  have a : ¬ w = 0:=by omega
  by_cases h2 : 0 < i % w
  ·have y : 0 < i:=by
    rcases Nat.eq_zero_or_pos i with rfl | q
    ·simp at h2
    ·exact q
   have j : IntKind.i64.wrap ((i : Int) - 1) = ((i - 1 : Nat) : Int):=by rw [eV (by omega) (by omega)]; omega
   have hb : 0 ≤ ((i - 1 : Nat) : Int)∧((i - 1 : Nat) : Int) < (g.f2.length : Int):=by omega
   have m : 0 ≤ (i : Int)∧(i : Int) < (g.f2.length : Int):=by omega
   simp only [j,if_pos hb,if_pos m,h2,if_true,decide_true]
   generalize rd g.f2 (i : Int) = c
   generalize rd g.f2 ((i - 1 : Nat) : Int) = p
   cases hmc : cv c <;> by_cases b : c.f2 = 0 <;> by_cases o : p.f2 = 2 <;> by_cases r : c.f3 = p.f3 <;> by_cases h5 : c.f2 = 2 <;> by_cases d : i % w = w - 1 <;> simp [b,h2,o,r,h5,d,a]
  ·simp only [h2,if_false,decide_false]
   generalize rd g.f2 (i : Int) = c
   cases hmc : cv c <;> by_cases b : c.f2 = 0 <;> by_cases h5 : c.f2 = 2 <;> by_cases d : i % w = w - 1 <;> simp [b,h2,h5,d,a,hi]
theorem Ey (g : bH) (hg : g.f2.length ≤ 1048576) (hc : ∀ x ∈ g.f2,0 ≤ x.f2∧x.f2 < 256) (k : Nat) (hk : g.f2.length + 45 ≤ k) : fA.f k g = some (ct g):=by
 unfold fA.f
 have o : oU.f g.f0 = some (decide (1 ≤ g.f0∧g.f0 ≤ 512)):=by
  unfold oU.f; simp only [lt]; congr 1; rw [Bool.eq_iff_iff]; simp only [Bool.and_eq_true,decide_eq_true_eq]
 have p : oU.f g.f1 = some (decide (1 ≤ g.f1∧g.f1 ≤ 512)):=by
  unfold oU.f; simp only [lt]; congr 1; rw [Bool.eq_iff_iff]; simp only [Bool.and_eq_true,decide_eq_true_eq]
 rw [o,p]
 unfold ct
 by_cases hs : 1 ≤ g.f0∧g.f0 ≤ 512
 ·by_cases ht : 1 ≤ g.f1∧g.f1 ≤ 512
  ·obtain ⟨w,hw⟩ : ∃ w : Nat,g.f0 = (w : Int):=⟨g.f0.toNat,by omega⟩
   obtain ⟨v,hv⟩ : ∃ v : Nat,g.f1 = (v : Int):=⟨g.f1.toNat,by omega⟩
   have hwv : w * v ≤ 512 * 512:=Nat.mul_le_mul (by omega) (by omega)
   have em : IntKind.i64.wrap (g.f0 * g.f1) = ((w * v : Nat) : Int):=by
    rw [hw,hv,eV (by rw [← Int.natCast_mul]; omega) (by rw [← Int.natCast_mul]; omega)]; simp
   have l : g.f0 * g.f1 = ((w * v : Nat) : Int):=by rw [hw,hv]; simp
   rw [em,l]
   have m : g.f0.toNat = w:=by omega
   have d:=Du g w hg hw (by omega) (by omega) hc g.f2.length k 0 (by omega) hk
   rw [show ((0 : Nat) : Int) = 0 from rfl,← List.range_eq_range'] at d
   have b : decide (1 ≤ g.f0∧g.f0 ≤ 512) = true:=decide_eq_true hs
   have c : decide (1 ≤ g.f1∧g.f1 ≤ 512) = true:=decide_eq_true ht
   by_cases hl : g.f2.length = w * v
   ·have j : decide (((g.f2.length : Nat) : Int) ≠ ((w * v : Nat) : Int)) = false:=by rw [hl]; simp
    have a : decide (1 ≤ g.f0∧g.f0 ≤ 512∧1 ≤ g.f1∧g.f1 ≤ 512∧((g.f2.length : Nat) : Int) = ((w * v : Nat) : Int)) = true:=decide_eq_true ⟨hs.1,hs.2,ht.1,ht.2,by rw [hl]⟩
    simp only [Option.bind_some,lt,b,c,j,a,d,m]
    cases (List.range g.f2.length).all (tQ g w) <;> simp [Out.el]
   ·have j : decide (((g.f2.length : Nat) : Int) ≠ ((w * v : Nat) : Int)) = true:=decide_eq_true (by omega)
    have a : decide (1 ≤ g.f0∧g.f0 ≤ 512∧1 ≤ g.f1∧g.f1 ≤ 512∧((g.f2.length : Nat) : Int) = ((w * v : Nat) : Int)) = false:=decide_eq_false (fun h=>hl (by omega))
    simp only [Option.bind_some,lt,b,c,j,a,Bool.not_true,Bool.false_eq_true,if_false,Bool.false_or,if_true,Bool.false_and]
  ·have b : decide (1 ≤ g.f0∧g.f0 ≤ 512) = true:=decide_eq_true hs
   have c : decide (1 ≤ g.f1∧g.f1 ≤ 512) = false:=decide_eq_false ht
   have a : decide (1 ≤ g.f0∧g.f0 ≤ 512∧1 ≤ g.f1∧g.f1 ≤ 512∧((g.f2.length : Nat) : Int) = g.f0 * g.f1) = false:=decide_eq_false (fun h=>ht ⟨h.2.2.1,h.2.2.2.1⟩)
   simp [lt,b,c,a]
 ·have b : decide (1 ≤ g.f0∧g.f0 ≤ 512) = false:=decide_eq_false hs
  have a : decide (1 ≤ g.f0∧g.f0 ≤ 512∧1 ≤ g.f1∧g.f1 ≤ 512∧((g.f2.length : Nat) : Int) = g.f0 * g.f1) = false:=decide_eq_false (fun h=>hs ⟨h.1,h.2.1⟩)
  simp [lt,b,a]
end Go.Proofs.YtckilbegmbaeeaaGreat.Z6May

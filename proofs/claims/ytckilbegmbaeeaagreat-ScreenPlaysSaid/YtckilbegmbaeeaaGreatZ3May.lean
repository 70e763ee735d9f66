import Derived.Test.YtckilbegmbaeeaaGreatZ3
import Derived.Test.YtckilbegmbaeeaaGreatZ3S1
namespace Go.Proofs.YtckilbegmbaeeaaGreat.Z3May
open Go Go.RowKit Go.Proofs.YtckilbegmbaeeaaGreat.SL Go.Proofs.YtckilbegmbaeeaaGreat.Z3
set_option linter.unusedVariables false
set_option linter.unusedSimpArgs false
def fe : List aY:=qJ.f.getD []
def gI : List aY:=qY.f.getD []
def uN : List bS:=rc.f.getD []
def vy : List bS:=rj.f.getD []
def pz (l : List (Int × Int)) (c : Int) : Bool:=l.any fun p=>decide (p.1 ≤ c) && decide (c ≤ p.2)
def wT : List (Int × Int):=fe.map fun s=>(s.f0,s.f1)
def zT : List (Int × Int):=gI.map fun s=>(s.f0,s.f1)
theorem FI : (uN.map fun s=>(s.f0,s.f1)) = wT:=by decide +kernel
theorem Gq : (vy.map fun s=>(s.f0,s.f1)) = zT:=by decide +kernel
theorem ug {p : Int × Int} {l : List (Int × Int)} {c : Int} : pz (p::l) c = (decide (p.1 ≤ c) && decide (c ≤ p.2) || pz l c):=rfl
theorem wk {l : List aY} {c : Int} (h : ∀ (i : Nat) (hi : i < l.length),¬ (l[i].f0 ≤ c∧c ≤ l[i].f1)) : pz (l.map fun s=>(s.f0,s.f1)) c = false:=by
 unfold pz
 rw [List.any_eq_false]
 intro p hp
 obtain ⟨s,hs,rfl⟩:=List.mem_map.1 hp
 obtain ⟨i,hi,rfl⟩:=List.getElem_of_mem hs
 have:=h i hi
 simp only [Bool.and_eq_true,decide_eq_true_eq]
 exact this
theorem vt {l : List aY} {c : Int} {i : Nat} (hi : i < l.length) (h : l[i].f0 ≤ c∧c ≤ l[i].f1) : pz (l.map fun s=>(s.f0,s.f1)) c = true:=by
 unfold pz
 rw [List.any_eq_true]
 exact ⟨(l[i].f0,l[i].f1),List.mem_map.2 ⟨l[i],List.getElem_mem hi,rfl⟩,by simp only [Bool.and_eq_true,decide_eq_true_eq]; exact h⟩
theorem ws (l : List aY) (c : Int) (hl : l.length ≤ 1048576) (S : ∀ (i j : Nat) (hi : i < l.length) (hj : j < l.length),i < j → l[i].f1 < l[j].f0) (R : ∀ (i : Nat) (hi : i < l.length),l[i].f0 ≤ l[i].f1) :
  ∀ (n k : Nat) (lo hi : Nat),hi - lo ≤ n → n < k → lo ≤ hi → hi ≤ l.length → (∀ (i : Nat) (h : i < l.length),i < lo → l[i].f1 < c) → (∀ (i : Nat) (h : i < l.length),hi ≤ i → c < l[i].f0) →
   ll.l0 l c k (lo : Int) (hi : Int) = some (if pz (l.map fun s=>(s.f0,s.f1)) c = true then Out.ret true else Out.go ())
 | n,0,_,_,_,h,_,_,_,_=>by omega
 | n,k + 1,lo,hi,h1,h2,h3,h4,ha,hb=>by
  rw [ll.l0]
  by_cases hlt : lo < hi
  ·rw [if_pos (by omega)]
   have e1 : eX .u64 (IntKind.u64.wrap ((lo : Int) + (hi : Int))) 1 = (((lo + hi) / 2 : Nat) : Int):=by
    rw [uT,Int.emod_eq_of_lt (by omega) (by omega),show (1 : Int) = ((1 : Nat) : Int) from rfl,rZ _ _ 1 (by decide)]
    simp
   have hm : (lo + hi) / 2 < l.length:=by omega
   simp only [lt,e1]
   rw [if_pos (by omega),eQ hm]
   obtain ⟨m,rfl⟩ : ∃ m,n = m + 1:=⟨n - 1,by omega⟩
   by_cases hc : c < l[(lo + hi) / 2].f0
   ·rw [if_pos hc]
    refine ws l c hl S R m k lo ((lo + hi) / 2) (by omega) (by omega) (by omega) (by omega) ha (fun i h hi'=>?_)
    rcases Nat.lt_or_ge ((lo + hi) / 2) i with q | q
    ·have:=S _ _ hm h q; have:=R _ hm; omega
    ·obtain rfl : i = (lo + hi) / 2:=by omega
     exact hc
   ·rw [if_neg hc,if_pos (by omega)]
    by_cases hd : c > l[(lo + hi) / 2].f1
    ·rw [if_pos hd]
     have e2 : IntKind.u64.wrap ((((lo + hi) / 2 : Nat) : Int) + 1) = (((lo + hi) / 2 + 1 : Nat) : Int):=by
      rw [uT,Int.emod_eq_of_lt (by omega) (by omega)]; simp
     rw [e2]
     refine ws l c hl S R m k ((lo + hi) / 2 + 1) hi (by omega) (by omega) (by omega) h4 (fun i h hi'=>?_) hb
     rcases Nat.lt_or_ge i ((lo + hi) / 2) with q | q
     ·have:=S _ _ h hm q; have:=R _ hm; omega
     ·obtain rfl : i = (lo + hi) / 2:=by omega
      exact hd
    ·rw [if_neg hd,vt hm ⟨by omega,by omega⟩]; rfl
  ·rw [if_neg (by omega),wk (fun i h q=>by
    rcases Nat.lt_or_ge i lo with p | p
    ·have:=ha i h p; omega
    ·have:=hb i h (by omega); omega)]
   rfl
theorem xY (l : List aY) (c : Int) (hl : l.length ≤ 1048576) (S : List.Pairwise (fun a b : aY=>a.f1 < b.f0) l) (R : ∀ s ∈ l,s.f0 ≤ s.f1) (k : Nat) (hk : l.length < k) : ll.f k l c = some (pz (l.map fun s=>(s.f0,s.f1)) c):=by
 have e : IntKind.u64.wrap (l.length : Int) = (l.length : Int):=by rw [uT,Int.emod_eq_of_lt (by omega) (by omega)]
 have h:=ws l c hl (fun i j hi hj hij=>List.pairwise_iff_getElem.1 S i j hi hj hij) (fun i hi=>R _ (List.getElem_mem hi)) l.length k 0 l.length (by omega) hk (by omega) (by omega) (fun i h q=>by omega) (fun i h q=>by omega)
 rw [show ((0 : Nat) : Int) = 0 from rfl] at h
 unfold ll.f
 simp only [lt,e,h]
 cases pz (l.map fun s=>(s.f0,s.f1)) c <;> rfl
def ctl (c : Int) : Bool:=decide (c < 32) || (decide (c ≥ 127) && decide (c ≤ 159)) || decide (c > 1114111) || (decide (c ≥ 55296) && decide (c ≤ 57343))
def gA (c : Int) : Int:=if ctl c = true then -1 else if pz zT c = true then 0 else if pz wT c = true then 2 else 1
theorem qu (c : Int) (k : Nat) (hk : 40 ≤ k) : lZ.f k c = some (gA c):=by
 have e1 : qJ.f = some fe:=rfl
 have e2 : qY.f = some gI:=rfl
 have lw : fe.length = 37:=by decide +kernel
 have lz : gI.length = 26:=by decide +kernel
 have hw:=xY fe c (by rw [lw]; decide) (by decide +kernel) (by decide +kernel) k (by rw [lw]; omega)
 have hz:=xY gI c (by rw [lz]; decide) (by decide +kernel) (by decide +kernel) k (by rw [lz]; omega)
 have ew : [rd fe 0,rd fe 1,rd fe 2,rd fe 3,rd fe 4,rd fe 5,rd fe 6,rd fe 7,rd fe 8,rd fe 9,rd fe 10,rd fe 11,rd fe 12,rd fe 13,rd fe 14,rd fe 15,rd fe 16,rd fe 17,rd fe 18,rd fe 19,rd fe 20,rd fe 21,rd fe 22,rd fe 23,rd fe 24,rd fe 25,rd fe 26,rd fe 27,rd fe 28,rd fe 29,rd fe 30,rd fe 31,rd fe 32,rd fe 33,rd fe 34,rd fe 35,rd fe 36] = fe:=by decide +kernel
 have ez : [rd gI 0,rd gI 1,rd gI 2,rd gI 3,rd gI 4,rd gI 5,rd gI 6,rd gI 7,rd gI 8,rd gI 9,rd gI 10,rd gI 11,rd gI 12,rd gI 13,rd gI 14,rd gI 15,rd gI 16,rd gI 17,rd gI 18,rd gI 19,rd gI 20,rd gI 21,rd gI 22,rd gI 23,rd gI 24,rd gI 25] = gI:=by decide +kernel
 unfold lZ.f
 rw [e1,e2]
 simp only [Option.bind_some,ew,ez,hw,hz,lt]
 unfold gA ctl wT zT
 by_cases h1 : c < 32
 ·simp [h1]
 ·by_cases h2 : c ≥ 127 <;> by_cases h3 : c ≤ 159 <;> by_cases h4 : c > 1114111 <;> by_cases h5 : c ≥ 55296 <;> by_cases h6 : c ≤ 57343 <;> simp [h1,h2,h3,h4,h5,h6] <;> (cases pz (gI.map fun s=>(s.f0,s.f1)) c <;> cases pz (fe.map fun s=>(s.f0,s.f1)) c <;> simp)
theorem yv (l : List bS) (c : Int) (hl : l.length ≤ 1048576) : ∀ (n k : Nat) (i : Nat),i + n = l.length → n < k →
  gf.l0 l c k (i : Int) = some (if pz ((l.drop i).map fun s=>(s.f0,s.f1)) c = true then Out.ret true else Out.go ())
 | n,0,_,_,h=>by omega
 | 0,k + 1,i,h,hk=>by rw [gf.l0,if_neg (by omega),List.drop_of_length_le (by omega)]; rfl
 | n + 1,k + 1,i,h,hk=>by
  have hi : i < l.length:=by omega
  have ew : IntKind.i64.wrap ((i : Int) + 1) = ((i + 1 : Nat) : Int):=by rw [eO (by omega) (by omega)]; rfl
  rw [gf.l0,if_pos (by omega),if_pos (by omega),eQ hi,List.drop_eq_getElem_cons hi,if_pos (c:=0 ≤ (i : Int)∧(i : Int) < (l.length : Int)) (by omega)]
  simp only [lt,ew]
  rw [yv l c hl n k (i + 1) (by omega) (by omega),List.map_cons,ug]
  generalize pz ((List.drop (i + 1) l).map fun s=>(s.f0,s.f1)) c = b
  generalize l[i] = s
  by_cases h1 : s.f0 ≤ c <;> by_cases h2 : c ≤ s.f1 <;> simp [h1,h2]
theorem xZ (l : List bS) (c : Int) (hl : l.length ≤ 1048576) (k : Nat) (hk : l.length < k) : gf.f k l c = some (pz (l.map fun s=>(s.f0,s.f1)) c):=by
 have h:=yv l c hl l.length k 0 (by omega) hk
 rw [show ((0 : Nat) : Int) = 0 from rfl,List.drop_zero] at h
 unfold gf.f
 rw [h]
 cases pz (l.map fun s=>(s.f0,s.f1)) c <;> rfl
theorem qn (c : Int) (k : Nat) (hk : 40 ≤ k) : rt.f k c = some (gA c):=by
 have e1 : rc.f = some uN:=rfl
 have e2 : rj.f = some vy:=rfl
 have lw : uN.length = 37:=by decide +kernel
 have lz : vy.length = 26:=by decide +kernel
 have hw:=xZ uN c (by rw [lw]; decide) k (by rw [lw]; omega)
 have hz:=xZ vy c (by rw [lz]; decide) k (by rw [lz]; omega)
 rw [FI] at hw
 rw [Gq] at hz
 unfold rt.f
 rw [e1,e2]
 simp only [Option.bind_some,hw,hz,lt]
 unfold gA ctl
 by_cases h1 : c < 32
 ·simp [h1]
 ·by_cases h2 : c ≥ 127 <;> by_cases h3 : c ≤ 159 <;> by_cases h4 : c > 1114111 <;> by_cases h5 : c ≥ 55296 <;> by_cases h6 : c ≤ 57343 <;> simp [h1,h2,h3,h4,h5,h6] <;> (cases pz zT c <;> cases pz wT c <;> simp)
def ql (n : Int) : Bool:=decide (-1 ≤ n) && decide (n ≤ 255)
def cd (s : cA) : Bool:=ql s.f0 && ql s.f1
theorem xC (s : cA) : qf.f s = some (cd s):=by
 unfold qf.f pU.f cd ql
 simp only [lt,Option.bind_some]
 by_cases h : (decide (s.f0 ≥ -1) && decide (s.f0 ≤ 255)) = true
 ·rw [if_pos h]; simp only [Option.bind_some,ge_iff_le] at h ⊢; rw [h]; simp
 ·rw [if_neg h]; simp only [Option.bind_some,ge_iff_le] at h ⊢; simp only [Bool.not_eq_true] at h; rw [h]; simp
theorem yq (s : cA) : qR.f s = some (cd s):=by
 unfold qR.f qd.f cd ql
 simp only [lt,Option.bind_some]
 by_cases h : (decide (s.f0 ≥ -1) && decide (s.f0 ≤ 255)) = true
 ·rw [if_pos h]; simp only [Option.bind_some,ge_iff_le] at h ⊢; rw [h]; simp
 ·rw [if_neg h]; simp only [Option.bind_some,ge_iff_le] at h ⊢; simp only [Bool.not_eq_true] at h; rw [h]; simp
def gk (a b c : Int) : Bool:=if a = 0 then decide (b = 0) && decide (c = 0) else if b = 0 then decide (gA a = 0) && decide (c = 0) else decide (gA a = 0) && decide (gA b = 0) && (decide (c = 0) || decide (gA c = 0))
def cm (x : aZ) : Bool :=
 if cd x.f3 = false then false else if x.f2 = 0 then decide (x.f0 = 0) && decide (x.f1 = fR.mk 0 0 0)
 else if x.f2 > 2 then false else if gA x.f0 = x.f2 then gk x.f1.f0 x.f1.f1 x.f1.f2 else false
theorem w8 {x : Int} (h0 : 0 ≤ x) (h1 : x < 256) : IntKind.i64.wrap x = x:=eO (by omega) (by omega)
theorem oU (a b c : Int) : rd [a,b,c] 0 = a:=rfl
theorem jH (a b c : Int) : rd [a,b,c] 1 = b:=rfl
theorem nv (a b c : Int) : rd [a,b,c] 2 = c:=rfl
theorem xP : IntKind.i64.wrap (0 + 1) = 1:=by decide
theorem zb : IntKind.i64.wrap (1 + 1) = 2:=by decide
theorem zD : IntKind.i64.wrap (2 + 1) = 3:=by decide
theorem Er (x : aZ) (k : Nat) (hk : 44 ≤ k) : lg.l0 x k false 0 = some (if gk x.f1.f0 x.f1.f1 x.f1.f2 = true then Out.go () else Out.ret false):=by
 obtain ⟨k,rfl⟩ : ∃ j,k = j + 4:=⟨k - 4,by omega⟩
 have w:=fun c=>qu c k (by omega)
 have w1:=fun c=>qu c (k + 1) (by omega)
 have w2:=fun c=>qu c (k + 2) (by omega)
 have w3:=fun c=>qu c (k + 3) (by omega)
 unfold gk
 simp only [lg.l0,lt,oU,jH,nv,xP,zb,zD,w,w1,w2,w3,Option.bind_some]
 by_cases ha : x.f1.f0 = 0 <;> by_cases hb : x.f1.f1 = 0 <;> by_cases hc : x.f1.f2 = 0 <;> by_cases a0 : gA x.f1.f0 = 0 <;> by_cases b0 : gA x.f1.f1 = 0 <;> by_cases c0 : gA x.f1.f2 = 0 <;> simp [ha,hb,hc,a0,b0,c0]
theorem FK (x : aZ) (k : Nat) (hk : 44 ≤ k) : kU.l0 x k 0 = some (if gk x.f1.f0 x.f1.f1 x.f1.f2 = true then Out.go () else Out.ret false):=by
 obtain ⟨k,rfl⟩ : ∃ j,k = j + 4:=⟨k - 4,by omega⟩
 have w:=fun c=>qn c k (by omega)
 have w1:=fun c=>qn c (k + 1) (by omega)
 have w2:=fun c=>qn c (k + 2) (by omega)
 have w3:=fun c=>qn c (k + 3) (by omega)
 unfold gk
 simp only [kU.l0,lt,oU,jH,nv,xP,zb,zD,w,w1,w2,w3,Option.bind_some]
 by_cases ha : x.f1.f0 = 0 <;> by_cases hb : x.f1.f1 = 0 <;> by_cases hc : x.f1.f2 = 0 <;> by_cases a0 : gA x.f1.f0 = 0 <;> by_cases b0 : gA x.f1.f1 = 0 <;> by_cases c0 : gA x.f1.f2 = 0 <;> simp [ha,hb,hc,a0,b0,c0]
theorem f84 (x : aZ) (h0 : 0 ≤ x.f2) (h1 : x.f2 < 256) (k : Nat) (hk : 44 ≤ k) : lg.f k x = some (cm x):=by
 unfold lg.f cm
 rw [xC,qu x.f0 k (by omega),Er x k hk,w8 h0 h1]
 simp only [Option.bind_some,lt]
 cases cd x.f3
 ·simp
 ·by_cases h2 : x.f2 = 0
  ·simp [h2]
  ·by_cases h3 : x.f2 > 2
   ·simp [h2,h3]
   ·by_cases h4 : gA x.f0 = x.f2
    ·cases hm : gk x.f1.f0 x.f1.f1 x.f1.f2 <;> simp [h2,h3,h4,hm,Out.el]
    ·simp [h2,h3,h4]
theorem De (x : aZ) (h0 : 0 ≤ x.f2) (h1 : x.f2 < 256) (k : Nat) (hk : 44 ≤ k) : kU.f k x = some (cm x):=by
 unfold kU.f cm
 rw [yq,qn x.f0 k (by omega),FK x k hk,w8 h0 h1]
 simp only [Option.bind_some,lt]
 cases cd x.f3
 ·simp
 ·by_cases h2 : x.f2 = 0
  ·simp [h2]
  ·by_cases h3 : x.f2 > 2
   ·simp [h2,h3]
   ·by_cases h4 : gA x.f0 = x.f2
    ·cases hm : gk x.f1.f0 x.f1.f1 x.f1.f2 <;> simp [h2,h3,h4,hm,Out.el]
    ·simp [h2,h3,h4]
theorem pt (i w : Nat) (hw : 0 < w) : (i + 1) % w = if i % w = w - 1 then 0 else i % w + 1:=by
 have h1:=Nat.mod_lt i hw
 have h2:=Nat.div_add_mod i w
 split
 ·rename_i h
  have : i + 1 = w * (i / w + 1):=by rw [Nat.mul_add]; omega
  rw [this,Nat.mul_mod_right]
 ·rename_i h
  have : i + 1 = (i % w + 1) + w * (i / w):=by omega
  rw [this,Nat.add_mul_mod_self_left,Nat.mod_eq_of_lt (by omega)]
def tQ (g : bF) (w i : Nat) : Bool :=
 cm (rd g.f2 (i : Int)) && (decide ((rd g.f2 (i : Int)).f2 = 0) == (decide (0 < i % w) && decide ((rd g.f2 ((i - 1 : Nat) : Int)).f2 = 2))) &&
 (!(decide (0 < i % w) && decide ((rd g.f2 ((i - 1 : Nat) : Int)).f2 = 2)) || decide ((rd g.f2 (i : Int)).f3 = (rd g.f2 ((i - 1 : Nat) : Int)).f3)) &&
 !(decide ((rd g.f2 (i : Int)).f2 = 2) && decide (i % w = w - 1))
def wa (g : bF) (w : Nat) (a : aZ) (i : Nat) : Bool :=
 !(decide (i % w = 0) && decide (a.f2 = 2)) && cm (rd g.f2 (i : Int)) &&
 (decide (a.f2 = 2) == (decide ((rd g.f2 (i : Int)).f2 = 0) && decide ((rd g.f2 (i : Int)).f3 = a.f3) && decide (0 < i % w))) &&
 (!(decide ((rd g.f2 (i : Int)).f2 = 0)) || (decide ((rd g.f2 (i : Int)).f2 = 0) && decide ((rd g.f2 (i : Int)).f3 = a.f3) && decide (0 < i % w)))
theorem kE (g : bF) (w i : Nat) : tQ g w i = true ↔ cm (rd g.f2 (i : Int)) = true∧((rd g.f2 (i : Int)).f2 = 0 ↔ (0 < i % w∧(rd g.f2 ((i - 1 : Nat) : Int)).f2 = 2)) ∧
  ((0 < i % w∧(rd g.f2 ((i - 1 : Nat) : Int)).f2 = 2) → (rd g.f2 (i : Int)).f3 = (rd g.f2 ((i - 1 : Nat) : Int)).f3)∧¬ ((rd g.f2 (i : Int)).f2 = 2∧i % w = w - 1):=by
 unfold tQ
 generalize rd g.f2 (i : Int) = c
 generalize rd g.f2 ((i - 1 : Nat) : Int) = p
 by_cases h1 : c.f2 = 0 <;> by_cases h2 : 0 < i % w <;> by_cases h3 : p.f2 = 2 <;> by_cases h4 : c.f3 = p.f3 <;> by_cases h5 : c.f2 = 2 <;> by_cases h6 : i % w = w - 1 <;> simp [h1,h2,h3,h4,h5,h6,and_assoc]
theorem pG (g : bF) (w : Nat) (a : aZ) (i : Nat) : wa g w a i = true ↔ ¬ (i % w = 0∧a.f2 = 2)∧cm (rd g.f2 (i : Int)) = true∧(a.f2 = 2 ↔ ((rd g.f2 (i : Int)).f2 = 0∧(rd g.f2 (i : Int)).f3 = a.f3∧0 < i % w)) ∧
  ((rd g.f2 (i : Int)).f2 = 0 → ((rd g.f2 (i : Int)).f3 = a.f3∧0 < i % w)):=by
 unfold wa
 generalize rd g.f2 (i : Int) = c
 by_cases h1 : c.f2 = 0 <;> by_cases h2 : 0 < i % w <;> by_cases h3 : a.f2 = 2 <;> by_cases h4 : c.f3 = a.f3 <;> by_cases h5 : i % w = 0 <;> simp [h1,h2,h3,h4,h5]
def oF (g : bF) (w : Nat) : Nat → aZ → Nat → Option aZ
 | 0,a,_=>some a
 | n + 1,a,i=>if wa g w a i = true then oF g w n (rd g.f2 (i : Int)) (i + 1) else none
def pv (g : bF) (i : Nat) (a : aZ) (j : Nat) : aZ:=if j = i then a else rd g.f2 ((j - 1 : Nat) : Int)
theorem mQ (g : bF) (w : Nat) : ∀ (n : Nat) (a : aZ) (i : Nat),(∀ j,i ≤ j → j < i + n → wa g w (pv g i a j) j = true) → oF g w n a i = some (pv g i a (i + n))
 | 0,a,i,_=>by simp [oF,pv]
 | n + 1,a,i,h=>by
  have h0:=h i (Nat.le_refl _) (by omega)
  unfold pv at h0
  rw [if_pos rfl] at h0
  rw [oF,if_pos h0,mQ g w n _ (i + 1) (fun j h1 h2=>by
   have:=h j (by omega) (by omega)
   unfold pv at this ⊢
   rw [if_neg (by omega)] at this
   by_cases hj : j = i + 1
   ·subst hj; rw [if_pos rfl]; exact this
   ·rw [if_neg hj]; exact this)]
  unfold pv
  by_cases hn : n = 0
  ·subst hn; rw [if_pos (by omega),if_neg (by omega)]; rfl
  ·rw [if_neg (by omega),if_neg (by omega),show i + 1 + n = i + (n + 1) from by omega]
theorem rR (g : bF) (w : Nat) : ∀ (n : Nat) (a : aZ) (i : Nat) (z : aZ),oF g w n a i = some z → ∀ j,i ≤ j → j < i + n → wa g w (pv g i a j) j = true
 | 0,a,i,z,_,j,h1,h2=>by omega
 | n + 1,a,i,z,h,j,h1,h2=>by
  rw [oF] at h
  by_cases hk : wa g w a i = true
  ·rw [if_pos hk] at h
   by_cases hj : j = i
   ·subst hj; unfold pv; rw [if_pos rfl]; exact hk
   ·have:=rR g w n _ (i + 1) z h j (by omega) (by omega)
    unfold pv at this ⊢
    rw [if_neg hj]
    by_cases hj2 : j = i + 1
    ·subst hj2; rw [if_pos rfl] at this; exact this
    ·rw [if_neg hj2] at this; exact this
  ·rw [if_neg hk] at h; cases h
def c0 : aZ:=aZ.mk 0 (fR.mk 0 0 0) 1 (cA.mk 0 0 false false false false false false false false)
theorem uS (g : bF) (w n : Nat) (hw : 0 < w) (hn : 0 < n) (hl : n % w = 0) : ((∀ j,j < n → wa g w (pv g 0 c0 j) j = true)∧(pv g 0 c0 n).f2 ≠ 2) ↔ ∀ i,i < n → tQ g w i = true:=by
 have p0 : pv g 0 c0 0 = c0:=rfl
 have pp : ∀ j,0 < j → pv g 0 c0 j = rd g.f2 ((j - 1 : Nat) : Int):=fun j h=>by unfold pv; rw [if_neg (by omega)]
 have c2 : c0.f2 = 1:=rfl
 constructor
 ·rintro ⟨hp,hz⟩ i hi
  have h1:=(pG g w _ i).1 (hp i hi)
  rw [kE]
  have last : ¬ ((rd g.f2 (i : Int)).f2 = 2∧i % w = w - 1):=by
   rintro ⟨q1,q2⟩
   by_cases hi1 : i + 1 < n
   ·have h2:=(pG g w _ (i + 1)).1 (hp (i + 1) hi1)
    rw [pp (i + 1) (by omega),show i + 1 - 1 = i from rfl] at h2
    exact h2.1 ⟨by rw [pt i w hw,if_pos q2],q1⟩
   ·obtain rfl : n = i + 1:=by omega
    rw [pp (i + 1) (by omega),show i + 1 - 1 = i from rfl] at hz
    exact hz q1
  rcases Nat.eq_zero_or_pos i with rfl | hpos
  ·rw [p0,c2] at h1
   simp only [Nat.zero_mod] at h1 ⊢
   refine ⟨h1.2.1,?_,fun h=>by omega,by simpa using last⟩
   constructor
   ·intro h; have:=(h1.2.2.2 h).2; omega
   ·rintro ⟨h,_⟩; omega
  ·rw [pp i hpos] at h1
   refine ⟨h1.2.1,?_,fun h=>(h1.2.2.1.1 h.2).2.1,last⟩
   constructor
   ·intro h; have h3:=h1.2.2.2 h; exact ⟨h3.2,h1.2.2.1.2 ⟨h,h3.1,h3.2⟩⟩
   ·rintro ⟨_,h⟩; exact (h1.2.2.1.1 h).1
 ·intro hr
  refine ⟨fun j hj=>?_,?_⟩
  ·have h1:=(kE g w j).1 (hr j hj)
   rw [pG]
   rcases Nat.eq_zero_or_pos j with rfl | hpos
   ·rw [p0,c2]
    simp only [Nat.zero_mod] at h1 ⊢
    have h0 : ¬ (rd g.f2 ((0 : Nat) : Int)).f2 = 0:=fun h=>by have:=(h1.2.1.1 h).1; omega
    refine ⟨by omega,h1.1,?_,fun h=>absurd h h0⟩
    constructor
    ·intro h; omega
    ·rintro ⟨h,_⟩; exact absurd h h0
   ·rw [pp j hpos]
    have h2:=(kE g w (j - 1)).1 (hr (j - 1) (by omega))
    have hm:=pt (j - 1) w hw
    rw [show j - 1 + 1 = j from by omega] at hm
    have na : ¬ (j % w = 0∧(rd g.f2 ((j - 1 : Nat) : Int)).f2 = 2):=by
     rintro ⟨q1,q2⟩
     refine h2.2.2.2 ⟨q2,?_⟩
     rw [q1] at hm
     by_cases hq : (j - 1) % w = w - 1
     ·exact hq
     ·rw [if_neg hq] at hm; omega
    refine ⟨na,h1.1,?_,fun h=>?_⟩
    ·constructor
     ·intro h
      have hj0 : 0 < j % w:=by
       rcases Nat.eq_zero_or_pos (j % w) with q | q
       ·exact absurd ⟨q,h⟩ na
       ·exact q
      exact ⟨h1.2.1.2 ⟨hj0,h⟩,h1.2.2.1 ⟨hj0,h⟩,hj0⟩
     ·rintro ⟨h,_,_⟩; exact (h1.2.1.1 h).2
    ·have h3:=h1.2.1.1 h
     exact ⟨h1.2.2.1 h3,h3.1⟩
  ·rw [pp n hn]
   intro h
   have h2:=(kE g w (n - 1)).1 (hr (n - 1) (by omega))
   refine h2.2.2.2 ⟨h,?_⟩
   have hm:=pt (n - 1) w hw
   rw [show n - 1 + 1 = n from by omega,hl] at hm
   by_cases hq : (n - 1) % w = w - 1
   ·exact hq
   ·rw [if_neg hq] at hm; omega
def ci (g : bF) : Bool:=decide (1 ≤ g.f0∧g.f0 ≤ 512∧1 ≤ g.f1∧g.f1 ≤ 512∧(g.f2.length : Int) = g.f0 * g.f1) && (List.range g.f2.length).all (tQ g g.f0.toNat)
theorem tm (i w : Nat) : ((i : Int)).tmod (w : Int) = ((i % w : Nat) : Int):=by rw [Int.tmod_eq_emod_of_nonneg (by omega)]; simp
theorem uz (g : bF) (w : Nat) (hg : g.f2.length ≤ 1048576) (hw : g.f0 = (w : Int)) (h0 : 0 < w) (hc : ∀ x ∈ g.f2,0 ≤ x.f2∧x.f2 < 256) : ∀ (n k : Nat) (a : aZ) (i : Nat),i + n = g.f2.length → n + 45 ≤ k →
  fJ.l0 g k a (i : Int) = some (match oF g w n a i with | some z=>Out.go z | none=>Out.ret false)
 | n,0,_,_,_,h=>by omega
 | 0,k + 1,a,i,h,hk=>by rw [fJ.l0,if_neg (by omega)]; rfl
 | n + 1,k + 1,a,i,h,hk=>by
  have hi : i < g.f2.length:=by omega
  have ew : IntKind.i64.wrap ((i : Int) + 1) = ((i + 1 : Nat) : Int):=by rw [eO (by omega) (by omega)]; rfl
  have hci:=hc _ (List.getElem_mem hi)
  rw [← eQ hi] at hci
  have ih:=uz g w hg hw h0 hc n k (rd g.f2 (i : Int)) (i + 1) (by omega) (by omega)
  rw [fJ.l0,if_pos (by omega),if_pos (by omega),hw,if_pos (by omega),tm]
  have hm : lg.f k (aZ.mk (rd g.f2 (i : Int)).f0 (rd g.f2 (i : Int)).f1 (rd g.f2 (i : Int)).f2 (rd g.f2 (i : Int)).f3) = some (cm (rd g.f2 (i : Int))):=f84 _ hci.1 hci.2 k (by omega)
  have hf : fJ.l0 g k (aZ.mk (rd g.f2 (i : Int)).f0 (rd g.f2 (i : Int)).f1 (rd g.f2 (i : Int)).f2 (rd g.f2 (i : Int)).f3) ((i + 1 : Nat) : Int) = _:=ih
  rw [hm,ew,oF]
  simp only [lt,hf,Option.bind_some]
  rw [if_pos (c:=((w : Int)) ≠ 0) (by omega)]
  have z1 : (((i % w : Nat) : Int) = 0) ↔ i % w = 0:=by omega
  have z2 : (((i % w : Nat) : Int) > 0) ↔ 0 < i % w:=by omega
  unfold wa
  simp only [z1,z2]
  generalize rd g.f2 (i : Int) = c
  generalize oF g w n c (i + 1) = rr
  have zz : (i % w = 0) ↔ ¬ (0 < i % w):=by omega
  simp only [zz]
  cases hmc : cm c <;> by_cases h1 : c.f2 = 0 <;> by_cases h2 : 0 < i % w <;> by_cases h3 : a.f2 = 2 <;> by_cases h4 : c.f3 = a.f3 <;> simp [h1,h2,h3,h4]
theorem EM (g : bF) (hg : g.f2.length ≤ 1048576) (hc : ∀ x ∈ g.f2,0 ≤ x.f2∧x.f2 < 256) (k : Nat) (hk : g.f2.length + 45 ≤ k) : fJ.f k g = some (ci g):=by
 unfold fJ.f
 have e78 : qH.f g.f0 g.f1 = some (decide (1 ≤ g.f0∧g.f0 ≤ 512∧1 ≤ g.f1∧g.f1 ≤ 512)):=by
  unfold qH.f; simp only [lt]; congr 1; rw [Bool.eq_iff_iff]; simp only [Bool.and_eq_true,decide_eq_true_eq]; omega
 rw [e78]
 unfold ci
 by_cases hs : 1 ≤ g.f0∧g.f0 ≤ 512∧1 ≤ g.f1∧g.f1 ≤ 512
 ·obtain ⟨w,hw⟩ : ∃ w : Nat,g.f0 = (w : Int):=⟨g.f0.toNat,by omega⟩
  obtain ⟨v,hv⟩ : ∃ v : Nat,g.f1 = (v : Int):=⟨g.f1.toNat,by omega⟩
  have hwv : w * v ≤ 512 * 512:=Nat.mul_le_mul (by omega) (by omega)
  have em : IntKind.i64.wrap (g.f0 * g.f1) = ((w * v : Nat) : Int):=by
   rw [hw,hv,eO (by rw [← Int.natCast_mul]; omega) (by rw [← Int.natCast_mul]; omega)]; simp
  have em2 : g.f0 * g.f1 = ((w * v : Nat) : Int):=by rw [hw,hv]; simp
  rw [em,em2]
  by_cases hl : g.f2.length = w * v
  ·have h41:=uz g w hg hw (by omega) hc g.f2.length k c0 0 (by omega) hk
   rw [show ((0 : Nat) : Int) = 0 from rfl] at h41
   have hc0 : (aZ.mk 0 (fR.mk 0 0 0) 1 (cA.mk 0 0 false false false false false false false false)) = c0:=rfl
   have hpos : 0 < g.f2.length:=by rw [hl]; exact Nat.mul_pos (by omega) (by omega)
   have same:=uS g w g.f2.length (by omega) hpos (by rw [hl,Nat.mul_mod_right])
   have hw2 : g.f0.toNat = w:=by omega
   have d1 : decide (1 ≤ g.f0∧g.f0 ≤ 512∧1 ≤ g.f1∧g.f1 ≤ 512) = true:=decide_eq_true hs
   have d2 : decide (((g.f2.length : Nat) : Int) ≠ ((w * v : Nat) : Int)) = false:=by rw [hl]; simp
   have d3 : decide (1 ≤ g.f0∧g.f0 ≤ 512∧1 ≤ g.f1∧g.f1 ≤ 512∧((g.f2.length : Nat) : Int) = ((w * v : Nat) : Int)) = true:=decide_eq_true ⟨hs.1,hs.2.1,hs.2.2.1,hs.2.2.2,by rw [hl]⟩
   simp only [Option.bind_some,lt,d1,d2,d3,hc0,h41,Bool.not_true,Bool.or_self,Bool.false_eq_true,if_false,Bool.true_and,hw2]
   cases hr : oF g w g.f2.length c0 0 with
   | none =>
    have : ¬ ∀ i,i < g.f2.length → tQ g w i = true:=fun h=>by
     have h2:=(same.2 h).1
     have h3:=mQ g w g.f2.length c0 0 (fun j _ q=>h2 j (by omega))
     rw [hr] at h3; cases h3
    have hall : (List.range g.f2.length).all (tQ g w) = false:=by
     rw [Bool.eq_false_iff]; intro h; apply this; intro i hi; exact List.all_eq_true.1 h i (List.mem_range.2 hi)
    simp [Out.el,hall]
   | some z =>
    have hok:=rR g w g.f2.length c0 0 z hr
    have hz : z = pv g 0 c0 g.f2.length:=by
     have h3:=mQ g w g.f2.length c0 0 hok
     rw [hr,Nat.zero_add] at h3; exact Option.some.inj h3
    simp only [Option.bind_some,Out.el]
    congr 1
    rw [Bool.eq_iff_iff,decide_eq_true_eq,List.all_eq_true,hz]
    constructor
    ·intro h i hi; exact same.1 ⟨fun j hj=>hok j (by omega) (by omega),h⟩ i (List.mem_range.1 hi)
    ·intro h; exact (same.2 fun i hi=>h i (List.mem_range.2 hi)).2
  ·have d1 : decide (1 ≤ g.f0∧g.f0 ≤ 512∧1 ≤ g.f1∧g.f1 ≤ 512) = true:=decide_eq_true hs
   have d2 : decide (((g.f2.length : Nat) : Int) ≠ ((w * v : Nat) : Int)) = true:=decide_eq_true (by omega)
   have d3 : decide (1 ≤ g.f0∧g.f0 ≤ 512∧1 ≤ g.f1∧g.f1 ≤ 512∧((g.f2.length : Nat) : Int) = ((w * v : Nat) : Int)) = false:=decide_eq_false (fun h=>hl (by omega))
   simp only [Option.bind_some,lt,d1,d2,d3,Bool.not_true,Bool.false_or,if_true,Bool.false_and]
 ·have d1 : decide (1 ≤ g.f0∧g.f0 ≤ 512∧1 ≤ g.f1∧g.f1 ≤ 512) = false:=decide_eq_false hs
  have d3 : decide (1 ≤ g.f0∧g.f0 ≤ 512∧1 ≤ g.f1∧g.f1 ≤ 512∧((g.f2.length : Nat) : Int) = g.f0 * g.f1) = false:=decide_eq_false (fun h=>hs ⟨h.1,h.2.1,h.2.2.1,h.2.2.2.1⟩)
  simp [lt,d1,d3]
theorem Cf (g : bF) (w : Nat) (hg : g.f2.length ≤ 1048576) (hw : g.f0 = (w : Int)) (h0 : 0 < w) (h5 : w ≤ 512) (hc : ∀ x ∈ g.f2,0 ≤ x.f2∧x.f2 < 256) : ∀ (n k : Nat) (i : Nat),i + n = g.f2.length → n + 45 ≤ k →
  gi.l0 g k (i : Int) = some (if (List.range' i n).all (tQ g w) = true then Out.go () else Out.ret false)
 | n,0,_,_,h=>by omega
 | 0,k + 1,i,h,hk=>by rw [gi.l0,if_neg (by omega)]; rfl
 | n + 1,k + 1,i,h,hk=>by
  have hi : i < g.f2.length:=by omega
  have ew : IntKind.i64.wrap ((i : Int) + 1) = ((i + 1 : Nat) : Int):=by rw [eO (by omega) (by omega)]; rfl
  have ew3 : IntKind.i64.wrap ((w : Int) - 1) = ((w - 1 : Nat) : Int):=by rw [eO (by omega) (by omega)]; omega
  have hci:=hc _ (List.getElem_mem hi)
  rw [← eQ hi] at hci
  have hm : kU.f k (rd g.f2 (i : Int)) = some (cm (rd g.f2 (i : Int))):=De _ hci.1 hci.2 k (by omega)
  have ih:=Cf g w hg hw h0 h5 hc n k (i + 1) (by omega) (by omega)
  rw [gi.l0,if_pos (by omega),if_pos (by omega),hm,hw,tm,ew,ew3]
  simp only [lt,ih,Option.bind_some,List.range'_succ,List.all_cons]
  rw [if_pos (c:=((w : Int)) ≠ 0) (by omega),if_pos (c:=0 ≤ (i : Int)∧(i : Int) < (g.f2.length : Int)) (by omega),if_pos (c:=0 ≤ (i : Int)∧(i : Int) < (g.f2.length : Int)) (by omega)]
  generalize (List.range' (i + 1) n).all (tQ g w) = rr
  have z2 : (((i % w : Nat) : Int) > 0) ↔ 0 < i % w:=by omega
  have z3 : (((i % w : Nat) : Int) = ((w - 1 : Nat) : Int)) ↔ i % w = w - 1:=by omega
  unfold tQ
  simp only [z2,z3]
  have hw0 : ¬ w = 0:=by omega
  by_cases h2 : 0 < i % w
  ·have hi1 : 0 < i:=by
    rcases Nat.eq_zero_or_pos i with rfl | q
    ·simp at h2
    ·exact q
   have ew2 : IntKind.i64.wrap ((i : Int) - 1) = ((i - 1 : Nat) : Int):=by rw [eO (by omega) (by omega)]; omega
   have hb : 0 ≤ ((i - 1 : Nat) : Int)∧((i - 1 : Nat) : Int) < (g.f2.length : Int):=by omega
   have hb2 : 0 ≤ (i : Int)∧(i : Int) < (g.f2.length : Int):=by omega
   simp only [ew2,if_pos hb,if_pos hb2,h2,if_true,decide_true]
   generalize rd g.f2 (i : Int) = c
   generalize rd g.f2 ((i - 1 : Nat) : Int) = p
   cases hmc : cm c <;> by_cases h1 : c.f2 = 0 <;> by_cases h3 : p.f2 = 2 <;> by_cases h4 : c.f3 = p.f3 <;> by_cases h5 : c.f2 = 2 <;> by_cases h6 : i % w = w - 1 <;> simp [h1,h2,h3,h4,h5,h6,hw0]
  ·simp only [h2,if_false,decide_false]
   generalize rd g.f2 (i : Int) = c
   cases hmc : cm c <;> by_cases h1 : c.f2 = 0 <;> by_cases h5 : c.f2 = 2 <;> by_cases h6 : i % w = w - 1 <;> simp [h1,h2,h5,h6,hw0,hi]
theorem FD (g : bF) (hg : g.f2.length ≤ 1048576) (hc : ∀ x ∈ g.f2,0 ≤ x.f2∧x.f2 < 256) (k : Nat) (hk : g.f2.length + 45 ≤ k) : gi.f k g = some (ci g):=by
 unfold gi.f
 have e1 : pQ.f g.f0 = some (decide (1 ≤ g.f0∧g.f0 ≤ 512)):=by
  unfold pQ.f; simp only [lt]; congr 1; rw [Bool.eq_iff_iff]; simp only [Bool.and_eq_true,decide_eq_true_eq]
 have e2 : pQ.f g.f1 = some (decide (1 ≤ g.f1∧g.f1 ≤ 512)):=by
  unfold pQ.f; simp only [lt]; congr 1; rw [Bool.eq_iff_iff]; simp only [Bool.and_eq_true,decide_eq_true_eq]
 rw [e1,e2]
 unfold ci
 by_cases hs : 1 ≤ g.f0∧g.f0 ≤ 512
 ·by_cases ht : 1 ≤ g.f1∧g.f1 ≤ 512
  ·obtain ⟨w,hw⟩ : ∃ w : Nat,g.f0 = (w : Int):=⟨g.f0.toNat,by omega⟩
   obtain ⟨v,hv⟩ : ∃ v : Nat,g.f1 = (v : Int):=⟨g.f1.toNat,by omega⟩
   have hwv : w * v ≤ 512 * 512:=Nat.mul_le_mul (by omega) (by omega)
   have em : IntKind.i64.wrap (g.f0 * g.f1) = ((w * v : Nat) : Int):=by
    rw [hw,hv,eO (by rw [← Int.natCast_mul]; omega) (by rw [← Int.natCast_mul]; omega)]; simp
   have em2 : g.f0 * g.f1 = ((w * v : Nat) : Int):=by rw [hw,hv]; simp
   rw [em,em2]
   have hw2 : g.f0.toNat = w:=by omega
   have h30:=Cf g w hg hw (by omega) (by omega) hc g.f2.length k 0 (by omega) hk
   rw [show ((0 : Nat) : Int) = 0 from rfl,← List.range_eq_range'] at h30
   have d1 : decide (1 ≤ g.f0∧g.f0 ≤ 512) = true:=decide_eq_true hs
   have d2 : decide (1 ≤ g.f1∧g.f1 ≤ 512) = true:=decide_eq_true ht
   by_cases hl : g.f2.length = w * v
   ·have d3 : decide (((g.f2.length : Nat) : Int) ≠ ((w * v : Nat) : Int)) = false:=by rw [hl]; simp
    have d4 : decide (1 ≤ g.f0∧g.f0 ≤ 512∧1 ≤ g.f1∧g.f1 ≤ 512∧((g.f2.length : Nat) : Int) = ((w * v : Nat) : Int)) = true:=decide_eq_true ⟨hs.1,hs.2,ht.1,ht.2,by rw [hl]⟩
    simp only [Option.bind_some,lt,d1,d2,d3,d4,h30,hw2]
    cases (List.range g.f2.length).all (tQ g w) <;> simp [Out.el]
   ·have d3 : decide (((g.f2.length : Nat) : Int) ≠ ((w * v : Nat) : Int)) = true:=decide_eq_true (by omega)
    have d4 : decide (1 ≤ g.f0∧g.f0 ≤ 512∧1 ≤ g.f1∧g.f1 ≤ 512∧((g.f2.length : Nat) : Int) = ((w * v : Nat) : Int)) = false:=decide_eq_false (fun h=>hl (by omega))
    simp only [Option.bind_some,lt,d1,d2,d3,d4,Bool.not_true,Bool.false_eq_true,if_false,Bool.false_or,if_true,Bool.false_and]
  ·have d1 : decide (1 ≤ g.f0∧g.f0 ≤ 512) = true:=decide_eq_true hs
   have d2 : decide (1 ≤ g.f1∧g.f1 ≤ 512) = false:=decide_eq_false ht
   have d4 : decide (1 ≤ g.f0∧g.f0 ≤ 512∧1 ≤ g.f1∧g.f1 ≤ 512∧((g.f2.length : Nat) : Int) = g.f0 * g.f1) = false:=decide_eq_false (fun h=>ht ⟨h.2.2.1,h.2.2.2.1⟩)
   simp [lt,d1,d2,d4]
 ·have d1 : decide (1 ≤ g.f0∧g.f0 ≤ 512) = false:=decide_eq_false hs
  have d4 : decide (1 ≤ g.f0∧g.f0 ≤ 512∧1 ≤ g.f1∧g.f1 ≤ 512∧((g.f2.length : Nat) : Int) = g.f0 * g.f1) = false:=decide_eq_false (fun h=>hs ⟨h.1,h.2.1⟩)
  simp [lt,d1,d4]
end Go.Proofs.YtckilbegmbaeeaaGreat.Z3May

import Derived.Test.YtckilbegmbaeeaaGreatZ6S0
namespace Go.Proofs.YtckilbegmbaeeaaGreat.SL
open Go Go.RowKit
set_option linter.unusedVariables false
set_option linter.unusedSimpArgs false
structure BF {α : Type} [DecidableEq α] (P : Program) (K : TypeId) (ek : α → Value) : Prop where
 eq : ∀ x y w,(Op.equal K (ek x) (ek y)).run P w = .ok (decide (x = y)) w
 now : ∃ td,P.underlying K = some td∧∀ x y,Instr.sameNow td (ek x) (ek y) = none
 chk : ∀ em x w,(Instr.checkKey em 10000 K (ek x)).run P w = .ok () w
 bits : ∀ x,Instr.sameBits 10000 (ek x) (ek x) = true
section
variable {P : Program} {n : Nat} {Q : dI} {e : Env} {ds : List Deferred} {As As' : List bC} {d : Option Nat} {ty T T' E tx KT : TypeId} {pos : String} {aft : Array Edge} {g : Option (Nat × Bool)} {x y z : Operand} {K : Env → List Deferred → List bC → Prop}
variable {α β : Type} [DecidableEq α] {ek : α → Value} {vv : β → Value}
end
section
variable {P : Program} {n : Nat} {Q : dI} {e : Env} {ds : List Deferred} {As : List bC} {d : Option Nat} {ty T : TypeId} {pos : String} {aft : Array Edge} {g : Option (Nat × Bool)} {K : Env → List Deferred → List bC → Prop} {α β : Type}
end
end Go.Proofs.YtckilbegmbaeeaaGreat.SL
namespace Go.Proofs.YtckilbegmbaeeaaGreat.SL
open Go Go.RowKit
set_option linter.unusedVariables false
set_option linter.unusedSimpArgs false
structure eu (A V : Option Addr) (sz : Nat) (l n : Int) (v : Nat) : Prop where
 lo : 0 ≤ l
 no : 0 ≤ n
 cap : n ≤ (v : Int)
 adr : v = 0 ∨ V = A.map (·.add (l.toNat * sz))
theorem add_zero (a : Addr) : a.add 0 = a:=by simp [Addr.add]
theorem eu.whole {α : Type} {A : Option Addr} {sz c : Nat} {xs : List α} (h : xs.length ≤ c) : eu A A sz 0 (xs.length : Int) c :=
 ⟨Int.le_refl 0,by omega,by omega,.inr (by cases A <;> simp [add_zero])⟩
theorem rR {β : Type} {x y : Option β} {r : β} (h : y = some r) (e : y = x) : x = some r:=e ▸ h
theorem eu.nil {A : Option Addr} {sz : Nat} : eu A none sz 0 0 0:=⟨Int.le_refl 0,Int.le_refl 0,by omega,.inl rfl⟩
theorem eu.zero {A V : Option Addr} {sz v : Nat} {l n : Int} (w : eu A V sz l n v) : n = 0 ∨ V = A.map (·.add (l.toNat * sz)):=by
 rcases w.adr with q | q
 ·have:=w.cap; have:=w.no; exact .inl (by omega)
 ·exact .inr q
theorem eu.sub {A V : Option Addr} {sz : Nat} {l n a b m : Int} {v : Nat} (w : eu A V sz l n v) (ha : 0 ≤ a) (hab : a ≤ b) (hb : b ≤ n) (hm : m = (v : Int) ∨ b ≤ m) (hmv : m ≤ (v : Int)) :
  eu A (dj V a m sz) sz (l + a) (b - a) (m.toNat - a.toNat):=by
 obtain ⟨lo,no,cap,adr⟩:=w
 refine ⟨by omega,by omega,by rcases hm with q | q <;> omega,?_⟩
 by_cases h : m.toNat - a.toNat = 0
 ·exact .inl h
 ·right
  rcases adr with q | q
  ·omega
  ·have : m.toNat ≠ a.toNat:=by omega
   simp only [dj,dj.sliced_addr,this,if_false,q]
   cases A with
   | none=>rfl
   | some x =>
    simp only [Option.map_some,jL,Option.some.injEq]
    congr 1
    rw [← Nat.add_mul]; congr 1; omega
section
variable {P : Program} {n : Nat} {Q : dI} {e : Env} {ds : List Deferred} {As As' : List bC} {d : Option Nat} {ty T T' E tx : TypeId} {pos : String} {aft : Array Edge} {g : Option (Nat × Bool)} {x y : Operand} {K : Env → List Deferred → List bC → Prop}
theorem nz {fn : Func} {R : Value → List bC → Prop} {l : List (Nat × Value)} {C : List bC} (s : St l C e ds As) (B : List bC) (h : fn.results = #[]) (hg : Gh C B) (hR : R (.tuple #[]) B) : je P fn (sW R) .normal e ds As:=by
 obtain ⟨_,rfl,g⟩:=s
 exact rH B h (g.trans hg) hR
theorem SA.fact {c : Code} {p : Prop} (hp : ∀ I h,cq As I h → p) (k : p → SA P n c Q e ds As) : SA P n c Q e ds As:=fun I h a w s r f=>k (hp I h s) I h a w s r f
theorem OA.fact {o : Oper} {p : Prop} (hp : ∀ I h,cq As I h → p) (k : p → OA P n o K Q e ds As) : OA P n o K Q e ds As:=fun I h a w s r f=>k (hp I h s) I h a w s r f
theorem wF {α : Type} {kd : Kd α} {A : Option Addr} {c k : Nat} {xs : List α} (hk : As[k]? = some (Buf kd T A c xs)) : ∀ I h,cq As I h → xs.length ≤ c:=fun I h s=>by
 obtain ⟨_,_,⟨_,_,hc⟩,_⟩:=dm hk s
 rcases hc with ⟨_,_,e⟩ | ⟨_,_,_,_,e,_⟩
 ·rw [e]; simp
 ·exact e
theorem Src.win {α : Type} {kd : Kd α} {A V : Option Addr} {sz v : Nat} {l m : Int} {xs : List α} (hs : Src kd A xs As) (w : eu A V sz l m v) (hsz : kd.sz = sz) (h : l + m ≤ (xs.length : Int)) : Src kd V (sub xs l (l + m)) As:=by
 have adr:=w.zero
 obtain ⟨lo,no,cap,_⟩:=w
 intro I hh wd s f
 obtain ⟨cs,hr,hc⟩:=hs I hh wd s f
 have a:=RL.sub (kd:=kd) l.toNat ((l + m).toNat - l.toNat) hr
 refine ⟨_,a,?_⟩
 rcases adr with q | q
 ·left; subst q; simp [sub]
 ·rcases hc with hc | ⟨b,off,hA,hv⟩
  ·left; subst hc; simp [sub]
  ·right
   subst hA; subst hsz
   refine ⟨b,off + l.toNat * kd.sz,by rw [q]; simp [Addr.add_lit],fun j u hj=>?_⟩
   rw [List.getElem?_take] at hj
   split at hj
   ·rw [List.getElem?_drop] at hj
    rw [Nat.add_assoc]; exact hv _ u hj
   ·cases hj
theorem ny {α : Type} {xs : List α} {l m : Int} (h0 : 0 ≤ l) (h1 : 0 ≤ m) (h : l + m ≤ (xs.length : Int)) : (sub xs l (l + m)).length = m.toNat:=by
 rw [pw h0 (by omega) h]; omega
theorem pD.win {α : Type} {kd : Kd α} {A V : Option Addr} {sz v : Nat} {l m : Int} {xs : List α} (hs : Src kd A xs As) (w : eu A V sz l m v) (hsz : kd.sz = sz) (h : l + m ≤ (xs.length : Int)) : pD P kd (.slice V m.toNat v) (sub xs l (l + m)) As:=by
 have:=pD.slice (P:=P) (c:=v) (Src.win hs w hsz h)
 rwa [ny w.lo w.no h] at this
theorem ng.win {α : Type} {kd : Kd α} {A V : Option Addr} {sz v : Nat} {l m : Int} {xs : List α} {e' : TypeId} (hk : P.underlying tx = some (.slice e')) (hs : Src kd A xs As) (w : eu A V sz l m v) (hsz : kd.sz = sz) (h : l + m ≤ (xs.length : Int)) : ng P kd tx (.slice V m.toNat v) (sub xs l (l + m)) As:=by
 have:=ng.slice (c:=v) hk (Src.win hs w hsz h)
 rwa [ny w.lo w.no h] at this
theorem jR {A V : Option Addr} {sz v : Nat} {l m : Int} (w : eu A V sz l m v) (hu : P.underlying T = some (.slice E)) (hx : ev e x = .slice V m.toNat v) : SL.V P e ⟨d,.call { callee:=.builtin .len,args:=#[x],argTypes:=#[T] },ty,pos,aft,g⟩ (.int .i64 m):=by
 have:=cO (P:=P) (d:=d) (ty:=ty) (pos:=pos) (aft:=aft) (g:=g) hu hx
 rwa [Int.toNat_of_nonneg w.no] at this
theorem dq {A V : Option Addr} {sz v : Nat} {l m a b q : Int} {lo hi mx : Option Operand} {lv hv mv : Option Value} (w : eu A V sz l m v) (hu : P.underlying T = some (.slice E)) (hz : (P.info? E).map (·.size) = some sz) (hx : ev e x = .slice V m.toNat v)
  (hlo : lo.map (ev e) = lv) (hhi : hi.map (ev e) = hv) (hmx : mx.map (ev e) = mv)
  (hl : lv = none∧a = 0 ∨ ∃ k,lv = some (.int k a)) (hh : hv = none∧mv = none∧b = m ∨ ∃ k,hv = some (.int k b)) (hm : mv = none∧q = (v : Int) ∨ (∃ k,mv = some (.int k q))∧(∃ k,hv = some (.int k b))∧b ≤ q∧q ≤ m)
  (h0 : 0 ≤ a) (h1 : a ≤ b) (h2 : b ≤ m) : SL.V P e ⟨d,.slice T x lo hi mx,ty,pos,aft,g⟩ (.slice (dj V a q sz) (b - a).toNat (q.toNat - a.toNat)):=fun wd=>by
 obtain ⟨wl,no,cap,_⟩:=w
 have:=nu (P:=P) (e:=e) (d:=d) (ty:=ty) (pos:=pos) (aft:=aft) (g:=g) (T:=T) (h:=b) (m:=q) hu hz hx hlo hhi hmx ⟨hl,?_,?_⟩ h0 h1 ?_ ?_ wd
 ·rw [this,show b.toNat - a.toNat = (b - a).toNat from by omega]
 ·rcases hh with ⟨p,r,s⟩ | p
  ·exact .inl ⟨p,r,by omega⟩
  ·exact .inr p
 ·rcases hm with ⟨p,r⟩ | ⟨p,r,_,_⟩
  ·exact .inl ⟨p,r⟩
  ·exact .inr ⟨p,r⟩
 ·rcases hm with ⟨_,r⟩ | ⟨_,_,r,_⟩ <;> omega
 ·rcases hm with ⟨_,r⟩ | ⟨_,_,_,r⟩ <;> omega
theorem eN {α : Type} {kd : Kd α} {A V : Option Addr} {sz v : Nat} {l m : Int} {xs : List α} {k : IntKind} {i : Int} (w : eu A V sz l m v) (hu : P.underlying T = some (.slice E)) (hz : (P.info? E).map (·.size) = some sz) (hx : ev e x = .slice V m.toNat v) (hy : ev e y = .int k i)
  (hs : Src kd A xs As) (h0 : 0 ≤ i) (h1 : i < m) (h2 : l + m ≤ (xs.length : Int)) : VR P As e ⟨d,.indexAddr T x y,ty,pos,aft,g⟩ (.pointer (some (el A ((l + i).toNat * sz)))):=by
 have adr:=w.zero
 obtain ⟨lo,no,cap,_⟩:=w
 intro I h wd s f
 obtain ⟨cs,hr,hc⟩:=hs I h wd s f
 rcases hc with hc | ⟨b,off,hA,_⟩
 ·subst hc; simp at h2; omega
 ·subst hA
  rcases adr with q | q
  ·omega
  ·cases hq : P.info? E with
   | none=>simp [hq] at hz
   | some q' =>
    have hz' : q'.size = sz:=by simpa [hq] using hz
    have dU : i < ((m.toNat : Nat) : Int):=by omega
    have a : (l + i).toNat * sz = l.toNat * sz + i.toNat * sz:=by rw [← Nat.add_mul]; congr 1; omega
    rw [a]
    generalize m.toNat = N at hx dU
    simp [execOp,hx,hy,q,Instr.indexAt,asIntOf,run_underlying hu,h0,dU,sizeOf,typeInfo,hq,hz',el,jL]
theorem gm {α : Type} {kd : Kd α} {A V : Option Addr} {c k sz v : Nat} {xs ys : List α} {u : Value} {l m : Int} (zs : List α) (hzs : zs = bB xs l.toNat (ys.take m.toNat)) (w : eu A V sz l m v) (hd : cb d n = true) (hu : P.underlying T = some (.slice E)) (hz : (P.info? E).map (·.size) = some sz) (hsz : kd.sz = sz)
  (hk : As[k]? = some (Buf kd T' A c xs)) (hx : ev e x = .slice V m.toNat v) (h2 : l + m ≤ (xs.length : Int)) (hy : ev e y = u) (hs : pD P kd u ys As)
  (hK : K (put e d (.int .i64 (da (ys.length : Int) m))) ds (As.set k (Buf kd T' A c zs))) : OA P n ⟨d,.call { callee:=.builtin .copy,args:=#[x,y],argTypes:=#[T,tx] },ty,pos,aft,g⟩ K Q e ds As:=by
 have adr:=w.zero
 obtain ⟨lo,no,cap,_⟩:=w
 refine uN (off:=l.toNat) zs (by rw [hzs,rb]) hd hu hz hsz hk hx (fun hp hA=>?_) (by omega) hy hs ?_
 ·rcases adr with q | q
  ·omega
  ·rw [q]
   cases A with
   | none=>exact absurd rfl hA
   | some a=>simp [el]
 ·rw [vg,Int.toNat_of_nonneg no]; exact hK
end
end Go.Proofs.YtckilbegmbaeeaaGreat.SL
namespace Go.Proofs.YtckilbegmbaeeaaGreat.SL
open Go Go.RowKit
set_option linter.unusedVariables false
set_option linter.unusedSimpArgs false
section
variable {P : Program} {n : Nat} {Q : dI} {e : Env} {ds : List Deferred} {As : List bC} {d : Option Nat} {ty T T' E tx : TypeId} {pos : String} {aft : Array Edge} {g : Option (Nat × Bool)} {x y z : Operand} {K : Env → List Deferred → List bC → Prop}
theorem wB (hx : ev e x = .bool false) : SL.V P e ⟨d,.unOp .not T x,ty,pos,aft,g⟩ (.bool true):=bX hx
end
end Go.Proofs.YtckilbegmbaeeaaGreat.SL
namespace Go.Proofs.YtckilbegmbaeeaaGreat.SL
open Go Go.RowKit
set_option linter.unusedVariables false
set_option linter.unusedSimpArgs false
def Raw {α : Type} (d : Kd α) (T : TypeId) (b c : Nat) (cs : List Value) : bC:=⟨fun _ h=>h b = some (.cells cs.toArray T (0,0))∧cs.length = c * d.sz∧c ≤ maxLen,fun _ h=>h,false,fun h=>by cases h⟩
def zM {α : Type} (d : Kd α) (cs : List Value) (xs : List α) : bC:=⟨fun I _=>RL d I cs xs,fun hI h=>h.mono hI,true,fun _ {_ _ _} h=>h⟩
section
variable {P : Program} {n : Nat} {Q : dI} {e : Env} {ds : List Deferred} {As : List bC} {d : Option Nat} {ty T T' E tx tn : TypeId} {pos : String} {aft : Array Edge} {g : Option (Nat × Bool)} {x y z : Operand} {K : Env → List Deferred → List bC → Prop}
theorem ul {As : List bC} {A : bC} {I h : Hp} (hp : A.pers = true) (s : cq As I h) (hA : ∀ h',A.P I h') : cq (As ++ [A]) I h :=
 dh (ha:=h) (hb:=fun _=>none) ⟨Le.refl h,(fun _ _ e=>by cases e),fun _ _ _=>rfl⟩ s ⟨fun _=>none,fun _=>none,⟨(fun _ _ e=>by cases e),(fun _ _ e=>by cases e),fun _ _ _=>rfl⟩,hA _,trivial⟩
theorem rM {α : Type} {kd : Kd α} {A : Option Addr} {c k : Nat} {xs : List α} {code : Code} (hk : As[k]? = some (Buf kd T A c xs)) (hb : kd.byt = false) (h0 : xs ≠ [] ∨ 0 < c)
  (h : ∀ b cs,A = some ⟨b,0,none⟩ → xs.length ≤ c → cs.length = c * kd.sz → SA P n code Q e ds (As.set k (Raw kd T b c cs) ++ [zM kd (cs.take (xs.length * kd.sz)) xs])) : SA P n code Q e ds As:=by
 intro I hh a w s r f
 obtain ⟨d,l,⟨u,hr,hcs⟩,ff⟩:=dm hk s
 rcases hcs with ⟨_,hc,hx⟩ | ⟨gb,cur,hA,⟨fr,hg,hfz⟩,hlc,hcm,hsz,ht⟩
 ·rcases h0 with q | q
  ·exact absurd hx q
  ·omega
 ·obtain rfl:=hfz.2 hb
  have hl : cur.toList.length = c * kd.sz:=(Array.length_toList (xs:=cur)).trans hsz
  have p : cq (As.set k (Raw kd T gb c cur.toList)) I hh:=ff (Raw kd T gb c cur.toList) I d hh (Le.refl I) ⟨by simpa using hg,hl,hcm⟩ l fun b o j m=>⟨j,m⟩
  exact h gb cur.toList hA hlc hl I hh a w (ul (A:=zM kd (cur.toList.take (xs.length * kd.sz)) xs) rfl p fun h'=>by show RL kd I _ xs; rw [ht]; exact hr) r f
theorem qe {α : Type} {kd : Kd α} {b c k : Nat} {cs : List Value} {zs : List α} (hk : As[k]? = some (Raw kd T b c cs)) (hl : zs.length ≤ c) (hr : ∀ I h,cq As I h → RL kd I (cs.take (zs.length * kd.sz)) zs) : Gh As (As.set k (Buf kd T (some ⟨b,0,none⟩) c zs)):=by
 intro I h w s f
 obtain ⟨a,l,⟨hg,hlen,hcm⟩,ff⟩:=dm hk s
 refine ⟨I,h,dl.refl f,ff _ I a h (Le.refl I) ⟨_,hr I h s,.inr ⟨b,cs.toArray,rfl,⟨(0,0),hg,uJ.zero⟩,hl,hcm,by simpa using hlen,by simp⟩⟩ l fun b o d j=>⟨d,j⟩⟩
theorem nF {α : Type} {kd : Kd α} {j : Nat} {cs : List Value} {xs : List α} (hj : As[j]? = some (zM kd cs xs)) {I h : Hp} (s : cq As I h) : RL kd I cs xs:=by
 obtain ⟨a,l,q,ff⟩:=dm hj s
 exact q
theorem qS {α : Type} {kd : Kd α} {k b c : Nat} {cs : List Value} (hk : As[k]? = some (Raw kd T b c cs)) {I h : Hp} (s : cq As I h) {w : World} (f : lZ I h w) : w.heap[b]? = some (.cells cs.toArray T (0,0))∧cs.length = c * kd.sz:=by
 obtain ⟨a,l,⟨hg,hlen,_⟩,ff⟩:=dm hk s
 exact ⟨f.own b _ (l b _ hg),hlen⟩
theorem re {w : World} {sz k bb off len cap : Nat} {cs : List Value} (h : ∀ j u,cs[j]? = some u → w.cell? ⟨bb,off + j,none⟩ = some u) (hl : cs.length = k * sz) : (Builtin.firstCells sz k (.slice (some ⟨bb,off,none⟩) len cap)).run P w = .ok cs.toArray w :=
 run_firstCells_some w sz k ⟨bb,off,none⟩ len cap cs hl fun j u hu=>by rw [Addr.add_lit]; exact h j u hu
theorem nD {α : Type} {kd : Kd α} {b c k sz off so dLen dCap yl sCap bs cS kS cnt : Nat} {cs csS : List Value} {α' : Type} {kd' : Kd α'} {T'' : TypeId} {es : List Value} (hd : cb d n = true) (hu : P.underlying T = some (.slice E)) (hz : (P.info? E).map (·.size) = some sz) (hsz : kd.sz = sz)
  (hk : As[k]? = some (Raw kd T' b c cs)) (hx : ev e x = .slice (some ⟨b,off * sz,none⟩) dLen dCap) (hfit : off + cnt ≤ c) (hcnt : cnt = min yl dLen)
  (hkS : As[kS]? = some (Raw kd' T'' bs cS csS)) (hy : ev e y = .slice (some ⟨bs,so * sz,none⟩) yl sCap) (hes : es = (csS.drop (so * sz)).take (cnt * sz)) (hel : so * sz + cnt * sz ≤ csS.length) (h1 : ∀ I h,cq As I h → ∀ u ∈ es,u.oneCell' = true)
  (h : K (put e d (goInt ((Nat.min yl dLen : Nat) : Int))) ds (As.set k (Raw kd T' b c (eg cs (off * sz) es)))) : OA P n ⟨d,.call { callee:=.builtin .copy,args:=#[x,y],argTypes:=#[T,tx] },ty,pos,aft,g⟩ K Q e ds As:=by
 intro I h' a w s r f
 obtain ⟨hwS,_⟩:=qS hkS s f.sees
 obtain ⟨o,l,⟨hg,hlen,hcm⟩,ff⟩:=dm hk s
 have hh : h' b = some (.cells cs.toArray T' (0,0)):=l b _ hg
 have m : ∀ w',(Builtin.lenOf (.slice (some ⟨bs,so * sz,none⟩) yl sCap)).run P w' = .ok yl w':=fun _=>rfl
 have hesl : es.length = cnt * sz:=by rw [hes,List.length_take,List.length_drop]; omega
 cases hq : P.info? E with
 | none=>simp [hq] at hz
 | some q =>
  have hq' : q.size = sz:=by simpa [hq] using hz
  have hexec : ∀ {v' : Value} {w' : World},(Builtin.copy_ #[T,tx] ty #[.slice (some ⟨b,off * sz,none⟩) dLen dCap,.slice (some ⟨bs,so * sz,none⟩) yl sCap]).run P w = .ok v' w' → (execOp (ev e) ⟨d,.call { callee:=.builtin .copy,args:=#[x,y],argTypes:=#[T,tx] },ty,pos,aft,g⟩).run P w = .ok (.value v') w':=fun {v' w'} hh=>by
   simp [execOp,resolve,invoke,builtin,hx,hy,hh]
  have hfc : (Builtin.firstCells q.size (Nat.min yl dLen) (.slice (some ⟨bs,so * sz,none⟩) yl sCap)).run P w = .ok es.toArray w:=by
   rw [hq',show Nat.min yl dLen = cnt from hcnt.symm]
   refine re (fun j u hu=>?_) hesl
   rw [hes,List.getElem?_take] at hu
   split at hu
   ·rw [List.getElem?_drop] at hu
    rw [jM hwS]
    simpa using hu
   ·cases hu
  have hm : off * sz + cnt * sz ≤ c * sz:=by rw [← Nat.add_mul]; exact Nat.mul_le_mul_right _ hfit
  rw [hsz] at hlen
  have hst:=eP (P:=P) b (off * sz) T' (0,0) es 0 cs.toArray w (f.own b _ hh) Fz.zero (by rw [hesl,List.size_toArray,hlen]; simpa using hm) (h1 I h' s)
  simp only [Nat.add_zero] at hst
  have hrun:=mZ (P:=P) (T:=T) (tx:=tx) (ty:=ty) (dCap:=dCap) (Ad:=some ⟨b,off * sz,none⟩) (w':=w.setRow b (eg cs (off * sz) es).toArray) hu hq m hfc (fun a ha=>by
   obtain rfl:=Option.some.inj ha
   exact hst) (fun ha=>by cases ha)
  unfold Oper.wp
  rw [r.eval,hexec hrun]
  refine ⟨_,ds,_,I,_,r.put hd _,jp ff (A':=Raw kd T' b c (eg cs (off * sz) es)) hg ⟨if_pos rfl,?_,hcm⟩,dl.setRow f hh,h⟩
  rw [gD (by rw [hesl,hlen]; omega),hlen,hsz]
theorem sy {α β : Type} {kd : Kd α} {kd' : Kd β} {k k' b b' c c' : Nat} {cs cs' : List Value} (hk : As[k]? = some (Raw kd T b c cs)) (hk' : As[k']? = some (Raw kd' T' b' c' cs')) (hn : k ≠ k') {I h : Hp} (s : cq As I h) : b ≠ b':=by
 rintro rfl
 have j : cq [Raw kd T b c cs,Raw kd' T' b c' cs'] I h:=by
  have:=ia (ks:=[k,k']) (by
   simp only [eM,Bool.and_eq_true,hk,hk']
   simp [hn,Ne.symm hn]) s
  simpa [sel,hk,hk'] using this
 obtain ⟨l,h2,sp,⟨d,_,_⟩,⟨m,o,a,⟨p2,_,_⟩,_⟩⟩:=j
 have:=sp.2.2 b _ d
 rw [a.1 b _ p2] at this
 cases this
theorem qh {α β : Type} {kd : Kd α} {kd' : Kd β} {k k' b b' c c' o o' sz l l' lc lc' : Nat} {cs cs' : List Value} {f : FuncId} {fn : Func} {tb : TypeId} {ts : Array TypeId} (hk : As[k]? = some (Raw kd T b c cs)) (hk' : As[k']? = some (Raw kd' T' b' c' cs')) (hn : k ≠ k') (h0 : cs' ≠ [])
  (hf : P.funcs[f]? = some fn) (hnm : (fn.name == "runtime.NumGoroutine") = false) (hb : fn.body.isNone = true) (hN : Extern.findNext fn = none) (hE : Extern.find fn = some (Extern.SlicesOverlaps.overlaps #[tx, tx] #[tb])) (hu : P.underlying tx = some (.slice E)) (hz : (P.info? E).map (·.size) = some sz)
  (hx : ev e x = .slice (some ⟨b,o,none⟩) l lc) (hy : ev e y = .slice (some ⟨b',o',none⟩) l' lc') : VR P As e ⟨d,.call { callee:=.value (.func f),args:=#[x,y],argTypes:=ts },ty,pos,aft,g⟩ (.bool false):=by
 intro I h w s fs
 have hne:=sy hk hk' hn s
 obtain ⟨hw,_⟩:=qS hk s fs
 obtain ⟨hw',_⟩:=qS hk' s fs
 have hzz : ∀ w,(Go.sizeOf E).run P w = .ok sz w:=fun w=>by
  cases hq : P.info? E with
  | none=>simp [hq] at hz
  | some q=>simp [hq] at hz; simp [sizeOf,typeInfo,hq,hz]
 have hfr : ∀ off,w.frozen? ⟨b,off,none⟩ = false:=fun off=>by simp [World.frozen?,hw]
 have hrun:=Go.Lib.run_overlaps_apart (P:=P) w tx tb E hu sz hzz ⟨b,o,none⟩ ⟨b',o',none⟩ l lc l' lc' hne T T' cs.toArray.size cs'.toArray.size (by simp [World.shape?,hw]) (by simp [World.shape?,hw']) (by
  rw [List.size_toArray]; intro q; exact h0 (List.eq_nil_of_length_eq_zero q)) (hfr _) (hfr _)
 have:=run_callFunc_extern (P:=P) (f:=f) (e:=Extern.SlicesOverlaps.overlaps #[tx,tx] #[tb]) hf hnm hb hN hE #[.slice (some ⟨b,o,none⟩) l lc,.slice (some ⟨b',o',none⟩) l' lc'] w
 have hff : ev e (.func f) = .func (.func f) #[] #[]:=rfl
 rw [hrun] at this
 simp only [Result.andThen_ok] at this
 simp [execOp,resolve,hff,Deferred.ofValue,invoke,hx,hy,this]
theorem uM {α : Type} {kd : Kd α} {V : Option Addr} {m vc k bytes sz cnt : Nat} {xs : List α} {zv : Value} {z0 : α} {kq kn : IntKind} (zs : List α) (hzs : zs = xs ++ List.replicate cnt z0) (hd : cb d n = true) (hu : P.underlying T = some (.slice E)) (htn : P.underlying tn = some (.int kn)) (hi : (P.info? E).map (fun i=>(i.zero,i.size,i.bytes)) = some (some zv,sz,bytes)) (hsz : kd.sz = sz) (hz1 : zv.cells.size = sz) (h0z : 0 < sz)
  (hk : As[k]? = some (Buf kd E none 0 ([] : List α))) (hx : ev e x = .slice V m vc) (h0 : SL.Src kd V xs As) (hm : m = xs.length) (hy : ev e y = .int kq (cnt : Int)) (hz : ∀ I,kd.R I zv.cells.toList z0) (hc0 : 0 < cnt) (hlt : vc < xs.length + cnt) (h63 : xs.length + cnt ≤ 9223372036854775807) (hb : (xs.length + cnt) * bytes ≤ 140737488355328)
  (h : ∀ A' c',K (put e d (.slice A' zs.length c')) ds (As.set k (Buf kd E A' c' zs))) : OA P n ⟨d,.call { callee:=.builtin .append,args:=#[x,y],argTypes:=#[T,tn] },ty,pos,aft,g⟩ K Q e ds As:=by
 subst hzs; subst hm
 intro I h' a w s r f
 obtain ⟨z,l,_,ff⟩:=dm hk s
 obtain ⟨cs,hr,hc⟩:=h0 I h' w s f.sees
 have hre:=RL.rep (d:=kd) (hz I) cnt
 have hlr : (xs ++ List.replicate cnt z0).length = xs.length + cnt:=by simp
 have hrall:=hr.app hre
 have hlen:=hr.len
 have helen:=hre.len
 rw [List.length_replicate] at helen
 cases hq : P.info? E with
 | none=>simp [hq] at hi
 | some q =>
  simp only [hq,Option.map_some,Option.some.injEq,Prod.mk.injEq] at hi
  obtain ⟨p,c,o⟩:=hi
  have i2' : kd.sz = q.size:=hsz.trans c.symm
  rw [i2'] at hlen helen
  have hexec : ∀ {v' : Value} {w' : World},(Builtin.append_ #[T,tn] ty #[.slice V xs.length vc,.int kq (cnt : Int)]).run P w = .ok v' w' → (execOp (ev e) ⟨d,.call { callee:=.builtin .append,args:=#[x,y],argTypes:=#[T,tn] },ty,pos,aft,g⟩).run P w = .ok (.value v') w':=fun {v' w'} hh=>by
   simp [execOp,resolve,invoke,builtin,hx,hy,hh]
  have hold : (Builtin.firstCells q.size xs.length (.slice V xs.length vc)).run P w.drew = .ok cs.toArray w.drew:=by
   rcases hc with hc | ⟨b,off,hA,hv⟩
   ·subst hc
    simp only [RL] at hr; subst hr
    cases V with
    | none=>exact run_firstCells_none w.drew q.size 0 0 vc
    | some a=>exact run_firstCells_some w.drew q.size 0 a 0 vc [] (by simp) (by simp)
   ·subst hA
    refine run_firstCells_some w.drew q.size xs.length ⟨b,off,none⟩ xs.length vc cs hlen fun j u hu'=>?_
    rw [Addr.add_lit]
    exact hv j u hu'
  have hcb : cnt * bytes ≤ (xs.length + cnt) * bytes:=Nat.mul_le_mul_right _ (by omega)
  have hrun:=Go.Lib.run_append_grow_zeros (P:=P) w T tn ty E q zv kq kn hu htn hq p V xs.length vc cs hold cnt hc0 (by omega) hlt (by omega) (by rw [o]; omega) (growslice_fits (by omega) (by rw [o]; exact hb))
  have hge:=grownCap_ge w (xs.length + cnt) vc E
  have hcm : grownCap w (xs.length + cnt) vc E ≤ maxLen:=grownCap_le_maxLen w (xs.length + cnt) vc E (by unfold maxLen; omega)
  generalize grownCap w (xs.length + cnt) vc E = nc at *
  have gd:=dl.drew f
  obtain ⟨ga,_⟩:=dl.alloc gd.fits (.cells (cs.toArray ++ Builtin.zeroCells zv.cells cnt ++ Builtin.zeroCells zv.cells (nc - (xs.length + cnt))) E)
  have hzc : (Builtin.zeroCells zv.cells cnt).toList = List.flatten (List.replicate cnt zv.cells.toList):=by
   unfold Builtin.zeroCells
   exact jF zv.cells cnt
  unfold Oper.wp
  rw [r.eval,hexec hrun]
  refine ⟨_,ds,_,I,_,r.put hd _,oH ff (A':=Buf kd E (some ⟨w.heap.size,0,none⟩) nc (xs ++ List.replicate cnt z0)) (mU f).1 ⟨_,hrall,.inr ⟨w.heap.size,_,rfl,⟨(0,0),if_pos rfl,uJ.zero⟩,by rw [hlr]; exact hge,hcm,?_,?_⟩⟩,gd.trans ga,?_⟩
  ·rw [Array.size_append,Array.size_append,jE,jE,hz1,List.size_toArray,hlen,← c,i2',← Nat.add_mul,← Nat.add_mul]
   congr 1; omega
  ·rw [Array.toList_append,Array.toList_append,hzc,i2',hlr]
   show List.take _ (cs ++ _ ++ _) = _
   rw [Nat.add_mul,← hlen,← helen,← List.length_append]
   exact List.take_left
  ·have:=h (some ⟨w.heap.size,0,none⟩) nc
   rw [hlr] at this
   exact this
theorem ju {b o o2 n' v a h sz : Nat} {lo hi : Option Operand} {lv hv : Option Value} (hu : P.underlying T = some (.slice E)) (hz : (P.info? E).map (·.size) = some sz) (hx : ev e x = .slice (some ⟨b,o * sz,none⟩) n' v) (hlo : lo.map (ev e) = lv) (hhi : hi.map (ev e) = hv)
  (hl : lv = none∧a = 0 ∨ ∃ k,lv = some (.int k (a : Int))) (hh : hv = none∧h = n' ∨ ∃ k,hv = some (.int k (h : Int))) (h1 : a ≤ h) (h2 : h ≤ v) (h3 : a < v) (ho : o2 = o + a) : SL.V P e ⟨d,.slice T x lo hi none,ty,pos,aft,g⟩ (.slice (some ⟨b,o2 * sz,none⟩) (h - a) (v - a)):=fun w=>by
 subst ho
 have:=nu (P:=P) (e:=e) (d:=d) (ty:=ty) (pos:=pos) (aft:=aft) (g:=g) (T:=T) (l:=(a : Int)) (h:=(h : Int)) (m:=(v : Int)) (mx:=none) (mv:=none) hu hz hx hlo hhi rfl ⟨?_,?_,.inl ⟨rfl,rfl⟩⟩ (by omega) (by omega) (by omega) (by omega) w
 ·rw [this]
  have c : dj (some ⟨b,o * sz,none⟩) (a : Int) (v : Int) sz = some ⟨b,(o + a) * sz,none⟩:=by
   simp only [dj,dj.sliced_addr,Int.toNat_natCast]
   rw [if_neg (by omega)]
   simp [Addr.add_lit,Nat.add_mul]
  rw [c]
  simp
 ·rcases hl with ⟨p,q⟩ | p
  ·exact .inl ⟨p,by omega⟩
  ·exact .inr p
 ·rcases hh with ⟨p,q⟩ | p
  ·exact .inl ⟨p,rfl,by omega⟩
  ·exact .inr p
theorem rY {α : Type} {kd : Kd α} {I : Hp} {cs : List Value} {xs : List α} {N a k : Nat} (h : RL kd I (cs.take N) xs) (hl : a + k ≤ N) : ∀ u ∈ (cs.drop a).take k,u.oneCell' = true:=fun u hu=>by
 refine h.one u ?_
 have e : (cs.drop a).take k = ((cs.take N).drop a).take k:=by
  rw [List.drop_take,List.take_take]; congr 1; omega
 rw [e] at hu
 exact List.mem_of_mem_drop (List.mem_of_mem_take hu)
theorem sF {α : Type} {kd : Kd α} {I : Hp} {cs csv : List Value} {xs ys : List α} {i sz c : Nat} (hsz : kd.sz = sz) (hx : RL kd I (cs.take (xs.length * kd.sz)) xs) (hy : RL kd I (csv.take (ys.length * kd.sz)) ys) (hi : i ≤ xs.length) (hc : xs.length + ys.length ≤ c) (hcl : cs.length = c * kd.sz) (hvl : ys.length * kd.sz ≤ csv.length) :
  RL kd I ((eg (eg cs ((i + ys.length) * sz) ((cs.drop (i * sz)).take ((xs.length - i) * sz))) (i * sz) ((csv.drop (0 * sz)).take (ys.length * sz))).take ((xs.take i ++ ys ++ xs.drop i).length * kd.sz)) (xs.take i ++ ys ++ xs.drop i):=by
 subst hsz
 generalize hm : ys.length = m at *
 generalize hn : xs.length = n at *
 have q : (i + m) * kd.sz = i * kd.sz + m * kd.sz:=Nat.add_mul _ _ _
 have r : (n - i) * kd.sz = n * kd.sz - i * kd.sz:=Nat.sub_mul _ _ _
 have s : i * kd.sz ≤ n * kd.sz:=Nat.mul_le_mul_right _ hi
 have u : n * kd.sz + m * kd.sz ≤ c * kd.sz:=by rw [← Nat.add_mul]; exact Nat.mul_le_mul_right _ hc
 have hlen : (xs.take i ++ ys ++ xs.drop i).length * kd.sz = n * kd.sz + m * kd.sz:=by
  rw [← Nat.add_mul]; congr 1
  simp [hn,hm]; omega
 have d:=RL.sub (kd:=kd) 0 i hx
 have h:=RL.sub (kd:=kd) i (n - i) hx
 simp only [Nat.zero_mul,List.drop_zero] at d
 have l : (xs.drop i).take (n - i) = xs.drop i:=List.take_of_length_le (by rw [List.length_drop,hn]; exact Nat.le_refl _)
 rw [l] at h
 have hall:=(d.app hy).app h
 have j : (cs.take (n * kd.sz)).take (i * kd.sz) = cs.take (i * kd.sz):=by rw [List.take_take]; congr 1; omega
 have o : ((cs.take (n * kd.sz)).drop (i * kd.sz)).take ((n - i) * kd.sz) = (cs.drop (i * kd.sz)).take ((n - i) * kd.sz):=by rw [List.drop_take,List.take_take,r]; congr 1; omega
 rw [j,o] at hall
 have hfin : (eg (eg cs ((i + m) * kd.sz) ((cs.drop (i * kd.sz)).take ((n - i) * kd.sz))) (i * kd.sz) ((csv.drop (0 * kd.sz)).take (m * kd.sz))).take (n * kd.sz + m * kd.sz) = cs.take (i * kd.sz) ++ csv.take (m * kd.sz) ++ (cs.drop (i * kd.sz)).take ((n - i) * kd.sz):=by
  have a : ((cs.drop (i * kd.sz)).take ((n - i) * kd.sz)).length = (n - i) * kd.sz:=by rw [List.length_take,List.length_drop]; omega
  have b : (csv.take (m * kd.sz)).length = m * kd.sz:=by rw [List.length_take]; omega
  rw [Nat.zero_mul,List.drop_zero]
  generalize hS : (cs.drop (i * kd.sz)).take ((n - i) * kd.sz) = S at *
  generalize hV : csv.take (m * kd.sz) = V at *
  unfold eg
  rw [a,b,q]
  have p : (cs.take (i * kd.sz + m * kd.sz) ++ S ++ cs.drop (i * kd.sz + m * kd.sz + (n - i) * kd.sz)).take (i * kd.sz) = cs.take (i * kd.sz):=by
   rw [List.append_assoc,List.take_append_of_le_length (by rw [List.length_take]; omega),List.take_take]; congr 1; omega
  have h2 : (cs.take (i * kd.sz + m * kd.sz) ++ S ++ cs.drop (i * kd.sz + m * kd.sz + (n - i) * kd.sz)).drop (i * kd.sz + m * kd.sz) = S ++ cs.drop (i * kd.sz + m * kd.sz + (n - i) * kd.sz):=by
   rw [List.append_assoc]
   exact List.drop_left' (by rw [List.length_take]; omega)
  rw [p,h2,← List.append_assoc]
  exact List.take_left' (by rw [List.length_append,List.length_append,List.length_take,a,b]; omega)
 rw [hlen,hfin]
 exact hall
theorem tJ {α : Type} {l0 l2 : List α} {a1 n11 n13 : Int} {z0 : α} {lim : Nat} (hn11 : n11 = (l2.length : Int)) (hn13 : n13 = (l0.length : Int)) (h0 : 0 ≤ a1) (h1 : a1 ≤ (l0.length : Int)) (h14 : ¬ a1 = n13) (h12 : ¬ n11 = 0) (hl : l0.length + l2.length ≤ lim) (hlim : lim ≤ 140737488355328) :
  some (l0.take a1.toNat ++ l2 ++ l0.drop a1.toNat) = (if 0 ≤ (0 : Int)∧(0 : Int) ≤ a1∧a1 ≤ (l0.length : Int) then (if 0 < (IntKind.i64.wrap ((IntKind.i64.wrap (n13 + n11)) - a1))∧(sub l0 (0 + (0 : Int)) ((0 + (0 : Int)) + (a1 - (0 : Int)))).length + (IntKind.i64.wrap ((IntKind.i64.wrap (n13 + n11)) - a1)).toNat ≤ lim then lt ((sub l0 (0 + (0 : Int)) ((0 + (0 : Int)) + (a1 - (0 : Int)))) ++ List.replicate (IntKind.i64.wrap ((IntKind.i64.wrap (n13 + n11)) - a1)).toNat z0) fun n33=>(if 0 ≤ a1∧a1 ≤ (n33.length : Int)∧(n33.length : Int) ≤ (n33.length : Int) then (lt (bB n33 (0 + a1).toNat (l2.take ((n33.length : Int) - a1).toNat)) fun n41=>(if 0 ≤ (IntKind.i64.wrap (a1 + n11))∧(IntKind.i64.wrap (a1 + n11)) ≤ (n41.length : Int)∧(n41.length : Int) ≤ (n41.length : Int) then (if 0 ≤ a1∧a1 ≤ (l0.length : Int)∧(l0.length : Int) ≤ (l0.length : Int) then (lt (bB n41 (0 + (IntKind.i64.wrap (a1 + n11))).toNat ((sub l0 (0 + a1) ((0 + a1) + ((l0.length : Int) - a1))).take ((n41.length : Int) - (IntKind.i64.wrap (a1 + n11))).toNat)) fun n522=>(some (n522))) else none) else none)) else none) else none) else none):=by
 subst hn11; subst hn13
 obtain ⟨i,rfl⟩ : ∃ i : Nat,a1 = (i : Int):=⟨a1.toNat,by omega⟩
 have j : IntKind.i64.wrap ((l0.length : Int) + (l2.length : Int)) = (l0.length : Int) + (l2.length : Int):=by rw [IntKind.wrap_i64]; omega
 have l : IntKind.i64.wrap ((l0.length : Int) + (l2.length : Int) - (i : Int)) = ((l0.length + l2.length - i : Nat) : Int):=by rw [IntKind.wrap_i64]; omega
 have m : IntKind.i64.wrap ((i : Int) + (l2.length : Int)) = ((i + l2.length : Nat) : Int):=by rw [IntKind.wrap_i64]; omega
 have b : sub l0 (0 + (0 : Int)) ((0 + (0 : Int)) + ((i : Int) - (0 : Int))) = l0.take i:=by
  unfold sub
  rw [show ((0 : Int) + 0).toNat = 0 from rfl,List.drop_zero]; congr 1; omega
 have c : sub l0 (0 + (i : Int)) ((0 + (i : Int)) + ((l0.length : Int) - (i : Int))) = l0.drop i:=by
  unfold sub
  rw [show ((0 : Int) + (i : Int)).toNat = i from by omega]
  exact List.take_of_length_le (by rw [List.length_drop]; omega)
 simp only [lt,j,l,m,b,c,Int.toNat_natCast,show ((0 : Int) + (i : Int)).toNat = i from by omega,show ((0 : Int) + ((i + l2.length : Nat) : Int)).toNat = i + l2.length from by omega]
 have li : (l0.take i).length = i:=by rw [List.length_take]; omega
 have n33 : (l0.take i ++ List.replicate (l0.length + l2.length - i) z0).length = l0.length + l2.length:=by rw [List.length_append,li,List.length_replicate]; omega
 have d : l2.take (((l0.take i ++ List.replicate (l0.length + l2.length - i) z0).length : Int) - (i : Int)).toNat = l2:=by rw [n33]; exact List.take_of_length_le (by omega)
 have n41 : bB (l0.take i ++ List.replicate (l0.length + l2.length - i) z0) i l2 = l0.take i ++ l2 ++ List.replicate (l0.length - i) z0:=by
  unfold bB
  rw [List.take_left' li]
  congr 1
  rw [show List.drop (i + l2.length) (l0.take i ++ List.replicate (l0.length + l2.length - i) z0) = List.drop l2.length (List.drop i (l0.take i ++ List.replicate (l0.length + l2.length - i) z0)) from by rw [List.drop_drop],List.drop_left' li,List.drop_replicate]
  congr 1; omega
 have uA : (l0.take i ++ l2 ++ List.replicate (l0.length - i) z0).length = l0.length + l2.length:=by rw [List.length_append,List.length_append,li,List.length_replicate]; omega
 rw [if_pos (by omega),if_pos (by rw [li]; omega),if_pos (by rw [n33]; omega),d,n41,if_pos (by rw [uA]; omega),if_pos (by omega),uA]
 have h : (l0.drop i).take (((l0.length + l2.length : Nat) : Int) - ((i + l2.length : Nat) : Int)).toNat = l0.drop i:=List.take_of_length_le (by rw [List.length_drop]; omega)
 rw [h]
 congr 1
 unfold bB
 have a : (l0.take i ++ l2).length = i + l2.length:=by rw [List.length_append,li]
 have hd : List.drop (i + l2.length + (l0.drop i).length) (l0.take i ++ l2 ++ List.replicate (l0.length - i) z0) = []:=List.drop_eq_nil_of_le (by rw [uA,List.length_drop]; omega)
 rw [List.take_left' a,hd,List.append_nil]
end
end Go.Proofs.YtckilbegmbaeeaaGreat.SL
namespace Go.Proofs.YtckilbegmbaeeaaGreat.SL
open Go Go.RowKit
set_option linter.unusedVariables false
set_option linter.unusedSimpArgs false
section
variable {P : Program} {n : Nat} {Q : dI} {e : Env} {ds : List Deferred} {As : List bC} {d : Option Nat} {ty T T' E tx tn : TypeId} {pos : String} {aft : Array Edge} {g : Option (Nat × Bool)} {x y z : Operand} {K : Env → List Deferred → List bC → Prop}
theorem pH {α : Type} {kd : Kd α} {A : Option Addr} {c k off sz : Nat} {xs zs : List α} {es : List Value} {I h : Hp} {w : World} (hsz : kd.sz = sz) (hk : As[k]? = some (Buf kd T A c xs)) (s : cq As I h) (f : ig I h w) (hr : RL kd I es zs) (hfit : off + zs.length ≤ xs.length) (h0 : 0 < zs.length) :
  ∃ b w',A = some ⟨b,0,none⟩∧(storeCells ⟨b,off * sz,none⟩ es).run P w = .ok () w'∧∃ h',cq (As.set k (Buf kd T A c (bB xs off zs))) I h'∧dl I h w I h' w':=by
 obtain ⟨q,l,⟨xc,hxr,hc⟩,ff⟩:=dm hk s
 rcases hc with ⟨_,hc,hx⟩ | ⟨gb,cur,hAA,⟨fr,hg,hfz⟩,hlc,hcm,hcs,ht⟩
 ·subst hx
  simp only [List.length_nil] at hfit; omega
 ·subst hAA
  have hcl:=hr.len
  have hh : h gb = some (.cells cur T fr):=l gb _ hg
  have hm : (off + zs.length) * sz ≤ xs.length * sz:=Nat.mul_le_mul_right _ hfit
  have a : xs.length * sz ≤ c * sz:=Nat.mul_le_mul_right _ hlc
  rw [hsz] at hcl hcs ht
  rw [Nat.add_mul] at hm
  have hcurl : cur.toList.length = c * sz:=(Array.length_toList (xs:=cur)).trans hcs
  have hst:=eP (P:=P) gb (off * sz) T fr es 0 cur w (f.own gb _ hh) hfz.1 (by rw [hcl,hcs]; simpa using Nat.le_trans hm a) hr.one
  simp only [Nat.add_zero] at hst
  refine ⟨gb,_,rfl,hst,_,jp ff hg ?_,dl.setRow f hh⟩
  have hol : (bB xs off zs).length = xs.length:=eR hfit
  have hxl:=hxr.len
  rw [hsz] at hxl
  have d:=RL.sub (kd:=kd) 0 off hxr
  have j:=RL.sub (kd:=kd) (off + zs.length) (xs.length - (off + zs.length)) hxr
  simp only [Nat.zero_mul,List.drop_zero,hsz] at d j
  have hall:=(d.app hr).app j
  have ex : List.take (xs.length - (off + zs.length)) (xs.drop (off + zs.length)) = xs.drop (off + zs.length):=List.take_of_length_le (by rw [List.length_drop]; exact Nat.le_refl _)
  have ec : List.take ((xs.length - (off + zs.length)) * sz) (xc.drop ((off + zs.length) * sz)) = xc.drop ((off + zs.length) * sz):=List.take_of_length_le (by rw [List.length_drop,hxl,Nat.sub_mul]; exact Nat.le_refl _)
  rw [ex,ec] at hall
  have hsl : (List.take (off * sz) cur.toList ++ es ++ List.drop (off * sz + es.length) cur.toList).length = cur.toList.length:=gD (B:=cur.toList) (m:=off * sz) (vs:=es) (by rw [hcl,hcurl]; omega)
  refine ⟨_,hall,.inr ⟨gb,_,rfl,⟨fr,if_pos rfl,by rw [List.size_toArray,hsl,Array.length_toList]; exact hfz⟩,by rw [hol]; exact hlc,hcm,?_,?_⟩⟩
  ·rw [List.size_toArray,hsl,hsz]; exact hcurl
  ·rw [hol,hsz]
   show (eg cur.toList (off * sz) es).take (xs.length * sz) = _
   have hN : xs.length * sz ≤ cur.toList.length:=by omega
   have hB : eg cur.toList (off * sz) es = cur.toList.take (off * sz) ++ es ++ cur.toList.drop (off * sz + es.length):=rfl
   rw [hB,List.take_append,List.take_of_length_le (by rw [List.length_append,List.length_take,hcl]; omega)]
   have o : xc.take (off * sz) = cur.toList.take (off * sz):=by
    rw [← ht,List.take_take]; congr 1; omega
   have p : xc.drop ((off + zs.length) * sz) = (cur.toList.drop (off * sz + es.length)).take (xs.length * sz - (off * sz + es.length)):=by
    rw [← ht,List.drop_take,hcl,Nat.add_mul]
   rw [o,p]
   congr 2
   rw [List.length_append,List.length_take,hcl]; omega
theorem oI {α : Type} {xs : List α} {o : Nat} : bB xs o [] = xs:=by simp [bB]
theorem uL {α : Type} {kd : Kd α} {A V : Option Addr} {c k bytes sz v : Nat} {l m : Int} {xs ys : List α} {u : Value} {zv : Value} (zs : List α) (hzs : zs = bB xs (l + m).toNat ys) (w : eu A V sz l m v) (hd : cb d n = true) (hu : P.underlying T = some (.slice E)) (hi : (P.info? E).map (fun i=>(i.zero,i.size,i.bytes)) = some (some zv,sz,bytes)) (hsz : kd.sz = sz)
  (hk : As[k]? = some (Buf kd T' A c xs)) (hx : ev e x = .slice V m.toNat v) (hy : ev e y = u) (hs : ng P kd tx u ys As) (hroom : m + (ys.length : Int) ≤ (v : Int)) (hfit : l + m + (ys.length : Int) ≤ (xs.length : Int))
  (hK : K (put e d (.slice V (m + (ys.length : Int)).toNat v)) ds (As.set k (Buf kd T' A c zs))) : OA P n ⟨d,.call { callee:=.builtin .append,args:=#[x,y],argTypes:=#[T,tx] },ty,pos,aft,g⟩ K Q e ds As:=by
 subst hzs
 intro I h' a wd s r f
 obtain ⟨es,hre,src⟩:=hs I h' wd s f.sees
 obtain ⟨lo,no,cap,adr⟩:=w
 have helen:=hre.len
 have j : (m + (ys.length : Int)).toNat = m.toNat + ys.length:=by omega
 cases hq : P.info? E with
 | none=>simp [hq] at hi
 | some q =>
  simp only [hq,Option.map_some,Option.some.injEq,Prod.mk.injEq] at hi
  obtain ⟨L,h,M⟩:=hi
  have i2' : kd.sz = q.size:=hsz.trans h.symm
  rw [i2'] at src helen
  have hexec : ∀ {v' : Value} {w' : World},(Builtin.append_ #[T,tx] ty #[.slice V m.toNat v,u]).run P wd = .ok v' w' → (execOp (ev e) ⟨d,.call { callee:=.builtin .append,args:=#[x,y],argTypes:=#[T,tx] },ty,pos,aft,g⟩).run P wd = .ok (.value v') w':=fun {v' w'} hh=>by
   simp [execOp,resolve,invoke,builtin,hx,hy,hh]
  have hroom' : m.toNat + ys.length ≤ v:=by omega
  by_cases F : ys.length = 0
  ·have p:=List.eq_nil_of_length_eq_zero F
   subst p
   simp only [RL] at hre; subst hre
   have sc : (Builtin.firstCells q.size 0 u).run P wd = .ok #[] wd:=src.cells
   have sl : ∀ w',(Builtin.lenOf u).run P w' = .ok 0 w':=src.len
   have hrun : (Builtin.append_ #[T,tx] ty #[.slice V m.toNat v,u]).run P wd = .ok (.slice V m.toNat v) wd:=by
    have o : m.toNat ≤ v:=by omega
    rcases src.kind with ⟨e',hkk⟩ | hkk <;> cases V <;> simp [Builtin.append_,run_underlying hu,run_underlying hkk,sizeOf,typeInfo,hq,sc,sl,storeCells,o]
   unfold Oper.wp
   rw [r.eval,hexec hrun]
   rw [oI,oc hk] at hK
   simp only [List.length_nil,Int.ofNat_zero,Int.add_zero] at hK
   exact ⟨_,ds,As,I,h',r.put hd _,s,dl.refl f,hK⟩
  ·obtain ⟨b,w',hA,hst,h2,J,D⟩:=pH (P:=P) (off:=(l + m).toNat) (es:=es) hsz hk s f hre (by omega) (by omega)
   have hV : V = some ⟨b,l.toNat * sz,none⟩:=by
    rcases adr with z | z
    ·omega
    ·rw [z,hA]; simp [Addr.add_lit]
   have hrun : (Builtin.append_ #[T,tx] ty #[.slice V m.toNat v,u]).run P wd = .ok (.slice V (m.toNat + ys.length) v) w':=by
    rw [hV]
    have B : (l + m).toNat * sz = l.toNat * sz + m.toNat * sz:=by rw [← Nat.add_mul]; congr 1; omega
    rw [B,← h] at hst
    rw [← h]
    rcases src.kind with ⟨e',hkk⟩ | hkk <;> simp [Builtin.append_,run_underlying hu,run_underlying hkk,sizeOf,typeInfo,hq,src.len,hroom',src.cells,Addr.add_lit,hst]
   unfold Oper.wp
   rw [r.eval,hexec hrun]
   rw [j] at hK
   exact ⟨_,ds,_,I,h2,r.put hd _,J,D,hK⟩
theorem sx {α : Type} {kd : Kd α} {A V : Option Addr} {c k sz v : Nat} {l m : Int} {xs : List α} {zv : Value} {z0 : α} (zs : List α) (hzs : zs = bB xs l.toNat (List.replicate m.toNat z0)) (w : eu A V sz l m v) (hd : cb d n = true) (hu : P.underlying T = some (.slice E)) (hi : (P.info? E).bind (·.zero) = some zv) (hsz : kd.sz = sz)
  (hk : As[k]? = some (Buf kd T' A c xs)) (hx : ev e x = .slice V m.toNat v) (hz : ∀ I,kd.R I zv.cells.toList z0) (hfit : l + m ≤ (xs.length : Int))
  (hK : K (put e d (.tuple #[])) ds (As.set k (Buf kd T' A c zs))) : OA P n ⟨d,.call { callee:=.builtin .clear,args:=#[x],argTypes:=#[T] },ty,pos,aft,g⟩ K Q e ds As:=by
 subst hzs
 intro I h' a wd s r f
 obtain ⟨lo,no,cap,adr⟩:=w
 have hzv : ∀ w,(zeroValue E).run P w = .ok zv w:=fun w=>by
  cases hq : P.info? E with
  | none=>simp [hq] at hi
  | some q=>simp [hq] at hi; simp [zeroValue,typeInfo,hq,hi]
 have hexec : ∀ {v' : Value} {w' : World},(Builtin.clear_ #[T] ty #[.slice V m.toNat v]).run P wd = .ok v' w' → (execOp (ev e) ⟨d,.call { callee:=.builtin .clear,args:=#[x],argTypes:=#[T] },ty,pos,aft,g⟩).run P wd = .ok (.value v') w':=fun {v' w'} hh=>by
  simp [execOp,resolve,invoke,builtin,hx,hh]
 by_cases h : m.toNat = 0
 ·have hrun : (Builtin.clear_ #[T] ty #[.slice V m.toNat v]).run P wd = .ok (.tuple #[]) wd:=by
   rw [h]
   cases V <;> simp [Builtin.clear_,run_underlying hu]
  unfold Oper.wp
  rw [r.eval,hexec hrun]
  rw [h,List.replicate_zero,oI,oc hk] at hK
  exact ⟨_,ds,As,I,h',r.put hd _,s,dl.refl f,hK⟩
 ·have hre:=RL.rep (d:=kd) (hz I) m.toNat
  have hzc : (Builtin.zeroCells zv.cells m.toNat).toList = List.flatten (List.replicate m.toNat zv.cells.toList):=by
   unfold Builtin.zeroCells
   exact jF zv.cells m.toNat
  rw [← hzc] at hre
  obtain ⟨b,w',hA,hst,h2,o,j⟩:=pH (P:=P) (off:=l.toNat) hsz hk s f hre (by simp; omega) (by simp; omega)
  have hV : V = some ⟨b,l.toNat * sz,none⟩:=by
   rcases adr with z | z
   ·omega
   ·rw [z,hA]; simp [Addr.add_lit]
  obtain ⟨N,hN⟩ : ∃ N,m.toNat = N + 1:=⟨m.toNat - 1,by omega⟩
  have hrun : (Builtin.clear_ #[T] ty #[.slice V m.toNat v]).run P wd = .ok (.tuple #[]) w':=by
   rw [hV]
   rw [hN] at hst ⊢
   simp [Builtin.clear_,run_underlying hu,hzv,hst]
  unfold Oper.wp
  rw [r.eval,hexec hrun]
  exact ⟨_,ds,_,I,h2,r.put hd _,o,j,hK⟩
theorem tc {α : Type} {kd : Kd α} {A : Option Addr} {c k : Nat} {xs : List α} (m : Nat) (hk : As[k]? = some (Buf kd T A c xs)) : Gh As (As.set k (Buf kd T A c (xs.take m))):=by
 intro I h w s f
 obtain ⟨p,l,⟨cs,hr,hc⟩,ff⟩:=dm hk s
 have j:=RL.sub (kd:=kd) 0 m hr
 simp only [Nat.zero_mul,List.drop_zero] at j
 refine ⟨I,h,dl.refl f,ff _ I p h (Le.refl I) ⟨_,j,?_⟩ l fun b o a d=>⟨a,d⟩⟩
 rcases hc with ⟨a,d,q⟩ | ⟨gb,cur,hA,hg,hlc,hcm,hcs,ht⟩
 ·exact .inl ⟨a,d,by rw [q]; simp⟩
 ·refine .inr ⟨gb,cur,hA,hg,by rw [List.length_take]; omega,hcm,hcs,?_⟩
  rw [← ht,List.take_take,List.length_take]
  congr 1
  rcases Nat.le_total m xs.length with z | z
  ·rw [Nat.min_eq_left z,Nat.min_eq_left (Nat.mul_le_mul_right _ z)]
  ·rw [Nat.min_eq_right z,Nat.min_eq_right (Nat.mul_le_mul_right _ z)]
theorem um {A : Option Addr} {m : Int} {sz : Nat} : dj A 0 m sz = A:=by
 simp only [dj,dj.sliced_addr]
 split
 ·rfl
 ·cases A <;> simp [add_zero]
theorem eu.grow {A V : Option Addr} {sz v : Nat} {l n b : Int} (w : eu A V sz l n v) (h0 : 0 ≤ b) (h1 : b ≤ (v : Int)) : eu A V sz l b v:=⟨w.lo,h0,h1,w.adr⟩
theorem tq {A V : Option Addr} {sz v : Nat} {l m a b q : Int} {lo hi mx : Option Operand} {lv hv : Option Value} (w : eu A V sz l m v) (hu : P.underlying T = some (.slice E)) (hz : (P.info? E).map (·.size) = some sz) (hx : ev e x = .slice V m.toNat v)
  (hlo : lo.map (ev e) = lv) (hhi : hi.map (ev e) = hv) (hmx : mx.map (ev e) = none)
  (hl : lv = none∧a = 0 ∨ ∃ k,lv = some (.int k a)) (hh : hv = none∧(none : Option Value) = none∧b = m ∨ ∃ k,hv = some (.int k b))
  (h0 : 0 ≤ a) (h1 : a ≤ b) (h2 : b ≤ (v : Int)) (hq : q = (v : Int):=by rfl) : SL.V P e ⟨d,.slice T x lo hi mx,ty,pos,aft,g⟩ (.slice (dj V a q sz) (b - a).toNat (q.toNat - a.toNat)):=fun wd=>by
 obtain ⟨wl,no,cap,_⟩:=w
 have:=nu (P:=P) (e:=e) (d:=d) (ty:=ty) (pos:=pos) (aft:=aft) (g:=g) (T:=T) (h:=b) (m:=q) hu hz hx hlo hhi hmx ⟨hl,?_,.inl ⟨rfl,hq⟩⟩ h0 h1 (by omega) (by omega) wd
 ·rw [this,show b.toNat - a.toNat = (b - a).toNat from by omega]
 ·rcases hh with ⟨p,r,s⟩ | p
  ·exact .inl ⟨p,r,by omega⟩
  ·exact .inr p
theorem oC {b m k : Nat} {cs vs : List Value} {v : Value} {cs' : List Value} (hd : cb d n = true) (hk : As[k]? = some (aK b T' cs)) (hx : ev e x = .pointer (some ((⟨b,0,none⟩ : Addr).add m))) (hy : ev e y = v) (hv : v.cells.toList = vs)
  (h1 : vs.all (·.oneCell') = true) (hz : (P.info? T).map (·.size) = some vs.length) (hl : m + vs.length ≤ cs.length) (hc : eg cs m vs = cs') (h : K (put e d undef) ds (As.set k (aK b T' cs'))) : OA P n ⟨d,.store T x y,ty,pos,aft,g⟩ K Q e ds As :=
 qf cs' hd hk hx hy (by rw [← hv]) (fun u hu=>List.all_eq_true.1 h1 u hu) hz hl hc h
end
def gW (Hs : List bC) (w : World) : Prop:=∃ I h,cq Hs I h∧lZ I h w
section
variable {P : Program} {n : Nat} {Q : dI} {e : Env} {ds : List Deferred} {As Bs Hs : List bC} {ops : Array Oper} {T : List Nat} {an : Array (List Nat)} {I0 hh0 : Hp} {w0 : World} {fuel : Nat} {listed : Array Bool}
theorem fN {id : Nat} {ol : List Oper} (T : List Nat) (an : Array (List Nat)) (Hs : List bC) (hm : P.follows .mixedOrders = true) (hq : bU Q)
  (h : ∀ I0 hh0 w0,bU Q → DN P n ol.toArray Q T an (gW Hs) I0 hh0 w0 ol.length (Array.replicate ol.length false) e ds As) : SA P n (.region id ol.toArray true) Q e ds As:=by
 intro I hh a w s r f
 have fd:=(dl.drew f).fits
 have hw:=h I hh { w with drawn:=w.drawn + 1 } hq I hh a _ s r fd (dl.refl fd)
 have:=wp_region_any (id:=id) hm (kQ _ _ _ _ (by rw [List.size_toArray]; exact hw))
 exact wp_mono this fun x a' w' p=>eG.goes (dl.drew f) p
theorem jj {v : Value} {oi : Oper} (i : Nat) (ks : List Nat) (ht : mh ops an listed i = true) (hT : T.contains i = true) (hi : ops[i]? = some oi) (hw : Wt ops n e oi) (hQ : bU Q) (hd : cb oi.dst n = true) (hs : eM ks As = true) (eH : sel ks As = Hs) (hv : VR P Hs e oi v)
  (h : DN P n ops Q T an (gW Hs) I0 hh0 w0 fuel (listed.setIfInBounds i true) (put e oi.dst v) ds As) : DN P n ops Q T an (gW Hs) I0 hh0 w0 (fuel + 1) listed e ds As:=by
 intro I hh a w s r f g
 simp only [mh,Bool.and_eq_true] at ht
 obtain ⟨⟨⟨⟨b,h2⟩,c⟩,d⟩,j⟩:=ht
 exact ic hi (Region.noSelect_spec b) (mG hQ hd) j (.inl ⟨by simpa using hT,rfl⟩) fuel listed a w (Region.free_spec hi h2) (by simpa using c) (Inv.of d)
  (.inl ⟨hw.wanted r,fun w' ⟨I',h',s',se'⟩=>by rw [r.eval]; exact hv I' h' w' s' se'⟩) ⟨I,hh,eH ▸ ia hs s,f.sees⟩ (h I hh _ w s (r.put hd v) f g)
theorem jH {oi : Oper} (i : Nat) (ks : List Nat) (ht : mh ops an listed i = true) (hT : T.contains i = true) (hi : ops[i]? = some oi) (hw : Ut ops n e oi) (hQ : bU Q) (hd : cb oi.dst n = true) (hs : eM ks As = true) (eH : sel ks As = Hs)
  (h : DN P n ops Q T an (gW Hs) I0 hh0 w0 fuel (listed.setIfInBounds i true) (put e oi.dst undef) ds As) : DN P n ops Q T an (gW Hs) I0 hh0 w0 (fuel + 1) listed e ds As:=by
 intro I hh a w s r f g
 simp only [mh,Bool.and_eq_true] at ht
 obtain ⟨⟨⟨⟨b,h2⟩,c⟩,d⟩,j⟩:=ht
 exact ic hi (Region.noSelect_spec b) (mG hQ hd) j (.inl ⟨by simpa using hT,rfl⟩) fuel listed a w (Region.free_spec hi h2) (by simpa using c) (Inv.of d)
  (.inr ⟨hw.unwanted r,rfl⟩) ⟨I,hh,eH ▸ ia hs s,f.sees⟩ (h I hh _ w s (r.put hd undef) f g)
def Es (P : Program) (n : Nat) (ops : Array Oper) (Q : dI) (T : List Nat) (an : Array (List Nat)) (Hs : List bC) (I0 hh0 : Hp) (w0 : World) (fuel : Nat) (listed : Array Bool) (e : Env) (ds : List Deferred) (As : List bC) (i : Nat) : Prop :=
 ∃ oi,ops[i]? = some oi∧Wt ops n e oi∧OA P n oi (fun e ds As=>(kJ T an i = true → ∃ ks,eM ks As = true∧sel ks As = Hs)∧DN P n ops Q T an (gW Hs) I0 hh0 w0 fuel (listed.setIfInBounds i true) e ds As) nB e ds As
theorem uF {rs : List Nat} (hr : Region.ready .any ops listed = rs) (hne : rs ≠ []) (h : ∀ i ∈ rs,Es P n ops Q T an Hs I0 hh0 w0 fuel listed e ds As i) : DN P n ops Q T an (gW Hs) I0 hh0 w0 (fuel + 1) listed e ds As:=by
 intro I hh a w s r f g
 refine ⟨fun h'=>absurd (hr ▸ h') hne,hr ▸ fun i hi=>?_⟩
 obtain ⟨oi,hoi,hw,h⟩:=h i hi
 have hwp:=h I hh a w s r f
 unfold wpOp
 simp only [hoi,hw.wanted r,if_true]
 refine .inl ?_
 have next : ∀ a' w',(∃ e' ds' As' I' h'',mn n e' ds' a'∧cq As' I' h''∧dl I hh w I' h'' w'∧((kJ T an i = true → ∃ ks,eM ks As' = true∧sel ks As' = Hs)∧DN P n ops Q T an (gW Hs) I0 hh0 w0 fuel (listed.setIfInBounds i true) e' ds' As')) → (kJ T an i = true → gW Hs w')∧jT P ops (eG n Q I0 hh0 w0) (gW Hs) T an fuel (listed.setIfInBounds i true) a' w':=fun a' w' ⟨e',ds',As',I',h'',r',s',g',qs,q⟩ =>
  ⟨fun hn=>by obtain ⟨ks,b,h2⟩:=qs hn; exact ⟨I',h'',h2 ▸ ia b s',g'.fits.sees⟩,q I' h'' a' w' s' r' g'.fits (g.trans g')⟩
 unfold Oper.wp at *
 generalize (execOp a.eval oi).run P w = fF at *
 cases fF with
 | ok x w' =>
  cases x <;> simp only [Oper.upon] at hwp ⊢ <;> first
   | exact next _ _ hwp
   | exact Calls.mono hwp (fun ee w'' he=>by cases ee <;> first | exact next _ _ he | exact nB.no he | (obtain ⟨c,d,q⟩:=he; exact nB.no q))
   | exact Rows.mono hwp (fun _ _ he=>next _ _ he)
   | exact nB.no hwp
 | halt x w'=>cases x <;> simp only [Oper.upon] at hwp ⊢ <;> first | exact nB.no hwp | exact hwp
theorem eX {oi : Oper} (i : Nat) (hr : Region.ready .any ops listed = [i]) (hi : ops[i]? = some oi) (hw : Wt ops n e oi) (h : OA P n oi (fun e ds As=>(kJ T an i = true → ∃ ks,eM ks As = true∧sel ks As = Hs)∧DN P n ops Q T an (gW Hs) I0 hh0 w0 fuel (listed.setIfInBounds i true) e ds As) nB e ds As) : DN P n ops Q T an (gW Hs) I0 hh0 w0 (fuel + 1) listed e ds As :=
 uF hr (by simp) (bG ⟨oi,hi,hw,h⟩ df)
end
end Go.Proofs.YtckilbegmbaeeaaGreat.SL
namespace Go.Proofs.YtckilbegmbaeeaaGreat.SL
open Go Go.RowKit
set_option linter.unusedVariables false
set_option linter.unusedSimpArgs false
class mo (P : Program) (T : TypeId) (td : outParam TypeDesc) : Type where u : P.underlying T = some td
class jU (P : Program) (T : TypeId) (i : Nat) (o : outParam Nat) : Prop where
 u : ∃ fs f,P.underlying T = some (.struct fs)∧fs[i]? = some f∧f.offset = o∧((P.info? f.type).map fun i=>decide (i.size = 0)) = some false
class nH (P : Program) (T : TypeId) (n : outParam Nat) : Type where u : (P.info? T).map (·.size) = some n
class qH (P : Program) (T : TypeId) (z : outParam Value) : Type where u : (P.info? T).bind (·.zero) = some z
class dH (P : Program) (f : FuncId) (fn : outParam Func) : Type where
 u : P.funcs[f]? = some fn
 m : (fn.name == "runtime.NumGoroutine") = false
theorem aN {α : Type} {a b : α} (h : some a = some b) : a = b:=Option.some.inj h
abbrev aH (b : Nat) : Value:=.pointer (some ⟨b,0,none⟩)
abbrev sM (b m : Nat) : Value:=.pointer (some ((⟨b,0,none⟩ : Addr).add m))
abbrev ae (x : Int) : Value:=.int .i64 x
abbrev aL (x : Int) : Value:=.int .i32 x
abbrev gf (T : TypeId) (A : Option Addr) (c : Nat) (xs : List Int) : bC:=Buf (Kd.int .i64) T A c xs
abbrev kU (T : TypeId) (A : Option Addr) (c : Nat) (xs : List Int) : bC:=Buf (Kd.int .i32) T A c xs
abbrev pG (A : Option Addr) (c : Nat) (xs : List Int) : bC:=Ro (Kd.int .i64) A c xs
abbrev nZ (A : Option Addr) (c : Nat) (xs : List Int) : bC:=Ro (Kd.int .i32) A c xs
def dt : Nat → Nat → List Nat
 | _,0=>[]
 | a,n + 1=>a::dt (a + 1) n
class vE (P : Program) (T : TypeId) (pl : outParam (List (Nat × Nat))) : Type where
 u : ∀ fs,P.underlying T = some (.struct fs) → ∀ w,(fs.mapM (fun f=>do pure (f.offset,← sizeOf f.type) : Field → Sem (Nat × Nat))).run P w = .ok pl.toArray w
section
variable {P : Program} {n : Nat} {Q : dI} {e : Env} {ds : List Deferred} {As B : List bC} {l : List (Nat × Value)} {K : Env → List Deferred → List bC → Prop} {d : Option Nat} {ty T T' E tx : TypeId} {pos : String} {aft : Array Edge} {g : Option (Nat × Bool)} {x y z c : Operand}
variable {ops : Array Oper} {o : Oper} {os : List Oper}
theorem s' (v : Value) (hv : V P e o v) (h : RA P n ops Q os (put e o.dst v) ds As) (hg : o.guard = none:=by exact rfl) (hd : cb o.dst n = true:=by exact rfl) : RA P n ops Q (o::os) e ds As:=lF hg (dr hd hv h)
theorem bP (v : Value) (hv : V P e o v) (hg : o.guard = none:=by exact rfl) (hd : cb o.dst n = true:=by exact rfl) (h : RA P n ops Q os (put e o.dst v) ds As) : RA P n ops Q (o::os) e ds As:=s' (v:=v) (hv:=hv) (h:=h) (hg:=hg) (hd:=hd)
theorem l' {v : Value} (hv : VR P As e o v) (h : RA P n ops Q os (put e o.dst v) ds As) (hg : o.guard = none:=by exact rfl) (hd : cb o.dst n = true:=by exact rfl) : RA P n ops Q (o::os) e ds As:=lF hg (dC hd hv h)
theorem bp {v : Value} (hv : VR P As e o v) (hg : o.guard = none:=by exact rfl) (hd : cb o.dst n = true:=by exact rfl) (h : RA P n ops Q os (put e o.dst v) ds As) : RA P n ops Q (o::os) e ds As:=l' (hv:=hv) (h:=h) (hg:=hg) (hd:=hd)
theorem y' {j t : Nat} {want b : Bool} (hb : b = want) (v : Value) (hv : V P e o v) (h : RA P n ops Q os (put e o.dst v) ds As) (hg : o.guard = some (j,want):=by exact rfl) (hj : (ops[j]?).bind (·.dst) = some t:=by exact rfl) (hd : Nat.blt t n = true:=by exact rfl) (hv' : e t = .bool b:=by exact rfl) (hd' : cb o.dst n = true:=by exact rfl) : RA P n ops Q (o::os) e ds As:=ns hg hj hd hv' hb (dr hd' hv h)
theorem iI {j t : Nat} {want b : Bool} (hb : b = want) (v : Value) (hv : V P e o v) (hg : o.guard = some (j,want):=by exact rfl) (hj : (ops[j]?).bind (·.dst) = some t:=by exact rfl) (hd : Nat.blt t n = true:=by exact rfl) (hv' : e t = .bool b:=by exact rfl) (hd' : cb o.dst n = true:=by exact rfl) (h : RA P n ops Q os (put e o.dst v) ds As) : RA P n ops Q (o::os) e ds As:=y' (hb:=hb) (v:=v) (hv:=hv) (h:=h) (hg:=hg) (hj:=hj) (hd:=hd) (hv':=hv') (hd':=hd')
theorem z' {j t : Nat} {want b : Bool} {v : Value} (hb : b = want) (hv : VR P As e o v) (h : RA P n ops Q os (put e o.dst v) ds As) (hg : o.guard = some (j,want):=by exact rfl) (hj : (ops[j]?).bind (·.dst) = some t:=by exact rfl) (hd : Nat.blt t n = true:=by exact rfl) (hv' : e t = .bool b:=by exact rfl) (hd' : cb o.dst n = true:=by exact rfl) : RA P n ops Q (o::os) e ds As:=ns hg hj hd hv' hb (dC hd' hv h)
theorem cE {j t : Nat} {want b : Bool} {v : Value} (hb : b = want) (hv : VR P As e o v) (hg : o.guard = some (j,want):=by exact rfl) (hj : (ops[j]?).bind (·.dst) = some t:=by exact rfl) (hd : Nat.blt t n = true:=by exact rfl) (hv' : e t = .bool b:=by exact rfl) (hd' : cb o.dst n = true:=by exact rfl) (h : RA P n ops Q os (put e o.dst v) ds As) : RA P n ops Q (o::os) e ds As:=z' (hb:=hb) (hv:=hv) (h:=h) (hg:=hg) (hj:=hj) (hd:=hd) (hv':=hv') (hd':=hd')
theorem o' (h : OA P n o (RA P n ops Q os) Q e ds As) (hg : o.guard = none:=by exact rfl) : RA P n ops Q (o::os) e ds As:=lF hg h
theorem fT {j t : Nat} {want b : Bool} (hb : b = want) (h : OA P n o (RA P n ops Q os) Q e ds As) (hg : o.guard = some (j,want):=by exact rfl) (hj : (ops[j]?).bind (·.dst) = some t:=by exact rfl) (hd : Nat.blt t n = true:=by exact rfl) (hv' : e t = .bool b:=by exact rfl) : RA P n ops Q (o::os) e ds As:=ns hg hj hd hv' hb h
theorem fY {j t : Nat} {want : Bool} (h : RA P n ops Q os (put e o.dst undef) ds As) (hg : o.guard = some (j,want):=by exact rfl) (hj : (ops[j]?).bind (·.dst) = some t:=by exact rfl) (hd : Nat.blt t n = true:=by exact rfl) (hv : e t = undef:=by exact rfl) (ho : cb o.dst n = true:=by exact rfl) : RA P n ops Q (o::os) e ds As:=wx hg hj hd hv ho h
def pu (e : Env) : List Oper → Env
 | []=>e
 | o::os=>pu (put e o.dst undef) os
def zh (ops : Array Oper) (n j t : Nat) (want : Bool) : List Oper → Bool
 | []=>true
 | o::os=>(match o.guard with | some (i,w)=>Nat.beq i j && (w == want) | none=>false) && cb o.dst n && (match o.dst with | some u=>!Nat.beq t u | none=>true) && zh ops n j t want os
theorem sO {e : Env} {d : Option Nat} {t : Nat} {v : Value} (h : (match d with | some u=>!Nat.beq t u | none=>true) = true) : put e d v t = e t:=by
 cases d with
 | none=>rfl
 | some u =>
  have h' : Nat.beq t u = false:=by simpa using h
  simp [put,upd,h']
theorem wy {j t : Nat} {want b : Bool} (hj : (ops[j]?).bind (·.dst) = some t) (hd : Nat.blt t n = true) (hb : b = !want) : ∀ {os1 os2 : List Oper} {e : Env},zh ops n j t want os1 = true → e t = .bool b → RA P n ops Q os2 (pu e os1) ds As → RA P n ops Q (os1 ++ os2) e ds As:=by
 intro os1
 induction os1 with
 | nil=>intro os2 e _ _ h; exact h
 | cons o os1 ih =>
  intro os2 e hc hv h
  simp only [zh,Bool.and_eq_true] at hc
  obtain ⟨⟨⟨a,h2⟩,c⟩,d⟩:=hc
  cases hg : o.guard with
  | none=>simp [hg] at a
  | some p =>
   obtain ⟨i,w⟩:=p
   simp only [hg,Bool.and_eq_true,beq_iff_eq] at a
   obtain ⟨hi,rfl⟩:=a
   have hi:=Nat.eq_of_beq_eq_true hi
   subst hi
   exact ww hg hj hd hv hb h2 (ih d (by rw [sO c]; exact hv) h)
theorem cu {j t : Nat} {want b : Bool} (m : Nat) (hb : b = !want) (h : RA P n ops Q (os.drop m) (pu e (os.take m)) ds As) (hg : (os.head?).bind (·.guard) = some (j,want):=by exact rfl) (hj : (ops[j]?).bind (·.dst) = some t:=by exact rfl) (hd : Nat.blt t n = true:=by exact rfl) (hv : e t = .bool b:=by exact rfl) (hc : zh ops n j t want (os.take m) = true:=by exact rfl) : RA P n ops Q os e ds As:=by
 have:=wy (P:=P) (Q:=Q) (ds:=ds) (As:=As) hj hd hb hc hv h
 rwa [List.take_append_drop] at this
theorem fO {v : Value} (hx : ev e x = v:=by exact rfl) : V P e ⟨d,.move x,ty,pos,aft,g⟩ v:=tl hx
theorem rN {v : Value} (hx : ev e x = v:=by exact rfl) : V P e ⟨d,.assign x,ty,pos,aft,g⟩ v:=bo hx
theorem lp {i f : Nat} (B : Addr) (m o : Nat) [hf : jU P T i f] (hx : ev e x = .pointer (some (B.add m)):=by exact rfl) (ho : m + f = o:=by exact rfl) :
  V P e ⟨d,.fieldAddr T x i,ty,pos,aft,g⟩ (.pointer (some (B.add o))):=by
 obtain ⟨fs,w,a,h2,b,c⟩:=hf.u
 exact oW a h2 c hx (by rw [b]; exact ho)
theorem kv {i f : Nat} (b m o : Nat) [hf : jU P T i f] (hx : ev e x = .pointer (some ((⟨b,0,none⟩ : Addr).add m)):=by exact rfl) (ho : m + f = o:=by exact rfl) :
  V P e ⟨d,.fieldAddr T x i,ty,pos,aft,g⟩ (.pointer (some ((⟨b,0,none⟩ : Addr).add o))):=lp _ m o hx ho
theorem cI {A : Addr} (hx : ev e x = .pointer (some A):=by exact rfl) : V P e ⟨d,.nilCheck x,ty,pos,aft,g⟩ (.pointer (some A)):=qW hx
theorem cr {vs : Array Value} {i : Nat} {v : Value} (hx : ev e x = .tuple vs:=by exact rfl) (hv : vs[i]? = some v:=by exact rfl) : V P e ⟨d,.extract x i,ty,pos,aft,g⟩ v:=sB hx hv
theorem ij {v : Value} {td : TypeDesc} {cs : List Value} (b m k : Nat) [hu : mo P T td] (ha : lh td = false:=by exact rfl) (hk : As[k]? = some (aK b T' cs):=by exact rfl) (hx : ev e x = .pointer (some ((⟨b,0,none⟩ : Addr).add m)):=by exact rfl) (hv : cs[m]? = some v:=by exact rfl) : VR P As e ⟨d,.load T x,ty,pos,aft,g⟩ v:=gX hu.u ha hk hx hv
theorem cz {td : TypeDesc} {cs : List Value} {s : Nat} (b m k : Nat) (vs : List Value) [hu : mo P T td] (ha : lh td = true:=by exact rfl) [hz : nH P T s] (hs : s = vs.length:=by exact rfl) (hk : As[k]? = some (aK b T' cs):=by exact rfl) (hx : ev e x = .pointer (some ((⟨b,0,none⟩ : Addr).add m)):=by exact rfl) (hv : (cs.drop m).take vs.length = vs:=by exact rfl) : VR P As e ⟨d,.load T x,ty,pos,aft,g⟩ (.agg vs.toArray):=mq hu.u ha (by rw [hz.u,hs]) hk hx hv
theorem uB {cs : List Value} {v : Value} {s : Nat} (b m k : Nat) (vs : List Value) (h : K (put e d undef) ds (As.set k (aK b T' vs))) [hz : nH P T s] (hd : cb d n = true:=by exact rfl) (hk : As[k]? = some (aK b T' cs):=by exact rfl) (hx : ev e x = .pointer (some ((⟨b,0,none⟩ : Addr).add m)):=by exact rfl) (hy : ev e y = v:=by exact rfl) (hv : v.cells.toList = vs:=by exact rfl)
  (h1 : vs.all (·.oneCell') = true:=by exact rfl) (hs : s = vs.length:=by exact rfl) (hl : Nat.ble (m + vs.length) cs.length = true:=by exact rfl) (hc : eg cs m vs = vs:=by exact rfl) : OA P n ⟨d,.store T x y,ty,pos,aft,g⟩ K Q e ds As:=oB hd hk hx hy hv h1 (by rw [hz.u,hs]) hl hc h
theorem bi {cs : List Value} {v : Value} {s : Nat} (b m k : Nat) (vs : List Value) [hz : nH P T s] (hd : cb d n = true:=by exact rfl) (hk : As[k]? = some (aK b T' cs):=by exact rfl) (hx : ev e x = .pointer (some ((⟨b,0,none⟩ : Addr).add m)):=by exact rfl) (hy : ev e y = v:=by exact rfl) (hv : v.cells.toList = vs:=by exact rfl) (h1 : vs.all (·.oneCell') = true:=by exact rfl) (hs : s = vs.length:=by exact rfl) (hl : Nat.ble (m + vs.length) cs.length = true:=by exact rfl) (hc : eg cs m vs = vs:=by exact rfl) (h : K (put e d undef) ds (As.set k (aK b T' vs))) : OA P n ⟨d,.store T x y,ty,pos,aft,g⟩ K Q e ds As:=uB (b:=b) (m:=m) (k:=k) (vs:=vs) (h:=h) (hd:=hd) (hk:=hk) (hx:=hx) (hy:=hy) (hv:=hv) (h1:=h1) (hs:=hs) (hl:=hl) (hc:=hc)
theorem Ev {v : Value} (h : ∀ b,K (put e d (.pointer (some ⟨b,0,none⟩))) ds (As ++ [aK b E v.cells.toList])) (hd : cb d n = true:=by exact rfl) (hx : ev e x = v:=by exact rfl) : OA P n ⟨d,.box E x,ty,pos,aft,g⟩ K Q e ds As:=wu hd hx h
theorem bO {v : Value} (hd : cb d n = true:=by exact rfl) (hx : ev e x = v:=by exact rfl) (h : ∀ b,K (put e d (.pointer (some ⟨b,0,none⟩))) ds (As ++ [aK b E v.cells.toList])) : OA P n ⟨d,.box E x,ty,pos,aft,g⟩ K Q e ds As:=Ev (h:=h) (hd:=hd) (hx:=hx)
theorem Eu {z : Value} [hz : qH P E z] (h : ∀ b,K (put e d (.pointer (some ⟨b,0,none⟩))) ds (As ++ [aK b E z.cells.toList])) (hd : cb d n = true:=by exact rfl) : OA P n ⟨d,.alloc E,ty,pos,aft,g⟩ K Q e ds As:=mm hd hz.u h
theorem cw {z : Value} [hz : qH P E z] (hd : cb d n = true:=by exact rfl) (h : ∀ b,K (put e d (.pointer (some ⟨b,0,none⟩))) ds (As ++ [aK b E z.cells.toList])) : OA P n ⟨d,.alloc E,ty,pos,aft,g⟩ K Q e ds As:=Eu (h:=h) (hd:=hd)
theorem dP {parts : List (Nat × Operand)} {fs : Array Field} {zv : Value} {pl : List (Nat × Nat)} {cells : List Value} [hz : qH P T zv] [hu : mo P T (.struct fs)] [hp : vE P T pl]
  (hf : Instr.fill (fun i : Nat=>pl[i]?) zv.cells (parts.map fun p=>(p.1,ev e p.2)) = some cells.toArray:=by kernel_rfl) : V P e ⟨d,.build T parts.toArray,ty,pos,aft,g⟩ (.agg cells.toArray):=uQ hz.u hu.u hp.u hf
theorem gH {parts : List (Nat × Operand)} {N sz : Nat} {zv : Value} {cells : List Value} [hz : qH P T zv] [hu : mo P T (.array N E)] [hs : nH P E sz]
  (hf : Instr.fill (fun i : Nat=>some (i * sz,sz)) zv.cells (parts.map fun p=>(p.1,ev e p.2)) = some cells.toArray:=by kernel_rfl) : V P e ⟨d,.build T parts.toArray,ty,pos,aft,g⟩ (.agg cells.toArray):=tk hz.u hu.u hs.u hf
theorem ra {o : Oper} {f : FuncId} {args : Array Value} {pre : List bC} {R : Value → List bC → Prop} (ks rs : List Nat) (hv : ∀ w,(execOp (ev e) o).run P w = .ok (.enter f args) w) (hc : dk P f args pre R) (h : ∀ v B,R v B → K (put e o.dst v) ds (B ++ sel rs As))
  (hd : cb o.dst n = true:=by exact rfl) (hs : eM (ks ++ rs) As = true:=by exact rfl) (hp : sel ks As = pre:=by exact rfl) : OA P n o K Q e ds As:=nC ks rs hd hv hs hc hp h
theorem eZ (ks : List Nat) (hs : eM ks As = true:=by exact rfl) (he : sel ks As = B:=by exact rfl) : Gh As B:=Gh.sel ks hs he
theorem jV (ks : List Nat) (h : kY e l:=by repeat first | exact dS | refine cB rfl ?_) (hs : eM ks As = true:=by exact rfl) (he : sel ks As = B:=by exact rfl) : St l B e [] As:=St.mk1 h (Gh.sel ks hs he)
theorem dX {fn : Func} {R : Value → List bC → Prop} {t : Nat} {v : Value} (ks : List Nat) (hR : R v B) (h : fn.results = #[.tmp t]:=by exact rfl) (hv : e t = v:=by exact rfl) (hs : eM ks As = true:=by exact rfl) (he : sel ks As = B:=by exact rfl) : je P fn (sW R) .ret e [] As:=mi B h hv (Gh.sel ks hs he) hR
theorem fG {fn : Func} {R : Value → List bC → Prop} (ks : List Nat) (hR : R (.tuple #[]) B) (h : fn.results = #[]:=by exact rfl) (hs : eM ks As = true:=by exact rfl) (he : sel ks As = B:=by exact rfl) : je P fn (sW R) .normal e [] As:=rH B h (Gh.sel ks hs he) hR
theorem du {fn : Func} {R : Value → List bC → Prop} {u v : Value} (rs : List ResultVar) (ks : List Nat) (hR : R (.tuple #[u,v]) B) (hv : vF P As e rs [u,v]) (h : fn.results = rs.toArray:=by exact rfl) (hs : eM ks As = true:=by exact rfl) (he : sel ks As = B:=by exact rfl) : je P fn (sW R) .ret e [] As:=gi (rs:=rs) (vs:=[u,v]) B h hv rfl (Gh.sel ks hs he) hR
theorem S' {v : Value} (hv : V P e o v) (h : RA P n ops Q os (put e o.dst v) ds As) (hg : o.guard = none:=by exact rfl) (hd : cb o.dst n = true:=by exact rfl) : RA P n ops Q (o::os) e ds As:=lF hg (dr hd hv h)
theorem ad {v : Value} (hv : V P e o v) (hg : o.guard = none:=by exact rfl) (hd : cb o.dst n = true:=by exact rfl) (h : RA P n ops Q os (put e o.dst v) ds As) : RA P n ops Q (o::os) e ds As:=S' (hv:=hv) (h:=h) (hg:=hg) (hd:=hd)
theorem Y' {j t : Nat} {want b : Bool} (hb : b = want) {v : Value} (hv : V P e o v) (h : RA P n ops Q os (put e o.dst v) ds As) (hg : o.guard = some (j,want):=by exact rfl) (hj : (ops[j]?).bind (·.dst) = some t:=by exact rfl) (hd : Nat.blt t n = true:=by exact rfl) (hv' : e t = .bool b:=by exact rfl) (hd' : cb o.dst n = true:=by exact rfl) : RA P n ops Q (o::os) e ds As:=ns hg hj hd hv' hb (dr hd' hv h)
theorem bf {j t : Nat} {want b : Bool} (hb : b = want) {v : Value} (hv : V P e o v) (hg : o.guard = some (j,want):=by exact rfl) (hj : (ops[j]?).bind (·.dst) = some t:=by exact rfl) (hd : Nat.blt t n = true:=by exact rfl) (hv' : e t = .bool b:=by exact rfl) (hd' : cb o.dst n = true:=by exact rfl) (h : RA P n ops Q os (put e o.dst v) ds As) : RA P n ops Q (o::os) e ds As:=Y' (hb:=hb) (hv:=hv) (h:=h) (hg:=hg) (hj:=hj) (hd:=hd) (hv':=hv') (hd':=hd')
theorem ar {v : Value} (hx : ev e x = v:=by (conv=>lhs; whnf) <;> exact rfl) : V P e ⟨d,.move x,ty,pos,aft,g⟩ v:=tl hx
theorem aW {v : Value} (hx : ev e x = v:=by (conv=>lhs; whnf) <;> exact rfl) : V P e ⟨d,.assign x,ty,pos,aft,g⟩ v:=bo hx
theorem aA {i f b m o : Nat} [hf : jU P T i f] (hx : ev e x = .pointer (some ((⟨b,0,none⟩ : Addr).add m)):=by first | exact rfl | exact (rfl : _ = Value.pointer (some (Addr.add ⟨_,0,none⟩ 0)))) (ho : m + f = o:=by (conv=>lhs; whnf) <;> exact rfl) :
  V P e ⟨d,.fieldAddr T x i,ty,pos,aft,g⟩ (sM b o):=lp _ m o hx ho
theorem aP {v : Value} {td : TypeDesc} {cs : List Value} {b m : Nat} (k : Nat) [hu : mo P T td] (ha : lh td = false:=by exact rfl) (hk : As[k]? = some (aK b T' cs):=by exact rfl) (hx : ev e x = .pointer (some ((⟨b,0,none⟩ : Addr).add m)):=by first | exact rfl | exact (rfl : _ = Value.pointer (some (Addr.add ⟨_,0,none⟩ 0)))) (hv : cs[m]? = some v:=by exact rfl) : VR P As e ⟨d,.load T x,ty,pos,aft,g⟩ v:=gX hu.u ha hk hx hv
theorem ji {b x q : Bool} (h : q = (b || x)) (hb : b = true) : Value.bool true = .bool q:=congrArg Value.bool (Bj h hb)
theorem jh {b x q : Bool} (h : q = (b || x)) (hb : b = false) : Value.bool x = .bool q:=congrArg Value.bool (Bi h hb)
theorem fD {b x q : Bool} (h : q = (b && x)) (hb : b = true) : Value.bool x = .bool q:=congrArg Value.bool (xM h hb)
theorem fC {b x q : Bool} (h : q = (b && x)) (hb : b = false) : Value.bool false = .bool q:=congrArg Value.bool (xL h hb)
theorem dZ (ks : List Nat) (h : kY e l:=by repeat first | exact dS | refine cB (by first | exact rfl | assumption) ?_) (hs : eM ks As = true:=by exact rfl) (he : sel ks As = B:=by exact rfl) : St l B e [] As:=St.mk1 h (Gh.sel ks hs he)
theorem bK (ks : List Nat) (h : kY e l:=by repeat first | exact dS | refine cB (by first | exact rfl | assumption) ?_) (hs : eM ks As = true:=by exact rfl) (he : sel ks As = B:=by exact rfl) : thn (St l B) Q .normal e [] As:=St.mk1 h (Gh.sel ks hs he)
theorem ms {f : FuncId} {fn : Func} {c : Code} {args : List Operand} {ts : Array TypeId} {vs : List Value} {pre : List bC} {R : Value → List bC → Prop} (ks rs : List Nat) (hc : dk P f vs.toArray pre R) (h : ∀ v B,R v B → K (put e d v) ds (B ++ sel rs As)) [hf : dH P f fn] (hb : fn.body = some c:=by exact rfl) (ha : args.map (ev e) = vs:=by exact rfl)
  (hd : cb d n = true:=by exact rfl) (hs : eM (ks ++ rs) As = true:=by exact rfl) (hp : sel ks As = pre:=by exact rfl) : OA P n ⟨d,.call { callee:=.value (.func f),args:=args.toArray,argTypes:=ts },ty,pos,aft,g⟩ K Q e ds As:=nC ks rs hd (zN hf.u hf.m hb ha) hs hc hp h
theorem cm {td : TypeDesc} {cs : List Value} {s b : Nat} (k : Nat) [hu : mo P T td] (ha : lh td = true:=by exact rfl) [hz : nH P T s] (hk : As[k]? = some (aK b T' cs):=by exact rfl) (hs : s = cs.length:=by exact rfl) (hx : ev e x = .pointer (some (⟨b,0,none⟩ : Addr)):=by exact rfl) : VR P As e ⟨d,.load T x,ty,pos,aft,g⟩ (.agg cs.toArray):=mq (m:=0) hu.u ha (by rw [hz.u,hs]) hk (by rw [hx]; rfl) (by simp)
theorem ma {fn : Func} {R : Value → List bC → Prop} {u v : Value} (rs : List ResultVar) (hg : Gh As B) (hR : R (.tuple #[u,v]) B) (hv : vF P As e rs [u,v]) (h : fn.results = rs.toArray:=by exact rfl) : je P fn (sW R) .ret e [] As:=gi (rs:=rs) (vs:=[u,v]) B h hv rfl hg hR
theorem bE {α : Type} {c : Prop} [Decidable c] {x y : Option α} {r : α} (h : (if c then x else y) = some r) : c∧x = some r ∨ ¬c∧y = some r:=AD h
abbrev fS (P : Program) (f : FuncId) (args : Array Value) (pre : List bC) (v : Value) : Prop:=dk P f args pre (fun w B=>w = v∧B = pre)
theorem cF {cs : List Value} {v : Value} {s b m : Nat} (k : Nat) (vs : List Value) [hz : nH P T s] (hd : cb d n = true:=by exact rfl) (hk : As[k]? = some (aK b T' cs):=by exact rfl) (hx : ev e x = .pointer (some ((⟨b,0,none⟩ : Addr).add m)):=by first | exact rfl | exact (rfl : _ = Value.pointer (some (Addr.add ⟨_,0,none⟩ 0)))) (hy : ev e y = v:=by exact rfl) (hv : v.cells.toList = vs:=by exact rfl)
  (h1 : vs.all (·.oneCell') = true:=by exact rfl) (hs : s = vs.length:=by exact rfl) (hl : Nat.ble (m + vs.length) cs.length = true:=by exact rfl) (h : K (put e d undef) ds (As.set k (aK b T' (eg cs m vs)))) : OA P n ⟨d,.store T x y,ty,pos,aft,g⟩ K Q e ds As:=oB hd hk hx hy hv h1 (by rw [hz.u,hs]) hl rfl h
theorem cV {a b s : Nat} {cs : List Value} {td : TypeDesc} (k : Nat) [hu : mo P T td] [hz : nH P T s] (h : e a = .pointer (some ⟨b,0,none⟩):=by exact rfl) (hk : As[k]? = some (aK b T' cs):=by exact rfl) (ha : lh td = true:=by exact rfl) (hs : s = cs.length:=by exact rfl) : RV P As e (.cell a T) (.agg cs.toArray):=RV.cell h hk hu.u ha (by rw [hz.u,hs])
theorem cW {t : Nat} {v : Value} (h : e t = v:=by exact rfl) : RV P As e (.tmp t) v:=RV.tmp h
theorem gN {b : Bool} {v : Value} (hb : b = true) (h : RA P n ops Q os (put e d v) ds As) (hc : ev e c = .bool b:=by exact rfl) (hx : ev e x = v:=by exact rfl) (hd : cb d n = true:=by exact rfl) : RA P n ops Q (⟨d,.pick c x y,ty,pos,aft,none⟩::os) e ds As:=lF rfl (dr hd (bS hc hb hx) h)
theorem cd {b : Bool} {v : Value} (hb : b = true) (hc : ev e c = .bool b:=by exact rfl) (hx : ev e x = v:=by exact rfl) (hd : cb d n = true:=by exact rfl) (h : RA P n ops Q os (put e d v) ds As) : RA P n ops Q (⟨d,.pick c x y,ty,pos,aft,none⟩::os) e ds As:=gN (hb:=hb) (h:=h) (hc:=hc) (hx:=hx) (hd:=hd)
theorem fZ {b : Bool} {v : Value} (hb : b = false) (h : RA P n ops Q os (put e d v) ds As) (hc : ev e c = .bool b:=by exact rfl) (hx : ev e y = v:=by exact rfl) (hd : cb d n = true:=by exact rfl) : RA P n ops Q (⟨d,.pick c x y,ty,pos,aft,none⟩::os) e ds As:=lF rfl (dr hd (bR hc hb hx) h)
theorem ck {b : Bool} {v : Value} (hb : b = false) (hc : ev e c = .bool b:=by exact rfl) (hx : ev e y = v:=by exact rfl) (hd : cb d n = true:=by exact rfl) (h : RA P n ops Q os (put e d v) ds As) : RA P n ops Q (⟨d,.pick c x y,ty,pos,aft,none⟩::os) e ds As:=fZ (hb:=hb) (h:=h) (hc:=hc) (hx:=hx) (hd:=hd)
theorem dL (ks : List Nat) (h : kY e l:=by repeat first | exact dS | refine cB rfl ?_) (hs : eM ks As = true:=by exact rfl) (he : sel ks As = B:=by exact rfl) : RA P n ops (thn (St l B) Q) [] e [] As:=St.mk1 h (Gh.sel ks hs he)
theorem dy (m : Nat) (l : List (Nat × Value)) (B : List bC) {o : Oper} {os' : List Oper} (h : RA P n ops (thn (St l B) Q) (os.take m) e ds As) (k : ∀ junk,RA P n ops Q (os.drop m) (rE junk l) [] B) (ho : os.drop m = o::os':=by exact rfl) (hg : o.guard = none:=by exact rfl) : RA P n ops Q os e ds As:=by
 refine cK m (St l B) h fun e ds As s=>?_
 rw [ho] at k ⊢
 exact RA.of_St hg s k
theorem bM {c : Code} {α : Type} {kd : Kd α} {A : Option Addr} {c' : Nat} {xs : List α} (k : Nat) (h : xs.length ≤ c' → SA P n c Q e ds As) (hk : As[k]? = some (Buf kd T A c' xs):=by exact rfl) : SA P n c Q e ds As:=SA.fact (wF hk) h
theorem aR {id : Nat} {os : List Oper} {y : Code} (h : RA P n os.toArray (thn (SA P n y Q) Q) os e ds As) : SA P n (.seq (.region id os.toArray false) y) Q e ds As:=ao (ak h)
theorem bA (h : K e ds As) : RA P n ops (thn K Q) [] e ds As:=h
theorem cP {id : Nat} {os : List Oper} {y : Code} (h : RA P n os.toArray (thn (SA P n y Q) Q) os e ds As) {Q' : dI} : RA P n ops (thn (SA P n (.seq (.region id os.toArray false) y) Q) Q') [] e ds As:=ao (ak h)
theorem eD {id : Nat} {os : List Oper} {y z : Code} (h : RA P n os.toArray (thn (SA P n y (thn (SA P n z Q) Q)) (thn (SA P n z Q) Q)) os e ds As) {Q' : dI} : RA P n ops (thn (SA P n (.seq (.seq (.region id os.toArray false) y) z) Q) Q') [] e ds As:=ao (ao (ak h))
theorem cC (h : Q .ret e ds As) {Q' : dI} : RA P n ops (thn (SA P n .ret Q) Q') [] e ds As:=fm h
theorem cD (h : Q .ret e ds As) {Q' : dI} : RA P n ops (thn (SA P n .ret (thn K Q)) Q') [] e ds As:=fm h
end
section
variable {P : Program} {n : Nat} {Q : dI} {e : Env} {ds : List Deferred} {As Bs Hs : List bC} {ops : Array Oper} {T : List Nat} {an : Array (List Nat)} {I0 hS h0 hh0 : Hp} {w0 : World} {fuel : Nat} {listed : Array Bool} {S : World → Prop}
theorem t' (v : Value) {oi : Oper} (i : Nat) (hi : ops[i]? = some oi) (sH : cq Hs I0 hS) (hv : V P e oi v) (h : DH P n ops Q T an I0 hS h0 hh0 w0 fuel (listed.setIfInBounds i true) (put e oi.dst v) ds As) (ht : mh ops an listed i = true:=by kernel_rfl) (hT : T.contains i = true:=by exact rfl) (hw : oi.guard = none:=by exact rfl) (hQ : bU Q:=by assumption) (hd : cb oi.dst n = true:=by exact rfl) :
  DH P n ops Q T an I0 hS h0 hh0 w0 (fuel + 1) listed e ds As:=lD i ht hT hi (.no hw) hQ sH hd (VR.ofV hv) h
theorem kV (v : Value) {oi : Oper} (i : Nat) (hi : ops[i]? = some oi) (sH : cq Hs I0 hS) (hv : V P e oi v) (ht : mh ops an listed i = true:=by kernel_rfl) (hT : T.contains i = true:=by exact rfl) (hw : oi.guard = none:=by exact rfl) (hQ : bU Q:=by assumption) (hd : cb oi.dst n = true:=by exact rfl) (h : DH P n ops Q T an I0 hS h0 hh0 w0 fuel (listed.setIfInBounds i true) (put e oi.dst v) ds As) :
  DH P n ops Q T an I0 hS h0 hh0 w0 (fuel + 1) listed e ds As:=t' (v:=v) (i:=i) (hi:=hi) (sH:=sH) (hv:=hv) (h:=h) (ht:=ht) (hT:=hT) (hw:=hw) (hQ:=hQ) (hd:=hd)
theorem r' {v : Value} {oi : Oper} (i : Nat) (hi : ops[i]? = some oi) (sH : cq Hs I0 hS) (hv : VR P Hs e oi v) (h : DH P n ops Q T an I0 hS h0 hh0 w0 fuel (listed.setIfInBounds i true) (put e oi.dst v) ds As) (ht : mh ops an listed i = true:=by kernel_rfl) (hT : T.contains i = true:=by exact rfl) (hw : oi.guard = none:=by exact rfl) (hQ : bU Q:=by assumption) (hd : cb oi.dst n = true:=by exact rfl) :
  DH P n ops Q T an I0 hS h0 hh0 w0 (fuel + 1) listed e ds As:=lD i ht hT hi (.no hw) hQ sH hd hv h
theorem bQ {v : Value} {oi : Oper} (i : Nat) (hi : ops[i]? = some oi) (sH : cq Hs I0 hS) (hv : VR P Hs e oi v) (ht : mh ops an listed i = true:=by kernel_rfl) (hT : T.contains i = true:=by exact rfl) (hw : oi.guard = none:=by exact rfl) (hQ : bU Q:=by assumption) (hd : cb oi.dst n = true:=by exact rfl) (h : DH P n ops Q T an I0 hS h0 hh0 w0 fuel (listed.setIfInBounds i true) (put e oi.dst v) ds As) :
  DH P n ops Q T an I0 hS h0 hh0 w0 (fuel + 1) listed e ds As:=r' (i:=i) (hi:=hi) (sH:=sH) (hv:=hv) (h:=h) (ht:=ht) (hT:=hT) (hw:=hw) (hQ:=hQ) (hd:=hd)
theorem By (v : Value) {oi : Oper} {j t : Nat} {want b : Bool} (i : Nat) (hi : ops[i]? = some oi) (hb : b = want) (sH : cq Hs I0 hS) (hv : V P e oi v) (h : DH P n ops Q T an I0 hS h0 hh0 w0 fuel (listed.setIfInBounds i true) (put e oi.dst v) ds As) (ht : mh ops an listed i = true:=by kernel_rfl) (hT : T.contains i = true:=by exact rfl) (hg : oi.guard = some (j,want):=by exact rfl) (hj : (ops[j]?).bind (·.dst) = some t:=by exact rfl) (hd' : Nat.blt t n = true:=by exact rfl) (hv' : e t = .bool b:=by exact rfl) (hQ : bU Q:=by assumption) (hd : cb oi.dst n = true:=by exact rfl) :
  DH P n ops Q T an I0 hS h0 hh0 w0 (fuel + 1) listed e ds As:=lD i ht hT hi (.yes hg hj hd' hv' hb) hQ sH hd (VR.ofV hv) h
theorem iD (v : Value) {oi : Oper} {j t : Nat} {want b : Bool} (i : Nat) (hi : ops[i]? = some oi) (hb : b = want) (sH : cq Hs I0 hS) (hv : V P e oi v) (ht : mh ops an listed i = true:=by kernel_rfl) (hT : T.contains i = true:=by exact rfl) (hg : oi.guard = some (j,want):=by exact rfl) (hj : (ops[j]?).bind (·.dst) = some t:=by exact rfl) (hd' : Nat.blt t n = true:=by exact rfl) (hv' : e t = .bool b:=by exact rfl) (hQ : bU Q:=by assumption) (hd : cb oi.dst n = true:=by exact rfl) (h : DH P n ops Q T an I0 hS h0 hh0 w0 fuel (listed.setIfInBounds i true) (put e oi.dst v) ds As) :
  DH P n ops Q T an I0 hS h0 hh0 w0 (fuel + 1) listed e ds As:=By (v:=v) (i:=i) (hi:=hi) (hb:=hb) (sH:=sH) (hv:=hv) (h:=h) (ht:=ht) (hT:=hT) (hg:=hg) (hj:=hj) (hd':=hd') (hv':=hv') (hQ:=hQ) (hd:=hd)
theorem zG {v : Value} {oi : Oper} {j t : Nat} {want b : Bool} (i : Nat) (hi : ops[i]? = some oi) (hb : b = want) (sH : cq Hs I0 hS) (hv : VR P Hs e oi v) (h : DH P n ops Q T an I0 hS h0 hh0 w0 fuel (listed.setIfInBounds i true) (put e oi.dst v) ds As) (ht : mh ops an listed i = true:=by kernel_rfl) (hT : T.contains i = true:=by exact rfl) (hg : oi.guard = some (j,want):=by exact rfl) (hj : (ops[j]?).bind (·.dst) = some t:=by exact rfl) (hd' : Nat.blt t n = true:=by exact rfl) (hv' : e t = .bool b:=by exact rfl) (hQ : bU Q:=by assumption) (hd : cb oi.dst n = true:=by exact rfl) :
  DH P n ops Q T an I0 hS h0 hh0 w0 (fuel + 1) listed e ds As:=lD i ht hT hi (.yes hg hj hd' hv' hb) hQ sH hd hv h
theorem cJ {v : Value} {oi : Oper} {j t : Nat} {want b : Bool} (i : Nat) (hi : ops[i]? = some oi) (hb : b = want) (sH : cq Hs I0 hS) (hv : VR P Hs e oi v) (ht : mh ops an listed i = true:=by kernel_rfl) (hT : T.contains i = true:=by exact rfl) (hg : oi.guard = some (j,want):=by exact rfl) (hj : (ops[j]?).bind (·.dst) = some t:=by exact rfl) (hd' : Nat.blt t n = true:=by exact rfl) (hv' : e t = .bool b:=by exact rfl) (hQ : bU Q:=by assumption) (hd : cb oi.dst n = true:=by exact rfl) (h : DH P n ops Q T an I0 hS h0 hh0 w0 fuel (listed.setIfInBounds i true) (put e oi.dst v) ds As) :
  DH P n ops Q T an I0 hS h0 hh0 w0 (fuel + 1) listed e ds As:=zG (i:=i) (hi:=hi) (hb:=hb) (sH:=sH) (hv:=hv) (h:=h) (ht:=ht) (hT:=hT) (hg:=hg) (hj:=hj) (hd':=hd') (hv':=hv') (hQ:=hQ) (hd:=hd)
theorem cG {oi : Oper} {j t : Nat} {want : Bool} (i : Nat) (hi : ops[i]? = some oi) (h : DH P n ops Q T an I0 hS h0 hh0 w0 fuel (listed.setIfInBounds i true) (put e oi.dst undef) ds As) (ht : mh ops an listed i = true:=by kernel_rfl) (hT : T.contains i = true:=by exact rfl) (hg : oi.guard = some (j,want):=by exact rfl) (hj : (ops[j]?).bind (·.dst) = some t:=by exact rfl) (hd' : Nat.blt t n = true:=by exact rfl) (hv' : e t = undef:=by exact rfl) (hQ : bU Q:=by assumption) (hd : cb oi.dst n = true:=by exact rfl) :
  DH P n ops Q T an I0 hS h0 hh0 w0 (fuel + 1) listed e ds As:=rI i ht hT hi (.un hg hj hd' hv') hQ hd h
theorem bT {oi : Oper} {j t : Nat} {want b : Bool} (i : Nat) (hi : ops[i]? = some oi) (hb : b = !want) (h : DH P n ops Q T an I0 hS h0 hh0 w0 fuel (listed.setIfInBounds i true) (put e oi.dst undef) ds As) (ht : mh ops an listed i = true:=by kernel_rfl) (hT : T.contains i = true:=by exact rfl) (hg : oi.guard = some (j,want):=by exact rfl) (hj : (ops[j]?).bind (·.dst) = some t:=by exact rfl) (hd' : Nat.blt t n = true:=by exact rfl) (hv' : e t = .bool b:=by exact rfl) (hQ : bU Q:=by assumption) (hd : cb oi.dst n = true:=by exact rfl) :
  DH P n ops Q T an I0 hS h0 hh0 w0 (fuel + 1) listed e ds As:=rI i ht hT hi (.no hg hj hd' hv' hb) hQ hd h
theorem vS (v : Value) {oi : Oper} (i : Nat) (ks : List Nat) (hi : ops[i]? = some oi) (hv : V P e oi v) (h : DN P n ops Q T an (gW Hs) I0 hh0 w0 fuel (listed.setIfInBounds i true) (put e oi.dst v) ds As) (ht : mh ops an listed i = true:=by kernel_rfl) (hT : T.contains i = true:=by exact rfl) (hw : oi.guard = none:=by exact rfl) (hQ : bU Q:=by assumption) (hd : cb oi.dst n = true:=by exact rfl) (hs : eM ks As = true:=by exact rfl) (eH : sel ks As = Hs:=by exact rfl) :
  DN P n ops Q T an (gW Hs) I0 hh0 w0 (fuel + 1) listed e ds As:=jj i ks ht hT hi (.no hw) hQ hd hs eH (VR.ofV hv) h
theorem eA (v : Value) {oi : Oper} (i : Nat) (ks : List Nat) (hi : ops[i]? = some oi) (hv : V P e oi v) (ht : mh ops an listed i = true:=by kernel_rfl) (hT : T.contains i = true:=by exact rfl) (hw : oi.guard = none:=by exact rfl) (hQ : bU Q:=by assumption) (hd : cb oi.dst n = true:=by exact rfl) (hs : eM ks As = true:=by exact rfl) (eH : sel ks As = Hs:=by exact rfl) (h : DN P n ops Q T an (gW Hs) I0 hh0 w0 fuel (listed.setIfInBounds i true) (put e oi.dst v) ds As) :
  DN P n ops Q T an (gW Hs) I0 hh0 w0 (fuel + 1) listed e ds As:=vS (v:=v) (i:=i) (ks:=ks) (hi:=hi) (hv:=hv) (h:=h) (ht:=ht) (hT:=hT) (hw:=hw) (hQ:=hQ) (hd:=hd) (hs:=hs) (eH:=eH)
theorem sI {v : Value} {oi : Oper} (i : Nat) (ks : List Nat) (hi : ops[i]? = some oi) (hv : VR P Hs e oi v) (h : DN P n ops Q T an (gW Hs) I0 hh0 w0 fuel (listed.setIfInBounds i true) (put e oi.dst v) ds As) (ht : mh ops an listed i = true:=by kernel_rfl) (hT : T.contains i = true:=by exact rfl) (hw : oi.guard = none:=by exact rfl) (hQ : bU Q:=by assumption) (hd : cb oi.dst n = true:=by exact rfl) (hs : eM ks As = true:=by exact rfl) (eH : sel ks As = Hs:=by exact rfl) :
  DN P n ops Q T an (gW Hs) I0 hh0 w0 (fuel + 1) listed e ds As:=jj i ks ht hT hi (.no hw) hQ hd hs eH hv h
theorem gZ {v : Value} {oi : Oper} (i : Nat) (ks : List Nat) (hi : ops[i]? = some oi) (hv : VR P Hs e oi v) (ht : mh ops an listed i = true:=by kernel_rfl) (hT : T.contains i = true:=by exact rfl) (hw : oi.guard = none:=by exact rfl) (hQ : bU Q:=by assumption) (hd : cb oi.dst n = true:=by exact rfl) (hs : eM ks As = true:=by exact rfl) (eH : sel ks As = Hs:=by exact rfl) (h : DN P n ops Q T an (gW Hs) I0 hh0 w0 fuel (listed.setIfInBounds i true) (put e oi.dst v) ds As) :
  DN P n ops Q T an (gW Hs) I0 hh0 w0 (fuel + 1) listed e ds As:=sI (i:=i) (ks:=ks) (hi:=hi) (hv:=hv) (h:=h) (ht:=ht) (hT:=hT) (hw:=hw) (hQ:=hQ) (hd:=hd) (hs:=hs) (eH:=eH)
theorem T' {v : Value} {oi : Oper} (i : Nat) (hi : ops[i]? = some oi) (sH : cq Hs I0 hS) (hv : V P e oi v) (h : DH P n ops Q T an I0 hS h0 hh0 w0 fuel (listed.setIfInBounds i true) (put e oi.dst v) ds As) (ht : mh ops an listed i = true:=by kernel_rfl) (hT : T.contains i = true:=by exact rfl) (hw : oi.guard = none:=by exact rfl) (hQ : bU Q:=by assumption) (hd : cb oi.dst n = true:=by exact rfl) :
  DH P n ops Q T an I0 hS h0 hh0 w0 (fuel + 1) listed e ds As:=lD i ht hT hi (.no hw) hQ sH hd (VR.ofV hv) h
theorem bc {v : Value} {oi : Oper} (i : Nat) (hi : ops[i]? = some oi) (sH : cq Hs I0 hS) (hv : V P e oi v) (ht : mh ops an listed i = true:=by kernel_rfl) (hT : T.contains i = true:=by exact rfl) (hw : oi.guard = none:=by exact rfl) (hQ : bU Q:=by assumption) (hd : cb oi.dst n = true:=by exact rfl) (h : DH P n ops Q T an I0 hS h0 hh0 w0 fuel (listed.setIfInBounds i true) (put e oi.dst v) ds As) :
  DH P n ops Q T an I0 hS h0 hh0 w0 (fuel + 1) listed e ds As:=T' (i:=i) (hi:=hi) (sH:=sH) (hv:=hv) (h:=h) (ht:=ht) (hT:=hT) (hw:=hw) (hQ:=hQ) (hd:=hd)
theorem kX {v : Value} {oi : Oper} {j t : Nat} {want b : Bool} (i : Nat) (hi : ops[i]? = some oi) (hb : b = want) (sH : cq Hs I0 hS) (hv : V P e oi v) (h : DH P n ops Q T an I0 hS h0 hh0 w0 fuel (listed.setIfInBounds i true) (put e oi.dst v) ds As) (ht : mh ops an listed i = true:=by kernel_rfl) (hT : T.contains i = true:=by exact rfl) (hg : oi.guard = some (j,want):=by exact rfl) (hj : (ops[j]?).bind (·.dst) = some t:=by exact rfl) (hd' : Nat.blt t n = true:=by exact rfl) (hv' : e t = .bool b:=by exact rfl) (hQ : bU Q:=by assumption) (hd : cb oi.dst n = true:=by exact rfl) :
  DH P n ops Q T an I0 hS h0 hh0 w0 (fuel + 1) listed e ds As:=lD i ht hT hi (.yes hg hj hd' hv' hb) hQ sH hd (VR.ofV hv) h
theorem cY {v : Value} {oi : Oper} {j t : Nat} {want b : Bool} (i : Nat) (hi : ops[i]? = some oi) (hb : b = want) (sH : cq Hs I0 hS) (hv : V P e oi v) (ht : mh ops an listed i = true:=by kernel_rfl) (hT : T.contains i = true:=by exact rfl) (hg : oi.guard = some (j,want):=by exact rfl) (hj : (ops[j]?).bind (·.dst) = some t:=by exact rfl) (hd' : Nat.blt t n = true:=by exact rfl) (hv' : e t = .bool b:=by exact rfl) (hQ : bU Q:=by assumption) (hd : cb oi.dst n = true:=by exact rfl) (h : DH P n ops Q T an I0 hS h0 hh0 w0 fuel (listed.setIfInBounds i true) (put e oi.dst v) ds As) :
  DH P n ops Q T an I0 hS h0 hh0 w0 (fuel + 1) listed e ds As:=kX (i:=i) (hi:=hi) (hb:=hb) (sH:=sH) (hv:=hv) (h:=h) (ht:=ht) (hT:=hT) (hg:=hg) (hj:=hj) (hd':=hd') (hv':=hv') (hQ:=hQ) (hd:=hd)
theorem dU {oi : Oper} (i : Nat) (hi : ops[i]? = some oi) (dd : Dd I0 hh0 h0 hS w0) (h : OA P n oi (DH P n ops Q T an I0 hS h0 hh0 w0 fuel (listed.setIfInBounds i true)) nB e ds As) (hr : Region.ready .any ops listed = [i]:=by kernel_rfl) (hw : oi.guard = none:=by exact rfl) : DH P n ops Q T an I0 hS h0 hh0 w0 (fuel + 1) listed e ds As:=sY i dd hr hi (.no hw) h
theorem BP {oi : Oper} {j t : Nat} {want b : Bool} (i : Nat) (hi : ops[i]? = some oi) (dd : Dd I0 hh0 h0 hS w0) (hb : b = want) (h : OA P n oi (DH P n ops Q T an I0 hS h0 hh0 w0 fuel (listed.setIfInBounds i true)) nB e ds As) (hr : Region.ready .any ops listed = [i]:=by kernel_rfl) (hg : oi.guard = some (j,want):=by exact rfl) (hj : (ops[j]?).bind (·.dst) = some t:=by exact rfl) (hd' : Nat.blt t n = true:=by exact rfl) (hv' : e t = .bool b:=by exact rfl) : DH P n ops Q T an I0 hS h0 hh0 w0 (fuel + 1) listed e ds As:=sY i dd hr hi (.yes hg hj hd' hv' hb) h
theorem eC {oi : Oper} {fuel : Nat} (i : Nat) (hi : ops[i]? = some oi) (h : OA P n oi (DN P n ops Q T an S I0 hh0 w0 fuel (listed.setIfInBounds i true)) nB e ds As) (hr : Region.ready .any ops listed = [i]:=by kernel_rfl) (hn : kJ T an i = false:=by exact rfl) (hw : oi.guard = none:=by exact rfl) : DN P n ops Q T an S I0 hh0 w0 (fuel + 1) listed e ds As:=qI i hr hn hi (.no hw) h
theorem BI (v : Value) {oi : Oper} (i : Nat) (hi : ops[i]? = some oi) (hv : V P e oi v) (h : DN P n ops Q T an S I0 hh0 w0 fuel (listed.setIfInBounds i true) (put e oi.dst v) ds As) (ht : mh ops an listed i = true:=by kernel_rfl) (hT : kJ T an i = false:=by exact rfl) (hw : oi.guard = none:=by exact rfl) (hQ : bU Q:=by assumption) (hd : cb oi.dst n = true:=by exact rfl) : DN P n ops Q T an S I0 hh0 w0 (fuel + 1) listed e ds As:=fb i ht hT hi (.no hw) hQ hd hv h
theorem xG {v : Value} {oi : Oper} (i : Nat) (hi : ops[i]? = some oi) (hv : V P e oi v) (h : DN P n ops Q T an S I0 hh0 w0 fuel (listed.setIfInBounds i true) (put e oi.dst v) ds As) (ht : mh ops an listed i = true:=by kernel_rfl) (hT : kJ T an i = false:=by exact rfl) (hw : oi.guard = none:=by exact rfl) (hQ : bU Q:=by assumption) (hd : cb oi.dst n = true:=by exact rfl) : DN P n ops Q T an S I0 hh0 w0 (fuel + 1) listed e ds As:=fb i ht hT hi (.no hw) hQ hd hv h
theorem ca {v : Value} {oi : Oper} (i : Nat) (hi : ops[i]? = some oi) (hv : V P e oi v) (ht : mh ops an listed i = true:=by kernel_rfl) (hT : kJ T an i = false:=by exact rfl) (hw : oi.guard = none:=by exact rfl) (hQ : bU Q:=by assumption) (hd : cb oi.dst n = true:=by exact rfl) (h : DN P n ops Q T an S I0 hh0 w0 fuel (listed.setIfInBounds i true) (put e oi.dst v) ds As) : DN P n ops Q T an S I0 hh0 w0 (fuel + 1) listed e ds As:=xG (i:=i) (hi:=hi) (hv:=hv) (h:=h) (ht:=ht) (hT:=hT) (hw:=hw) (hQ:=hQ) (hd:=hd)
end
section
variable {P : Program} {n : Nat} {Q : dI} {e : Env} {ds : List Deferred} {As B : List bC} {d : Option Nat} {ty : TypeId} {pos : String} {aft : Array Edge} {x y c : Operand} {ops : Array Oper} {o : Oper} {os : List Oper}
end
end Go.Proofs.YtckilbegmbaeeaaGreat.SL
namespace Go.Proofs.YtckilbegmbaeeaaGreat.SL
open Go Go.RowKit
set_option linter.unusedVariables false
set_option linter.unusedSimpArgs false
def zO (ops : Array Oper) : Array (List Nat):=ops.foldl (init:=#[]) fun acc o =>
 acc.push (o.after.toList.foldl (init:=[]) fun s e=>if Region.binds .any e then e.on::(acc.getD e.on []).filter (fun i=>!Nat.beq i e.on && !s.contains i) ++ s.filter (fun i=>!Nat.beq i e.on) else s)
section
variable {P : Program} {n : Nat} {Q : dI} {e : Env} {ds : List Deferred} {As B : List bC} {K : Env → List Deferred → List bC → Prop} {d : Option Nat} {ty : TypeId} {pos : String} {aft : Array Edge} {g : Option (Nat × Bool)}
variable {f : FuncId} {fn : Func} {c : Code} {args : List Operand} {ts : Array TypeId} {vs : List Value} {pre : List bC}
theorem dc {V : Value} {B : List bC} (ks rs : List Nat) (hc : dk P f vs.toArray pre (fun v C=>v = V∧C = B)) (h : K (put e d V) ds (B ++ sel rs As)) [hf : dH P f fn] (hb : fn.body = some c:=by exact rfl) (ha : args.map (ev e) = vs:=by exact rfl)
  (hd : cb d n = true:=by exact rfl) (hs : eM (ks ++ rs) As = true:=by exact rfl) (hp : sel ks As = pre:=by exact rfl) : OA P n ⟨d,.call { callee:=.value (.func f),args:=args.toArray,argTypes:=ts },ty,pos,aft,g⟩ K Q e ds As :=
 ms ks rs hc (fun v C hv=>by obtain ⟨rfl,rfl⟩:=hv; exact h) (hf:=hf) hb ha hd hs hp
theorem gy {α β : Type} {V : α → β → Value} {B : α → β → List bC} (ks rs : List Nat) (hc : dk P f vs.toArray pre (fun v C=>∃ x y,v = V x y∧C = B x y)) (h : ∀ x y,K (put e d (V x y)) ds (B x y ++ sel rs As)) [hf : dH P f fn] (hb : fn.body = some c:=by exact rfl) (ha : args.map (ev e) = vs:=by exact rfl)
  (hd : cb d n = true:=by exact rfl) (hs : eM (ks ++ rs) As = true:=by exact rfl) (hp : sel ks As = pre:=by exact rfl) : OA P n ⟨d,.call { callee:=.value (.func f),args:=args.toArray,argTypes:=ts },ty,pos,aft,g⟩ K Q e ds As :=
 ms ks rs hc (fun v C hv=>by obtain ⟨x,y,rfl,rfl⟩:=hv; exact h x y) (hf:=hf) hb ha hd hs hp
theorem ed {α β : Type} {V : α → β → α → β → α → β → α → β → Value} {B : α → β → α → β → α → β → α → β → List bC} (ks rs : List Nat) (hc : dk P f vs.toArray pre (fun v C=>∃ x y z t p q r s,v = V x y z t p q r s∧C = B x y z t p q r s)) (h : ∀ x y z t p q r s,K (put e d (V x y z t p q r s)) ds (B x y z t p q r s ++ sel rs As)) [hf : dH P f fn] (hb : fn.body = some c:=by exact rfl) (ha : args.map (ev e) = vs:=by exact rfl)
  (hd : cb d n = true:=by exact rfl) (hs : eM (ks ++ rs) As = true:=by exact rfl) (hp : sel ks As = pre:=by exact rfl) : OA P n ⟨d,.call { callee:=.value (.func f),args:=args.toArray,argTypes:=ts },ty,pos,aft,g⟩ K Q e ds As :=
 ms ks rs hc (fun v C hv=>by obtain ⟨x,y,z,t,p,q,r,s,rfl,rfl⟩:=hv; exact h x y z t p q r s) (hf:=hf) hb ha hd hs hp
class BG (P : Program) : Prop where m : P.follows .mixedOrders = true
theorem fj {id : Nat} {ol : List Oper} {Hs Bs : List bC} (T ks rs : List Nat) [hm : BG P]
  (h : ∀ I0 hS h0 hh0 w0,cq Hs I0 hS → Dd I0 hh0 h0 hS w0 → bU Q → DH P n ol.toArray Q T (zO ol.toArray) I0 hS h0 hh0 w0 ol.length (Array.replicate ol.length false) e ds Bs)
  (hs : eM (ks ++ rs) As = true:=by exact rfl) (eH : sel ks As = Hs:=by exact rfl) (eB : sel rs As = Bs:=by exact rfl) (hq : bU Q:=by repeat first | exact bU.body | refine bU.thn ?_ | refine bU.inb ?_) : SA P n (.region id ol.toArray true) Q e ds As :=
 sA T _ ks rs hm.m hs eH eB hq h
end
end Go.Proofs.YtckilbegmbaeeaaGreat.SL
namespace Go.Proofs.YtckilbegmbaeeaaGreat.SL
open Go Go.RowKit
set_option linter.unusedVariables false
set_option linter.unusedSimpArgs false
theorem eV {x : Int} (h0 : -9223372036854775808 ≤ x) (h1 : x < 9223372036854775808) : IntKind.i64.wrap x = x:=by
 rw [IntKind.wrap_i64]; omega
theorem vz (x : Int) : IntKind.u64.wrap x = x % 18446744073709551616:=by
 simp [IntKind.wrap,IntKind.bits,IntKind.signed]
theorem hP (x y : Int) : da x y = min x y:=by unfold da; omega
theorem kI (x y : Int) : fk x y = max x y:=by unfold fk; omega
theorem sk (k : IntKind) (x : Int) (n : Nat) (h : n ≤ k.bits) : gR k x n = x / (2 ^ n : Int):=by
 unfold gR
 have : min (Int.toNat (n : Int)) k.bits = n:=by rw [Int.toNat_natCast]; omega
 rw [this]
 exact Int.fdiv_eq_ediv_of_nonneg _ (by exact Int.le_of_lt (Int.pow_pos (by decide)))
theorem fa {α : Type} [Inhabited α] {xs : List α} {i : Nat} (h : i < xs.length) : rd xs (i : Int) = xs[i]:=by
 simp [rd,List.getD,h]
end Go.Proofs.YtckilbegmbaeeaaGreat.SL
namespace Go.Proofs.YtckilbegmbaeeaaGreat.SL
open Go Go.RowKit Go.ChangeShapes Go.WideShapes
set_option linter.unusedVariables false
set_option linter.unusedSimpArgs false
def IW (W : World) : Hp:=fun b=>W.heap[b]?
theorem uK (W : World) : ig (IW W) (fun _=>none) W:=⟨fun _ _ e=>e,(fun _ _ e=>by cases e),fun _ _ e=>by cases e⟩
theorem sP {P : Program} {f : FuncId} {args : Array Value} {pre : List bC} {W : World} (h : dk P f args pre (fun v B=>v = .bool true∧B = [])) (hp : cq pre (IW W) (fun _=>none)) :
  Calls P f args W fun e W'=>e = .returned (.bool true)∧Below W.heap.size W W' :=
 (h _ _ W hp (uK W)).mono fun x W' ⟨_,As',I',h',s',g,v,B,hx,hG,hv,_⟩=>by
  subst hv
  exact ⟨hx,g.os,g.tape,g.output,g.size,fun k hk=>(g.kept k hk rfl).1⟩
theorem Bq {I h : Hp} : cq [] I h:=trivial
theorem vw {A : bC} {As : List bC} {I h : Hp} (hp : A.pers = true) (p : A.P I (fun _=>none)) (q : cq As I h) : cq (A::As) I h:=⟨fun _=>none,h,gF.none_l h,p,q⟩
section
variable {H : Type} {enc : TypeId × Value → H} {P : Program} {W : World}
abbrev cU (P : Program) (t : TypeId) (d : DataW H) : Prop:=∀ n ∈ d.weights P t,n ≤ 140737488351232
theorem oP {ts : List TypeId} {dd : List (DataW H)} {j : Nat} {t : TypeId} {d : DataW H} (hsz : (DataW.weightsEach P ts dd).all (· ≤ reachBytes) = true) (ht : ts[j]? = some t) (hd : dd[j]? = some d) : cU P t d:=fun n hn=>by
 have:=List.all_eq_true.1 hsz n (DataW.weights_mem_each ht hd n hn)
 exact of_decide_eq_true this
def ie {α : Type} (enc : TypeId × Value → H) (P : Program) (W : World) (t : TypeId) (kd : Kd α) (wf : α → Prop) : Prop :=
 ∀ (dE : Bool) fuel cs d ps,DataW.trod enc P W 0 (fun _=>true) dE fuel t cs = some (d,ps) → cU P t d → ∃ y : α,kd.R (IW W) cs y∧wf y
theorem ie.int {t : TypeId} {k : IntKind} (hu : P.underlying t = some (.int k)) : ie enc P W t (Kd.int k) (fun y=>(Lit.int k y).wf = true):=fun _ _ _ _ _ h _=>by
 obtain ⟨n,rfl,_,hw⟩:=DataW.trod_int hu h
 exact ⟨n,rfl,hw⟩
theorem ie.bool {t : TypeId} (hu : P.underlying t = some .bool) : ie enc P W t Kd.bool (fun _=>True):=fun _ _ _ _ _ h _=>by
 obtain ⟨n,rfl,_⟩:=DataW.trod_bool hu h
 exact ⟨n,rfl,trivial⟩
theorem iC {t : TypeId} {fs : Array Field} {dE : Bool} {fuel : Nat} {cs : List Value} {d : DataW H} {ps : List MemPlace} (hu : P.underlying t = some (.struct fs)) (h : DataW.trod enc P W 0 (fun _=>true) dE fuel t cs = some (d,ps)) (hs : cU P t d) :
  ∃ n,cs.length = P.cellsOf t∧∀ (i : Nat) (f : Field),fs[i]? = some f → ∃ d' ps',DataW.trod enc P W 0 (fun _=>true) dE n f.type ((cs.drop f.offset).take (P.cellsOf f.type)) = some (d',ps')∧cU P f.type d':=by
 obtain ⟨xs,n,_,hx,hl,hlen,hf⟩:=DataW.trod_struct hu h
 obtain ⟨hd,_⟩:=Prod.mk.inj hx
 refine ⟨n,hl,fun i f hi=>?_⟩
 have hlt : i < xs.length:=by
  rw [hlen]
  rcases Nat.lt_or_ge i fs.size with q | q
  ·exact q
  ·simp [Array.getElem?_eq_none q] at hi
 refine ⟨xs[i].1,xs[i].2,by rw [hf i f hi]; exact List.getElem?_eq_getElem hlt,fun m hm=>?_⟩
 subst hd
 refine hs m ?_
 have a : (fs.toList.map (·.type))[i]? = some f.type:=by
  rw [List.getElem?_map,Array.getElem?_toList,hi]; rfl
 have b : (xs.map (·.1))[i]? = some xs[i].1:=by rw [List.getElem?_map,List.getElem?_eq_getElem hlt]; rfl
 have:=DataW.weights_mem_each (P:=P) a b m hm
 simp only [DataW.weights,hu]
 exact this
theorem sE : ∀ {n : Nat} {base : Nat} {a : Addr} {cs : List Value},W.cells? base a n = some cs → cs.length = n∧∀ j v,cs[j]? = some v → W.cell? (a.add j) = some v:=by
 intro n base a cs h
 obtain ⟨_,b,h2⟩:=World.cells?_some h
 refine ⟨b,fun j v hj=>?_⟩
 have hlt : j < n:=by
  rw [← b]
  rcases Nat.lt_or_ge j cs.length with q | q
  ·exact q
  ·simp [List.getElem?_eq_none q] at hj
 rw [h2 j hlt]; exact hj
theorem qp {α : Type} {kd : Kd α} {wf : α → Prop} {e : TypeId} (ho : ie enc P W e kd wf) (hc : P.cellsOf e = kd.sz) (h0 : 0 < kd.sz) {a : Addr} {n : Nat} {dE : Bool} {D : Nat → DataW H} {Pl : Nat → List MemPlace} : ∀ (len : Nat),
  (∀ i,i < len → (∃ cs',W.cells? 0 (a.add (i * P.cellsOf e)) (P.cellsOf e) = some cs'∧DataW.trod enc P W 0 (fun _=>true) dE n e cs' = some (D i,Pl i))∧cU P e (D i)) →
  ∃ xs : List α,xs.length = len∧(∀ x ∈ xs,wf x)∧∃ cs,RL kd (IW W) cs xs∧∀ j v,cs[j]? = some v → W.cell? (a.add j) = some v
 | 0,_=>⟨[],rfl,by simp,[],rfl,by simp⟩
 | len + 1,h=>by
  obtain ⟨xs,hl,hw,cs,hr,hv⟩:=qp ho hc h0 len fun i hi=>h i (by omega)
  obtain ⟨⟨c1,c,h2⟩,hsz⟩:=h len (by omega)
  obtain ⟨y,hy,hwy⟩:=ho _ _ _ _ _ h2 hsz
  obtain ⟨d,b⟩:=sE c
  have hcl:=hr.len
  refine ⟨xs ++ [y],by simp [hl],fun x hx=>?_,cs ++ c1,hr.app ⟨c1,[],by simp,hy,rfl⟩,fun j v hj=>?_⟩
  ·rcases List.mem_append.1 hx with q | q
   ·exact hw x q
   ·simp at q; subst q; exact hwy
  ·rcases Nat.lt_or_ge j cs.length with q | q
   ·rw [List.getElem?_append_left q] at hj; exact hv j v hj
   ·rw [List.getElem?_append_right q] at hj
    have:=b _ v hj
    rw [jL,hc,← hl,← hcl] at this
    rwa [show cs.length + (j - cs.length) = j from by omega] at this
theorem jC {e : TypeId} : ∀ {l : List (DataW H)} {d : DataW H} {m : Nat},d ∈ l → m ∈ d.weights P e → m ∈ DataW.weightsAll P e l
 | [],_,_,h,_=>by simp at h
 | x::l,d,m,h,hm=>by
  simp only [DataW.weightsAll,List.mem_append]
  rcases List.mem_cons.1 h with q | q
  ·subst q; exact .inl hm
  ·exact .inr (jC q hm)
theorem ie.sl {α : Type} {kd : Kd α} {wf : α → Prop} {t e : TypeId} {B : Nat} (hu : P.underlying t = some (.slice e)) (ho : ie enc P W e kd wf) (hc : P.cellsOf e = kd.sz) (h0 : 0 < kd.sz) (hB : P.bytesOf e = B) :
  ie enc P W t (Kd.sl kd) (fun xs=>xs.length * B ≤ 140737488351232∧∀ x ∈ xs,wf x):=fun dE fuel h d ps hf hs=>by
 rcases Deep.open_slice hu hf with ⟨hcs,_⟩ | ⟨a,l,c,m,n,D,Pl,hcs,_,hl,hm,hmm,b,hx⟩
 ·subst hcs
  exact ⟨[],⟨[Ro kd none 0 []],⟨none,0,rfl,rfl⟩,fu.cons rfl ⟨Nat.zero_le _,[],rfl,.inl rfl⟩ fu.nil⟩,by simp,by simp⟩
 ·subst hcs
  obtain ⟨hd,_⟩:=Prod.mk.inj b
  subst hd
  have hsz : ∀ i,i < l → cU P e (D i):=fun i hi m' hm'=>hs m' (by
   simp only [DataW.weights,hu]
   exact List.mem_cons_of_mem _ (List.mem_append_left _ (jC (List.mem_map.2 ⟨i,List.mem_range.2 hi,rfl⟩) hm')))
  have hlB : l * B ≤ 140737488351232:=by
   have z:=hs ((((List.range l).map D).length + ((List.range (m - l)).map fun j=>D (l + j)).length) * P.bytesOf e) (by
    simp only [DataW.weights,hu]; exact List.mem_cons_self ..)
   simp only [List.length_map,List.length_range,hB] at z
   exact Nat.le_trans (Nat.mul_le_mul_right _ (by omega)) z
  obtain ⟨xs,hlx,hw,cs,hr,hv⟩:=qp (n:=n) (D:=D) (Pl:=Pl) (a:=a) ho hc h0 l fun i hi=>⟨hx i (by rw [hmm]; simp; omega),hsz i hi⟩
  refine ⟨xs,⟨[Ro kd (some a) c xs],⟨some a,c,by rw [hlx],rfl⟩,fu.cons rfl ⟨by omega,cs,hr,?_⟩ fu.nil⟩,by rw [hlx]; exact hlB,hw⟩
  by_cases hn : xs = []
  ·exact .inl hn
  ·right
   have hpos : 0 < cs.length:=by
    rw [hr.len]
    exact Nat.mul_pos (List.length_pos_iff.2 hn) h0
   have hcell:=hv 0 cs[0] (by simp [hpos])
   rw [Addr.add_zero'] at hcell
   unfold World.cell? at hcell
   cases hb : W.heap[a.block]? with
   | none=>simp [hb] at hcell
   | some ob =>
    cases ob with
    | cells C T fr =>
     simp only [hb] at hcell
     have hs : a.spot = none:=by
      cases hs : a.spot with
      | none=>rfl
      | some q=>simp [hs] at hcell
     have ea : a = ⟨a.block,a.off,none⟩:=by cases a; simp at hs; simp [hs]
     refine ⟨a.block,a.off,C,T,fr,by rw [← ea],hb,fun j v hj=>?_⟩
     have:=hv j v hj
     rw [ea,Addr.add_lit,jM hb] at this
     exact this
    | _=>simp [hb] at hcell
theorem tV {α : Type} {kd : Kd α} {wf : α → Prop} {t : TypeId} {dE : Bool} {v : Value} {d : DataW H} {ps : List MemPlace} (ho : ie enc P W t kd wf) (h : DataW.Trod enc P W 0 (fun _=>true) dE t v d ps) (hs : cU P t d) : ∃ y : α,kd.R (IW W) v.cells.toList y∧wf y:=by
 obtain ⟨fuel,hf⟩:=h
 exact ho _ _ _ _ _ hf hs
end
end Go.Proofs.YtckilbegmbaeeaaGreat.SL
namespace Go.Proofs.YtckilbegmbaeeaaGreat.SL
open Go Go.RowKit Go.ChangeShapes Go.WideShapes
set_option linter.unusedVariables false
set_option linter.unusedSimpArgs false
section
variable {H : Type} {enc : TypeId × Value → H} {P : Program} {W : World}
theorem sU {t e : TypeId} {N : Nat} {dE : Bool} {fuel : Nat} {cs : List Value} {d : DataW H} {ps : List MemPlace} (hu : P.underlying t = some (.array N e)) (h : DataW.trod enc P W 0 (fun _=>true) dE fuel t cs = some (d,ps)) (hs : cU P t d) :
  ∃ n,cs.length = P.cellsOf t∧∀ (i : Nat),i < N → ∃ d' ps',DataW.trod enc P W 0 (fun _=>true) dE n e ((cs.drop (i * P.cellsOf e)).take (P.cellsOf e)) = some (d',ps')∧cU P e d':=by
 obtain ⟨xs,n,_,hx,hl,hlen,hf⟩:=DataW.trod_array hu h
 obtain ⟨hd,_⟩:=Prod.mk.inj hx
 refine ⟨n,hl,fun i hi=>?_⟩
 have hlt : i < xs.length:=by omega
 refine ⟨xs[i].1,xs[i].2,by rw [hf i hi]; exact List.getElem?_eq_getElem hlt,fun m hm=>?_⟩
 subst hd
 refine hs m ?_
 have:=jC (P:=P) (e:=e) (l:=xs.map (·.1)) (d:=xs[i].1) (m:=m) (List.mem_map.2 ⟨xs[i],List.getElem_mem hlt,rfl⟩) hm
 simp only [DataW.weights,hu]
 exact this
end
end Go.Proofs.YtckilbegmbaeeaaGreat.SL

import Derived.OrdersHeld
import Derived.Below
import Derived.WalkKit
import Derived.Laws.Small
import Derived.Laws.Slices
import Derived.Laws.Strings
import Derived.Laws.Strings2
import Derived.Laws.Strings3
import Derived.Laws.StructEq
import Derived.WideLaws
import Derived.Laws.AppendOwn
import Derived.Laws.MakeOwn
import Derived.Laws.OwnMore
import Derived.Laws.CopyOwn
import Derived.Deep.MidRow
import Derived.Deep.AppendSrc
import Derived.KernelRfl
import Derived.Lib.SlBytesConst
import Derived.Laws.BytesArg
import Derived.ChangeKeysEq
import Derived.MapKept
import Derived.Laws.Concat
import Derived.Laws.IdiomStrings
import Derived.Lib.AppendZerosOnto
import Derived.Lib.Overlaps
import Derived.Laws.BitsLemmas
import Derived.Deep.Slices
import Derived.Carry
import Derived.SizedLaws
import Derived.OpenShut
namespace Go.Proofs.YtckilbegmbaeeaaGreat.SL
open Go Go.RowKit
set_option linter.unusedVariables false
set_option linter.unusedSimpArgs false
abbrev Hp:=Nat → Option Obj
abbrev Env:=Nat → Value
def Le (I I' : Hp) : Prop:=∀ b o,I b = some o → I' b = some o
theorem Le.refl (I : Hp) : Le I I:=fun _ _ h=>h
theorem Le.trans {I J K : Hp} (h : Le I J) (k : Le J K) : Le I K:=fun b o x=>k b o (h b o x)
structure ig (I h : Hp) (w : World) : Prop where
 imm : ∀ b o,I b = some o → w.heap[b]? = some o
 own : ∀ b o,h b = some o → w.heap[b]? = some o
 sep : ∀ b o,h b = some o → I b = none
theorem gQ {w : World} {b : Nat} {o : Obj} (h : w.heap[b]? = some o) : b < w.heap.size:=by
 rcases Nat.lt_or_ge b w.heap.size with k | k
 ·exact k
 ·simp [Array.getElem?_eq_none k] at h
theorem ig.less {I h k : Hp} {w : World} (f : ig I h w) (hk : Le k h) : ig I k w :=
 ⟨f.imm,fun b o e=>f.own b o (hk b o e),fun b o e=>f.sep b o (hk b o e)⟩
structure dl (I h : Hp) (w : World) (I' h' : Hp) (w' : World) : Prop where
 fits : ig I' h' w'
 le : Le I I'
 os : w'.os = w.os
 tape : w'.tape = w.tape
 output : w'.output = w.output
 size : w.heap.size ≤ w'.heap.size
 kept : ∀ b,b < w.heap.size → h b = none → w'.heap[b]? = w.heap[b]?∧h' b = none∧I' b = I b
theorem dl.refl {I h : Hp} {w : World} (f : ig I h w) : dl I h w I h w :=
 ⟨f,Le.refl I,rfl,rfl,rfl,Nat.le_refl _,fun _ _ e=>⟨rfl,e,rfl⟩⟩
theorem dl.trans {I h I1 h1 I2 h2 : Hp} {w w1 w2 : World} (a : dl I h w I1 h1 w1) (b : dl I1 h1 w1 I2 h2 w2) : dl I h w I2 h2 w2 :=
 ⟨b.fits,a.le.trans b.le,b.os.trans a.os,b.tape.trans a.tape,b.output.trans a.output,Nat.le_trans a.size b.size,fun k hk e=>by
  obtain ⟨c,d,j⟩:=a.kept k hk e
  obtain ⟨l,m,o⟩:=b.kept k (Nat.lt_of_lt_of_le hk a.size) d
  exact ⟨l.trans c,m,o.trans j⟩⟩
theorem dl.less {I h k I' h' : Hp} {w w' : World} (g : dl I k w I' h' w') (hk : Le k h) : dl I h w I' h' w' :=
 ⟨g.fits,g.le,g.os,g.tape,g.output,g.size,fun b hb e=>g.kept b hb (by
  cases hq : k b with
  | none=>rfl
  | some o=>rw [hk b o hq] at e; cases e)⟩
theorem dl.drew {I h : Hp} {w : World} (f : ig I h w) : dl I h w I h { w with drawn:=w.drawn + 1 } :=
 ⟨⟨f.imm,f.own,f.sep⟩,Le.refl I,rfl,rfl,rfl,Nat.le_refl _,fun _ _ e=>⟨rfl,e,rfl⟩⟩
def gF (h h1 h2 : Hp) : Prop:=Le h1 h∧Le h2 h∧∀ b o,h1 b = some o → h2 b = none
def iX (h1 h2 : Hp) : Hp:=fun b=>match h1 b with | some o=>some o | none=>h2 b
theorem nQ {h1 h2 : Hp} : Le h1 (iX h1 h2):=fun b o h=>by simp [iX,h]
theorem rh {h1 h2 : Hp} (d : ∀ b o,h1 b = some o → h2 b = none) : Le h2 (iX h1 h2):=fun b o h=>by
 cases e : h1 b with
 | none=>simp [iX,e,h]
 | some u=>rw [d b u e] at h; cases h
theorem oF {h1 h2 : Hp} {b : Nat} : iX h1 h2 b = none ↔ h1 b = none∧h2 b = none:=by
 unfold iX; cases h1 b <;> simp
theorem dl.frame {I h h1 h2 I' dU : Hp} {w w' : World} (f : ig I h w) (s : gF h h1 h2) (g : dl I h1 w I' dU w') :
  dl I h w I' (iX dU h2) w'∧gF (iX dU h2) dU h2:=by
 have a : ∀ b o,h2 b = some o → b < w.heap.size∧h1 b = none:=fun b o e=>⟨gQ (f.own b o (s.2.1 b o e)),by
  cases q : h1 b with
  | none=>rfl
  | some u=>rw [s.2.2 b u q] at e; cases e⟩
 have d : ∀ b o,dU b = some o → h2 b = none:=fun b o e=>by
  cases q : h2 b with
  | none=>rfl
  | some u =>
   obtain ⟨x,y⟩:=a b u q
   rw [(g.kept b x y).2.1] at e; cases e
 refine ⟨⟨⟨g.fits.imm,fun b o e=>?_,fun b o e=>?_⟩,g.le,g.os,g.tape,g.output,g.size,fun b hb e=>?_⟩,nQ,rh d,d⟩
 ·cases q : dU b with
  | some u=>rw [iX,q] at e; exact g.fits.own b o (q.trans e)
  | none =>
   rw [iX,q] at e
   obtain ⟨x,y⟩:=a b o e
   rw [(g.kept b x y).1]; exact f.own b o (s.2.1 b o e)
 ·cases q : dU b with
  | some u=>exact g.fits.sep b u q
  | none =>
   rw [iX,q] at e
   obtain ⟨x,y⟩:=a b o e
   rw [(g.kept b x y).2.2]; exact f.sep b o (s.2.1 b o e)
 ·have c : h1 b = none:=by
   cases q : h1 b with
   | none=>rfl
   | some u=>rw [s.1 b u q] at e; cases e
  have j : h2 b = none:=by
   cases q : h2 b with
   | none=>rfl
   | some u=>rw [s.2.1 b u q] at e; cases e
  obtain ⟨x,y,z⟩:=g.kept b hb c
  exact ⟨x,oF.2 ⟨y,j⟩,z⟩
structure bC where
 P : Hp → Hp → Prop
 mono : ∀ {I I' h},Le I I' → P I h → P I' h
 pers : Bool
 free : pers = true → ∀ {I h h'},P I h → P I h'
def cq : List bC → Hp → Hp → Prop
 | [],_,_=>True
 | A::As,I,h=>∃ a h2,gF h a h2∧A.P I a∧cq As I h2
theorem gF.of_less {h k h1 h2 : Hp} (s : gF k h1 h2) (hk : Le k h) : gF h h1 h2:=⟨s.1.trans hk,s.2.1.trans hk,s.2.2⟩
theorem gF.none_l (h : Hp) : gF h (fun _=>none) h:=⟨(fun _ _ e=>by cases e),Le.refl h,(fun _ _ e=>by cases e)⟩
theorem nb : ∀ {As : List bC} {I h k : Hp},Le k h → cq As I k → cq As I h
 | [],_,_,_,_,_=>trivial
 | _::_,_,_,_,hk,⟨a,h2,s,p,q⟩=>⟨a,h2,s.of_less hk,p,q⟩
theorem jn : ∀ {As : List bC} {I I' h : Hp},Le I I' → cq As I h → cq As I' h
 | [],_,_,_,_,_=>trivial
 | A::_,_,_,_,hI,⟨a,h2,s,p,q⟩=>⟨a,h2,s,A.mono hI p,jn hI q⟩
theorem dh : ∀ {As Bs : List bC} {I h ha hb : Hp},gF h ha hb → cq As I ha → cq Bs I hb → cq (As ++ Bs) I h
 | [],_,_,_,_,_,s,_,q=>nb s.2.1 q
 | _::_,_,_,_,_,_,s,⟨a,h2,t,p,r⟩,q =>
  ⟨a,iX h2 (fun b=>match h2 b with | some _=>none | none=>_),⟨t.1.trans s.1,(fun b o e=>by
    cases x : h2 b with
    | some u=>simp [iX,x] at e; rw [← e]; exact s.1 b u (t.2.1 b u x)
    | none=>simp [iX,x] at e; exact s.2.1 b o e),fun b o e=>oF.2 ⟨t.2.2 b o e,by simp [t.2.2 b o e]; exact s.2.2 b o (t.1 b o e)⟩⟩,p,
   dh ⟨nQ,(fun b o e=>by
    cases x : h2 b with
    | some u=>rw [s.2.2 b u (t.2.1 b u x)] at e; cases e
    | none=>simp [iX,x]; exact e),fun b o e=>s.2.2 b o (t.2.1 b o e)⟩ r q⟩
theorem gq : ∀ {As Bs : List bC} {I h : Hp},cq (As ++ Bs) I h → ∃ ha hb,gF h ha hb∧cq As I ha∧cq Bs I hb
 | [],_,_,h,q=>⟨fun _=>none,h,gF.none_l h,trivial,q⟩
 | _::_,_,_,_,⟨a,_,s,p,q⟩=>by
  obtain ⟨ha,hb,t,x,y⟩:=gq q
  have d : ∀ b o,a b = some o → ha b = none∧hb b = none:=fun b o e=>by
   have:=s.2.2 b o e
   constructor
   ·cases z : ha b with
    | none=>rfl
    | some u=>rw [t.1 b u z] at this; cases this
   ·cases z : hb b with
    | none=>rfl
    | some u=>rw [t.2.1 b u z] at this; cases this
  refine ⟨iX a ha,hb,⟨fun b o e=>?_,t.2.1.trans s.2.1,fun b o e=>?_⟩,⟨a,ha,⟨nQ,rh fun b o e=>(d b o e).1,fun b o e=>(d b o e).1⟩,p,x⟩,y⟩
  ·cases z : a b with
   | some u=>rw [iX,z] at e; exact s.1 b o (z.trans e)
   | none=>rw [iX,z] at e; exact s.2.1 b o (t.1 b o e)
  ·cases z : a b with
   | some u=>exact (d b u z).2
   | none=>rw [iX,z] at e; exact t.2.2 b o e
theorem dm : ∀ {As : List bC} {k : Nat} {A : bC} {I h : Hp},As[k]? = some A → cq As I h →
  ∃ h1,Le h1 h∧A.P I h1∧∀ (A' : bC) (I' dU h' : Hp),Le I I' → A'.P I' dU → Le dU h' → (∀ b o,h b = some o → h1 b = none → h' b = some o∧dU b = none) →
   cq (As.set k A') I' h'
 | [],_,_,_,_,e,_=>by cases e
 | B::Bs,0,A,I,h,e,⟨h1,h2,s,p,q⟩=>by
  obtain rfl : B = A:=by simpa using e
  refine ⟨h1,s.1,p,fun A' I' dU h' hI p' d a=>⟨dU,h2,⟨d,fun b o x=>?_,fun b o x=>?_⟩,p',jn hI q⟩⟩
  ·refine (a b o (s.2.1 b o x) ?_).1
   cases z : h1 b with
   | none=>rfl
   | some u=>rw [s.2.2 b u z] at x; cases x
  ·cases y : h2 b with
   | none=>rfl
   | some u =>
    have : h1 b = none:=by
     cases z : h1 b with
     | none=>rfl
     | some v=>rw [s.2.2 b v z] at y; cases y
    rw [(a b u (s.2.1 b u y) this).2] at x; cases x
 | B::Bs,k + 1,A,I,h,e,⟨h1,h2,s,p,q⟩=>by
  obtain ⟨c,l,pa,f⟩:=dm (k:=k) (by simpa using e) q
  have ne : ∀ b o,h1 b = some o → c b = none:=fun b o x=>by
   cases z : c b with
   | none=>rfl
   | some u=>have:=l b u z; rw [s.2.2 b o x] at this; cases this
  refine ⟨c,l.trans s.2.1,pa,fun A' I' g1' h' hI p' d a=>⟨h1,fun b=>match h1 b with | some _=>none | none=>h' b,⟨fun b o x=>?_,fun b o x=>?_,fun b o x=>by simp [x]⟩,B.mono hI p,?_⟩⟩
  ·exact (a b o (s.1 b o x) (ne b o x)).1
  ·cases z : h1 b with
   | some u=>simp [z] at x
   | none=>simpa [z] using x
  ·refine f A' I' g1' _ hI p' (fun b o x=>?_) (fun b o x y=>?_)
   ·cases z : h1 b with
    | some u=>have:=(a b u (s.1 b u z) (ne b u z)).2; rw [this] at x; cases x
    | none=>simpa [z] using d b o x
   ·have z : h1 b = none:=by
     cases z : h1 b with
     | none=>rfl
     | some v=>rw [s.2.2 b v z] at x; cases x
    have:=a b o (s.2.1 b o x) y
    simpa [z] using this
def eM : List Nat → List bC → Bool
 | [],_=>true
 | k::ks,As=>(match As[k]? with | some A=>!ks.contains k || A.pers | none=>false) && eM ks As
def sel (ks : List Nat) (As : List bC) : List bC:=ks.filterMap (As[·]?)
def zi : bC:=⟨fun _ _=>True,fun _ _=>trivial,true,fun _ {_ _ _} _=>trivial⟩
theorem uk {As : List bC} {k : Nat} {A : bC} {I h : Hp} (hk : As[k]? = some A) (hp : A.pers = true) (q : cq As I h) : cq (A::As) I h:=by
 obtain ⟨a,_,p,_⟩:=dm hk q
 exact ⟨fun _=>none,h,gF.none_l h,A.free hp p,q⟩
theorem sR {As : List bC} {k : Nat} {A : bC} {I h : Hp} (hk : As[k]? = some A) (q : cq As I h) : ∃ h1 h2,gF h h1 h2∧A.P I h1∧cq (As.set k zi) I h2:=by
 obtain ⟨h1,l,p,f⟩:=dm hk q
 refine ⟨h1,fun b=>match h1 b with | some _=>none | none=>h b,⟨l,fun b o x=>?_,fun b o x=>by simp [x]⟩,p,?_⟩
 ·cases z : h1 b with
  | some u=>simp [z] at x
  | none=>simpa [z] using x
 ·exact f zi I (fun _=>none) _ (Le.refl I) trivial (fun _ _ e=>by cases e) (fun b o x y=>⟨by simpa [y] using x,rfl⟩)
theorem si {A : bC} {k : Nat} {As : List bC} : ∀ {ks : List Nat},(∀ j ∈ ks,j ≠ k) → sel ks (As.set k A) = sel ks As
 | [],_=>rfl
 | j::ks,h=>by
  have e:=si (A:=A) (k:=k) (As:=As) (ks:=ks) fun i hi=>h i (by simp [hi])
  unfold sel at *
  simp only [List.filterMap_cons]
  rw [List.getElem?_set_ne (Ne.symm (h j (by simp))),e]
theorem ia : ∀ {ks : List Nat} {As : List bC} {I h : Hp},eM ks As = true → cq As I h → cq (sel ks As) I h
 | [],_,_,_,_,_=>trivial
 | k::ks,As,I,h,hs,q=>by
  simp only [eM,Bool.and_eq_true] at hs
  obtain ⟨c,h2⟩:=hs
  cases hk : As[k]? with
  | none=>simp [hk] at c
  | some A =>
   simp only [hk] at c
   have e : sel (k::ks) As = A::sel ks As:=by simp [sel,hk]
   rw [e]
   cases hp : A.pers with
   | true =>
    obtain ⟨a,b,s,p,r⟩:=uk hk hp q
    exact ⟨a,b,s,p,ia h2 r⟩
   | false =>
    have hn : ks.contains k = false:=by simpa [hp] using c
    obtain ⟨a,b,s,p,r⟩:=sR hk q
    have hno : ∀ j ∈ ks,j ≠ k:=fun j hj he=>by subst he; simp [hj] at hn
    have d : sel ks (As.set k zi) = sel ks As:=by
     exact si hno
    have m : ∀ (l : List Nat),(∀ j ∈ l,j ≠ k) → eM l (As.set k zi) = eM l As:=by
     intro l
     induction l with
     | nil=>intro _; rfl
     | cons j l ih =>
      intro hl
      simp only [eM]
      rw [List.getElem?_set_ne (Ne.symm (hl j (by simp))),ih fun i hi=>hl i (by simp [hi])]
    exact ⟨a,b,s,p,d ▸ ia (by rw [m ks hno]; exact h2) r⟩
theorem qY {s t : Nat} (h : s ≠ t) : Nat.beq s t = false:=by
 cases e : Nat.beq s t with
 | false=>rfl
 | true=>exact absurd (Nat.eq_of_beq_eq_true e) h
def upd (e : Env) (t : Nat) (v : Value) : Env:=fun s=>bif Nat.beq s t then v else e s
def rE (e : Env) : List (Nat × Value) → Env
 | []=>e
 | (t,v)::l=>upd (rE e l) t v
def kY (e : Env) : List (Nat × Value) → Prop
 | []=>True
 | (t,v)::l=>e t = v∧kY e l
theorem ux {e : Env} {t : Nat} {v : Value} (h : e t = v) : upd e t v = e:=by
 funext s
 unfold upd
 by_cases hs : s = t
 ·subst hs; simp [h]
 ·have : Nat.beq s t = false:=qY hs
  simp [this]
theorem lO : ∀ {e : Env} {l : List (Nat × Value)},kY e l → e = rE e l
 | _,[],_=>rfl
 | e,(t,v)::l,⟨h,k⟩=>by
  rw [rE,← lO k]
  exact (ux h).symm
def ev (e : Env) : Operand → Value
 | .tmp t=>e t
 | .const v=>v
 | .global g=>.pointer (some ⟨g,0,none⟩)
 | .func f=>.func (.func f) #[] #[]
structure mn (n : Nat) (e : Env) (ds : List Deferred) (a : Act) : Prop where
 size : a.tmps.size = n
 get : ∀ t,a.tmps.getD t undef = e t
 defers : a.defers = ds
theorem mn.eval {n : Nat} {e : Env} {ds : List Deferred} {a : Act} (r : mn n e ds a) : a.eval = ev e:=by
 funext x
 cases x <;> simp only [Act.eval,ev]
 exact r.get _
def put (e : Env) (d : Option Nat) (v : Value) : Env:=match d with | some t=>upd e t v | none=>e
def cb (d : Option Nat) (n : Nat) : Bool:=match d with | some t=>Nat.blt t n | none=>true
theorem mn.put {n : Nat} {e : Env} {ds : List Deferred} {a : Act} (r : mn n e ds a) {d : Option Nat} (hd : cb d n = true) (v : Value) : mn n (put e d v) ds (a.put d v):=by
 cases d with
 | none=>exact r
 | some t =>
  have ht : t < a.tmps.size:=by rw [r.size]; simpa [cb] using hd
  refine ⟨by simp [Act.put,r.size],fun s=>?_,r.defers⟩
  simp only [Act.put,SL.put,upd]
  by_cases hs : s = t
  ·subst hs; simp [Array.getElem?_setIfInBounds,ht]
  ·have b : Nat.beq s t = false:=qY hs
   have:=r.get s
   simp only [b,cond_false]
   rw [← this]
   simp [Array.getElem?_setIfInBounds,Ne.symm hs]
abbrev dI:=Exit → Env → List Deferred → List bC → Prop
def eG (n : Nat) (Q : dI) (I h : Hp) (w : World) : Exit → Act → World → Prop:=fun x a' w' =>
 ∃ e' ds' As' I' h',mn n e' ds' a'∧cq As' I' h'∧dl I h w I' h' w'∧Q x e' ds' As'
def SA (P : Program) (n : Nat) (c : Code) (Q : dI) (e : Env) (ds : List Deferred) (As : List bC) : Prop :=
 ∀ I h a w,cq As I h → mn n e ds a → ig I h w → c.wp P (eG n Q I h w) a w
section
variable {P : Program} {n : Nat} {Q : dI} {e : Env} {ds : List Deferred} {As : List bC}
theorem eG.mono {Q' : dI} (hq : ∀ x e ds As,Q x e ds As → Q' x e ds As) {I h : Hp} {w : World} {x : Exit} {a : Act} {w' : World} (p : eG n Q I h w x a w') : eG n Q' I h w x a w':=by
 obtain ⟨e',ds',As',I',h',r,s,g,q⟩:=p
 exact ⟨e',ds',As',I',h',r,s,g,hq _ _ _ _ q⟩
theorem SA.mono {c : Code} {Q' : dI} (h : SA P n c Q e ds As) (hq : ∀ x e ds As,Q x e ds As → Q' x e ds As) : SA P n c Q' e ds As :=
 fun I h' a w s r f=>wp_mono (h I h' a w s r f) fun _ _ _ p=>eG.mono hq p
theorem SA.conv {c : Code} {Bs : List bC} (hv : ∀ I h,cq As I h → cq Bs I h) (h : SA P n c Q e ds Bs) : SA P n c Q e ds As :=
 fun I h' a w s r f=>h I h' a w (hv I h' s) r f
theorem ap (h : Q .normal e ds As) : SA P n .skip Q e ds As:=fun I h' a w s r f=>wp_skip ⟨e,ds,As,I,h',r,s,dl.refl f,h⟩
theorem cf {id : Nat} (h : Q (.exit id) e ds As) : SA P n (.exit id) Q e ds As:=fun I h' a w s r f=>wp_exit ⟨e,ds,As,I,h',r,s,dl.refl f,h⟩
theorem fm (h : Q .ret e ds As) : SA P n .ret Q e ds As:=fun I h' a w s r f=>wp_ret ⟨e,ds,As,I,h',r,s,dl.refl f,h⟩
def thn (K : Env → List Deferred → List bC → Prop) (Q : dI) : dI
 | .normal=>K
 | x=>Q x
theorem ao {x y : Code} (h : SA P n x (thn (SA P n y Q) Q) e ds As) : SA P n (.seq x y) Q e ds As:=by
 intro I h' a w s r f
 refine wp_seq (wp_mono (h I h' a w s r f) fun ex D N p=>?_)
 obtain ⟨E,l,c,j,o,u,z,b,q⟩:=p
 cases ex with
 | normal =>
  refine wp_mono (q j o D N z u b.fits) fun ex O R p=>?_
  obtain ⟨F,m,d,B,h2,L,M,J,K⟩:=p
  exact ⟨F,m,d,B,h2,L,M,b.trans J,K⟩
 | _=>exact ⟨E,l,c,j,o,u,z,b,q⟩
theorem rL {c : Operand} {x y : Code} {p : Prop} [Decidable p] (hc : ev e c = .bool (decide p)) (ht : p → SA P n x Q e ds As) (hf : ¬p → SA P n y Q e ds As) : SA P n (.cond c x y) Q e ds As:=by
 intro I h' a w s r f
 have hc' : a.eval c = .bool (decide p):=by rw [r.eval]; exact hc
 by_cases hp : p
 ·exact wp_cond_true (by simpa [hp] using hc') (ht hp I h' a w s r f)
 ·exact wp_cond_false (by simpa [hp] using hc') (hf hp I h' a w s r f)
theorem qg {c : Operand} {x y : Code} {b : Bool} (hc : ev e c = .bool b) (ht : b = true → SA P n x Q e ds As) (hf : b = false → SA P n y Q e ds As) : SA P n (.cond c x y) Q e ds As:=by
 intro I h' a w s r f
 have hc' : a.eval c = .bool b:=by rw [r.eval]; exact hc
 cases b
 ·exact wp_cond_false hc' (hf rfl I h' a w s r f)
 ·exact wp_cond_true hc' (ht rfl I h' a w s r f)
def inb (id : Nat) (Q : dI) : dI
 | .exit i=>fun e ds As=>bif Nat.beq i id then Q .normal e ds As else Q (.exit i) e ds As
 | x=>Q x
theorem aQ {id : Nat} {c : Code} (h : SA P n c (inb id Q) e ds As) : SA P n (.block id c) Q e ds As:=by
 intro I h' a w s r f
 refine wp_block (wp_mono (h I h' a w s r f) fun ex z B p=>?_)
 obtain ⟨l,d,b,j,o,u,y,m,q⟩:=p
 cases ex with
 | exit i =>
  by_cases hi : i = id
  ·subst hi
   simp only [Exit.inBlock,if_true]
   exact ⟨l,d,b,j,o,u,y,m,by simpa [inb] using q⟩
  ·have hb : Nat.beq i id = false:=qY hi
   simp only [Exit.inBlock,hi,if_false]
   exact ⟨l,d,b,j,o,u,y,m,by simpa [inb,hb] using q⟩
 | _=>exact ⟨l,d,b,j,o,u,y,m,q⟩
theorem cj {c : Code} (J : Nat → Env → List Deferred → List bC → Prop) {k : Nat} (h0 : J k e ds As)
  (round : ∀ k e ds As,J k e ds As → SA P n c (thn (fun e ds As=>∃ k',k' < k∧J k' e ds As) Q) e ds As) : SA P n (.loop c) Q e ds As:=by
 intro L h0' O M U S f0 b kk cs
 have key : ∀ m k e ds As I h a w,k = m → J k e ds As → cq As I h → mn n e ds a → ig I h w → dl L h0' M I h w →
   ∃ x a' w',eG n Q L h0' M x a' w'∧Arrives P (lone (b.at a (.code c::.inLoop c::kk)) cs w) b kk cs x a' w':=by
  intro m
  induction m using Nat.strongRecOn with
  | _ m ih =>
   intro k e ds As I h a w hk hJ s r f z
   obtain ⟨x,u,F,⟨y,j,d,p,B,D,E,o,q⟩,harr⟩:=round k e ds As hJ I h a w s r f b (.inLoop c::kk) cs
   cases x with
   | normal =>
    obtain ⟨k',hlt,hJ'⟩:=q
    obtain ⟨Z,R,Y,N,K⟩:=ih k' (hk ▸ hlt) k' y j d p B u F rfl hJ' E D o.fits (z.trans o)
    exact ⟨Z,R,Y,N,.of_steps (Steps.trans harr (.one step_inLoop)) K⟩
   | exit id=>exact ⟨_,u,F,⟨y,j,d,p,B,D,E,z.trans o,q⟩,.pass (x:=.inLoop c) rfl (fun _ _=>.inl (by simp)) harr⟩
   | goto l=>exact ⟨_,u,F,⟨y,j,d,p,B,D,E,z.trans o,q⟩,.pass (x:=.inLoop c) rfl (fun _ _=>.inl (by simp)) harr⟩
   | ret=>exact ⟨_,u,F,⟨y,j,d,p,B,D,E,z.trans o,q⟩,.pass (x:=.inLoop c) rfl (fun _ _=>.inl (by simp)) harr⟩
   | panic ch=>exact ⟨_,u,F,⟨y,j,d,p,B,D,E,z.trans o,q⟩,.pass (x:=.inLoop c) rfl (fun _ _=>.inl (by simp)) harr⟩
   | outgrown=>exact ⟨_,u,F,⟨y,j,d,p,B,D,E,z.trans o,q⟩,.pass (x:=.inLoop c) rfl (fun _ _=>.inl (by simp)) harr⟩
 obtain ⟨x,a',w',hq,harr⟩:=key k k e ds As L h0' O M rfl h0 U S f0 (dl.refl f0)
 exact ⟨x,a',w',hq,.of_steps (.one step_loop) harr⟩
def OA (P : Program) (n : Nat) (o : Oper) (K : Env → List Deferred → List bC → Prop) (Q : dI) (e : Env) (ds : List Deferred) (As : List bC) : Prop :=
 ∀ I h a w,cq As I h → mn n e ds a → ig I h w →
  o.wp P a w (fun a' w'=>∃ e' ds' As' I' h',mn n e' ds' a'∧cq As' I' h'∧dl I h w I' h' w'∧K e' ds' As') (eG n Q I h w)
def RA (P : Program) (n : Nat) (ops : Array Oper) (Q : dI) : List Oper → Env → List Deferred → List bC → Prop
 | [],e,ds,As=>Q .normal e ds As
 | o::os,e,ds,As=>∀ I h a w,cq As I h → mn n e ds a → ig I h w →
   (Region.wanted o (yielded ops a.tmps) = true∧o.wp P a w (fun a' w'=>∃ e' ds' As' I' h',mn n e' ds' a'∧cq As' I' h'∧dl I h w I' h' w'∧RA P n ops Q os e' ds' As') (eG n Q I h w)) ∨
   (Region.wanted o (yielded ops a.tmps) = false∧cb o.dst n = true∧RA P n ops Q os (put e o.dst undef) ds As)
theorem lF {ops : Array Oper} {o : Oper} {os : List Oper} (hg : o.guard = none) (h : OA P n o (RA P n ops Q os) Q e ds As) : RA P n ops Q (o::os) e ds As :=
 fun I h' a w s r f=>.inl ⟨by simp [Region.wanted,hg],h I h' a w s r f⟩
theorem gY {ops : Array Oper} {a : Act} (r : mn n e ds a) {j : Nat} {d : Nat} (hj : (ops[j]?).bind (·.dst) = some d) (hd : d < n) : yielded ops a.tmps j = match e d with | .bool b=>some b | _=>none:=by
 have hlt : d < a.tmps.size:=by rw [r.size]; exact hd
 have hg:=r.get d
 simp [Array.getElem?_eq_getElem hlt] at hg
 simp only [yielded,hj,Option.bind_some,Array.getElem?_eq_getElem hlt,hg]
 cases e d <;> rfl
theorem wz {ops : Array Oper} {o : Oper} {os : List Oper} {j d : Nat} {want : Bool} (hg : o.guard = some (j,want)) (hj : (ops[j]?).bind (·.dst) = some d) (hd : Nat.blt d n = true) (hv : e d = .bool want)
  (h : OA P n o (RA P n ops Q os) Q e ds As) : RA P n ops Q (o::os) e ds As :=
 fun I h' a w s r f=>.inl ⟨by simp [Region.wanted,hg,gY r hj (by simpa using hd),hv],h I h' a w s r f⟩
theorem xI {ops : Array Oper} {o : Oper} {os : List Oper} {j d : Nat} {want : Bool} (hg : o.guard = some (j,want)) (hj : (ops[j]?).bind (·.dst) = some d) (hd : Nat.blt d n = true) (hv : e d = .bool (!want))
  (ho : cb o.dst n = true) (h : RA P n ops Q os (put e o.dst undef) ds As) : RA P n ops Q (o::os) e ds As :=
 fun I h' a w s r f=>.inr ⟨by simp [Region.wanted,hg,gY r hj (by simpa using hd),hv],ho,h⟩
theorem lB {ops : Array Oper} {I0 h0 : Hp} {w0 : World} : ∀ (os : List Oper) (l : List Nat) (e : Env) (ds : List Deferred) (As : List bC) (I h : Hp) (a : Act) (w : World),
  l.map (ops[·]?) = os.map some → RA P n ops Q os e ds As → cq As I h → mn n e ds a → ig I h w → dl I0 h0 w0 I h w → wpOps P ops (eG n Q I0 h0 w0) l a w
 | [],[],e,ds,As,I,h,a,w,_,hr,s,r,f,g=>⟨e,ds,As,I,h,r,s,g,hr⟩
 | [],_::_,_,_,_,_,_,_,_,hl,_,_,_,_,_=>by simp at hl
 | _::_,[],_,_,_,_,_,_,_,hl,_,_,_,_,_=>by simp at hl
 | o::os,i::l,e,ds,As,I,h,a,w,hl,hr,s,r,f,g=>by
  simp only [List.map_cons,List.cons.injEq] at hl
  obtain ⟨hi,hl⟩:=hl
  simp only [wpOps,hi]
  rcases hr I h a w s r f with ⟨hw,hwp⟩ | ⟨hw,hd,hk⟩
  ·simp only [hw,if_true]
   refine .inl ?_
   have post : ∀ ex a' w',eG n Q I h w ex a' w' → eG n Q I0 h0 w0 ex a' w':=fun ex a' w' p=>by
    obtain ⟨e',ds',As',I',h',r',s',g',q⟩:=p
    exact ⟨e',ds',As',I',h',r',s',g.trans g',q⟩
   have next : ∀ a' w',(∃ e' ds' As' I' h',mn n e' ds' a'∧cq As' I' h'∧dl I h w I' h' w'∧RA P n ops Q os e' ds' As') → wpOps P ops (eG n Q I0 h0 w0) l a' w':=fun a' w' p=>by
    obtain ⟨e',ds',As',I',h',r',s',g',q⟩:=p
    exact lB os l e' ds' As' I' h' a' w' hl q s' r' g'.fits (g.trans g')
   unfold Oper.wp at *
   generalize (execOp a.eval o).run P w = fF at *
   cases fF with
   | ok x w' =>
    cases x <;> simp only [Oper.upon] at hwp ⊢ <;> first
     | exact next _ _ hwp
     | exact Calls.mono hwp (fun ee w'' he=>by cases ee <;> first | exact next _ _ he | exact post _ _ _ he | (obtain ⟨b,c,q⟩:=he; exact ⟨b,c,post _ _ _ q⟩))
     | exact Rows.mono hwp (fun _ _ he=>next _ _ he)
   | halt x w'=>cases x <;> simp only [Oper.upon] at hwp ⊢ <;> exact post _ _ _ hwp
  ·simp only [hw,Bool.false_eq_true,if_false]
   exact lB os l (put e o.dst undef) ds As I h (a.put o.dst undef) w hl hk s (r.put hd undef) f g
theorem ak {id : Nat} {ops : List Oper} (h : RA P n ops.toArray Q ops e ds As) : SA P n (.region id ops.toArray false) Q e ds As:=by
 intro I h' a w s r f
 refine wp_region (lB ops _ e ds As I h' a w ?_ h s r f (dl.refl f))
 apply List.ext_getElem?
 intro i
 simp only [List.getElem?_map,List.size_toArray,List.getElem?_range',List.getElem?_toArray]
 by_cases hi : i < ops.length
 ·simp [List.getElem?_range,hi]
 ·simp [List.getElem?_eq_none (Nat.le_of_not_lt hi),List.getElem?_range,hi]
theorem wv {o : Oper} {K : Env → List Deferred → List bC → Prop} (v : Value) (hd : cb o.dst n = true) (hv : ∀ w,(execOp (ev e) o).run P w = .ok (.value v) w) (h : K (put e o.dst v) ds As) : OA P n o K Q e ds As:=by
 intro I h' a w s r f
 unfold Oper.wp
 rw [r.eval,hv w]
 exact ⟨_,ds,As,I,h',r.put hd v,s,dl.refl f,h⟩
theorem uP {o : Oper} {K : Env → List Deferred → List bC → Prop} (v : Value) (hd : cb o.dst n = true) (hv : ∀ I h w,cq As I h → ig I h w → (execOp (ev e) o).run P w = .ok (.value v) w) (h : K (put e o.dst v) ds As) : OA P n o K Q e ds As:=by
 intro I h' a w s r f
 unfold Oper.wp
 rw [r.eval,hv I h' w s f]
 exact ⟨_,ds,As,I,h',r.put hd v,s,dl.refl f,h⟩
def SC (P : Program) (f : FuncId) (args : Array Value) (pre : List bC) (R : Ending → List bC → Prop) : Prop :=
 ∀ I h w,cq pre I h → ig I h w → Calls P f args w fun x w'=>x ≠ .outgrown∧∃ As' I' h',cq As' I' h'∧dl I h w I' h' w'∧R x As'
theorem SC.mono {f : FuncId} {args : Array Value} {pre : List bC} {R R' : Ending → List bC → Prop} (h : SC P f args pre R) (hr : ∀ x As,R x As → R' x As) : SC P f args pre R' :=
 fun I h' w s ft=>(h I h' w s ft).mono fun _ _ ⟨hx,As',I',h'',s',g,r⟩=>⟨hx,As',I',h'',s',g,hr _ _ r⟩
def je (P : Program) (fn : Func) (R : Ending → List bC → Prop) : dI
 | .normal,e,ds,As | .ret,e,ds,As=>ds = []∧∃ v,(∀ I h w (tmps : Array Value),(∀ t,tmps.getD t undef = e t) → cq As I h → ig I h w → (results fn tmps).run P w = .ok v w)∧R (.returned v) As
 | .panic chain,_,ds,As=>ds = []∧R (.panicked chain) As
 | _,_,_,_=>False
def uU (args : Array Value) : Env:=fun t=>args.getD t undef
theorem qT {f : FuncId} {fn : Func} {c : Code} {args : Array Value} {pre : List bC} {R : Ending → List bC → Prop} (hf : P.funcs[f]? = some fn) (hb : fn.body = some c) (ha : args.size ≤ fn.ntmps)
  (h : SA P fn.ntmps c (je P fn R) (uU args) [] pre) : SC P f args pre R:=by
 intro I h' w s ft
 refine calls_of_wp hf hb (wp_mono (h I h' { tmps:=args ++ Array.replicate (fn.ntmps - args.size) undef,defers:=[] } w s ⟨by simp; omega,fun t=>?_,rfl⟩ ft) fun ex y r p=>?_)
 ·simp only [uU]
  rcases Nat.lt_or_ge t args.size with k | k
  ·simp [Array.getElem?_append_left k]
  ·simp only [Array.getD_eq_getD_getElem?]
   rw [Array.getElem?_append_right k,Array.getElem?_eq_none k]
   simp only [Array.getElem?_replicate]
   split <;> rfl
 ·obtain ⟨z,u,a,b,j,m,o,d,q⟩:=p
  cases ex with
  | normal =>
   obtain ⟨hd,v,hr,hR⟩:=q
   exact ⟨m.defers.trans hd,v,hr b j r _ m.get o d.fits,by simp,a,b,j,o,d,hR⟩
  | ret =>
   obtain ⟨hd,v,hr,hR⟩:=q
   exact ⟨m.defers.trans hd,v,hr b j r _ m.get o d.fits,by simp,a,b,j,o,d,hR⟩
  | panic chain =>
   obtain ⟨hd,hR⟩:=q
   exact ⟨m.defers.trans hd,by simp,a,b,j,o,d,hR⟩
  | exit id=>exact q.elim
  | goto l=>exact q.elim
  | outgrown=>exact q.elim
end
end Go.Proofs.YtckilbegmbaeeaaGreat.SL
namespace Go.Proofs.YtckilbegmbaeeaaGreat.SL
open Go Go.RowKit
set_option linter.unusedVariables false
set_option linter.unusedSimpArgs false
abbrev V (P : Program) (e : Env) (o : Oper) (v : Value) : Prop:=∀ w,(execOp (ev e) o).run P w = .ok (.value v) w
def kD (k : IntKind) (x y : Int) : Int:=k.wrap (BitVec.ofInt k.bits x &&& BitVec.ofInt k.bits y).toNat
def po (k : IntKind) (x y : Int) : Int:=k.wrap (BitVec.ofInt k.bits x ||| BitVec.ofInt k.bits y).toNat
def ky (k : IntKind) (x y : Int) : Int:=k.wrap (BitVec.ofInt k.bits x ^^^ BitVec.ofInt k.bits y).toNat
def eS (k : IntKind) (x y : Int) : Int:=k.wrap (BitVec.ofInt k.bits x &&& ~~~BitVec.ofInt k.bits y).toNat
def kN (k : IntKind) (x y : Int) : Int:=k.wrap (x * 2 ^ (min y.toNat k.bits))
def gR (k : IntKind) (x y : Int) : Int:=x.fdiv (2 ^ (min y.toNat k.bits))
def kF (k : IntKind) (x : Int) : Int:=ky k (if k.signed then -1 else k.max) x
def da (x y : Int) : Int:=if y < x then y else x
def fk (x y : Int) : Int:=if y > x then y else x
section
variable {P : Program} {n : Nat} {e : Env} {d : Option Nat} {ty T T' : TypeId} {pos : String} {aft : Array Edge} {g : Option (Nat × Bool)} {x y c : Operand} {k k' : IntKind} {a b : Int}
theorem tl {v : Value} (hx : ev e x = v) : V P e ⟨d,.move x,ty,pos,aft,g⟩ v:=fun w=>by subst hx; rfl
theorem bo {v : Value} (hx : ev e x = v) : V P e ⟨d,.assign x,ty,pos,aft,g⟩ v:=fun w=>by subst hx; rfl
theorem tp {p : Bool} {u v : Value} (hc : ev e c = .bool p) (hx : ev e x = u) (hy : ev e y = v) : V P e ⟨d,.pick c x y,ty,pos,aft,g⟩ (if p then u else v):=fun w=>by
 subst hx; subst hy; simp [execOp,hc,asBool]
theorem bW (hx : ev e x = .int k a) (hy : ev e y = .int k b) : V P e ⟨d,.binOp .add T x y T',ty,pos,aft,g⟩ (.int k (k.wrap (a + b))):=fun w=>by
 simp [execOp,hx,hy,eqGuard,binOp,Op.intArith]
theorem cT (hx : ev e x = .int k a) (hy : ev e y = .int k b) : V P e ⟨d,.binOp .sub T x y T',ty,pos,aft,g⟩ (.int k (k.wrap (a - b))):=fun w=>by
 simp [execOp,hx,hy,eqGuard,binOp,Op.intArith]
theorem jt (hx : ev e x = .int k a) (hy : ev e y = .int k b) : V P e ⟨d,.binOp .mul T x y T',ty,pos,aft,g⟩ (.int k (k.wrap (a * b))):=fun w=>by
 simp [execOp,hx,hy,eqGuard,binOp,Op.intArith]
theorem nf (hx : ev e x = .int k a) (hy : ev e y = .int k b) (h0 : b ≠ 0) : V P e ⟨d,.binOp .rem T x y T',ty,pos,aft,g⟩ (.int k (a.tmod b)):=fun w=>by
 simp [execOp,hx,hy,eqGuard,binOp,Op.intDiv,h0]
theorem vG (hx : ev e x = .int k a) (hy : ev e y = .int k' b) (h0 : 0 ≤ b) : V P e ⟨d,.binOp .shr T x y T',ty,pos,aft,g⟩ (.int k (gR k a b)):=fun w=>by
 have : ¬ b < 0:=by omega
 simp [execOp,hx,hy,eqGuard,binOp,Op.shift,gR,this]
theorem ce (hx : ev e x = .int k a) (hy : ev e y = .int k b) : V P e ⟨d,.binOp .lss T x y T',ty,pos,aft,g⟩ (.bool (decide (a < b))):=fun w=>by
 simp [execOp,hx,hy,eqGuard,binOp,Op.intCmp]
theorem gG (hx : ev e x = .int k a) (hy : ev e y = .int k b) : V P e ⟨d,.binOp .leq T x y T',ty,pos,aft,g⟩ (.bool (decide (a ≤ b))):=fun w=>by
 simp [execOp,hx,hy,eqGuard,binOp,Op.intCmp]
theorem eK (hx : ev e x = .int k a) (hy : ev e y = .int k b) : V P e ⟨d,.binOp .gtr T x y T',ty,pos,aft,g⟩ (.bool (decide (a > b))):=fun w=>by
 simp [execOp,hx,hy,eqGuard,binOp,Op.intCmp]
theorem dT (hx : ev e x = .int k a) (hy : ev e y = .int k b) : V P e ⟨d,.binOp .geq T x y T',ty,pos,aft,g⟩ (.bool (decide (a ≥ b))):=fun w=>by
 simp [execOp,hx,hy,eqGuard,binOp,Op.intCmp]
theorem bk (hx : ev e x = .int k a) (hy : ev e y = .int k b) : V P e ⟨d,.binOp .eql T x y T',ty,pos,aft,g⟩ (.bool (decide (a = b))):=fun w=>by
 simp [execOp,hx,hy,eqGuard_at_int,binOp,Op.intCmp]
 by_cases h : a = b <;> simp [h]
theorem dK (hx : ev e x = .int k a) (hy : ev e y = .int k b) : V P e ⟨d,.binOp .neq T x y T',ty,pos,aft,g⟩ (.bool (decide (a ≠ b))):=fun w=>by
 simp [execOp,hx,hy,eqGuard_at_int,binOp,Op.intCmp]
 by_cases h : a = b <;> simp [h]
theorem ly (hu : P.underlying T = some .bool) (p q : Bool) (w : World) : (Op.equal T (.bool p) (.bool q)).run P w = .ok (p == q) w:=by
 show (Op.equalIn (9999 + 1) T (.bool p) (.bool q)).run P w = _
 generalize 9999 = m
 simp [Op.equalIn,run_underlying hu]
theorem gJ {p q : Bool} (hu : P.underlying T = some .bool) (hx : ev e x = .bool p) (hy : ev e y = .bool q) : V P e ⟨d,.binOp .eql T x y T',ty,pos,aft,g⟩ (.bool (decide (p = q))):=fun w=>by
 have h : (binOp .eql T (.bool p) (.bool q)).run P w = .ok (.bool (p == q)) w:=by
  show (do pure (.bool (← Op.equal T (.bool p) (.bool q))) : Sem Value).run P w = _
  simp [ly hu]
 simp only [execOp,hx,hy,eqGuard_at_bool,Sem.run_bind,Sem.run_pure,Result.andThen_ok,h]
 cases p <;> cases q <;> rfl
theorem oX {p q : Bool} (hu : P.underlying T = some .bool) (hx : ev e x = .bool p) (hy : ev e y = .bool q) : V P e ⟨d,.binOp .neq T x y T',ty,pos,aft,g⟩ (.bool (decide (p ≠ q))):=fun w=>by
 have h : (binOp .neq T (.bool p) (.bool q)).run P w = .ok (.bool (!(p == q))) w:=by
  show (do pure (.bool (!(← Op.equal T (.bool p) (.bool q)))) : Sem Value).run P w = _
  simp [ly hu]
 simp only [execOp,hx,hy,eqGuard_at_bool,Sem.run_bind,Sem.run_pure,Result.andThen_ok,h]
 cases p <;> cases q <;> rfl
theorem rD {s t : ByteArray} : s.toList = t.toList ↔ s = t:=by
 constructor
 ·intro h
  rw [ByteArray.toList_eq,ByteArray.toList_eq] at h
  cases s; cases t
  simpa using h
 ·rintro rfl; rfl
theorem bX {p : Bool} (hx : ev e x = .bool p) : V P e ⟨d,.unOp .not T x,ty,pos,aft,g⟩ (.bool (!p)):=fun w=>by
 simp [execOp,hx,Op.unary]
theorem mr (hx : ev e x = .int k a) : V P e ⟨d,.unOp .neg T x,ty,pos,aft,g⟩ (.int k (k.wrap (0 - a))):=fun w=>by
 simp [execOp,hx,Op.unary,Op.intArith]
theorem jQ (hs : (P.underlying T).isSome = true) (hu : P.underlying T' = some (.int k')) (hx : ev e x = .int k a) : V P e ⟨d,.convert T T' x,ty,pos,aft,g⟩ (.int k' (k'.wrap a)):=fun w=>by
 have:=run_convert_int (P:=P) (w:=w) T T' k a
 cases h : P.underlying T with
 | none=>simp [h] at hs
 | some ds=>simp [execOp,hx,convert,run_underlying h,run_underlying hu,Conv.intToInt]
theorem cO {A : Option Addr} {l cp : Nat} {E : TypeId} (hu : P.underlying T = some (.slice E)) (hx : ev e x = .slice A l cp) : V P e ⟨d,.call { callee:=.builtin .len,args:=#[x],argTypes:=#[T] },ty,pos,aft,g⟩ (.int .i64 (l : Int)):=fun w=>by
 simp [execOp,resolve,invoke,builtin,hx,Builtin.len_,run_underlying hu,goInt]
theorem xJ {A : Option Addr} {l cp : Nat} {E : TypeId} (hu : P.underlying T = some (.slice E)) (hx : ev e x = .slice A l cp) : V P e ⟨d,.call { callee:=.builtin .cap,args:=#[x],argTypes:=#[T] },ty,pos,aft,g⟩ (.int .i64 (cp : Int)):=fun w=>by
 simp [execOp,resolve,invoke,builtin,hx,Builtin.cap_,run_underlying hu,goInt]
theorem jK {ts : Array TypeId} (hx : ev e x = .int k a) (hy : ev e y = .int k b) : V P e ⟨d,.call { callee:=.builtin .min,args:=#[x,y],argTypes:=ts },ty,pos,aft,g⟩ (.int k (da a b)):=fun w=>by
 simp [execOp,resolve,invoke,builtin,hx,hy,Builtin.min_,Builtin.min2,da]
theorem nJ {ts : Array TypeId} (hx : ev e x = .int k a) (hy : ev e y = .int k b) : V P e ⟨d,.call { callee:=.builtin .max,args:=#[x,y],argTypes:=ts },ty,pos,aft,g⟩ (.int k (fk a b)):=fun w=>by
 simp [execOp,resolve,invoke,builtin,hx,hy,Builtin.max_,Builtin.max2,fk]
theorem sB {vs : Array Value} {i : Nat} {v : Value} (hx : ev e x = .tuple vs) (hv : vs[i]? = some v) : V P e ⟨d,.extract x i,ty,pos,aft,g⟩ v:=fun w=>by
 simp [execOp,hx,Instr.extract,hv]
theorem qW {A : Addr} (hx : ev e x = .pointer (some A)) : V P e ⟨d,.nilCheck x,ty,pos,aft,g⟩ (.pointer (some A)):=fun w=>by
 simp [execOp,hx]
theorem qi {fs : Array Field} {f : Field} {i : Nat} {A : Addr} (hu : P.underlying T = some (.struct fs)) (hf : fs[i]? = some f) (hz : ((P.info? f.type).map fun i=>decide (i.size = 0)) = some false) (hx : ev e x = .pointer (some A)) :
  V P e ⟨d,.fieldAddr T x i,ty,pos,aft,g⟩ (.pointer (some (A.add f.offset))):=fun w=>by
 cases h : P.info? f.type with
 | none=>simp [h] at hz
 | some q =>
  have : ¬ q.size = 0:=by simpa [h] using hz
  simp [execOp,hx,Instr.fieldAt,run_underlying hu,hf,Instr.sureAddr,fieldPlace,sizeOf,typeInfo,h,this]
theorem qV {fn : Fn} {first captured : Array Operand} {vs us : Array Value} (h1 : first.map (ev e) = vs) (h2 : captured.map (ev e) = us) : V P e ⟨d,.makeFunc fn first captured,ty,pos,aft,g⟩ (.func fn vs us):=fun w=>by
 simp [execOp,Instr.makeFunc,h1,h2]
end
end Go.Proofs.YtckilbegmbaeeaaGreat.SL
namespace Go.Proofs.YtckilbegmbaeeaaGreat.SL
open Go Go.RowKit
set_option linter.unusedVariables false
set_option linter.unusedSimpArgs false
structure Kd (α : Type) where
 sz : Nat
 R : Hp → List Value → α → Prop
 len : ∀ {I cs x},R I cs x → cs.length = sz
 one : ∀ {I cs x},R I cs x → ∀ v ∈ cs,v.oneCell' = true
 mono : ∀ {I I' cs x},Le I I' → R I cs x → R I' cs x
 byt : Bool
def Kd.fl {α : Type} (sz : Nat) (enc : α → List Value) (hl : ∀ x,(enc x).length = sz) (h1 : ∀ x,∀ v ∈ enc x,v.oneCell' = true) : Kd α :=
 ⟨sz,fun _ cs x=>cs = enc x,fun h=>by rw [h]; exact hl _,fun h=>by rw [h]; exact h1 _,fun _ h=>h,false⟩
def Kd.int (k : IntKind) : Kd Int:={ Kd.fl 1 (fun x=>[.int k x]) (fun _=>rfl) (fun x v h=>by simp at h; subst h; rfl) with byt:=match k with | .u8=>true | _=>false }
def Kd.bool : Kd Bool:=Kd.fl 1 (fun x=>[.bool x]) (fun _=>rfl) (fun x v h=>by simp at h; subst h; rfl)
section
variable {α : Type} (d : Kd α)
def RL (I : Hp) : List Value → List α → Prop
 | cs,[]=>cs = []
 | cs,x::xs=>∃ c1 c2,cs = c1 ++ c2∧d.R I c1 x∧RL I c2 xs
variable {d}
theorem RL.len {I : Hp} : ∀ {xs : List α} {cs : List Value},RL d I cs xs → cs.length = xs.length * d.sz
 | [],_,h=>by simp only [RL] at h; subst h; simp
 | _::xs,_,⟨c1,c2,e,a,h2⟩=>by
  subst e
  rw [List.length_append,d.len a,RL.len h2,List.length_cons,Nat.add_mul,Nat.one_mul,Nat.add_comm]
theorem RL.one {I : Hp} : ∀ {xs : List α} {cs : List Value},RL d I cs xs → ∀ v ∈ cs,v.oneCell' = true
 | [],_,h,v,hv=>by simp only [RL] at h; subst h; simp at hv
 | _::xs,_,⟨c1,c2,e,a,h2⟩,v,hv=>by
  subst e
  rcases List.mem_append.1 hv with k | k
  ·exact d.one a v k
  ·exact RL.one h2 v k
theorem RL.mono {I I' : Hp} (hI : Le I I') : ∀ {xs : List α} {cs : List Value},RL d I cs xs → RL d I' cs xs
 | [],_,h=>h
 | _::xs,_,⟨c1,c2,e,a,h2⟩=>⟨c1,c2,e,d.mono hI a,RL.mono hI h2⟩
theorem RL.app {I : Hp} : ∀ {xs ys : List α} {cs es : List Value},RL d I cs xs → RL d I es ys → RL d I (cs ++ es) (xs ++ ys)
 | [],_,_,_,h,k=>by simp only [RL] at h; subst h; simpa using k
 | _::xs,_,_,_,⟨c1,c2,e,a,h2⟩,k=>⟨c1,c2 ++ _,by rw [e,List.append_assoc],a,RL.app h2 k⟩
theorem RL.get {I : Hp} : ∀ {xs : List α} {cs : List Value} {i : Nat} {x : α},RL d I cs xs → xs[i]? = some x → ∃ c,d.R I c x∧∀ j v,c[j]? = some v → cs[i * d.sz + j]? = some v
 | [],_,i,_,_,e=>by simp at e
 | y::xs,_,0,x,⟨c1,c2,e,a,h2⟩,h=>by
  obtain rfl : y = x:=by simpa using h
  refine ⟨c1,a,fun j v hj=>?_⟩
  have : j < c1.length:=by
   rcases Nat.lt_or_ge j c1.length with k | k
   ·exact k
   ·simp [List.getElem?_eq_none k] at hj
  rw [e,Nat.zero_mul,Nat.zero_add,List.getElem?_append_left this]; exact hj
 | _::xs,_,i + 1,x,⟨c1,c2,e,a,h2⟩,h=>by
  obtain ⟨c,hc,hv⟩:=RL.get (i:=i) h2 (by simpa using h)
  refine ⟨c,hc,fun j v hj=>?_⟩
  have:=hv j v hj
  have hl:=d.len a
  rw [e,List.getElem?_append_right (by rw [hl,Nat.add_mul]; omega)]
  rw [show (i + 1) * d.sz + j - c1.length = i * d.sz + j from by rw [hl,Nat.add_mul]; omega]
  exact this
theorem RL.set {I : Hp} : ∀ {xs : List α} {cs : List Value} {i : Nat} {y : α} {c : List Value},RL d I cs xs → i < xs.length → d.R I c y →
  RL d I (cs.take (i * d.sz) ++ c ++ cs.drop (i * d.sz + c.length)) (xs.set i y)
 | [],_,i,_,_,_,e,_=>by simp at e
 | x::xs,_,0,y,c,⟨c1,c2,e,a,h2⟩,_,hc=>by
  refine ⟨c,c2,?_,hc,h2⟩
  have : c.length = c1.length:=(d.len hc).trans (d.len a).symm
  rw [e]; simp [this]
 | x::xs,_,i + 1,y,c,⟨c1,c2,e,a,h2⟩,hi,hc=>by
  refine ⟨c1,_,?_,a,RL.set (i:=i) h2 (by simpa using hi) hc⟩
  have hl:=d.len a
  rw [e,List.take_append,List.drop_append,hl]
  rw [show (i + 1) * d.sz - d.sz = i * d.sz from by rw [Nat.add_mul]; omega]
  rw [show (i + 1) * d.sz + c.length - d.sz = i * d.sz + c.length from by rw [Nat.add_mul]; omega]
  rw [List.take_of_length_le (l:=c1) (by rw [hl,Nat.add_mul]; omega),List.drop_of_length_le (l:=c1) (by rw [hl,Nat.add_mul]; omega)]
  simp
theorem RL.rep {I : Hp} {c : List Value} {x : α} (h : d.R I c x) : ∀ m : Nat,RL d I (List.flatten (List.replicate m c)) (List.replicate m x)
 | 0=>by simp [RL]
 | m + 1=>⟨c,_,by simp [List.replicate_succ],h,RL.rep h m⟩
end
structure lZ (I h : Hp) (w : World) : Prop where
 imm : ∀ b o,I b = some o → w.heap[b]? = some o
 own : ∀ b o,h b = some o → w.heap[b]? = some o
theorem ig.sees {I h : Hp} {w : World} (f : ig I h w) : lZ I h w:=⟨f.imm,f.own⟩
def aK (b : Nat) (T : TypeId) (cs : List Value) : bC:=⟨fun _ h=>h b = some (.cells cs.toArray T (0,0)),fun _ h=>h,false,fun h=>by cases h⟩
def zg {α : Type} (d : Kd α) (A : Option Addr) (c : Nat) (xs : List α) (I : Hp) : Prop :=
 xs.length ≤ c∧∃ cs,RL d I cs xs∧(xs = [] ∨ ∃ b off C T fr,A = some ⟨b,off,none⟩∧I b = some (.cells C T fr)∧∀ j v,cs[j]? = some v → C[off + j]? = some v)
def Ro {α : Type} (d : Kd α) (A : Option Addr) (c : Nat) (xs : List α) : bC :=
 ⟨fun I _=>zg d A c xs I,fun hI ⟨h,cs,hr,k⟩=>⟨h,cs,hr.mono hI,k.imp id fun ⟨b,off,C,T,fr,e,hb,hv⟩=>⟨b,off,C,T,fr,e,hI _ _ hb,hv⟩⟩,true,fun _ {_ _ _} h=>h⟩
def Fz (n : Nat) (fr : Nat × Nat) : Prop:=fr = (0,0) ∨ n ≤ fr.1
theorem Fz.zero {n : Nat} : Fz n (0,0):=.inl rfl
def uJ {α : Type} (d : Kd α) (n : Nat) (fr : Nat × Nat) : Prop:=Fz n fr∧(d.byt = false → fr = (0,0))
theorem uJ.zero {α : Type} {d : Kd α} {n : Nat} : uJ d n (0,0):=⟨.inl rfl,fun _=>rfl⟩
def zI {α : Type} (d : Kd α) (T : TypeId) (A : Option Addr) (c : Nat) (xs : List α) (I h : Hp) : Prop :=
 ∃ cs,RL d I cs xs∧((A = A∧c = 0∧xs = []) ∨ ∃ g cur,A = some ⟨g,0,none⟩∧(∃ fr,h g = some (.cells cur T fr)∧uJ d cur.size fr)∧xs.length ≤ c∧c ≤ maxLen∧cur.size = c * d.sz∧cur.toList.take (xs.length * d.sz) = cs)
def Buf {α : Type} (d : Kd α) (T : TypeId) (A : Option Addr) (c : Nat) (xs : List α) : bC :=
 ⟨fun I h=>zI d T A c xs I h,fun hI ⟨cs,hr,k⟩=>⟨cs,hr.mono hI,k⟩,false,fun h=>by cases h⟩
def Src {α : Type} (d : Kd α) (A : Option Addr) (xs : List α) (As : List bC) : Prop :=
 ∀ I h w,cq As I h → lZ I h w → ∃ cs,RL d I cs xs∧(xs = [] ∨ ∃ b off,A = some ⟨b,off,none⟩∧∀ j v,cs[j]? = some v → w.cell? ⟨b,off + j,none⟩ = some v)
theorem jM {w : World} {b : Nat} {C : Array Value} {T : TypeId} {fr : Nat × Nat} (h : w.heap[b]? = some (.cells C T fr)) (j : Nat) : w.cell? ⟨b,j,none⟩ = C[j]?:=by
 simp [World.cell?,h]
theorem Src.ro {α : Type} {d : Kd α} {A : Option Addr} {c : Nat} {xs : List α} {As : List bC} {k : Nat} (hk : As[k]? = some (Ro d A c xs)) : Src d A xs As:=by
 intro I h w s f
 obtain ⟨a,_,⟨_,cs,hr,hx⟩,_⟩:=dm hk s
 refine ⟨cs,hr,hx.imp id fun ⟨b,off,C,T,fr,e,hb,hv⟩=>⟨b,off,e,fun j v hj=>?_⟩⟩
 rw [jM (f.imm b _ hb)]; exact hv j v hj
theorem Src.buf {α : Type} {d : Kd α} {T : TypeId} {A : Option Addr} {c : Nat} {xs : List α} {As : List bC} {k : Nat} (hk : As[k]? = some (Buf d T A c xs)) : Src d A xs As:=by
 intro I h w s f
 obtain ⟨a,l,⟨cs,hr,hx⟩,_⟩:=dm hk s
 refine ⟨cs,hr,?_⟩
 rcases hx with ⟨_,_,e⟩ | ⟨g,cur,e,⟨fr,hb,_⟩,_,_,hs,ht⟩
 ·exact .inl e
 ·refine .inr ⟨g,0,e,fun j v hj=>?_⟩
  rw [jM (f.own g _ (l g _ hb))]
  have hj' : j < xs.length * d.sz:=by
   rw [← hr.len]
   rcases Nat.lt_or_ge j cs.length with q | q
   ·exact q
   ·simp [List.getElem?_eq_none q] at hj
  rw [← ht,List.getElem?_take] at hj
  simpa [hj'] using hj
def lh : TypeDesc → Bool
 | .struct _ | .array _ _=>true
 | _=>false
def el (A : Option Addr) (j : Nat) : Addr:=(A.getD ⟨0,0,none⟩).add j
def rd {α : Type} [Inhabited α] (xs : List α) (i : Int) : α:=xs.getD i.toNat default
theorem mX {α : Type} [Inhabited α] {xs : List α} {i : Int} (h0 : 0 ≤ i) (h1 : i < (xs.length : Int)) : xs[i.toNat]? = some (rd xs i):=by
 have : i.toNat < xs.length:=by omega
 simp [rd,List.getD,this]
theorem jL (A : Addr) (i j : Nat) : (A.add i).add j = A.add (i + j):=by
 by_cases hi : i = 0
 ·subst hi; simp [Addr.add]
 ·by_cases hj : j = 0
  ·subst hj; simp [Addr.add]
  ·simp [Addr.add,hi,hj,Nat.add_assoc]
abbrev VR (P : Program) (As : List bC) (e : Env) (o : Oper) (v : Value) : Prop:=∀ I h w,cq As I h → lZ I h w → (execOp (ev e) o).run P w = .ok (.value v) w
theorem V.r {P : Program} {e : Env} {o : Oper} {v : Value} (h : V P e o v) (As : List bC) : VR P As e o v:=fun _ _ w _ _=>h w
section
variable {P : Program} {n : Nat} {Q : dI} {e : Env} {ds : List Deferred} {As As' : List bC} {d : Option Nat} {ty T T' E : TypeId} {pos : String} {aft : Array Edge} {g : Option (Nat × Bool)} {x y : Operand} {K : Env → List Deferred → List bC → Prop}
theorem dr {o : Oper} {v : Value} (hd : cb o.dst n = true) (hv : V P e o v) (h : K (put e o.dst v) ds As) : OA P n o K Q e ds As:=wv v hd hv h
theorem dC {o : Oper} {v : Value} (hd : cb o.dst n = true) (hv : VR P As e o v) (h : K (put e o.dst v) ds As) : OA P n o K Q e ds As :=
 uP v hd (fun I h w s f=>hv I h w s f.sees) h
theorem bu {α : Type} {kd : Kd α} {A : Option Addr} {c : Nat} {xs : List α} {k : IntKind} {i : Int} {sz : Nat} (hu : P.underlying T = some (.slice E)) (hz : (P.info? E).map (·.size) = some sz) (hx : ev e x = .slice A xs.length c) (hy : ev e y = .int k i)
  (hs : Src kd A xs As) (h0 : 0 ≤ i) (h1 : i < (xs.length : Int)) : VR P As e ⟨d,.indexAddr T x y,ty,pos,aft,g⟩ (.pointer (some (el A (i.toNat * sz)))):=by
 intro I h w s f
 obtain ⟨cs,hr,hc⟩:=hs I h w s f
 rcases hc with hc | ⟨b,off,hA,_⟩
 ·subst hc; simp at h1; omega
 ·subst hA
  cases hq : P.info? E with
  | none=>simp [hq] at hz
  | some q =>
   have hz' : q.size = sz:=by simpa [hq] using hz
   simp [execOp,hx,hy,Instr.indexAt,asIntOf,run_underlying hu,h0,h1,sizeOf,typeInfo,hq,hz',el]
theorem ou {fs : Array Field} {f : Field} {i m : Nat} {B : Addr} (hu : P.underlying T = some (.struct fs)) (hf : fs[i]? = some f) (hz : ((P.info? f.type).map fun i=>decide (i.size = 0)) = some false) (hx : ev e x = .pointer (some (B.add m))) :
  V P e ⟨d,.fieldAddr T x i,ty,pos,aft,g⟩ (.pointer (some (B.add (m + f.offset)))):=fun w=>by
 rw [qi hu hf hz hx w,jL]
theorem rf {td : TypeDesc} (hu : P.underlying T = some td) (ha : lh td = true) (w : World) : (isAgg T).run P w = .ok true w:=by
 unfold isAgg
 rw [Sem.run_bind,run_underlying hu w]
 cases td <;> simp_all [lh]
theorem ni {td : TypeDesc} (hu : P.underlying T = some td) (ha : lh td = false) (w : World) : (isAgg T).run P w = .ok false w:=by
 unfold isAgg
 rw [Sem.run_bind,run_underlying hu w]
 cases td <;> simp_all [lh]
theorem bJ {α : Type} [Inhabited α] {kd : Kd α} {enc : α → List Value} {A : Option Addr} {xs : List α} {i : Int} {j m sz : Nat} {v : Value} {td : TypeDesc} (hu : P.underlying T = some td) (ha : lh td = false)
  (hx : ev e x = .pointer (some ((el A j).add m))) (hj : j = i.toNat * sz) (hsz : kd.sz = sz) (hs : Src kd A xs As) (h0 : 0 ≤ i) (h1 : i < (xs.length : Int)) (he : ∀ I c,kd.R I c (rd xs i) → c = enc (rd xs i)) (hv : (enc (rd xs i))[m]? = some v) :
  VR P As e ⟨d,.load T x,ty,pos,aft,g⟩ v:=by
 intro I h w s f
 obtain ⟨cs,hr,hc⟩:=hs I h w s f
 rcases hc with hc | ⟨b,off,hA,hcell⟩
 ·subst hc; simp at h1; omega
 ·subst hA
  obtain ⟨c,hc,hg⟩:=RL.get hr (mX h0 h1)
  rw [he I c hc] at hg
  have hl:=hcell _ _ (hg m v hv)
  subst hj; subst hsz
  have ea : (el (some ⟨b,off,none⟩) (i.toNat * kd.sz)).add m = ⟨b,off + (i.toNat * kd.sz + m),none⟩:=by
   simp only [el,Option.getD_some,jL,Addr.add_lit,Nat.add_assoc]
  simp [execOp,hx,ea,Instr.loadAt,Instr.sureAddr,loadVar,ni hu ha,hl]
theorem nR {b o : Nat} {vs : List Value} {td : TypeDesc} (hu : P.underlying T = some td) (ha : lh td = true) (hz : (P.info? T).map (·.size) = some vs.length) {w : World}
  (h : ∀ j v,vs[j]? = some v → w.cell? ⟨b,o + j,none⟩ = some v) : (Instr.loadAt T (.pointer (some ⟨b,o,none⟩))).run P w = .ok (.agg vs.toArray) w:=by
 have hl : (loadCells ⟨b,o,none⟩ vs.length).run P w = .ok vs.toArray w:=run_loadCells_list (P:=P) w ⟨b,o,none⟩ vs (fun j v hv=>by rw [Addr.add_lit]; exact h j v hv)
 cases hq : P.info? T with
 | none=>simp [hq] at hz
 | some q =>
  have hz' : q.size = vs.length:=by simpa [hq] using hz
  simp [Instr.loadAt,Instr.sureAddr,loadVar,rf hu ha,sizeOf,typeInfo,hq,hz',hl]
theorem ci {α : Type} [Inhabited α] {kd : Kd α} {enc : α → List Value} {A : Option Addr} {xs : List α} {i : Int} {j m sz : Nat} {vs : List Value} {td : TypeDesc} (hu : P.underlying T = some td) (ha : lh td = true)
  (hz : (P.info? T).map (·.size) = some vs.length)
  (hx : ev e x = .pointer (some ((el A j).add m))) (hj : j = i.toNat * sz) (hsz : kd.sz = sz) (hs : Src kd A xs As) (h0 : 0 ≤ i) (h1 : i < (xs.length : Int)) (he : ∀ I c,kd.R I c (rd xs i) → c = enc (rd xs i)) (hv : ((enc (rd xs i)).drop m).take vs.length = vs) :
  VR P As e ⟨d,.load T x,ty,pos,aft,g⟩ (.agg vs.toArray):=by
 intro I h w s f
 obtain ⟨cs,hr,hc⟩:=hs I h w s f
 rcases hc with hc | ⟨b,off,hA,hcell⟩
 ·subst hc; simp at h1; omega
 ·subst hA
  obtain ⟨c,hc,hg⟩:=RL.get hr (mX h0 h1)
  rw [he I c hc] at hg
  subst hj; subst hsz
  have ea : (el (some ⟨b,off,none⟩) (i.toNat * kd.sz)).add m = ⟨b,off + (i.toNat * kd.sz + m),none⟩:=by
   simp only [el,Option.getD_some,jL,Addr.add_lit,Nat.add_assoc]
  have hl:=nR (P:=P) (b:=b) (o:=off + (i.toNat * kd.sz + m)) hu ha hz (w:=w) (fun q v hq=>by
   rw [← hv,List.getElem?_take] at hq
   split at hq
   ·rw [List.getElem?_drop] at hq
    have:=hcell _ _ (hg _ v hq)
    rw [← this]; congr 2; omega
   ·cases hq)
  simp only [execOp,hx,ea,Sem.run_bind,hl,Result.andThen_ok,Sem.run_pure]
theorem gX {b m k : Nat} {cs : List Value} {v : Value} {td : TypeDesc} (hu : P.underlying T = some td) (ha : lh td = false) (hk : As[k]? = some (aK b T' cs))
  (hx : ev e x = .pointer (some ((⟨b,0,none⟩ : Addr).add m))) (hv : cs[m]? = some v) : VR P As e ⟨d,.load T x,ty,pos,aft,g⟩ v:=by
 intro I h w s f
 obtain ⟨a,l,p,_⟩:=dm hk s
 have hc:=jM (f.own b _ (l b _ p)) m
 simp only [List.getElem?_toArray,hv] at hc
 rw [Addr.add_lit,Nat.zero_add] at hx
 simp [execOp,hx,Instr.loadAt,Instr.sureAddr,loadVar,ni hu ha,hc]
theorem mq {b m k : Nat} {cs vs : List Value} {td : TypeDesc} (hu : P.underlying T = some td) (ha : lh td = true) (hz : (P.info? T).map (·.size) = some vs.length) (hk : As[k]? = some (aK b T' cs))
  (hx : ev e x = .pointer (some ((⟨b,0,none⟩ : Addr).add m))) (hv : (cs.drop m).take vs.length = vs) : VR P As e ⟨d,.load T x,ty,pos,aft,g⟩ (.agg vs.toArray):=by
 intro I h w s f
 obtain ⟨a,l,p,_⟩:=dm hk s
 have hh:=f.own b _ (l b _ p)
 rw [Addr.add_lit,Nat.zero_add] at hx
 have hl:=nR (P:=P) (b:=b) (o:=m) hu ha hz (w:=w) (fun q v hq=>by
  rw [← hv,List.getElem?_take] at hq
  split at hq
  ·rw [List.getElem?_drop] at hq
   rw [jM hh]; simpa using hq
  ·cases hq)
 simp only [execOp,hx,Sem.run_bind,hl,Result.andThen_ok,Sem.run_pure]
def fi (b : Nat) (o : Obj) : Hp:=fun c=>if c = b then some o else none
theorem mU {I h : Hp} {w : World} (f : ig I h w) : h w.heap.size = none∧I w.heap.size = none:=by
 constructor
 ·cases q : h w.heap.size with
  | none=>rfl
  | some o=>have:=gQ (f.own _ _ q); omega
 ·cases q : I w.heap.size with
  | none=>rfl
  | some o=>have:=gQ (f.imm _ _ q); omega
theorem tF (w : World) (o : Obj) : (w.alloc o).heap[w.heap.size]? = some o:=by
 show (w.heap.push o)[w.heap.size]? = some o
 simp
theorem nP (w : World) (o : Obj) {b : Nat} (h : b < w.heap.size) : (w.alloc o).heap[b]? = w.heap[b]?:=Below.heap_alloc w o b h
theorem dl.alloc {I h : Hp} {w : World} (f : ig I h w) (o : Obj) : dl I h w I (iX (fi w.heap.size o) h) (w.alloc o)∧gF (iX (fi w.heap.size o) h) (fi w.heap.size o) h:=by
 obtain ⟨fh,fI⟩:=mU f
 have d : ∀ b u,fi w.heap.size o b = some u → h b = none:=fun b u e=>by
  simp only [fi] at e
  split at e
  ·rename_i hb; rw [hb]; exact fh
  ·cases e
 refine ⟨⟨⟨fun b u e=>?_,fun b u e=>?_,fun b u e=>?_⟩,Le.refl I,rfl,rfl,rfl,by simp,fun b hb e=>⟨nP w o hb,?_,rfl⟩⟩,nQ,rh d,d⟩
 ·have:=gQ (f.imm b u e)
  rw [nP w o this]; exact f.imm b u e
 ·simp only [iX,fi] at e
  by_cases hb : b = w.heap.size
  ·subst hb; simp at e; rw [← e]; exact tF w o
  ·simp [hb] at e
   rw [nP w o (gQ (f.own b u e))]; exact f.own b u e
 ·simp only [iX,fi] at e
  by_cases hb : b = w.heap.size
  ·subst hb; exact fI
  ·simp [hb] at e; exact f.sep b u e
 ·have : b ≠ w.heap.size:=by omega
  simp [iX,fi,this,e]
theorem oV {o : Oper} (hd : cb o.dst n = true) (ob : Obj) (mk : Nat → Value) (A : Nat → bC) (hA : ∀ b I h,cq As I h → (A b).P I (fi b ob)) (hr : ∀ I h w,cq As I h → lZ I h w → (execOp (ev e) o).run P w = .ok (.value (mk w.heap.size)) (w.alloc ob))
  (h : ∀ b,K (put e o.dst (mk b)) ds (As ++ [A b])) : OA P n o K Q e ds As:=by
 intro I h' a w s r f
 obtain ⟨gg,sp⟩:=dl.alloc f ob
 unfold Oper.wp
 rw [r.eval,hr I h' w s f.sees]
 refine ⟨_,ds,_,I,_,r.put hd _,dh ⟨sp.2.1,sp.1,fun b u e=>?_⟩ s (show cq [A w.heap.size] I _ from ⟨_,fun _=>none,⟨Le.refl _,(fun _ _ e=>by cases e),fun _ _ _=>rfl⟩,hA w.heap.size I h' s,trivial⟩),gg,h w.heap.size⟩
 cases q : fi w.heap.size ob b with
 | none=>rfl
 | some u'=>have:=sp.2.2 b u' q; rw [this] at e; cases e
theorem mm {z : Value} (hd : cb d n = true) (hz : (P.info? E).bind (·.zero) = some z) (h : ∀ b,K (put e d (.pointer (some ⟨b,0,none⟩))) ds (As ++ [aK b E z.cells.toList])) : OA P n ⟨d,.alloc E,ty,pos,aft,g⟩ K Q e ds As:=by
 refine oV hd (.cells z.cells E) (fun b=>.pointer (some ⟨b,0,none⟩)) (fun b=>aK b E z.cells.toList) (fun b I _ _=>by simp [aK,fi]) (fun I h' w s f=>?_) h
 cases hq : P.info? E with
 | none=>simp [hq] at hz
 | some q =>
  have hz' : q.zero = some z:=by simpa [hq] using hz
  simp [execOp,Instr.alloc,zeroValue,typeInfo,hq,hz',newVar,newRow]
theorem wu {v : Value} (hd : cb d n = true) (hx : ev e x = v) (h : ∀ b,K (put e d (.pointer (some ⟨b,0,none⟩))) ds (As ++ [aK b E v.cells.toList])) : OA P n ⟨d,.box E x,ty,pos,aft,g⟩ K Q e ds As:=by
 refine oV hd (.cells v.cells E) (fun b=>.pointer (some ⟨b,0,none⟩)) (fun b=>aK b E v.cells.toList) (fun b I _ _=>by simp [aK,fi]) (fun I h' w s f=>?_) h
 simp [execOp,hx,Instr.box,newVar,newRow]
theorem ot {α : Type} {kd : Kd α} {parts : Array (Nat × Operand)} {len sz : Nat} {cells : List Value} {z : Value} {xs : List α} (hd : cb d n = true) (hu : P.underlying T = some (.slice E)) (hz : (P.info? E).bind (·.zero) = some z) (hs : (P.info? E).map (·.size) = some sz)
  (hlim : Nat.ble (len * sz) 16777216 = true) (hlen : Nat.ble len 16777216 = true)
  (hf : Instr.fill (fun i=>some (i * sz,sz)) ((Array.range (len * sz)).map ((if len * sz = 0 then #[] else z.cells)[· % (if len * sz = 0 then #[] else z.cells).size]!)) ((parts.map fun (i,x)=>(i,ev e x)).toList) = some cells.toArray)
  (hl : xs.length = len) (hk : kd.sz = sz) (hr : ∀ I h,cq As I h → RL kd I cells xs)
  (h : ∀ b,K (put e d (.slice (some ⟨b,0,none⟩) xs.length len)) ds (As ++ [Buf kd E (some ⟨b,0,none⟩) len xs])) : OA P n ⟨d,.buildSlice T len parts,ty,pos,aft,g⟩ K Q e ds As:=by
 have hlim' : ¬ 2 ^ 24 < len * sz:=by have:=Nat.le_of_ble_eq_true hlim; omega
 refine oV hd (.cells cells.toArray E) (fun b=>.slice (some ⟨b,0,none⟩) xs.length len) (fun b=>Buf kd E (some ⟨b,0,none⟩) len xs) (fun b I hh s=>?_) (fun I h' w s f=>?_) h
 ·have c:=(hr I hh s).len
  refine ⟨cells,hr I hh s,.inr ⟨b,cells.toArray,rfl,⟨(0,0),by simp [fi],uJ.zero⟩,by omega,?_,by simp [c,hl],?_⟩⟩
  ·have:=Nat.le_of_ble_eq_true hlen
   unfold maxLen; omega
  ·rw [← c]; simp
 ·cases hq : P.info? E with
  | none=>simp [hq] at hz
  | some q =>
   have hz' : q.zero = some z:=by simpa [hq] using hz
   have hs' : q.size = sz:=by simpa [hq] using hs
   by_cases a : len * sz = 0
   ·rw [if_pos a] at hf
    simp [execOp,Instr.buildSlice,run_underlying hu,sizeOf,typeInfo,hq,hs',hlim',a,zeroValue,hz',newRow,hl]
    simp [a] at hf
    simp [hf]
   ·rw [if_neg a] at hf
    simp [execOp,Instr.buildSlice,run_underlying hu,sizeOf,typeInfo,hq,hs',hlim',a,zeroValue,hz',newRow,hl]
    simp at hf
    simp [hf]
end
end Go.Proofs.YtckilbegmbaeeaaGreat.SL
namespace Go.Proofs.YtckilbegmbaeeaaGreat.SL
open Go Go.RowKit
set_option linter.unusedVariables false
set_option linter.unusedSimpArgs false
def bytesOf (s : ByteArray) : List Int:=s.data.toList.map fun b=>(b.toNat : Int)
def ng {α : Type} (P : Program) (kd : Kd α) (tx : TypeId) (v : Value) (ys : List α) (As : List bC) : Prop :=
 ∀ I h w,cq As I h → lZ I h w → ∃ cs,RL kd I cs ys∧Go.Src P kd.sz tx v ys.length cs w
theorem ng.slice {α : Type} {P : Program} {kd : Kd α} {tx e' : TypeId} {A : Option Addr} {c : Nat} {ys : List α} {As : List bC} (hk : P.underlying tx = some (.slice e')) (hs : Src kd A ys As) : ng P kd tx (.slice A ys.length c) ys As:=by
 intro I h w s f
 obtain ⟨cs,hr,hc⟩:=hs I h w s f
 refine ⟨cs,hr,?_⟩
 cases A with
 | none =>
  rcases hc with rfl | ⟨b,off,e,_⟩
  ·simp only [RL] at hr; subst hr; exact Go.Src.ofNil w hk c
  ·cases e
 | some a =>
  rcases hc with rfl | ⟨b,off,e,hc⟩
  ·simp only [RL] at hr; subst hr; exact Go.Src.ofSlice w hk a 0 c [] (by simp) (by simp) (by simp)
  ·obtain rfl:=Option.some.inj e
   exact Go.Src.ofSlice w hk _ _ c cs hr.len (fun j u hu=>by rw [Addr.add_lit]; exact hc j u hu) hr.one
theorem dl.setRow {I h : Hp} {w : World} (f : ig I h w) {g : Nat} {cur cur' : Array Value} {T : TypeId} {fr : Nat × Nat} (hg : h g = some (.cells cur T fr)) :
  dl I h w I (fun b=>if b = g then some (.cells cur' T fr) else h b) (w.setRow g cur'):=by
 refine ⟨⟨fun b u e=>?_,fun b u e=>?_,fun b u e=>?_⟩,Le.refl I,rfl,rfl,rfl,by simp,fun b hb e=>?_⟩
 ·have : b ≠ g:=by rintro rfl; rw [f.sep b _ hg] at e; cases e
  rw [setRow_other w g b _ this]; exact f.imm b u e
 ·by_cases hb : b = g
  ·subst hb; simp at e; rw [← e]; exact setRow_heap w b cur cur' T fr (f.own b _ hg)
  ·simp [hb] at e; rw [setRow_other w g b _ hb]; exact f.own b u e
 ·by_cases hb : b = g
  ·subst hb; exact f.sep b _ hg
  ·simp [hb] at e; exact f.sep b u e
 ·have : b ≠ g:=by rintro rfl; rw [hg] at e; cases e
  exact ⟨setRow_other w g b _ this,by simp [this,e],rfl⟩
section
variable {P : Program} {n : Nat} {Q : dI} {e : Env} {ds : List Deferred} {As : List bC} {d : Option Nat} {ty T T' E tx : TypeId} {pos : String} {aft : Array Edge} {g : Option (Nat × Bool)} {x y z : Operand} {K : Env → List Deferred → List bC → Prop}
theorem jp {k : Nat} {A' : bC} {I h h1 : Hp} {gb : Nat} {ob ob' : Obj}
  (f : ∀ (A' : bC) (I' dU h' : Hp),Le I I' → A'.P I' dU → Le dU h' → (∀ b o,h b = some o → h1 b = none → h' b = some o∧dU b = none) → cq (As.set k A') I' h')
  (hg : h1 gb = some ob) (hA : A'.P I (fi gb ob')) : cq (As.set k A') I (fun b=>if b = gb then some ob' else h b):=by
 refine f A' I (fi gb ob') _ (Le.refl I) hA (fun b u e=>?_) (fun b u c a=>?_)
 ·simp only [fi] at e
  split at e
  ·rename_i hb; simp [hb]; exact Option.some.inj e
  ·cases e
 ·have : b ≠ gb:=by rintro rfl; rw [hg] at a; cases a
  simp [this,c,fi]
theorem oH {k : Nat} {A' : bC} {I h h1 : Hp} {gb : Nat} {ob : Obj}
  (f : ∀ (A' : bC) (I' dU h' : Hp),Le I I' → A'.P I' dU → Le dU h' → (∀ b o,h b = some o → h1 b = none → h' b = some o∧dU b = none) → cq (As.set k A') I' h')
  (hn : h gb = none) (hA : A'.P I (fi gb ob)) : cq (As.set k A') I (iX (fi gb ob) h):=by
 refine f A' I (fi gb ob) _ (Le.refl I) hA nQ (fun b u a c=>?_)
 have : b ≠ gb:=by rintro rfl; rw [hn] at a; cases a
 simp [iX,fi,this,a]
def eg (cs : List Value) (m : Nat) (vs : List Value) : List Value:=cs.take m ++ vs ++ cs.drop (m + vs.length)
theorem eP (g o : Nat) (t : TypeId) (fr : Nat × Nat) : ∀ (vs : List Value) (i : Nat) (cur : Array Value) (w : World),w.heap[g]? = some (.cells cur t fr) → Fz cur.size fr → o + i + vs.length ≤ cur.size → (∀ v ∈ vs,v.oneCell' = true) →
  (storeCells ⟨g,o,none⟩ vs i).run P w = .ok () (w.setRow g (cur.toList.take (o + i) ++ vs ++ cur.toList.drop (o + i + vs.length)).toArray)
 | [],i,cur,w,hg,_,_,_=>by
  simp only [storeCells,List.append_nil,List.length_nil,Nat.add_zero,List.take_append_drop,Array.toArray_toList]
  rw [setRow_self w g cur t fr hg]
  rfl
 | v::rest,i,cur,w,hg,hz,hl,a=>by
  have hi : o + i < cur.size:=by simp at hl; omega
  have hadd : (⟨g,o,none⟩ : Addr).add i = ⟨g,o + i,none⟩:=Addr.add_lit ..
  have hcell : w.cell? ⟨g,o + i,none⟩ = some cur[o + i]:=by simp [World.cell?,hg,hi]
  have hfro : w.frozen? ⟨g,o + i,none⟩ = false:=by
   obtain ⟨lo,up⟩:=fr
   simp only [World.frozen?,hg]
   rcases hz with q | q
   ·obtain ⟨rfl,rfl⟩:=Prod.mk.inj q; simp
   ·simp only at q
    have : ¬ lo ≤ o + i:=by omega
    simp [this]
  have hst : (store ((⟨g,o,none⟩ : Addr).add i) v).run P w = .ok () (w.setRow g (cur.setIfInBounds (o + i) v)):=by
   rw [hadd,run_store P w _ v _ (a v (by simp)),hcell]
   simp [hfro,setCell_eq_setRow w g (o + i) cur t fr v hg]
  have ih:=eP g o t fr rest (i + 1) (cur.setIfInBounds (o + i) v) (w.setRow g (cur.setIfInBounds (o + i) v)) (setRow_heap w g cur _ t _ hg) (by simpa using hz) (by simp at hl ⊢; omega) (fun x hx=>a x (by simp [hx]))
  have b : (storeCells ⟨g,o,none⟩ (v::rest) i).run P w = (storeCells ⟨g,o,none⟩ rest (i + 1)).run P (w.setRow g (cur.setIfInBounds (o + i) v)):=by
   simp only [storeCells,Sem.run_bind,hst,Result.andThen_ok]
  rw [b,ih,setRow_setRow]
  congr 2
  have hlt : o + i < cur.toList.length:=by simpa using hi
  simp only [Array.toList_setIfInBounds]
  have c : (cur.toList.set (o + i) v).take (o + (i + 1)) = cur.toList.take (o + i) ++ [v]:=by
   rw [show o + (i + 1) = (o + i) + 1 from by omega,List.take_add_one,List.take_set_of_le (Nat.le_refl _),List.getElem?_set_self hlt]
   rfl
  have d : (cur.toList.set (o + i) v).drop (o + (i + 1) + rest.length) = cur.toList.drop (o + i + (v::rest).length):=by
   rw [List.drop_set_of_lt (by omega)]
   congr 1; simp; omega
  rw [c,d]
  simp
theorem nm {w : World} {b m : Nat} {cur : Array Value} {t : TypeId} {fr : Nat × Nat} {v : Value} {vs : List Value} (hv : v.cells = vs.toArray) (h1 : ∀ u ∈ vs,u.oneCell' = true) (hz : (P.info? T).map (·.size) = some vs.length)
  (hg : w.heap[b]? = some (.cells cur t fr)) (hfz : Fz cur.size fr) (hl : m + vs.length ≤ cur.size) :
  (Instr.storeAt T (.pointer (some ⟨b,m,none⟩)) v).run P w = .ok () (w.setRow b (eg cur.toList m vs).toArray):=by
 have hst:=eP (P:=P) b m t fr vs 0 cur w hg hfz (by simpa using hl) h1
 simp only [Nat.add_zero] at hst
 cases hq : P.info? T with
 | none=>simp [hq] at hz
 | some q =>
  have hz' : q.size = vs.length:=by simpa [hq] using hz
  simp [Instr.storeAt,Instr.sureAddr,storeVar,hv,sizeOf,typeInfo,hq,hz',hst,eg]
theorem qf {b m k : Nat} {cs vs : List Value} {v : Value} (cs' : List Value) (hd : cb d n = true) (hk : As[k]? = some (aK b T' cs)) (hx : ev e x = .pointer (some ((⟨b,0,none⟩ : Addr).add m))) (hy : ev e y = v) (hv : v.cells = vs.toArray)
  (h1 : ∀ u ∈ vs,u.oneCell' = true) (hz : (P.info? T).map (·.size) = some vs.length) (hl : m + vs.length ≤ cs.length) (hc : eg cs m vs = cs') (h : K (put e d undef) ds (As.set k (aK b T' cs'))) : OA P n ⟨d,.store T x y,ty,pos,aft,g⟩ K Q e ds As:=by
 intro I h' a w s r f
 obtain ⟨c,l,p,ff⟩:=dm hk s
 have hh : h' b = some (.cells cs.toArray T' (0,0)):=l b _ p
 rw [Addr.add_lit,Nat.zero_add] at hx
 have hr:=nm (P:=P) hv h1 hz (f.own b _ hh) Fz.zero (by simpa using hl)
 unfold Oper.wp
 rw [r.eval]
 simp only [execOp,hx,hy,Sem.run_bind,hr,Result.andThen_ok,Sem.run_pure]
 subst hc
 exact ⟨_,ds,_,I,_,r.put hd undef,jp ff p (by simp [aK,fi]),dl.setRow f hh,h⟩
theorem sS {A B R vs : List Value} {m : Nat} (h : m + vs.length ≤ B.length) : eg (A ++ (B ++ R)) (A.length + m) vs = A ++ (eg B m vs ++ R):=by
 unfold eg
 have a : (A ++ (B ++ R)).take (A.length + m) = A ++ B.take m:=by
  rw [List.take_length_add_append,List.take_append_of_le_length (by omega)]
 have b : (A ++ (B ++ R)).drop (A.length + m + vs.length) = B.drop (m + vs.length) ++ R:=by
  rw [Nat.add_assoc,List.drop_length_add_append,List.drop_append_of_le_length h]
 rw [a,b]
 simp only [List.append_assoc]
theorem gD {B vs : List Value} {m : Nat} (h : m + vs.length ≤ B.length) : (eg B m vs).length = B.length:=by
 unfold eg
 rw [List.length_append,List.length_append,List.length_take,List.length_drop]
 omega
theorem rz {cur cs c0 vs : List Value} {N o sz m : Nat} (hN : N ≤ cur.length) (hcs : cur.take N = cs) (ho : o + sz ≤ N) (hm : m + vs.length ≤ sz) (h0 : (cs.drop o).take sz = c0) :
  (eg cur (o + m) vs).take N = cs.take o ++ eg c0 m vs ++ cs.drop (o + sz):=by
 have hA : (cur.take o).length = o:=by rw [List.length_take]; omega
 have hB : ((cur.drop o).take sz).length = sz:=by rw [List.length_take,List.length_drop]; omega
 have a : c0 = (cur.drop o).take sz:=by
  rw [← h0,← hcs,List.drop_take,List.take_take]
  congr 1; omega
 have hcur : cur = cur.take o ++ ((cur.drop o).take sz ++ cur.drop (o + sz)):=by
  rw [← List.drop_drop,List.take_append_drop,List.take_append_drop]
 have d : eg cur (o + m) vs = cur.take o ++ (eg c0 m vs ++ cur.drop (o + sz)):=by
  conv=>lhs; rw [hcur]
  have:=sS (A:=cur.take o) (B:=(cur.drop o).take sz) (R:=cur.drop (o + sz)) (vs:=vs) (m:=m) (by rw [hB]; exact hm)
  rw [hA] at this
  rw [this,a]
 have hl : (eg c0 m vs).length = sz:=by rw [a,gD (by rw [hB]; exact hm),hB]
 rw [d,← List.append_assoc,List.take_append,List.length_append,hA,hl]
 rw [List.take_of_length_le (by rw [List.length_append,hA,hl]; exact ho)]
 have b : cs.take o = cur.take o:=by
  rw [← hcs,List.take_take]; congr 1; omega
 have c : cs.drop (o + sz) = (cur.drop (o + sz)).take (N - (o + sz)):=by
  rw [← hcs,List.drop_take]
 rw [b,c]
theorem qR {α : Type} [Inhabited α] {kd : Kd α} {A : Option Addr} {c k j m sz : Nat} {xs : List α} {i : Int} {vs : List Value} {v : Value} (y' : α) (hd : cb d n = true) (hk : As[k]? = some (Buf kd T' A c xs)) (hx : ev e x = .pointer (some ((el A j).add m))) (hj : j = i.toNat * sz) (hsz : kd.sz = sz) (hy : ev e y = v) (hv : v.cells = vs.toArray)
  (h1 : ∀ u ∈ vs,u.oneCell' = true) (hz : (P.info? T).map (·.size) = some vs.length) (h0 : 0 ≤ i) (hi : i < (xs.length : Int)) (hm : m + vs.length ≤ sz)
  (he : ∀ I h cs,cq As I h → kd.R I cs (rd xs i) → kd.R I (eg cs m vs) y') (h : K (put e d undef) ds (As.set k (Buf kd T' A c (xs.set i.toNat y')))) : OA P n ⟨d,.store T x y,ty,pos,aft,g⟩ K Q e ds As:=by
 intro I h' a w s r f
 obtain ⟨F,l,⟨cs,hr,hc⟩,ff⟩:=dm hk s
 rcases hc with ⟨_,_,hc⟩ | ⟨gb,cur,hA,⟨fr,hg,hfz⟩,hlc,hcm,hcs,ht⟩
 ·subst hc; simp at hi; omega
 ·subst hA; subst hj; subst hsz
  have hh : h' gb = some (.cells cur T' fr):=l gb _ hg
  have hi' : i.toNat < xs.length:=by omega
  have ea : (el (some ⟨gb,0,none⟩) (i.toNat * kd.sz)).add m = ⟨gb,i.toNat * kd.sz + m,none⟩:=by
   simp only [el,Option.getD_some,jL,Addr.add_lit,Nat.zero_add]
  have hmul : i.toNat * kd.sz + kd.sz ≤ xs.length * kd.sz:=by rw [← Nat.succ_mul]; exact Nat.mul_le_mul_right _ hi'
  have D : xs.length * kd.sz ≤ c * kd.sz:=Nat.mul_le_mul_right _ hlc
  have hrun:=nm (P:=P) hv h1 hz (f.own gb _ hh) hfz.1 (m:=i.toNat * kd.sz + m) (by omega)
  unfold Oper.wp
  rw [r.eval]
  simp only [execOp,hx,ea,hy,Sem.run_bind,hrun,Result.andThen_ok,Sem.run_pure]
  refine ⟨_,ds,_,I,_,r.put hd undef,jp ff hg ?_,dl.setRow f hh,h⟩
  obtain ⟨c0,b,z⟩:=RL.get hr (mX h0 hi)
  have o:=he I h' c0 s b
  have E:=kd.len b
  have hlen:=hr.len
  have hset:=RL.set hr hi' o
  have B : (eg c0 m vs).length = kd.sz:=kd.len o
  have hpart : (cs.drop (i.toNat * kd.sz)).take kd.sz = c0:=by
   apply List.ext_getElem?
   intro q
   rw [List.getElem?_take]
   by_cases hq : q < kd.sz
   ·rw [if_pos hq,List.getElem?_drop]
    have : q < c0.length:=by omega
    rw [z q c0[q] (List.getElem?_eq_getElem this),List.getElem?_eq_getElem this]
   ·rw [if_neg hq]
    exact (List.getElem?_eq_none (by omega)).symm
  have hcl : cur.toList.length = c * kd.sz:=(Array.length_toList (xs:=cur)).trans hcs
  have p : ∀ l : List Value,l.length = cur.toList.length → uJ kd l.toArray.size fr:=fun l hl=>by rw [List.size_toArray,hl,Array.length_toList]; exact hfz
  have hN : xs.length * kd.sz ≤ cur.toList.length:=by omega
  have hfin:=rz (vs:=vs) (m:=m) hN ht hmul hm hpart
  refine ⟨_,hset,.inr ⟨gb,_,rfl,⟨fr,if_pos rfl,p _ (gD (by omega))⟩,by rw [List.length_set]; exact hlc,hcm,?_,?_⟩⟩
  ·rw [List.size_toArray,gD (by omega)]; exact hcl
  ·rw [B,List.length_set]
   exact hfin
theorem jF (z : Array Value) : ∀ m : Nat,((Array.range (m * z.size)).map (z[· % z.size]!)).toList = List.flatten (List.replicate m z.toList)
 | 0=>by simp
 | m + 1=>by
  have ih:=jF z m
  rw [List.replicate_succ',List.flatten_append,← ih]
  simp only [Array.toList_map,Array.toList_range,List.flatten_cons,List.flatten_nil,List.append_nil]
  rw [Nat.add_mul,Nat.one_mul,List.range_add,List.map_append,List.map_map]
  congr 1
  apply List.ext_getElem
  ·simp
  ·intro j a h2
   have hj : j < z.size:=by simpa using a
   simp only [List.getElem_map,List.getElem_range,Function.comp,Array.getElem_toList]
   rw [Nat.mul_comm m,Nat.mul_add_mod,Nat.mod_eq_of_lt hj]
   simp [hj]
theorem uO {α : Type} {kd : Kd α} {k k' : IntKind} {l c : Int} {bytes sz : Nat} {zv : Value} (z0 : α) (hd : cb d n = true) (hu : P.underlying T = some (.slice E)) (hi : (P.info? E).map (fun i=>(i.zero,i.size,i.bytes)) = some (some zv,sz,bytes))
  (hx : ev e x = .int k l) (hy : ev e y = .int k' c) (h0 : 0 ≤ l) (hlc : l = c) (hb : (bytes : Int) * c ≤ 281474976710656) (h63 : c ≤ 9223372036854775807) (hsz : kd.sz = sz) (hz1 : zv.cells.size = sz) (hz : ∀ I,kd.R I zv.cells.toList z0)
  (h : ∀ b,K (put e d (.slice (some ⟨b,0,none⟩) (List.replicate l.toNat z0).length l.toNat)) ds (As ++ [Buf kd E (some ⟨b,0,none⟩) l.toNat (List.replicate l.toNat z0)])) : OA P n ⟨d,.makeSlice T x y,ty,pos,aft,g⟩ K Q e ds As:=by
 subst hlc
 cases hq : P.info? E with
 | none=>simp [hq] at hi
 | some q =>
  simp only [hq,Option.map_some,Option.some.injEq,Prod.mk.injEq] at hi
  obtain ⟨j,a,m⟩:=hi
  have hrun : ∀ w : World,(Instr.makeSlice T (.int k l) (.int k' l)).run P w = .ok (.slice (some ⟨w.heap.size,0,none⟩) l.toNat l.toNat) (w.alloc (.cells (madeCells zv.cells (l.toNat * q.size)) E)):=fun w =>
   run_make w T E q zv hu hq j k k' l l h0 (Int.le_refl _) (by rw [m]; exact hb) h63
  have hlr : (List.replicate l.toNat z0).length = l.toNat:=by simp
  have hm : (madeCells zv.cells (l.toNat * q.size)).toList = List.flatten (List.replicate l.toNat zv.cells.toList):=by
   rw [a,← hz1]
   exact jF zv.cells l.toNat
  refine oV hd (.cells (madeCells zv.cells (l.toNat * q.size)) E) (fun b=>.slice (some ⟨b,0,none⟩) (List.replicate l.toNat z0).length l.toNat) (fun b=>Buf kd E (some ⟨b,0,none⟩) l.toNat (List.replicate l.toNat z0)) (fun b I _ _=>?_) (fun I h' w s f=>?_) h
  ·have hr:=RL.rep (d:=kd) (hz I) l.toNat
   refine ⟨_,hr,.inr ⟨b,madeCells zv.cells (l.toNat * q.size),rfl,⟨(0,0),if_pos rfl,uJ.zero⟩,by rw [hlr]; exact Nat.le_refl _,?_,by rw [size_madeCells,a,hsz],?_⟩⟩
   ·unfold maxLen; omega
   ·rw [← hm]
    apply List.take_of_length_le
    rw [hlr,hsz,← a]
    exact Nat.le_of_eq ((Array.length_toList (xs:=madeCells zv.cells (l.toNat * q.size))).trans (size_madeCells _ _))
  ·simp [execOp,hx,hy,hrun w]
theorem jE (z : Array Value) (m : Nat) : (Builtin.zeroCells z m).size = m * z.size:=by simp [Builtin.zeroCells]
theorem oz {w : World} {ge c xl yl : Nat} {cur : Array Value} {es : List Value} {v : Value} {q : TypeInfo} (hu : P.underlying T = some (.slice E)) (hq : P.info? E = some q) (src : Go.Src P q.size tx v yl es w)
  {fr : Nat × Nat} (hg : w.heap[ge]? = some (.cells cur E fr)) (hfz : Fz cur.size fr) (hroom : xl + yl ≤ c) (hfit : xl * q.size + es.length ≤ cur.size) :
  (Builtin.append_ #[T,tx] ty #[.slice (some ⟨ge,0,none⟩) xl c,v]).run P w = .ok (.slice (some ⟨ge,0,none⟩) (xl + yl) c) (w.setRow ge (eg cur.toList (xl * q.size) es).toArray):=by
 have hst:=eP (P:=P) ge (xl * q.size) E fr es 0 cur w hg hfz (by simpa using hfit) src.one
 simp only [Nat.add_zero] at hst
 rcases src.kind with ⟨e',hk⟩ | hk <;> simp [Builtin.append_,run_underlying hu,run_underlying hk,sizeOf,typeInfo,hq,src.len,hroom,src.cells,Addr.add_lit,hst,eg]
theorem sv {α : Type} {kd : Kd α} {A : Option Addr} {c k bytes sz : Nat} {xs ys : List α} {v zv : Value} (hd : cb d n = true) (hu : P.underlying T = some (.slice E)) (hi : (P.info? E).map (fun i=>(i.zero,i.size,i.bytes)) = some (some zv,sz,bytes)) (hsz : kd.sz = sz) (hz1 : zv.cells.size = sz)
  (hk : As[k]? = some (Buf kd E A c xs)) (hx : ev e x = .slice A xs.length c) (hy : ev e y = v) (hs : ng P kd tx v ys As) (h63 : xs.length + ys.length ≤ 9223372036854775807) (hb : (xs.length + ys.length) * bytes ≤ 140737488355328)
  (h : ∀ A' c',K (put e d (.slice A' (xs ++ ys).length c')) ds (As.set k (Buf kd E A' c' (xs ++ ys)))) : OA P n ⟨d,.call { callee:=.builtin .append,args:=#[x,y],argTypes:=#[T,tx] },ty,pos,aft,g⟩ K Q e ds As:=by
 intro I h' a w s r f
 obtain ⟨F,l,⟨cs,hr,hc⟩,ff⟩:=dm hk s
 obtain ⟨es,hre,src⟩:=hs I h' w s f.sees
 have hlr : (xs ++ ys).length = xs.length + ys.length:=List.length_append
 have hrall:=hr.app hre
 have hlen:=hr.len
 have helen:=hre.len
 cases hq : P.info? E with
 | none=>simp [hq] at hi
 | some q =>
  simp only [hq,Option.map_some,Option.some.injEq,Prod.mk.injEq] at hi
  obtain ⟨B,p,D⟩:=hi
  have i2' : kd.sz = q.size:=hsz.trans p.symm
  rw [i2'] at src hlen helen
  have hexec : ∀ {v' : Value} {w' : World},(Builtin.append_ #[T,tx] ty #[.slice A xs.length c,v]).run P w = .ok v' w' → (execOp (ev e) ⟨d,.call { callee:=.builtin .append,args:=#[x,y],argTypes:=#[T,tx] },ty,pos,aft,g⟩).run P w = .ok (.value v') w':=fun {v' w'} hh=>by
   simp [execOp,resolve,invoke,builtin,hx,hy,hh]
  have grow : c < xs.length + ys.length → (Builtin.firstCells q.size xs.length (.slice A xs.length c)).run P w.drew = .ok cs.toArray w.drew →
    Oper.wp P ⟨d,.call { callee:=.builtin .append,args:=#[x,y],argTypes:=#[T,tx] },ty,pos,aft,g⟩ a w (fun a' w'=>∃ e' ds' As' I' h'',mn n e' ds' a'∧cq As' I' h''∧dl I h' w I' h'' w'∧K e' ds' As') (eG n Q I h' w):=by
   intro hlt hold
   have hrun:=run_append_grow_src w T tx ty E q zv hu hq B A xs.length c cs hold v ys.length es src hlt (by omega) (growslice_fits (by omega) (by rw [D]; exact hb))
   have hge:=grownCap_ge w (xs.length + ys.length) c E
   have hcm : grownCap w (xs.length + ys.length) c E ≤ maxLen:=grownCap_le_maxLen w (xs.length + ys.length) c E (by unfold maxLen; omega)
   generalize grownCap w (xs.length + ys.length) c E = nc at *
   have gd:=dl.drew f
   obtain ⟨ga,_⟩:=dl.alloc gd.fits (.cells ((cs ++ es).toArray ++ Builtin.zeroCells zv.cells (nc - (xs.length + ys.length))) E)
   unfold Oper.wp
   rw [r.eval,hexec hrun]
   refine ⟨_,ds,_,I,_,r.put hd _,oH ff (A':=Buf kd E (some ⟨w.heap.size,0,none⟩) nc (xs ++ ys)) (mU f).1 ⟨cs ++ es,hrall,.inr ⟨w.heap.size,_,rfl,⟨(0,0),if_pos rfl,uJ.zero⟩,by rw [hlr]; exact hge,hcm,?_,?_⟩⟩,gd.trans ga,?_⟩
   ·rw [Array.size_append,jE,hz1,List.size_toArray,List.length_append,hlen,helen,← p,i2',← Nat.add_mul,← Nat.add_mul]
    congr 1; omega
   ·rw [Array.toList_append,i2',hlr,Nat.add_mul,← hlen,← helen,← List.length_append]
    exact List.take_left
   ·have:=h (some ⟨w.heap.size,0,none⟩) nc
    rw [hlr] at this
    exact this
  rcases hc with ⟨hA,m,o⟩ | ⟨gb,cur,hA,⟨fr,hg,hfz⟩,hlc,hcm,hcs,ht⟩
  ·clear hA; subst m; subst o
   simp only [RL] at hr; subst hr
   by_cases b : ys = []
   ·subst b
    simp only [RL] at hre; subst hre
    have hrun : (Builtin.append_ #[T,tx] ty #[.slice A 0 0,v]).run P w = .ok (.slice A 0 0) w:=by
     have sc : (Builtin.firstCells q.size 0 v).run P w = .ok #[] w:=src.cells
     have sl : ∀ w',(Builtin.lenOf v).run P w' = .ok 0 w':=src.len
     rcases src.kind with ⟨e',hkk⟩ | hkk <;> cases A <;> simp [Builtin.append_,run_underlying hu,run_underlying hkk,sizeOf,typeInfo,hq,sc,sl,storeCells]
    unfold Oper.wp
    rw [r.eval,hexec hrun]
    have hset : As.set k (Buf kd E A 0 ([] : List α)) = As:=by
     apply List.ext_getElem?
     intro j
     rw [List.getElem?_set]
     split
     ·rename_i hj; subst hj
      have : k < As.length:=by
       rcases Nat.lt_or_ge k As.length with z | z
       ·exact z
       ·simp [List.getElem?_eq_none z] at hk
      simp [this,← hk]
     ·rfl
    exact ⟨_,ds,As.set k (Buf kd E A 0 ([] ++ [])),I,h',r.put hd _,by rw [List.append_nil,hset]; exact s,dl.refl f,h A 0⟩
   ·have : 0 < ys.length:=List.length_pos_iff.2 b
    refine grow (by simpa using this) ?_
    cases A with
    | none=>exact run_firstCells_none w.drew q.size 0 0 0
    | some a=>exact run_firstCells_some w.drew q.size 0 a 0 0 [] (by simp) (by simp)
  ·subst hA
   have hh : h' gb = some (.cells cur E fr):=l gb _ hg
   have hw:=f.own gb _ hh
   have hcl : cur.toList.length = c * q.size:=(Array.length_toList (xs:=cur)).trans (hcs.trans (by rw [i2']))
   by_cases hroom : xs.length + ys.length ≤ c
   ·have hm : (xs.length + ys.length) * q.size ≤ c * q.size:=Nat.mul_le_mul_right _ hroom
    rw [Nat.add_mul] at hm
    have hrun:=oz (P:=P) (T:=T) (tx:=tx) (ty:=ty) (xl:=xs.length) (yl:=ys.length) (c:=c) hu hq src hw hfz.1 hroom (by rw [helen,hcs,i2']; exact hm)
    unfold Oper.wp
    rw [r.eval,hexec hrun]
    refine ⟨_,ds,_,I,_,r.put hd _,jp ff (A':=Buf kd E (some ⟨gb,0,none⟩) c (xs ++ ys)) hg ⟨cs ++ es,hrall,.inr ⟨gb,_,rfl,⟨fr,if_pos rfl,by rw [List.size_toArray,gD (by omega),Array.length_toList]; exact hfz⟩,by rw [hlr]; exact hroom,hcm,?_,?_⟩⟩,dl.setRow f hh,?_⟩
    ·rw [List.size_toArray,gD (by omega),hcl,i2']
    ·show (eg cur.toList (xs.length * q.size) es).take ((xs ++ ys).length * kd.sz) = cs ++ es
     rw [i2'] at ht
     rw [hlr,i2',Nat.add_mul]
     unfold eg
     rw [ht,← hlen,← helen,← List.length_append]
     exact List.take_left
    ·have:=h (some ⟨gb,0,none⟩) c
     rw [hlr] at this
     exact this
   ·refine grow (by omega) (run_firstCells_some w.drew q.size xs.length ⟨gb,0,none⟩ xs.length c cs hlen fun j u hu'=>?_)
    rw [Addr.add_lit,Nat.zero_add]
    show w.cell? _ = _
    rw [jM hw]
    have hj : j < xs.length * q.size:=by
     rw [← hlen]
     rcases Nat.lt_or_ge j cs.length with z | z
     ·exact z
     ·simp [List.getElem?_eq_none z] at hu'
    rw [← ht,List.getElem?_take,i2',if_pos hj] at hu'
    simpa using hu'
end
end Go.Proofs.YtckilbegmbaeeaaGreat.SL
namespace Go.Proofs.YtckilbegmbaeeaaGreat.SL
open Go Go.RowKit
set_option linter.unusedVariables false
set_option linter.unusedSimpArgs false
def Gh (As Bs : List bC) : Prop:=∀ I h w,cq As I h → ig I h w → ∃ I' h',dl I h w I' h' w∧cq Bs I' h'
theorem Gh.of {As Bs : List bC} (hv : ∀ I h,cq As I h → cq Bs I h) : Gh As Bs:=fun I h w s f=>⟨I,h,dl.refl f,hv I h s⟩
theorem Gh.trans {As Bs Cs : List bC} (a : Gh As Bs) (b : Gh Bs Cs) : Gh As Cs:=fun I h w s f=>by
 obtain ⟨d,m,c,o⟩:=a I h w s f
 obtain ⟨j,h2,l,p⟩:=b d m w o c.fits
 exact ⟨j,h2,c.trans l,p⟩
section
variable {P : Program} {n : Nat} {Q : dI} {e : Env} {ds : List Deferred} {As Bs : List bC} {d : Option Nat} {ty T T' E tx : TypeId} {pos : String} {aft : Array Edge} {g : Option (Nat × Bool)} {x y z : Operand} {K : Env → List Deferred → List bC → Prop}
theorem eG.goes {I0 h0 I h : Hp} {w0 w : World} (gg : dl I0 h0 w0 I h w) {ex : Exit} {a' : Act} {w' : World} (p : eG n Q I h w ex a' w') : eG n Q I0 h0 w0 ex a' w':=by
 obtain ⟨e',ds',As',I',h',r',s',g',q⟩:=p
 exact ⟨e',ds',As',I',h',r',s',gg.trans g',q⟩
theorem SA.ghost {c : Code} (hv : Gh As Bs) (h : SA P n c Q e ds Bs) : SA P n c Q e ds As:=fun I h' a w s r f=>by
 obtain ⟨d,j,b,l⟩:=hv I h' w s f
 exact wp_mono (h d j a w l r b.fits) fun _ _ _ p=>eG.goes b p
theorem OA.ghost {o : Oper} (hv : Gh As Bs) (h : OA P n o K Q e ds Bs) : OA P n o K Q e ds As:=fun I h' a w s r f=>by
 obtain ⟨c,d,b,l⟩:=hv I h' w s f
 have hw:=h c d a w l r b.fits
 have next : ∀ a' w',(∃ e' ds' As' I' h',mn n e' ds' a'∧cq As' I' h'∧dl c d w I' h' w'∧K e' ds' As') → (∃ e' ds' As' I'' h'',mn n e' ds' a'∧cq As' I'' h''∧dl I h' w I'' h'' w'∧K e' ds' As'):=fun a' w' p=>by
  obtain ⟨e',ds',As',I',h',r',s',g',q⟩:=p
  exact ⟨e',ds',As',I',h',r',s',b.trans g',q⟩
 unfold Oper.wp at *
 generalize (execOp a.eval o).run P w = fF at *
 cases fF with
 | ok x w' =>
  cases x <;> simp only [Oper.upon] at hw ⊢ <;> first
   | exact next _ _ hw
   | exact Calls.mono hw (fun ee w'' he=>by cases ee <;> first | exact next _ _ he | exact eG.goes b he | (obtain ⟨j,m,q⟩:=he; exact ⟨j,m,eG.goes b q⟩))
   | exact Rows.mono hw (fun _ _ he=>next _ _ he)
 | halt x w'=>cases x <;> simp only [Oper.upon] at hw ⊢ <;> exact eG.goes b hw
theorem Gh.freeze {α : Type} {kd : Kd α} {A : Option Addr} {c k : Nat} {xs : List α} (hk : As[k]? = some (Buf kd T A c xs)) : Gh As (As.set k (Ro kd A c xs)):=by
 intro I h w s f
 obtain ⟨m,l,⟨cs,hr,hc⟩,ff⟩:=dm hk s
 rcases hc with ⟨hA,hc,hx⟩ | ⟨gb,cur,hA,⟨fr,hg,hfz⟩,hlc,hcm,hcs,ht⟩
 ·subst hx
  exact ⟨I,h,dl.refl f,ff _ I (fun _=>none) h (Le.refl I) ⟨Nat.zero_le _,cs,hr,.inl rfl⟩ (fun _ _ e=>by cases e) (fun b o a _=>⟨a,rfl⟩)⟩
 ·have hh:=l gb _ hg
  have hI:=f.sep gb _ hh
  let ob : Obj:=.cells cur T fr
  have leI : Le I (fun b=>if b = gb then some ob else I b):=fun b u e=>by
   have : b ≠ gb:=by rintro rfl; rw [hI] at e; cases e
   simp [this,e]
  refine ⟨fun b=>if b = gb then some ob else I b,fun b=>if b = gb then none else h b,⟨⟨fun b u e=>?_,fun b u e=>?_,fun b u e=>?_⟩,leI,rfl,rfl,rfl,Nat.le_refl _,fun b hb e=>?_⟩,?_⟩
  ·by_cases hb : b = gb
   ·subst hb; simp at e; rw [← e]; exact f.own b _ hh
   ·simp [hb] at e; exact f.imm b u e
  ·by_cases hb : b = gb
   ·simp [hb] at e
   ·simp [hb] at e; exact f.own b u e
  ·by_cases hb : b = gb
   ·simp [hb] at e
   ·simp [hb] at e; simp [hb]; exact f.sep b u e
  ·have : b ≠ gb:=by rintro rfl; rw [hh] at e; cases e
   exact ⟨rfl,by simp [this,e],by simp [this]⟩
  ·refine ff _ _ (fun _=>none) _ leI ⟨hlc,cs,hr.mono leI,.inr ⟨gb,0,cur,T,fr,hA,by simp [ob],fun j v hj=>?_⟩⟩ (fun _ _ e=>by cases e) (fun b u a d=>?_)
   ·have hj' : j < xs.length * kd.sz:=by
     rw [← hr.len]
     rcases Nat.lt_or_ge j cs.length with q | q
     ·exact q
     ·simp [List.getElem?_eq_none q] at hj
    rw [← ht,List.getElem?_take,if_pos hj'] at hj
    simpa using hj
   ·have : b ≠ gb:=by rintro rfl; rw [hg] at d; cases d
    exact ⟨by simp [this,a],rfl⟩
theorem Gh.nilBuf {α : Type} (kd : Kd α) (T : TypeId) : Gh As (As ++ [Buf kd T none 0 []]):=Gh.of fun I h s =>
 dh ⟨Le.refl h,(fun _ _ e=>by cases e),fun _ _ _=>rfl⟩ s ⟨fun _=>none,fun _=>none,⟨fun _ _ e=>(by cases e),fun _ _ e=>(by cases e),fun _ _ e=>(by cases e)⟩,⟨[],rfl,.inl ⟨rfl,rfl,rfl⟩⟩,trivial⟩
theorem Gh.nilRo {α : Type} (kd : Kd α) (A : Option Addr) (c : Nat) : Gh As (As ++ [Ro kd A c []]):=Gh.of fun I h s =>
 dh ⟨Le.refl h,(fun _ _ e=>by cases e),fun _ _ _=>rfl⟩ s ⟨fun _=>none,fun _=>none,⟨fun _ _ e=>(by cases e),fun _ _ e=>(by cases e),fun _ _ e=>(by cases e)⟩,⟨Nat.zero_le _,[],rfl,.inl rfl⟩,trivial⟩
theorem Gh.know {k : Nat} {A B : bC} (hk : As[k]? = some A) (hp : B.pers = true) (hv : ∀ I h,A.P I h → B.P I h) : Gh As (As ++ [B]):=Gh.of fun I h s=>by
 obtain ⟨a,_,p,_⟩:=dm hk s
 exact dh ⟨Le.refl h,(fun _ _ e=>by cases e),fun _ _ _=>rfl⟩ s ⟨fun _=>none,fun _=>none,⟨fun _ _ e=>(by cases e),fun _ _ e=>(by cases e),fun _ _ e=>(by cases e)⟩,B.free hp (hv I a p),trivial⟩
def sub {α : Type} (xs : List α) (l h : Int) : List α:=(xs.drop l.toNat).take (h.toNat - l.toNat)
def dj (A : Option Addr) (l m : Int) (sz : Nat) : Option Addr:=sliced_addr A l.toNat m.toNat sz
 where sliced_addr (A : Option Addr) (l m sz : Nat) : Option Addr:=if m = l then A else A.map (·.add (l * sz))
theorem pw {α : Type} {xs : List α} {l h : Int} (h0 : 0 ≤ l) (h1 : l ≤ h) (h2 : h ≤ (xs.length : Int)) : (sub xs l h).length = h.toNat - l.toNat:=by
 simp [sub]; omega
theorem RL.sub {α : Type} {kd : Kd α} {I : Hp} : ∀ {xs : List α} {cs : List Value} (l m : Nat),RL kd I cs xs → RL kd I ((cs.drop (l * kd.sz)).take (m * kd.sz)) ((xs.drop l).take m)
 | [],cs,l,m,h=>by simp only [RL] at h; subst h; simp [RL]
 | x::xs,_,0,0,_=>by simp [RL]
 | x::xs,_,0,m + 1,⟨c1,c2,e,a,h2⟩=>by
  have ih:=RL.sub 0 m h2
  have hl:=kd.len a
  refine ⟨c1,_,?_,a,ih⟩
  subst e
  simp only [Nat.zero_mul,List.drop_zero]
  rw [List.take_append,hl,List.take_of_length_le (by rw [hl,Nat.add_mul]; omega),show (m + 1) * kd.sz - kd.sz = m * kd.sz from by rw [Nat.add_mul]; omega]
 | x::xs,_,l + 1,m,⟨c1,c2,e,a,h2⟩=>by
  have ih:=RL.sub l m h2
  have hl:=kd.len a
  subst e
  rw [List.drop_append,List.drop_of_length_le (by rw [hl,Nat.add_mul]; omega),hl,show (l + 1) * kd.sz - kd.sz = l * kd.sz from by rw [Nat.add_mul]; omega]
  simpa using ih
theorem tf {α : Type} {kd : Kd α} {A : Option Addr} {c sz : Nat} {xs : List α} {l h m : Int} (hsz : kd.sz = sz) (h0 : 0 ≤ l) (h1 : l ≤ h) (h2 : h ≤ (xs.length : Int)) (h3 : h ≤ m) :
  ∀ I hh,(Ro kd A c xs).P I hh → (Ro kd (dj A l m sz) (m.toNat - l.toNat) (sub xs l h)).P I hh:=fun I hh ⟨hle,cs,hr,hx⟩=>by
 subst hsz
 have hlen:=pw h0 h1 h2
 refine ⟨by rw [hlen]; omega,_,RL.sub l.toNat (h.toNat - l.toNat) hr,?_⟩
 by_cases hm : m.toNat = l.toNat
 ·left
  apply List.eq_nil_of_length_eq_zero
  show (sub xs l h).length = 0
  rw [hlen]; omega
 ·rcases hx with hx | ⟨b,off,C,T,fr,hA,hb,hv⟩
  ·left; subst hx; simp [sub]
  ·right
   subst hA
   refine ⟨b,off + l.toNat * kd.sz,C,T,fr,by simp [dj,dj.sliced_addr,hm,Addr.add_lit],hb,fun j v hj=>?_⟩
   rw [List.getElem?_take] at hj
   split at hj
   ·rw [List.getElem?_drop] at hj
    have:=hv _ v hj
    rw [Nat.add_assoc]; exact this
   ·cases hj
theorem Gh.subRo {α : Type} {kd : Kd α} {A : Option Addr} {c k sz : Nat} {xs : List α} {l h m : Int} (hk : As[k]? = some (Ro kd A c xs)) (hsz : kd.sz = sz) (h0 : 0 ≤ l) (h1 : l ≤ h) (h2 : h ≤ (xs.length : Int)) (h3 : h ≤ m) :
  Gh As (As ++ [Ro kd (dj A l m sz) (m.toNat - l.toNat) (sub xs l h)]):=Gh.know hk rfl (tf hsz h0 h1 h2 h3)
theorem nu {A : Option Addr} {len c sz : Nat} {lo hi mx : Option Operand} {lv hv mv : Option Value} {l h m : Int} (hu : P.underlying T = some (.slice E)) (hz : (P.info? E).map (·.size) = some sz) (hx : ev e x = .slice A len c)
  (hlo : lo.map (ev e) = lv) (hhi : hi.map (ev e) = hv) (hmx : mx.map (ev e) = mv)
  (hb : (lv = none∧l = 0 ∨ ∃ k,lv = some (.int k l))∧(hv = none∧mv = none∧h = len ∨ ∃ k,hv = some (.int k h))∧(mv = none∧m = c ∨ (∃ k,mv = some (.int k m))∧∃ k,hv = some (.int k h)))
  (h0 : 0 ≤ l) (h1 : l ≤ h) (h2 : h ≤ m) (h3 : m ≤ (c : Int)) : V P e ⟨d,.slice T x lo hi mx,ty,pos,aft,g⟩ (.slice (dj A l m sz) (h.toNat - l.toNat) (m.toNat - l.toNat)):=fun w=>by
 cases hq : P.info? E with
 | none=>simp [hq] at hz
 | some q =>
  have hz' : q.size = sz:=by simpa [hq] using hz
  have hs : (Instr.slice T (.slice A len c) lv hv mv).run P w = .ok (.slice (dj A l m sz) (h.toNat - l.toNat) (m.toNat - l.toNat)) w:=by
   have em : (m.toNat : Int) = m:=Int.toNat_of_nonneg (by omega)
   have eh : (h.toNat : Int) = h:=Int.toNat_of_nonneg (by omega)
   have bm : (k : IntKind) → ∀ code,(Instr.sliceBound (.int k m) c code).run P w = .ok m.toNat w:=fun k code=>run_sliceBound (P:=P) (w:=w) k m c code (by omega) h3
   have bh : (k : IntKind) → ∀ code,(Instr.sliceBound (.int k h) m.toNat code).run P w = .ok h.toNat w:=fun k code=>run_sliceBound (P:=P) (w:=w) k h m.toNat code (by omega) (by omega)
   have bl : (k : IntKind) → ∀ code,(Instr.sliceBound (.int k l) h.toNat code).run P w = .ok l.toNat w:=fun k code=>run_sliceBound (P:=P) (w:=w) k l h.toNat code (by omega) (by omega)
   obtain ⟨hl',hh',hm'⟩:=hb
   have a : ∀ (q : TypeId),True:=fun _=>trivial
   rcases hm' with ⟨rfl,rfl⟩ | ⟨⟨km,rfl⟩,kh,hhv⟩
   ·simp only [Int.toNat_natCast] at *
    rcases hh' with ⟨rfl,_,rfl⟩ | ⟨kh,rfl⟩
    ·simp only [Int.toNat_natCast] at *
     rcases hl' with ⟨rfl,rfl⟩ | ⟨kl,rfl⟩ <;> simp [Instr.slice,run_underlying hu,Instr.sliceBounds,bl,sizeOf,typeInfo,hq,hz',dj,dj.sliced_addr]
    ·rcases hl' with ⟨rfl,rfl⟩ | ⟨kl,rfl⟩ <;> simp [Instr.slice,run_underlying hu,Instr.sliceBounds,bl,bh,sizeOf,typeInfo,hq,hz',dj,dj.sliced_addr]
   ·subst hhv
    rcases hl' with ⟨rfl,rfl⟩ | ⟨kl,rfl⟩ <;> simp [Instr.slice,run_underlying hu,Instr.sliceBounds,bl,bh,bm,sizeOf,typeInfo,hq,hz',dj,dj.sliced_addr]
  simp only [execOp,hx,hlo,hhi,hmx,Instr.sliceAt,Sem.run_bind,run_underlying hu,Result.andThen_ok,hs,Sem.run_pure]
theorem oN {f : FuncId} {fn : Func} {c : Code} (hf : P.funcs[f]? = some fn) (hname : (fn.name == "runtime.NumGoroutine") = false) (hb : fn.body = some c) (args : Array Value) (w : World) :
  (callFunc f args).run P w = .ok (.enter f args) w:=by
 have a : fn.name ≠ "runtime.NumGoroutine" := by simpa using hname
 simp [callFunc,hf,a,hb]
theorem wC {f : FuncId} {fn : Func} {c : Code} {args : Array Operand} {ts : Array TypeId} {vs : Array Value} (hf : P.funcs[f]? = some fn) (hn : (fn.name == "runtime.NumGoroutine") = false) (hb : fn.body = some c) (ha : args.map (ev e) = vs) (w : World) :
  (execOp (ev e) ⟨d,.call { callee:=.value (.func f),args:=args,argTypes:=ts },ty,pos,aft,g⟩).run P w = .ok (.enter f vs) w:=by
 have:=oN hf hn hb (vs ++ #[]) w
 simp only [Array.append_empty] at this
 simp [execOp,resolve,ev,Deferred.ofValue,invoke,ha,this]
theorem uS {t : Nat} {f : FuncId} {fn : Func} {c : Code} {args : Array Operand} {ts : Array TypeId} {vs cap : Array Value} (ht : e t = .func (.func f) #[] cap) (hf : P.funcs[f]? = some fn) (hn : (fn.name == "runtime.NumGoroutine") = false) (hb : fn.body = some c) (ha : args.map (ev e) = vs) (w : World) :
  (execOp (ev e) ⟨d,.call { callee:=.value (.tmp t),args:=args,argTypes:=ts },ty,pos,aft,g⟩).run P w = .ok (.enter f (vs ++ cap)) w:=by
 have:=oN hf hn hb (vs ++ cap) w
 simp [execOp,resolve,ev,ht,Deferred.ofValue,invoke,ha,this]
theorem uD {fn : Func} {R : Ending → List bC → Prop} {t : Nat} {v : Value} (h : fn.results = #[.tmp t]) (hv : e t = v) (hd : ds = []) (hR : R (.returned v) As) : je P fn R .ret e ds As:=by
 refine ⟨hd,v,fun I h' w tmps ht _ _=>?_,hR⟩
 have:=ht t
 simp at this
 simp [results,h,this,hv]
theorem uE {fn : Func} {R : Ending → List bC → Prop} {t1 t2 : Nat} {v1 v2 : Value} (h : fn.results = #[.tmp t1,.tmp t2]) (h1 : e t1 = v1) (h2 : e t2 = v2) (hd : ds = []) (hR : R (.returned (.tuple #[v1,v2])) As) : je P fn R .ret e ds As:=by
 refine ⟨hd,_,fun I h' w tmps ht _ _=>?_,hR⟩
 have a:=ht t1
 have b:=ht t2
 simp at a b
 simp [results,h,a,b,h1,h2]
theorem uC {fn : Func} {R : Ending → List bC → Prop} (h : fn.results = #[]) (hd : ds = []) (hR : R (.returned (.tuple #[])) As) : je P fn R .ret e ds As:=by
 refine ⟨hd,_,fun I h' w tmps ht _ _=>?_,hR⟩
 simp [results,h]
end
theorem AD {α : Type} {c : Prop} [Decidable c] {x y : Option α} {r : α} (h : (if c then x else y) = some r) : c∧x = some r ∨ ¬c∧y = some r:=by
 by_cases hc : c
 ·rw [if_pos hc] at h; exact .inl ⟨hc,h⟩
 ·rw [if_neg hc] at h; exact .inr ⟨hc,h⟩
theorem aO {α : Type} {c : Prop} [Decidable c] {x : Option α} {r : α} (h : (if c then x else none) = some r) : c∧x = some r:=by
 by_cases hc : c
 ·rw [if_pos hc] at h; exact ⟨hc,h⟩
 ·rw [if_neg hc] at h; cases h
theorem ac {α β : Type} {x : Option α} {f : α → Option β} {r : β} (h : x.bind f = some r) : ∃ a,x = some a∧f a = some r:=Option.bind_eq_some_iff.1 h
def lt {α β : Type} (x : α) (f : α → β) : β:=f x
theorem bj {α β : Type} {x : α} {f : α → Option β} {r : β} (h : lt x f = some r) : ∃ y,y = x∧f y = some r:=⟨x,rfl,h⟩
end Go.Proofs.YtckilbegmbaeeaaGreat.SL
namespace Go.Proofs.YtckilbegmbaeeaaGreat.SL
open Go Go.RowKit
set_option linter.unusedVariables false
set_option linter.unusedSimpArgs false
inductive Out (ρ σ : Type) where
 | ret (r : ρ)
 | go (s : σ)
def Out.el {ρ σ β : Type} (t : Out ρ σ) (f : ρ → Option β) (g : σ → Option β) : Option β:=match t with | .ret r=>f r | .go s=>g s
theorem dw {ρ σ β : Type} {r : ρ} {f : ρ → Option β} {g : σ → Option β} {x : β} (h : Out.el (.ret r) f g = some x) : f r = some x:=h
theorem fw {ρ σ β : Type} {s : σ} {f : ρ → Option β} {g : σ → Option β} {x : β} (h : Out.el (.go s) f g = some x) : g s = some x:=h
structure St (l : List (Nat × Value)) (B : List bC) (e : Env) (ds : List Deferred) (As : List bC) : Prop where
 env : kY e l
 dfs : ds = []
 gh : Gh As B
theorem Gh.refl (As : List bC) : Gh As As:=Gh.of fun _ _ s=>s
theorem Gh.sel {As B : List bC} (ks : List Nat) (hs : eM ks As = true) (he : sel ks As = B) : Gh As B:=Gh.of fun _ _ s=>he ▸ ia hs s
theorem Gh.app {As B C : List bC} (h : Gh As B) : Gh (As ++ C) (B ++ C):=fun I hh w s f=>by
 obtain ⟨a,h2,sp,sa,sb⟩:=gq s
 obtain ⟨I',dU,g,s'⟩:=h I a w sa (f.less sp.1)
 obtain ⟨g',dZ⟩:=dl.frame f sp g
 exact ⟨I',_,g',dh dZ s' (jn g.le sb)⟩
theorem St.mk1 {l : List (Nat × Value)} {B : List bC} {e : Env} {As : List bC} (h : kY e l) (g : Gh As B) : St l B e [] As:=⟨h,rfl,g⟩
section
variable {P : Program} {n : Nat} {Q : dI} {e : Env} {ds : List Deferred} {As B : List bC} {l : List (Nat × Value)} {K : Env → List Deferred → List bC → Prop}
theorem SA.of_St {c : Code} (s : St l B e ds As) (h : ∀ junk,SA P n c Q (rE junk l) [] B) : SA P n c Q e ds As:=by
 obtain ⟨a,rfl,b⟩:=s
 refine SA.ghost b ?_
 have:=h e
 rwa [← lO a] at this
theorem aa (h : K e ds As) : thn K Q .normal e ds As:=h
theorem aX {i : Nat} (h : Q (.exit i) e ds As) : thn K Q (.exit i) e ds As:=h
theorem aG (h : Q .ret e ds As) : thn K Q .ret e ds As:=h
theorem aF {i : Nat} (h : Q .normal e ds As) : inb i Q .normal e ds As:=h
theorem ba {i : Nat} (h : Q .ret e ds As) : inb i Q .ret e ds As:=h
theorem cg {i : Nat} (h : Q .normal e ds As) : inb i Q (.exit i) e ds As:=by
 show (bif Nat.beq i i then _ else _)
 rw [Nat.beq_refl]; exact h
theorem tH {i j : Nat} (hb : Nat.beq j i = false) (h : Q (.exit j) e ds As) : inb i Q (.exit j) e ds As:=by
 show (bif Nat.beq j i then _ else _)
 rw [hb]; exact h
def bU (Q : dI) : Prop:=∀ c e e' ds As,Q (.panic c) e ds As → Q (.panic c) e' ds As
theorem bU.thn (h : bU Q) : bU (thn K Q):=h
theorem bU.inb {i : Nat} (h : bU Q) : bU (inb i Q):=h
theorem bU.body {fn : Func} {R : Ending → List bC → Prop} : bU (je P fn R):=fun _ _ _ _ _ h=>h
def sW (R : Value → List bC → Prop) : Ending → List bC → Prop:=fun x As=>∃ v B,x = .returned v∧Gh As B∧R v B
def dk (P : Program) (f : FuncId) (args : Array Value) (pre : List bC) (R : Value → List bC → Prop) : Prop:=SC P f args pre (sW R)
theorem dk.mono {f : FuncId} {args : Array Value} {pre : List bC} {R R' : Value → List bC → Prop} (h : dk P f args pre R) (hr : ∀ v B,R v B → R' v B) : dk P f args pre R' :=
 SC.mono h fun x As ⟨v,B,hx,g,r⟩=>⟨v,B,hx,g,hr v B r⟩
theorem dk.pre {f : FuncId} {args : Array Value} {pre pre' : List bC} {R : Value → List bC → Prop} (h : dk P f args pre R) (hg : Gh pre' pre) : dk P f args pre' R:=fun I hh w s ft=>by
 obtain ⟨b,c,a,d⟩:=hg I hh w s ft
 exact (h b c w d a.fits).mono fun x w' ⟨hx,As',I',h',s',g,r⟩=>⟨hx,As',I',h',s',a.trans g,r⟩
theorem nC {o : Oper} {f : FuncId} {args : Array Value} {pre : List bC} {R : Value → List bC → Prop} (ks rs : List Nat) (hd : cb o.dst n = true)
  (hv : ∀ w,(execOp (ev e) o).run P w = .ok (.enter f args) w) (hs : eM (ks ++ rs) As = true)
  (hc : dk P f args pre R) (hp : sel ks As = pre)
  (h : ∀ v B,R v B → K (put e o.dst v) ds (B ++ sel rs As)) : OA P n o K Q e ds As:=by
 intro I h' a w s r ft
 have b:=ia hs s
 have es : sel (ks ++ rs) As = pre ++ sel rs As:=by rw [← hp]; simp [sel]
 rw [es] at b
 obtain ⟨j,h2,sp,sa,sb⟩:=gq b
 unfold Oper.wp
 rw [r.eval,hv w]
 simp only [Oper.upon]
 refine (hc I j w sa (ft.less sp.1)).mono fun x w' hx=>?_
 obtain ⟨_,As',I',dU,l,g,v,B,rfl,hG,hR⟩:=hx
 obtain ⟨c,h2',d,s2'⟩:=hG I' dU w' l g.fits
 have gg:=g.trans d
 obtain ⟨g',dZ⟩:=dl.frame ft sp gg
 exact ⟨_,ds,B ++ sel rs As,c,_,r.put hd v,dh dZ s2' (jn gg.le sb),g',h v B hR⟩
theorem mi {fn : Func} {R : Value → List bC → Prop} {t : Nat} {v : Value} (B : List bC) (h : fn.results = #[.tmp t]) (hv : e t = v) (hg : Gh As B) (hR : R v B) : je P fn (sW R) .ret e [] As:=uD h hv rfl ⟨v,B,rfl,hg,hR⟩
theorem xF {fn : Func} {R : Value → List bC → Prop} {t1 t2 : Nat} {v1 v2 : Value} (B : List bC) (h : fn.results = #[.tmp t1,.tmp t2]) (h1 : e t1 = v1) (h2 : e t2 = v2) (hg : Gh As B) (hR : R (.tuple #[v1,v2]) B) : je P fn (sW R) .ret e [] As:=uE h h1 h2 rfl ⟨_,B,rfl,hg,hR⟩
theorem kR {fn : Func} {R : Value → List bC → Prop} (B : List bC) (h : fn.results = #[]) (hg : Gh As B) (hR : R (.tuple #[]) B) : je P fn (sW R) .ret e [] As:=uC h rfl ⟨_,B,rfl,hg,hR⟩
theorem rH {fn : Func} {R : Value → List bC → Prop} (B : List bC) (h : fn.results = #[]) (hg : Gh As B) (hR : R (.tuple #[]) B) : je P fn (sW R) .normal e [] As:=kR (e:=e) B h hg hR
theorem ah {ops : Array Oper} (h : Q .normal e ds As) : RA P n ops Q [] e ds As:=h
theorem OA.mono {o : Oper} {K' : Env → List Deferred → List bC → Prop} (h : OA P n o K Q e ds As) (hk : ∀ e ds As,K e ds As → K' e ds As) : OA P n o K' Q e ds As:=fun I h' a w s r f =>
 Oper.wp_mono (fun a' w' ⟨e',ds',As',I',h'',r',s',g',q⟩=>⟨e',ds',As',I',h'',r',s',g',hk _ _ _ q⟩) (h I h' a w s r f)
theorem nE {ops : Array Oper} {M : Env → List Deferred → List bC → Prop} : ∀ (os : List Oper) {os2 : List Oper} {e : Env} {ds : List Deferred} {As : List bC},
  RA P n ops (thn M Q) os e ds As → (∀ e ds As,M e ds As → RA P n ops Q os2 e ds As) → RA P n ops Q (os ++ os2) e ds As
 | [],_,_,_,_,h,k=>k _ _ _ h
 | o::os,os2,_,_,_,h,k=>fun I h' a w s r f=>by
  rcases h I h' a w s r f with ⟨hw,hwp⟩ | ⟨hw,hd,hk⟩
  ·refine .inl ⟨hw,?_⟩
   have next : ∀ a' w',(∃ e' ds' As' I' h'',mn n e' ds' a'∧cq As' I' h''∧dl I h' w I' h'' w'∧RA P n ops (thn M Q) os e' ds' As') → (∃ e' ds' As' I' h'',mn n e' ds' a'∧cq As' I' h''∧dl I h' w I' h'' w'∧RA P n ops Q (os ++ os2) e' ds' As') :=
    fun a' w' ⟨e',ds',As',I',h'',r',s',g',q⟩=>⟨e',ds',As',I',h'',r',s',g',nE os q k⟩
   have post : ∀ x a' w',x ≠ .normal → eG n (thn M Q) I h' w x a' w' → eG n Q I h' w x a' w':=fun x a' w' hx ⟨e',ds',As',I',h'',r',s',g',q⟩=>⟨e',ds',As',I',h'',r',s',g',by cases x <;> first | exact absurd rfl hx | exact q⟩
   unfold Oper.wp at *
   generalize (execOp a.eval o).run P w = fF at *
   cases fF with
   | ok x w' =>
    cases x <;> simp only [Oper.upon] at hwp ⊢ <;> first
     | exact next _ _ hwp
     | exact Calls.mono hwp (fun ee w'' he=>by cases ee <;> first | exact next _ _ he | exact post _ _ _ (by simp) he | (obtain ⟨b,c,q⟩:=he; exact ⟨b,c,post _ _ _ (by simp) q⟩))
     | exact Rows.mono hwp (fun _ _ he=>next _ _ he)
   | halt x w'=>cases x <;> simp only [Oper.upon] at hwp ⊢ <;> exact post _ _ _ (by simp) hwp
  ·exact .inr ⟨hw,hd,nE os hk k⟩
theorem RA.of_St {ops : Array Oper} {o : Oper} {os : List Oper} (hgu : o.guard = none) (s : St l B e ds As) (h : ∀ junk,RA P n ops Q (o::os) (rE junk l) [] B) : RA P n ops Q (o::os) e ds As:=by
 obtain ⟨j,rfl,m⟩:=s
 have hh:=h e
 rw [← lO j] at hh
 intro I h' a w s r f
 obtain ⟨c,dU,b,p⟩:=m I h' w s f
 rcases hh c dU a w p r b.fits with ⟨hw,hwp⟩ | ⟨hw,hd,hk⟩
 ·refine .inl ⟨hw,?_⟩
  have next : ∀ a' w',(∃ e' ds' As' I' h'',mn n e' ds' a'∧cq As' I' h''∧dl c dU w I' h'' w'∧RA P n ops Q os e' ds' As') → (∃ e' ds' As' I' h'',mn n e' ds' a'∧cq As' I' h''∧dl I h' w I' h'' w'∧RA P n ops Q os e' ds' As') :=
   fun a' w' ⟨e',ds',As',I',h'',r',s',g',q⟩=>⟨e',ds',As',I',h'',r',s',b.trans g',q⟩
  unfold Oper.wp at *
  generalize (execOp a.eval o).run P w = fF at *
  cases fF with
  | ok x w' =>
   cases x <;> simp only [Oper.upon] at hwp ⊢ <;> first
    | exact next _ _ hwp
    | exact Calls.mono hwp (fun ee w'' he=>by cases ee <;> first | exact next _ _ he | exact eG.goes b he | (obtain ⟨d,u,q⟩:=he; exact ⟨d,u,eG.goes b q⟩))
    | exact Rows.mono hwp (fun _ _ he=>next _ _ he)
  | halt x w'=>cases x <;> simp only [Oper.upon] at hwp ⊢ <;> exact eG.goes b hwp
 ·simp [Region.wanted,hgu] at hw
end
end Go.Proofs.YtckilbegmbaeeaaGreat.SL
namespace Go.Proofs.YtckilbegmbaeeaaGreat.SL
open Go Go.RowKit
set_option linter.unusedVariables false
set_option linter.unusedSimpArgs false
section
variable {P : Program} {n : Nat} {Q : dI} {e : Env} {ds : List Deferred} {As B : List bC} {l : List (Nat × Value)} {K : Env → List Deferred → List bC → Prop} {d : Option Nat} {ty T T' E tx : TypeId} {pos : String} {aft : Array Edge} {g : Option (Nat × Bool)} {x y z c : Operand}
theorem dS : kY e []:=trivial
theorem cB {t : Nat} {v : Value} (h : e t = v) (k : kY e l) : kY e ((t,v)::l):=⟨h,k⟩
theorem aC {p : Prop} [Decidable p] {a b : Code} (hc : ev e c = .bool (decide p)) (hp : p) (h : SA P n a Q e ds As) : SA P n (.cond c a b) Q e ds As:=rL hc (fun _=>h) (fun k=>absurd hp k)
theorem aB {p : Prop} [Decidable p] {a b : Code} (hc : ev e c = .bool (decide p)) (hp : ¬p) (h : SA P n b Q e ds As) : SA P n (.cond c a b) Q e ds As:=rL hc (fun k=>absurd k hp) (fun _=>h)
theorem aD {p : Bool} {a b : Code} (hc : ev e c = .bool p) (hp : p = true) (h : SA P n a Q e ds As) : SA P n (.cond c a b) Q e ds As:=qg hc (fun _=>h) (fun k=>by rw [hp] at k; cases k)
theorem aE {p : Bool} {a b : Code} (hc : ev e c = .bool p) (hp : ¬p = true) (h : SA P n b Q e ds As) : SA P n (.cond c a b) Q e ds As:=qg hc (fun k=>absurd k hp) (fun _=>h)
theorem ns {ops : Array Oper} {o : Oper} {os : List Oper} {j t : Nat} {want b : Bool} (hg : o.guard = some (j,want)) (hj : (ops[j]?).bind (·.dst) = some t) (hd : Nat.blt t n = true) (hv : e t = .bool b) (hb : b = want)
  (h : OA P n o (RA P n ops Q os) Q e ds As) : RA P n ops Q (o::os) e ds As:=wz hg hj hd (by rw [hv,hb]) h
theorem ww {ops : Array Oper} {o : Oper} {os : List Oper} {j t : Nat} {want b : Bool} (hg : o.guard = some (j,want)) (hj : (ops[j]?).bind (·.dst) = some t) (hd : Nat.blt t n = true) (hv : e t = .bool b) (hb : b = !want)
  (ho : cb o.dst n = true) (h : RA P n ops Q os (put e o.dst undef) ds As) : RA P n ops Q (o::os) e ds As:=xI hg hj hd (by rw [hv,hb]) ho h
theorem bS {b : Bool} {v : Value} (hc : ev e c = .bool b) (hb : b = true) (hx : ev e x = v) : V P e ⟨d,.pick c x y,ty,pos,aft,g⟩ v:=by
 have:=tp (P:=P) (d:=d) (ty:=ty) (pos:=pos) (aft:=aft) (g:=g) hc hx (rfl : ev e y = ev e y)
 simpa [hb] using this
theorem bR {b : Bool} {v : Value} (hc : ev e c = .bool b) (hb : b = false) (hy : ev e y = v) : V P e ⟨d,.pick c x y,ty,pos,aft,g⟩ v:=by
 have:=tp (P:=P) (d:=d) (ty:=ty) (pos:=pos) (aft:=aft) (g:=g) hc (rfl : ev e x = ev e x) hy
 simpa [hb] using this
theorem xM {b x q : Bool} (h : q = (b && x)) (hb : b = true) : x = q:=by rw [h,hb]; rfl
theorem xL {b x q : Bool} (h : q = (b && x)) (hb : b = false) : false = q:=by rw [h,hb]; rfl
theorem Bj {b x q : Bool} (h : q = (b || x)) (hb : b = true) : true = q:=by rw [h,hb]; rfl
theorem Bi {b x q : Bool} (h : q = (b || x)) (hb : b = false) : x = q:=by rw [h,hb]; rfl
theorem ai {p : Prop} [Decidable p] (h : p) : decide p = true:=decide_eq_true h
theorem am {p : Prop} [Decidable p] (h : ¬p) : decide p = false:=decide_eq_false h
theorem aM {b : Bool} (h : ¬b = true) : b = false:=by cases b <;> simp_all
theorem cK {ops : Array Oper} (m : Nat) (M : Env → List Deferred → List bC → Prop) {os : List Oper} (h : RA P n ops (thn M Q) (os.take m) e ds As) (k : ∀ e ds As,M e ds As → RA P n ops Q (os.drop m) e ds As) : RA P n ops Q os e ds As:=by
 have:=nE (P:=P) (n:=n) (ops:=ops) (Q:=Q) (os.take m) (os2:=os.drop m) h k
 rwa [List.take_append_drop] at this
theorem oB {b m k : Nat} {cs vs : List Value} {v : Value} {cs' : List Value} (hd : cb d n = true) (hk : As[k]? = some (aK b T' cs)) (hx : ev e x = .pointer (some ((⟨b,0,none⟩ : Addr).add m))) (hy : ev e y = v) (hv : v.cells.toList = vs)
  (h1 : vs.all (·.oneCell') = true) (hz : (P.info? T).map (·.size) = some vs.length) (hl : Nat.ble (m + vs.length) cs.length = true) (hc : eg cs m vs = cs') (h : K (put e d undef) ds (As.set k (aK b T' cs'))) : OA P n ⟨d,.store T x y,ty,pos,aft,g⟩ K Q e ds As :=
 qf cs' hd hk hx hy (by rw [← hv]) (fun u hu=>List.all_eq_true.1 h1 u hu) hz (Nat.le_of_ble_eq_true hl) hc h
theorem fW {α : Type} [Inhabited α] {kd : Kd α} {A : Option Addr} {c k j m sz : Nat} {xs : List α} {i : Int} {vs : List Value} {v : Value} (y' : α) (hd : cb d n = true) (hk : As[k]? = some (Buf kd T' A c xs)) (hx : ev e x = .pointer (some ((el A j).add m))) (hj : j = i.toNat * sz) (hsz : kd.sz = sz) (hy : ev e y = v) (hv : v.cells.toList = vs)
  (h1 : vs.all (·.oneCell') = true) (hz : (P.info? T).map (·.size) = some vs.length) (h0 : 0 ≤ i) (hi : i < (xs.length : Int)) (hm : Nat.ble (m + vs.length) sz = true)
  (he : ∀ I cs,kd.R I cs (rd xs i) → kd.R I (eg cs m vs) y') (h : K (put e d undef) ds (As.set k (Buf kd T' A c (xs.set i.toNat y')))) : OA P n ⟨d,.store T x y,ty,pos,aft,g⟩ K Q e ds As :=
 qR y' hd hk hx hj hsz hy (by rw [← hv]) (fun u hu=>List.all_eq_true.1 h1 u hu) hz h0 hi (Nat.le_of_ble_eq_true hm) (fun I _ cs _=>he I cs) h
theorem gE {α : Type} {kd : Kd α} {parts : List (Nat × Operand)} {len sz : Nat} {cells : List Value} {zv : Value} {xs : List α} (hd : cb d n = true) (hu : P.underlying T = some (.slice E)) (hz : (P.info? E).bind (·.zero) = some zv) (hs : (P.info? E).map (·.size) = some sz)
  (hlim : Nat.ble (len * sz) 16777216 = true) (hlen : Nat.ble len 16777216 = true) (hz1 : zv.cells.size = sz)
  (hf : Instr.fill (fun i=>some (i * sz,sz)) (List.flatten (List.replicate len zv.cells.toList)).toArray (parts.map fun p=>(p.1,ev e p.2)) = some cells.toArray)
  (hl : xs.length = len) (hk : kd.sz = sz) (hr : ∀ I,RL kd I cells xs)
  (h : ∀ b,K (put e d (.slice (some ⟨b,0,none⟩) xs.length len)) ds (As ++ [Buf kd E (some ⟨b,0,none⟩) len xs])) : OA P n ⟨d,.buildSlice T len parts.toArray,ty,pos,aft,g⟩ K Q e ds As:=by
 refine ot hd hu hz hs hlim hlen ?_ hl hk (fun I _ _=>hr I) h
 have j : ((Array.range (len * sz)).map ((if len * sz = 0 then #[] else zv.cells)[· % (if len * sz = 0 then #[] else zv.cells).size]!)) = (List.flatten (List.replicate len zv.cells.toList)).toArray:=by
  have a:=jF zv.cells len
  rw [hz1] at a
  apply Array.ext'
  by_cases c : len * sz = 0
  ·have : (List.flatten (List.replicate len zv.cells.toList)).length = 0:=by
    rw [← a,c]; simp
   rw [List.eq_nil_of_length_eq_zero this,c]
   simp
  ·simp only [if_neg c]
   rw [hz1]
   exact a
 rw [j]
 have l : (Array.map (fun (p : Nat × Operand)=>(p.1,ev e p.2)) parts.toArray).toList = parts.map fun p=>(p.1,ev e p.2):=by simp
 rw [← hf]
 congr 1
theorem uQ {parts : List (Nat × Operand)} {fs : Array Field} {zv : Value} {pl : List (Nat × Nat)} {cells : List Value} (hz : (P.info? T).bind (·.zero) = some zv) (hu : P.underlying T = some (.struct fs))
  (hp : ∀ fs,P.underlying T = some (.struct fs) → ∀ w,(fs.mapM (fun f=>do pure (f.offset,← sizeOf f.type) : Field → Sem (Nat × Nat))).run P w = .ok pl.toArray w)
  (hf : Instr.fill (fun i : Nat=>pl[i]?) zv.cells (parts.map fun p=>(p.1,ev e p.2)) = some cells.toArray) : V P e ⟨d,.build T parts.toArray,ty,pos,aft,g⟩ (.agg cells.toArray):=fun w=>by
 cases hq : P.info? T with
 | none=>simp [hq] at hz
 | some q =>
  have hz' : q.zero = some zv:=by simpa [hq] using hz
  have a : (Array.map (fun (p : Nat × Operand)=>(p.1,ev e p.2)) parts.toArray).toList = parts.map fun p=>(p.1,ev e p.2):=by simp
  have hp':=hp fs hu w
  have b : (fun i : Nat=>(pl.toArray)[i]?) = fun i : Nat=>pl[i]?:=by funext i; simp
  have hrun : (Instr.build T (Array.map (fun (p : Nat × Operand)=>(p.1,ev e p.2)) parts.toArray)).run P w = .ok (.agg cells.toArray) w:=by
   simp only [Instr.build,Sem.run_bind,zeroValue,typeInfo,run_program,Result.andThen_ok,hq,Sem.run_pure,hz',run_underlying hu,hp',a,b,hf]
  show ((Sem.bind (Instr.build T (Array.map (fun (p : Nat × Operand)=>(p.1,ev e p.2)) parts.toArray)) fun v=>Sem.pure (Next.value v)) : Sem Next).run P w = _
  rw [Sem.run_bind',hrun]
  rfl
theorem zN {f : FuncId} {fn : Func} {c : Code} {args : List Operand} {ts : Array TypeId} {vs : List Value} (hf : P.funcs[f]? = some fn) (hn : (fn.name == "runtime.NumGoroutine") = false) (hb : fn.body = some c) (ha : args.map (ev e) = vs) (w : World) :
  (execOp (ev e) ⟨d,.call { callee:=.value (.func f),args:=args.toArray,argTypes:=ts },ty,pos,aft,g⟩).run P w = .ok (.enter f vs.toArray) w :=
 wC hf hn hb (by simp [ha]) w
theorem jg {t : Nat} {f : FuncId} {fn : Func} {c : Code} {args : List Operand} {ts : Array TypeId} {vs cap : List Value} (ht : e t = .func (.func f) #[] cap.toArray) (hf : P.funcs[f]? = some fn) (hn : (fn.name == "runtime.NumGoroutine") = false) (hb : fn.body = some c) (ha : args.map (ev e) = vs) (w : World) :
  (execOp (ev e) ⟨d,.call { callee:=.value (.tmp t),args:=args.toArray,argTypes:=ts },ty,pos,aft,g⟩).run P w = .ok (.enter f (vs ++ cap).toArray) w:=by
 have:=uS (P:=P) (d:=d) (ty:=ty) (pos:=pos) (aft:=aft) (g:=g) (ts:=ts) ht hf hn hb (args:=args.toArray) (vs:=vs.toArray) (by simp [ha]) w
 simpa using this
def ib (xs : List Int) : ByteArray:=strOfNums xs
theorem bI {c : Code} (M : Env → List Deferred → List bC → Prop) (h : SA P n c (thn M Q) e ds As) (k : ∀ e ds As,M e ds As → Q .normal e ds As) : SA P n c Q e ds As :=
 h.mono fun ex e ds As q=>by
  cases ex with
  | normal=>exact k e ds As q
  | _=>exact q
theorem St.conv {l' : List (Nat × Value)} {B' : List bC} (s : St l B e ds As) (h : ∀ junk,St l' B' (rE junk l) [] B) : St l' B' e ds As:=by
 obtain ⟨a,rfl,b⟩:=s
 have hh:=h e
 rw [← lO a] at hh
 exact ⟨hh.env,rfl,b.trans hh.gh⟩
def wD (l : List Value) : Env:=fun t=>l.getD t undef
theorem aj {f : FuncId} {fn : Func} {c : Code} {args : List Value} {pre : List bC} {R : Value → List bC → Prop} (hf : P.funcs[f]? = some fn) (hb : fn.body = some c) (ha : Nat.ble args.length fn.ntmps = true)
  (h : SA P fn.ntmps c (je P fn (sW R)) (wD args) [] pre) : dk P f args.toArray pre R:=by
 refine qT hf hb (by simpa using Nat.le_of_ble_eq_true ha) ?_
 have : uU args.toArray = wD args:=by funext t; simp [uU,wD,List.getD]
 rw [this]; exact h
theorem qU {α : Type} {kd : Kd α} {A : Option Addr} {c k sz : Nat} {xs : List α} {lo hi mx : Option Operand} {lv hv mv : Option Value} {l h m : Int} (hk : As[k]? = some (Ro kd A c xs)) (hu : P.underlying T = some (.slice E)) (hz : (P.info? E).map (·.size) = some sz) (hx : ev e x = .slice A xs.length c)
  (hlo : lo.map (ev e) = lv) (hhi : hi.map (ev e) = hv) (hmx : mx.map (ev e) = mv)
  (hl : lv = none∧l = 0 ∨ ∃ k,lv = some (.int k l)) (hh : hv = none∧mv = none∧h = (xs.length : Int) ∨ ∃ k,hv = some (.int k h)) (hm : mv = none∧m = (c : Int) ∨ (∃ k,mv = some (.int k m))∧(∃ k,hv = some (.int k h))∧h ≤ m∧m ≤ (xs.length : Int))
  (h0 : 0 ≤ l) (h1 : l ≤ h) (h2 : h ≤ (xs.length : Int)) : VR P As e ⟨d,.slice T x lo hi mx,ty,pos,aft,g⟩ (.slice (dj A l m sz) (sub xs l h).length (m.toNat - l.toNat)):=by
 intro I hp w s f
 obtain ⟨_,_,⟨hle,_⟩,_⟩:=dm hk s
 rw [pw h0 h1 h2]
 refine nu (P:=P) (e:=e) (d:=d) (ty:=ty) (pos:=pos) (aft:=aft) (g:=g) hu hz hx hlo hhi hmx ⟨hl,hh,?_⟩ h0 h1 ?_ ?_ w
 ·rcases hm with ⟨a,b⟩ | ⟨a,b,_,_⟩
  ·exact .inl ⟨a,b⟩
  ·exact .inr ⟨a,b⟩
 ·rcases hm with ⟨_,b⟩ | ⟨_,_,b,_⟩ <;> omega
 ·rcases hm with ⟨_,b⟩ | ⟨_,_,_,b⟩ <;> omega
theorem Gh.subRoC {α : Type} {kd : Kd α} {A : Option Addr} {c k sz : Nat} {xs : List α} {l h m : Int} (hk : As[k]? = some (Ro kd A c xs)) (hsz : kd.sz = sz) (h0 : 0 ≤ l) (h1 : l ≤ h) (h2 : h ≤ (xs.length : Int)) (hm : m = (c : Int) ∨ h ≤ m) :
  Gh As (As ++ [Ro kd (dj A l m sz) (m.toNat - l.toNat) (sub xs l h)]):=by
 intro I hp w s f
 obtain ⟨_,_,⟨hle,_⟩,_⟩:=dm hk s
 exact Gh.subRo hk hsz h0 h1 h2 (by rcases hm with b | b <;> omega) I hp w s f
theorem dO {α : Type} {kd : Kd α} (enc : α → List Value) (hR : ∀ I x,kd.R I (enc x) x) : ∀ {xs : List α} {cells : List Value},xs.flatMap enc = cells → ∀ I,RL kd I cells xs
 | [],_,h,I=>by subst h; rfl
 | x::xs,_,h,I=>by subst h; exact ⟨enc x,_,by simp,hR I x,dO enc hR rfl I⟩
theorem gl {α : Type} {kd : Kd α} {A : Option Addr} {c k bytes sz : Nat} {xs ys : List α} {v zv : Value} (zs : List α) (hzs : zs = xs ++ ys) (hd : cb d n = true) (hu : P.underlying T = some (.slice E)) (hi : (P.info? E).map (fun i=>(i.zero,i.size,i.bytes)) = some (some zv,sz,bytes)) (hsz : kd.sz = sz) (hz1 : zv.cells.size = sz)
  (hk : As[k]? = some (Buf kd E A c xs)) (hx : ev e x = .slice A xs.length c) (hy : ev e y = v) (hs : ng P kd tx v ys As) (h63 : xs.length + ys.length ≤ 9223372036854775807) (hb : (xs.length + ys.length) * bytes ≤ 140737488355328)
  (h : ∀ A' c',K (put e d (.slice A' zs.length c')) ds (As.set k (Buf kd E A' c' zs))) : OA P n ⟨d,.call { callee:=.builtin .append,args:=#[x,y],argTypes:=#[T,tx] },ty,pos,aft,g⟩ K Q e ds As:=by
 subst hzs
 exact sv hd hu hi hsz hz1 hk hx hy hs h63 hb h
theorem wA {α : Type} {kd : Kd α} {A : Option Addr} {c k sz : Nat} {xs zs : List α} {lo hi mx : Option Operand} {lv hv mv : Option Value} {l h m : Int} (hzs : zs = sub xs l h) (hk : As[k]? = some (Ro kd A c xs)) (hu : P.underlying T = some (.slice E)) (hz : (P.info? E).map (·.size) = some sz) (hx : ev e x = .slice A xs.length c)
  (hlo : lo.map (ev e) = lv) (hhi : hi.map (ev e) = hv) (hmx : mx.map (ev e) = mv)
  (hl : lv = none∧l = 0 ∨ ∃ k,lv = some (.int k l)) (hh : hv = none∧mv = none∧h = (xs.length : Int) ∨ ∃ k,hv = some (.int k h)) (hm : mv = none∧m = (c : Int) ∨ (∃ k,mv = some (.int k m))∧(∃ k,hv = some (.int k h))∧h ≤ m∧m ≤ (xs.length : Int))
  (h0 : 0 ≤ l) (h1 : l ≤ h) (h2 : h ≤ (xs.length : Int)) : VR P As e ⟨d,.slice T x lo hi mx,ty,pos,aft,g⟩ (.slice (dj A l m sz) zs.length (m.toNat - l.toNat)):=by
 subst hzs
 exact qU hk hu hz hx hlo hhi hmx hl hh hm h0 h1 h2
theorem Gh.subN {α : Type} {kd : Kd α} {A : Option Addr} {c k sz : Nat} {xs zs : List α} {l h m : Int} (hzs : zs = sub xs l h) (hk : As[k]? = some (Ro kd A c xs)) (hsz : kd.sz = sz) (h0 : 0 ≤ l) (h1 : l ≤ h) (h2 : h ≤ (xs.length : Int)) (hm : m = (c : Int) ∨ h ≤ m) :
  Gh As (As ++ [Ro kd (dj A l m sz) (m.toNat - l.toNat) zs]):=by
 subst hzs
 exact Gh.subRoC hk hsz h0 h1 h2 hm
theorem lr {α : Type} {c : Prop} [Decidable c] {x y : Option α} {r : α} (hc : c) (h : (if c then x else y) = some r) : x = some r:=by rwa [if_pos hc] at h
theorem lq {α : Type} {c : Prop} [Decidable c] {x y : Option α} {r : α} (hc : ¬c) (h : (if c then x else y) = some r) : y = some r:=by rwa [if_neg hc] at h
end
end Go.Proofs.YtckilbegmbaeeaaGreat.SL
namespace Go.Proofs.YtckilbegmbaeeaaGreat.SL
open Go Go.RowKit
set_option linter.unusedVariables false
set_option linter.unusedSimpArgs false
theorem zg.mono {α : Type} {d : Kd α} {A : Option Addr} {c : Nat} {xs : List α} {I I' : Hp} (hI : Le I I') (h : zg d A c xs I) : zg d A c xs I' :=
 (Ro d A c xs).mono (h:=fun _=>none) hI h
def fu (I : Hp) (Bs : List bC) : Prop:=∀ B ∈ Bs,B.pers = true∧B.P I (fun _=>none)
theorem fu.mono {I I' : Hp} {Bs : List bC} (hI : Le I I') (h : fu I Bs) : fu I' Bs:=fun B hB=>⟨(h B hB).1,B.mono hI (h B hB).2⟩
theorem fu.nil {I : Hp} : fu I []:=fun _ h=>by cases h
theorem fu.cons {I : Hp} {B : bC} {Bs : List bC} (hp : B.pers = true) (h : B.P I (fun _=>none)) (k : fu I Bs) : fu I (B::Bs):=fun C hC=>by
 rcases List.mem_cons.1 hC with e | e
 ·subst e; exact ⟨hp,h⟩
 ·exact k C e
theorem fu.sep {I : Hp} : ∀ {Bs : List bC} {h : Hp},fu I Bs → cq Bs I h
 | [],_,_=>trivial
 | B::Bs,h,k=>⟨fun _=>none,h,gF.none_l h,(k B (by simp)).2,fu.sep (Bs:=Bs) fun C hC=>k C (by simp [hC])⟩
theorem fu.add {I h : Hp} {As Bs : List bC} (s : cq As I h) (k : fu I Bs) : cq (As ++ Bs) I h :=
 dh (ha:=h) (hb:=fun _=>none) ⟨Le.refl h,(fun _ _ e=>by cases e),fun _ _ _=>rfl⟩ s k.sep
def Has (As Bs : List bC) : Prop:=∀ I h,cq As I h → fu I Bs
theorem Has.nil {As : List bC} : Has As []:=fun _ _ _=>fu.nil
theorem Has.cons {As Bs : List bC} {B : bC} (k : Nat) (hk : As[k]? = some B) (hp : B.pers = true) (h : Has As Bs) : Has As (B::Bs):=fun I hh s=>by
 obtain ⟨a,_,p,_⟩:=dm hk s
 exact fu.cons hp (B.free hp p) (h I hh s)
def Kd.ofD {α : Type} (sz : Nat) (D : α → List Value → List bC → Prop) (hl : ∀ {x cs Bs},D x cs Bs → cs.length = sz) (h1 : ∀ {x cs Bs},D x cs Bs → ∀ v ∈ cs,v.oneCell' = true) : Kd α :=
 ⟨sz,fun I cs x=>∃ Bs,D x cs Bs∧fu I Bs,fun ⟨_,h,_⟩=>hl h,fun ⟨_,h,_⟩=>h1 h,fun hI ⟨Bs,h,k⟩=>⟨Bs,h,k.mono hI⟩,false⟩
def DW {α : Type} (kd : Kd α) (x : List α) (cs : List Value) (Bs : List bC) : Prop:=∃ (A : Option Addr) (c : Nat),cs = [.slice A x.length c]∧Bs = [Ro kd A c x]
def Kd.sl {α : Type} (kd : Kd α) : Kd (List α) :=
 Kd.ofD 1 (DW kd) (fun ⟨_,_,e,_⟩=>by rw [e]; rfl) (fun ⟨_,_,e,_⟩ v hv=>by rw [e] at hv; simp at hv; subst hv; rfl)
section
variable {P : Program} {n : Nat} {Q : dI} {e : Env} {ds : List Deferred} {As As' : List bC} {d : Option Nat} {ty T T' E tx : TypeId} {pos : String} {aft : Array Edge} {g : Option (Nat × Bool)} {x y z : Operand} {K : Env → List Deferred → List bC → Prop}
theorem wx {ops : Array Oper} {o : Oper} {os : List Oper} {j t : Nat} {want : Bool} (hg : o.guard = some (j,want)) (hj : (ops[j]?).bind (·.dst) = some t) (hd : Nat.blt t n = true) (hv : e t = undef)
  (ho : cb o.dst n = true) (h : RA P n ops Q os (put e o.dst undef) ds As) : RA P n ops Q (o::os) e ds As :=
 fun I h' a w s r f=>.inr ⟨by simp [Region.wanted,hg,gY r hj (by simpa using hd),hv,undef],ho,h⟩
theorem oW {fs : Array Field} {f : Field} {i m o : Nat} {B : Addr} (hu : P.underlying T = some (.struct fs)) (hf : fs[i]? = some f) (hz : ((P.info? f.type).map fun i=>decide (i.size = 0)) = some false) (hx : ev e x = .pointer (some (B.add m))) (ho : m + f.offset = o) :
  V P e ⟨d,.fieldAddr T x i,ty,pos,aft,g⟩ (.pointer (some (B.add o))):=by
 subst ho; exact ou hu hf hz hx
def bB {α : Type} (xs : List α) (off : Nat) (ys : List α) : List α:=xs.take off ++ ys ++ xs.drop (off + ys.length)
theorem eR {α : Type} {xs ys : List α} {off : Nat} (h : off + ys.length ≤ xs.length) : (bB xs off ys).length = xs.length:=by
 unfold bB
 rw [List.length_append,List.length_append,List.length_take,List.length_drop]; omega
def pD {α : Type} (P : Program) (kd : Kd α) (v : Value) (ys : List α) (As : List bC) : Prop :=
 ∀ I h w,cq As I h → lZ I h w → (∀ w',(Builtin.lenOf v).run P w' = .ok ys.length w')∧∀ k,k ≤ ys.length → ∃ cs,RL kd I cs (ys.take k)∧(Builtin.firstCells kd.sz k v).run P w = .ok cs.toArray w
theorem pD.slice {α : Type} {kd : Kd α} {A : Option Addr} {c : Nat} {ys : List α} (hs : Src kd A ys As) : pD P kd (.slice A ys.length c) ys As:=by
 intro I h w s f
 refine ⟨fun _=>rfl,fun k hk=>?_⟩
 obtain ⟨cs,hr,hc⟩:=hs I h w s f
 have d : RL kd I ((cs.drop (0 * kd.sz)).take (k * kd.sz)) ((ys.drop 0).take k):=RL.sub (kd:=kd) 0 k hr
 simp only [Nat.zero_mul,List.drop_zero] at d
 refine ⟨_,d,?_⟩
 cases A with
 | none =>
  rcases hc with rfl | ⟨b,off,e,_⟩
  ·simp only [RL] at hr; subst hr
   simpa using run_firstCells_none w kd.sz k 0 c
  ·cases e
 | some a =>
  refine run_firstCells_some w kd.sz k a ys.length c _ ?_ fun j u hu=>?_
  ·rw [d.len,List.length_take,Nat.min_eq_left hk]
  ·rcases hc with rfl | ⟨b,off,e,hc⟩
   ·simp only [RL] at hr; subst hr; simp at hu
   ·obtain rfl:=Option.some.inj e
    rw [Addr.add_lit]
    rw [List.getElem?_take] at hu
    split at hu
    ·exact hc j u hu
    ·cases hu
theorem mZ {w w' : World} {q : TypeInfo} {v : Value} {yl dLen dCap : Nat} {Ad : Option Addr} {cs : List Value} (hu : P.underlying T = some (.slice E)) (hq : P.info? E = some q) (hlen : ∀ w',(Builtin.lenOf v).run P w' = .ok yl w')
  (hc : (Builtin.firstCells q.size (Nat.min yl dLen) v).run P w = .ok cs.toArray w) (hst : ∀ a,Ad = some a → (storeCells a cs).run P w = .ok () w') (hno : Ad = none → w' = w) :
  (Builtin.copy_ #[T,tx] ty #[.slice Ad dLen dCap,v]).run P w = .ok (goInt (Nat.min yl dLen)) w':=by
 cases Ad with
 | none=>obtain rfl:=hno rfl; simp [Builtin.copy_,run_underlying hu,hlen,sizeOf,typeInfo,hq,hc]
 | some a=>simp [Builtin.copy_,run_underlying hu,hlen,sizeOf,typeInfo,hq,hc,hst a rfl]
theorem oc {As : List bC} {k : Nat} {A : bC} (hk : As[k]? = some A) : As.set k A = As:=by
 apply List.ext_getElem?
 intro j
 rw [List.getElem?_set]
 split
 ·rename_i hj; subst hj
  have : k < As.length:=by
   rcases Nat.lt_or_ge k As.length with z | z
   ·exact z
   ·simp [List.getElem?_eq_none z] at hk
  simp [this,← hk]
 ·rfl
theorem og (a : Addr) (w : World) : (storeCells a []).run P w = .ok () w:=by
 unfold storeCells; rfl
theorem uN {α : Type} {kd : Kd α} {A Ad : Option Addr} {c k sz off dLen dCap : Nat} {xs ys : List α} {v : Value} (zs : List α) (hzs : zs = bB xs off (ys.take (min ys.length dLen))) (hd : cb d n = true) (hu : P.underlying T = some (.slice E)) (hz : (P.info? E).map (·.size) = some sz) (hsz : kd.sz = sz)
  (hk : As[k]? = some (Buf kd T' A c xs)) (hx : ev e x = .slice Ad dLen dCap) (hA : 0 < dLen → A ≠ none → Ad = some (el A (off * sz))) (hfit : off + dLen ≤ xs.length) (hy : ev e y = v) (hs : pD P kd v ys As)
  (h : K (put e d (goInt ((Nat.min ys.length dLen : Nat) : Int))) ds (As.set k (Buf kd T' A c zs))) : OA P n ⟨d,.call { callee:=.builtin .copy,args:=#[x,y],argTypes:=#[T,tx] },ty,pos,aft,g⟩ K Q e ds As:=by
 subst hzs
 intro I h' a w s r f
 obtain ⟨hlen,hcp⟩:=hs I h' w s f.sees
 cases hq : P.info? E with
 | none=>simp [hq] at hz
 | some q =>
  have hq' : q.size = sz:=by simpa [hq] using hz
  have hexec : ∀ {v' : Value} {w' : World},(Builtin.copy_ #[T,tx] ty #[.slice Ad dLen dCap,v]).run P w = .ok v' w' → (execOp (ev e) ⟨d,.call { callee:=.builtin .copy,args:=#[x,y],argTypes:=#[T,tx] },ty,pos,aft,g⟩).run P w = .ok (.value v') w':=fun {v' w'} hh=>by
   simp [execOp,resolve,invoke,builtin,hx,hy,hh]
  obtain ⟨cs,hr,hfc⟩:=hcp (min ys.length dLen) (Nat.min_le_left _ _)
  have hcl:=hr.len
  rw [List.length_take,Nat.min_eq_left (Nat.min_le_left _ _)] at hcl
  have hfc' : (Builtin.firstCells q.size (Nat.min ys.length dLen) v).run P w = .ok cs.toArray w:=by rw [hq',← hsz]; exact hfc
  by_cases b : min ys.length dLen = 0
  ·have hrun:=mZ (P:=P) (T:=T) (tx:=tx) (ty:=ty) (dCap:=dCap) (Ad:=Ad) (w':=w) hu hq hlen hfc' (fun a _=>by
    have : cs = []:=List.eq_nil_of_length_eq_zero (by rw [hcl,b,Nat.zero_mul])
    subst this; exact og a w) (fun _=>rfl)
   have p : bB xs off (ys.take (min ys.length dLen)) = xs:=by rw [b]; simp [bB]
   rw [p,oc hk] at h
   unfold Oper.wp
   rw [r.eval,hexec hrun]
   exact ⟨_,ds,As,I,h',r.put hd _,s,dl.refl f,h⟩
  ·obtain ⟨D,l,⟨xc,hxr,hc⟩,ff⟩:=dm hk s
   rcases hc with ⟨_,_,hc⟩ | ⟨gb,cur,hAA,⟨fr,hg,hfz⟩,hlc,hcm,hcs,ht⟩
   ·subst hc; simp at hfit; omega
   ·have hAd:=hA (by omega) (by rw [hAA]; simp)
    subst hAA
    have hh : h' gb = some (.cells cur T' fr):=l gb _ hg
    have ea : Ad = some ⟨gb,off * sz,none⟩:=by rw [hAd]; simp [el,Addr.add_lit]
    have B : min ys.length dLen ≤ dLen:=Nat.min_le_right _ _
    have hm : (off + min ys.length dLen) * sz ≤ xs.length * sz:=Nat.mul_le_mul_right _ (by omega)
    have j : xs.length * sz ≤ c * sz:=Nat.mul_le_mul_right _ hlc
    rw [hsz] at hcl hcs ht
    rw [Nat.add_mul] at hm
    have hcurl : cur.toList.length = c * sz:=(Array.length_toList (xs:=cur)).trans hcs
    have hst:=eP (P:=P) gb (off * sz) T' fr cs 0 cur w (f.own gb _ hh) hfz.1 (by rw [hcl,hcs]; simpa using Nat.le_trans hm j) hr.one
    simp only [Nat.add_zero] at hst
    have hrun:=mZ (P:=P) (T:=T) (tx:=tx) (ty:=ty) (dCap:=dCap) (Ad:=Ad) (w':=w.setRow gb (eg cur.toList (off * sz) cs).toArray) hu hq hlen hfc' (fun a ha=>by
     rw [ea] at ha; obtain rfl:=Option.some.inj ha
     exact hst) (fun ha=>by rw [ea] at ha; cases ha)
    unfold Oper.wp
    rw [r.eval,hexec hrun]
    refine ⟨_,ds,_,I,_,r.put hd _,jp ff hg ?_,dl.setRow f hh,h⟩
    have hyl : (ys.take (min ys.length dLen)).length = min ys.length dLen:=by rw [List.length_take]; omega
    have hol : (bB xs off (ys.take (min ys.length dLen))).length = xs.length:=eR (by rw [hyl]; omega)
    have hxl:=hxr.len
    rw [hsz] at hxl
    have m:=RL.sub (kd:=kd) 0 off hxr
    have o:=RL.sub (kd:=kd) (off + min ys.length dLen) (xs.length - (off + min ys.length dLen)) hxr
    simp only [Nat.zero_mul,List.drop_zero,hsz] at m o
    have hall:=(m.app hr).app o
    have ex : List.take (xs.length - (off + min ys.length dLen)) (xs.drop (off + min ys.length dLen)) = xs.drop (off + min ys.length dLen):=List.take_of_length_le (by rw [List.length_drop]; exact Nat.le_refl _)
    have ec : List.take ((xs.length - (off + min ys.length dLen)) * sz) (xc.drop ((off + min ys.length dLen) * sz)) = xc.drop ((off + min ys.length dLen) * sz):=List.take_of_length_le (by rw [List.length_drop,hxl,Nat.sub_mul]; exact Nat.le_refl _)
    rw [ex,ec] at hall
    have eo : bB xs off (ys.take (min ys.length dLen)) = xs.take off ++ ys.take (min ys.length dLen) ++ xs.drop (off + min ys.length dLen):=by unfold bB; rw [hyl]
    rw [← eo] at hall
    refine ⟨_,hall,.inr ⟨gb,_,rfl,⟨fr,if_pos rfl,by rw [List.size_toArray,gD (by rw [hcl,hcurl]; omega),Array.length_toList]; exact hfz⟩,by rw [hol]; exact hlc,hcm,?_,?_⟩⟩
    ·rw [List.size_toArray,gD (by rw [hcl,hcurl]; omega),hsz]; exact hcurl
    ·rw [hol,hsz]
     show (eg cur.toList (off * sz) cs).take (xs.length * sz) = _
     have hN : xs.length * sz ≤ cur.toList.length:=by omega
     have hB : eg cur.toList (off * sz) cs = cur.toList.take (off * sz) ++ cs ++ cur.toList.drop (off * sz + cs.length):=rfl
     rw [hB,List.take_append,List.take_of_length_le (by rw [List.length_append,List.length_take,hcl]; omega)]
     have u : xc.take (off * sz) = cur.toList.take (off * sz):=by
      rw [← ht,List.take_take]; congr 1; omega
     have z : xc.drop ((off + min ys.length dLen) * sz) = (cur.toList.drop (off * sz + cs.length)).take (xs.length * sz - (off * sz + cs.length)):=by
      rw [← ht,List.drop_take,hcl,Nat.add_mul]
     rw [u,z]
     congr 2
     rw [List.length_append,List.length_take,hcl]; omega
theorem rb {α : Type} {ys : List α} {m : Nat} : ys.take (min ys.length m) = ys.take m:=by
 rcases Nat.le_total ys.length m with h | h
 ·rw [Nat.min_eq_left h,List.take_of_length_le (Nat.le_refl _),List.take_of_length_le h]
 ·rw [Nat.min_eq_right h]
theorem vg (a b : Nat) : ((Nat.min a b : Nat) : Int) = da (a : Int) (b : Int):=by
 unfold da
 show ((min a b : Nat) : Int) = _
 split <;> omega
theorem vD {α : Type} {kd : Kd α} {k k' : IntKind} {l : Int} {bytes sz : Nat} {zv : Value} (z0 : α) (xs : List α) (hxs : xs = List.replicate l.toNat z0) (hd : cb d n = true) (hu : P.underlying T = some (.slice E)) (hi : (P.info? E).map (fun i=>(i.zero,i.size,i.bytes)) = some (some zv,sz,bytes))
  (hx : ev e x = .int k l) (hy : ev e y = .int k' l) (h0 : 0 ≤ l) (hb : (bytes : Int) * l ≤ 281474976710656) (h63 : l ≤ 9223372036854775807) (hsz : kd.sz = sz) (hz1 : zv.cells.size = sz) (hz : ∀ I,kd.R I zv.cells.toList z0)
  (h : ∀ b,K (put e d (.slice (some ⟨b,0,none⟩) xs.length l.toNat)) ds (As ++ [Buf kd E (some ⟨b,0,none⟩) l.toNat xs])) : OA P n ⟨d,.makeSlice T x y,ty,pos,aft,g⟩ K Q e ds As:=by
 subst hxs
 exact uO z0 hd hu hi hx hy h0 rfl hb h63 hsz hz1 hz h
def sQ (tmps : Array Value) : ResultVar → Sem Value
 | .tmp t=>pure (tmps.getD t undef)
 | .cell a t=>do loadVar t (← asAddr (tmps.getD a undef))
def RV (P : Program) (As : List bC) (e : Env) (r : ResultVar) (v : Value) : Prop :=
 ∀ I h w (tmps : Array Value),(∀ t,tmps.getD t undef = e t) → cq As I h → ig I h w → (sQ tmps r).run P w = .ok v w
theorem RV.tmp {t : Nat} {v : Value} (h : e t = v) : RV P As e (.tmp t) v:=fun I hh w tmps ht _ _=>by
 simp only [sQ,Sem.run_pure,ht t,h]
theorem RV.cell {a b k : Nat} {cs : List Value} {td : TypeDesc} (h : e a = .pointer (some ⟨b,0,none⟩)) (hk : As[k]? = some (aK b T' cs)) (hu : P.underlying T = some td) (ha : lh td = true) (hz : (P.info? T).map (·.size) = some cs.length) : RV P As e (.cell a T) (.agg cs.toArray):=fun I hh w tmps ht s f=>by
 obtain ⟨c,l,p,_⟩:=dm hk s
 have hb:=f.own b _ (l b _ p)
 have hl:=nR (P:=P) (b:=b) (o:=0) hu ha hz (w:=w) (fun q v hq=>by rw [Nat.zero_add,jM hb]; simpa using hq)
 simp only [Instr.loadAt,Instr.sureAddr,Sem.run_bind,Sem.run_pure,Result.andThen_ok] at hl
 simp only [sQ,Sem.run_bind,ht a,h,asAddr,Sem.run_pure,Result.andThen_ok]
 exact hl
def vF (P : Program) (As : List bC) (e : Env) : List ResultVar → List Value → Prop
 | [],[]=>True
 | r::rs,v::vs=>RV P As e r v∧vF P As e rs vs
 | _,_=>False
theorem vF.run {I h : Hp} {w : World} {tmps : Array Value} (ht : ∀ t,tmps.getD t undef = e t) (s : cq As I h) (f : ig I h w) : ∀ {rs : List ResultVar} {vs : List Value},vF P As e rs vs → (rs.mapM (sQ tmps)).run P w = .ok vs w
 | [],[],_=>by simp [List.mapM_nil]
 | r::rs,v::vs,⟨a,h2⟩=>by
  rw [List.mapM_cons]
  simp only [Sem.run_bind,a I h w tmps ht s f,Result.andThen_ok,vF.run ht s f h2,Sem.run_pure]
 | [],_::_,h=>by cases h
 | _::_,[],h=>by cases h
theorem gi {fn : Func} {R : Value → List bC → Prop} {rs : List ResultVar} {vs : List Value} {v : Value} (B : List bC) (h : fn.results = rs.toArray) (hv : vF P As e rs vs) (he : (if h : vs.toArray.size = 1 then vs.toArray[0] else .tuple vs.toArray) = v) (hg : Gh As B) (hR : R v B) : je P fn (sW R) .ret e [] As:=by
 refine ⟨rfl,v,fun I h' w tmps ht s f=>?_,v,B,rfl,hg,hR⟩
 have hr:=vF.run ht s f hv
 have hm : (fn.results.mapM (sQ tmps)).run P w = .ok vs.toArray w:=by
  rw [h,List.mapM_toArray]
  simp [hr]
 have a : results fn tmps = (do let vs ← fn.results.mapM (sQ tmps); pure (if h : vs.size = 1 then vs[0] else .tuple vs)):=by
  unfold results
  congr 2
 rw [a]
 simp only [Sem.run_bind,hm,Result.andThen_ok,Sem.run_pure,he]
end
end Go.Proofs.YtckilbegmbaeeaaGreat.SL
namespace Go.Proofs.YtckilbegmbaeeaaGreat.SL
open Go Go.RowKit
set_option linter.unusedVariables false
set_option linter.unusedSimpArgs false
def Pk (Bs : List bC) : bC:=⟨fun I h=>cq Bs I h,fun hI h=>jn hI h,false,fun h=>by cases h⟩
def FC (P : Program) (fv : Value) (args : List Value) (pre : List bC) (R : Value → List bC → Prop) : Prop :=
 ∃ (f : FuncId) (fn : Func) (c : Code) (cap : List Value), fv = .func (.func f) #[] cap.toArray ∧ P.funcs[f]? = some fn ∧ (fn.name == "runtime.NumGoroutine") = false ∧ fn.body = some c ∧ dk P f (args ++ cap).toArray pre R
theorem FC.mono {P : Program} {fv : Value} {args : List Value} {pre : List bC} {R R' : Value → List bC → Prop} (h : FC P fv args pre R) (hr : ∀ v B,R v B → R' v B) : FC P fv args pre R':=by
 obtain ⟨f,fn,c,cap,a,h2,b,d,j⟩:=h
 exact ⟨f,fn,c,cap,a,h2,b,d,j.mono hr⟩
section
variable {P : Program} {n : Nat} {Q : dI} {e : Env} {ds : List Deferred} {As As' : List bC} {d : Option Nat} {ty T T' E tx : TypeId} {pos : String} {aft : Array Edge} {g : Option (Nat × Bool)} {x y z : Operand} {K : Env → List Deferred → List bC → Prop}
theorem FC.of {f : FuncId} {fn : Func} {c : Code} {args cap : List Value} {pre0 Bs : List bC} {R0 : Value → List bC → Prop} (hf : P.funcs[f]? = some fn) (hn : (fn.name == "runtime.NumGoroutine") = false) (hb : fn.body = some c)
  (h : dk P f (args ++ cap).toArray (pre0 ++ Bs) (fun v B=>∃ B0,R0 v B0∧B = B0 ++ Bs)) : FC P (.func (.func f) #[] cap.toArray) args (pre0 ++ [Pk Bs]) (fun v B=>∃ B0,R0 v B0∧B = B0 ++ [Pk Bs]):=by
 refine ⟨f,fn,c,cap,rfl,hf,hn,hb,?_⟩
 have hpre : Gh (pre0 ++ [Pk Bs]) (pre0 ++ Bs):=Gh.of fun I h s=>by
  obtain ⟨b,h2,sp,sa,sb⟩:=gq s
  obtain ⟨d,j,a,sc,_⟩:=sb
  exact dh (sp.of_less (Le.refl _)) sa (nb a.1 sc)
 have hpost : ∀ B0 : List bC,Gh (B0 ++ Bs) (B0 ++ [Pk Bs]):=fun B0=>Gh.of fun I h s=>by
  obtain ⟨b,h2,sp,sa,sb⟩:=gq s
  exact dh sp sa ⟨h2,fun _=>none,⟨Le.refl _,(fun _ _ e=>by cases e),fun _ _ _=>rfl⟩,sb,trivial⟩
 refine SC.mono (dk.pre h hpre) fun x As ⟨v,B,hx,hg,B0,hr,hB⟩=>?_
 subst hB
 exact ⟨v,_,hx,hg.trans (hpost B0),B0,hr,rfl⟩
theorem dJ {fn : Fn} {captured : List Operand} {us : List Value} (h : captured.map (ev e) = us) : V P e ⟨d,.makeFunc fn #[] captured.toArray,ty,pos,aft,g⟩ (.func fn #[] us.toArray) :=
 qV (by simp) (by simp [h])
theorem te {t : Nat} {fv : Value} {args : List Operand} {ts : Array TypeId} {vs : List Value} {pre : List bC} {R : Value → List bC → Prop} (ks rs : List Nat) (hd : cb d n = true) (ht : e t = fv) (ha : args.map (ev e) = vs)
  (hs : eM (ks ++ rs) As = true) (hc : FC P fv vs pre R) (hp : sel ks As = pre)
  (h : ∀ v B,R v B → K (put e d v) ds (B ++ sel rs As)) : OA P n ⟨d,.call { callee:=.value (.tmp t),args:=args.toArray,argTypes:=ts },ty,pos,aft,g⟩ K Q e ds As:=by
 obtain ⟨f,fn,c,cap,a,h2,b,j,l⟩:=hc
 subst a
 refine nC (args:=(vs ++ cap).toArray) ks rs hd ?_ hs l hp h
 intro w
 exact jg ht h2 b j ha w
theorem dk.unpk {f : FuncId} {args : Array Value} {pre0 Bs : List bC} {R0 : Value → List bC → Prop} (h : dk P f args (pre0 ++ [Pk Bs]) (fun v B=>∃ B0,R0 v B0∧B = B0 ++ [Pk Bs])) : dk P f args (pre0 ++ Bs) (fun v B=>∃ B0,R0 v B0∧B = B0 ++ Bs):=by
 have hpre : Gh (pre0 ++ Bs) (pre0 ++ [Pk Bs]):=Gh.of fun I h s=>by
  obtain ⟨b,h2,sp,sa,sb⟩:=gq s
  exact dh sp sa ⟨h2,fun _=>none,⟨Le.refl _,(fun _ _ e=>by cases e),fun _ _ _=>rfl⟩,sb,trivial⟩
 have hpost : ∀ B0 : List bC,Gh (B0 ++ [Pk Bs]) (B0 ++ Bs):=fun B0=>Gh.of fun I h s=>by
  obtain ⟨b,h2,sp,sa,sb⟩:=gq s
  obtain ⟨c,d,a,sc,_⟩:=sb
  exact dh sp sa (nb a.1 sc)
 refine SC.mono (dk.pre h hpre) fun x As ⟨v,B,hx,hg,B0,hr,hB⟩=>?_
 subst hB
 exact ⟨v,_,hx,hg.trans (hpost B0),B0,hr,rfl⟩
end
end Go.Proofs.YtckilbegmbaeeaaGreat.SL
namespace Go.Proofs.YtckilbegmbaeeaaGreat.SL
open Go Go.RowKit
set_option linter.unusedVariables false
set_option linter.unusedSimpArgs false
section
variable {P : Program} {n : Nat} {Q : dI} {e : Env} {ds : List Deferred} {As As' : List bC} {d : Option Nat} {ty T T' E tx : TypeId} {pos : String} {aft : Array Edge} {g : Option (Nat × Bool)} {x y z : Operand} {K : Env → List Deferred → List bC → Prop}
def nj (P : Program) (t : TypeId) (xs : Array Value) (off : Nat) : Option Value:=match P.underlying t with
 | some (.struct _)=>(P.info? t).map fun i=>.agg (xs.extract off (off + i.size))
 | some (.array _ _)=>(P.info? t).map fun i=>.agg (xs.extract off (off + i.size))
 | some _=>xs[off]?
 | none=>none
def qX (l : List (Option Bool)) : Option Bool:=match l with
 | []=>some true
 | x::l=>x.bind fun a=>(qX l).map fun b=>a && b
def vM (P : Program) : Nat → TypeId → Value → Value → Option Bool
 | 0,_,_,_=>none
 | d + 1,t,x,y=>match P.underlying t with
  | some .bool=>match x,y with | .bool a,.bool b=>some (a == b) | _,_=>none
  | some (.int _)=>match x,y with | .int k a,.int k' b=>if k = k' then some (a == b) else none | _,_=>none
  | some .string=>match x,y with | .string a,.string b=>some (decide (a = b)) | _,_=>none
  | some (.struct fs)=>match x,y with
   | .agg xs, .agg ys => if P.stoodInHeld t = true then none else if fs.all (·.name != "_") = true then qX (fs.toList.map fun f => (nj P f.type xs f.offset).bind fun a => (nj P f.type ys f.offset).bind fun b => vM P d f.type a b) else none
   | _,_=>none
  | some (.array n e)=>match x,y with
   | .agg xs,.agg ys=>(P.info? e).bind fun i=>qX ((List.range n).map fun j=>(nj P e xs (j * i.size)).bind fun a=>(nj P e ys (j * i.size)).bind fun b=>vM P d e a b)
   | _,_=>none
  | _=>none
theorem jm {t : TypeId} {xs : Array Value} {off : Nat} {a : Value} (h : nj P t xs off = some a) (w : World) : (part t xs off).run P w = .ok a w:=by
 unfold nj at h
 cases hu : P.underlying t with
 | none=>simp [hu] at h
 | some td =>
  have agg : ∀ {b : Bool},(isAgg t).run P w = .ok b w → (b = true → (P.info? t).map (fun i=>Value.agg (xs.extract off (off + i.size))) = some a) → (b = false → xs[off]? = some a) → (part t xs off).run P w = .ok a w:=fun {b} hb c h2=>by
   unfold part
   cases b
   ·simp [hb,h2 rfl]
   ·have:=c rfl
    cases hi : P.info? t with
    | none=>simp [hi] at this
    | some i=>simp [hi] at this; simp [hb,sizeOf,typeInfo,hi,this]
  cases td <;> simp only [hu] at h <;> first
   | exact agg (b:=true) (by simp [isAgg,run_underlying hu]) (fun _=>h) (fun q=>by cases q)
   | exact agg (b:=false) (by simp [isAgg,run_underlying hu]) (fun q=>by cases q) (fun _=>h)
theorem pb : ∀ (d : Nat) {t : TypeId} {x y : Value} {r : Bool},vM P d t x y = some r → ∀ (dd : Nat) (w : World),(Op.equalIn (dd + d) t x y).run P w = .ok r w
 | 0,_,_,_,_,h,_,_=>by simp [vM] at h
 | d + 1,t,x,y,r,h,dd,w=>by
  have IH:=fun {t : TypeId} {x y : Value} {r : Bool} (h : vM P d t x y = some r) (w : World)=>pb d h dd w
  show (Op.equalIn ((dd + d) + 1) t x y).run P w = _
  unfold vM at h
  cases hu : P.underlying t with
  | none=>simp [hu] at h
  | some td =>
   cases td <;> simp only [hu] at h <;> try (cases h; done)
   case bool =>
    cases x <;> (try simp only at h) <;> try (cases h; done)
    cases y <;> (try simp only at h) <;> try (cases h; done)
    cases h
    simp [Op.equalIn,run_underlying hu]
   case int D =>
    cases x <;> (try simp only at h) <;> try (cases h; done)
    cases y <;> (try simp only at h) <;> try (cases h; done)
    split at h
    ·rename_i hk; cases h; simp [Op.equalIn,run_underlying hu,hk]
    ·cases h
   case string =>
    cases x <;> (try simp only at h) <;> try (cases h; done)
    cases y <;> (try simp only at h) <;> try (cases h; done)
    rename_i a b
    cases h
    have B : (a == b) = decide (a = b):=by
     rw [beq_toListBytes]
     by_cases q : a = b
     ·subst q; simp
     ·have : ¬ a.toList = b.toList:=fun z=>q (rD.1 z)
      simp [q,this]
    simp [Op.equalIn,run_underlying hu,B]
   case struct fs =>
    cases x <;> (try simp only at h) <;> try (cases h; done)
    cases y <;> (try simp only at h) <;> try (cases h; done)
    rename_i xs ys
    split at h
    ·cases h
    rename_i hst
    split at h
    case isFalse=>cases h
    rename_i hall
    have hfs : P.fieldsOf t = fs:=by simp [Program.fieldsOf,hu]
    rw [run_equalIn_struct w (dd + d) t xs ys (by rw [hfs]; exact hu) (by simpa using hst),hfs]
    have hall' : ∀ f ∈ fs.toList, f.name ≠ "_" := fun f hf => by
     have:=Array.all_eq_true_iff_forall_mem.1 hall f (Array.mem_toList_iff.1 hf)
     simpa using this
    clear hall hfs hu
    generalize fs.toList = l at h hall'
    induction l generalizing r w with
    | nil=>simp [qX] at h; subst h; simp [Op.eqFields]
    | cons f l ih =>
     simp only [List.map_cons,qX,Option.bind_eq_some_iff,Option.map_eq_some_iff] at h
     obtain ⟨c,⟨va,o,vb,h2,p⟩,u,s,rfl⟩:=h
     have hn:=hall' f (by simp)
     simp only [Op.eqFields,hn,ne_eq,not_false_eq_true,if_true,Sem.run_bind,jm o,jm h2,IH p,Result.andThen_ok]
     cases c
     ·simp
     ·simpa using ih _ w s (fun g hg=>hall' g (by simp [hg]))
   case array m e =>
    cases x <;> (try simp only at h) <;> try (cases h; done)
    cases y <;> (try simp only at h) <;> try (cases h; done)
    rename_i xs ys
    simp only [Option.bind_eq_some_iff] at h
    obtain ⟨i,hi,h⟩:=h
    rw [run_equalIn_array w (dd + d) xs ys hu hi]
    have hc : P.cellsOf e = i.size:=by simp [Program.cellsOf,hi]
    rw [hc]
    clear hu
    generalize List.range m = l at h
    induction l generalizing r w with
    | nil=>simp [qX] at h; subst h; simp [Op.eqItems]
    | cons j l ih =>
     simp only [List.map_cons,qX,Option.bind_eq_some_iff,Option.map_eq_some_iff] at h
     obtain ⟨c,⟨va,o,vb,h2,p⟩,u,s,rfl⟩:=h
     simp only [Op.eqItems,Sem.run_bind,jm o,jm h2,IH p,Result.andThen_ok]
     cases c
     ·simp
     ·simpa using ih _ w s
theorem kC {xs ys : List Value} {r : Bool} {p : Prop} [Decidable p] (hg : P.eqGuardType P.depth T = false) (hx : ev e x = .agg xs.toArray) (hy : ev e y = .agg ys.toArray) (hr : vM P 100 T (.agg xs.toArray) (.agg ys.toArray) = some r) (hp : r = decide p) : V P e ⟨d,.binOp .eql T x y T',ty,pos,aft,g⟩ (.bool (decide p)):=fun w=>by
 have a : (Op.equalIn 10000 T (.agg xs.toArray) (.agg ys.toArray)).run P w = .ok r w:=pb 100 hr 9900 w
 simp only [execOp,hx,hy,Sem.run_bind,run_eqGuard_agg w .eql T x y xs.toArray ys.toArray hg,Result.andThen_ok,run_eql_struct,a,hp,Sem.run_pure]
theorem lg {xs ys : List Value} {r : Bool} {p : Prop} [Decidable p] (hg : P.eqGuardType P.depth T = false) (hx : ev e x = .agg xs.toArray) (hy : ev e y = .agg ys.toArray) (hr : vM P 100 T (.agg xs.toArray) (.agg ys.toArray) = some r) (hp : r = decide p) : V P e ⟨d,.binOp .neq T x y T',ty,pos,aft,g⟩ (.bool (decide ¬p)):=fun w=>by
 have a : (Op.equalIn 10000 T (.agg xs.toArray) (.agg ys.toArray)).run P w = .ok r w:=pb 100 hr 9900 w
 simp only [execOp,hx,hy,Sem.run_bind,run_eqGuard_agg w .neq T x y xs.toArray ys.toArray hg,Result.andThen_ok,run_neq_struct,a,hp,Sem.run_pure,decide_not]
theorem gn {N m o sz : Nat} {B : Addr} {k : IntKind} {i : Int} (hu : P.underlying T = some (.array N E)) (hz : (P.info? E).map (·.size) = some sz) (hx : ev e x = .pointer (some (B.add m))) (hy : ev e y = .int k i) (h0 : 0 ≤ i) (h1 : i < (N : Int)) (ho : m + i.toNat * sz = o) :
  V P e ⟨d,.indexAddr T x y,ty,pos,aft,g⟩ (.pointer (some (B.add o))):=fun w=>by
 cases hq : P.info? E with
 | none=>simp [hq] at hz
 | some q =>
  have hz' : q.size = sz:=by simpa [hq] using hz
  simp [execOp,hx,hy,Instr.indexAt,asIntOf,run_underlying hu,Instr.sureAddr,h0,h1,sizeOf,typeInfo,hq,hz',jL,ho]
theorem rt {A : Option Addr} {l c : Nat} (hu : P.underlying T = some (.slice E)) (w : World) : (Op.equalIn Op.maxDepth T (.slice A l c) (.slice none 0 0)).run P w = .ok A.isNone w:=by
 show (Op.equalIn (9999 + 1) T (.slice A l c) (.slice none 0 0)).run P w = _
 unfold Op.equalIn
 cases A <;> simp [run_underlying hu]
theorem nI {A : Option Addr} {l c : Nat} (hu : P.underlying T = some (.slice E)) (hx : ev e x = .slice A l c) (hy : ev e y = .slice none 0 0) : V P e ⟨d,.binOp .eql T x y T',ty,pos,aft,g⟩ (.bool A.isNone):=fun w=>by
 simp [execOp,hx,hy,eqGuard,binOp,Op.equal,rt hu]
theorem nG {α : Type} {kd : Kd α} {k cc : Nat} {xs : List α} {c : Code} (hk : As[k]? = some (Ro kd none cc xs)) (h : xs = [] → SA P n c Q e ds As) : SA P n c Q e ds As:=fun I hh a w s r f=>by
 obtain ⟨_,_,⟨_,cs,hr,hx⟩,_⟩:=dm hk s
 rcases hx with hx | ⟨_,_,_,_,_,hx,_⟩
 ·exact h hx I hh a w s r f
 ·cases hx
end
end Go.Proofs.YtckilbegmbaeeaaGreat.SL
namespace Go.Proofs.YtckilbegmbaeeaaGreat.SL
open Go Go.RowKit
set_option linter.unusedVariables false
set_option linter.unusedSimpArgs false
def kJ (T : List Nat) (an : Array (List Nat)) (j : Nat) : Bool:=T.any fun i=>!(Nat.beq i j) && !((an.getD j []).contains i)
def tt (ops : Array Oper) (an : Array (List Nat)) : Bool:=(List.range ops.size).all fun j=>(an.getD j []).all fun i =>
 match ops[j]? with
 | some o=>o.after.any fun e=>Region.binds .any e && (Nat.beq e.on i || (an.getD e.on []).contains i)
 | none=>false
def wO (an : Array (List Nat)) (listed : Array Bool) : Bool:=(List.range listed.size).all fun k=>!listed.getD k false || (an.getD k []).all fun i=>listed.getD i false
def Inv (an : Array (List Nat)) (listed : Array Bool) : Prop:=∀ k,listed.getD k false = true → ∀ i ∈ an.getD k [],listed.getD i false = true
theorem Inv.of {an : Array (List Nat)} {listed : Array Bool} (h : wO an listed = true) : Inv an listed:=fun k hk i hi=>by
 have hlt : k < listed.size:=by
  rcases Nat.lt_or_ge k listed.size with h' | h'
  ·exact h'
  ·simp [Array.getElem?_eq_none h'] at hk
 simp only [wO,List.all_eq_true,List.mem_range] at h
 have:=h k hlt
 simp only [hk,Bool.not_true,Bool.false_or,List.all_eq_true] at this
 exact this i hi
section
variable {P : Program} {ops : Array Oper} {Q : Exit → Act → World → Prop} {S : World → Prop} {T : List Nat} {an : Array (List Nat)}
theorem ow {listed : Array Bool} {j : Nat} (h : j < listed.size) : (listed.setIfInBounds j true).getD j false = true:=by simp [h]
theorem lT {listed : Array Bool} {j k : Nat} (h : listed.getD k false = true) : (listed.setIfInBounds j true).getD k false = true:=by
 by_cases hjk : j = k
 ·subst hjk
  have : j < listed.size:=by
   rcases Nat.lt_or_ge j listed.size with h' | h'
   ·exact h'
   ·simp [Array.getElem?_eq_none h'] at h
  exact ow this
 ·rw [getD_set_ne false hjk]; exact h
theorem qt {listed : Array Bool} {j i : Nat} (ha : tt ops an = true) (hv : Inv an listed) (hj : j ∈ Region.ready .any ops listed) (hi : i ∈ an.getD j []) : listed.getD i false = true:=by
 obtain ⟨_,oj,hoj,hall⟩:=mem_ready.1 hj
 simp only [tt,List.all_eq_true,List.mem_range] at ha
 have b:=ha j (Array.getElem?_eq_some_iff.1 hoj).1 i hi
 simp only [hoj] at b
 obtain ⟨e,he,hb⟩:=Array.any_eq_true'.1 b
 simp only [Bool.and_eq_true,Bool.or_eq_true] at hb
 rcases hb.2 with a | a
 ·rw [← Nat.eq_of_beq_eq_true a]; exact hall e he hb.1
 ·exact hv e.on (hall e he hb.1) i (by simpa using a)
theorem Inv.set {listed : Array Bool} {j : Nat} (ha : tt ops an = true) (hv : Inv an listed) (hj : j ∈ Region.ready .any ops listed) : Inv an (listed.setIfInBounds j true):=fun k hk i hi=>by
 by_cases hjk : j = k
 ·subst hjk; exact lT (qt ha hv hj hi)
 ·rw [getD_set_ne false hjk] at hk
  exact lT (hv k hk i hi)
def jT (P : Program) (ops : Array Oper) (Q : Exit → Act → World → Prop) (S : World → Prop) (T : List Nat) (an : Array (List Nat)) : Nat → Array Bool → Act → World → Prop
 | 0,listed,a,w=>Region.ready .any ops listed = []∧Q .normal a w
 | fuel + 1,listed,a,w =>
  (Region.ready .any ops listed = [] → Q .normal a w) ∧
  ∀ i ∈ Region.ready .any ops listed,wpOp P ops Q i (fun a' w'=>(kJ T an i = true → S w')∧jT P ops Q S T an fuel (listed.setIfInBounds i true) a' w') a w
theorem kQ : ∀ (fuel : Nat) (listed : Array Bool) (a : Act) (w : World),jT P ops Q S T an fuel listed a w → wpAny P .any ops Q fuel listed a w
 | 0,_,_,_,h=>h
 | fuel + 1,_,_,_,h=>⟨h.1,fun i hi=>wpOp_mono (fun a' w' h'=>kQ fuel _ a' w' h'.2) (h.2 i hi)⟩
theorem ic {i : Nat} {oi : Oper} {v : Value} {S' : World → Prop} (hi : ops[i]? = some oi) (hsel : ∀ (j : Nat) (o : Oper) cs b,ops[j]? = some o → o.op ≠ .select cs b)
  (hQ : ∀ c a w,Q (.panic c) (a.put oi.dst v) w → Q (.panic c) a w) (ha : tt ops an = true)
  (hT : i ∈ T∧S' = S ∨ S' = (fun _=>True)∧kJ T an i = false) :
  ∀ (fuel : Nat) (listed : Array Bool) (a : Act) (w : World),
   (∀ j oj,ops[j]? = some oj → j ≠ i → listed.getD j true = false → (∀ e ∈ oj.after,Region.binds .any e = true → e.on ≠ i) → oi.apart ops oj = true) →
   i ∈ Region.ready .any ops listed → Inv an listed → YieldsIf P ops S' oi v a → S' w →
   jT P ops Q S T an fuel (listed.setIfInBounds i true) (a.put oi.dst v) w → jT P ops Q S T an (fuel + 1) listed a w:=by
 have hSi : ∀ w,S' w → kJ T an i = true → S w:=fun w h hn=>by
  rcases hT with ⟨_,rfl⟩ | ⟨_,d⟩
  ·exact h
  ·rw [d] at hn; cases hn
 intro fuel
 induction fuel with
 | zero =>
  intro listed a w _ hr hv hy hS H
  refine ⟨fun h=>(by rw [h] at hr; cases hr),fun j hj=>?_⟩
  by_cases hji : j = i
  ·subst hji; exact hy.wpOp hi hS ⟨hSi w hS,H⟩
  ·have:=ready_mono hj hji
   rw [H.1] at this
   cases this
 | succ fuel ih =>
  intro listed a w hfree hr hv hy hS H
  refine ⟨fun h=>(by rw [h] at hr; cases hr),fun j hj=>?_⟩
  by_cases hji : j = i
  ·subst hji; exact hy.wpOp hi hS ⟨hSi w hS,H⟩
  ·have l:=H.2 j (ready_mono hj hji)
   obtain ⟨hjun,oj,hoj,hall⟩:=mem_ready.1 hj
   have hun : listed.getD i false = false:=by
    have d:=(mem_ready.1 hr).1
    rcases Nat.lt_or_ge i listed.size with h' | h'
    ·simp [h'] at d ⊢; exact d
    ·simp [Array.getElem?_eq_none h'] at d
   have hnot : ∀ e ∈ oj.after,Region.binds .any e = true → e.on ≠ i:=fun e he hb heq=>by
    have l:=hall e he hb
    rw [heq,hun] at l; cases l
   have hnd : i ∈ T → kJ T an j = true:=fun hiT=>by
    unfold kJ
    rw [List.any_eq_true]
    refine ⟨i,hiT,?_⟩
    have q : Nat.beq i j = false:=by
     cases hb : Nat.beq i j with
     | false=>rfl
     | true=>exact absurd (Nat.eq_of_beq_eq_true hb).symm hji
    have r : (an.getD j []).contains i = false:=by
     cases hc : (an.getD j []).contains i with
     | false=>rfl
     | true=>have:=qt ha hv hj (by simpa using hc); rw [hun] at this; cases this
    rw [q,r]; rfl
   have p : ∀ w',(kJ T an j = true → S w') → S' w':=fun w' h=>by
    rcases hT with ⟨hiT,rfl⟩ | ⟨rfl,_⟩
    ·exact h (hnd hiT)
    ·trivial
   have h2:=wpOp_putIf hoj (hfree j oj hoj hji hjun hnot) (fun cs b=>hsel i oi cs b hi) (fun cs b=>hsel j oj cs b hoj) hQ hy l
   have hfree' : ∀ k ok,ops[k]? = some ok → k ≠ i → (listed.setIfInBounds j true).getD k true = false →
     (∀ e ∈ ok.after,Region.binds .any e = true → e.on ≠ i) → oi.apart ops ok = true:=fun k ok hk hki hun hno=>by
    refine hfree k ok hk hki ?_ hno
    by_cases hjk : j = k
    ·subst hjk; exact hjun
    ·rw [getD_set_ne true hjk] at hun; exact hun
   refine wpOp_mono (fun a' w' m=>⟨m.2.1,ih (listed.setIfInBounds j true) a' w' hfree' (ready_mono hr (Ne.symm hji)) (hv.set ha hj) m.1 (p w' m.2.1) ?_⟩) h2
   rw [Array.setIfInBounds_comm _ _ hji]
   exact m.2.2
theorem qD {listed : Array Bool} {a : Act} {w : World} (hr : Region.ready .any ops listed = []) (h : Q .normal a w) : ∀ fuel,jT P ops Q S T an fuel listed a w
 | 0=>⟨hr,h⟩
 | _ + 1=>⟨fun _=>h,by rw [hr]; simp⟩
end
def Wt (ops : Array Oper) (n : Nat) (e : Env) (o : Oper) : Prop:=o.guard = none ∨ ∃ j t want,o.guard = some (j,want)∧(ops[j]?).bind (·.dst) = some t∧Nat.blt t n = true∧e t = .bool want
theorem Wt.no {ops : Array Oper} {n : Nat} {e : Env} {o : Oper} (h : o.guard = none) : Wt ops n e o:=.inl h
theorem Wt.yes {ops : Array Oper} {n : Nat} {e : Env} {o : Oper} {j t : Nat} {want b : Bool} (hg : o.guard = some (j,want)) (hj : (ops[j]?).bind (·.dst) = some t) (hd : Nat.blt t n = true) (hv : e t = .bool b) (hb : b = want) : Wt ops n e o:=.inr ⟨j,t,want,hg,hj,hd,by rw [hv,hb]⟩
def Ut (ops : Array Oper) (n : Nat) (e : Env) (o : Oper) : Prop:=∃ j t want,o.guard = some (j,want)∧(ops[j]?).bind (·.dst) = some t∧Nat.blt t n = true∧(e t = .bool (!want) ∨ e t = undef)
theorem Ut.no {ops : Array Oper} {n : Nat} {e : Env} {o : Oper} {j t : Nat} {want b : Bool} (hg : o.guard = some (j,want)) (hj : (ops[j]?).bind (·.dst) = some t) (hd : Nat.blt t n = true) (hv : e t = .bool b) (hb : b = !want) : Ut ops n e o:=⟨j,t,want,hg,hj,hd,.inl (by rw [hv,hb])⟩
theorem Ut.un {ops : Array Oper} {n : Nat} {e : Env} {o : Oper} {j t : Nat} {want : Bool} (hg : o.guard = some (j,want)) (hj : (ops[j]?).bind (·.dst) = some t) (hd : Nat.blt t n = true) (hv : e t = undef) : Ut ops n e o:=⟨j,t,want,hg,hj,hd,.inr hv⟩
section
variable {P : Program} {n : Nat} {Q : dI} {e : Env} {ds : List Deferred} {As Bs Hs : List bC} {ops : Array Oper} {T : List Nat} {an : Array (List Nat)} {I0 hS h0 hh0 : Hp} {w0 : World} {fuel : Nat} {listed : Array Bool} {S : World → Prop}
theorem Wt.wanted {o : Oper} {a : Act} (h : Wt ops n e o) (r : mn n e ds a) : Region.wanted o (yielded ops a.tmps) = true:=by
 rcases h with h | ⟨j,t,want,hg,hj,ht,he⟩
 ·simp [Region.wanted,h]
 ·simp [Region.wanted,hg,gY r hj (by simpa using ht),he]
theorem Ut.unwanted {o : Oper} {a : Act} (h : Ut ops n e o) (r : mn n e ds a) : Region.wanted o (yielded ops a.tmps) = false:=by
 obtain ⟨j,t,want,hg,hj,ht,he⟩:=h
 rcases he with he | he
 ·simp [Region.wanted,hg,gY r hj (by simpa using ht),he]
 ·simp [Region.wanted,hg,gY r hj (by simpa using ht),he,undef]
def DH (P : Program) (n : Nat) (ops : Array Oper) (Q : dI) (T : List Nat) (an : Array (List Nat)) (I0 hS h0 hh0 : Hp) (w0 : World) (fuel : Nat) (listed : Array Bool) (e : Env) (ds : List Deferred) (As : List bC) : Prop :=
 ∀ I h a w,cq As I h → mn n e ds a → ig I h w → dl I0 h0 w0 I h w → lZ I0 hS w → jT P ops (eG n Q I0 hh0 w0) (lZ I0 hS) T an fuel listed a w
def DN (P : Program) (n : Nat) (ops : Array Oper) (Q : dI) (T : List Nat) (an : Array (List Nat)) (S : World → Prop) (I0 hh0 : Hp) (w0 : World) (fuel : Nat) (listed : Array Bool) (e : Env) (ds : List Deferred) (As : List bC) : Prop :=
 ∀ I h a w,cq As I h → mn n e ds a → ig I h w → dl I0 hh0 w0 I h w → jT P ops (eG n Q I0 hh0 w0) S T an fuel listed a w
structure Dd (I0 hh0 h0 hS : Hp) (w0 : World) : Prop where
 fits : ig I0 hh0 w0
 split : gF hh0 h0 hS
theorem gF.comm {h h1 h2 : Hp} (s : gF h h1 h2) : gF h h2 h1:=⟨s.2.1,s.1,fun b o e=>by
 cases z : h1 b with
 | none=>rfl
 | some u=>rw [s.2.2 b u z] at e; cases e⟩
theorem Dd.out (d : Dd I0 hh0 h0 hS w0) : ∀ b o,hS b = some o → b < w0.heap.size∧h0 b = none:=fun b o e=>⟨gQ (d.fits.own b o (d.split.2.1 b o e)),d.split.comm.2.2 b o e⟩
theorem tg {id : Nat} {ol : List Oper} (T : List Nat) (an : Array (List Nat)) (ks rs : List Nat) {Hs Bs : List bC} (hm : P.follows .mixedOrders = true) (hs : eM (ks ++ rs) As = true) (eH : sel ks As = Hs) (eB : sel rs As = Bs)
  (h : ∀ I0 hS h0 hh0 w0,cq Hs I0 hS → Dd I0 hh0 h0 hS w0 → DH P n ol.toArray Q T an I0 hS h0 hh0 w0 ol.length (Array.replicate ol.length false) e ds Bs) : SA P n (.region id ol.toArray true) Q e ds As:=by
 intro I hh a w s r f
 have d:=ia hs s
 have es : sel (ks ++ rs) As = Hs ++ Bs:=by rw [← eH,← eB]; simp [sel]
 rw [es] at d
 obtain ⟨c,h2,sp,sa,sb⟩:=gq d
 have fd:=(dl.drew f).fits
 have f2:=fd.less sp.2.1
 have hsees : lZ I c { w with drawn:=w.drawn + 1 }:=⟨fd.imm,fun b o e=>fd.own b o (sp.1 b o e)⟩
 have hw:=h I c h2 hh { w with drawn:=w.drawn + 1 } sa ⟨fd,sp.comm⟩ I h2 a _ sb r f2 (dl.refl f2) hsees
 have:=wp_region_any (id:=id) hm (kQ _ _ _ _ (by rw [List.size_toArray]; exact hw))
 exact wp_mono this fun x a' w' p=>eG.goes (dl.drew f) p
theorem tj {id : Nat} {ol : List Oper} (hm : P.follows .mixedOrders = true)
  (h : ∀ I0 hh0 w0,DN P n ol.toArray Q [] #[] (fun _=>True) I0 hh0 w0 ol.length (Array.replicate ol.length false) e ds As) : SA P n (.region id ol.toArray true) Q e ds As:=by
 intro I hh a w s r f
 have fd:=(dl.drew f).fits
 have hw:=h I hh { w with drawn:=w.drawn + 1 } I hh a _ s r fd (dl.refl fd)
 have:=wp_region_any (id:=id) hm (kQ _ _ _ _ (by rw [List.size_toArray]; exact hw))
 exact wp_mono this fun x a' w' p=>eG.goes (dl.drew f) p
theorem sA {id : Nat} {ol : List Oper} (T : List Nat) (an : Array (List Nat)) (ks rs : List Nat) {Hs Bs : List bC} (hm : P.follows .mixedOrders = true) (hs : eM (ks ++ rs) As = true) (eH : sel ks As = Hs) (eB : sel rs As = Bs) (hq : bU Q)
  (h : ∀ I0 hS h0 hh0 w0,cq Hs I0 hS → Dd I0 hh0 h0 hS w0 → bU Q → DH P n ol.toArray Q T an I0 hS h0 hh0 w0 ol.length (Array.replicate ol.length false) e ds Bs) : SA P n (.region id ol.toArray true) Q e ds As :=
 tg T an ks rs hm hs eH eB fun a b c d e f g=>h a b c d e f g hq
theorem lG {id : Nat} {ol : List Oper} (hm : P.follows .mixedOrders = true) (hq : bU Q)
  (h : ∀ I0 hh0 w0,bU Q → DN P n ol.toArray Q [] #[] (fun _=>True) I0 hh0 w0 ol.length (Array.replicate ol.length false) e ds As) : SA P n (.region id ol.toArray true) Q e ds As :=
 tj hm fun a b c=>h a b c hq
def mh (ops : Array Oper) (an : Array (List Nat)) (listed : Array Bool) (i : Nat) : Bool :=
 Region.noSelect ops && Region.free .any ops listed i && (Region.ready .any ops listed).contains i && wO an listed && tt ops an
theorem mG {d : Option Nat} {v : Value} (hQ : bU Q) (hd : cb d n = true) : ∀ c a w,eG n Q I0 hh0 w0 (.panic c) (a.put d v) w → eG n Q I0 hh0 w0 (.panic c) a w:=by
 rintro c a' w' ⟨e',ds',As',I',h',r',s',g',q⟩
 refine ⟨fun t=>a'.tmps.getD t undef,ds',As',I',h',⟨?_,fun t=>rfl,?_⟩,s',g',hQ _ _ _ _ _ q⟩
 ·rw [← r'.size]; cases hdd : d <;> simp [Act.put]
 ·rw [← r'.defers]; cases hdd : d <;> simp [Act.put]
theorem lD {v : Value} {oi : Oper} (i : Nat) (ht : mh ops an listed i = true) (hT : T.contains i = true) (hi : ops[i]? = some oi) (hw : Wt ops n e oi) (hQ : bU Q) (sH : cq Hs I0 hS) (hd : cb oi.dst n = true) (hv : VR P Hs e oi v)
  (h : DH P n ops Q T an I0 hS h0 hh0 w0 fuel (listed.setIfInBounds i true) (put e oi.dst v) ds As) : DH P n ops Q T an I0 hS h0 hh0 w0 (fuel + 1) listed e ds As:=by
 intro I hh a w s r f g se
 simp only [mh,Bool.and_eq_true] at ht
 obtain ⟨⟨⟨⟨b,h2⟩,c⟩,d⟩,j⟩:=ht
 exact ic hi (Region.noSelect_spec b) (mG hQ hd) j (.inl ⟨by simpa using hT,rfl⟩) fuel listed a w (Region.free_spec hi h2) (by simpa using c) (Inv.of d)
  (.inl ⟨hw.wanted r,fun w' sw=>by rw [r.eval]; exact hv I0 hS w' sH sw⟩) se (h I hh _ w s (r.put hd v) f g se)
theorem rI {oi : Oper} (i : Nat) (ht : mh ops an listed i = true) (hT : T.contains i = true) (hi : ops[i]? = some oi) (hw : Ut ops n e oi) (hQ : bU Q) (hd : cb oi.dst n = true)
  (h : DH P n ops Q T an I0 hS h0 hh0 w0 fuel (listed.setIfInBounds i true) (put e oi.dst undef) ds As) : DH P n ops Q T an I0 hS h0 hh0 w0 (fuel + 1) listed e ds As:=by
 intro I hh a w s r f g se
 simp only [mh,Bool.and_eq_true] at ht
 obtain ⟨⟨⟨⟨b,h2⟩,c⟩,d⟩,j⟩:=ht
 exact ic hi (Region.noSelect_spec b) (mG hQ hd) j (.inl ⟨by simpa using hT,rfl⟩) fuel listed a w (Region.free_spec hi h2) (by simpa using c) (Inv.of d)
  (.inr ⟨hw.unwanted r,rfl⟩) se (h I hh _ w s (r.put hd undef) f g se)
theorem fb {v : Value} {oi : Oper} (i : Nat) (ht : mh ops an listed i = true) (hT : kJ T an i = false) (hi : ops[i]? = some oi) (hw : Wt ops n e oi) (hQ : bU Q) (hd : cb oi.dst n = true) (hv : V P e oi v)
  (h : DN P n ops Q T an S I0 hh0 w0 fuel (listed.setIfInBounds i true) (put e oi.dst v) ds As) : DN P n ops Q T an S I0 hh0 w0 (fuel + 1) listed e ds As:=by
 intro I hh a w s r f g
 simp only [mh,Bool.and_eq_true] at ht
 obtain ⟨⟨⟨⟨b,h2⟩,c⟩,d⟩,j⟩:=ht
 exact ic hi (Region.noSelect_spec b) (mG hQ hd) j (.inr ⟨rfl,hT⟩) fuel listed a w (Region.free_spec hi h2) (by simpa using c) (Inv.of d)
  (.inl ⟨hw.wanted r,fun w' sw=>by rw [r.eval]; exact hv w'⟩) trivial (h I hh _ w s (r.put hd v) f g)
def nB : dI:=fun _ _ _ _=>False
theorem nB.no {I h : Hp} {w : World} {x : Exit} {a : Act} {w' : World} {p : Prop} (h : eG n nB I h w x a w') : p:=by
 obtain ⟨_,_,_,_,_,_,_,_,q⟩:=h; exact q.elim
def Er (P : Program) (n : Nat) (ops : Array Oper) (Q : dI) (T : List Nat) (an : Array (List Nat)) (I0 hS h0 hh0 : Hp) (w0 : World) (fuel : Nat) (listed : Array Bool) (e : Env) (ds : List Deferred) (As : List bC) (i : Nat) : Prop :=
 ∃ oi,ops[i]? = some oi∧Wt ops n e oi∧OA P n oi (DH P n ops Q T an I0 hS h0 hh0 w0 fuel (listed.setIfInBounds i true)) nB e ds As
def Et (P : Program) (n : Nat) (ops : Array Oper) (Q : dI) (T : List Nat) (an : Array (List Nat)) (S : World → Prop) (I0 hh0 : Hp) (w0 : World) (fuel : Nat) (listed : Array Bool) (e : Env) (ds : List Deferred) (As : List bC) (i : Nat) : Prop :=
 kJ T an i = false∧∃ oi,ops[i]? = some oi∧Wt ops n e oi∧OA P n oi (DN P n ops Q T an S I0 hh0 w0 fuel (listed.setIfInBounds i true)) nB e ds As
theorem iE {rs : List Nat} (dd : Dd I0 hh0 h0 hS w0) (hr : Region.ready .any ops listed = rs) (hne : rs ≠ []) (h : ∀ i ∈ rs,Er P n ops Q T an I0 hS h0 hh0 w0 fuel listed e ds As i) : DH P n ops Q T an I0 hS h0 hh0 w0 (fuel + 1) listed e ds As:=by
 intro I hh a w s r f g se
 refine ⟨fun h'=>absurd (hr ▸ h') hne,hr ▸ fun i hi=>?_⟩
 obtain ⟨oi,hoi,hw,h⟩:=h i hi
 have hwp:=h I hh a w s r f
 unfold wpOp
 simp only [hoi,hw.wanted r,if_true]
 refine .inl ?_
 have next : ∀ a' w',(∃ e' ds' As' I' h'',mn n e' ds' a'∧cq As' I' h''∧dl I hh w I' h'' w'∧DH P n ops Q T an I0 hS h0 hh0 w0 fuel (listed.setIfInBounds i true) e' ds' As') → (kJ T an i = true → lZ I0 hS w')∧jT P ops (eG n Q I0 hh0 w0) (lZ I0 hS) T an fuel (listed.setIfInBounds i true) a' w':=fun a' w' ⟨e',ds',As',I',h'',r',s',g',q⟩=>by
  have gg:=g.trans g'
  have se' : lZ I0 hS w':=by
   refine ⟨fun b o e=>gg.fits.imm b o (gg.le b o e),fun b o e=>?_⟩
   have hb:=gQ (se.own b o e)
   have hn : hh b = none:=by
    cases z : hh b with
    | none=>rfl
    | some u =>
     exfalso
     have:=(g.kept b (dd.out b o e).1 (dd.out b o e).2).2.1
     rw [this] at z; cases z
   rw [(g'.kept b hb hn).1]; exact se.own b o e
  exact ⟨fun _=>se',q I' h'' a' w' s' r' g'.fits gg se'⟩
 unfold Oper.wp at *
 generalize (execOp a.eval oi).run P w = fF at *
 cases fF with
 | ok x w' =>
  cases x <;> simp only [Oper.upon] at hwp ⊢ <;> first
   | exact next _ _ hwp
   | exact Calls.mono hwp (fun ee w'' he=>by cases ee <;> first | exact next _ _ he | exact nB.no he | (obtain ⟨c,d,q⟩:=he; exact nB.no q))
   | exact Rows.mono hwp (fun _ _ he=>next _ _ he)
   | exact nB.no hwp
 | halt x w'=>cases x <;> simp only [Oper.upon] at hwp ⊢ <;> first | exact nB.no hwp | exact hwp
theorem eI {rs : List Nat} (hr : Region.ready .any ops listed = rs) (hne : rs ≠ []) (h : ∀ i ∈ rs,Et P n ops Q T an S I0 hh0 w0 fuel listed e ds As i) : DN P n ops Q T an S I0 hh0 w0 (fuel + 1) listed e ds As:=by
 intro I hh a w s r f g
 refine ⟨fun h'=>absurd (hr ▸ h') hne,hr ▸ fun i hi=>?_⟩
 obtain ⟨hnd,oi,hoi,hw,h⟩:=h i hi
 have hwp:=h I hh a w s r f
 unfold wpOp
 simp only [hoi,hw.wanted r,if_true]
 refine .inl ?_
 have next : ∀ a' w',(∃ e' ds' As' I' h'',mn n e' ds' a'∧cq As' I' h''∧dl I hh w I' h'' w'∧DN P n ops Q T an S I0 hh0 w0 fuel (listed.setIfInBounds i true) e' ds' As') → (kJ T an i = true → S w')∧jT P ops (eG n Q I0 hh0 w0) S T an fuel (listed.setIfInBounds i true) a' w':=fun a' w' ⟨e',ds',As',I',h'',r',s',g',q⟩ =>
  ⟨fun hn=>(by rw [hnd] at hn; exact absurd hn (by simp)),q I' h'' a' w' s' r' g'.fits (g.trans g')⟩
 unfold Oper.wp at *
 generalize (execOp a.eval oi).run P w = fF at *
 cases fF with
 | ok x w' =>
  cases x <;> simp only [Oper.upon] at hwp ⊢ <;> first
   | exact next _ _ hwp
   | exact Calls.mono hwp (fun ee w'' he=>by cases ee <;> first | exact next _ _ he | exact nB.no he | (obtain ⟨b,c,q⟩:=he; exact nB.no q))
   | exact Rows.mono hwp (fun _ _ he=>next _ _ he)
   | exact nB.no hwp
 | halt x w'=>cases x <;> simp only [Oper.upon] at hwp ⊢ <;> first | exact nB.no hwp | exact hwp
theorem df {α : Type} {p : α → Prop} : ∀ x ∈ ([] : List α),p x:=fun _ h=>by cases h
theorem bG {α : Type} {p : α → Prop} {a : α} {l : List α} (h : p a) (k : ∀ x ∈ l,p x) : ∀ x ∈ a::l,p x:=fun x hx=>by
 rcases List.mem_cons.1 hx with rfl | hx
 ·exact h
 ·exact k x hx
theorem sY {oi : Oper} (i : Nat) (dd : Dd I0 hh0 h0 hS w0) (hr : Region.ready .any ops listed = [i]) (hi : ops[i]? = some oi) (hw : Wt ops n e oi) (h : OA P n oi (DH P n ops Q T an I0 hS h0 hh0 w0 fuel (listed.setIfInBounds i true)) nB e ds As) : DH P n ops Q T an I0 hS h0 hh0 w0 (fuel + 1) listed e ds As :=
 iE dd hr (by simp) (bG ⟨oi,hi,hw,h⟩ df)
theorem qI {oi : Oper} (i : Nat) (hr : Region.ready .any ops listed = [i]) (hn : kJ T an i = false) (hi : ops[i]? = some oi) (hw : Wt ops n e oi) (h : OA P n oi (DN P n ops Q T an S I0 hh0 w0 fuel (listed.setIfInBounds i true)) nB e ds As) : DN P n ops Q T an S I0 hh0 w0 (fuel + 1) listed e ds As :=
 eI hr (by simp) (bG ⟨hn,oi,hi,hw,h⟩ df)
theorem aI (hr : Region.ready .any ops listed = []) (h : Q .normal e ds As) : DN P n ops Q T an S I0 hh0 w0 fuel listed e ds As:=fun I hh a w s r f g=>qD hr ⟨e,ds,As,I,hh,r,s,g,h⟩ fuel
theorem aV (dd : Dd I0 hh0 h0 hS w0) (sH : cq Hs I0 hS) (h : DN P n ops Q T an (lZ I0 hS) I0 hh0 w0 fuel listed e ds (Hs ++ As)) : DH P n ops Q T an I0 hS h0 hh0 w0 fuel listed e ds As:=by
 intro I hh a w s r f g se
 obtain ⟨gg,sj⟩:=dl.frame dd.fits dd.split g
 exact h I _ a w (dh sj.comm (jn g.le sH) s) r gg.fits gg
theorem wa {A : bC} (k : Nat) (sH : cq Hs I0 hS) (hk : Hs[k]? = some A) (hp : A.pers = true) (h : DH P n ops Q T an I0 hS h0 hh0 w0 fuel listed e ds (As ++ [A])) : DH P n ops Q T an I0 hS h0 hh0 w0 fuel listed e ds As:=by
 intro I hh a w s r f g se
 obtain ⟨b,_,p,_⟩:=dm hk sH
 have pA : A.P I (fun _=>none):=A.mono g.le (A.free hp p)
 exact h I hh a w (dh (gF.none_l hh).comm s ⟨fun _=>none,fun _=>none,gF.none_l _,pA,trivial⟩) r f g se
theorem dE {Hs Hs' : List bC} (h : ∀ I h,cq Hs I h → cq Hs' I h) (sH : cq Hs I0 hS) : cq Hs' I0 hS:=h _ _ sH
theorem GP.know {k : Nat} {A B : bC} (hk : Hs[k]? = some A) (hp : B.pers = true) (hv : ∀ I h,A.P I h → B.P I h) : ∀ I h,cq Hs I h → cq (Hs ++ [B]) I h:=fun I h s=>by
 obtain ⟨a,_,p,_⟩:=dm hk s
 exact dh ⟨Le.refl h,(fun _ _ e=>by cases e),fun _ _ _=>rfl⟩ s ⟨fun _=>none,fun _=>none,⟨fun _ _ e=>(by cases e),fun _ _ e=>(by cases e),fun _ _ e=>(by cases e)⟩,B.free hp (hv I a p),trivial⟩
theorem GP.nilRo {α : Type} (kd : Kd α) (A : Option Addr) (c : Nat) : ∀ I h,cq Hs I h → cq (Hs ++ [Ro kd A c []]) I h:=fun I h s =>
 dh ⟨Le.refl h,(fun _ _ e=>by cases e),fun _ _ _=>rfl⟩ s ⟨fun _=>none,fun _=>none,⟨fun _ _ e=>(by cases e),fun _ _ e=>(by cases e),fun _ _ e=>(by cases e)⟩,⟨Nat.zero_le _,[],rfl,.inl rfl⟩,trivial⟩
theorem GP.subN {α : Type} {kd : Kd α} {A : Option Addr} {c k sz : Nat} {xs zs : List α} {l h m : Int} (hzs : zs = sub xs l h) (hk : Hs[k]? = some (Ro kd A c xs)) (hsz : kd.sz = sz) (h0 : 0 ≤ l) (h1 : l ≤ h) (h2 : h ≤ (xs.length : Int)) (hm : m = (c : Int) ∨ h ≤ m) :
  ∀ I h,cq Hs I h → cq (Hs ++ [Ro kd (dj A l m sz) (m.toNat - l.toNat) zs]) I h:=by
 subst hzs
 exact GP.know hk rfl fun I hp p=>tf hsz h0 h1 h2 (by obtain ⟨hle,_⟩:=p; rcases hm with b | b <;> omega) I hp p
theorem DH.ghost (hv : Gh As Bs) (h : DH P n ops Q T an I0 hS h0 hh0 w0 fuel listed e ds Bs) : DH P n ops Q T an I0 hS h0 hh0 w0 fuel listed e ds As:=fun I hh a w s r f g se=>by
 obtain ⟨c,d,b,j⟩:=hv I hh w s f
 exact h c d a w j r b.fits (g.trans b) se
theorem DN.ghost (hv : Gh As Bs) (h : DN P n ops Q T an S I0 hh0 w0 fuel listed e ds Bs) : DN P n ops Q T an S I0 hh0 w0 fuel listed e ds As:=fun I hh a w s r f g=>by
 obtain ⟨c,d,b,j⟩:=hv I hh w s f
 exact h c d a w j r b.fits (g.trans b)
theorem VR.ofV {o : Oper} {v : Value} (h : V P e o v) : VR P Hs e o v:=fun _ _ w _ _=>h w
end
end Go.Proofs.YtckilbegmbaeeaaGreat.SL
namespace Go.Proofs.YtckilbegmbaeeaaGreat.SL
open Go Go.RowKit
set_option linter.unusedVariables false
set_option linter.unusedSimpArgs false
section
variable {P : Program} {n : Nat} {Q : dI} {e : Env} {ds : List Deferred} {As As' : List bC} {d : Option Nat} {ty T T' E tx : TypeId} {pos : String} {aft : Array Edge} {g : Option (Nat × Bool)} {x y z : Operand} {K : Env → List Deferred → List bC → Prop}
theorem tk {parts : List (Nat × Operand)} {N sz : Nat} {zv : Value} {cells : List Value} (hz : (P.info? T).bind (·.zero) = some zv) (hu : P.underlying T = some (.array N E)) (hs : (P.info? E).map (·.size) = some sz)
  (hf : Instr.fill (fun i : Nat=>some (i * sz,sz)) zv.cells (parts.map fun p=>(p.1,ev e p.2)) = some cells.toArray) : V P e ⟨d,.build T parts.toArray,ty,pos,aft,g⟩ (.agg cells.toArray):=fun w=>by
 cases hq : P.info? T with
 | none=>simp [hq] at hz
 | some q =>
  cases a : P.info? E with
  | none=>simp [a] at hs
  | some c =>
   have hz' : q.zero = some zv:=by simpa [hq] using hz
   have hs' : c.size = sz:=by simpa [a] using hs
   have b : (Array.map (fun (p : Nat × Operand)=>(p.1,ev e p.2)) parts.toArray).toList = parts.map fun p=>(p.1,ev e p.2):=by simp
   have hrun : (Instr.build T (Array.map (fun (p : Nat × Operand)=>(p.1,ev e p.2)) parts.toArray)).run P w = .ok (.agg cells.toArray) w:=by
    simp only [Instr.build,Sem.run_bind,zeroValue,typeInfo,run_program,Result.andThen_ok,hq,Sem.run_pure,hz',run_underlying hu,sizeOf,a,hs',b,hf]
   show ((Sem.bind (Instr.build T (Array.map (fun (p : Nat × Operand)=>(p.1,ev e p.2)) parts.toArray)) fun v=>Sem.pure (Next.value v)) : Sem Next).run P w = _
   rw [Sem.run_bind',hrun]
   rfl
theorem nK {b N sz : Nat} (hu : P.underlying T = some (.array N E)) (hs : (P.info? E).map (·.size) = some sz) (hx : ev e x = .pointer (some ⟨b,0,none⟩)) : V P e ⟨d,.slice T x none none none,ty,pos,aft,g⟩ (.slice (some ⟨b,0,none⟩) N N):=fun w=>by
 cases hq : P.info? E with
 | none=>simp [hq] at hs
 | some q=>simp [execOp,hx,Instr.sliceAt,run_underlying hu,Instr.sureAddr,Instr.sliceBounds,sizeOf,typeInfo,hq,Addr.add]
theorem Gh.blkRo {α : Type} {kd : Kd α} {b k N : Nat} {cs : List Value} {xs : List α} (hk : As[k]? = some (aK b T cs)) (hr : ∀ I,RL kd I cs xs) (hN : xs.length = N) : Gh As (As.set k (Ro kd (some ⟨b,0,none⟩) N xs)):=by
 intro I h w s f
 obtain ⟨m,l,hg,ff⟩:=dm hk s
 have hg : m b = some (.cells cs.toArray T (0,0)):=hg
 have hh:=l b _ hg
 have hI:=f.sep b _ hh
 let ob : Obj:=.cells cs.toArray T (0,0)
 have leI : Le I (fun c=>if c = b then some ob else I c):=fun c u e=>by
  have : c ≠ b:=by rintro rfl; rw [hI] at e; cases e
  simp [this,e]
 refine ⟨fun c=>if c = b then some ob else I c,fun c=>if c = b then none else h c,⟨⟨fun c u e=>?_,fun c u e=>?_,fun c u e=>?_⟩,leI,rfl,rfl,rfl,Nat.le_refl _,fun c hb e=>?_⟩,?_⟩
 ·by_cases hb : c = b
  ·subst hb; simp at e; rw [← e]; exact f.own c _ hh
  ·simp [hb] at e; exact f.imm c u e
 ·by_cases hb : c = b
  ·simp [hb] at e
  ·simp [hb] at e; exact f.own c u e
 ·by_cases hb : c = b
  ·simp [hb] at e
  ·simp [hb] at e; simp [hb]; exact f.sep c u e
 ·have : c ≠ b:=by rintro rfl; rw [hh] at e; cases e
  exact ⟨rfl,by simp [this,e],by simp [this]⟩
 ·refine ff _ _ (fun _=>none) _ leI ⟨Nat.le_of_eq hN,cs,hr _,.inr ⟨b,0,cs.toArray,T,(0,0),rfl,by simp [ob],fun j v hj=>by simpa using hj⟩⟩ (fun _ _ e=>by cases e) (fun c u d a=>?_)
  have : c ≠ b:=by rintro rfl; rw [hg] at a; cases a
  exact ⟨by simp [this,d],rfl⟩
theorem oD {α : Type} [Inhabited α] {kd : Kd α} {N sz : Nat} {k : IntKind} {i : Int} {cs : List Value} {xs : List α} {v : Value} {td : TypeDesc} (hu : P.underlying T = some (.array N E)) (hs : (P.info? E).map (·.size) = some sz) (he : P.underlying E = some td) (ha : lh td = false) (hk : kd.sz = sz)
  (hx : ev e x = .agg cs.toArray) (hr : RL kd (fun _=>none) cs xs) (hN : xs.length = N) (hy : ev e y = .int k i) (h0 : 0 ≤ i) (h1 : i < (N : Int)) (hv : ∀ c,kd.R (fun _=>none) c (rd xs i) → c[0]? = some v) : V P e ⟨d,.index T x y,ty,pos,aft,g⟩ v:=fun w=>by
 cases hq : P.info? E with
 | none=>simp [hq] at hs
 | some q =>
  have hs' : q.size = sz:=by simpa [hq] using hs
  obtain ⟨c,hc,hg⟩:=RL.get hr (mX h0 (by rw [hN]; exact h1))
  have h2 : cs[i.toNat * sz]? = some v:=by have:=hg 0 v (hv c hc); rwa [hk,Nat.add_zero] at this
  have hp : (part E cs.toArray (i.toNat * sz)).run P w = .ok v w:=jm (by unfold nj; rw [he]; cases td <;> first | (cases ha; done) | (simpa using h2)) w
  simp only [execOp,hx,hy,Instr.index,asIntOf,run_underlying hu,sizeOf,typeInfo,hq,hs',Sem.run_bind,Sem.run_pure,Result.andThen_ok,run_program,h0,h1,and_self,if_true,hp]
theorem sC {α : Type} [Inhabited α] {kd : Kd α} {N sz : Nat} {k : IntKind} {i : Int} {cs vs : List Value} {xs : List α} {td : TypeDesc} (hu : P.underlying T = some (.array N E)) (hs : (P.info? E).map (·.size) = some sz) (he : P.underlying E = some td) (ha : lh td = true) (hk : kd.sz = sz)
  (hx : ev e x = .agg cs.toArray) (hr : RL kd (fun _=>none) cs xs) (hN : xs.length = N) (hy : ev e y = .int k i) (h0 : 0 ≤ i) (h1 : i < (N : Int)) (hv : ∀ c,kd.R (fun _=>none) c (rd xs i) → c = vs) : V P e ⟨d,.index T x y,ty,pos,aft,g⟩ (.agg vs.toArray):=fun w=>by
 cases hq : P.info? E with
 | none=>simp [hq] at hs
 | some q =>
  have hs' : q.size = sz:=by simpa [hq] using hs
  have hl : i.toNat < xs.length:=by omega
  have h2:=RL.sub i.toNat 1 hr
  have h : (xs.drop i.toNat).take 1 = [rd xs i]:=by
   have a : rd xs i = xs[i.toNat]:=by have:=mX h0 (by rw [hN]; exact h1); rw [List.getElem?_eq_getElem hl] at this; exact (Option.some.inj this).symm
   rw [a,List.drop_eq_getElem_cons hl]; rfl
  rw [h,hk,Nat.one_mul] at h2
  obtain ⟨c1,c2,a,j,b⟩:=h2
  have b : c2 = []:=b
  subst b
  rw [List.append_nil,hv c1 j] at a
  have hp : (part E cs.toArray (i.toNat * sz)).run P w = .ok (.agg vs.toArray) w:=jm (by
   have ex : cs.toArray.extract (i.toNat * sz) (i.toNat * sz + sz) = vs.toArray:=by
    apply Array.ext'
    rw [Array.toList_extract]
    simp [List.extract,a]
   unfold nj; rw [he]; cases td <;> first | (cases ha; done) | (show (P.info? E).map (fun i=>Value.agg (cs.toArray.extract _ (_ + i.size))) = _; rw [hq]; simp only [Option.map_some,hs',ex])) w
  simp only [execOp,hx,hy,Instr.index,asIntOf,run_underlying hu,sizeOf,typeInfo,hq,hs',Sem.run_bind,Sem.run_pure,Result.andThen_ok,run_program,h0,h1,and_self,if_true,hp]
theorem oY {α : Type} [Inhabited α] {kd : Kd α} {m0 N sz q : Nat} {cs : List Value} {xs : List α} {i : Int} {v : Value} (hr : RL kd (fun _=>none) ((cs.drop m0).take (N * sz)) xs) (hk : kd.sz = sz) (hN : xs.length = N) (h0 : 0 ≤ i) (h1 : i < (N : Int))
  (hv : ∀ c,kd.R (fun _=>none) c (rd xs i) → c[q]? = some v) : cs[m0 + i.toNat * sz + q]? = some v:=by
 obtain ⟨c,hc,hg⟩:=RL.get hr (mX h0 (by rw [hN]; exact h1))
 have h2:=hg q v (hv c hc)
 rw [List.getElem?_take] at h2
 split at h2
 ·rw [List.getElem?_drop,hk] at h2
  rwa [Nat.add_assoc]
 ·cases h2
end
end Go.Proofs.YtckilbegmbaeeaaGreat.SL

import Derived.OrdersHeld
import Derived.Below
import Derived.WalkKit
import Derived.Laws.Small
import Derived.Laws.Slices
import Derived.Laws.Strings
import Derived.Laws.Strings2
import Derived.Laws.Strings3
import Derived.Laws.StructEq
import Derived.WideLaws
import Derived.Laws.AppendOwn
import Derived.Laws.MakeOwn
import Derived.Laws.OwnMore
import Derived.Laws.CopyOwn
import Derived.Deep.MidRow
import Derived.Deep.AppendSrc
import Derived.KernelRfl
import Derived.Lib.SlBytesConst
import Derived.Laws.BytesArg
import Derived.ChangeKeysEq
import Derived.MapKept
import Derived.Laws.Concat
import Derived.Laws.IdiomStrings
import Derived.Lib.AppendZerosOnto
import Derived.Lib.Overlaps
import Derived.Laws.BitsLemmas
import Derived.Deep.Slices
import Derived.Carry
import Derived.SizedLaws
import Derived.OpenShut
namespace Go.Proofs.YtckilbegmbaeeaaGreat.SL
open Go Go.RowKit
set_option linter.unusedVariables false
set_option linter.unusedSimpArgs false
abbrev Hp:=Nat → Option Obj
abbrev Env:=Nat → Value
def Le (I I' : Hp) : Prop:=∀ b o,I b = some o → I' b = some o
theorem Le.refl (I : Hp) : Le I I:=fun _ _ h=>h
theorem Le.trans {I J K : Hp} (h : Le I J) (k : Le J K) : Le I K:=fun b o x=>k b o (h b o x)
structure ic (I h : Hp) (w : World) : Prop where
 imm : ∀ b o,I b = some o → w.heap[b]? = some o
 own : ∀ b o,h b = some o → w.heap[b]? = some o
 sep : ∀ b o,h b = some o → I b = none
theorem gO {w : World} {b : Nat} {o : Obj} (h : w.heap[b]? = some o) : b < w.heap.size:=by
 rcases Nat.lt_or_ge b w.heap.size with k | k
 ·exact k
 ·simp [Array.getElem?_eq_none k] at h
theorem ic.less {I h k : Hp} {w : World} (f : ic I h w) (hk : Le k h) : ic I k w :=
 ⟨f.imm,fun b o e=>f.own b o (hk b o e),fun b o e=>f.sep b o (hk b o e)⟩
structure cZ (I h : Hp) (w : World) (I' h' : Hp) (w' : World) : Prop where
 fits : ic I' h' w'
 le : Le I I'
 os : w'.os = w.os
 tape : w'.tape = w.tape
 output : w'.output = w.output
 size : w.heap.size ≤ w'.heap.size
 kept : ∀ b,b < w.heap.size → h b = none → w'.heap[b]? = w.heap[b]?∧h' b = none∧I' b = I b
theorem cZ.refl {I h : Hp} {w : World} (f : ic I h w) : cZ I h w I h w :=
 ⟨f,Le.refl I,rfl,rfl,rfl,Nat.le_refl _,fun _ _ e=>⟨rfl,e,rfl⟩⟩
theorem cZ.trans {I h I1 h1 I2 h2 : Hp} {w w1 w2 : World} (a : cZ I h w I1 h1 w1) (b : cZ I1 h1 w1 I2 h2 w2) : cZ I h w I2 h2 w2 :=
 ⟨b.fits,a.le.trans b.le,b.os.trans a.os,b.tape.trans a.tape,b.output.trans a.output,Nat.le_trans a.size b.size,fun k hk e=>by
  obtain ⟨x1,x2,x3⟩:=a.kept k hk e
  obtain ⟨y1,y2,y3⟩:=b.kept k (Nat.lt_of_lt_of_le hk a.size) x2
  exact ⟨y1.trans x1,y2,y3.trans x3⟩⟩
theorem cZ.less {I h k I' h' : Hp} {w w' : World} (g : cZ I k w I' h' w') (hk : Le k h) : cZ I h w I' h' w' :=
 ⟨g.fits,g.le,g.os,g.tape,g.output,g.size,fun b hb e=>g.kept b hb (by
  cases hq : k b with
  | none=>rfl
  | some o=>rw [hk b o hq] at e; cases e)⟩
theorem cZ.drew {I h : Hp} {w : World} (f : ic I h w) : cZ I h w I h { w with drawn:=w.drawn + 1 } :=
 ⟨⟨f.imm,f.own,f.sep⟩,Le.refl I,rfl,rfl,rfl,Nat.le_refl _,fun _ _ e=>⟨rfl,e,rfl⟩⟩
def gz (h h1 h2 : Hp) : Prop:=Le h1 h∧Le h2 h∧∀ b o,h1 b = some o → h2 b = none
def iT (h1 h2 : Hp) : Hp:=fun b=>match h1 b with | some o=>some o | none=>h2 b
theorem ou {h1 h2 : Hp} : Le h1 (iT h1 h2):=fun b o h=>by simp [iT,h]
theorem rC {h1 h2 : Hp} (d : ∀ b o,h1 b = some o → h2 b = none) : Le h2 (iT h1 h2):=fun b o h=>by
 cases e : h1 b with
 | none=>simp [iT,e,h]
 | some u=>rw [d b u e] at h; cases h
theorem oR {h1 h2 : Hp} {b : Nat} : iT h1 h2 b = none ↔ h1 b = none∧h2 b = none:=by
 unfold iT; cases h1 b <;> simp
theorem cZ.frame {I h h1 h2 I' dx : Hp} {w w' : World} (f : ic I h w) (s : gz h h1 h2) (g : cZ I h1 w I' dx w') :
  cZ I h w I' (iT dx h2) w'∧gz (iT dx h2) dx h2:=by
 have n2 : ∀ b o,h2 b = some o → b < w.heap.size∧h1 b = none:=fun b o e=>⟨gO (f.own b o (s.2.1 b o e)),by
  cases q : h1 b with
  | none=>rfl
  | some u=>rw [s.2.2 b u q] at e; cases e⟩
 have d : ∀ b o,dx b = some o → h2 b = none:=fun b o e=>by
  cases q : h2 b with
  | none=>rfl
  | some u =>
   obtain ⟨x,y⟩:=n2 b u q
   rw [(g.kept b x y).2.1] at e; cases e
 refine ⟨⟨⟨g.fits.imm,fun b o e=>?_,fun b o e=>?_⟩,g.le,g.os,g.tape,g.output,g.size,fun b hb e=>?_⟩,ou,rC d,d⟩
 ·cases q : dx b with
  | some u=>rw [iT,q] at e; exact g.fits.own b o (q.trans e)
  | none =>
   rw [iT,q] at e
   obtain ⟨x,y⟩:=n2 b o e
   rw [(g.kept b x y).1]; exact f.own b o (s.2.1 b o e)
 ·cases q : dx b with
  | some u=>exact g.fits.sep b u q
  | none =>
   rw [iT,q] at e
   obtain ⟨x,y⟩:=n2 b o e
   rw [(g.kept b x y).2.2]; exact f.sep b o (s.2.1 b o e)
 ·have e1 : h1 b = none:=by
   cases q : h1 b with
   | none=>rfl
   | some u=>rw [s.1 b u q] at e; cases e
  have e2 : h2 b = none:=by
   cases q : h2 b with
   | none=>rfl
   | some u=>rw [s.2.1 b u q] at e; cases e
  obtain ⟨x,y,z⟩:=g.kept b hb e1
  exact ⟨x,oR.2 ⟨y,e2⟩,z⟩
structure bu where
 P : Hp → Hp → Prop
 mono : ∀ {I I' h},Le I I' → P I h → P I' h
 pers : Bool
 free : pers = true → ∀ {I h h'},P I h → P I h'
def cf : List bu → Hp → Hp → Prop
 | [],_,_=>True
 | A::As,I,h=>∃ h1 h2,gz h h1 h2∧A.P I h1∧cf As I h2
theorem gz.of_less {h k h1 h2 : Hp} (s : gz k h1 h2) (hk : Le k h) : gz h h1 h2:=⟨s.1.trans hk,s.2.1.trans hk,s.2.2⟩
theorem gz.none_l (h : Hp) : gz h (fun _=>none) h:=⟨(fun _ _ e=>by cases e),Le.refl h,(fun _ _ e=>by cases e)⟩
theorem mN : ∀ {As : List bu} {I h k : Hp},Le k h → cf As I k → cf As I h
 | [],_,_,_,_,_=>trivial
 | _::_,_,_,_,hk,⟨h1,h2,s,p,q⟩=>⟨h1,h2,s.of_less hk,p,q⟩
theorem jk : ∀ {As : List bu} {I I' h : Hp},Le I I' → cf As I h → cf As I' h
 | [],_,_,_,_,_=>trivial
 | A::_,_,_,_,hI,⟨h1,h2,s,p,q⟩=>⟨h1,h2,s,A.mono hI p,jk hI q⟩
theorem cX : ∀ {As Bs : List bu} {I h ha hb : Hp},gz h ha hb → cf As I ha → cf Bs I hb → cf (As ++ Bs) I h
 | [],_,_,_,_,_,s,_,q=>mN s.2.1 q
 | _::_,_,_,_,_,_,s,⟨h1,h2,t,p,r⟩,q =>
  ⟨h1,iT h2 (fun b=>match h2 b with | some _=>none | none=>_),⟨t.1.trans s.1,(fun b o e=>by
    cases x : h2 b with
    | some u=>simp [iT,x] at e; rw [← e]; exact s.1 b u (t.2.1 b u x)
    | none=>simp [iT,x] at e; exact s.2.1 b o e),fun b o e=>oR.2 ⟨t.2.2 b o e,by simp [t.2.2 b o e]; exact s.2.2 b o (t.1 b o e)⟩⟩,p,
   cX ⟨ou,(fun b o e=>by
    cases x : h2 b with
    | some u=>rw [s.2.2 b u (t.2.1 b u x)] at e; cases e
    | none=>simp [iT,x]; exact e),fun b o e=>s.2.2 b o (t.2.1 b o e)⟩ r q⟩
theorem fT : ∀ {As Bs : List bu} {I h : Hp},cf (As ++ Bs) I h → ∃ ha hb,gz h ha hb∧cf As I ha∧cf Bs I hb
 | [],_,_,h,q=>⟨fun _=>none,h,gz.none_l h,trivial,q⟩
 | _::_,_,_,_,⟨h1,_,s,p,q⟩=>by
  obtain ⟨ha,hb,t,x,y⟩:=fT q
  have d : ∀ b o,h1 b = some o → ha b = none∧hb b = none:=fun b o e=>by
   have:=s.2.2 b o e
   constructor
   ·cases z : ha b with
    | none=>rfl
    | some u=>rw [t.1 b u z] at this; cases this
   ·cases z : hb b with
    | none=>rfl
    | some u=>rw [t.2.1 b u z] at this; cases this
  refine ⟨iT h1 ha,hb,⟨fun b o e=>?_,t.2.1.trans s.2.1,fun b o e=>?_⟩,⟨h1,ha,⟨ou,rC fun b o e=>(d b o e).1,fun b o e=>(d b o e).1⟩,p,x⟩,y⟩
  ·cases z : h1 b with
   | some u=>rw [iT,z] at e; exact s.1 b o (z.trans e)
   | none=>rw [iT,z] at e; exact s.2.1 b o (t.1 b o e)
  ·cases z : h1 b with
   | some u=>exact (d b u z).2
   | none=>rw [iT,z] at e; exact t.2.2 b o e
theorem db : ∀ {As : List bu} {k : Nat} {A : bu} {I h : Hp},As[k]? = some A → cf As I h →
  ∃ h1,Le h1 h∧A.P I h1∧∀ (A' : bu) (I' dx h' : Hp),Le I I' → A'.P I' dx → Le dx h' → (∀ b o,h b = some o → h1 b = none → h' b = some o∧dx b = none) →
   cf (As.set k A') I' h'
 | [],_,_,_,_,e,_=>by cases e
 | B::Bs,0,A,I,h,e,⟨h1,h2,s,p,q⟩=>by
  obtain rfl : B = A:=by simpa using e
  refine ⟨h1,s.1,p,fun A' I' dx h' hI p' l1 l2=>⟨dx,h2,⟨l1,fun b o x=>?_,fun b o x=>?_⟩,p',jk hI q⟩⟩
  ·refine (l2 b o (s.2.1 b o x) ?_).1
   cases z : h1 b with
   | none=>rfl
   | some u=>rw [s.2.2 b u z] at x; cases x
  ·cases y : h2 b with
   | none=>rfl
   | some u =>
    have : h1 b = none:=by
     cases z : h1 b with
     | none=>rfl
     | some v=>rw [s.2.2 b v z] at y; cases y
    rw [(l2 b u (s.2.1 b u y) this).2] at x; cases x
 | B::Bs,k + 1,A,I,h,e,⟨h1,h2,s,p,q⟩=>by
  obtain ⟨g1,l,pa,f⟩:=db (k:=k) (by simpa using e) q
  have ne : ∀ b o,h1 b = some o → g1 b = none:=fun b o x=>by
   cases z : g1 b with
   | none=>rfl
   | some u=>have:=l b u z; rw [s.2.2 b o x] at this; cases this
  refine ⟨g1,l.trans s.2.1,pa,fun A' I' g1' h' hI p' l1 l2=>⟨h1,fun b=>match h1 b with | some _=>none | none=>h' b,⟨fun b o x=>?_,fun b o x=>?_,fun b o x=>by simp [x]⟩,B.mono hI p,?_⟩⟩
  ·exact (l2 b o (s.1 b o x) (ne b o x)).1
  ·cases z : h1 b with
   | some u=>simp [z] at x
   | none=>simpa [z] using x
  ·refine f A' I' g1' _ hI p' (fun b o x=>?_) (fun b o x y=>?_)
   ·cases z : h1 b with
    | some u=>have:=(l2 b u (s.1 b u z) (ne b u z)).2; rw [this] at x; cases x
    | none=>simpa [z] using l1 b o x
   ·have z : h1 b = none:=by
     cases z : h1 b with
     | none=>rfl
     | some v=>rw [s.2.2 b v z] at x; cases x
    have:=l2 b o (s.2.1 b o x) y
    simpa [z] using this
def eC : List Nat → List bu → Bool
 | [],_=>true
 | k::ks,As=>(match As[k]? with | some A=>!ks.contains k || A.pers | none=>false) && eC ks As
def sel (ks : List Nat) (As : List bu) : List bu:=ks.filterMap (As[·]?)
def zt : bu:=⟨fun _ _=>True,fun _ _=>trivial,true,fun _ {_ _ _} _=>trivial⟩
theorem uo {As : List bu} {k : Nat} {A : bu} {I h : Hp} (hk : As[k]? = some A) (hp : A.pers = true) (q : cf As I h) : cf (A::As) I h:=by
 obtain ⟨h1,_,p,_⟩:=db hk q
 exact ⟨fun _=>none,h,gz.none_l h,A.free hp p,q⟩
theorem sE {As : List bu} {k : Nat} {A : bu} {I h : Hp} (hk : As[k]? = some A) (q : cf As I h) : ∃ h1 h2,gz h h1 h2∧A.P I h1∧cf (As.set k zt) I h2:=by
 obtain ⟨h1,l,p,f⟩:=db hk q
 refine ⟨h1,fun b=>match h1 b with | some _=>none | none=>h b,⟨l,fun b o x=>?_,fun b o x=>by simp [x]⟩,p,?_⟩
 ·cases z : h1 b with
  | some u=>simp [z] at x
  | none=>simpa [z] using x
 ·exact f zt I (fun _=>none) _ (Le.refl I) trivial (fun _ _ e=>by cases e) (fun b o x y=>⟨by simpa [y] using x,rfl⟩)
theorem rY {A : bu} {k : Nat} {As : List bu} : ∀ {ks : List Nat},(∀ j ∈ ks,j ≠ k) → sel ks (As.set k A) = sel ks As
 | [],_=>rfl
 | j::ks,h=>by
  have e:=rY (A:=A) (k:=k) (As:=As) (ks:=ks) fun i hi=>h i (by simp [hi])
  unfold sel at *
  simp only [List.filterMap_cons]
  rw [List.getElem?_set_ne (Ne.symm (h j (by simp))),e]
theorem hM : ∀ {ks : List Nat} {As : List bu} {I h : Hp},eC ks As = true → cf As I h → cf (sel ks As) I h
 | [],_,_,_,_,_=>trivial
 | k::ks,As,I,h,hs,q=>by
  simp only [eC,Bool.and_eq_true] at hs
  obtain ⟨h1,h2⟩:=hs
  cases hk : As[k]? with
  | none=>simp [hk] at h1
  | some A =>
   simp only [hk] at h1
   have e : sel (k::ks) As = A::sel ks As:=by simp [sel,hk]
   rw [e]
   cases hp : A.pers with
   | true =>
    obtain ⟨g1,g2,s,p,r⟩:=uo hk hp q
    exact ⟨g1,g2,s,p,hM h2 r⟩
   | false =>
    have hn : ks.contains k = false:=by simpa [hp] using h1
    obtain ⟨g1,g2,s,p,r⟩:=sE hk q
    have hno : ∀ j ∈ ks,j ≠ k:=fun j hj he=>by subst he; simp [hj] at hn
    have e1 : sel ks (As.set k zt) = sel ks As:=by
     exact rY hno
    have e2 : ∀ (l : List Nat),(∀ j ∈ l,j ≠ k) → eC l (As.set k zt) = eC l As:=by
     intro l
     induction l with
     | nil=>intro _; rfl
     | cons j l ih =>
      intro hl
      simp only [eC]
      rw [List.getElem?_set_ne (Ne.symm (hl j (by simp))),ih fun i hi=>hl i (by simp [hi])]
    exact ⟨g1,g2,s,p,e1 ▸ hM (by rw [e2 ks hno]; exact h2) r⟩
theorem qN {s t : Nat} (h : s ≠ t) : Nat.beq s t = false:=by
 cases e : Nat.beq s t with
 | false=>rfl
 | true=>exact absurd (Nat.eq_of_beq_eq_true e) h
def upd (e : Env) (t : Nat) (v : Value) : Env:=fun s=>bif Nat.beq s t then v else e s
def re (e : Env) : List (Nat × Value) → Env
 | []=>e
 | (t,v)::l=>upd (re e l) t v
def lk (e : Env) : List (Nat × Value) → Prop
 | []=>True
 | (t,v)::l=>e t = v∧lk e l
theorem tJ {e : Env} {t : Nat} {v : Value} (h : e t = v) : upd e t v = e:=by
 funext s
 unfold upd
 by_cases hs : s = t
 ·subst hs; simp [h]
 ·have : Nat.beq s t = false:=qN hs
  simp [this]
theorem lJ : ∀ {e : Env} {l : List (Nat × Value)},lk e l → e = re e l
 | _,[],_=>rfl
 | e,(t,v)::l,⟨h,k⟩=>by
  rw [re,← lJ k]
  exact (tJ h).symm
def ev (e : Env) : Operand → Value
 | .tmp t=>e t
 | .const v=>v
 | .global g=>.pointer (some ⟨g,0,none⟩)
 | .func f=>.func (.func f) #[] #[]
structure mf (n : Nat) (e : Env) (ds : List Deferred) (a : Act) : Prop where
 size : a.tmps.size = n
 get : ∀ t,a.tmps.getD t undef = e t
 defers : a.defers = ds
theorem mf.eval {n : Nat} {e : Env} {ds : List Deferred} {a : Act} (r : mf n e ds a) : a.eval = ev e:=by
 funext x
 cases x <;> simp only [Act.eval,ev]
 exact r.get _
def put (e : Env) (d : Option Nat) (v : Value) : Env:=match d with | some t=>upd e t v | none=>e
def bZ (d : Option Nat) (n : Nat) : Bool:=match d with | some t=>Nat.blt t n | none=>true
theorem mf.put {n : Nat} {e : Env} {ds : List Deferred} {a : Act} (r : mf n e ds a) {d : Option Nat} (hd : bZ d n = true) (v : Value) : mf n (put e d v) ds (a.put d v):=by
 cases d with
 | none=>exact r
 | some t =>
  have ht : t < a.tmps.size:=by rw [r.size]; simpa [bZ] using hd
  refine ⟨by simp [Act.put,r.size],fun s=>?_,r.defers⟩
  simp only [Act.put,SL.put,upd]
  by_cases hs : s = t
  ·subst hs; simp [Array.getElem?_setIfInBounds,ht]
  ·have h1 : Nat.beq s t = false:=qN hs
   have:=r.get s
   simp only [h1,cond_false]
   rw [← this]
   simp [Array.getElem?_setIfInBounds,Ne.symm hs]
abbrev dz:=Exit → Env → List Deferred → List bu → Prop
def en (n : Nat) (Q : dz) (I h : Hp) (w : World) : Exit → Act → World → Prop:=fun x a' w' =>
 ∃ e' ds' As' I' h',mf n e' ds' a'∧cf As' I' h'∧cZ I h w I' h' w'∧Q x e' ds' As'
def SA (P : Program) (n : Nat) (c : Code) (Q : dz) (e : Env) (ds : List Deferred) (As : List bu) : Prop :=
 ∀ I h a w,cf As I h → mf n e ds a → ic I h w → c.wp P (en n Q I h w) a w
section
variable {P : Program} {n : Nat} {Q : dz} {e : Env} {ds : List Deferred} {As : List bu}
theorem en.mono {Q' : dz} (hq : ∀ x e ds As,Q x e ds As → Q' x e ds As) {I h : Hp} {w : World} {x : Exit} {a : Act} {w' : World} (p : en n Q I h w x a w') : en n Q' I h w x a w':=by
 obtain ⟨e',ds',As',I',h',r,s,g,q⟩:=p
 exact ⟨e',ds',As',I',h',r,s,g,hq _ _ _ _ q⟩
theorem SA.mono {c : Code} {Q' : dz} (h : SA P n c Q e ds As) (hq : ∀ x e ds As,Q x e ds As → Q' x e ds As) : SA P n c Q' e ds As :=
 fun I h' a w s r f=>wp_mono (h I h' a w s r f) fun _ _ _ p=>en.mono hq p
theorem SA.conv {c : Code} {Bs : List bu} (hv : ∀ I h,cf As I h → cf Bs I h) (h : SA P n c Q e ds Bs) : SA P n c Q e ds As :=
 fun I h' a w s r f=>h I h' a w (hv I h' s) r f
theorem ap (h : Q .normal e ds As) : SA P n .skip Q e ds As:=fun I h' a w s r f=>wp_skip ⟨e,ds,As,I,h',r,s,cZ.refl f,h⟩
theorem ct {id : Nat} (h : Q (.exit id) e ds As) : SA P n (.exit id) Q e ds As:=fun I h' a w s r f=>wp_exit ⟨e,ds,As,I,h',r,s,cZ.refl f,h⟩
theorem fa (h : Q .ret e ds As) : SA P n .ret Q e ds As:=fun I h' a w s r f=>wp_ret ⟨e,ds,As,I,h',r,s,cZ.refl f,h⟩
def thn (K : Env → List Deferred → List bu → Prop) (Q : dz) : dz
 | .normal=>K
 | x=>Q x
theorem ao {x y : Code} (h : SA P n x (thn (SA P n y Q) Q) e ds As) : SA P n (.seq x y) Q e ds As:=by
 intro I h' a w s r f
 refine wp_seq (wp_mono (h I h' a w s r f) fun ex a1 w1 p=>?_)
 obtain ⟨e1,ds1,As1,I1,h1,r1,s1,g1,q⟩:=p
 cases ex with
 | normal =>
  refine wp_mono (q I1 h1 a1 w1 s1 r1 g1.fits) fun ex a2 w2 p=>?_
  obtain ⟨e2,ds2,As2,I2,h2,r2,s2,g2,q2⟩:=p
  exact ⟨e2,ds2,As2,I2,h2,r2,s2,g1.trans g2,q2⟩
 | _=>exact ⟨e1,ds1,As1,I1,h1,r1,s1,g1,q⟩
theorem sk {c : Operand} {x y : Code} {p : Prop} [Decidable p] (hc : ev e c = .bool (decide p)) (ht : p → SA P n x Q e ds As) (hf : ¬p → SA P n y Q e ds As) : SA P n (.cond c x y) Q e ds As:=by
 intro I h' a w s r f
 have hc' : a.eval c = .bool (decide p):=by rw [r.eval]; exact hc
 by_cases hp : p
 ·exact wp_cond_true (by simpa [hp] using hc') (ht hp I h' a w s r f)
 ·exact wp_cond_false (by simpa [hp] using hc') (hf hp I h' a w s r f)
theorem qD {c : Operand} {x y : Code} {b : Bool} (hc : ev e c = .bool b) (ht : b = true → SA P n x Q e ds As) (hf : b = false → SA P n y Q e ds As) : SA P n (.cond c x y) Q e ds As:=by
 intro I h' a w s r f
 have hc' : a.eval c = .bool b:=by rw [r.eval]; exact hc
 cases b
 ·exact wp_cond_false hc' (hf rfl I h' a w s r f)
 ·exact wp_cond_true hc' (ht rfl I h' a w s r f)
def inb (id : Nat) (Q : dz) : dz
 | .exit i=>fun e ds As=>bif Nat.beq i id then Q .normal e ds As else Q (.exit i) e ds As
 | x=>Q x
theorem aU {id : Nat} {c : Code} (h : SA P n c (inb id Q) e ds As) : SA P n (.block id c) Q e ds As:=by
 intro I h' a w s r f
 refine wp_block (wp_mono (h I h' a w s r f) fun ex a1 w1 p=>?_)
 obtain ⟨e1,ds1,As1,I1,h1,r1,s1,g1,q⟩:=p
 cases ex with
 | exit i =>
  by_cases hi : i = id
  ·subst hi
   simp only [Exit.inBlock,if_true]
   exact ⟨e1,ds1,As1,I1,h1,r1,s1,g1,by simpa [inb] using q⟩
  ·have hb : Nat.beq i id = false:=qN hi
   simp only [Exit.inBlock,hi,if_false]
   exact ⟨e1,ds1,As1,I1,h1,r1,s1,g1,by simpa [inb,hb] using q⟩
 | _=>exact ⟨e1,ds1,As1,I1,h1,r1,s1,g1,q⟩
theorem cw {c : Code} (J : Nat → Env → List Deferred → List bu → Prop) {k : Nat} (h0 : J k e ds As)
  (round : ∀ k e ds As,J k e ds As → SA P n c (thn (fun e ds As=>∃ k',k' < k∧J k' e ds As) Q) e ds As) : SA P n (.loop c) Q e ds As:=by
 intro I0 h0' a0 w0 s0 r0 f0 b kk cs
 have key : ∀ m k e ds As I h a w,k = m → J k e ds As → cf As I h → mf n e ds a → ic I h w → cZ I0 h0' w0 I h w →
   ∃ x a' w',en n Q I0 h0' w0 x a' w'∧Arrives P (lone (b.at a (.code c::.inLoop c::kk)) cs w) b kk cs x a' w':=by
  intro m
  induction m using Nat.strongRecOn with
  | _ m ih =>
   intro k e ds As I h a w hk hJ s r f g0
   obtain ⟨x,a1,w1,⟨e1,ds1,As1,I1,h1,r1,s1,g1,q⟩,harr⟩:=round k e ds As hJ I h a w s r f b (.inLoop c::kk) cs
   cases x with
   | normal =>
    obtain ⟨k',hlt,hJ'⟩:=q
    obtain ⟨x2,a2,w2,hq2,harr2⟩:=ih k' (hk ▸ hlt) k' e1 ds1 As1 I1 h1 a1 w1 rfl hJ' s1 r1 g1.fits (g0.trans g1)
    exact ⟨x2,a2,w2,hq2,.of_steps (Steps.trans harr (.one step_inLoop)) harr2⟩
   | exit id=>exact ⟨_,a1,w1,⟨e1,ds1,As1,I1,h1,r1,s1,g0.trans g1,q⟩,.pass (x:=.inLoop c) rfl (fun _ _=>.inl (by simp)) harr⟩
   | goto l=>exact ⟨_,a1,w1,⟨e1,ds1,As1,I1,h1,r1,s1,g0.trans g1,q⟩,.pass (x:=.inLoop c) rfl (fun _ _=>.inl (by simp)) harr⟩
   | ret=>exact ⟨_,a1,w1,⟨e1,ds1,As1,I1,h1,r1,s1,g0.trans g1,q⟩,.pass (x:=.inLoop c) rfl (fun _ _=>.inl (by simp)) harr⟩
   | panic ch=>exact ⟨_,a1,w1,⟨e1,ds1,As1,I1,h1,r1,s1,g0.trans g1,q⟩,.pass (x:=.inLoop c) rfl (fun _ _=>.inl (by simp)) harr⟩
   | outgrown=>exact ⟨_,a1,w1,⟨e1,ds1,As1,I1,h1,r1,s1,g0.trans g1,q⟩,.pass (x:=.inLoop c) rfl (fun _ _=>.inl (by simp)) harr⟩
 obtain ⟨x,a',w',hq,harr⟩:=key k k e ds As I0 h0' a0 w0 rfl h0 s0 r0 f0 (cZ.refl f0)
 exact ⟨x,a',w',hq,.of_steps (.one step_loop) harr⟩
def OA (P : Program) (n : Nat) (o : Oper) (K : Env → List Deferred → List bu → Prop) (Q : dz) (e : Env) (ds : List Deferred) (As : List bu) : Prop :=
 ∀ I h a w,cf As I h → mf n e ds a → ic I h w →
  o.wp P a w (fun a' w'=>∃ e' ds' As' I' h',mf n e' ds' a'∧cf As' I' h'∧cZ I h w I' h' w'∧K e' ds' As') (en n Q I h w)
def RA (P : Program) (n : Nat) (ops : Array Oper) (Q : dz) : List Oper → Env → List Deferred → List bu → Prop
 | [],e,ds,As=>Q .normal e ds As
 | o::os,e,ds,As=>∀ I h a w,cf As I h → mf n e ds a → ic I h w →
   (Region.wanted o (yielded ops a.tmps) = true∧o.wp P a w (fun a' w'=>∃ e' ds' As' I' h',mf n e' ds' a'∧cf As' I' h'∧cZ I h w I' h' w'∧RA P n ops Q os e' ds' As') (en n Q I h w)) ∨
   (Region.wanted o (yielded ops a.tmps) = false∧bZ o.dst n = true∧RA P n ops Q os (put e o.dst undef) ds As)
theorem lG {ops : Array Oper} {o : Oper} {os : List Oper} (hg : o.guard = none) (h : OA P n o (RA P n ops Q os) Q e ds As) : RA P n ops Q (o::os) e ds As :=
 fun I h' a w s r f=>.inl ⟨by simp [Region.wanted,hg],h I h' a w s r f⟩
theorem gQ {ops : Array Oper} {a : Act} (r : mf n e ds a) {j : Nat} {d : Nat} (hj : (ops[j]?).bind (·.dst) = some d) (hd : d < n) : yielded ops a.tmps j = match e d with | .bool b=>some b | _=>none:=by
 have hlt : d < a.tmps.size:=by rw [r.size]; exact hd
 have hg:=r.get d
 simp [Array.getElem?_eq_getElem hlt] at hg
 simp only [yielded,hj,Option.bind_some,Array.getElem?_eq_getElem hlt,hg]
 cases e d <;> rfl
theorem xk {ops : Array Oper} {o : Oper} {os : List Oper} {j d : Nat} {want : Bool} (hg : o.guard = some (j,want)) (hj : (ops[j]?).bind (·.dst) = some d) (hd : Nat.blt d n = true) (hv : e d = .bool want)
  (h : OA P n o (RA P n ops Q os) Q e ds As) : RA P n ops Q (o::os) e ds As :=
 fun I h' a w s r f=>.inl ⟨by simp [Region.wanted,hg,gQ r hj (by simpa using hd),hv],h I h' a w s r f⟩
theorem xX {ops : Array Oper} {o : Oper} {os : List Oper} {j d : Nat} {want : Bool} (hg : o.guard = some (j,want)) (hj : (ops[j]?).bind (·.dst) = some d) (hd : Nat.blt d n = true) (hv : e d = .bool (!want))
  (ho : bZ o.dst n = true) (h : RA P n ops Q os (put e o.dst undef) ds As) : RA P n ops Q (o::os) e ds As :=
 fun I h' a w s r f=>.inr ⟨by simp [Region.wanted,hg,gQ r hj (by simpa using hd),hv],ho,h⟩
theorem lf {ops : Array Oper} {I0 h0 : Hp} {w0 : World} : ∀ (os : List Oper) (l : List Nat) (e : Env) (ds : List Deferred) (As : List bu) (I h : Hp) (a : Act) (w : World),
  l.map (ops[·]?) = os.map some → RA P n ops Q os e ds As → cf As I h → mf n e ds a → ic I h w → cZ I0 h0 w0 I h w → wpOps P ops (en n Q I0 h0 w0) l a w
 | [],[],e,ds,As,I,h,a,w,_,hr,s,r,f,g=>⟨e,ds,As,I,h,r,s,g,hr⟩
 | [],_::_,_,_,_,_,_,_,_,hl,_,_,_,_,_=>by simp at hl
 | _::_,[],_,_,_,_,_,_,_,hl,_,_,_,_,_=>by simp at hl
 | o::os,i::l,e,ds,As,I,h,a,w,hl,hr,s,r,f,g=>by
  simp only [List.map_cons,List.cons.injEq] at hl
  obtain ⟨hi,hl⟩:=hl
  simp only [wpOps,hi]
  rcases hr I h a w s r f with ⟨hw,hwp⟩ | ⟨hw,hd,hk⟩
  ·simp only [hw,if_true]
   refine .inl ?_
   have post : ∀ ex a' w',en n Q I h w ex a' w' → en n Q I0 h0 w0 ex a' w':=fun ex a' w' p=>by
    obtain ⟨e',ds',As',I',h',r',s',g',q⟩:=p
    exact ⟨e',ds',As',I',h',r',s',g.trans g',q⟩
   have next : ∀ a' w',(∃ e' ds' As' I' h',mf n e' ds' a'∧cf As' I' h'∧cZ I h w I' h' w'∧RA P n ops Q os e' ds' As') → wpOps P ops (en n Q I0 h0 w0) l a' w':=fun a' w' p=>by
    obtain ⟨e',ds',As',I',h',r',s',g',q⟩:=p
    exact lf os l e' ds' As' I' h' a' w' hl q s' r' g'.fits (g.trans g')
   unfold Oper.wp at *
   generalize (execOp a.eval o).run P w = fC at *
   cases fC with
   | ok x w' =>
    cases x <;> simp only [Oper.upon] at hwp ⊢ <;> first
     | exact next _ _ hwp
     | exact Calls.mono hwp (fun ee w'' he=>by cases ee <;> first | exact next _ _ he | exact post _ _ _ he | (obtain ⟨a2,w2,q⟩:=he; exact ⟨a2,w2,post _ _ _ q⟩))
     | exact Rows.mono hwp (fun _ _ he=>next _ _ he)
   | halt x w'=>cases x <;> simp only [Oper.upon] at hwp ⊢ <;> exact post _ _ _ hwp
  ·simp only [hw,Bool.false_eq_true,if_false]
   exact lf os l (put e o.dst undef) ds As I h (a.put o.dst undef) w hl hk s (r.put hd undef) f g
theorem ah {id : Nat} {ops : List Oper} (h : RA P n ops.toArray Q ops e ds As) : SA P n (.region id ops.toArray false) Q e ds As:=by
 intro I h' a w s r f
 refine wp_region (lf ops _ e ds As I h' a w ?_ h s r f (cZ.refl f))
 apply List.ext_getElem?
 intro i
 simp only [List.getElem?_map,List.size_toArray,List.getElem?_range',List.getElem?_toArray]
 by_cases hi : i < ops.length
 ·simp [List.getElem?_range,hi]
 ·simp [List.getElem?_eq_none (Nat.le_of_not_lt hi),List.getElem?_range,hi]
theorem wE {o : Oper} {K : Env → List Deferred → List bu → Prop} (v : Value) (hd : bZ o.dst n = true) (hv : ∀ w,(execOp (ev e) o).run P w = .ok (.value v) w) (h : K (put e o.dst v) ds As) : OA P n o K Q e ds As:=by
 intro I h' a w s r f
 unfold Oper.wp
 rw [r.eval,hv w]
 exact ⟨_,ds,As,I,h',r.put hd v,s,cZ.refl f,h⟩
theorem uC {o : Oper} {K : Env → List Deferred → List bu → Prop} (v : Value) (hd : bZ o.dst n = true) (hv : ∀ I h w,cf As I h → ic I h w → (execOp (ev e) o).run P w = .ok (.value v) w) (h : K (put e o.dst v) ds As) : OA P n o K Q e ds As:=by
 intro I h' a w s r f
 unfold Oper.wp
 rw [r.eval,hv I h' w s f]
 exact ⟨_,ds,As,I,h',r.put hd v,s,cZ.refl f,h⟩
def SC (P : Program) (f : FuncId) (args : Array Value) (pre : List bu) (R : Ending → List bu → Prop) : Prop :=
 ∀ I h w,cf pre I h → ic I h w → Calls P f args w fun x w'=>x ≠ .outgrown∧∃ As' I' h',cf As' I' h'∧cZ I h w I' h' w'∧R x As'
theorem SC.mono {f : FuncId} {args : Array Value} {pre : List bu} {R R' : Ending → List bu → Prop} (h : SC P f args pre R) (hr : ∀ x As,R x As → R' x As) : SC P f args pre R' :=
 fun I h' w s ft=>(h I h' w s ft).mono fun _ _ ⟨hx,As',I',h'',s',g,r⟩=>⟨hx,As',I',h'',s',g,hr _ _ r⟩
def jc (P : Program) (fn : Func) (R : Ending → List bu → Prop) : dz
 | .normal,e,ds,As | .ret,e,ds,As=>ds = []∧∃ v,(∀ I h w (tmps : Array Value),(∀ t,tmps.getD t undef = e t) → cf As I h → ic I h w → (results fn tmps).run P w = .ok v w)∧R (.returned v) As
 | .panic chain,_,ds,As=>ds = []∧R (.panicked chain) As
 | _,_,_,_=>False
def ve (args : Array Value) : Env:=fun t=>args.getD t undef
theorem qS {f : FuncId} {fn : Func} {c : Code} {args : Array Value} {pre : List bu} {R : Ending → List bu → Prop} (hf : P.funcs[f]? = some fn) (hb : fn.body = some c) (ha : args.size ≤ fn.ntmps)
  (h : SA P fn.ntmps c (jc P fn R) (ve args) [] pre) : SC P f args pre R:=by
 intro I h' w s ft
 refine calls_of_wp hf hb (wp_mono (h I h' { tmps:=args ++ Array.replicate (fn.ntmps - args.size) undef,defers:=[] } w s ⟨by simp; omega,fun t=>?_,rfl⟩ ft) fun ex a1 w1 p=>?_)
 ·simp only [ve]
  rcases Nat.lt_or_ge t args.size with k | k
  ·simp [Array.getElem?_append_left k]
  ·simp only [Array.getD_eq_getD_getElem?]
   rw [Array.getElem?_append_right k,Array.getElem?_eq_none k]
   simp only [Array.getElem?_replicate]
   split <;> rfl
 ·obtain ⟨e1,ds1,As1,I1,h1,r1,s1,g1,q⟩:=p
  cases ex with
  | normal =>
   obtain ⟨hd,v,hr,hR⟩:=q
   exact ⟨r1.defers.trans hd,v,hr I1 h1 w1 _ r1.get s1 g1.fits,by simp,As1,I1,h1,s1,g1,hR⟩
  | ret =>
   obtain ⟨hd,v,hr,hR⟩:=q
   exact ⟨r1.defers.trans hd,v,hr I1 h1 w1 _ r1.get s1 g1.fits,by simp,As1,I1,h1,s1,g1,hR⟩
  | panic chain =>
   obtain ⟨hd,hR⟩:=q
   exact ⟨r1.defers.trans hd,by simp,As1,I1,h1,s1,g1,hR⟩
  | exit id=>exact q.elim
  | goto l=>exact q.elim
  | outgrown=>exact q.elim
end
end Go.Proofs.YtckilbegmbaeeaaGreat.SL
namespace Go.Proofs.YtckilbegmbaeeaaGreat.SL
open Go Go.RowKit
set_option linter.unusedVariables false
set_option linter.unusedSimpArgs false
abbrev V (P : Program) (e : Env) (o : Oper) (v : Value) : Prop:=∀ w,(execOp (ev e) o).run P w = .ok (.value v) w
def gl (k : IntKind) (x y : Int) : Int:=k.wrap (BitVec.ofInt k.bits x &&& BitVec.ofInt k.bits y).toNat
def lH (k : IntKind) (x y : Int) : Int:=k.wrap (BitVec.ofInt k.bits x ||| BitVec.ofInt k.bits y).toNat
def fU (k : IntKind) (x y : Int) : Int:=k.wrap (BitVec.ofInt k.bits x ^^^ BitVec.ofInt k.bits y).toNat
def cN (k : IntKind) (x y : Int) : Int:=k.wrap (BitVec.ofInt k.bits x &&& ~~~BitVec.ofInt k.bits y).toNat
def gp (k : IntKind) (x y : Int) : Int:=k.wrap (x * 2 ^ (min y.toNat k.bits))
def eX (k : IntKind) (x y : Int) : Int:=x.fdiv (2 ^ (min y.toNat k.bits))
def gm (k : IntKind) (x : Int) : Int:=fU k (if k.signed then -1 else k.max) x
def cC (x y : Int) : Int:=if y < x then y else x
def dO (x y : Int) : Int:=if y > x then y else x
section
variable {P : Program} {n : Nat} {e : Env} {d : Option Nat} {ty T T' : TypeId} {pos : String} {aft : Array Edge} {g : Option (Nat × Bool)} {x y c : Operand} {k k' : IntKind} {a b : Int}
theorem tl {v : Value} (hx : ev e x = v) : V P e ⟨d,.move x,ty,pos,aft,g⟩ v:=fun w=>by subst hx; rfl
theorem bz {v : Value} (hx : ev e x = v) : V P e ⟨d,.assign x,ty,pos,aft,g⟩ v:=fun w=>by subst hx; rfl
theorem tg {p : Bool} {u v : Value} (hc : ev e c = .bool p) (hx : ev e x = u) (hy : ev e y = v) : V P e ⟨d,.pick c x y,ty,pos,aft,g⟩ (if p then u else v):=fun w=>by
 subst hx; subst hy; simp [execOp,hc,asBool]
theorem bV (hx : ev e x = .int k a) (hy : ev e y = .int k b) : V P e ⟨d,.binOp .add T x y T',ty,pos,aft,g⟩ (.int k (k.wrap (a + b))):=fun w=>by
 simp [execOp,hx,hy,eqGuard,binOp,Op.intArith]
theorem cY (hx : ev e x = .int k a) (hy : ev e y = .int k b) : V P e ⟨d,.binOp .sub T x y T',ty,pos,aft,g⟩ (.int k (k.wrap (a - b))):=fun w=>by
 simp [execOp,hx,hy,eqGuard,binOp,Op.intArith]
theorem jq (hx : ev e x = .int k a) (hy : ev e y = .int k b) : V P e ⟨d,.binOp .mul T x y T',ty,pos,aft,g⟩ (.int k (k.wrap (a * b))):=fun w=>by
 simp [execOp,hx,hy,eqGuard,binOp,Op.intArith]
theorem yj (hx : ev e x = .int k a) (hy : ev e y = .int k b) (h0 : b ≠ 0) : V P e ⟨d,.binOp .quo T x y T',ty,pos,aft,g⟩ (.int k (k.wrap (a.tdiv b))):=fun w=>by
 simp [execOp,hx,hy,eqGuard,binOp,Op.intDiv,h0]
theorem oZ (hx : ev e x = .int k a) (hy : ev e y = .int k b) (h0 : b ≠ 0) : V P e ⟨d,.binOp .rem T x y T',ty,pos,aft,g⟩ (.int k (a.tmod b)):=fun w=>by
 simp [execOp,hx,hy,eqGuard,binOp,Op.intDiv,h0]
theorem vO (hx : ev e x = .int k a) (hy : ev e y = .int k' b) (h0 : 0 ≤ b) : V P e ⟨d,.binOp .shr T x y T',ty,pos,aft,g⟩ (.int k (eX k a b)):=fun w=>by
 have : ¬ b < 0:=by omega
 simp [execOp,hx,hy,eqGuard,binOp,Op.shift,eX,this]
theorem cn (hx : ev e x = .int k a) (hy : ev e y = .int k b) : V P e ⟨d,.binOp .lss T x y T',ty,pos,aft,g⟩ (.bool (decide (a < b))):=fun w=>by
 simp [execOp,hx,hy,eqGuard,binOp,Op.intCmp]
theorem fV (hx : ev e x = .int k a) (hy : ev e y = .int k b) : V P e ⟨d,.binOp .leq T x y T',ty,pos,aft,g⟩ (.bool (decide (a ≤ b))):=fun w=>by
 simp [execOp,hx,hy,eqGuard,binOp,Op.intCmp]
theorem eR (hx : ev e x = .int k a) (hy : ev e y = .int k b) : V P e ⟨d,.binOp .gtr T x y T',ty,pos,aft,g⟩ (.bool (decide (a > b))):=fun w=>by
 simp [execOp,hx,hy,eqGuard,binOp,Op.intCmp]
theorem dI (hx : ev e x = .int k a) (hy : ev e y = .int k b) : V P e ⟨d,.binOp .geq T x y T',ty,pos,aft,g⟩ (.bool (decide (a ≥ b))):=fun w=>by
 simp [execOp,hx,hy,eqGuard,binOp,Op.intCmp]
theorem bk (hx : ev e x = .int k a) (hy : ev e y = .int k b) : V P e ⟨d,.binOp .eql T x y T',ty,pos,aft,g⟩ (.bool (decide (a = b))):=fun w=>by
 simp [execOp,hx,hy,eqGuard_at_int,binOp,Op.intCmp]
 by_cases h : a = b <;> simp [h]
theorem dK (hx : ev e x = .int k a) (hy : ev e y = .int k b) : V P e ⟨d,.binOp .neq T x y T',ty,pos,aft,g⟩ (.bool (decide (a ≠ b))):=fun w=>by
 simp [execOp,hx,hy,eqGuard_at_int,binOp,Op.intCmp]
 by_cases h : a = b <;> simp [h]
theorem lh (hu : P.underlying T = some .bool) (p q : Bool) (w : World) : (Op.equal T (.bool p) (.bool q)).run P w = .ok (p == q) w:=by
 show (Op.equalIn (9999 + 1) T (.bool p) (.bool q)).run P w = _
 generalize 9999 = m
 simp [Op.equalIn,run_underlying hu]
theorem lq {p q : Bool} (hu : P.underlying T = some .bool) (hx : ev e x = .bool p) (hy : ev e y = .bool q) : V P e ⟨d,.binOp .eql T x y T',ty,pos,aft,g⟩ (.bool (decide (p = q))):=fun w=>by
 have h : (binOp .eql T (.bool p) (.bool q)).run P w = .ok (.bool (p == q)) w:=by
  show (do pure (.bool (← Op.equal T (.bool p) (.bool q))) : Sem Value).run P w = _
  simp [lh hu]
 simp only [execOp,hx,hy,eqGuard_at_bool,Sem.run_bind,Sem.run_pure,Result.andThen_ok,h]
 cases p <;> cases q <;> rfl
theorem rp {p q : Bool} (hu : P.underlying T = some .bool) (hx : ev e x = .bool p) (hy : ev e y = .bool q) : V P e ⟨d,.binOp .neq T x y T',ty,pos,aft,g⟩ (.bool (decide (p ≠ q))):=fun w=>by
 have h : (binOp .neq T (.bool p) (.bool q)).run P w = .ok (.bool (!(p == q))) w:=by
  show (do pure (.bool (!(← Op.equal T (.bool p) (.bool q)))) : Sem Value).run P w = _
  simp [lh hu]
 simp only [execOp,hx,hy,eqGuard_at_bool,Sem.run_bind,Sem.run_pure,Result.andThen_ok,h]
 cases p <;> cases q <;> rfl
theorem ry {s t : ByteArray} : s.toList = t.toList ↔ s = t:=by
 constructor
 ·intro h
  rw [ByteArray.toList_eq,ByteArray.toList_eq] at h
  cases s; cases t
  simpa using h
 ·rintro rfl; rfl
theorem ca {p : Bool} (hx : ev e x = .bool p) : V P e ⟨d,.unOp .not T x,ty,pos,aft,g⟩ (.bool (!p)):=fun w=>by
 simp [execOp,hx,Op.unary]
theorem ms (hx : ev e x = .int k a) : V P e ⟨d,.unOp .neg T x,ty,pos,aft,g⟩ (.int k (k.wrap (0 - a))):=fun w=>by
 simp [execOp,hx,Op.unary,Op.intArith]
theorem jS (hs : (P.underlying T).isSome = true) (hu : P.underlying T' = some (.int k')) (hx : ev e x = .int k a) : V P e ⟨d,.convert T T' x,ty,pos,aft,g⟩ (.int k' (k'.wrap a)):=fun w=>by
 have:=run_convert_int (P:=P) (w:=w) T T' k a
 cases h : P.underlying T with
 | none=>simp [h] at hs
 | some ds=>simp [execOp,hx,convert,run_underlying h,run_underlying hu,Conv.intToInt]
theorem dB {A : Option Addr} {l cp : Nat} {E : TypeId} (hu : P.underlying T = some (.slice E)) (hx : ev e x = .slice A l cp) : V P e ⟨d,.call { callee:=.builtin .len,args:=#[x],argTypes:=#[T] },ty,pos,aft,g⟩ (.int .i64 (l : Int)):=fun w=>by
 simp [execOp,resolve,invoke,builtin,hx,Builtin.len_,run_underlying hu,goInt]
theorem yo {A : Option Addr} {l cp : Nat} {E : TypeId} (hu : P.underlying T = some (.slice E)) (hx : ev e x = .slice A l cp) : V P e ⟨d,.call { callee:=.builtin .cap,args:=#[x],argTypes:=#[T] },ty,pos,aft,g⟩ (.int .i64 (cp : Int)):=fun w=>by
 simp [execOp,resolve,invoke,builtin,hx,Builtin.cap_,run_underlying hu,goInt]
theorem jR {ts : Array TypeId} (hx : ev e x = .int k a) (hy : ev e y = .int k b) : V P e ⟨d,.call { callee:=.builtin .min,args:=#[x,y],argTypes:=ts },ty,pos,aft,g⟩ (.int k (cC a b)):=fun w=>by
 simp [execOp,resolve,invoke,builtin,hx,hy,Builtin.min_,Builtin.min2,cC]
theorem nG {ts : Array TypeId} (hx : ev e x = .int k a) (hy : ev e y = .int k b) : V P e ⟨d,.call { callee:=.builtin .max,args:=#[x,y],argTypes:=ts },ty,pos,aft,g⟩ (.int k (dO a b)):=fun w=>by
 simp [execOp,resolve,invoke,builtin,hx,hy,Builtin.max_,Builtin.max2,dO]
theorem sR {vs : Array Value} {i : Nat} {v : Value} (hx : ev e x = .tuple vs) (hv : vs[i]? = some v) : V P e ⟨d,.extract x i,ty,pos,aft,g⟩ v:=fun w=>by
 simp [execOp,hx,Instr.extract,hv]
theorem ri {A : Addr} (hx : ev e x = .pointer (some A)) : V P e ⟨d,.nilCheck x,ty,pos,aft,g⟩ (.pointer (some A)):=fun w=>by
 simp [execOp,hx]
theorem pT {fs : Array Field} {f : Field} {i : Nat} {A : Addr} (hu : P.underlying T = some (.struct fs)) (hf : fs[i]? = some f) (hz : ((P.info? f.type).map fun i=>decide (i.size = 0)) = some false) (hx : ev e x = .pointer (some A)) :
  V P e ⟨d,.fieldAddr T x i,ty,pos,aft,g⟩ (.pointer (some (A.add f.offset))):=fun w=>by
 cases h : P.info? f.type with
 | none=>simp [h] at hz
 | some q =>
  have : ¬ q.size = 0:=by simpa [h] using hz
  simp [execOp,hx,Instr.fieldAt,run_underlying hu,hf,Instr.sureAddr,fieldPlace,sizeOf,typeInfo,h,this]
theorem rD {fn : Fn} {first captured : Array Operand} {vs us : Array Value} (h1 : first.map (ev e) = vs) (h2 : captured.map (ev e) = us) : V P e ⟨d,.makeFunc fn first captured,ty,pos,aft,g⟩ (.func fn vs us):=fun w=>by
 simp [execOp,Instr.makeFunc,h1,h2]
end
end Go.Proofs.YtckilbegmbaeeaaGreat.SL
namespace Go.Proofs.YtckilbegmbaeeaaGreat.SL
open Go Go.RowKit
set_option linter.unusedVariables false
set_option linter.unusedSimpArgs false
structure Kd (α : Type) where
 sz : Nat
 R : Hp → List Value → α → Prop
 len : ∀ {I cs x},R I cs x → cs.length = sz
 one : ∀ {I cs x},R I cs x → ∀ v ∈ cs,v.oneCell' = true
 mono : ∀ {I I' cs x},Le I I' → R I cs x → R I' cs x
 byt : Bool
def Kd.fl {α : Type} (sz : Nat) (enc : α → List Value) (hl : ∀ x,(enc x).length = sz) (h1 : ∀ x,∀ v ∈ enc x,v.oneCell' = true) : Kd α :=
 ⟨sz,fun _ cs x=>cs = enc x,fun h=>by rw [h]; exact hl _,fun h=>by rw [h]; exact h1 _,fun _ h=>h,false⟩
def Kd.int (k : IntKind) : Kd Int:={ Kd.fl 1 (fun x=>[.int k x]) (fun _=>rfl) (fun x v h=>by simp at h; subst h; rfl) with byt:=match k with | .u8=>true | _=>false }
def Kd.bool : Kd Bool:=Kd.fl 1 (fun x=>[.bool x]) (fun _=>rfl) (fun x v h=>by simp at h; subst h; rfl)
section
variable {α : Type} (d : Kd α)
def RL (I : Hp) : List Value → List α → Prop
 | cs,[]=>cs = []
 | cs,x::xs=>∃ c1 c2,cs = c1 ++ c2∧d.R I c1 x∧RL I c2 xs
variable {d}
theorem RL.len {I : Hp} : ∀ {xs : List α} {cs : List Value},RL d I cs xs → cs.length = xs.length * d.sz
 | [],_,h=>by simp only [RL] at h; subst h; simp
 | _::xs,_,⟨c1,c2,e,h1,h2⟩=>by
  subst e
  rw [List.length_append,d.len h1,RL.len h2,List.length_cons,Nat.add_mul,Nat.one_mul,Nat.add_comm]
theorem RL.one {I : Hp} : ∀ {xs : List α} {cs : List Value},RL d I cs xs → ∀ v ∈ cs,v.oneCell' = true
 | [],_,h,v,hv=>by simp only [RL] at h; subst h; simp at hv
 | _::xs,_,⟨c1,c2,e,h1,h2⟩,v,hv=>by
  subst e
  rcases List.mem_append.1 hv with k | k
  ·exact d.one h1 v k
  ·exact RL.one h2 v k
theorem RL.mono {I I' : Hp} (hI : Le I I') : ∀ {xs : List α} {cs : List Value},RL d I cs xs → RL d I' cs xs
 | [],_,h=>h
 | _::xs,_,⟨c1,c2,e,h1,h2⟩=>⟨c1,c2,e,d.mono hI h1,RL.mono hI h2⟩
theorem RL.app {I : Hp} : ∀ {xs ys : List α} {cs es : List Value},RL d I cs xs → RL d I es ys → RL d I (cs ++ es) (xs ++ ys)
 | [],_,_,_,h,k=>by simp only [RL] at h; subst h; simpa using k
 | _::xs,_,_,_,⟨c1,c2,e,h1,h2⟩,k=>⟨c1,c2 ++ _,by rw [e,List.append_assoc],h1,RL.app h2 k⟩
theorem RL.get {I : Hp} : ∀ {xs : List α} {cs : List Value} {i : Nat} {x : α},RL d I cs xs → xs[i]? = some x → ∃ c,d.R I c x∧∀ j v,c[j]? = some v → cs[i * d.sz + j]? = some v
 | [],_,i,_,_,e=>by simp at e
 | y::xs,_,0,x,⟨c1,c2,e,h1,h2⟩,h=>by
  obtain rfl : y = x:=by simpa using h
  refine ⟨c1,h1,fun j v hj=>?_⟩
  have : j < c1.length:=by
   rcases Nat.lt_or_ge j c1.length with k | k
   ·exact k
   ·simp [List.getElem?_eq_none k] at hj
  rw [e,Nat.zero_mul,Nat.zero_add,List.getElem?_append_left this]; exact hj
 | _::xs,_,i + 1,x,⟨c1,c2,e,h1,h2⟩,h=>by
  obtain ⟨c,hc,hv⟩:=RL.get (i:=i) h2 (by simpa using h)
  refine ⟨c,hc,fun j v hj=>?_⟩
  have:=hv j v hj
  have hl:=d.len h1
  rw [e,List.getElem?_append_right (by rw [hl,Nat.add_mul]; omega)]
  rw [show (i + 1) * d.sz + j - c1.length = i * d.sz + j from by rw [hl,Nat.add_mul]; omega]
  exact this
theorem RL.set {I : Hp} : ∀ {xs : List α} {cs : List Value} {i : Nat} {y : α} {c : List Value},RL d I cs xs → i < xs.length → d.R I c y →
  RL d I (cs.take (i * d.sz) ++ c ++ cs.drop (i * d.sz + c.length)) (xs.set i y)
 | [],_,i,_,_,_,e,_=>by simp at e
 | x::xs,_,0,y,c,⟨c1,c2,e,h1,h2⟩,_,hc=>by
  refine ⟨c,c2,?_,hc,h2⟩
  have : c.length = c1.length:=(d.len hc).trans (d.len h1).symm
  rw [e]; simp [this]
 | x::xs,_,i + 1,y,c,⟨c1,c2,e,h1,h2⟩,hi,hc=>by
  refine ⟨c1,_,?_,h1,RL.set (i:=i) h2 (by simpa using hi) hc⟩
  have hl:=d.len h1
  rw [e,List.take_append,List.drop_append,hl]
  rw [show (i + 1) * d.sz - d.sz = i * d.sz from by rw [Nat.add_mul]; omega]
  rw [show (i + 1) * d.sz + c.length - d.sz = i * d.sz + c.length from by rw [Nat.add_mul]; omega]
  rw [List.take_of_length_le (l:=c1) (by rw [hl,Nat.add_mul]; omega),List.drop_of_length_le (l:=c1) (by rw [hl,Nat.add_mul]; omega)]
  simp
theorem RL.rep {I : Hp} {c : List Value} {x : α} (h : d.R I c x) : ∀ m : Nat,RL d I (List.flatten (List.replicate m c)) (List.replicate m x)
 | 0=>by simp [RL]
 | m + 1=>⟨c,_,by simp [List.replicate_succ],h,RL.rep h m⟩
end
structure lX (I h : Hp) (w : World) : Prop where
 imm : ∀ b o,I b = some o → w.heap[b]? = some o
 own : ∀ b o,h b = some o → w.heap[b]? = some o
theorem ic.sees {I h : Hp} {w : World} (f : ic I h w) : lX I h w:=⟨f.imm,f.own⟩
def aL (b : Nat) (T : TypeId) (cs : List Value) : bu:=⟨fun _ h=>h b = some (.cells cs.toArray T (0,0)),fun _ h=>h,false,fun h=>by cases h⟩
def zi {α : Type} (d : Kd α) (A : Option Addr) (c : Nat) (xs : List α) (I : Hp) : Prop :=
 xs.length ≤ c∧∃ cs,RL d I cs xs∧(xs = [] ∨ ∃ b off C T fr,A = some ⟨b,off,none⟩∧I b = some (.cells C T fr)∧∀ j v,cs[j]? = some v → C[off + j]? = some v)
def Ro {α : Type} (d : Kd α) (A : Option Addr) (c : Nat) (xs : List α) : bu :=
 ⟨fun I _=>zi d A c xs I,fun hI ⟨h,cs,hr,k⟩=>⟨h,cs,hr.mono hI,k.imp id fun ⟨b,off,C,T,fr,e,hb,hv⟩=>⟨b,off,C,T,fr,e,hI _ _ hb,hv⟩⟩,true,fun _ {_ _ _} h=>h⟩
def Fz (n : Nat) (fr : Nat × Nat) : Prop:=fr = (0,0) ∨ n ≤ fr.1
theorem Fz.zero {n : Nat} : Fz n (0,0):=.inl rfl
def uW {α : Type} (d : Kd α) (n : Nat) (fr : Nat × Nat) : Prop:=Fz n fr∧(d.byt = false → fr = (0,0))
theorem uW.zero {α : Type} {d : Kd α} {n : Nat} : uW d n (0,0):=⟨.inl rfl,fun _=>rfl⟩
def Bw {α : Type} (d : Kd α) (T : TypeId) (A : Option Addr) (c : Nat) (xs : List α) (I h : Hp) : Prop :=
 ∃ cs,RL d I cs xs∧((A = A∧c = 0∧xs = []) ∨ ∃ g cur,A = some ⟨g,0,none⟩∧(∃ fr,h g = some (.cells cur T fr)∧uW d cur.size fr)∧xs.length ≤ c∧c ≤ maxLen∧cur.size = c * d.sz∧cur.toList.take (xs.length * d.sz) = cs)
def Buf {α : Type} (d : Kd α) (T : TypeId) (A : Option Addr) (c : Nat) (xs : List α) : bu :=
 ⟨fun I h=>Bw d T A c xs I h,fun hI ⟨cs,hr,k⟩=>⟨cs,hr.mono hI,k⟩,false,fun h=>by cases h⟩
def Src {α : Type} (d : Kd α) (A : Option Addr) (xs : List α) (As : List bu) : Prop :=
 ∀ I h w,cf As I h → lX I h w → ∃ cs,RL d I cs xs∧(xs = [] ∨ ∃ b off,A = some ⟨b,off,none⟩∧∀ j v,cs[j]? = some v → w.cell? ⟨b,off + j,none⟩ = some v)
theorem jJ {w : World} {b : Nat} {C : Array Value} {T : TypeId} {fr : Nat × Nat} (h : w.heap[b]? = some (.cells C T fr)) (j : Nat) : w.cell? ⟨b,j,none⟩ = C[j]?:=by
 simp [World.cell?,h]
theorem Src.ro {α : Type} {d : Kd α} {A : Option Addr} {c : Nat} {xs : List α} {As : List bu} {k : Nat} (hk : As[k]? = some (Ro d A c xs)) : Src d A xs As:=by
 intro I h w s f
 obtain ⟨h1,_,⟨_,cs,hr,hx⟩,_⟩:=db hk s
 refine ⟨cs,hr,hx.imp id fun ⟨b,off,C,T,fr,e,hb,hv⟩=>⟨b,off,e,fun j v hj=>?_⟩⟩
 rw [jJ (f.imm b _ hb)]; exact hv j v hj
theorem Src.buf {α : Type} {d : Kd α} {T : TypeId} {A : Option Addr} {c : Nat} {xs : List α} {As : List bu} {k : Nat} (hk : As[k]? = some (Buf d T A c xs)) : Src d A xs As:=by
 intro I h w s f
 obtain ⟨h1,l,⟨cs,hr,hx⟩,_⟩:=db hk s
 refine ⟨cs,hr,?_⟩
 rcases hx with ⟨_,_,e⟩ | ⟨g,cur,e,⟨fr,hb,_⟩,_,_,hs,ht⟩
 ·exact .inl e
 ·refine .inr ⟨g,0,e,fun j v hj=>?_⟩
  rw [jJ (f.own g _ (l g _ hb))]
  have hj' : j < xs.length * d.sz:=by
   rw [← hr.len]
   rcases Nat.lt_or_ge j cs.length with q | q
   ·exact q
   ·simp [List.getElem?_eq_none q] at hj
  rw [← ht,List.getElem?_take] at hj
  simpa [hj'] using hj
def lb : TypeDesc → Bool
 | .struct _ | .array _ _=>true
 | _=>false
def el (A : Option Addr) (j : Nat) : Addr:=(A.getD ⟨0,0,none⟩).add j
def rd {α : Type} [Inhabited α] (xs : List α) (i : Int) : α:=xs.getD i.toNat default
theorem mW {α : Type} [Inhabited α] {xs : List α} {i : Int} (h0 : 0 ≤ i) (h1 : i < (xs.length : Int)) : xs[i.toNat]? = some (rd xs i):=by
 have : i.toNat < xs.length:=by omega
 simp [rd,List.getD,this]
theorem jM (A : Addr) (i j : Nat) : (A.add i).add j = A.add (i + j):=by
 by_cases hi : i = 0
 ·subst hi; simp [Addr.add]
 ·by_cases hj : j = 0
  ·subst hj; simp [Addr.add]
  ·simp [Addr.add,hi,hj,Nat.add_assoc]
abbrev VR (P : Program) (As : List bu) (e : Env) (o : Oper) (v : Value) : Prop:=∀ I h w,cf As I h → lX I h w → (execOp (ev e) o).run P w = .ok (.value v) w
theorem V.r {P : Program} {e : Env} {o : Oper} {v : Value} (h : V P e o v) (As : List bu) : VR P As e o v:=fun _ _ w _ _=>h w
section
variable {P : Program} {n : Nat} {Q : dz} {e : Env} {ds : List Deferred} {As As' : List bu} {d : Option Nat} {ty T T' E : TypeId} {pos : String} {aft : Array Edge} {g : Option (Nat × Bool)} {x y : Operand} {K : Env → List Deferred → List bu → Prop}
theorem dl {o : Oper} {v : Value} (hd : bZ o.dst n = true) (hv : V P e o v) (h : K (put e o.dst v) ds As) : OA P n o K Q e ds As:=wE v hd hv h
theorem dv {o : Oper} {v : Value} (hd : bZ o.dst n = true) (hv : VR P As e o v) (h : K (put e o.dst v) ds As) : OA P n o K Q e ds As :=
 uC v hd (fun I h w s f=>hv I h w s f.sees) h
theorem bK {α : Type} {kd : Kd α} {A : Option Addr} {c : Nat} {xs : List α} {k : IntKind} {i : Int} {sz : Nat} (hu : P.underlying T = some (.slice E)) (hz : (P.info? E).map (·.size) = some sz) (hx : ev e x = .slice A xs.length c) (hy : ev e y = .int k i)
  (hs : Src kd A xs As) (h0 : 0 ≤ i) (h1 : i < (xs.length : Int)) : VR P As e ⟨d,.indexAddr T x y,ty,pos,aft,g⟩ (.pointer (some (el A (i.toNat * sz)))):=by
 intro I h w s f
 obtain ⟨cs,hr,hc⟩:=hs I h w s f
 rcases hc with hc | ⟨b,off,hA,_⟩
 ·subst hc; simp at h1; omega
 ·subst hA
  cases hq : P.info? E with
  | none=>simp [hq] at hz
  | some q =>
   have hz' : q.size = sz:=by simpa [hq] using hz
   simp [execOp,hx,hy,Instr.indexAt,asIntOf,run_underlying hu,h0,h1,sizeOf,typeInfo,hq,hz',el]
theorem oM {fs : Array Field} {f : Field} {i m : Nat} {B : Addr} (hu : P.underlying T = some (.struct fs)) (hf : fs[i]? = some f) (hz : ((P.info? f.type).map fun i=>decide (i.size = 0)) = some false) (hx : ev e x = .pointer (some (B.add m))) :
  V P e ⟨d,.fieldAddr T x i,ty,pos,aft,g⟩ (.pointer (some (B.add (m + f.offset)))):=fun w=>by
 rw [pT hu hf hz hx w,jM]
theorem rk {td : TypeDesc} (hu : P.underlying T = some td) (ha : lb td = true) (w : World) : (isAgg T).run P w = .ok true w:=by
 unfold isAgg
 rw [Sem.run_bind,run_underlying hu w]
 cases td <;> simp_all [lb]
theorem nr {td : TypeDesc} (hu : P.underlying T = some td) (ha : lb td = false) (w : World) : (isAgg T).run P w = .ok false w:=by
 unfold isAgg
 rw [Sem.run_bind,run_underlying hu w]
 cases td <;> simp_all [lb]
theorem bQ {α : Type} [Inhabited α] {kd : Kd α} {enc : α → List Value} {A : Option Addr} {xs : List α} {i : Int} {j m sz : Nat} {v : Value} {td : TypeDesc} (hu : P.underlying T = some td) (ha : lb td = false)
  (hx : ev e x = .pointer (some ((el A j).add m))) (hj : j = i.toNat * sz) (hsz : kd.sz = sz) (hs : Src kd A xs As) (h0 : 0 ≤ i) (h1 : i < (xs.length : Int)) (he : ∀ I c,kd.R I c (rd xs i) → c = enc (rd xs i)) (hv : (enc (rd xs i))[m]? = some v) :
  VR P As e ⟨d,.load T x,ty,pos,aft,g⟩ v:=by
 intro I h w s f
 obtain ⟨cs,hr,hc⟩:=hs I h w s f
 rcases hc with hc | ⟨b,off,hA,hcell⟩
 ·subst hc; simp at h1; omega
 ·subst hA
  obtain ⟨c,hc,hg⟩:=RL.get hr (mW h0 h1)
  rw [he I c hc] at hg
  have hl:=hcell _ _ (hg m v hv)
  subst hj; subst hsz
  have ea : (el (some ⟨b,off,none⟩) (i.toNat * kd.sz)).add m = ⟨b,off + (i.toNat * kd.sz + m),none⟩:=by
   simp only [el,Option.getD_some,jM,Addr.add_lit,Nat.add_assoc]
  simp [execOp,hx,ea,Instr.loadAt,Instr.sureAddr,loadVar,nr hu ha,hl]
theorem nW {b o : Nat} {vs : List Value} {td : TypeDesc} (hu : P.underlying T = some td) (ha : lb td = true) (hz : (P.info? T).map (·.size) = some vs.length) {w : World}
  (h : ∀ j v,vs[j]? = some v → w.cell? ⟨b,o + j,none⟩ = some v) : (Instr.loadAt T (.pointer (some ⟨b,o,none⟩))).run P w = .ok (.agg vs.toArray) w:=by
 have hl : (loadCells ⟨b,o,none⟩ vs.length).run P w = .ok vs.toArray w:=run_loadCells_list (P:=P) w ⟨b,o,none⟩ vs (fun j v hv=>by rw [Addr.add_lit]; exact h j v hv)
 cases hq : P.info? T with
 | none=>simp [hq] at hz
 | some q =>
  have hz' : q.size = vs.length:=by simpa [hq] using hz
  simp [Instr.loadAt,Instr.sureAddr,loadVar,rk hu ha,sizeOf,typeInfo,hq,hz',hl]
theorem cj {α : Type} [Inhabited α] {kd : Kd α} {enc : α → List Value} {A : Option Addr} {xs : List α} {i : Int} {j m sz : Nat} {vs : List Value} {td : TypeDesc} (hu : P.underlying T = some td) (ha : lb td = true)
  (hz : (P.info? T).map (·.size) = some vs.length)
  (hx : ev e x = .pointer (some ((el A j).add m))) (hj : j = i.toNat * sz) (hsz : kd.sz = sz) (hs : Src kd A xs As) (h0 : 0 ≤ i) (h1 : i < (xs.length : Int)) (he : ∀ I c,kd.R I c (rd xs i) → c = enc (rd xs i)) (hv : ((enc (rd xs i)).drop m).take vs.length = vs) :
  VR P As e ⟨d,.load T x,ty,pos,aft,g⟩ (.agg vs.toArray):=by
 intro I h w s f
 obtain ⟨cs,hr,hc⟩:=hs I h w s f
 rcases hc with hc | ⟨b,off,hA,hcell⟩
 ·subst hc; simp at h1; omega
 ·subst hA
  obtain ⟨c,hc,hg⟩:=RL.get hr (mW h0 h1)
  rw [he I c hc] at hg
  subst hj; subst hsz
  have ea : (el (some ⟨b,off,none⟩) (i.toNat * kd.sz)).add m = ⟨b,off + (i.toNat * kd.sz + m),none⟩:=by
   simp only [el,Option.getD_some,jM,Addr.add_lit,Nat.add_assoc]
  have hl:=nW (P:=P) (b:=b) (o:=off + (i.toNat * kd.sz + m)) hu ha hz (w:=w) (fun q v hq=>by
   rw [← hv,List.getElem?_take] at hq
   split at hq
   ·rw [List.getElem?_drop] at hq
    have:=hcell _ _ (hg _ v hq)
    rw [← this]; congr 2; omega
   ·cases hq)
  simp only [execOp,hx,ea,Sem.run_bind,hl,Result.andThen_ok,Sem.run_pure]
theorem gT {b m k : Nat} {cs : List Value} {v : Value} {td : TypeDesc} (hu : P.underlying T = some td) (ha : lb td = false) (hk : As[k]? = some (aL b T' cs))
  (hx : ev e x = .pointer (some ((⟨b,0,none⟩ : Addr).add m))) (hv : cs[m]? = some v) : VR P As e ⟨d,.load T x,ty,pos,aft,g⟩ v:=by
 intro I h w s f
 obtain ⟨h1,l,p,_⟩:=db hk s
 have hc:=jJ (f.own b _ (l b _ p)) m
 simp only [List.getElem?_toArray,hv] at hc
 rw [Addr.add_lit,Nat.zero_add] at hx
 simp [execOp,hx,Instr.loadAt,Instr.sureAddr,loadVar,nr hu ha,hc]
theorem mi {b m k : Nat} {cs vs : List Value} {td : TypeDesc} (hu : P.underlying T = some td) (ha : lb td = true) (hz : (P.info? T).map (·.size) = some vs.length) (hk : As[k]? = some (aL b T' cs))
  (hx : ev e x = .pointer (some ((⟨b,0,none⟩ : Addr).add m))) (hv : (cs.drop m).take vs.length = vs) : VR P As e ⟨d,.load T x,ty,pos,aft,g⟩ (.agg vs.toArray):=by
 intro I h w s f
 obtain ⟨h1,l,p,_⟩:=db hk s
 have hh:=f.own b _ (l b _ p)
 rw [Addr.add_lit,Nat.zero_add] at hx
 have hl:=nW (P:=P) (b:=b) (o:=m) hu ha hz (w:=w) (fun q v hq=>by
  rw [← hv,List.getElem?_take] at hq
  split at hq
  ·rw [List.getElem?_drop] at hq
   rw [jJ hh]; simpa using hq
  ·cases hq)
 simp only [execOp,hx,Sem.run_bind,hl,Result.andThen_ok,Sem.run_pure]
def fb (b : Nat) (o : Obj) : Hp:=fun c=>if c = b then some o else none
theorem mT {I h : Hp} {w : World} (f : ic I h w) : h w.heap.size = none∧I w.heap.size = none:=by
 constructor
 ·cases q : h w.heap.size with
  | none=>rfl
  | some o=>have:=gO (f.own _ _ q); omega
 ·cases q : I w.heap.size with
  | none=>rfl
  | some o=>have:=gO (f.imm _ _ q); omega
theorem tA (w : World) (o : Obj) : (w.alloc o).heap[w.heap.size]? = some o:=by
 show (w.heap.push o)[w.heap.size]? = some o
 simp
theorem ov (w : World) (o : Obj) {b : Nat} (h : b < w.heap.size) : (w.alloc o).heap[b]? = w.heap[b]?:=Below.heap_alloc w o b h
theorem cZ.alloc {I h : Hp} {w : World} (f : ic I h w) (o : Obj) : cZ I h w I (iT (fb w.heap.size o) h) (w.alloc o)∧gz (iT (fb w.heap.size o) h) (fb w.heap.size o) h:=by
 obtain ⟨fh,fI⟩:=mT f
 have d : ∀ b u,fb w.heap.size o b = some u → h b = none:=fun b u e=>by
  simp only [fb] at e
  split at e
  ·rename_i hb; rw [hb]; exact fh
  ·cases e
 refine ⟨⟨⟨fun b u e=>?_,fun b u e=>?_,fun b u e=>?_⟩,Le.refl I,rfl,rfl,rfl,by simp,fun b hb e=>⟨ov w o hb,?_,rfl⟩⟩,ou,rC d,d⟩
 ·have:=gO (f.imm b u e)
  rw [ov w o this]; exact f.imm b u e
 ·simp only [iT,fb] at e
  by_cases hb : b = w.heap.size
  ·subst hb; simp at e; rw [← e]; exact tA w o
  ·simp [hb] at e
   rw [ov w o (gO (f.own b u e))]; exact f.own b u e
 ·simp only [iT,fb] at e
  by_cases hb : b = w.heap.size
  ·subst hb; exact fI
  ·simp [hb] at e; exact f.sep b u e
 ·have : b ≠ w.heap.size:=by omega
  simp [iT,fb,this,e]
theorem py {o : Oper} (hd : bZ o.dst n = true) (ob : Obj) (mk : Nat → Value) (A : Nat → bu) (hA : ∀ b I h,cf As I h → (A b).P I (fb b ob)) (hr : ∀ I h w,cf As I h → lX I h w → (execOp (ev e) o).run P w = .ok (.value (mk w.heap.size)) (w.alloc ob))
  (h : ∀ b,K (put e o.dst (mk b)) ds (As ++ [A b])) : OA P n o K Q e ds As:=by
 intro I h' a w s r f
 obtain ⟨gg,sp⟩:=cZ.alloc f ob
 unfold Oper.wp
 rw [r.eval,hr I h' w s f.sees]
 refine ⟨_,ds,_,I,_,r.put hd _,cX ⟨sp.2.1,sp.1,fun b u e=>?_⟩ s (show cf [A w.heap.size] I _ from ⟨_,fun _=>none,⟨Le.refl _,(fun _ _ e=>by cases e),fun _ _ _=>rfl⟩,hA w.heap.size I h' s,trivial⟩),gg,h w.heap.size⟩
 cases q : fb w.heap.size ob b with
 | none=>rfl
 | some u'=>have:=sp.2.2 b u' q; rw [this] at e; cases e
theorem iO {z : Value} (hd : bZ d n = true) (hz : (P.info? E).bind (·.zero) = some z) (h : ∀ b,K (put e d (.pointer (some ⟨b,0,none⟩))) ds (As ++ [aL b E z.cells.toList])) : OA P n ⟨d,.alloc E,ty,pos,aft,g⟩ K Q e ds As:=by
 refine py hd (.cells z.cells E) (fun b=>.pointer (some ⟨b,0,none⟩)) (fun b=>aL b E z.cells.toList) (fun b I _ _=>by simp [aL,fb]) (fun I h' w s f=>?_) h
 cases hq : P.info? E with
 | none=>simp [hq] at hz
 | some q =>
  have hz' : q.zero = some z:=by simpa [hq] using hz
  simp [execOp,Instr.alloc,zeroValue,typeInfo,hq,hz',newVar,newRow]
theorem wB {v : Value} (hd : bZ d n = true) (hx : ev e x = v) (h : ∀ b,K (put e d (.pointer (some ⟨b,0,none⟩))) ds (As ++ [aL b E v.cells.toList])) : OA P n ⟨d,.box E x,ty,pos,aft,g⟩ K Q e ds As:=by
 refine py hd (.cells v.cells E) (fun b=>.pointer (some ⟨b,0,none⟩)) (fun b=>aL b E v.cells.toList) (fun b I _ _=>by simp [aL,fb]) (fun I h' w s f=>?_) h
 simp [execOp,hx,Instr.box,newVar,newRow]
theorem oI {α : Type} {kd : Kd α} {parts : Array (Nat × Operand)} {len sz : Nat} {cells : List Value} {z : Value} {xs : List α} (hd : bZ d n = true) (hu : P.underlying T = some (.slice E)) (hz : (P.info? E).bind (·.zero) = some z) (hs : (P.info? E).map (·.size) = some sz)
  (hlim : Nat.ble (len * sz) 16777216 = true) (hlen : Nat.ble len 16777216 = true)
  (hf : Instr.fill (fun i=>some (i * sz,sz)) ((Array.range (len * sz)).map ((if len * sz = 0 then #[] else z.cells)[· % (if len * sz = 0 then #[] else z.cells).size]!)) ((parts.map fun (i,x)=>(i,ev e x)).toList) = some cells.toArray)
  (hl : xs.length = len) (hk : kd.sz = sz) (hr : ∀ I h,cf As I h → RL kd I cells xs)
  (h : ∀ b,K (put e d (.slice (some ⟨b,0,none⟩) xs.length len)) ds (As ++ [Buf kd E (some ⟨b,0,none⟩) len xs])) : OA P n ⟨d,.buildSlice T len parts,ty,pos,aft,g⟩ K Q e ds As:=by
 have hlim' : ¬ 2 ^ 24 < len * sz:=by have:=Nat.le_of_ble_eq_true hlim; omega
 refine py hd (.cells cells.toArray E) (fun b=>.slice (some ⟨b,0,none⟩) xs.length len) (fun b=>Buf kd E (some ⟨b,0,none⟩) len xs) (fun b I hh s=>?_) (fun I h' w s f=>?_) h
 ·have e1:=(hr I hh s).len
  refine ⟨cells,hr I hh s,.inr ⟨b,cells.toArray,rfl,⟨(0,0),by simp [fb],uW.zero⟩,by omega,?_,by simp [e1,hl],?_⟩⟩
  ·have:=Nat.le_of_ble_eq_true hlen
   unfold maxLen; omega
  ·rw [← e1]; simp
 ·cases hq : P.info? E with
  | none=>simp [hq] at hz
  | some q =>
   have hz' : q.zero = some z:=by simpa [hq] using hz
   have hs' : q.size = sz:=by simpa [hq] using hs
   by_cases h0 : len * sz = 0
   ·rw [if_pos h0] at hf
    simp [execOp,Instr.buildSlice,run_underlying hu,sizeOf,typeInfo,hq,hs',hlim',h0,zeroValue,hz',newRow,hl]
    simp [h0] at hf
    simp [hf]
   ·rw [if_neg h0] at hf
    simp [execOp,Instr.buildSlice,run_underlying hu,sizeOf,typeInfo,hq,hs',hlim',h0,zeroValue,hz',newRow,hl]
    simp at hf
    simp [hf]
end
end Go.Proofs.YtckilbegmbaeeaaGreat.SL
namespace Go.Proofs.YtckilbegmbaeeaaGreat.SL
open Go Go.RowKit
set_option linter.unusedVariables false
set_option linter.unusedSimpArgs false
def bytesOf (s : ByteArray) : List Int:=s.data.toList.map fun b=>(b.toNat : Int)
def oe {α : Type} (P : Program) (kd : Kd α) (tx : TypeId) (v : Value) (ys : List α) (As : List bu) : Prop :=
 ∀ I h w,cf As I h → lX I h w → ∃ cs,RL kd I cs ys∧Go.Src P kd.sz tx v ys.length cs w
theorem oe.slice {α : Type} {P : Program} {kd : Kd α} {tx e' : TypeId} {A : Option Addr} {c : Nat} {ys : List α} {As : List bu} (hk : P.underlying tx = some (.slice e')) (hs : Src kd A ys As) : oe P kd tx (.slice A ys.length c) ys As:=by
 intro I h w s f
 obtain ⟨cs,hr,hc⟩:=hs I h w s f
 refine ⟨cs,hr,?_⟩
 cases A with
 | none =>
  rcases hc with rfl | ⟨b,off,e,_⟩
  ·simp only [RL] at hr; subst hr; exact Go.Src.ofNil w hk c
  ·cases e
 | some a =>
  rcases hc with rfl | ⟨b,off,e,hc⟩
  ·simp only [RL] at hr; subst hr; exact Go.Src.ofSlice w hk a 0 c [] (by simp) (by simp) (by simp)
  ·obtain rfl:=Option.some.inj e
   exact Go.Src.ofSlice w hk _ _ c cs hr.len (fun j u hu=>by rw [Addr.add_lit]; exact hc j u hu) hr.one
theorem cZ.setRow {I h : Hp} {w : World} (f : ic I h w) {g : Nat} {cur cur' : Array Value} {T : TypeId} {fr : Nat × Nat} (hg : h g = some (.cells cur T fr)) :
  cZ I h w I (fun b=>if b = g then some (.cells cur' T fr) else h b) (w.setRow g cur'):=by
 refine ⟨⟨fun b u e=>?_,fun b u e=>?_,fun b u e=>?_⟩,Le.refl I,rfl,rfl,rfl,by simp,fun b hb e=>?_⟩
 ·have : b ≠ g:=by rintro rfl; rw [f.sep b _ hg] at e; cases e
  rw [setRow_other w g b _ this]; exact f.imm b u e
 ·by_cases hb : b = g
  ·subst hb; simp at e; rw [← e]; exact setRow_heap w b cur cur' T fr (f.own b _ hg)
  ·simp [hb] at e; rw [setRow_other w g b _ hb]; exact f.own b u e
 ·by_cases hb : b = g
  ·subst hb; exact f.sep b _ hg
  ·simp [hb] at e; exact f.sep b u e
 ·have : b ≠ g:=by rintro rfl; rw [hg] at e; cases e
  exact ⟨setRow_other w g b _ this,by simp [this,e],rfl⟩
section
variable {P : Program} {n : Nat} {Q : dz} {e : Env} {ds : List Deferred} {As : List bu} {d : Option Nat} {ty T T' E tx : TypeId} {pos : String} {aft : Array Edge} {g : Option (Nat × Bool)} {x y z : Operand} {K : Env → List Deferred → List bu → Prop}
theorem jn {k : Nat} {A' : bu} {I h h1 : Hp} {gb : Nat} {ob ob' : Obj}
  (f : ∀ (A' : bu) (I' dx h' : Hp),Le I I' → A'.P I' dx → Le dx h' → (∀ b o,h b = some o → h1 b = none → h' b = some o∧dx b = none) → cf (As.set k A') I' h')
  (hg : h1 gb = some ob) (hA : A'.P I (fb gb ob')) : cf (As.set k A') I (fun b=>if b = gb then some ob' else h b):=by
 refine f A' I (fb gb ob') _ (Le.refl I) hA (fun b u e=>?_) (fun b u e1 e2=>?_)
 ·simp only [fb] at e
  split at e
  ·rename_i hb; simp [hb]; exact Option.some.inj e
  ·cases e
 ·have : b ≠ gb:=by rintro rfl; rw [hg] at e2; cases e2
  simp [this,e1,fb]
theorem pd {k : Nat} {A' : bu} {I h h1 : Hp} {gb : Nat} {ob : Obj}
  (f : ∀ (A' : bu) (I' dx h' : Hp),Le I I' → A'.P I' dx → Le dx h' → (∀ b o,h b = some o → h1 b = none → h' b = some o∧dx b = none) → cf (As.set k A') I' h')
  (hn : h gb = none) (hA : A'.P I (fb gb ob)) : cf (As.set k A') I (iT (fb gb ob) h):=by
 refine f A' I (fb gb ob) _ (Le.refl I) hA ou (fun b u e1 e2=>?_)
 have : b ≠ gb:=by rintro rfl; rw [hn] at e1; cases e1
 simp [iT,fb,this,e1]
def dR (cs : List Value) (m : Nat) (vs : List Value) : List Value:=cs.take m ++ vs ++ cs.drop (m + vs.length)
theorem eF (g o : Nat) (t : TypeId) (fr : Nat × Nat) : ∀ (vs : List Value) (i : Nat) (cur : Array Value) (w : World),w.heap[g]? = some (.cells cur t fr) → Fz cur.size fr → o + i + vs.length ≤ cur.size → (∀ v ∈ vs,v.oneCell' = true) →
  (storeCells ⟨g,o,none⟩ vs i).run P w = .ok () (w.setRow g (cur.toList.take (o + i) ++ vs ++ cur.toList.drop (o + i + vs.length)).toArray)
 | [],i,cur,w,hg,_,_,_=>by
  simp only [storeCells,List.append_nil,List.length_nil,Nat.add_zero,List.take_append_drop,Array.toArray_toList]
  rw [setRow_self w g cur t fr hg]
  rfl
 | v::rest,i,cur,w,hg,hz,hl,h1=>by
  have hi : o + i < cur.size:=by simp at hl; omega
  have hadd : (⟨g,o,none⟩ : Addr).add i = ⟨g,o + i,none⟩:=Addr.add_lit ..
  have hcell : w.cell? ⟨g,o + i,none⟩ = some cur[o + i]:=by simp [World.cell?,hg,hi]
  have hfro : w.frozen? ⟨g,o + i,none⟩ = false:=by
   obtain ⟨lo,up⟩:=fr
   simp only [World.frozen?,hg]
   rcases hz with q | q
   ·obtain ⟨rfl,rfl⟩:=Prod.mk.inj q; simp
   ·simp only at q
    have : ¬ lo ≤ o + i:=by omega
    simp [this]
  have hst : (store ((⟨g,o,none⟩ : Addr).add i) v).run P w = .ok () (w.setRow g (cur.setIfInBounds (o + i) v)):=by
   rw [hadd,run_store P w _ v _ (h1 v (by simp)),hcell]
   simp [hfro,setCell_eq_setRow w g (o + i) cur t fr v hg]
  have ih:=eF g o t fr rest (i + 1) (cur.setIfInBounds (o + i) v) (w.setRow g (cur.setIfInBounds (o + i) v)) (setRow_heap w g cur _ t _ hg) (by simpa using hz) (by simp at hl ⊢; omega) (fun x hx=>h1 x (by simp [hx]))
  have e1 : (storeCells ⟨g,o,none⟩ (v::rest) i).run P w = (storeCells ⟨g,o,none⟩ rest (i + 1)).run P (w.setRow g (cur.setIfInBounds (o + i) v)):=by
   simp only [storeCells,Sem.run_bind,hst,Result.andThen_ok]
  rw [e1,ih,setRow_setRow]
  congr 2
  have hlt : o + i < cur.toList.length:=by simpa using hi
  simp only [Array.toList_setIfInBounds]
  have t1 : (cur.toList.set (o + i) v).take (o + (i + 1)) = cur.toList.take (o + i) ++ [v]:=by
   rw [show o + (i + 1) = (o + i) + 1 from by omega,List.take_add_one,List.take_set_of_le (Nat.le_refl _),List.getElem?_set_self hlt]
   rfl
  have t2 : (cur.toList.set (o + i) v).drop (o + (i + 1) + rest.length) = cur.toList.drop (o + i + (v::rest).length):=by
   rw [List.drop_set_of_lt (by omega)]
   congr 1; simp; omega
  rw [t1,t2]
  simp
theorem ni {w : World} {b m : Nat} {cur : Array Value} {t : TypeId} {fr : Nat × Nat} {v : Value} {vs : List Value} (hv : v.cells = vs.toArray) (h1 : ∀ u ∈ vs,u.oneCell' = true) (hz : (P.info? T).map (·.size) = some vs.length)
  (hg : w.heap[b]? = some (.cells cur t fr)) (hfz : Fz cur.size fr) (hl : m + vs.length ≤ cur.size) :
  (Instr.storeAt T (.pointer (some ⟨b,m,none⟩)) v).run P w = .ok () (w.setRow b (dR cur.toList m vs).toArray):=by
 have hst:=eF (P:=P) b m t fr vs 0 cur w hg hfz (by simpa using hl) h1
 simp only [Nat.add_zero] at hst
 cases hq : P.info? T with
 | none=>simp [hq] at hz
 | some q =>
  have hz' : q.size = vs.length:=by simpa [hq] using hz
  simp [Instr.storeAt,Instr.sureAddr,storeVar,hv,sizeOf,typeInfo,hq,hz',hst,dR]
theorem qo {b m k : Nat} {cs vs : List Value} {v : Value} (cs' : List Value) (hd : bZ d n = true) (hk : As[k]? = some (aL b T' cs)) (hx : ev e x = .pointer (some ((⟨b,0,none⟩ : Addr).add m))) (hy : ev e y = v) (hv : v.cells = vs.toArray)
  (h1 : ∀ u ∈ vs,u.oneCell' = true) (hz : (P.info? T).map (·.size) = some vs.length) (hl : m + vs.length ≤ cs.length) (hc : dR cs m vs = cs') (h : K (put e d undef) ds (As.set k (aL b T' cs'))) : OA P n ⟨d,.store T x y,ty,pos,aft,g⟩ K Q e ds As:=by
 intro I h' a w s r f
 obtain ⟨g1,l,p,ff⟩:=db hk s
 have hh : h' b = some (.cells cs.toArray T' (0,0)):=l b _ p
 rw [Addr.add_lit,Nat.zero_add] at hx
 have hr:=ni (P:=P) hv h1 hz (f.own b _ hh) Fz.zero (by simpa using hl)
 unfold Oper.wp
 rw [r.eval]
 simp only [execOp,hx,hy,Sem.run_bind,hr,Result.andThen_ok,Sem.run_pure]
 subst hc
 exact ⟨_,ds,_,I,_,r.put hd undef,jn ff p (by simp [aL,fb]),cZ.setRow f hh,h⟩
theorem sP {A B R vs : List Value} {m : Nat} (h : m + vs.length ≤ B.length) : dR (A ++ (B ++ R)) (A.length + m) vs = A ++ (dR B m vs ++ R):=by
 unfold dR
 have e1 : (A ++ (B ++ R)).take (A.length + m) = A ++ B.take m:=by
  rw [List.take_length_add_append,List.take_append_of_le_length (by omega)]
 have e2 : (A ++ (B ++ R)).drop (A.length + m + vs.length) = B.drop (m + vs.length) ++ R:=by
  rw [Nat.add_assoc,List.drop_length_add_append,List.drop_append_of_le_length h]
 rw [e1,e2]
 simp only [List.append_assoc]
theorem gx {B vs : List Value} {m : Nat} (h : m + vs.length ≤ B.length) : (dR B m vs).length = B.length:=by
 unfold dR
 rw [List.length_append,List.length_append,List.length_take,List.length_drop]
 omega
theorem rI {cur cs c0 vs : List Value} {N o sz m : Nat} (hN : N ≤ cur.length) (hcs : cur.take N = cs) (ho : o + sz ≤ N) (hm : m + vs.length ≤ sz) (h0 : (cs.drop o).take sz = c0) :
  (dR cur (o + m) vs).take N = cs.take o ++ dR c0 m vs ++ cs.drop (o + sz):=by
 have hA : (cur.take o).length = o:=by rw [List.length_take]; omega
 have hB : ((cur.drop o).take sz).length = sz:=by rw [List.length_take,List.length_drop]; omega
 have hc0 : c0 = (cur.drop o).take sz:=by
  rw [← h0,← hcs,List.drop_take,List.take_take]
  congr 1; omega
 have hcur : cur = cur.take o ++ ((cur.drop o).take sz ++ cur.drop (o + sz)):=by
  rw [← List.drop_drop,List.take_append_drop,List.take_append_drop]
 have h1 : dR cur (o + m) vs = cur.take o ++ (dR c0 m vs ++ cur.drop (o + sz)):=by
  conv=>lhs; rw [hcur]
  have:=sP (A:=cur.take o) (B:=(cur.drop o).take sz) (R:=cur.drop (o + sz)) (vs:=vs) (m:=m) (by rw [hB]; exact hm)
  rw [hA] at this
  rw [this,hc0]
 have hl : (dR c0 m vs).length = sz:=by rw [hc0,gx (by rw [hB]; exact hm),hB]
 rw [h1,← List.append_assoc,List.take_append,List.length_append,hA,hl]
 rw [List.take_of_length_le (by rw [List.length_append,hA,hl]; exact ho)]
 have e3 : cs.take o = cur.take o:=by
  rw [← hcs,List.take_take]; congr 1; omega
 have e4 : cs.drop (o + sz) = (cur.drop (o + sz)).take (N - (o + sz)):=by
  rw [← hcs,List.drop_take]
 rw [e3,e4]
theorem qO {α : Type} [Inhabited α] {kd : Kd α} {A : Option Addr} {c k j m sz : Nat} {xs : List α} {i : Int} {vs : List Value} {v : Value} (y' : α) (hd : bZ d n = true) (hk : As[k]? = some (Buf kd T' A c xs)) (hx : ev e x = .pointer (some ((el A j).add m))) (hj : j = i.toNat * sz) (hsz : kd.sz = sz) (hy : ev e y = v) (hv : v.cells = vs.toArray)
  (h1 : ∀ u ∈ vs,u.oneCell' = true) (hz : (P.info? T).map (·.size) = some vs.length) (h0 : 0 ≤ i) (hi : i < (xs.length : Int)) (hm : m + vs.length ≤ sz)
  (he : ∀ I h cs,cf As I h → kd.R I cs (rd xs i) → kd.R I (dR cs m vs) y') (h : K (put e d undef) ds (As.set k (Buf kd T' A c (xs.set i.toNat y')))) : OA P n ⟨d,.store T x y,ty,pos,aft,g⟩ K Q e ds As:=by
 intro I h' a w s r f
 obtain ⟨g1,l,⟨cs,hr,hc⟩,ff⟩:=db hk s
 rcases hc with ⟨_,_,hc⟩ | ⟨gb,cur,hA,⟨fr,hg,hfz⟩,hlc,hcm,hcs,ht⟩
 ·subst hc; simp at hi; omega
 ·subst hA; subst hj; subst hsz
  have hh : h' gb = some (.cells cur T' fr):=l gb _ hg
  have hi' : i.toNat < xs.length:=by omega
  have ea : (el (some ⟨gb,0,none⟩) (i.toNat * kd.sz)).add m = ⟨gb,i.toNat * kd.sz + m,none⟩:=by
   simp only [el,Option.getD_some,jM,Addr.add_lit,Nat.zero_add]
  have hmul : i.toNat * kd.sz + kd.sz ≤ xs.length * kd.sz:=by rw [← Nat.succ_mul]; exact Nat.mul_le_mul_right _ hi'
  have hmul2 : xs.length * kd.sz ≤ c * kd.sz:=Nat.mul_le_mul_right _ hlc
  have hrun:=ni (P:=P) hv h1 hz (f.own gb _ hh) hfz.1 (m:=i.toNat * kd.sz + m) (by omega)
  unfold Oper.wp
  rw [r.eval]
  simp only [execOp,hx,ea,hy,Sem.run_bind,hrun,Result.andThen_ok,Sem.run_pure]
  refine ⟨_,ds,_,I,_,r.put hd undef,jn ff hg ?_,cZ.setRow f hh,h⟩
  obtain ⟨c0,hc0,hg0⟩:=RL.get hr (mW h0 hi)
  have hc1:=he I h' c0 s hc0
  have hl0:=kd.len hc0
  have hlen:=hr.len
  have hset:=RL.set hr hi' hc1
  have hl1 : (dR c0 m vs).length = kd.sz:=kd.len hc1
  have hpart : (cs.drop (i.toNat * kd.sz)).take kd.sz = c0:=by
   apply List.ext_getElem?
   intro q
   rw [List.getElem?_take]
   by_cases hq : q < kd.sz
   ·rw [if_pos hq,List.getElem?_drop]
    have : q < c0.length:=by omega
    rw [hg0 q c0[q] (List.getElem?_eq_getElem this),List.getElem?_eq_getElem this]
   ·rw [if_neg hq]
    exact (List.getElem?_eq_none (by omega)).symm
  have hcl : cur.toList.length = c * kd.sz:=(Array.length_toList (xs:=cur)).trans hcs
  have hfz2 : ∀ l : List Value,l.length = cur.toList.length → uW kd l.toArray.size fr:=fun l hl=>by rw [List.size_toArray,hl,Array.length_toList]; exact hfz
  have hN : xs.length * kd.sz ≤ cur.toList.length:=by omega
  have hfin:=rI (vs:=vs) (m:=m) hN ht hmul hm hpart
  refine ⟨_,hset,.inr ⟨gb,_,rfl,⟨fr,if_pos rfl,hfz2 _ (gx (by omega))⟩,by rw [List.length_set]; exact hlc,hcm,?_,?_⟩⟩
  ·rw [List.size_toArray,gx (by omega)]; exact hcl
  ·rw [hl1,List.length_set]
   exact hfin
theorem jC (z : Array Value) : ∀ m : Nat,((Array.range (m * z.size)).map (z[· % z.size]!)).toList = List.flatten (List.replicate m z.toList)
 | 0=>by simp
 | m + 1=>by
  have ih:=jC z m
  rw [List.replicate_succ',List.flatten_append,← ih]
  simp only [Array.toList_map,Array.toList_range,List.flatten_cons,List.flatten_nil,List.append_nil]
  rw [Nat.add_mul,Nat.one_mul,List.range_add,List.map_append,List.map_map]
  congr 1
  apply List.ext_getElem
  ·simp
  ·intro j h1 h2
   have hj : j < z.size:=by simpa using h1
   simp only [List.getElem_map,List.getElem_range,Function.comp,Array.getElem_toList]
   rw [Nat.mul_comm m,Nat.mul_add_mod,Nat.mod_eq_of_lt hj]
   simp [hj]
theorem vA {α : Type} {kd : Kd α} {k k' : IntKind} {l c : Int} {bytes sz : Nat} {zv : Value} (z0 : α) (hd : bZ d n = true) (hu : P.underlying T = some (.slice E)) (hi : (P.info? E).map (fun i=>(i.zero,i.size,i.bytes)) = some (some zv,sz,bytes))
  (hx : ev e x = .int k l) (hy : ev e y = .int k' c) (h0 : 0 ≤ l) (hlc : l = c) (hb : (bytes : Int) * c ≤ 281474976710656) (h63 : c ≤ 9223372036854775807) (hsz : kd.sz = sz) (hz1 : zv.cells.size = sz) (hz : ∀ I,kd.R I zv.cells.toList z0)
  (h : ∀ b,K (put e d (.slice (some ⟨b,0,none⟩) (List.replicate l.toNat z0).length l.toNat)) ds (As ++ [Buf kd E (some ⟨b,0,none⟩) l.toNat (List.replicate l.toNat z0)])) : OA P n ⟨d,.makeSlice T x y,ty,pos,aft,g⟩ K Q e ds As:=by
 subst hlc
 cases hq : P.info? E with
 | none=>simp [hq] at hi
 | some q =>
  simp only [hq,Option.map_some,Option.some.injEq,Prod.mk.injEq] at hi
  obtain ⟨i1,i2,i3⟩:=hi
  have hrun : ∀ w : World,(Instr.makeSlice T (.int k l) (.int k' l)).run P w = .ok (.slice (some ⟨w.heap.size,0,none⟩) l.toNat l.toNat) (w.alloc (.cells (madeCells zv.cells (l.toNat * q.size)) E)):=fun w =>
   run_make w T E q zv hu hq i1 k k' l l h0 (Int.le_refl _) (by rw [i3]; exact hb) h63
  have hlr : (List.replicate l.toNat z0).length = l.toNat:=by simp
  have hm : (madeCells zv.cells (l.toNat * q.size)).toList = List.flatten (List.replicate l.toNat zv.cells.toList):=by
   rw [i2,← hz1]
   exact jC zv.cells l.toNat
  refine py hd (.cells (madeCells zv.cells (l.toNat * q.size)) E) (fun b=>.slice (some ⟨b,0,none⟩) (List.replicate l.toNat z0).length l.toNat) (fun b=>Buf kd E (some ⟨b,0,none⟩) l.toNat (List.replicate l.toNat z0)) (fun b I _ _=>?_) (fun I h' w s f=>?_) h
  ·have hr:=RL.rep (d:=kd) (hz I) l.toNat
   refine ⟨_,hr,.inr ⟨b,madeCells zv.cells (l.toNat * q.size),rfl,⟨(0,0),if_pos rfl,uW.zero⟩,by rw [hlr]; exact Nat.le_refl _,?_,by rw [size_madeCells,i2,hsz],?_⟩⟩
   ·unfold maxLen; omega
   ·rw [← hm]
    apply List.take_of_length_le
    rw [hlr,hsz,← i2]
    exact Nat.le_of_eq ((Array.length_toList (xs:=madeCells zv.cells (l.toNat * q.size))).trans (size_madeCells _ _))
  ·simp [execOp,hx,hy,hrun w]
theorem jE (z : Array Value) (m : Nat) : (Builtin.zeroCells z m).size = m * z.size:=by simp [Builtin.zeroCells]
theorem oH {w : World} {ge c xl yl : Nat} {cur : Array Value} {es : List Value} {v : Value} {q : TypeInfo} (hu : P.underlying T = some (.slice E)) (hq : P.info? E = some q) (src : Go.Src P q.size tx v yl es w)
  {fr : Nat × Nat} (hg : w.heap[ge]? = some (.cells cur E fr)) (hfz : Fz cur.size fr) (hroom : xl + yl ≤ c) (hfit : xl * q.size + es.length ≤ cur.size) :
  (Builtin.append_ #[T,tx] ty #[.slice (some ⟨ge,0,none⟩) xl c,v]).run P w = .ok (.slice (some ⟨ge,0,none⟩) (xl + yl) c) (w.setRow ge (dR cur.toList (xl * q.size) es).toArray):=by
 have hst:=eF (P:=P) ge (xl * q.size) E fr es 0 cur w hg hfz (by simpa using hfit) src.one
 simp only [Nat.add_zero] at hst
 rcases src.kind with ⟨e',hk⟩ | hk <;> simp [Builtin.append_,run_underlying hu,run_underlying hk,sizeOf,typeInfo,hq,src.len,hroom,src.cells,Addr.add_lit,hst,dR]
theorem su {α : Type} {kd : Kd α} {A : Option Addr} {c k bytes sz : Nat} {xs ys : List α} {v zv : Value} (hd : bZ d n = true) (hu : P.underlying T = some (.slice E)) (hi : (P.info? E).map (fun i=>(i.zero,i.size,i.bytes)) = some (some zv,sz,bytes)) (hsz : kd.sz = sz) (hz1 : zv.cells.size = sz)
  (hk : As[k]? = some (Buf kd E A c xs)) (hx : ev e x = .slice A xs.length c) (hy : ev e y = v) (hs : oe P kd tx v ys As) (h63 : xs.length + ys.length ≤ 9223372036854775807) (hb : (xs.length + ys.length) * bytes ≤ 140737488355328)
  (h : ∀ A' c',K (put e d (.slice A' (xs ++ ys).length c')) ds (As.set k (Buf kd E A' c' (xs ++ ys)))) : OA P n ⟨d,.call { callee:=.builtin .append,args:=#[x,y],argTypes:=#[T,tx] },ty,pos,aft,g⟩ K Q e ds As:=by
 intro I h' a w s r f
 obtain ⟨g1,l,⟨cs,hr,hc⟩,ff⟩:=db hk s
 obtain ⟨es,hre,src⟩:=hs I h' w s f.sees
 have hlr : (xs ++ ys).length = xs.length + ys.length:=List.length_append
 have hrall:=hr.app hre
 have hlen:=hr.len
 have helen:=hre.len
 cases hq : P.info? E with
 | none=>simp [hq] at hi
 | some q =>
  simp only [hq,Option.map_some,Option.some.injEq,Prod.mk.injEq] at hi
  obtain ⟨i1,i2,i3⟩:=hi
  have i2' : kd.sz = q.size:=hsz.trans i2.symm
  rw [i2'] at src hlen helen
  have hexec : ∀ {v' : Value} {w' : World},(Builtin.append_ #[T,tx] ty #[.slice A xs.length c,v]).run P w = .ok v' w' → (execOp (ev e) ⟨d,.call { callee:=.builtin .append,args:=#[x,y],argTypes:=#[T,tx] },ty,pos,aft,g⟩).run P w = .ok (.value v') w':=fun {v' w'} hh=>by
   simp [execOp,resolve,invoke,builtin,hx,hy,hh]
  have grow : c < xs.length + ys.length → (Builtin.firstCells q.size xs.length (.slice A xs.length c)).run P w.drew = .ok cs.toArray w.drew →
    Oper.wp P ⟨d,.call { callee:=.builtin .append,args:=#[x,y],argTypes:=#[T,tx] },ty,pos,aft,g⟩ a w (fun a' w'=>∃ e' ds' As' I' h'',mf n e' ds' a'∧cf As' I' h''∧cZ I h' w I' h'' w'∧K e' ds' As') (en n Q I h' w):=by
   intro hlt hold
   have hrun:=run_append_grow_src w T tx ty E q zv hu hq i1 A xs.length c cs hold v ys.length es src hlt (by omega) (growslice_fits (by omega) (by rw [i3]; exact hb))
   have hge:=grownCap_ge w (xs.length + ys.length) c E
   have hcm : grownCap w (xs.length + ys.length) c E ≤ maxLen:=grownCap_le_maxLen w (xs.length + ys.length) c E (by unfold maxLen; omega)
   generalize grownCap w (xs.length + ys.length) c E = nc at *
   have gd:=cZ.drew f
   obtain ⟨ga,_⟩:=cZ.alloc gd.fits (.cells ((cs ++ es).toArray ++ Builtin.zeroCells zv.cells (nc - (xs.length + ys.length))) E)
   unfold Oper.wp
   rw [r.eval,hexec hrun]
   refine ⟨_,ds,_,I,_,r.put hd _,pd ff (A':=Buf kd E (some ⟨w.heap.size,0,none⟩) nc (xs ++ ys)) (mT f).1 ⟨cs ++ es,hrall,.inr ⟨w.heap.size,_,rfl,⟨(0,0),if_pos rfl,uW.zero⟩,by rw [hlr]; exact hge,hcm,?_,?_⟩⟩,gd.trans ga,?_⟩
   ·rw [Array.size_append,jE,hz1,List.size_toArray,List.length_append,hlen,helen,← i2,i2',← Nat.add_mul,← Nat.add_mul]
    congr 1; omega
   ·rw [Array.toList_append,i2',hlr,Nat.add_mul,← hlen,← helen,← List.length_append]
    exact List.take_left
   ·have:=h (some ⟨w.heap.size,0,none⟩) nc
    rw [hlr] at this
    exact this
  rcases hc with ⟨hA,hc0,hx0⟩ | ⟨gb,cur,hA,⟨fr,hg,hfz⟩,hlc,hcm,hcs,ht⟩
  ·clear hA; subst hc0; subst hx0
   simp only [RL] at hr; subst hr
   by_cases hy0 : ys = []
   ·subst hy0
    simp only [RL] at hre; subst hre
    have hrun : (Builtin.append_ #[T,tx] ty #[.slice A 0 0,v]).run P w = .ok (.slice A 0 0) w:=by
     have sc : (Builtin.firstCells q.size 0 v).run P w = .ok #[] w:=src.cells
     have sl : ∀ w',(Builtin.lenOf v).run P w' = .ok 0 w':=src.len
     rcases src.kind with ⟨e',hkk⟩ | hkk <;> cases A <;> simp [Builtin.append_,run_underlying hu,run_underlying hkk,sizeOf,typeInfo,hq,sc,sl,storeCells]
    unfold Oper.wp
    rw [r.eval,hexec hrun]
    have hset : As.set k (Buf kd E A 0 ([] : List α)) = As:=by
     apply List.ext_getElem?
     intro j
     rw [List.getElem?_set]
     split
     ·rename_i hj; subst hj
      have : k < As.length:=by
       rcases Nat.lt_or_ge k As.length with z | z
       ·exact z
       ·simp [List.getElem?_eq_none z] at hk
      simp [this,← hk]
     ·rfl
    exact ⟨_,ds,As.set k (Buf kd E A 0 ([] ++ [])),I,h',r.put hd _,by rw [List.append_nil,hset]; exact s,cZ.refl f,h A 0⟩
   ·have : 0 < ys.length:=List.length_pos_iff.2 hy0
    refine grow (by simpa using this) ?_
    cases A with
    | none=>exact run_firstCells_none w.drew q.size 0 0 0
    | some a=>exact run_firstCells_some w.drew q.size 0 a 0 0 [] (by simp) (by simp)
  ·subst hA
   have hh : h' gb = some (.cells cur E fr):=l gb _ hg
   have hw:=f.own gb _ hh
   have hcl : cur.toList.length = c * q.size:=(Array.length_toList (xs:=cur)).trans (hcs.trans (by rw [i2']))
   by_cases hroom : xs.length + ys.length ≤ c
   ·have hm : (xs.length + ys.length) * q.size ≤ c * q.size:=Nat.mul_le_mul_right _ hroom
    rw [Nat.add_mul] at hm
    have hrun:=oH (P:=P) (T:=T) (tx:=tx) (ty:=ty) (xl:=xs.length) (yl:=ys.length) (c:=c) hu hq src hw hfz.1 hroom (by rw [helen,hcs,i2']; exact hm)
    unfold Oper.wp
    rw [r.eval,hexec hrun]
    refine ⟨_,ds,_,I,_,r.put hd _,jn ff (A':=Buf kd E (some ⟨gb,0,none⟩) c (xs ++ ys)) hg ⟨cs ++ es,hrall,.inr ⟨gb,_,rfl,⟨fr,if_pos rfl,by rw [List.size_toArray,gx (by omega),Array.length_toList]; exact hfz⟩,by rw [hlr]; exact hroom,hcm,?_,?_⟩⟩,cZ.setRow f hh,?_⟩
    ·rw [List.size_toArray,gx (by omega),hcl,i2']
    ·show (dR cur.toList (xs.length * q.size) es).take ((xs ++ ys).length * kd.sz) = cs ++ es
     rw [i2'] at ht
     rw [hlr,i2',Nat.add_mul]
     unfold dR
     rw [ht,← hlen,← helen,← List.length_append]
     exact List.take_left
    ·have:=h (some ⟨gb,0,none⟩) c
     rw [hlr] at this
     exact this
   ·refine grow (by omega) (run_firstCells_some w.drew q.size xs.length ⟨gb,0,none⟩ xs.length c cs hlen fun j u hu'=>?_)
    rw [Addr.add_lit,Nat.zero_add]
    show w.cell? _ = _
    rw [jJ hw]
    have hj : j < xs.length * q.size:=by
     rw [← hlen]
     rcases Nat.lt_or_ge j cs.length with z | z
     ·exact z
     ·simp [List.getElem?_eq_none z] at hu'
    rw [← ht,List.getElem?_take,i2',if_pos hj] at hu'
    simpa using hu'
end
end Go.Proofs.YtckilbegmbaeeaaGreat.SL
namespace Go.Proofs.YtckilbegmbaeeaaGreat.SL
open Go Go.RowKit
set_option linter.unusedVariables false
set_option linter.unusedSimpArgs false
def Gh (As Bs : List bu) : Prop:=∀ I h w,cf As I h → ic I h w → ∃ I' h',cZ I h w I' h' w∧cf Bs I' h'
theorem Gh.of {As Bs : List bu} (hv : ∀ I h,cf As I h → cf Bs I h) : Gh As Bs:=fun I h w s f=>⟨I,h,cZ.refl f,hv I h s⟩
theorem Gh.trans {As Bs Cs : List bu} (a : Gh As Bs) (b : Gh Bs Cs) : Gh As Cs:=fun I h w s f=>by
 obtain ⟨I1,h1,g1,s1⟩:=a I h w s f
 obtain ⟨I2,h2,g2,s2⟩:=b I1 h1 w s1 g1.fits
 exact ⟨I2,h2,g1.trans g2,s2⟩
section
variable {P : Program} {n : Nat} {Q : dz} {e : Env} {ds : List Deferred} {As Bs : List bu} {d : Option Nat} {ty T T' E tx : TypeId} {pos : String} {aft : Array Edge} {g : Option (Nat × Bool)} {x y z : Operand} {K : Env → List Deferred → List bu → Prop}
theorem en.goes {I0 h0 I h : Hp} {w0 w : World} (gg : cZ I0 h0 w0 I h w) {ex : Exit} {a' : Act} {w' : World} (p : en n Q I h w ex a' w') : en n Q I0 h0 w0 ex a' w':=by
 obtain ⟨e',ds',As',I',h',r',s',g',q⟩:=p
 exact ⟨e',ds',As',I',h',r',s',gg.trans g',q⟩
theorem SA.ghost {c : Code} (hv : Gh As Bs) (h : SA P n c Q e ds Bs) : SA P n c Q e ds As:=fun I h' a w s r f=>by
 obtain ⟨I1,h1,g1,s1⟩:=hv I h' w s f
 exact wp_mono (h I1 h1 a w s1 r g1.fits) fun _ _ _ p=>en.goes g1 p
theorem OA.ghost {o : Oper} (hv : Gh As Bs) (h : OA P n o K Q e ds Bs) : OA P n o K Q e ds As:=fun I h' a w s r f=>by
 obtain ⟨I1,h1,g1,s1⟩:=hv I h' w s f
 have hw:=h I1 h1 a w s1 r g1.fits
 have next : ∀ a' w',(∃ e' ds' As' I' h',mf n e' ds' a'∧cf As' I' h'∧cZ I1 h1 w I' h' w'∧K e' ds' As') → (∃ e' ds' As' I'' h'',mf n e' ds' a'∧cf As' I'' h''∧cZ I h' w I'' h'' w'∧K e' ds' As'):=fun a' w' p=>by
  obtain ⟨e',ds',As',I',h',r',s',g',q⟩:=p
  exact ⟨e',ds',As',I',h',r',s',g1.trans g',q⟩
 unfold Oper.wp at *
 generalize (execOp a.eval o).run P w = fC at *
 cases fC with
 | ok x w' =>
  cases x <;> simp only [Oper.upon] at hw ⊢ <;> first
   | exact next _ _ hw
   | exact Calls.mono hw (fun ee w'' he=>by cases ee <;> first | exact next _ _ he | exact en.goes g1 he | (obtain ⟨a2,w2,q⟩:=he; exact ⟨a2,w2,en.goes g1 q⟩))
   | exact Rows.mono hw (fun _ _ he=>next _ _ he)
 | halt x w'=>cases x <;> simp only [Oper.upon] at hw ⊢ <;> exact en.goes g1 hw
theorem Gh.freeze {α : Type} {kd : Kd α} {A : Option Addr} {c k : Nat} {xs : List α} (hk : As[k]? = some (Buf kd T A c xs)) : Gh As (As.set k (Ro kd A c xs)):=by
 intro I h w s f
 obtain ⟨h1,l,⟨cs,hr,hc⟩,ff⟩:=db hk s
 rcases hc with ⟨hA,hc,hx⟩ | ⟨gb,cur,hA,⟨fr,hg,hfz⟩,hlc,hcm,hcs,ht⟩
 ·subst hx
  exact ⟨I,h,cZ.refl f,ff _ I (fun _=>none) h (Le.refl I) ⟨Nat.zero_le _,cs,hr,.inl rfl⟩ (fun _ _ e=>by cases e) (fun b o e1 _=>⟨e1,rfl⟩)⟩
 ·have hh:=l gb _ hg
  have hI:=f.sep gb _ hh
  let ob : Obj:=.cells cur T fr
  have leI : Le I (fun b=>if b = gb then some ob else I b):=fun b u e=>by
   have : b ≠ gb:=by rintro rfl; rw [hI] at e; cases e
   simp [this,e]
  refine ⟨fun b=>if b = gb then some ob else I b,fun b=>if b = gb then none else h b,⟨⟨fun b u e=>?_,fun b u e=>?_,fun b u e=>?_⟩,leI,rfl,rfl,rfl,Nat.le_refl _,fun b hb e=>?_⟩,?_⟩
  ·by_cases hb : b = gb
   ·subst hb; simp at e; rw [← e]; exact f.own b _ hh
   ·simp [hb] at e; exact f.imm b u e
  ·by_cases hb : b = gb
   ·simp [hb] at e
   ·simp [hb] at e; exact f.own b u e
  ·by_cases hb : b = gb
   ·simp [hb] at e
   ·simp [hb] at e; simp [hb]; exact f.sep b u e
  ·have : b ≠ gb:=by rintro rfl; rw [hh] at e; cases e
   exact ⟨rfl,by simp [this,e],by simp [this]⟩
  ·refine ff _ _ (fun _=>none) _ leI ⟨hlc,cs,hr.mono leI,.inr ⟨gb,0,cur,T,fr,hA,by simp [ob],fun j v hj=>?_⟩⟩ (fun _ _ e=>by cases e) (fun b u e1 e2=>?_)
   ·have hj' : j < xs.length * kd.sz:=by
     rw [← hr.len]
     rcases Nat.lt_or_ge j cs.length with q | q
     ·exact q
     ·simp [List.getElem?_eq_none q] at hj
    rw [← ht,List.getElem?_take,if_pos hj'] at hj
    simpa using hj
   ·have : b ≠ gb:=by rintro rfl; rw [hg] at e2; cases e2
    exact ⟨by simp [this,e1],rfl⟩
theorem Gh.nilBuf {α : Type} (kd : Kd α) (T : TypeId) : Gh As (As ++ [Buf kd T none 0 []]):=Gh.of fun I h s =>
 cX ⟨Le.refl h,(fun _ _ e=>by cases e),fun _ _ _=>rfl⟩ s ⟨fun _=>none,fun _=>none,⟨fun _ _ e=>(by cases e),fun _ _ e=>(by cases e),fun _ _ e=>(by cases e)⟩,⟨[],rfl,.inl ⟨rfl,rfl,rfl⟩⟩,trivial⟩
theorem Gh.nilRo {α : Type} (kd : Kd α) (A : Option Addr) (c : Nat) : Gh As (As ++ [Ro kd A c []]):=Gh.of fun I h s =>
 cX ⟨Le.refl h,(fun _ _ e=>by cases e),fun _ _ _=>rfl⟩ s ⟨fun _=>none,fun _=>none,⟨fun _ _ e=>(by cases e),fun _ _ e=>(by cases e),fun _ _ e=>(by cases e)⟩,⟨Nat.zero_le _,[],rfl,.inl rfl⟩,trivial⟩
theorem Gh.know {k : Nat} {A B : bu} (hk : As[k]? = some A) (hp : B.pers = true) (hv : ∀ I h,A.P I h → B.P I h) : Gh As (As ++ [B]):=Gh.of fun I h s=>by
 obtain ⟨h1,_,p,_⟩:=db hk s
 exact cX ⟨Le.refl h,(fun _ _ e=>by cases e),fun _ _ _=>rfl⟩ s ⟨fun _=>none,fun _=>none,⟨fun _ _ e=>(by cases e),fun _ _ e=>(by cases e),fun _ _ e=>(by cases e)⟩,B.free hp (hv I h1 p),trivial⟩
def sub {α : Type} (xs : List α) (l h : Int) : List α:=(xs.drop l.toNat).take (h.toNat - l.toNat)
def cL (A : Option Addr) (l m : Int) (sz : Nat) : Option Addr:=sliced_addr A l.toNat m.toNat sz
 where sliced_addr (A : Option Addr) (l m sz : Nat) : Option Addr:=if m = l then A else A.map (·.add (l * sz))
theorem po {α : Type} {xs : List α} {l h : Int} (h0 : 0 ≤ l) (h1 : l ≤ h) (h2 : h ≤ (xs.length : Int)) : (sub xs l h).length = h.toNat - l.toNat:=by
 simp [sub]; omega
theorem RL.sub {α : Type} {kd : Kd α} {I : Hp} : ∀ {xs : List α} {cs : List Value} (l m : Nat),RL kd I cs xs → RL kd I ((cs.drop (l * kd.sz)).take (m * kd.sz)) ((xs.drop l).take m)
 | [],cs,l,m,h=>by simp only [RL] at h; subst h; simp [RL]
 | x::xs,_,0,0,_=>by simp [RL]
 | x::xs,_,0,m + 1,⟨c1,c2,e,h1,h2⟩=>by
  have ih:=RL.sub 0 m h2
  have hl:=kd.len h1
  refine ⟨c1,_,?_,h1,ih⟩
  subst e
  simp only [Nat.zero_mul,List.drop_zero]
  rw [List.take_append,hl,List.take_of_length_le (by rw [hl,Nat.add_mul]; omega),show (m + 1) * kd.sz - kd.sz = m * kd.sz from by rw [Nat.add_mul]; omega]
 | x::xs,_,l + 1,m,⟨c1,c2,e,h1,h2⟩=>by
  have ih:=RL.sub l m h2
  have hl:=kd.len h1
  subst e
  rw [List.drop_append,List.drop_of_length_le (by rw [hl,Nat.add_mul]; omega),hl,show (l + 1) * kd.sz - kd.sz = l * kd.sz from by rw [Nat.add_mul]; omega]
  simpa using ih
theorem ua {α : Type} {kd : Kd α} {A : Option Addr} {c sz : Nat} {xs : List α} {l h m : Int} (hsz : kd.sz = sz) (h0 : 0 ≤ l) (h1 : l ≤ h) (h2 : h ≤ (xs.length : Int)) (h3 : h ≤ m) :
  ∀ I hh,(Ro kd A c xs).P I hh → (Ro kd (cL A l m sz) (m.toNat - l.toNat) (sub xs l h)).P I hh:=fun I hh ⟨hle,cs,hr,hx⟩=>by
 subst hsz
 have hlen:=po h0 h1 h2
 refine ⟨by rw [hlen]; omega,_,RL.sub l.toNat (h.toNat - l.toNat) hr,?_⟩
 by_cases hm : m.toNat = l.toNat
 ·left
  apply List.eq_nil_of_length_eq_zero
  show (sub xs l h).length = 0
  rw [hlen]; omega
 ·rcases hx with hx | ⟨b,off,C,T,fr,hA,hb,hv⟩
  ·left; subst hx; simp [sub]
  ·right
   subst hA
   refine ⟨b,off + l.toNat * kd.sz,C,T,fr,by simp [cL,cL.sliced_addr,hm,Addr.add_lit],hb,fun j v hj=>?_⟩
   rw [List.getElem?_take] at hj
   split at hj
   ·rw [List.getElem?_drop] at hj
    have:=hv _ v hj
    rw [Nat.add_assoc]; exact this
   ·cases hj
theorem Gh.subRo {α : Type} {kd : Kd α} {A : Option Addr} {c k sz : Nat} {xs : List α} {l h m : Int} (hk : As[k]? = some (Ro kd A c xs)) (hsz : kd.sz = sz) (h0 : 0 ≤ l) (h1 : l ≤ h) (h2 : h ≤ (xs.length : Int)) (h3 : h ≤ m) :
  Gh As (As ++ [Ro kd (cL A l m sz) (m.toNat - l.toNat) (sub xs l h)]):=Gh.know hk rfl (ua hsz h0 h1 h2 h3)
theorem nx {A : Option Addr} {len c sz : Nat} {lo hi mx : Option Operand} {lv hv mv : Option Value} {l h m : Int} (hu : P.underlying T = some (.slice E)) (hz : (P.info? E).map (·.size) = some sz) (hx : ev e x = .slice A len c)
  (hlo : lo.map (ev e) = lv) (hhi : hi.map (ev e) = hv) (hmx : mx.map (ev e) = mv)
  (hb : (lv = none∧l = 0 ∨ ∃ k,lv = some (.int k l))∧(hv = none∧mv = none∧h = len ∨ ∃ k,hv = some (.int k h))∧(mv = none∧m = c ∨ (∃ k,mv = some (.int k m))∧∃ k,hv = some (.int k h)))
  (h0 : 0 ≤ l) (h1 : l ≤ h) (h2 : h ≤ m) (h3 : m ≤ (c : Int)) : V P e ⟨d,.slice T x lo hi mx,ty,pos,aft,g⟩ (.slice (cL A l m sz) (h.toNat - l.toNat) (m.toNat - l.toNat)):=fun w=>by
 cases hq : P.info? E with
 | none=>simp [hq] at hz
 | some q =>
  have hz' : q.size = sz:=by simpa [hq] using hz
  have hs : (Instr.slice T (.slice A len c) lv hv mv).run P w = .ok (.slice (cL A l m sz) (h.toNat - l.toNat) (m.toNat - l.toNat)) w:=by
   have em : (m.toNat : Int) = m:=Int.toNat_of_nonneg (by omega)
   have eh : (h.toNat : Int) = h:=Int.toNat_of_nonneg (by omega)
   have bm : (k : IntKind) → ∀ code,(Instr.sliceBound (.int k m) c code).run P w = .ok m.toNat w:=fun k code=>run_sliceBound (P:=P) (w:=w) k m c code (by omega) h3
   have bh : (k : IntKind) → ∀ code,(Instr.sliceBound (.int k h) m.toNat code).run P w = .ok h.toNat w:=fun k code=>run_sliceBound (P:=P) (w:=w) k h m.toNat code (by omega) (by omega)
   have bl : (k : IntKind) → ∀ code,(Instr.sliceBound (.int k l) h.toNat code).run P w = .ok l.toNat w:=fun k code=>run_sliceBound (P:=P) (w:=w) k l h.toNat code (by omega) (by omega)
   obtain ⟨hl',hh',hm'⟩:=hb
   have e0 : ∀ (q : TypeId),True:=fun _=>trivial
   rcases hm' with ⟨rfl,rfl⟩ | ⟨⟨km,rfl⟩,kh,hhv⟩
   ·simp only [Int.toNat_natCast] at *
    rcases hh' with ⟨rfl,_,rfl⟩ | ⟨kh,rfl⟩
    ·simp only [Int.toNat_natCast] at *
     rcases hl' with ⟨rfl,rfl⟩ | ⟨kl,rfl⟩ <;> simp [Instr.slice,run_underlying hu,Instr.sliceBounds,bl,sizeOf,typeInfo,hq,hz',cL,cL.sliced_addr]
    ·rcases hl' with ⟨rfl,rfl⟩ | ⟨kl,rfl⟩ <;> simp [Instr.slice,run_underlying hu,Instr.sliceBounds,bl,bh,sizeOf,typeInfo,hq,hz',cL,cL.sliced_addr]
   ·subst hhv
    rcases hl' with ⟨rfl,rfl⟩ | ⟨kl,rfl⟩ <;> simp [Instr.slice,run_underlying hu,Instr.sliceBounds,bl,bh,bm,sizeOf,typeInfo,hq,hz',cL,cL.sliced_addr]
  simp only [execOp,hx,hlo,hhi,hmx,Instr.sliceAt,Sem.run_bind,run_underlying hu,Result.andThen_ok,hs,Sem.run_pure]
theorem pf {f : FuncId} {fn : Func} {c : Code} (hf : P.funcs[f]? = some fn) (hname : (fn.name == "runtime.NumGoroutine") = false) (hb : fn.body = some c) (args : Array Value) (w : World) :
  (callFunc f args).run P w = .ok (.enter f args) w:=by
 have h1 : fn.name ≠ "runtime.NumGoroutine" := by simpa using hname
 simp [callFunc,hf,h1,hb]
theorem xh {f : FuncId} {fn : Func} {c : Code} {args : Array Operand} {ts : Array TypeId} {vs : Array Value} (hf : P.funcs[f]? = some fn) (hn : (fn.name == "runtime.NumGoroutine") = false) (hb : fn.body = some c) (ha : args.map (ev e) = vs) (w : World) :
  (execOp (ev e) ⟨d,.call { callee:=.value (.func f),args:=args,argTypes:=ts },ty,pos,aft,g⟩).run P w = .ok (.enter f vs) w:=by
 have:=pf hf hn hb (vs ++ #[]) w
 simp only [Array.append_empty] at this
 simp [execOp,resolve,ev,Deferred.ofValue,invoke,ha,this]
theorem vw {t : Nat} {f : FuncId} {fn : Func} {c : Code} {args : Array Operand} {ts : Array TypeId} {vs cap : Array Value} (ht : e t = .func (.func f) #[] cap) (hf : P.funcs[f]? = some fn) (hn : (fn.name == "runtime.NumGoroutine") = false) (hb : fn.body = some c) (ha : args.map (ev e) = vs) (w : World) :
  (execOp (ev e) ⟨d,.call { callee:=.value (.tmp t),args:=args,argTypes:=ts },ty,pos,aft,g⟩).run P w = .ok (.enter f (vs ++ cap)) w:=by
 have:=pf hf hn hb (vs ++ cap) w
 simp [execOp,resolve,ev,ht,Deferred.ofValue,invoke,ha,this]
theorem vB {fn : Func} {R : Ending → List bu → Prop} {t : Nat} {v : Value} (h : fn.results = #[.tmp t]) (hv : e t = v) (hd : ds = []) (hR : R (.returned v) As) : jc P fn R .ret e ds As:=by
 refine ⟨hd,v,fun I h' w tmps ht _ _=>?_,hR⟩
 have:=ht t
 simp at this
 simp [results,h,this,hv]
theorem vl {fn : Func} {R : Ending → List bu → Prop} {t1 t2 : Nat} {v1 v2 : Value} (h : fn.results = #[.tmp t1,.tmp t2]) (h1 : e t1 = v1) (h2 : e t2 = v2) (hd : ds = []) (hR : R (.returned (.tuple #[v1,v2])) As) : jc P fn R .ret e ds As:=by
 refine ⟨hd,_,fun I h' w tmps ht _ _=>?_,hR⟩
 have a1:=ht t1
 have a2:=ht t2
 simp at a1 a2
 simp [results,h,a1,a2,h1,h2]
theorem vn {fn : Func} {R : Ending → List bu → Prop} (h : fn.results = #[]) (hd : ds = []) (hR : R (.returned (.tuple #[])) As) : jc P fn R .ret e ds As:=by
 refine ⟨hd,_,fun I h' w tmps ht _ _=>?_,hR⟩
 simp [results,h]
end
theorem Bc {α : Type} {c : Prop} [Decidable c] {x y : Option α} {r : α} (h : (if c then x else y) = some r) : c∧x = some r ∨ ¬c∧y = some r:=by
 by_cases hc : c
 ·rw [if_pos hc] at h; exact .inl ⟨hc,h⟩
 ·rw [if_neg hc] at h; exact .inr ⟨hc,h⟩
theorem aR {α : Type} {c : Prop} [Decidable c] {x : Option α} {r : α} (h : (if c then x else none) = some r) : c∧x = some r:=by
 by_cases hc : c
 ·rw [if_pos hc] at h; exact ⟨hc,h⟩
 ·rw [if_neg hc] at h; cases h
theorem ac {α β : Type} {x : Option α} {f : α → Option β} {r : β} (h : x.bind f = some r) : ∃ a,x = some a∧f a = some r:=Option.bind_eq_some_iff.1 h
def lt {α β : Type} (x : α) (f : α → β) : β:=f x
theorem br {α β : Type} {x : α} {f : α → Option β} {r : β} (h : lt x f = some r) : ∃ y,y = x∧f y = some r:=⟨x,rfl,h⟩
end Go.Proofs.YtckilbegmbaeeaaGreat.SL
namespace Go.Proofs.YtckilbegmbaeeaaGreat.SL
open Go Go.RowKit
set_option linter.unusedVariables false
set_option linter.unusedSimpArgs false
inductive Out (ρ σ : Type) where
 | ret (r : ρ)
 | go (s : σ)
def Out.el {ρ σ β : Type} (t : Out ρ σ) (f : ρ → Option β) (g : σ → Option β) : Option β:=match t with | .ret r=>f r | .go s=>g s
theorem dS {ρ σ β : Type} {r : ρ} {f : ρ → Option β} {g : σ → Option β} {x : β} (h : Out.el (.ret r) f g = some x) : f r = some x:=h
theorem fW {ρ σ β : Type} {s : σ} {f : ρ → Option β} {g : σ → Option β} {x : β} (h : Out.el (.go s) f g = some x) : g s = some x:=h
structure St (l : List (Nat × Value)) (B : List bu) (e : Env) (ds : List Deferred) (As : List bu) : Prop where
 env : lk e l
 dfs : ds = []
 gh : Gh As B
theorem Gh.refl (As : List bu) : Gh As As:=Gh.of fun _ _ s=>s
theorem Gh.sel {As B : List bu} (ks : List Nat) (hs : eC ks As = true) (he : sel ks As = B) : Gh As B:=Gh.of fun _ _ s=>he ▸ hM hs s
theorem Gh.app {As B C : List bu} (h : Gh As B) : Gh (As ++ C) (B ++ C):=fun I hh w s f=>by
 obtain ⟨h1,h2,sp,sa,sb⟩:=fT s
 obtain ⟨I',dx,g,s'⟩:=h I h1 w sa (f.less sp.1)
 obtain ⟨g',ed⟩:=cZ.frame f sp g
 exact ⟨I',_,g',cX ed s' (jk g.le sb)⟩
theorem St.mk1 {l : List (Nat × Value)} {B : List bu} {e : Env} {As : List bu} (h : lk e l) (g : Gh As B) : St l B e [] As:=⟨h,rfl,g⟩
section
variable {P : Program} {n : Nat} {Q : dz} {e : Env} {ds : List Deferred} {As B : List bu} {l : List (Nat × Value)} {K : Env → List Deferred → List bu → Prop}
theorem SA.of_St {c : Code} (s : St l B e ds As) (h : ∀ junk,SA P n c Q (re junk l) [] B) : SA P n c Q e ds As:=by
 obtain ⟨h1,rfl,h3⟩:=s
 refine SA.ghost h3 ?_
 have:=h e
 rwa [← lJ h1] at this
theorem aa (h : K e ds As) : thn K Q .normal e ds As:=h
theorem bc {i : Nat} (h : Q (.exit i) e ds As) : thn K Q (.exit i) e ds As:=h
theorem aI (h : Q .ret e ds As) : thn K Q .ret e ds As:=h
theorem aF {i : Nat} (h : Q .normal e ds As) : inb i Q .normal e ds As:=h
theorem bi {i : Nat} (h : Q .ret e ds As) : inb i Q .ret e ds As:=h
theorem cr {i : Nat} (h : Q .normal e ds As) : inb i Q (.exit i) e ds As:=by
 show (bif Nat.beq i i then _ else _)
 rw [Nat.beq_refl]; exact h
theorem tB {i j : Nat} (hb : Nat.beq j i = false) (h : Q (.exit j) e ds As) : inb i Q (.exit j) e ds As:=by
 show (bif Nat.beq j i then _ else _)
 rw [hb]; exact h
def bP (Q : dz) : Prop:=∀ c e e' ds As,Q (.panic c) e ds As → Q (.panic c) e' ds As
theorem bP.thn (h : bP Q) : bP (thn K Q):=h
theorem bP.inb {i : Nat} (h : bP Q) : bP (inb i Q):=h
theorem bP.body {fn : Func} {R : Ending → List bu → Prop} : bP (jc P fn R):=fun _ _ _ _ _ h=>h
def sX (R : Value → List bu → Prop) : Ending → List bu → Prop:=fun x As=>∃ v B,x = .returned v∧Gh As B∧R v B
def df (P : Program) (f : FuncId) (args : Array Value) (pre : List bu) (R : Value → List bu → Prop) : Prop:=SC P f args pre (sX R)
theorem df.mono {f : FuncId} {args : Array Value} {pre : List bu} {R R' : Value → List bu → Prop} (h : df P f args pre R) (hr : ∀ v B,R v B → R' v B) : df P f args pre R' :=
 SC.mono h fun x As ⟨v,B,hx,g,r⟩=>⟨v,B,hx,g,hr v B r⟩
theorem df.pre {f : FuncId} {args : Array Value} {pre pre' : List bu} {R : Value → List bu → Prop} (h : df P f args pre R) (hg : Gh pre' pre) : df P f args pre' R:=fun I hh w s ft=>by
 obtain ⟨I1,h1,g1,s1⟩:=hg I hh w s ft
 exact (h I1 h1 w s1 g1.fits).mono fun x w' ⟨hx,As',I',h',s',g,r⟩=>⟨hx,As',I',h',s',g1.trans g,r⟩
theorem oC {o : Oper} {f : FuncId} {args : Array Value} {pre : List bu} {R : Value → List bu → Prop} (ks rs : List Nat) (hd : bZ o.dst n = true)
  (hv : ∀ w,(execOp (ev e) o).run P w = .ok (.enter f args) w) (hs : eC (ks ++ rs) As = true)
  (hc : df P f args pre R) (hp : sel ks As = pre)
  (h : ∀ v B,R v B → K (put e o.dst v) ds (B ++ sel rs As)) : OA P n o K Q e ds As:=by
 intro I h' a w s r ft
 have s2:=hM hs s
 have es : sel (ks ++ rs) As = pre ++ sel rs As:=by rw [← hp]; simp [sel]
 rw [es] at s2
 obtain ⟨h1,h2,sp,sa,sb⟩:=fT s2
 unfold Oper.wp
 rw [r.eval,hv w]
 simp only [Oper.upon]
 refine (hc I h1 w sa (ft.less sp.1)).mono fun x w' hx=>?_
 obtain ⟨_,As',I',dx,s1,g,v,B,rfl,hG,hR⟩:=hx
 obtain ⟨I2,h2',g2,s2'⟩:=hG I' dx w' s1 g.fits
 have gg:=g.trans g2
 obtain ⟨g',ed⟩:=cZ.frame ft sp gg
 exact ⟨_,ds,B ++ sel rs As,I2,_,r.put hd v,cX ed s2' (jk gg.le sb),g',h v B hR⟩
theorem mq {fn : Func} {R : Value → List bu → Prop} {t : Nat} {v : Value} (B : List bu) (h : fn.results = #[.tmp t]) (hv : e t = v) (hg : Gh As B) (hR : R v B) : jc P fn (sX R) .ret e [] As:=vB h hv rfl ⟨v,B,rfl,hg,hR⟩
theorem yC {fn : Func} {R : Value → List bu → Prop} {t1 t2 : Nat} {v1 v2 : Value} (B : List bu) (h : fn.results = #[.tmp t1,.tmp t2]) (h1 : e t1 = v1) (h2 : e t2 = v2) (hg : Gh As B) (hR : R (.tuple #[v1,v2]) B) : jc P fn (sX R) .ret e [] As:=vl h h1 h2 rfl ⟨_,B,rfl,hg,hR⟩
theorem kT {fn : Func} {R : Value → List bu → Prop} (B : List bu) (h : fn.results = #[]) (hg : Gh As B) (hR : R (.tuple #[]) B) : jc P fn (sX R) .ret e [] As:=vn h rfl ⟨_,B,rfl,hg,hR⟩
theorem rX {fn : Func} {R : Value → List bu → Prop} (B : List bu) (h : fn.results = #[]) (hg : Gh As B) (hR : R (.tuple #[]) B) : jc P fn (sX R) .normal e [] As:=kT (e:=e) B h hg hR
theorem aj {ops : Array Oper} (h : Q .normal e ds As) : RA P n ops Q [] e ds As:=h
theorem OA.mono {o : Oper} {K' : Env → List Deferred → List bu → Prop} (h : OA P n o K Q e ds As) (hk : ∀ e ds As,K e ds As → K' e ds As) : OA P n o K' Q e ds As:=fun I h' a w s r f =>
 Oper.wp_mono (fun a' w' ⟨e',ds',As',I',h'',r',s',g',q⟩=>⟨e',ds',As',I',h'',r',s',g',hk _ _ _ q⟩) (h I h' a w s r f)
theorem nU {ops : Array Oper} {M : Env → List Deferred → List bu → Prop} : ∀ (os : List Oper) {os2 : List Oper} {e : Env} {ds : List Deferred} {As : List bu},
  RA P n ops (thn M Q) os e ds As → (∀ e ds As,M e ds As → RA P n ops Q os2 e ds As) → RA P n ops Q (os ++ os2) e ds As
 | [],_,_,_,_,h,k=>k _ _ _ h
 | o::os,os2,_,_,_,h,k=>fun I h' a w s r f=>by
  rcases h I h' a w s r f with ⟨hw,hwp⟩ | ⟨hw,hd,hk⟩
  ·refine .inl ⟨hw,?_⟩
   have next : ∀ a' w',(∃ e' ds' As' I' h'',mf n e' ds' a'∧cf As' I' h''∧cZ I h' w I' h'' w'∧RA P n ops (thn M Q) os e' ds' As') → (∃ e' ds' As' I' h'',mf n e' ds' a'∧cf As' I' h''∧cZ I h' w I' h'' w'∧RA P n ops Q (os ++ os2) e' ds' As') :=
    fun a' w' ⟨e',ds',As',I',h'',r',s',g',q⟩=>⟨e',ds',As',I',h'',r',s',g',nU os q k⟩
   have post : ∀ x a' w',x ≠ .normal → en n (thn M Q) I h' w x a' w' → en n Q I h' w x a' w':=fun x a' w' hx ⟨e',ds',As',I',h'',r',s',g',q⟩=>⟨e',ds',As',I',h'',r',s',g',by cases x <;> first | exact absurd rfl hx | exact q⟩
   unfold Oper.wp at *
   generalize (execOp a.eval o).run P w = fC at *
   cases fC with
   | ok x w' =>
    cases x <;> simp only [Oper.upon] at hwp ⊢ <;> first
     | exact next _ _ hwp
     | exact Calls.mono hwp (fun ee w'' he=>by cases ee <;> first | exact next _ _ he | exact post _ _ _ (by simp) he | (obtain ⟨a2,w2,q⟩:=he; exact ⟨a2,w2,post _ _ _ (by simp) q⟩))
     | exact Rows.mono hwp (fun _ _ he=>next _ _ he)
   | halt x w'=>cases x <;> simp only [Oper.upon] at hwp ⊢ <;> exact post _ _ _ (by simp) hwp
  ·exact .inr ⟨hw,hd,nU os hk k⟩
theorem RA.of_St {ops : Array Oper} {o : Oper} {os : List Oper} (hgu : o.guard = none) (s : St l B e ds As) (h : ∀ junk,RA P n ops Q (o::os) (re junk l) [] B) : RA P n ops Q (o::os) e ds As:=by
 obtain ⟨h1,rfl,h3⟩:=s
 have hh:=h e
 rw [← lJ h1] at hh
 intro I h' a w s r f
 obtain ⟨I1,dx,g1,s1⟩:=h3 I h' w s f
 rcases hh I1 dx a w s1 r g1.fits with ⟨hw,hwp⟩ | ⟨hw,hd,hk⟩
 ·refine .inl ⟨hw,?_⟩
  have next : ∀ a' w',(∃ e' ds' As' I' h'',mf n e' ds' a'∧cf As' I' h''∧cZ I1 dx w I' h'' w'∧RA P n ops Q os e' ds' As') → (∃ e' ds' As' I' h'',mf n e' ds' a'∧cf As' I' h''∧cZ I h' w I' h'' w'∧RA P n ops Q os e' ds' As') :=
   fun a' w' ⟨e',ds',As',I',h'',r',s',g',q⟩=>⟨e',ds',As',I',h'',r',s',g1.trans g',q⟩
  unfold Oper.wp at *
  generalize (execOp a.eval o).run P w = fC at *
  cases fC with
  | ok x w' =>
   cases x <;> simp only [Oper.upon] at hwp ⊢ <;> first
    | exact next _ _ hwp
    | exact Calls.mono hwp (fun ee w'' he=>by cases ee <;> first | exact next _ _ he | exact en.goes g1 he | (obtain ⟨a2,w2,q⟩:=he; exact ⟨a2,w2,en.goes g1 q⟩))
    | exact Rows.mono hwp (fun _ _ he=>next _ _ he)
  | halt x w'=>cases x <;> simp only [Oper.upon] at hwp ⊢ <;> exact en.goes g1 hwp
 ·simp [Region.wanted,hgu] at hw
end
end Go.Proofs.YtckilbegmbaeeaaGreat.SL
namespace Go.Proofs.YtckilbegmbaeeaaGreat.SL
open Go Go.RowKit
set_option linter.unusedVariables false
set_option linter.unusedSimpArgs false
section
variable {P : Program} {n : Nat} {Q : dz} {e : Env} {ds : List Deferred} {As B : List bu} {l : List (Nat × Value)} {K : Env → List Deferred → List bu → Prop} {d : Option Nat} {ty T T' E tx : TypeId} {pos : String} {aft : Array Edge} {g : Option (Nat × Bool)} {x y z c : Operand}
theorem dQ : lk e []:=trivial
theorem cJ {t : Nat} {v : Value} (h : e t = v) (k : lk e l) : lk e ((t,v)::l):=⟨h,k⟩
theorem aB {p : Prop} [Decidable p] {a b : Code} (hc : ev e c = .bool (decide p)) (hp : p) (h : SA P n a Q e ds As) : SA P n (.cond c a b) Q e ds As:=sk hc (fun _=>h) (fun k=>absurd hp k)
theorem aA {p : Prop} [Decidable p] {a b : Code} (hc : ev e c = .bool (decide p)) (hp : ¬p) (h : SA P n b Q e ds As) : SA P n (.cond c a b) Q e ds As:=sk hc (fun k=>absurd k hp) (fun _=>h)
theorem aC {p : Bool} {a b : Code} (hc : ev e c = .bool p) (hp : p = true) (h : SA P n a Q e ds As) : SA P n (.cond c a b) Q e ds As:=qD hc (fun _=>h) (fun k=>by rw [hp] at k; cases k)
theorem aD {p : Bool} {a b : Code} (hc : ev e c = .bool p) (hp : ¬p = true) (h : SA P n b Q e ds As) : SA P n (.cond c a b) Q e ds As:=qD hc (fun k=>absurd k hp) (fun _=>h)
theorem nB {ops : Array Oper} {o : Oper} {os : List Oper} {j t : Nat} {want b : Bool} (hg : o.guard = some (j,want)) (hj : (ops[j]?).bind (·.dst) = some t) (hd : Nat.blt t n = true) (hv : e t = .bool b) (hb : b = want)
  (h : OA P n o (RA P n ops Q os) Q e ds As) : RA P n ops Q (o::os) e ds As:=xk hg hj hd (by rw [hv,hb]) h
theorem wF {ops : Array Oper} {o : Oper} {os : List Oper} {j t : Nat} {want b : Bool} (hg : o.guard = some (j,want)) (hj : (ops[j]?).bind (·.dst) = some t) (hd : Nat.blt t n = true) (hv : e t = .bool b) (hb : b = !want)
  (ho : bZ o.dst n = true) (h : RA P n ops Q os (put e o.dst undef) ds As) : RA P n ops Q (o::os) e ds As:=xX hg hj hd (by rw [hv,hb]) ho h
theorem bX {b : Bool} {v : Value} (hc : ev e c = .bool b) (hb : b = true) (hx : ev e x = v) : V P e ⟨d,.pick c x y,ty,pos,aft,g⟩ v:=by
 have:=tg (P:=P) (d:=d) (ty:=ty) (pos:=pos) (aft:=aft) (g:=g) hc hx (rfl : ev e y = ev e y)
 simpa [hb] using this
theorem bY {b : Bool} {v : Value} (hc : ev e c = .bool b) (hb : b = false) (hy : ev e y = v) : V P e ⟨d,.pick c x y,ty,pos,aft,g⟩ v:=by
 have:=tg (P:=P) (d:=d) (ty:=ty) (pos:=pos) (aft:=aft) (g:=g) hc (rfl : ev e x = ev e x) hy
 simpa [hb] using this
theorem xN {b x q : Bool} (h : q = (b && x)) (hb : b = true) : x = q:=by rw [h,hb]; rfl
theorem yh {b x q : Bool} (h : q = (b && x)) (hb : b = false) : false = q:=by rw [h,hb]; rfl
theorem Bg {b x q : Bool} (h : q = (b || x)) (hb : b = true) : true = q:=by rw [h,hb]; rfl
theorem Aq {b x q : Bool} (h : q = (b || x)) (hb : b = false) : x = q:=by rw [h,hb]; rfl
theorem ak {p : Prop} [Decidable p] (h : p) : decide p = true:=decide_eq_true h
theorem am {p : Prop} [Decidable p] (h : ¬p) : decide p = false:=decide_eq_false h
theorem aX {b : Bool} (h : ¬b = true) : b = false:=by cases b <;> simp_all
theorem cD {ops : Array Oper} (m : Nat) (M : Env → List Deferred → List bu → Prop) {os : List Oper} (h : RA P n ops (thn M Q) (os.take m) e ds As) (k : ∀ e ds As,M e ds As → RA P n ops Q (os.drop m) e ds As) : RA P n ops Q os e ds As:=by
 have:=nU (P:=P) (n:=n) (ops:=ops) (Q:=Q) (os.take m) (os2:=os.drop m) h k
 rwa [List.take_append_drop] at this
theorem oV {b m k : Nat} {cs vs : List Value} {v : Value} {cs' : List Value} (hd : bZ d n = true) (hk : As[k]? = some (aL b T' cs)) (hx : ev e x = .pointer (some ((⟨b,0,none⟩ : Addr).add m))) (hy : ev e y = v) (hv : v.cells.toList = vs)
  (h1 : vs.all (·.oneCell') = true) (hz : (P.info? T).map (·.size) = some vs.length) (hl : Nat.ble (m + vs.length) cs.length = true) (hc : dR cs m vs = cs') (h : K (put e d undef) ds (As.set k (aL b T' cs'))) : OA P n ⟨d,.store T x y,ty,pos,aft,g⟩ K Q e ds As :=
 qo cs' hd hk hx hy (by rw [← hv]) (fun u hu=>List.all_eq_true.1 h1 u hu) hz (Nat.le_of_ble_eq_true hl) hc h
theorem iB {α : Type} [Inhabited α] {kd : Kd α} {A : Option Addr} {c k j m sz : Nat} {xs : List α} {i : Int} {vs : List Value} {v : Value} (y' : α) (hd : bZ d n = true) (hk : As[k]? = some (Buf kd T' A c xs)) (hx : ev e x = .pointer (some ((el A j).add m))) (hj : j = i.toNat * sz) (hsz : kd.sz = sz) (hy : ev e y = v) (hv : v.cells.toList = vs)
  (h1 : vs.all (·.oneCell') = true) (hz : (P.info? T).map (·.size) = some vs.length) (h0 : 0 ≤ i) (hi : i < (xs.length : Int)) (hm : Nat.ble (m + vs.length) sz = true)
  (he : ∀ I cs,kd.R I cs (rd xs i) → kd.R I (dR cs m vs) y') (h : K (put e d undef) ds (As.set k (Buf kd T' A c (xs.set i.toNat y')))) : OA P n ⟨d,.store T x y,ty,pos,aft,g⟩ K Q e ds As :=
 qO y' hd hk hx hj hsz hy (by rw [← hv]) (fun u hu=>List.all_eq_true.1 h1 u hu) hz h0 hi (Nat.le_of_ble_eq_true hm) (fun I _ cs _=>he I cs) h
theorem hU {α : Type} {kd : Kd α} {parts : List (Nat × Operand)} {len sz : Nat} {cells : List Value} {zv : Value} {xs : List α} (hd : bZ d n = true) (hu : P.underlying T = some (.slice E)) (hz : (P.info? E).bind (·.zero) = some zv) (hs : (P.info? E).map (·.size) = some sz)
  (hlim : Nat.ble (len * sz) 16777216 = true) (hlen : Nat.ble len 16777216 = true) (hz1 : zv.cells.size = sz)
  (hf : Instr.fill (fun i=>some (i * sz,sz)) (List.flatten (List.replicate len zv.cells.toList)).toArray (parts.map fun p=>(p.1,ev e p.2)) = some cells.toArray)
  (hl : xs.length = len) (hk : kd.sz = sz) (hr : ∀ I,RL kd I cells xs)
  (h : ∀ b,K (put e d (.slice (some ⟨b,0,none⟩) xs.length len)) ds (As ++ [Buf kd E (some ⟨b,0,none⟩) len xs])) : OA P n ⟨d,.buildSlice T len parts.toArray,ty,pos,aft,g⟩ K Q e ds As:=by
 refine oI hd hu hz hs hlim hlen ?_ hl hk (fun I _ _=>hr I) h
 have e1 : ((Array.range (len * sz)).map ((if len * sz = 0 then #[] else zv.cells)[· % (if len * sz = 0 then #[] else zv.cells).size]!)) = (List.flatten (List.replicate len zv.cells.toList)).toArray:=by
  have hz0:=jC zv.cells len
  rw [hz1] at hz0
  apply Array.ext'
  by_cases h0 : len * sz = 0
  ·have : (List.flatten (List.replicate len zv.cells.toList)).length = 0:=by
    rw [← hz0,h0]; simp
   rw [List.eq_nil_of_length_eq_zero this,h0]
   simp
  ·simp only [if_neg h0]
   rw [hz1]
   exact hz0
 rw [e1]
 have e2 : (Array.map (fun (p : Nat × Operand)=>(p.1,ev e p.2)) parts.toArray).toList = parts.map fun p=>(p.1,ev e p.2):=by simp
 rw [← hf]
 congr 1
theorem uO {parts : List (Nat × Operand)} {fs : Array Field} {zv : Value} {pl : List (Nat × Nat)} {cells : List Value} (hz : (P.info? T).bind (·.zero) = some zv) (hu : P.underlying T = some (.struct fs))
  (hp : ∀ fs,P.underlying T = some (.struct fs) → ∀ w,(fs.mapM (fun f=>do pure (f.offset,← sizeOf f.type) : Field → Sem (Nat × Nat))).run P w = .ok pl.toArray w)
  (hf : Instr.fill (fun i : Nat=>pl[i]?) zv.cells (parts.map fun p=>(p.1,ev e p.2)) = some cells.toArray) : V P e ⟨d,.build T parts.toArray,ty,pos,aft,g⟩ (.agg cells.toArray):=fun w=>by
 cases hq : P.info? T with
 | none=>simp [hq] at hz
 | some q =>
  have hz' : q.zero = some zv:=by simpa [hq] using hz
  have e2 : (Array.map (fun (p : Nat × Operand)=>(p.1,ev e p.2)) parts.toArray).toList = parts.map fun p=>(p.1,ev e p.2):=by simp
  have hp':=hp fs hu w
  have e3 : (fun i : Nat=>(pl.toArray)[i]?) = fun i : Nat=>pl[i]?:=by funext i; simp
  have hrun : (Instr.build T (Array.map (fun (p : Nat × Operand)=>(p.1,ev e p.2)) parts.toArray)).run P w = .ok (.agg cells.toArray) w:=by
   simp only [Instr.build,Sem.run_bind,zeroValue,typeInfo,run_program,Result.andThen_ok,hq,Sem.run_pure,hz',run_underlying hu,hp',e2,e3,hf]
  show ((Sem.bind (Instr.build T (Array.map (fun (p : Nat × Operand)=>(p.1,ev e p.2)) parts.toArray)) fun v=>Sem.pure (Next.value v)) : Sem Next).run P w = _
  rw [Sem.run_bind',hrun]
  rfl
theorem AE {f : FuncId} {fn : Func} {c : Code} {args : List Operand} {ts : Array TypeId} {vs : List Value} (hf : P.funcs[f]? = some fn) (hn : (fn.name == "runtime.NumGoroutine") = false) (hb : fn.body = some c) (ha : args.map (ev e) = vs) (w : World) :
  (execOp (ev e) ⟨d,.call { callee:=.value (.func f),args:=args.toArray,argTypes:=ts },ty,pos,aft,g⟩).run P w = .ok (.enter f vs.toArray) w :=
 xh hf hn hb (by simp [ha]) w
theorem je {t : Nat} {f : FuncId} {fn : Func} {c : Code} {args : List Operand} {ts : Array TypeId} {vs cap : List Value} (ht : e t = .func (.func f) #[] cap.toArray) (hf : P.funcs[f]? = some fn) (hn : (fn.name == "runtime.NumGoroutine") = false) (hb : fn.body = some c) (ha : args.map (ev e) = vs) (w : World) :
  (execOp (ev e) ⟨d,.call { callee:=.value (.tmp t),args:=args.toArray,argTypes:=ts },ty,pos,aft,g⟩).run P w = .ok (.enter f (vs ++ cap).toArray) w:=by
 have:=vw (P:=P) (d:=d) (ty:=ty) (pos:=pos) (aft:=aft) (g:=g) (ts:=ts) ht hf hn hb (args:=args.toArray) (vs:=vs.toArray) (by simp [ha]) w
 simpa using this
def eG (xs : List Int) : ByteArray:=strOfNums xs
theorem bI {c : Code} (M : Env → List Deferred → List bu → Prop) (h : SA P n c (thn M Q) e ds As) (k : ∀ e ds As,M e ds As → Q .normal e ds As) : SA P n c Q e ds As :=
 h.mono fun ex e ds As q=>by
  cases ex with
  | normal=>exact k e ds As q
  | _=>exact q
theorem St.conv {l' : List (Nat × Value)} {B' : List bu} (s : St l B e ds As) (h : ∀ junk,St l' B' (re junk l) [] B) : St l' B' e ds As:=by
 obtain ⟨h1,rfl,h3⟩:=s
 have hh:=h e
 rw [← lJ h1] at hh
 exact ⟨hh.env,rfl,h3.trans hh.gh⟩
def wG (l : List Value) : Env:=fun t=>l.getD t undef
theorem ai {f : FuncId} {fn : Func} {c : Code} {args : List Value} {pre : List bu} {R : Value → List bu → Prop} (hf : P.funcs[f]? = some fn) (hb : fn.body = some c) (ha : Nat.ble args.length fn.ntmps = true)
  (h : SA P fn.ntmps c (jc P fn (sX R)) (wG args) [] pre) : df P f args.toArray pre R:=by
 refine qS hf hb (by simpa using Nat.le_of_ble_eq_true ha) ?_
 have : ve args.toArray = wG args:=by funext t; simp [ve,wG,List.getD]
 rw [this]; exact h
theorem qM {α : Type} {kd : Kd α} {A : Option Addr} {c k sz : Nat} {xs : List α} {lo hi mx : Option Operand} {lv hv mv : Option Value} {l h m : Int} (hk : As[k]? = some (Ro kd A c xs)) (hu : P.underlying T = some (.slice E)) (hz : (P.info? E).map (·.size) = some sz) (hx : ev e x = .slice A xs.length c)
  (hlo : lo.map (ev e) = lv) (hhi : hi.map (ev e) = hv) (hmx : mx.map (ev e) = mv)
  (hl : lv = none∧l = 0 ∨ ∃ k,lv = some (.int k l)) (hh : hv = none∧mv = none∧h = (xs.length : Int) ∨ ∃ k,hv = some (.int k h)) (hm : mv = none∧m = (c : Int) ∨ (∃ k,mv = some (.int k m))∧(∃ k,hv = some (.int k h))∧h ≤ m∧m ≤ (xs.length : Int))
  (h0 : 0 ≤ l) (h1 : l ≤ h) (h2 : h ≤ (xs.length : Int)) : VR P As e ⟨d,.slice T x lo hi mx,ty,pos,aft,g⟩ (.slice (cL A l m sz) (sub xs l h).length (m.toNat - l.toNat)):=by
 intro I hp w s f
 obtain ⟨_,_,⟨hle,_⟩,_⟩:=db hk s
 rw [po h0 h1 h2]
 refine nx (P:=P) (e:=e) (d:=d) (ty:=ty) (pos:=pos) (aft:=aft) (g:=g) hu hz hx hlo hhi hmx ⟨hl,hh,?_⟩ h0 h1 ?_ ?_ w
 ·rcases hm with ⟨a,b⟩ | ⟨a,b,_,_⟩
  ·exact .inl ⟨a,b⟩
  ·exact .inr ⟨a,b⟩
 ·rcases hm with ⟨_,b⟩ | ⟨_,_,b,_⟩ <;> omega
 ·rcases hm with ⟨_,b⟩ | ⟨_,_,_,b⟩ <;> omega
theorem Gh.subRoC {α : Type} {kd : Kd α} {A : Option Addr} {c k sz : Nat} {xs : List α} {l h m : Int} (hk : As[k]? = some (Ro kd A c xs)) (hsz : kd.sz = sz) (h0 : 0 ≤ l) (h1 : l ≤ h) (h2 : h ≤ (xs.length : Int)) (hm : m = (c : Int) ∨ h ≤ m) :
  Gh As (As ++ [Ro kd (cL A l m sz) (m.toNat - l.toNat) (sub xs l h)]):=by
 intro I hp w s f
 obtain ⟨_,_,⟨hle,_⟩,_⟩:=db hk s
 exact Gh.subRo hk hsz h0 h1 h2 (by rcases hm with b | b <;> omega) I hp w s f
theorem dL {α : Type} {kd : Kd α} (enc : α → List Value) (hR : ∀ I x,kd.R I (enc x) x) : ∀ {xs : List α} {cells : List Value},xs.flatMap enc = cells → ∀ I,RL kd I cells xs
 | [],_,h,I=>by subst h; rfl
 | x::xs,_,h,I=>by subst h; exact ⟨enc x,_,by simp,hR I x,dL enc hR rfl I⟩
theorem gZ {α : Type} {kd : Kd α} {A : Option Addr} {c k bytes sz : Nat} {xs ys : List α} {v zv : Value} (zs : List α) (hzs : zs = xs ++ ys) (hd : bZ d n = true) (hu : P.underlying T = some (.slice E)) (hi : (P.info? E).map (fun i=>(i.zero,i.size,i.bytes)) = some (some zv,sz,bytes)) (hsz : kd.sz = sz) (hz1 : zv.cells.size = sz)
  (hk : As[k]? = some (Buf kd E A c xs)) (hx : ev e x = .slice A xs.length c) (hy : ev e y = v) (hs : oe P kd tx v ys As) (h63 : xs.length + ys.length ≤ 9223372036854775807) (hb : (xs.length + ys.length) * bytes ≤ 140737488355328)
  (h : ∀ A' c',K (put e d (.slice A' zs.length c')) ds (As.set k (Buf kd E A' c' zs))) : OA P n ⟨d,.call { callee:=.builtin .append,args:=#[x,y],argTypes:=#[T,tx] },ty,pos,aft,g⟩ K Q e ds As:=by
 subst hzs
 exact su hd hu hi hsz hz1 hk hx hy hs h63 hb h
theorem wx {α : Type} {kd : Kd α} {A : Option Addr} {c k sz : Nat} {xs zs : List α} {lo hi mx : Option Operand} {lv hv mv : Option Value} {l h m : Int} (hzs : zs = sub xs l h) (hk : As[k]? = some (Ro kd A c xs)) (hu : P.underlying T = some (.slice E)) (hz : (P.info? E).map (·.size) = some sz) (hx : ev e x = .slice A xs.length c)
  (hlo : lo.map (ev e) = lv) (hhi : hi.map (ev e) = hv) (hmx : mx.map (ev e) = mv)
  (hl : lv = none∧l = 0 ∨ ∃ k,lv = some (.int k l)) (hh : hv = none∧mv = none∧h = (xs.length : Int) ∨ ∃ k,hv = some (.int k h)) (hm : mv = none∧m = (c : Int) ∨ (∃ k,mv = some (.int k m))∧(∃ k,hv = some (.int k h))∧h ≤ m∧m ≤ (xs.length : Int))
  (h0 : 0 ≤ l) (h1 : l ≤ h) (h2 : h ≤ (xs.length : Int)) : VR P As e ⟨d,.slice T x lo hi mx,ty,pos,aft,g⟩ (.slice (cL A l m sz) zs.length (m.toNat - l.toNat)):=by
 subst hzs
 exact qM hk hu hz hx hlo hhi hmx hl hh hm h0 h1 h2
theorem Gh.subN {α : Type} {kd : Kd α} {A : Option Addr} {c k sz : Nat} {xs zs : List α} {l h m : Int} (hzs : zs = sub xs l h) (hk : As[k]? = some (Ro kd A c xs)) (hsz : kd.sz = sz) (h0 : 0 ≤ l) (h1 : l ≤ h) (h2 : h ≤ (xs.length : Int)) (hm : m = (c : Int) ∨ h ≤ m) :
  Gh As (As ++ [Ro kd (cL A l m sz) (m.toNat - l.toNat) zs]):=by
 subst hzs
 exact Gh.subRoC hk hsz h0 h1 h2 hm
theorem kZ {α : Type} {c : Prop} [Decidable c] {x y : Option α} {r : α} (hc : c) (h : (if c then x else y) = some r) : x = some r:=by rwa [if_pos hc] at h
theorem ls {α : Type} {c : Prop} [Decidable c] {x y : Option α} {r : α} (hc : ¬c) (h : (if c then x else y) = some r) : y = some r:=by rwa [if_neg hc] at h
end
end Go.Proofs.YtckilbegmbaeeaaGreat.SL
namespace Go.Proofs.YtckilbegmbaeeaaGreat.SL
open Go Go.RowKit
set_option linter.unusedVariables false
set_option linter.unusedSimpArgs false
theorem zi.mono {α : Type} {d : Kd α} {A : Option Addr} {c : Nat} {xs : List α} {I I' : Hp} (hI : Le I I') (h : zi d A c xs I) : zi d A c xs I' :=
 (Ro d A c xs).mono (h:=fun _=>none) hI h
def gG (I : Hp) (Bs : List bu) : Prop:=∀ B ∈ Bs,B.pers = true∧B.P I (fun _=>none)
theorem gG.mono {I I' : Hp} {Bs : List bu} (hI : Le I I') (h : gG I Bs) : gG I' Bs:=fun B hB=>⟨(h B hB).1,B.mono hI (h B hB).2⟩
theorem gG.nil {I : Hp} : gG I []:=fun _ h=>by cases h
theorem gG.cons {I : Hp} {B : bu} {Bs : List bu} (hp : B.pers = true) (h : B.P I (fun _=>none)) (k : gG I Bs) : gG I (B::Bs):=fun C hC=>by
 rcases List.mem_cons.1 hC with e | e
 ·subst e; exact ⟨hp,h⟩
 ·exact k C e
theorem gG.sep {I : Hp} : ∀ {Bs : List bu} {h : Hp},gG I Bs → cf Bs I h
 | [],_,_=>trivial
 | B::Bs,h,k=>⟨fun _=>none,h,gz.none_l h,(k B (by simp)).2,gG.sep (Bs:=Bs) fun C hC=>k C (by simp [hC])⟩
theorem gG.add {I h : Hp} {As Bs : List bu} (s : cf As I h) (k : gG I Bs) : cf (As ++ Bs) I h :=
 cX (ha:=h) (hb:=fun _=>none) ⟨Le.refl h,(fun _ _ e=>by cases e),fun _ _ _=>rfl⟩ s k.sep
def Has (As Bs : List bu) : Prop:=∀ I h,cf As I h → gG I Bs
theorem Has.nil {As : List bu} : Has As []:=fun _ _ _=>gG.nil
theorem Has.cons {As Bs : List bu} {B : bu} (k : Nat) (hk : As[k]? = some B) (hp : B.pers = true) (h : Has As Bs) : Has As (B::Bs):=fun I hh s=>by
 obtain ⟨h1,_,p,_⟩:=db hk s
 exact gG.cons hp (B.free hp p) (h I hh s)
def Kd.ofD {α : Type} (sz : Nat) (D : α → List Value → List bu → Prop) (hl : ∀ {x cs Bs},D x cs Bs → cs.length = sz) (h1 : ∀ {x cs Bs},D x cs Bs → ∀ v ∈ cs,v.oneCell' = true) : Kd α :=
 ⟨sz,fun I cs x=>∃ Bs,D x cs Bs∧gG I Bs,fun ⟨_,h,_⟩=>hl h,fun ⟨_,h,_⟩=>h1 h,fun hI ⟨Bs,h,k⟩=>⟨Bs,h,k.mono hI⟩,false⟩
def FQ {α : Type} (kd : Kd α) (x : List α) (cs : List Value) (Bs : List bu) : Prop:=∃ (A : Option Addr) (c : Nat),cs = [.slice A x.length c]∧Bs = [Ro kd A c x]
def Kd.sl {α : Type} (kd : Kd α) : Kd (List α) :=
 Kd.ofD 1 (FQ kd) (fun ⟨_,_,e,_⟩=>by rw [e]; rfl) (fun ⟨_,_,e,_⟩ v hv=>by rw [e] at hv; simp at hv; subst hv; rfl)
section
variable {P : Program} {n : Nat} {Q : dz} {e : Env} {ds : List Deferred} {As As' : List bu} {d : Option Nat} {ty T T' E tx : TypeId} {pos : String} {aft : Array Edge} {g : Option (Nat × Bool)} {x y z : Operand} {K : Env → List Deferred → List bu → Prop}
theorem wo {ops : Array Oper} {o : Oper} {os : List Oper} {j t : Nat} {want : Bool} (hg : o.guard = some (j,want)) (hj : (ops[j]?).bind (·.dst) = some t) (hd : Nat.blt t n = true) (hv : e t = undef)
  (ho : bZ o.dst n = true) (h : RA P n ops Q os (put e o.dst undef) ds As) : RA P n ops Q (o::os) e ds As :=
 fun I h' a w s r f=>.inr ⟨by simp [Region.wanted,hg,gQ r hj (by simpa using hd),hv,undef],ho,h⟩
theorem pF {fs : Array Field} {f : Field} {i m o : Nat} {B : Addr} (hu : P.underlying T = some (.struct fs)) (hf : fs[i]? = some f) (hz : ((P.info? f.type).map fun i=>decide (i.size = 0)) = some false) (hx : ev e x = .pointer (some (B.add m))) (ho : m + f.offset = o) :
  V P e ⟨d,.fieldAddr T x i,ty,pos,aft,g⟩ (.pointer (some (B.add o))):=by
 subst ho; exact oM hu hf hz hx
def bo {α : Type} (xs : List α) (off : Nat) (ys : List α) : List α:=xs.take off ++ ys ++ xs.drop (off + ys.length)
theorem eM {α : Type} {xs ys : List α} {off : Nat} (h : off + ys.length ≤ xs.length) : (bo xs off ys).length = xs.length:=by
 unfold bo
 rw [List.length_append,List.length_append,List.length_take,List.length_drop]; omega
def pO {α : Type} (P : Program) (kd : Kd α) (v : Value) (ys : List α) (As : List bu) : Prop :=
 ∀ I h w,cf As I h → lX I h w → (∀ w',(Builtin.lenOf v).run P w' = .ok ys.length w')∧∀ k,k ≤ ys.length → ∃ cs,RL kd I cs (ys.take k)∧(Builtin.firstCells kd.sz k v).run P w = .ok cs.toArray w
theorem pO.slice {α : Type} {kd : Kd α} {A : Option Addr} {c : Nat} {ys : List α} (hs : Src kd A ys As) : pO P kd (.slice A ys.length c) ys As:=by
 intro I h w s f
 refine ⟨fun _=>rfl,fun k hk=>?_⟩
 obtain ⟨cs,hr,hc⟩:=hs I h w s f
 have hr2 : RL kd I ((cs.drop (0 * kd.sz)).take (k * kd.sz)) ((ys.drop 0).take k):=RL.sub (kd:=kd) 0 k hr
 simp only [Nat.zero_mul,List.drop_zero] at hr2
 refine ⟨_,hr2,?_⟩
 cases A with
 | none =>
  rcases hc with rfl | ⟨b,off,e,_⟩
  ·simp only [RL] at hr; subst hr
   simpa using run_firstCells_none w kd.sz k 0 c
  ·cases e
 | some a =>
  refine run_firstCells_some w kd.sz k a ys.length c _ ?_ fun j u hu=>?_
  ·rw [hr2.len,List.length_take,Nat.min_eq_left hk]
  ·rcases hc with rfl | ⟨b,off,e,hc⟩
   ·simp only [RL] at hr; subst hr; simp at hu
   ·obtain rfl:=Option.some.inj e
    rw [Addr.add_lit]
    rw [List.getElem?_take] at hu
    split at hu
    ·exact hc j u hu
    ·cases hu
theorem mY {w w' : World} {q : TypeInfo} {v : Value} {yl dLen dCap : Nat} {Ad : Option Addr} {cs : List Value} (hu : P.underlying T = some (.slice E)) (hq : P.info? E = some q) (hlen : ∀ w',(Builtin.lenOf v).run P w' = .ok yl w')
  (hc : (Builtin.firstCells q.size (Nat.min yl dLen) v).run P w = .ok cs.toArray w) (hst : ∀ a,Ad = some a → (storeCells a cs).run P w = .ok () w') (hno : Ad = none → w' = w) :
  (Builtin.copy_ #[T,tx] ty #[.slice Ad dLen dCap,v]).run P w = .ok (goInt (Nat.min yl dLen)) w':=by
 cases Ad with
 | none=>obtain rfl:=hno rfl; simp [Builtin.copy_,run_underlying hu,hlen,sizeOf,typeInfo,hq,hc]
 | some a=>simp [Builtin.copy_,run_underlying hu,hlen,sizeOf,typeInfo,hq,hc,hst a rfl]
theorem nL {As : List bu} {k : Nat} {A : bu} (hk : As[k]? = some A) : As.set k A = As:=by
 apply List.ext_getElem?
 intro j
 rw [List.getElem?_set]
 split
 ·rename_i hj; subst hj
  have : k < As.length:=by
   rcases Nat.lt_or_ge k As.length with z | z
   ·exact z
   ·simp [List.getElem?_eq_none z] at hk
  simp [this,← hk]
 ·rfl
theorem og (a : Addr) (w : World) : (storeCells a []).run P w = .ok () w:=by
 unfold storeCells; rfl
theorem vm {α : Type} {kd : Kd α} {A Ad : Option Addr} {c k sz off dLen dCap : Nat} {xs ys : List α} {v : Value} (zs : List α) (hzs : zs = bo xs off (ys.take (min ys.length dLen))) (hd : bZ d n = true) (hu : P.underlying T = some (.slice E)) (hz : (P.info? E).map (·.size) = some sz) (hsz : kd.sz = sz)
  (hk : As[k]? = some (Buf kd T' A c xs)) (hx : ev e x = .slice Ad dLen dCap) (hA : 0 < dLen → A ≠ none → Ad = some (el A (off * sz))) (hfit : off + dLen ≤ xs.length) (hy : ev e y = v) (hs : pO P kd v ys As)
  (h : K (put e d (goInt ((Nat.min ys.length dLen : Nat) : Int))) ds (As.set k (Buf kd T' A c zs))) : OA P n ⟨d,.call { callee:=.builtin .copy,args:=#[x,y],argTypes:=#[T,tx] },ty,pos,aft,g⟩ K Q e ds As:=by
 subst hzs
 intro I h' a w s r f
 obtain ⟨hlen,hcp⟩:=hs I h' w s f.sees
 cases hq : P.info? E with
 | none=>simp [hq] at hz
 | some q =>
  have hq' : q.size = sz:=by simpa [hq] using hz
  have hexec : ∀ {v' : Value} {w' : World},(Builtin.copy_ #[T,tx] ty #[.slice Ad dLen dCap,v]).run P w = .ok v' w' → (execOp (ev e) ⟨d,.call { callee:=.builtin .copy,args:=#[x,y],argTypes:=#[T,tx] },ty,pos,aft,g⟩).run P w = .ok (.value v') w':=fun {v' w'} hh=>by
   simp [execOp,resolve,invoke,builtin,hx,hy,hh]
  obtain ⟨cs,hr,hfc⟩:=hcp (min ys.length dLen) (Nat.min_le_left _ _)
  have hcl:=hr.len
  rw [List.length_take,Nat.min_eq_left (Nat.min_le_left _ _)] at hcl
  have hfc' : (Builtin.firstCells q.size (Nat.min ys.length dLen) v).run P w = .ok cs.toArray w:=by rw [hq',← hsz]; exact hfc
  by_cases h0 : min ys.length dLen = 0
  ·have hrun:=mY (P:=P) (T:=T) (tx:=tx) (ty:=ty) (dCap:=dCap) (Ad:=Ad) (w':=w) hu hq hlen hfc' (fun a _=>by
    have : cs = []:=List.eq_nil_of_length_eq_zero (by rw [hcl,h0,Nat.zero_mul])
    subst this; exact og a w) (fun _=>rfl)
   have e1 : bo xs off (ys.take (min ys.length dLen)) = xs:=by rw [h0]; simp [bo]
   rw [e1,nL hk] at h
   unfold Oper.wp
   rw [r.eval,hexec hrun]
   exact ⟨_,ds,As,I,h',r.put hd _,s,cZ.refl f,h⟩
  ·obtain ⟨g1,l,⟨xc,hxr,hc⟩,ff⟩:=db hk s
   rcases hc with ⟨_,_,hc⟩ | ⟨gb,cur,hAA,⟨fr,hg,hfz⟩,hlc,hcm,hcs,ht⟩
   ·subst hc; simp at hfit; omega
   ·have hAd:=hA (by omega) (by rw [hAA]; simp)
    subst hAA
    have hh : h' gb = some (.cells cur T' fr):=l gb _ hg
    have ea : Ad = some ⟨gb,off * sz,none⟩:=by rw [hAd]; simp [el,Addr.add_lit]
    have hm1 : min ys.length dLen ≤ dLen:=Nat.min_le_right _ _
    have hm : (off + min ys.length dLen) * sz ≤ xs.length * sz:=Nat.mul_le_mul_right _ (by omega)
    have hm2 : xs.length * sz ≤ c * sz:=Nat.mul_le_mul_right _ hlc
    rw [hsz] at hcl hcs ht
    rw [Nat.add_mul] at hm
    have hcurl : cur.toList.length = c * sz:=(Array.length_toList (xs:=cur)).trans hcs
    have hst:=eF (P:=P) gb (off * sz) T' fr cs 0 cur w (f.own gb _ hh) hfz.1 (by rw [hcl,hcs]; simpa using Nat.le_trans hm hm2) hr.one
    simp only [Nat.add_zero] at hst
    have hrun:=mY (P:=P) (T:=T) (tx:=tx) (ty:=ty) (dCap:=dCap) (Ad:=Ad) (w':=w.setRow gb (dR cur.toList (off * sz) cs).toArray) hu hq hlen hfc' (fun a ha=>by
     rw [ea] at ha; obtain rfl:=Option.some.inj ha
     exact hst) (fun ha=>by rw [ea] at ha; cases ha)
    unfold Oper.wp
    rw [r.eval,hexec hrun]
    refine ⟨_,ds,_,I,_,r.put hd _,jn ff hg ?_,cZ.setRow f hh,h⟩
    have hyl : (ys.take (min ys.length dLen)).length = min ys.length dLen:=by rw [List.length_take]; omega
    have hol : (bo xs off (ys.take (min ys.length dLen))).length = xs.length:=eM (by rw [hyl]; omega)
    have hxl:=hxr.len
    rw [hsz] at hxl
    have r1:=RL.sub (kd:=kd) 0 off hxr
    have r2:=RL.sub (kd:=kd) (off + min ys.length dLen) (xs.length - (off + min ys.length dLen)) hxr
    simp only [Nat.zero_mul,List.drop_zero,hsz] at r1 r2
    have hall:=(r1.app hr).app r2
    have ex : List.take (xs.length - (off + min ys.length dLen)) (xs.drop (off + min ys.length dLen)) = xs.drop (off + min ys.length dLen):=List.take_of_length_le (by rw [List.length_drop]; exact Nat.le_refl _)
    have ec : List.take ((xs.length - (off + min ys.length dLen)) * sz) (xc.drop ((off + min ys.length dLen) * sz)) = xc.drop ((off + min ys.length dLen) * sz):=List.take_of_length_le (by rw [List.length_drop,hxl,Nat.sub_mul]; exact Nat.le_refl _)
    rw [ex,ec] at hall
    have eo : bo xs off (ys.take (min ys.length dLen)) = xs.take off ++ ys.take (min ys.length dLen) ++ xs.drop (off + min ys.length dLen):=by unfold bo; rw [hyl]
    rw [← eo] at hall
    refine ⟨_,hall,.inr ⟨gb,_,rfl,⟨fr,if_pos rfl,by rw [List.size_toArray,gx (by rw [hcl,hcurl]; omega),Array.length_toList]; exact hfz⟩,by rw [hol]; exact hlc,hcm,?_,?_⟩⟩
    ·rw [List.size_toArray,gx (by rw [hcl,hcurl]; omega),hsz]; exact hcurl
    ·rw [hol,hsz]
     show (dR cur.toList (off * sz) cs).take (xs.length * sz) = _
     have hN : xs.length * sz ≤ cur.toList.length:=by omega
     have hB : dR cur.toList (off * sz) cs = cur.toList.take (off * sz) ++ cs ++ cur.toList.drop (off * sz + cs.length):=rfl
     rw [hB,List.take_append,List.take_of_length_le (by rw [List.length_append,List.length_take,hcl]; omega)]
     have e3 : xc.take (off * sz) = cur.toList.take (off * sz):=by
      rw [← ht,List.take_take]; congr 1; omega
     have e4 : xc.drop ((off + min ys.length dLen) * sz) = (cur.toList.drop (off * sz + cs.length)).take (xs.length * sz - (off * sz + cs.length)):=by
      rw [← ht,List.drop_take,hcl,Nat.add_mul]
     rw [e3,e4]
     congr 2
     rw [List.length_append,List.length_take,hcl]; omega
theorem rl {α : Type} {ys : List α} {m : Nat} : ys.take (min ys.length m) = ys.take m:=by
 rcases Nat.le_total ys.length m with h | h
 ·rw [Nat.min_eq_left h,List.take_of_length_le (Nat.le_refl _),List.take_of_length_le h]
 ·rw [Nat.min_eq_right h]
theorem vu (a b : Nat) : ((Nat.min a b : Nat) : Int) = cC (a : Int) (b : Int):=by
 unfold cC
 show ((min a b : Nat) : Int) = _
 split <;> omega
theorem vK {α : Type} {kd : Kd α} {k k' : IntKind} {l : Int} {bytes sz : Nat} {zv : Value} (z0 : α) (xs : List α) (hxs : xs = List.replicate l.toNat z0) (hd : bZ d n = true) (hu : P.underlying T = some (.slice E)) (hi : (P.info? E).map (fun i=>(i.zero,i.size,i.bytes)) = some (some zv,sz,bytes))
  (hx : ev e x = .int k l) (hy : ev e y = .int k' l) (h0 : 0 ≤ l) (hb : (bytes : Int) * l ≤ 281474976710656) (h63 : l ≤ 9223372036854775807) (hsz : kd.sz = sz) (hz1 : zv.cells.size = sz) (hz : ∀ I,kd.R I zv.cells.toList z0)
  (h : ∀ b,K (put e d (.slice (some ⟨b,0,none⟩) xs.length l.toNat)) ds (As ++ [Buf kd E (some ⟨b,0,none⟩) l.toNat xs])) : OA P n ⟨d,.makeSlice T x y,ty,pos,aft,g⟩ K Q e ds As:=by
 subst hxs
 exact vA z0 hd hu hi hx hy h0 rfl hb h63 hsz hz1 hz h
def st (tmps : Array Value) : ResultVar → Sem Value
 | .tmp t=>pure (tmps.getD t undef)
 | .cell a t=>do loadVar t (← asAddr (tmps.getD a undef))
def RV (P : Program) (As : List bu) (e : Env) (r : ResultVar) (v : Value) : Prop :=
 ∀ I h w (tmps : Array Value),(∀ t,tmps.getD t undef = e t) → cf As I h → ic I h w → (st tmps r).run P w = .ok v w
theorem RV.tmp {t : Nat} {v : Value} (h : e t = v) : RV P As e (.tmp t) v:=fun I hh w tmps ht _ _=>by
 simp only [st,Sem.run_pure,ht t,h]
theorem RV.cell {a b k : Nat} {cs : List Value} {td : TypeDesc} (h : e a = .pointer (some ⟨b,0,none⟩)) (hk : As[k]? = some (aL b T' cs)) (hu : P.underlying T = some td) (ha : lb td = true) (hz : (P.info? T).map (·.size) = some cs.length) : RV P As e (.cell a T) (.agg cs.toArray):=fun I hh w tmps ht s f=>by
 obtain ⟨h1,l,p,_⟩:=db hk s
 have hb:=f.own b _ (l b _ p)
 have hl:=nW (P:=P) (b:=b) (o:=0) hu ha hz (w:=w) (fun q v hq=>by rw [Nat.zero_add,jJ hb]; simpa using hq)
 simp only [Instr.loadAt,Instr.sureAddr,Sem.run_bind,Sem.run_pure,Result.andThen_ok] at hl
 simp only [st,Sem.run_bind,ht a,h,asAddr,Sem.run_pure,Result.andThen_ok]
 exact hl
def we (P : Program) (As : List bu) (e : Env) : List ResultVar → List Value → Prop
 | [],[]=>True
 | r::rs,v::vs=>RV P As e r v∧we P As e rs vs
 | _,_=>False
theorem we.run {I h : Hp} {w : World} {tmps : Array Value} (ht : ∀ t,tmps.getD t undef = e t) (s : cf As I h) (f : ic I h w) : ∀ {rs : List ResultVar} {vs : List Value},we P As e rs vs → (rs.mapM (st tmps)).run P w = .ok vs w
 | [],[],_=>by simp [List.mapM_nil]
 | r::rs,v::vs,⟨h1,h2⟩=>by
  rw [List.mapM_cons]
  simp only [Sem.run_bind,h1 I h w tmps ht s f,Result.andThen_ok,we.run ht s f h2,Sem.run_pure]
 | [],_::_,h=>by cases h
 | _::_,[],h=>by cases h
theorem gH {fn : Func} {R : Value → List bu → Prop} {rs : List ResultVar} {vs : List Value} {v : Value} (B : List bu) (h : fn.results = rs.toArray) (hv : we P As e rs vs) (he : (if h : vs.toArray.size = 1 then vs.toArray[0] else .tuple vs.toArray) = v) (hg : Gh As B) (hR : R v B) : jc P fn (sX R) .ret e [] As:=by
 refine ⟨rfl,v,fun I h' w tmps ht s f=>?_,v,B,rfl,hg,hR⟩
 have hr:=we.run ht s f hv
 have hm : (fn.results.mapM (st tmps)).run P w = .ok vs.toArray w:=by
  rw [h,List.mapM_toArray]
  simp [hr]
 have e1 : results fn tmps = (do let vs ← fn.results.mapM (st tmps); pure (if h : vs.size = 1 then vs[0] else .tuple vs)):=by
  unfold results
  congr 2
 rw [e1]
 simp only [Sem.run_bind,hm,Result.andThen_ok,Sem.run_pure,he]
end
end Go.Proofs.YtckilbegmbaeeaaGreat.SL
namespace Go.Proofs.YtckilbegmbaeeaaGreat.SL
open Go Go.RowKit
set_option linter.unusedVariables false
set_option linter.unusedSimpArgs false
def Pk (Bs : List bu) : bu:=⟨fun I h=>cf Bs I h,fun hI h=>jk hI h,false,fun h=>by cases h⟩
def FC (P : Program) (fv : Value) (args : List Value) (pre : List bu) (R : Value → List bu → Prop) : Prop :=
 ∃ (f : FuncId) (fn : Func) (c : Code) (cap : List Value), fv = .func (.func f) #[] cap.toArray ∧ P.funcs[f]? = some fn ∧ (fn.name == "runtime.NumGoroutine") = false ∧ fn.body = some c ∧ df P f (args ++ cap).toArray pre R
theorem FC.mono {P : Program} {fv : Value} {args : List Value} {pre : List bu} {R R' : Value → List bu → Prop} (h : FC P fv args pre R) (hr : ∀ v B,R v B → R' v B) : FC P fv args pre R':=by
 obtain ⟨f,fn,c,cap,h1,h2,h3,h4,h5⟩:=h
 exact ⟨f,fn,c,cap,h1,h2,h3,h4,h5.mono hr⟩
section
variable {P : Program} {n : Nat} {Q : dz} {e : Env} {ds : List Deferred} {As As' : List bu} {d : Option Nat} {ty T T' E tx : TypeId} {pos : String} {aft : Array Edge} {g : Option (Nat × Bool)} {x y z : Operand} {K : Env → List Deferred → List bu → Prop}
theorem FC.of {f : FuncId} {fn : Func} {c : Code} {args cap : List Value} {pre0 Bs : List bu} {R0 : Value → List bu → Prop} (hf : P.funcs[f]? = some fn) (hn : (fn.name == "runtime.NumGoroutine") = false) (hb : fn.body = some c)
  (h : df P f (args ++ cap).toArray (pre0 ++ Bs) (fun v B=>∃ B0,R0 v B0∧B = B0 ++ Bs)) : FC P (.func (.func f) #[] cap.toArray) args (pre0 ++ [Pk Bs]) (fun v B=>∃ B0,R0 v B0∧B = B0 ++ [Pk Bs]):=by
 refine ⟨f,fn,c,cap,rfl,hf,hn,hb,?_⟩
 have hpre : Gh (pre0 ++ [Pk Bs]) (pre0 ++ Bs):=Gh.of fun I h s=>by
  obtain ⟨h1,h2,sp,sa,sb⟩:=fT s
  obtain ⟨h3,h4,sp2,sc,_⟩:=sb
  exact cX (sp.of_less (Le.refl _)) sa (mN sp2.1 sc)
 have hpost : ∀ B0 : List bu,Gh (B0 ++ Bs) (B0 ++ [Pk Bs]):=fun B0=>Gh.of fun I h s=>by
  obtain ⟨h1,h2,sp,sa,sb⟩:=fT s
  exact cX sp sa ⟨h2,fun _=>none,⟨Le.refl _,(fun _ _ e=>by cases e),fun _ _ _=>rfl⟩,sb,trivial⟩
 refine SC.mono (df.pre h hpre) fun x As ⟨v,B,hx,hg,B0,hr,hB⟩=>?_
 subst hB
 exact ⟨v,_,hx,hg.trans (hpost B0),B0,hr,rfl⟩
theorem dy {fn : Fn} {captured : List Operand} {us : List Value} (h : captured.map (ev e) = us) : V P e ⟨d,.makeFunc fn #[] captured.toArray,ty,pos,aft,g⟩ (.func fn #[] us.toArray) :=
 rD (by simp) (by simp [h])
theorem tT {t : Nat} {fv : Value} {args : List Operand} {ts : Array TypeId} {vs : List Value} {pre : List bu} {R : Value → List bu → Prop} (ks rs : List Nat) (hd : bZ d n = true) (ht : e t = fv) (ha : args.map (ev e) = vs)
  (hs : eC (ks ++ rs) As = true) (hc : FC P fv vs pre R) (hp : sel ks As = pre)
  (h : ∀ v B,R v B → K (put e d v) ds (B ++ sel rs As)) : OA P n ⟨d,.call { callee:=.value (.tmp t),args:=args.toArray,argTypes:=ts },ty,pos,aft,g⟩ K Q e ds As:=by
 obtain ⟨f,fn,c,cap,h1,h2,h3,h4,h5⟩:=hc
 subst h1
 refine oC (args:=(vs ++ cap).toArray) ks rs hd ?_ hs h5 hp h
 intro w
 exact je ht h2 h3 h4 ha w
theorem df.unpk {f : FuncId} {args : Array Value} {pre0 Bs : List bu} {R0 : Value → List bu → Prop} (h : df P f args (pre0 ++ [Pk Bs]) (fun v B=>∃ B0,R0 v B0∧B = B0 ++ [Pk Bs])) : df P f args (pre0 ++ Bs) (fun v B=>∃ B0,R0 v B0∧B = B0 ++ Bs):=by
 have hpre : Gh (pre0 ++ Bs) (pre0 ++ [Pk Bs]):=Gh.of fun I h s=>by
  obtain ⟨h1,h2,sp,sa,sb⟩:=fT s
  exact cX sp sa ⟨h2,fun _=>none,⟨Le.refl _,(fun _ _ e=>by cases e),fun _ _ _=>rfl⟩,sb,trivial⟩
 have hpost : ∀ B0 : List bu,Gh (B0 ++ [Pk Bs]) (B0 ++ Bs):=fun B0=>Gh.of fun I h s=>by
  obtain ⟨h1,h2,sp,sa,sb⟩:=fT s
  obtain ⟨h3,h4,sp2,sc,_⟩:=sb
  exact cX sp sa (mN sp2.1 sc)
 refine SC.mono (df.pre h hpre) fun x As ⟨v,B,hx,hg,B0,hr,hB⟩=>?_
 subst hB
 exact ⟨v,_,hx,hg.trans (hpost B0),B0,hr,rfl⟩
end
end Go.Proofs.YtckilbegmbaeeaaGreat.SL
namespace Go.Proofs.YtckilbegmbaeeaaGreat.SL
open Go Go.RowKit
set_option linter.unusedVariables false
set_option linter.unusedSimpArgs false
section
variable {P : Program} {n : Nat} {Q : dz} {e : Env} {ds : List Deferred} {As As' : List bu} {d : Option Nat} {ty T T' E tx : TypeId} {pos : String} {aft : Array Edge} {g : Option (Nat × Bool)} {x y z : Operand} {K : Env → List Deferred → List bu → Prop}
def nq (P : Program) (t : TypeId) (xs : Array Value) (off : Nat) : Option Value:=match P.underlying t with
 | some (.struct _)=>(P.info? t).map fun i=>.agg (xs.extract off (off + i.size))
 | some (.array _ _)=>(P.info? t).map fun i=>.agg (xs.extract off (off + i.size))
 | some _=>xs[off]?
 | none=>none
def ra (l : List (Option Bool)) : Option Bool:=match l with
 | []=>some true
 | x::l=>x.bind fun a=>(ra l).map fun b=>a && b
def vZ (P : Program) : Nat → TypeId → Value → Value → Option Bool
 | 0,_,_,_=>none
 | d + 1,t,x,y=>match P.underlying t with
  | some .bool=>match x,y with | .bool a,.bool b=>some (a == b) | _,_=>none
  | some (.int _)=>match x,y with | .int k a,.int k' b=>if k = k' then some (a == b) else none | _,_=>none
  | some .string=>match x,y with | .string a,.string b=>some (decide (a = b)) | _,_=>none
  | some (.struct fs)=>match x,y with
   | .agg xs, .agg ys => if P.stoodInHeld t = true then none else if fs.all (·.name != "_") = true then ra (fs.toList.map fun f => (nq P f.type xs f.offset).bind fun a => (nq P f.type ys f.offset).bind fun b => vZ P d f.type a b) else none
   | _,_=>none
  | some (.array n e)=>match x,y with
   | .agg xs,.agg ys=>(P.info? e).bind fun i=>ra ((List.range n).map fun j=>(nq P e xs (j * i.size)).bind fun a=>(nq P e ys (j * i.size)).bind fun b=>vZ P d e a b)
   | _,_=>none
  | _=>none
theorem jm {t : TypeId} {xs : Array Value} {off : Nat} {a : Value} (h : nq P t xs off = some a) (w : World) : (part t xs off).run P w = .ok a w:=by
 unfold nq at h
 cases hu : P.underlying t with
 | none=>simp [hu] at h
 | some td =>
  have agg : ∀ {b : Bool},(isAgg t).run P w = .ok b w → (b = true → (P.info? t).map (fun i=>Value.agg (xs.extract off (off + i.size))) = some a) → (b = false → xs[off]? = some a) → (part t xs off).run P w = .ok a w:=fun {b} hb h1 h2=>by
   unfold part
   cases b
   ·simp [hb,h2 rfl]
   ·have:=h1 rfl
    cases hi : P.info? t with
    | none=>simp [hi] at this
    | some i=>simp [hi] at this; simp [hb,sizeOf,typeInfo,hi,this]
  cases td <;> simp only [hu] at h <;> first
   | exact agg (b:=true) (by simp [isAgg,run_underlying hu]) (fun _=>h) (fun q=>by cases q)
   | exact agg (b:=false) (by simp [isAgg,run_underlying hu]) (fun q=>by cases q) (fun _=>h)
theorem pn : ∀ (d : Nat) {t : TypeId} {x y : Value} {r : Bool},vZ P d t x y = some r → ∀ (dd : Nat) (w : World),(Op.equalIn (dd + d) t x y).run P w = .ok r w
 | 0,_,_,_,_,h,_,_=>by simp [vZ] at h
 | d + 1,t,x,y,r,h,dd,w=>by
  have IH:=fun {t : TypeId} {x y : Value} {r : Bool} (h : vZ P d t x y = some r) (w : World)=>pn d h dd w
  show (Op.equalIn ((dd + d) + 1) t x y).run P w = _
  unfold vZ at h
  cases hu : P.underlying t with
  | none=>simp [hu] at h
  | some td =>
   cases td <;> simp only [hu] at h <;> try (cases h; done)
   case bool =>
    cases x <;> (try simp only at h) <;> try (cases h; done)
    cases y <;> (try simp only at h) <;> try (cases h; done)
    cases h
    simp [Op.equalIn,run_underlying hu]
   case int k0 =>
    cases x <;> (try simp only at h) <;> try (cases h; done)
    cases y <;> (try simp only at h) <;> try (cases h; done)
    split at h
    ·rename_i hk; cases h; simp [Op.equalIn,run_underlying hu,hk]
    ·cases h
   case string =>
    cases x <;> (try simp only at h) <;> try (cases h; done)
    cases y <;> (try simp only at h) <;> try (cases h; done)
    rename_i a b
    cases h
    have e1 : (a == b) = decide (a = b):=by
     rw [beq_toListBytes]
     by_cases q : a = b
     ·subst q; simp
     ·have : ¬ a.toList = b.toList:=fun z=>q (ry.1 z)
      simp [q,this]
    simp [Op.equalIn,run_underlying hu,e1]
   case struct fs =>
    cases x <;> (try simp only at h) <;> try (cases h; done)
    cases y <;> (try simp only at h) <;> try (cases h; done)
    rename_i xs ys
    split at h
    ·cases h
    rename_i hst
    split at h
    case isFalse=>cases h
    rename_i hall
    have hfs : P.fieldsOf t = fs:=by simp [Program.fieldsOf,hu]
    rw [run_equalIn_struct w (dd + d) t xs ys (by rw [hfs]; exact hu) (by simpa using hst),hfs]
    have hall' : ∀ f ∈ fs.toList, f.name ≠ "_" := fun f hf => by
     have:=Array.all_eq_true_iff_forall_mem.1 hall f (Array.mem_toList_iff.1 hf)
     simpa using this
    clear hall hfs hu
    generalize fs.toList = l at h hall'
    induction l generalizing r w with
    | nil=>simp [ra] at h; subst h; simp [Op.eqFields]
    | cons f l ih =>
     simp only [List.map_cons,ra,Option.bind_eq_some_iff,Option.map_eq_some_iff] at h
     obtain ⟨a1,⟨va,h1,vb,h2,h3⟩,b1,h4,rfl⟩:=h
     have hn:=hall' f (by simp)
     simp only [Op.eqFields,hn,ne_eq,not_false_eq_true,if_true,Sem.run_bind,jm h1,jm h2,IH h3,Result.andThen_ok]
     cases a1
     ·simp
     ·simpa using ih _ w h4 (fun g hg=>hall' g (by simp [hg]))
   case array m e =>
    cases x <;> (try simp only at h) <;> try (cases h; done)
    cases y <;> (try simp only at h) <;> try (cases h; done)
    rename_i xs ys
    simp only [Option.bind_eq_some_iff] at h
    obtain ⟨i,hi,h⟩:=h
    rw [run_equalIn_array w (dd + d) xs ys hu hi]
    have hc : P.cellsOf e = i.size:=by simp [Program.cellsOf,hi]
    rw [hc]
    clear hu
    generalize List.range m = l at h
    induction l generalizing r w with
    | nil=>simp [ra] at h; subst h; simp [Op.eqItems]
    | cons j l ih =>
     simp only [List.map_cons,ra,Option.bind_eq_some_iff,Option.map_eq_some_iff] at h
     obtain ⟨a1,⟨va,h1,vb,h2,h3⟩,b1,h4,rfl⟩:=h
     simp only [Op.eqItems,Sem.run_bind,jm h1,jm h2,IH h3,Result.andThen_ok]
     cases a1
     ·simp
     ·simpa using ih _ w h4
theorem mb {xs ys : List Value} {r : Bool} {p : Prop} [Decidable p] (hg : P.eqGuardType P.depth T = false) (hx : ev e x = .agg xs.toArray) (hy : ev e y = .agg ys.toArray) (hr : vZ P 100 T (.agg xs.toArray) (.agg ys.toArray) = some r) (hp : r = decide p) : V P e ⟨d,.binOp .eql T x y T',ty,pos,aft,g⟩ (.bool (decide p)):=fun w=>by
 have h1 : (Op.equalIn 10000 T (.agg xs.toArray) (.agg ys.toArray)).run P w = .ok r w:=pn 100 hr 9900 w
 simp only [execOp,hx,hy,Sem.run_bind,run_eqGuard_agg w .eql T x y xs.toArray ys.toArray hg,Result.andThen_ok,run_eql_struct,h1,hp,Sem.run_pure]
theorem mO {xs ys : List Value} {r : Bool} {p : Prop} [Decidable p] (hg : P.eqGuardType P.depth T = false) (hx : ev e x = .agg xs.toArray) (hy : ev e y = .agg ys.toArray) (hr : vZ P 100 T (.agg xs.toArray) (.agg ys.toArray) = some r) (hp : r = decide p) : V P e ⟨d,.binOp .neq T x y T',ty,pos,aft,g⟩ (.bool (decide ¬p)):=fun w=>by
 have h1 : (Op.equalIn 10000 T (.agg xs.toArray) (.agg ys.toArray)).run P w = .ok r w:=pn 100 hr 9900 w
 simp only [execOp,hx,hy,Sem.run_bind,run_eqGuard_agg w .neq T x y xs.toArray ys.toArray hg,Result.andThen_ok,run_neq_struct,h1,hp,Sem.run_pure,decide_not]
theorem dM {N m o sz : Nat} {B : Addr} {k : IntKind} {i : Int} (hu : P.underlying T = some (.array N E)) (hz : (P.info? E).map (·.size) = some sz) (hx : ev e x = .pointer (some (B.add m))) (hy : ev e y = .int k i) (h0 : 0 ≤ i) (h1 : i < (N : Int)) (ho : m + i.toNat * sz = o) :
  V P e ⟨d,.indexAddr T x y,ty,pos,aft,g⟩ (.pointer (some (B.add o))):=fun w=>by
 cases hq : P.info? E with
 | none=>simp [hq] at hz
 | some q =>
  have hz' : q.size = sz:=by simpa [hq] using hz
  simp [execOp,hx,hy,Instr.indexAt,asIntOf,run_underlying hu,Instr.sureAddr,h0,h1,sizeOf,typeInfo,hq,hz',jM,ho]
theorem rB {A : Option Addr} {l c : Nat} (hu : P.underlying T = some (.slice E)) (w : World) : (Op.equalIn Op.maxDepth T (.slice A l c) (.slice none 0 0)).run P w = .ok A.isNone w:=by
 show (Op.equalIn (9999 + 1) T (.slice A l c) (.slice none 0 0)).run P w = _
 unfold Op.equalIn
 cases A <;> simp [run_underlying hu]
theorem om {A : Option Addr} {l c : Nat} (hu : P.underlying T = some (.slice E)) (hx : ev e x = .slice A l c) (hy : ev e y = .slice none 0 0) : V P e ⟨d,.binOp .eql T x y T',ty,pos,aft,g⟩ (.bool A.isNone):=fun w=>by
 simp [execOp,hx,hy,eqGuard,binOp,Op.equal,rB hu]
theorem nI {α : Type} {kd : Kd α} {k cc : Nat} {xs : List α} {c : Code} (hk : As[k]? = some (Ro kd none cc xs)) (h : xs = [] → SA P n c Q e ds As) : SA P n c Q e ds As:=fun I hh a w s r f=>by
 obtain ⟨_,_,⟨_,cs,hr,hx⟩,_⟩:=db hk s
 rcases hx with hx | ⟨_,_,_,_,_,hx,_⟩
 ·exact h hx I hh a w s r f
 ·cases hx
end
end Go.Proofs.YtckilbegmbaeeaaGreat.SL
namespace Go.Proofs.YtckilbegmbaeeaaGreat.SL
open Go Go.RowKit
set_option linter.unusedVariables false
set_option linter.unusedSimpArgs false
def kF (T : List Nat) (an : Array (List Nat)) (j : Nat) : Bool:=T.any fun i=>!(Nat.beq i j) && !((an.getD j []).contains i)
def tU (ops : Array Oper) (an : Array (List Nat)) : Bool:=(List.range ops.size).all fun j=>(an.getD j []).all fun i =>
 match ops[j]? with
 | some o=>o.after.any fun e=>Region.binds .any e && (Nat.beq e.on i || (an.getD e.on []).contains i)
 | none=>false
def wy (an : Array (List Nat)) (listed : Array Bool) : Bool:=(List.range listed.size).all fun k=>!listed.getD k false || (an.getD k []).all fun i=>listed.getD i false
def Inv (an : Array (List Nat)) (listed : Array Bool) : Prop:=∀ k,listed.getD k false = true → ∀ i ∈ an.getD k [],listed.getD i false = true
theorem Inv.of {an : Array (List Nat)} {listed : Array Bool} (h : wy an listed = true) : Inv an listed:=fun k hk i hi=>by
 have hlt : k < listed.size:=by
  rcases Nat.lt_or_ge k listed.size with h' | h'
  ·exact h'
  ·simp [Array.getElem?_eq_none h'] at hk
 simp only [wy,List.all_eq_true,List.mem_range] at h
 have:=h k hlt
 simp only [hk,Bool.not_true,Bool.false_or,List.all_eq_true] at this
 exact this i hi
section
variable {P : Program} {ops : Array Oper} {Q : Exit → Act → World → Prop} {S : World → Prop} {T : List Nat} {an : Array (List Nat)}
theorem oJ {listed : Array Bool} {j : Nat} (h : j < listed.size) : (listed.setIfInBounds j true).getD j false = true:=by simp [h]
theorem lS {listed : Array Bool} {j k : Nat} (h : listed.getD k false = true) : (listed.setIfInBounds j true).getD k false = true:=by
 by_cases hjk : j = k
 ·subst hjk
  have : j < listed.size:=by
   rcases Nat.lt_or_ge j listed.size with h' | h'
   ·exact h'
   ·simp [Array.getElem?_eq_none h'] at h
  exact oJ this
 ·rw [getD_set_ne false hjk]; exact h
theorem pS {listed : Array Bool} {j i : Nat} (ha : tU ops an = true) (hv : Inv an listed) (hj : j ∈ Region.ready .any ops listed) (hi : i ∈ an.getD j []) : listed.getD i false = true:=by
 obtain ⟨_,oj,hoj,hall⟩:=mem_ready.1 hj
 simp only [tU,List.all_eq_true,List.mem_range] at ha
 have h1:=ha j (Array.getElem?_eq_some_iff.1 hoj).1 i hi
 simp only [hoj] at h1
 obtain ⟨e,he,hb⟩:=Array.any_eq_true'.1 h1
 simp only [Bool.and_eq_true,Bool.or_eq_true] at hb
 rcases hb.2 with hb2 | hb2
 ·rw [← Nat.eq_of_beq_eq_true hb2]; exact hall e he hb.1
 ·exact hv e.on (hall e he hb.1) i (by simpa using hb2)
theorem Inv.set {listed : Array Bool} {j : Nat} (ha : tU ops an = true) (hv : Inv an listed) (hj : j ∈ Region.ready .any ops listed) : Inv an (listed.setIfInBounds j true):=fun k hk i hi=>by
 by_cases hjk : j = k
 ·subst hjk; exact lS (pS ha hv hj hi)
 ·rw [getD_set_ne false hjk] at hk
  exact lS (hv k hk i hi)
def jW (P : Program) (ops : Array Oper) (Q : Exit → Act → World → Prop) (S : World → Prop) (T : List Nat) (an : Array (List Nat)) : Nat → Array Bool → Act → World → Prop
 | 0,listed,a,w=>Region.ready .any ops listed = []∧Q .normal a w
 | fuel + 1,listed,a,w =>
  (Region.ready .any ops listed = [] → Q .normal a w) ∧
  ∀ i ∈ Region.ready .any ops listed,wpOp P ops Q i (fun a' w'=>(kF T an i = true → S w')∧jW P ops Q S T an fuel (listed.setIfInBounds i true) a' w') a w
theorem kN : ∀ (fuel : Nat) (listed : Array Bool) (a : Act) (w : World),jW P ops Q S T an fuel listed a w → wpAny P .any ops Q fuel listed a w
 | 0,_,_,_,h=>h
 | fuel + 1,_,_,_,h=>⟨h.1,fun i hi=>wpOp_mono (fun a' w' h'=>kN fuel _ a' w' h'.2) (h.2 i hi)⟩
theorem hP {i : Nat} {oi : Oper} {v : Value} {S' : World → Prop} (hi : ops[i]? = some oi) (hsel : ∀ (j : Nat) (o : Oper) cs b,ops[j]? = some o → o.op ≠ .select cs b)
  (hQ : ∀ c a w,Q (.panic c) (a.put oi.dst v) w → Q (.panic c) a w) (ha : tU ops an = true)
  (hT : i ∈ T∧S' = S ∨ S' = (fun _=>True)∧kF T an i = false) :
  ∀ (fuel : Nat) (listed : Array Bool) (a : Act) (w : World),
   (∀ j oj,ops[j]? = some oj → j ≠ i → listed.getD j true = false → (∀ e ∈ oj.after,Region.binds .any e = true → e.on ≠ i) → oi.apart ops oj = true) →
   i ∈ Region.ready .any ops listed → Inv an listed → YieldsIf P ops S' oi v a → S' w →
   jW P ops Q S T an fuel (listed.setIfInBounds i true) (a.put oi.dst v) w → jW P ops Q S T an (fuel + 1) listed a w:=by
 have hSi : ∀ w,S' w → kF T an i = true → S w:=fun w h hn=>by
  rcases hT with ⟨_,rfl⟩ | ⟨_,h0⟩
  ·exact h
  ·rw [h0] at hn; cases hn
 intro fuel
 induction fuel with
 | zero =>
  intro listed a w _ hr hv hy hS H
  refine ⟨fun h=>(by rw [h] at hr; cases hr),fun j hj=>?_⟩
  by_cases hji : j = i
  ·subst hji; exact hy.wpOp hi hS ⟨hSi w hS,H⟩
  ·have:=ready_mono hj hji
   rw [H.1] at this
   cases this
 | succ fuel ih =>
  intro listed a w hfree hr hv hy hS H
  refine ⟨fun h=>(by rw [h] at hr; cases hr),fun j hj=>?_⟩
  by_cases hji : j = i
  ·subst hji; exact hy.wpOp hi hS ⟨hSi w hS,H⟩
  ·have h1:=H.2 j (ready_mono hj hji)
   obtain ⟨hjun,oj,hoj,hall⟩:=mem_ready.1 hj
   have hun : listed.getD i false = false:=by
    have h0:=(mem_ready.1 hr).1
    rcases Nat.lt_or_ge i listed.size with h' | h'
    ·simp [h'] at h0 ⊢; exact h0
    ·simp [Array.getElem?_eq_none h'] at h0
   have hnot : ∀ e ∈ oj.after,Region.binds .any e = true → e.on ≠ i:=fun e he hb heq=>by
    have h1:=hall e he hb
    rw [heq,hun] at h1; cases h1
   have hnd : i ∈ T → kF T an j = true:=fun hiT=>by
    unfold kF
    rw [List.any_eq_true]
    refine ⟨i,hiT,?_⟩
    have e1 : Nat.beq i j = false:=by
     cases hb : Nat.beq i j with
     | false=>rfl
     | true=>exact absurd (Nat.eq_of_beq_eq_true hb).symm hji
    have e2 : (an.getD j []).contains i = false:=by
     cases hc : (an.getD j []).contains i with
     | false=>rfl
     | true=>have:=pS ha hv hj (by simpa using hc); rw [hun] at this; cases this
    rw [e1,e2]; rfl
   have hS2 : ∀ w',(kF T an j = true → S w') → S' w':=fun w' h=>by
    rcases hT with ⟨hiT,rfl⟩ | ⟨rfl,_⟩
    ·exact h (hnd hiT)
    ·trivial
   have h2:=wpOp_putIf hoj (hfree j oj hoj hji hjun hnot) (fun cs b=>hsel i oi cs b hi) (fun cs b=>hsel j oj cs b hoj) hQ hy h1
   have hfree' : ∀ k ok,ops[k]? = some ok → k ≠ i → (listed.setIfInBounds j true).getD k true = false →
     (∀ e ∈ ok.after,Region.binds .any e = true → e.on ≠ i) → oi.apart ops ok = true:=fun k ok hk hki hun hno=>by
    refine hfree k ok hk hki ?_ hno
    by_cases hjk : j = k
    ·subst hjk; exact hjun
    ·rw [getD_set_ne true hjk] at hun; exact hun
   refine wpOp_mono (fun a' w' h3=>⟨h3.2.1,ih (listed.setIfInBounds j true) a' w' hfree' (ready_mono hr (Ne.symm hji)) (hv.set ha hj) h3.1 (hS2 w' h3.2.1) ?_⟩) h2
   rw [Array.setIfInBounds_comm _ _ hji]
   exact h3.2.2
theorem pX {listed : Array Bool} {a : Act} {w : World} (hr : Region.ready .any ops listed = []) (h : Q .normal a w) : ∀ fuel,jW P ops Q S T an fuel listed a w
 | 0=>⟨hr,h⟩
 | _ + 1=>⟨fun _=>h,by rw [hr]; simp⟩
end
def Wt (ops : Array Oper) (n : Nat) (e : Env) (o : Oper) : Prop:=o.guard = none ∨ ∃ j t want,o.guard = some (j,want)∧(ops[j]?).bind (·.dst) = some t∧Nat.blt t n = true∧e t = .bool want
theorem Wt.no {ops : Array Oper} {n : Nat} {e : Env} {o : Oper} (h : o.guard = none) : Wt ops n e o:=.inl h
theorem Wt.yes {ops : Array Oper} {n : Nat} {e : Env} {o : Oper} {j t : Nat} {want b : Bool} (hg : o.guard = some (j,want)) (hj : (ops[j]?).bind (·.dst) = some t) (hd : Nat.blt t n = true) (hv : e t = .bool b) (hb : b = want) : Wt ops n e o:=.inr ⟨j,t,want,hg,hj,hd,by rw [hv,hb]⟩
def Ut (ops : Array Oper) (n : Nat) (e : Env) (o : Oper) : Prop:=∃ j t want,o.guard = some (j,want)∧(ops[j]?).bind (·.dst) = some t∧Nat.blt t n = true∧(e t = .bool (!want) ∨ e t = undef)
theorem Ut.no {ops : Array Oper} {n : Nat} {e : Env} {o : Oper} {j t : Nat} {want b : Bool} (hg : o.guard = some (j,want)) (hj : (ops[j]?).bind (·.dst) = some t) (hd : Nat.blt t n = true) (hv : e t = .bool b) (hb : b = !want) : Ut ops n e o:=⟨j,t,want,hg,hj,hd,.inl (by rw [hv,hb])⟩
theorem Ut.un {ops : Array Oper} {n : Nat} {e : Env} {o : Oper} {j t : Nat} {want : Bool} (hg : o.guard = some (j,want)) (hj : (ops[j]?).bind (·.dst) = some t) (hd : Nat.blt t n = true) (hv : e t = undef) : Ut ops n e o:=⟨j,t,want,hg,hj,hd,.inr hv⟩
section
variable {P : Program} {n : Nat} {Q : dz} {e : Env} {ds : List Deferred} {As Bs Hs : List bu} {ops : Array Oper} {T : List Nat} {an : Array (List Nat)} {I0 hS h0 hh0 : Hp} {w0 : World} {fuel : Nat} {listed : Array Bool} {S : World → Prop}
theorem Wt.wanted {o : Oper} {a : Act} (h : Wt ops n e o) (r : mf n e ds a) : Region.wanted o (yielded ops a.tmps) = true:=by
 rcases h with h | ⟨j,t,want,hg,hj,ht,he⟩
 ·simp [Region.wanted,h]
 ·simp [Region.wanted,hg,gQ r hj (by simpa using ht),he]
theorem Ut.unwanted {o : Oper} {a : Act} (h : Ut ops n e o) (r : mf n e ds a) : Region.wanted o (yielded ops a.tmps) = false:=by
 obtain ⟨j,t,want,hg,hj,ht,he⟩:=h
 rcases he with he | he
 ·simp [Region.wanted,hg,gQ r hj (by simpa using ht),he]
 ·simp [Region.wanted,hg,gQ r hj (by simpa using ht),he,undef]
def DH (P : Program) (n : Nat) (ops : Array Oper) (Q : dz) (T : List Nat) (an : Array (List Nat)) (I0 hS h0 hh0 : Hp) (w0 : World) (fuel : Nat) (listed : Array Bool) (e : Env) (ds : List Deferred) (As : List bu) : Prop :=
 ∀ I h a w,cf As I h → mf n e ds a → ic I h w → cZ I0 h0 w0 I h w → lX I0 hS w → jW P ops (en n Q I0 hh0 w0) (lX I0 hS) T an fuel listed a w
def DN (P : Program) (n : Nat) (ops : Array Oper) (Q : dz) (T : List Nat) (an : Array (List Nat)) (S : World → Prop) (I0 hh0 : Hp) (w0 : World) (fuel : Nat) (listed : Array Bool) (e : Env) (ds : List Deferred) (As : List bu) : Prop :=
 ∀ I h a w,cf As I h → mf n e ds a → ic I h w → cZ I0 hh0 w0 I h w → jW P ops (en n Q I0 hh0 w0) S T an fuel listed a w
structure Dd (I0 hh0 h0 hS : Hp) (w0 : World) : Prop where
 fits : ic I0 hh0 w0
 split : gz hh0 h0 hS
theorem gz.comm {h h1 h2 : Hp} (s : gz h h1 h2) : gz h h2 h1:=⟨s.2.1,s.1,fun b o e=>by
 cases z : h1 b with
 | none=>rfl
 | some u=>rw [s.2.2 b u z] at e; cases e⟩
theorem Dd.out (d : Dd I0 hh0 h0 hS w0) : ∀ b o,hS b = some o → b < w0.heap.size∧h0 b = none:=fun b o e=>⟨gO (d.fits.own b o (d.split.2.1 b o e)),d.split.comm.2.2 b o e⟩
theorem um {id : Nat} {ol : List Oper} (T : List Nat) (an : Array (List Nat)) (ks rs : List Nat) {Hs Bs : List bu} (hm : P.follows .mixedOrders = true) (hs : eC (ks ++ rs) As = true) (eH : sel ks As = Hs) (eB : sel rs As = Bs)
  (h : ∀ I0 hS h0 hh0 w0,cf Hs I0 hS → Dd I0 hh0 h0 hS w0 → DH P n ol.toArray Q T an I0 hS h0 hh0 w0 ol.length (Array.replicate ol.length false) e ds Bs) : SA P n (.region id ol.toArray true) Q e ds As:=by
 intro I hh a w s r f
 have s2:=hM hs s
 have es : sel (ks ++ rs) As = Hs ++ Bs:=by rw [← eH,← eB]; simp [sel]
 rw [es] at s2
 obtain ⟨h1,h2,sp,sa,sb⟩:=fT s2
 have fd:=(cZ.drew f).fits
 have f2:=fd.less sp.2.1
 have hsees : lX I h1 { w with drawn:=w.drawn + 1 }:=⟨fd.imm,fun b o e=>fd.own b o (sp.1 b o e)⟩
 have hw:=h I h1 h2 hh { w with drawn:=w.drawn + 1 } sa ⟨fd,sp.comm⟩ I h2 a _ sb r f2 (cZ.refl f2) hsees
 have:=wp_region_any (id:=id) hm (kN _ _ _ _ (by rw [List.size_toArray]; exact hw))
 exact wp_mono this fun x a' w' p=>en.goes (cZ.drew f) p
theorem tp {id : Nat} {ol : List Oper} (hm : P.follows .mixedOrders = true)
  (h : ∀ I0 hh0 w0,DN P n ol.toArray Q [] #[] (fun _=>True) I0 hh0 w0 ol.length (Array.replicate ol.length false) e ds As) : SA P n (.region id ol.toArray true) Q e ds As:=by
 intro I hh a w s r f
 have fd:=(cZ.drew f).fits
 have hw:=h I hh { w with drawn:=w.drawn + 1 } I hh a _ s r fd (cZ.refl fd)
 have:=wp_region_any (id:=id) hm (kN _ _ _ _ (by rw [List.size_toArray]; exact hw))
 exact wp_mono this fun x a' w' p=>en.goes (cZ.drew f) p
theorem sQ {id : Nat} {ol : List Oper} (T : List Nat) (an : Array (List Nat)) (ks rs : List Nat) {Hs Bs : List bu} (hm : P.follows .mixedOrders = true) (hs : eC (ks ++ rs) As = true) (eH : sel ks As = Hs) (eB : sel rs As = Bs) (hq : bP Q)
  (h : ∀ I0 hS h0 hh0 w0,cf Hs I0 hS → Dd I0 hh0 h0 hS w0 → bP Q → DH P n ol.toArray Q T an I0 hS h0 hh0 w0 ol.length (Array.replicate ol.length false) e ds Bs) : SA P n (.region id ol.toArray true) Q e ds As :=
 um T an ks rs hm hs eH eB fun a b c d e f g=>h a b c d e f g hq
theorem lI {id : Nat} {ol : List Oper} (hm : P.follows .mixedOrders = true) (hq : bP Q)
  (h : ∀ I0 hh0 w0,bP Q → DN P n ol.toArray Q [] #[] (fun _=>True) I0 hh0 w0 ol.length (Array.replicate ol.length false) e ds As) : SA P n (.region id ol.toArray true) Q e ds As :=
 tp hm fun a b c=>h a b c hq
def md (ops : Array Oper) (an : Array (List Nat)) (listed : Array Bool) (i : Nat) : Bool :=
 Region.noSelect ops && Region.free .any ops listed i && (Region.ready .any ops listed).contains i && wy an listed && tU ops an
theorem mH {d : Option Nat} {v : Value} (hQ : bP Q) (hd : bZ d n = true) : ∀ c a w,en n Q I0 hh0 w0 (.panic c) (a.put d v) w → en n Q I0 hh0 w0 (.panic c) a w:=by
 rintro c a' w' ⟨e',ds',As',I',h',r',s',g',q⟩
 refine ⟨fun t=>a'.tmps.getD t undef,ds',As',I',h',⟨?_,fun t=>rfl,?_⟩,s',g',hQ _ _ _ _ _ q⟩
 ·rw [← r'.size]; cases hdd : d <;> simp [Act.put]
 ·rw [← r'.defers]; cases hdd : d <;> simp [Act.put]
theorem lF {v : Value} {oi : Oper} (i : Nat) (ht : md ops an listed i = true) (hT : T.contains i = true) (hi : ops[i]? = some oi) (hw : Wt ops n e oi) (hQ : bP Q) (sH : cf Hs I0 hS) (hd : bZ oi.dst n = true) (hv : VR P Hs e oi v)
  (h : DH P n ops Q T an I0 hS h0 hh0 w0 fuel (listed.setIfInBounds i true) (put e oi.dst v) ds As) : DH P n ops Q T an I0 hS h0 hh0 w0 (fuel + 1) listed e ds As:=by
 intro I hh a w s r f g se
 simp only [md,Bool.and_eq_true] at ht
 obtain ⟨⟨⟨⟨h1,h2⟩,h3⟩,h4⟩,h5⟩:=ht
 exact hP hi (Region.noSelect_spec h1) (mH hQ hd) h5 (.inl ⟨by simpa using hT,rfl⟩) fuel listed a w (Region.free_spec hi h2) (by simpa using h3) (Inv.of h4)
  (.inl ⟨hw.wanted r,fun w' sw=>by rw [r.eval]; exact hv I0 hS w' sH sw⟩) se (h I hh _ w s (r.put hd v) f g se)
theorem rU {oi : Oper} (i : Nat) (ht : md ops an listed i = true) (hT : T.contains i = true) (hi : ops[i]? = some oi) (hw : Ut ops n e oi) (hQ : bP Q) (hd : bZ oi.dst n = true)
  (h : DH P n ops Q T an I0 hS h0 hh0 w0 fuel (listed.setIfInBounds i true) (put e oi.dst undef) ds As) : DH P n ops Q T an I0 hS h0 hh0 w0 (fuel + 1) listed e ds As:=by
 intro I hh a w s r f g se
 simp only [md,Bool.and_eq_true] at ht
 obtain ⟨⟨⟨⟨h1,h2⟩,h3⟩,h4⟩,h5⟩:=ht
 exact hP hi (Region.noSelect_spec h1) (mH hQ hd) h5 (.inl ⟨by simpa using hT,rfl⟩) fuel listed a w (Region.free_spec hi h2) (by simpa using h3) (Inv.of h4)
  (.inr ⟨hw.unwanted r,rfl⟩) se (h I hh _ w s (r.put hd undef) f g se)
theorem eW {v : Value} {oi : Oper} (i : Nat) (ht : md ops an listed i = true) (hT : kF T an i = false) (hi : ops[i]? = some oi) (hw : Wt ops n e oi) (hQ : bP Q) (hd : bZ oi.dst n = true) (hv : V P e oi v)
  (h : DN P n ops Q T an S I0 hh0 w0 fuel (listed.setIfInBounds i true) (put e oi.dst v) ds As) : DN P n ops Q T an S I0 hh0 w0 (fuel + 1) listed e ds As:=by
 intro I hh a w s r f g
 simp only [md,Bool.and_eq_true] at ht
 obtain ⟨⟨⟨⟨h1,h2⟩,h3⟩,h4⟩,h5⟩:=ht
 exact hP hi (Region.noSelect_spec h1) (mH hQ hd) h5 (.inr ⟨rfl,hT⟩) fuel listed a w (Region.free_spec hi h2) (by simpa using h3) (Inv.of h4)
  (.inl ⟨hw.wanted r,fun w' sw=>by rw [r.eval]; exact hv w'⟩) trivial (h I hh _ w s (r.put hd v) f g)
def nY : dz:=fun _ _ _ _=>False
theorem nY.no {I h : Hp} {w : World} {x : Exit} {a : Act} {w' : World} {p : Prop} (h : en n nY I h w x a w') : p:=by
 obtain ⟨_,_,_,_,_,_,_,_,q⟩:=h; exact q.elim
def Gk (P : Program) (n : Nat) (ops : Array Oper) (Q : dz) (T : List Nat) (an : Array (List Nat)) (I0 hS h0 hh0 : Hp) (w0 : World) (fuel : Nat) (listed : Array Bool) (e : Env) (ds : List Deferred) (As : List bu) (i : Nat) : Prop :=
 ∃ oi,ops[i]? = some oi∧Wt ops n e oi∧OA P n oi (DH P n ops Q T an I0 hS h0 hh0 w0 fuel (listed.setIfInBounds i true)) nY e ds As
def FM (P : Program) (n : Nat) (ops : Array Oper) (Q : dz) (T : List Nat) (an : Array (List Nat)) (S : World → Prop) (I0 hh0 : Hp) (w0 : World) (fuel : Nat) (listed : Array Bool) (e : Env) (ds : List Deferred) (As : List bu) (i : Nat) : Prop :=
 kF T an i = false∧∃ oi,ops[i]? = some oi∧Wt ops n e oi∧OA P n oi (DN P n ops Q T an S I0 hh0 w0 fuel (listed.setIfInBounds i true)) nY e ds As
theorem gM {rs : List Nat} (dd : Dd I0 hh0 h0 hS w0) (hr : Region.ready .any ops listed = rs) (hne : rs ≠ []) (h : ∀ i ∈ rs,Gk P n ops Q T an I0 hS h0 hh0 w0 fuel listed e ds As i) : DH P n ops Q T an I0 hS h0 hh0 w0 (fuel + 1) listed e ds As:=by
 intro I hh a w s r f g se
 refine ⟨fun h'=>absurd (hr ▸ h') hne,hr ▸ fun i hi=>?_⟩
 obtain ⟨oi,hoi,hw,h⟩:=h i hi
 have hwp:=h I hh a w s r f
 unfold wpOp
 simp only [hoi,hw.wanted r,if_true]
 refine .inl ?_
 have next : ∀ a' w',(∃ e' ds' As' I' h'',mf n e' ds' a'∧cf As' I' h''∧cZ I hh w I' h'' w'∧DH P n ops Q T an I0 hS h0 hh0 w0 fuel (listed.setIfInBounds i true) e' ds' As') → (kF T an i = true → lX I0 hS w')∧jW P ops (en n Q I0 hh0 w0) (lX I0 hS) T an fuel (listed.setIfInBounds i true) a' w':=fun a' w' ⟨e',ds',As',I',h'',r',s',g',q⟩=>by
  have gg:=g.trans g'
  have se' : lX I0 hS w':=by
   refine ⟨fun b o e=>gg.fits.imm b o (gg.le b o e),fun b o e=>?_⟩
   have hb:=gO (se.own b o e)
   have hn : hh b = none:=by
    cases z : hh b with
    | none=>rfl
    | some u =>
     exfalso
     have:=(g.kept b (dd.out b o e).1 (dd.out b o e).2).2.1
     rw [this] at z; cases z
   rw [(g'.kept b hb hn).1]; exact se.own b o e
  exact ⟨fun _=>se',q I' h'' a' w' s' r' g'.fits gg se'⟩
 unfold Oper.wp at *
 generalize (execOp a.eval oi).run P w = fC at *
 cases fC with
 | ok x w' =>
  cases x <;> simp only [Oper.upon] at hwp ⊢ <;> first
   | exact next _ _ hwp
   | exact Calls.mono hwp (fun ee w'' he=>by cases ee <;> first | exact next _ _ he | exact nY.no he | (obtain ⟨a2,w2,q⟩:=he; exact nY.no q))
   | exact Rows.mono hwp (fun _ _ he=>next _ _ he)
   | exact nY.no hwp
 | halt x w'=>cases x <;> simp only [Oper.upon] at hwp ⊢ <;> first | exact nY.no hwp | exact hwp
theorem eu {rs : List Nat} (hr : Region.ready .any ops listed = rs) (hne : rs ≠ []) (h : ∀ i ∈ rs,FM P n ops Q T an S I0 hh0 w0 fuel listed e ds As i) : DN P n ops Q T an S I0 hh0 w0 (fuel + 1) listed e ds As:=by
 intro I hh a w s r f g
 refine ⟨fun h'=>absurd (hr ▸ h') hne,hr ▸ fun i hi=>?_⟩
 obtain ⟨hnd,oi,hoi,hw,h⟩:=h i hi
 have hwp:=h I hh a w s r f
 unfold wpOp
 simp only [hoi,hw.wanted r,if_true]
 refine .inl ?_
 have next : ∀ a' w',(∃ e' ds' As' I' h'',mf n e' ds' a'∧cf As' I' h''∧cZ I hh w I' h'' w'∧DN P n ops Q T an S I0 hh0 w0 fuel (listed.setIfInBounds i true) e' ds' As') → (kF T an i = true → S w')∧jW P ops (en n Q I0 hh0 w0) S T an fuel (listed.setIfInBounds i true) a' w':=fun a' w' ⟨e',ds',As',I',h'',r',s',g',q⟩ =>
  ⟨fun hn=>(by rw [hnd] at hn; exact absurd hn (by simp)),q I' h'' a' w' s' r' g'.fits (g.trans g')⟩
 unfold Oper.wp at *
 generalize (execOp a.eval oi).run P w = fC at *
 cases fC with
 | ok x w' =>
  cases x <;> simp only [Oper.upon] at hwp ⊢ <;> first
   | exact next _ _ hwp
   | exact Calls.mono hwp (fun ee w'' he=>by cases ee <;> first | exact next _ _ he | exact nY.no he | (obtain ⟨a2,w2,q⟩:=he; exact nY.no q))
   | exact Rows.mono hwp (fun _ _ he=>next _ _ he)
   | exact nY.no hwp
 | halt x w'=>cases x <;> simp only [Oper.upon] at hwp ⊢ <;> first | exact nY.no hwp | exact hwp
theorem cO {α : Type} {p : α → Prop} : ∀ x ∈ ([] : List α),p x:=fun _ h=>by cases h
theorem bx {α : Type} {p : α → Prop} {a : α} {l : List α} (h : p a) (k : ∀ x ∈ l,p x) : ∀ x ∈ a::l,p x:=fun x hx=>by
 rcases List.mem_cons.1 hx with rfl | hx
 ·exact h
 ·exact k x hx
theorem uw {oi : Oper} (i : Nat) (dd : Dd I0 hh0 h0 hS w0) (hr : Region.ready .any ops listed = [i]) (hi : ops[i]? = some oi) (hw : Wt ops n e oi) (h : OA P n oi (DH P n ops Q T an I0 hS h0 hh0 w0 fuel (listed.setIfInBounds i true)) nY e ds As) : DH P n ops Q T an I0 hS h0 hh0 w0 (fuel + 1) listed e ds As :=
 gM dd hr (by simp) (bx ⟨oi,hi,hw,h⟩ cO)
theorem rH {oi : Oper} (i : Nat) (hr : Region.ready .any ops listed = [i]) (hn : kF T an i = false) (hi : ops[i]? = some oi) (hw : Wt ops n e oi) (h : OA P n oi (DN P n ops Q T an S I0 hh0 w0 fuel (listed.setIfInBounds i true)) nY e ds As) : DN P n ops Q T an S I0 hh0 w0 (fuel + 1) listed e ds As :=
 eu hr (by simp) (bx ⟨hn,oi,hi,hw,h⟩ cO)
theorem aH (hr : Region.ready .any ops listed = []) (h : Q .normal e ds As) : DN P n ops Q T an S I0 hh0 w0 fuel listed e ds As:=fun I hh a w s r f g=>pX hr ⟨e,ds,As,I,hh,r,s,g,h⟩ fuel
theorem aW (dd : Dd I0 hh0 h0 hS w0) (sH : cf Hs I0 hS) (h : DN P n ops Q T an (lX I0 hS) I0 hh0 w0 fuel listed e ds (Hs ++ As)) : DH P n ops Q T an I0 hS h0 hh0 w0 fuel listed e ds As:=by
 intro I hh a w s r f g se
 obtain ⟨gg,sj⟩:=cZ.frame dd.fits dd.split g
 exact h I _ a w (cX sj.comm (jk g.le sH) s) r gg.fits gg
theorem wZ {A : bu} (k : Nat) (sH : cf Hs I0 hS) (hk : Hs[k]? = some A) (hp : A.pers = true) (h : DH P n ops Q T an I0 hS h0 hh0 w0 fuel listed e ds (As ++ [A])) : DH P n ops Q T an I0 hS h0 hh0 w0 fuel listed e ds As:=by
 intro I hh a w s r f g se
 obtain ⟨h1,_,p,_⟩:=db hk sH
 have pA : A.P I (fun _=>none):=A.mono g.le (A.free hp p)
 exact h I hh a w (cX (gz.none_l hh).comm s ⟨fun _=>none,fun _=>none,gz.none_l _,pA,trivial⟩) r f g se
theorem jI {Hs Hs' : List bu} (h : ∀ I h,cf Hs I h → cf Hs' I h) (sH : cf Hs I0 hS) : cf Hs' I0 hS:=h _ _ sH
theorem GP.know {k : Nat} {A B : bu} (hk : Hs[k]? = some A) (hp : B.pers = true) (hv : ∀ I h,A.P I h → B.P I h) : ∀ I h,cf Hs I h → cf (Hs ++ [B]) I h:=fun I h s=>by
 obtain ⟨h1,_,p,_⟩:=db hk s
 exact cX ⟨Le.refl h,(fun _ _ e=>by cases e),fun _ _ _=>rfl⟩ s ⟨fun _=>none,fun _=>none,⟨fun _ _ e=>(by cases e),fun _ _ e=>(by cases e),fun _ _ e=>(by cases e)⟩,B.free hp (hv I h1 p),trivial⟩
theorem GP.nilRo {α : Type} (kd : Kd α) (A : Option Addr) (c : Nat) : ∀ I h,cf Hs I h → cf (Hs ++ [Ro kd A c []]) I h:=fun I h s =>
 cX ⟨Le.refl h,(fun _ _ e=>by cases e),fun _ _ _=>rfl⟩ s ⟨fun _=>none,fun _=>none,⟨fun _ _ e=>(by cases e),fun _ _ e=>(by cases e),fun _ _ e=>(by cases e)⟩,⟨Nat.zero_le _,[],rfl,.inl rfl⟩,trivial⟩
theorem GP.subN {α : Type} {kd : Kd α} {A : Option Addr} {c k sz : Nat} {xs zs : List α} {l h m : Int} (hzs : zs = sub xs l h) (hk : Hs[k]? = some (Ro kd A c xs)) (hsz : kd.sz = sz) (h0 : 0 ≤ l) (h1 : l ≤ h) (h2 : h ≤ (xs.length : Int)) (hm : m = (c : Int) ∨ h ≤ m) :
  ∀ I h,cf Hs I h → cf (Hs ++ [Ro kd (cL A l m sz) (m.toNat - l.toNat) zs]) I h:=by
 subst hzs
 exact GP.know hk rfl fun I hp p=>ua hsz h0 h1 h2 (by obtain ⟨hle,_⟩:=p; rcases hm with b | b <;> omega) I hp p
theorem DH.ghost (hv : Gh As Bs) (h : DH P n ops Q T an I0 hS h0 hh0 w0 fuel listed e ds Bs) : DH P n ops Q T an I0 hS h0 hh0 w0 fuel listed e ds As:=fun I hh a w s r f g se=>by
 obtain ⟨I1,h1,g1,s1⟩:=hv I hh w s f
 exact h I1 h1 a w s1 r g1.fits (g.trans g1) se
theorem DN.ghost (hv : Gh As Bs) (h : DN P n ops Q T an S I0 hh0 w0 fuel listed e ds Bs) : DN P n ops Q T an S I0 hh0 w0 fuel listed e ds As:=fun I hh a w s r f g=>by
 obtain ⟨I1,h1,g1,s1⟩:=hv I hh w s f
 exact h I1 h1 a w s1 r g1.fits (g.trans g1)
theorem VR.ofV {o : Oper} {v : Value} (h : V P e o v) : VR P Hs e o v:=fun _ _ w _ _=>h w
end
end Go.Proofs.YtckilbegmbaeeaaGreat.SL
namespace Go.Proofs.YtckilbegmbaeeaaGreat.SL
open Go Go.RowKit
set_option linter.unusedVariables false
set_option linter.unusedSimpArgs false
section
variable {P : Program} {n : Nat} {Q : dz} {e : Env} {ds : List Deferred} {As As' : List bu} {d : Option Nat} {ty T T' E tx : TypeId} {pos : String} {aft : Array Edge} {g : Option (Nat × Bool)} {x y z : Operand} {K : Env → List Deferred → List bu → Prop}
theorem ue {parts : List (Nat × Operand)} {N sz : Nat} {zv : Value} {cells : List Value} (hz : (P.info? T).bind (·.zero) = some zv) (hu : P.underlying T = some (.array N E)) (hs : (P.info? E).map (·.size) = some sz)
  (hf : Instr.fill (fun i : Nat=>some (i * sz,sz)) zv.cells (parts.map fun p=>(p.1,ev e p.2)) = some cells.toArray) : V P e ⟨d,.build T parts.toArray,ty,pos,aft,g⟩ (.agg cells.toArray):=fun w=>by
 cases hq : P.info? T with
 | none=>simp [hq] at hz
 | some q =>
  cases hq2 : P.info? E with
  | none=>simp [hq2] at hs
  | some q2 =>
   have hz' : q.zero = some zv:=by simpa [hq] using hz
   have hs' : q2.size = sz:=by simpa [hq2] using hs
   have e2 : (Array.map (fun (p : Nat × Operand)=>(p.1,ev e p.2)) parts.toArray).toList = parts.map fun p=>(p.1,ev e p.2):=by simp
   have hrun : (Instr.build T (Array.map (fun (p : Nat × Operand)=>(p.1,ev e p.2)) parts.toArray)).run P w = .ok (.agg cells.toArray) w:=by
    simp only [Instr.build,Sem.run_bind,zeroValue,typeInfo,run_program,Result.andThen_ok,hq,Sem.run_pure,hz',run_underlying hu,sizeOf,hq2,hs',e2,hf]
   show ((Sem.bind (Instr.build T (Array.map (fun (p : Nat × Operand)=>(p.1,ev e p.2)) parts.toArray)) fun v=>Sem.pure (Next.value v)) : Sem Next).run P w = _
   rw [Sem.run_bind',hrun]
   rfl
theorem nQ {b N sz : Nat} (hu : P.underlying T = some (.array N E)) (hs : (P.info? E).map (·.size) = some sz) (hx : ev e x = .pointer (some ⟨b,0,none⟩)) : V P e ⟨d,.slice T x none none none,ty,pos,aft,g⟩ (.slice (some ⟨b,0,none⟩) N N):=fun w=>by
 cases hq : P.info? E with
 | none=>simp [hq] at hs
 | some q=>simp [execOp,hx,Instr.sliceAt,run_underlying hu,Instr.sureAddr,Instr.sliceBounds,sizeOf,typeInfo,hq,Addr.add]
theorem Gh.blkRo {α : Type} {kd : Kd α} {b k N : Nat} {cs : List Value} {xs : List α} (hk : As[k]? = some (aL b T cs)) (hr : ∀ I,RL kd I cs xs) (hN : xs.length = N) : Gh As (As.set k (Ro kd (some ⟨b,0,none⟩) N xs)):=by
 intro I h w s f
 obtain ⟨h1,l,hg,ff⟩:=db hk s
 have hg : h1 b = some (.cells cs.toArray T (0,0)):=hg
 have hh:=l b _ hg
 have hI:=f.sep b _ hh
 let ob : Obj:=.cells cs.toArray T (0,0)
 have leI : Le I (fun c=>if c = b then some ob else I c):=fun c u e=>by
  have : c ≠ b:=by rintro rfl; rw [hI] at e; cases e
  simp [this,e]
 refine ⟨fun c=>if c = b then some ob else I c,fun c=>if c = b then none else h c,⟨⟨fun c u e=>?_,fun c u e=>?_,fun c u e=>?_⟩,leI,rfl,rfl,rfl,Nat.le_refl _,fun c hb e=>?_⟩,?_⟩
 ·by_cases hb : c = b
  ·subst hb; simp at e; rw [← e]; exact f.own c _ hh
  ·simp [hb] at e; exact f.imm c u e
 ·by_cases hb : c = b
  ·simp [hb] at e
  ·simp [hb] at e; exact f.own c u e
 ·by_cases hb : c = b
  ·simp [hb] at e
  ·simp [hb] at e; simp [hb]; exact f.sep c u e
 ·have : c ≠ b:=by rintro rfl; rw [hh] at e; cases e
  exact ⟨rfl,by simp [this,e],by simp [this]⟩
 ·refine ff _ _ (fun _=>none) _ leI ⟨Nat.le_of_eq hN,cs,hr _,.inr ⟨b,0,cs.toArray,T,(0,0),rfl,by simp [ob],fun j v hj=>by simpa using hj⟩⟩ (fun _ _ e=>by cases e) (fun c u e1 e2=>?_)
  have : c ≠ b:=by rintro rfl; rw [hg] at e2; cases e2
  exact ⟨by simp [this,e1],rfl⟩
theorem pe {α : Type} [Inhabited α] {kd : Kd α} {N sz : Nat} {k : IntKind} {i : Int} {cs : List Value} {xs : List α} {v : Value} {td : TypeDesc} (hu : P.underlying T = some (.array N E)) (hs : (P.info? E).map (·.size) = some sz) (he : P.underlying E = some td) (ha : lb td = false) (hk : kd.sz = sz)
  (hx : ev e x = .agg cs.toArray) (hr : RL kd (fun _=>none) cs xs) (hN : xs.length = N) (hy : ev e y = .int k i) (h0 : 0 ≤ i) (h1 : i < (N : Int)) (hv : ∀ c,kd.R (fun _=>none) c (rd xs i) → c[0]? = some v) : V P e ⟨d,.index T x y,ty,pos,aft,g⟩ v:=fun w=>by
 cases hq : P.info? E with
 | none=>simp [hq] at hs
 | some q =>
  have hs' : q.size = sz:=by simpa [hq] using hs
  obtain ⟨c,hc,hg⟩:=RL.get hr (mW h0 (by rw [hN]; exact h1))
  have h2 : cs[i.toNat * sz]? = some v:=by have:=hg 0 v (hv c hc); rwa [hk,Nat.add_zero] at this
  have hp : (part E cs.toArray (i.toNat * sz)).run P w = .ok v w:=jm (by unfold nq; rw [he]; cases td <;> first | (cases ha; done) | (simpa using h2)) w
  simp only [execOp,hx,hy,Instr.index,asIntOf,run_underlying hu,sizeOf,typeInfo,hq,hs',Sem.run_bind,Sem.run_pure,Result.andThen_ok,run_program,h0,h1,and_self,if_true,hp]
theorem sy {α : Type} [Inhabited α] {kd : Kd α} {N sz : Nat} {k : IntKind} {i : Int} {cs vs : List Value} {xs : List α} {td : TypeDesc} (hu : P.underlying T = some (.array N E)) (hs : (P.info? E).map (·.size) = some sz) (he : P.underlying E = some td) (ha : lb td = true) (hk : kd.sz = sz)
  (hx : ev e x = .agg cs.toArray) (hr : RL kd (fun _=>none) cs xs) (hN : xs.length = N) (hy : ev e y = .int k i) (h0 : 0 ≤ i) (h1 : i < (N : Int)) (hv : ∀ c,kd.R (fun _=>none) c (rd xs i) → c = vs) : V P e ⟨d,.index T x y,ty,pos,aft,g⟩ (.agg vs.toArray):=fun w=>by
 cases hq : P.info? E with
 | none=>simp [hq] at hs
 | some q =>
  have hs' : q.size = sz:=by simpa [hq] using hs
  have hl : i.toNat < xs.length:=by omega
  have h2:=RL.sub i.toNat 1 hr
  have h3 : (xs.drop i.toNat).take 1 = [rd xs i]:=by
   have e1 : rd xs i = xs[i.toNat]:=by have:=mW h0 (by rw [hN]; exact h1); rw [List.getElem?_eq_getElem hl] at this; exact (Option.some.inj this).symm
   rw [e1,List.drop_eq_getElem_cons hl]; rfl
  rw [h3,hk,Nat.one_mul] at h2
  obtain ⟨c1,c2,e1,h4,h5⟩:=h2
  have h5 : c2 = []:=h5
  subst h5
  rw [List.append_nil,hv c1 h4] at e1
  have hp : (part E cs.toArray (i.toNat * sz)).run P w = .ok (.agg vs.toArray) w:=jm (by
   have ex : cs.toArray.extract (i.toNat * sz) (i.toNat * sz + sz) = vs.toArray:=by
    apply Array.ext'
    rw [Array.toList_extract]
    simp [List.extract,e1]
   unfold nq; rw [he]; cases td <;> first | (cases ha; done) | (show (P.info? E).map (fun i=>Value.agg (cs.toArray.extract _ (_ + i.size))) = _; rw [hq]; simp only [Option.map_some,hs',ex])) w
  simp only [execOp,hx,hy,Instr.index,asIntOf,run_underlying hu,sizeOf,typeInfo,hq,hs',Sem.run_bind,Sem.run_pure,Result.andThen_ok,run_program,h0,h1,and_self,if_true,hp]
theorem pB {α : Type} [Inhabited α] {kd : Kd α} {m0 N sz q : Nat} {cs : List Value} {xs : List α} {i : Int} {v : Value} (hr : RL kd (fun _=>none) ((cs.drop m0).take (N * sz)) xs) (hk : kd.sz = sz) (hN : xs.length = N) (h0 : 0 ≤ i) (h1 : i < (N : Int))
  (hv : ∀ c,kd.R (fun _=>none) c (rd xs i) → c[q]? = some v) : cs[m0 + i.toNat * sz + q]? = some v:=by
 obtain ⟨c,hc,hg⟩:=RL.get hr (mW h0 (by rw [hN]; exact h1))
 have h2:=hg q v (hv c hc)
 rw [List.getElem?_take] at h2
 split at h2
 ·rw [List.getElem?_drop,hk] at h2
  rwa [Nat.add_assoc]
 ·cases h2
end
end Go.Proofs.YtckilbegmbaeeaaGreat.SL

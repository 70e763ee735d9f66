/- A machine that reckons: what Go's code does to blocks that bear numbers, with data that may be open. Definitions. -/
import Derived.Test.YtkdakjjockfmdaaGreatDoorSlF
import Derived.Test.YtkdakjjockfmdaaGreatDoorSlC
import Derived.Test.YtkdakjjockfmdaaGreatDoorSlD
import Derived.Test.YtkdakjjockfmdaaGreatDoorSlI
namespace Go.Proofs.YtkdakjjockfmdaaGreatDoor.XC
open Go Go.Proofs.YtkdakjjockfmdaaGreatDoor.SL
set_option linter.unusedVariables false
set_option linter.unusedSimpArgs false

/-- Types of data. -/
inductive Ty where
  | int (k : IntKind) | bool | str | sl (t : Ty) | u | p (a b : Ty)
  deriving DecidableEq
@[reducible] def Ty.den : Ty → Type
  | .int _ => Int | .bool => Bool | .str => ByteArray | .sl t => List t.den | .u => Unit | .p a b => a.den × b.den
def Ty.df : (t : Ty) → t.den
  | .int _ => (0 : Int) | .bool => false | .str => ByteArray.empty | .sl _ => [] | .u => () | .p a b => (a.df, b.df)
def Ty.flat : Ty → Bool | .sl _ => false | .p a b => a.flat && b.flat | _ => true
def Ty.sz : Ty → Nat | .u => 0 | .p a b => a.sz + b.sz | _ => 1

/-- Values: what they are made of is told, numbers may be open. -/
inductive SV where
  | int (k : IntKind) (n : Int) | bool (b : Bool) | str (s : ByteArray)
  | ptr (h off : Nat)                       -- at a cell of the block h
  | el (h sz : Nat) (i : Int) (off : Nat)   -- at a cell of an element of the slice h
  | nilp
  | er (t : Ty) (xs : List t.den) (i : Int) (off : Nat)   -- at a cell of an element of data
  | rv (t : Ty) (xs : List t.den)           -- a slice that nobody turns
  | sl (h : Nat)                            -- the slice h, whole
  | win (h : Nat) (lo n : Int)              -- a cut of it
  | nils
  | bw (h off : Nat) (t : Ty) (n c : Nat)   -- cells of the block h as a slice
  | agg (l : List SV) | tup (l : List SV)
  | fn (f : FuncId) (l : List SV) | nilf
  | nilm | nili | ud | un
  | mp (h : Nat)                            -- the map h
  | e0 (nn : Bool)                          -- a slice without elements and without room; nn: it is not nil
/-- Blocks. -/
inductive At where
  | blk (T : TypeId) (cs : List SV)
  | buf (t : Ty) (E : TypeId) (xs : List t.den)
  | fz (t : Ty) (E : TypeId) (xs : List t.den)
  | imm (T : TypeId) (cs : List SV)
  | mp (es : List (SV × SV))                -- a map, by its entries
  | it (h : Nat)                            -- that goes through the map h, and has not begun
  | dead

inductive Tb (α : Type) where
  | e | n (v : Option α) (l r : Tb α)
def Tb.getF {α : Type} : Nat → Tb α → Nat → Option α
  | 0, _, _ => none
  | _ + 1, .e, _ => none
  | f + 1, .n v l r, k => bif Nat.beq k 0 then v else bif Nat.beq (k % 2) 0 then Tb.getF f l (k / 2) else Tb.getF f r (k / 2)
def Tb.setF {α : Type} (x : α) : Nat → Tb α → Nat → Tb α
  | 0, t, _ => t
  | f + 1, .e, k => bif Nat.beq k 0 then .n (some x) .e .e else bif Nat.beq (k % 2) 0 then .n none (Tb.setF x f .e (k / 2)) .e else .n none .e (Tb.setF x f .e (k / 2))
  | f + 1, .n v l r, k => bif Nat.beq k 0 then .n (some x) l r else bif Nat.beq (k % 2) 0 then .n v (Tb.setF x f l (k / 2)) r else .n v l (Tb.setF x f r (k / 2))
/-- Eight places. -/
structure L8 (α : Type) where
  a : α
  b : α
  c : α
  d : α
  e : α
  f : α
  g : α
  h : α
def L8.get {α : Type} (x : L8 α) : Nat → α | 0 => x.a | 1 => x.b | 2 => x.c | 3 => x.d | 4 => x.e | 5 => x.f | 6 => x.g | _ => x.h
def L8.set {α : Type} (x : L8 α) (v : α) : Nat → L8 α
  | 0 => ⟨v, x.b, x.c, x.d, x.e, x.f, x.g, x.h⟩ | 1 => ⟨x.a, v, x.c, x.d, x.e, x.f, x.g, x.h⟩ | 2 => ⟨x.a, x.b, v, x.d, x.e, x.f, x.g, x.h⟩ | 3 => ⟨x.a, x.b, x.c, v, x.e, x.f, x.g, x.h⟩
  | 4 => ⟨x.a, x.b, x.c, x.d, v, x.f, x.g, x.h⟩ | 5 => ⟨x.a, x.b, x.c, x.d, x.e, v, x.g, x.h⟩ | 6 => ⟨x.a, x.b, x.c, x.d, x.e, x.f, v, x.h⟩ | _ => ⟨x.a, x.b, x.c, x.d, x.e, x.f, x.g, v⟩
def L8.all {α : Type} (v : α) : L8 α := ⟨v, v, v, v, v, v, v, v⟩
/-- Tables: of temporaries, of blocks. -/
structure Te (α : Type) where
  lo : L8 (L8 (L8 (Option α)))
  hi : Tb α
def Te.e {α : Type} : Te α := ⟨L8.all (L8.all (L8.all none)), .e⟩
def Te.get {α : Type} (t : Te α) (k : Nat) : Option α := bif Nat.ble 512 k then Tb.getF (k + 1) t.hi k else ((t.lo.get (k / 64)).get (k / 8 % 8)).get (k % 8)
def Te.set {α : Type} (t : Te α) (k : Nat) (x : α) : Te α := bif Nat.ble 512 k then ⟨t.lo, Tb.setF x (k + 1) t.hi k⟩ else
  ⟨t.lo.set ((t.lo.get (k / 64)).set (((t.lo.get (k / 64)).get (k / 8 % 8)).set (some x) (k % 8)) (k / 8 % 8)) (k / 64), t.hi⟩
structure Tr (α : Type) where
  lo : L8 (L8 (L8 (L8 (L8 (Option α)))))
  hi : Tb α
def Tr.e {α : Type} : Tr α := ⟨L8.all (L8.all (L8.all (L8.all (L8.all none)))), .e⟩
def Tr.get {α : Type} (t : Tr α) (k : Nat) : Option α := bif Nat.ble 32768 k then Tb.getF (k + 1) t.hi k else ((((t.lo.get (k / 4096)).get (k / 512 % 8)).get (k / 64 % 8)).get (k / 8 % 8)).get (k % 8)
def Tr.set {α : Type} (t : Tr α) (k : Nat) (x : α) : Tr α := bif Nat.ble 32768 k then ⟨t.lo, Tb.setF x (k + 1) t.hi k⟩ else
  ⟨(let y4 := t.lo.get (k / 4096); let y3 := y4.get (k / 512 % 8); let y2 := y3.get (k / 64 % 8); let y1 := y2.get (k / 8 % 8)
    t.lo.set (y4.set (y3.set (y2.set (y1.set (some x) (k % 8)) (k / 8 % 8)) (k / 64 % 8)) (k / 512 % 8)) (k / 4096)), t.hi⟩

structure St where
  env : Te SV
  L : Tr At
  n : Nat
  g : Nat
  m : Nat
  log : List Nat
  c : Bool                                  -- all data are told: what is empty may be asked
def St.put (s : St) (d : Option Nat) (v : SV) : St := match d with | some t => { s with env := s.env.set t v } | none => s
def St.new (s : St) (a : At) : St := { s with L := s.L.set s.n a, n := s.n + 1 }
def St.upd (s : St) (h : Nat) (a : At) : St := { s with L := s.L.set h a, log := h :: s.log }

/-- Data to cells and back. -/
def Ty.rf : (t : Ty) → t.den → List SV
  | .int k, n => [.int k n] | .bool, b => [.bool b] | .str, s => [.str s] | .sl t, xs => [.rv t xs] | .u, _ => [] | .p a b, x => a.rf x.1 ++ b.rf x.2
def Ty.ri : (t : Ty) → List SV → Option (t.den × List SV)
  | .int k, .int k' n :: r => if k = k' then some (n, r) else none
  | .bool, .bool b :: r => some (b, r)
  | .str, .str s :: r => some (s, r)
  | .sl t, .rv t' xs :: r => if h : t' = t then some (h ▸ xs, r) else none
  | .sl t, .nils :: r => some ([], r)
  | .u, r => some ((), r)
  | .p a b, r => match a.ri r with | some (x, r) => (match b.ri r with | some (y, r) => some ((x, y), r) | none => none) | none => none
  | _, _ => none
def Ty.rd (t : Ty) (cs : List SV) : Option t.den := match t.ri cs with | some (x, []) => some x | _ => none
def Ty.riN (t : Ty) : Nat → List SV → Option (List t.den)
  | 0, _ => some []
  | n + 1, cs => match t.ri cs with | some (x, r) => (match t.riN n r with | some l => some (x :: l) | none => none) | none => none
/-- A value's cells. -/
def SV.cells : SV → Option (List SV) | .agg l => some l | .tup _ => none | .un => none | .ud => none | v => some [v]
def SV.one : SV → Bool | .agg _ => false | .tup _ => false | .un => false | .ud => false | _ => true

section
variable (P : Program)
def mkArr (a : Ty) : Nat → Ty | 0 => .u | n + 1 => .p a (mkArr a n)
def mkStr (f : TypeId → Option Ty) : List Field → Option Ty
  | [] => some .u
  | fd :: r => match f fd.type, mkStr f r with | some a, some b => some (.p a b) | _, _ => none
/-- Data types of the program's types. -/
def tyOf : Nat → TypeId → Option Ty
  | 0, _ => none
  | f + 1, T => match P.underlying T with
    | some (.int k) => some (.int k) | some .bool => some .bool | some .string => some .str
    | some (.slice E) => (tyOf f E).map .sl
    | some (.struct fs) => mkStr (tyOf f) fs.toList
    | some (.array n E) => (tyOf f E).map fun a => mkArr a n
    | _ => none
def svC : Value → SV
  | .bool b => .bool b | .int k n => .int k n | .string s => .str s | .pointer none => .nilp | .slice none 0 0 => .nils
  | .map none => .nilm | .nilFunc => .nilf | .nilIface => .nili
  | _ => .un
def svOf : Value → SV
  | .agg cs => .agg (cs.toList.map svC)
  | v => svC v
def szOf (T : TypeId) : Option Nat := (P.info? T).map (·.size)
def zeroV (T : TypeId) : Option Value := (P.info? T).bind (·.zero)
def isAg (T : TypeId) : Bool := match P.underlying T with | some td => aggD td | none => false
def sev (s : St) : Operand → SV
  | .tmp t => (s.env.get t).getD .un
  | .const v => svOf v
  | .func f => .fn f []
  | .global g => bif Nat.blt g s.g then .ptr g 0 else .un
/-- What is read at a place of cells. -/
def part (T : TypeId) (cs : List SV) (off : Nat) : Option SV := match P.underlying T with
  | some td => bif aggD td then (match szOf P T with | some n => bif Nat.ble (off + n) cs.length then some (.agg ((cs.drop off).take n)) else none | none => none) else cs[off]?
  | none => none
def setL {α : Type} (cs : List α) (m : Nat) (vs : List α) : List α := cs.take m ++ vs ++ cs.drop (m + vs.length)
def fillX (place : Nat → Option (Nat × Nat)) : List SV → List (Nat × SV) → Option (List SV)
  | cs, [] => some cs
  | cs, (i, v) :: r => match place i, v.cells with
    | some (off, z), some l => bif Nat.beq l.length z && Nat.ble (off + l.length) cs.length then fillX place (setL cs off l) r else none
    | _, _ => none

def partS (T : TypeId) (cs : List SV) (off : Nat) : Option SV := match P.underlying T with
  | some (.struct _) => (P.info? T).map fun i => .agg ((cs.drop off).take i.size)
  | some (.array _ _) => (P.info? T).map fun i => .agg ((cs.drop off).take i.size)
  | some _ => cs[off]?
  | none => none
/-- Whether data are alike. -/
def eqT : Nat → TypeId → SV → SV → Option Bool
  | 0, _, _, _ => none
  | d + 1, T, x, y => match P.underlying T with
    | some .bool => (match x, y with | .bool a, .bool b => some (a == b) | _, _ => none)
    | some (.int _) => (match x, y with | .int k a, .int k' b => if k = k' then some (a == b) else none | _, _ => none)
    | some .string => (match x, y with | .str a, .str b => some (decide (a = b)) | _, _ => none)
    | some (.struct fs) => (match x, y with
      | .agg xs, .agg ys => if P.stoodInHeld T = true then none else if fs.all (·.name != "_") = true then
          andC (fs.toList.map fun f => (partS P f.type xs f.offset).bind fun a => (partS P f.type ys f.offset).bind fun b => eqT d f.type a b) else none
      | _, _ => none)
    | some (.array n E) => (match x, y with
      | .agg xs, .agg ys => (P.info? E).bind fun i => andC ((List.range n).map fun j => (partS P E xs (j * i.size)).bind fun a => (partS P E ys (j * i.size)).bind fun b => eqT d E a b)
      | _, _ => none)
    | _ => none
/-- Maps: by their entries. -/
def SV.val : SV → Bool | .tup _ => false | .un => false | .ud => false | _ => true
def sameD : SV → SV → Bool
  | .int k a, .int k' b => decide (k = k') && decide (a = b) | .bool a, .bool b => a == b | .str a, .str b => decide (a = b) | _, _ => false
def sameDs : List SV → List SV → Bool
  | [], [] => true | x :: l, y :: m => sameD x y && sameDs l m | _, _ => false
def sameK : SV → SV → Bool | .agg l, .agg m => sameDs l m | x, y => sameD x y
def findX (KT : TypeId) (k : SV) : List (SV × SV) → Option (Option SV)
  | [] => some none
  | (k', v) :: r => match eqT P 100 KT k k' with | some true => some (some v) | some false => findX KT k r | none => none
def putX (KT : TypeId) (k v : SV) : List (SV × SV) → Option (List (SV × SV))
  | [] => some [(k, v)]
  | (k', v') :: r => match eqT P 100 KT k k' with
    | some true => bif sameK k' k then some ((k, v) :: r) else none
    | some false => (match putX KT k v r with | some r => some ((k', v') :: r) | none => none)
    | none => none
variable {ρ : Type}
def arith (op : BinOp) (k : IntKind) (a b : Int) (K : SV → Option ρ) : Option ρ := match op with
  | .add => K (.int k (k.wrap (a + b))) | .sub => K (.int k (k.wrap (a - b))) | .mul => K (.int k (k.wrap (a * b)))
  | .quo => if b ≠ 0 then K (.int k (k.wrap (a.tdiv b))) else none
  | .rem => if b ≠ 0 then K (.int k (a.tmod b)) else none
  | .and => K (.int k (andI k a b)) | .or => K (.int k (orI k a b)) | .xor => K (.int k (xorI k a b)) | .andNot => K (.int k (andNotI k a b))
  | .eql => K (.bool (decide (a = b))) | .neq => K (.bool (decide (a ≠ b))) | .lss => K (.bool (decide (a < b))) | .leq => K (.bool (decide (a ≤ b))) | .gtr => K (.bool (decide (a > b))) | .geq => K (.bool (decide (a ≥ b)))
  | _ => none
def lenS (s : St) : SV → Option Int
  | .str a => some (a.size : Int)
  | .rv _ xs => some (xs.length : Int)
  | .nils => some 0
  | .sl h => match s.L.get h with | some (.buf _ _ xs) => some (xs.length : Int) | some (.fz _ _ xs) => some (xs.length : Int) | _ => none
  | .win h _ n => match s.L.get h with | some (.buf _ _ _) => some n | some (.fz _ _ _) => some n | _ => none
  | .bw _ _ _ n _ => some (n : Int)
  | _ => none
/-- What a slice (or a string) gives to be read. -/
def dat (s : St) (t : Ty) : SV → Option (List t.den)
  | .rv t' xs => if h : t' = t then some (h ▸ xs) else none
  | .nils => some []
  | .e0 _ => some []
  | .sl g => match s.L.get g with | some (.buf t' _ xs) => (if h : t' = t then some (h ▸ xs) else none) | some (.fz t' _ xs) => (if h : t' = t then some (h ▸ xs) else none) | _ => none
  | .win g lo n => match s.L.get g with | some (.buf t' _ xs) => (if h : t' = t then some (h ▸ SL.sub xs lo (lo + n)) else none) | some (.fz t' _ xs) => (if h : t' = t then some (h ▸ SL.sub xs lo (lo + n)) else none) | _ => none
  | .bw g o t' n _ => match s.L.get g with | some (.blk _ cs) => (if t' = t ∧ t.flat = true ∧ o + n * t.sz ≤ cs.length then t.riN n (cs.drop o) else none) | _ => none
  | .str b => match t with | .int .u8 => some (bytesOf b) | _ => none
  | _ => none
def zeros (t : Ty) (n : Nat) : List t.den := List.replicate n t.df
def ldX (s : St) (T : TypeId) : SV → (SV → Option ρ) → Option ρ
  | .ptr h o, K => match s.L.get h with
    | some (.blk _ cs) => (match part P T cs o with | some v => K v | none => none)
    | some (.imm _ cs) => (match part P T cs o with | some v => K v | none => none)
    | _ => none
  | .el h z i o, K => match s.L.get h with
    | some (.buf t _ xs) => bif Nat.beq z t.sz then (if 0 ≤ i ∧ i < (xs.length : Int) then (match part P T (t.rf (xs.getD i.toNat t.df)) o with | some v => K v | none => none) else none) else none
    | some (.fz t _ xs) => bif Nat.beq z t.sz then (if 0 ≤ i ∧ i < (xs.length : Int) then (match part P T (t.rf (xs.getD i.toNat t.df)) o with | some v => K v | none => none) else none) else none
    | _ => none
  | .er t xs i o, K => if 0 ≤ i ∧ i < (xs.length : Int) then (match part P T (t.rf (xs.getD i.toNat t.df)) o with | some v => K v | none => none) else none
  | _, _ => none
/-- What is stored among data is frozen. -/
def frz (s : St) : SV → Option (SV × St)
  | .sl h => match s.L.get h with | some (.buf t E xs) => some (.rv t xs, s.upd h (.fz t E xs)) | some (.fz t _ xs) => some (.rv t xs, s) | _ => none
  | .win h lo n => match s.L.get h with | some (.buf t E xs) => some (.rv t (SL.sub xs lo (lo + n)), s.upd h (.fz t E xs)) | some (.fz t _ xs) => some (.rv t (SL.sub xs lo (lo + n)), s) | _ => none
  | v => some (v, s)
def frzL : St → List SV → Option (List SV × St)
  | s, [] => some ([], s)
  | s, v :: l => match frz s v with | some (v, s) => (match frzL s l with | some (l, s) => some (v :: l, s) | none => none) | none => none
def stX (s : St) (T : TypeId) (v : SV) : SV → (St → Option ρ) → Option ρ
  | .ptr h o, K => match s.L.get h, v.cells with
    | some (.blk T' cs), some l => bif l.all SV.one && Nat.ble (o + l.length) cs.length && (szOf P T == some l.length) then K (s.upd h (.blk T' (setL cs o l))) else none
    | _, _ => none
  | .el h z i o, K => match v.cells with
    | some l => (match frzL s l with
      | some (l, s) => (match s.L.get h with
        | some (.buf t E xs) => bif l.all SV.one && Nat.beq z t.sz && Nat.ble (o + l.length) z && (szOf P T == some l.length) then
            (if 0 ≤ i ∧ i < (xs.length : Int) then (match t.rd (setL (t.rf (xs.getD i.toNat t.df)) o l) with | some y => K (s.upd h (.buf t E (xs.set i.toNat y))) | none => none) else none) else none
        | _ => none)
      | none => none)
    | none => none
  | _, _ => none
def num3 (lo hi mx : Option SV) (n : Int) : Option (Int × Int × Option Int) := match lo, hi, mx with
  | none, none, none => some (0, n, none)
  | some (.int _ l), none, none => some (l, n, none)
  | none, some (.int _ h), none => some (0, h, none)
  | some (.int _ l), some (.int _ h), none => some (l, h, none)
  | none, some (.int _ h), some (.int _ m) => some (0, h, some m)
  | some (.int _ l), some (.int _ h), some (.int _ m) => some (l, h, some m)
  | _, _, _ => none
def mOk (h n : Int) : Option Int → Prop
  | none => True
  | some m => h ≤ m ∧ m ≤ n
instance (h n : Int) : (m : Option Int) → Decidable (mOk h n m)
  | none => .isTrue trivial
  | some m => inferInstanceAs (Decidable (h ≤ m ∧ m ≤ n))
def sliceX (s : St) (T : TypeId) (x : SV) (lo hi mx : Option SV) (K : SV → Option ρ) : Option ρ := match P.underlying T, x with
  | some (.array N E), .ptr g o => (match szOf P E, tyOf P 12 E, num3 lo hi mx (N : Int) with
    | some z, some t, some (l, h, m) => bif Nat.beq t.sz z then (if 0 ≤ l ∧ l ≤ h ∧ h ≤ m.getD N ∧ m.getD N ≤ (N : Int) then K (.bw g (o + l.toNat * z) t (h - l).toNat ((m.getD N) - l).toNat) else none) else none
    | _, _, _ => none)
  | some (.slice E), .bw g o t n c => (match szOf P E, num3 lo hi mx (n : Int) with
    | some z, some (l, h, m) => bif Nat.beq t.sz z then (if 0 ≤ l ∧ l ≤ h ∧ h ≤ m.getD c ∧ m.getD c ≤ (c : Int) then K (.bw g (o + l.toNat * z) t (h - l).toNat ((m.getD c) - l).toNat) else none) else none
    | _, _ => none)
  | some .string, .str b => (match num3 lo hi mx (b.size : Int) with
    | some (l, h, none) => if 0 ≤ l ∧ l ≤ h ∧ h ≤ (b.size : Int) then K (.str (b.extract l.toNat h.toNat)) else none
    | _ => none)
  | some (.slice E), .rv t xs => (match szOf P E, num3 lo hi mx (xs.length : Int) with
    | some z, some (l, h, m) => bif Nat.beq t.sz z then (if 0 ≤ l ∧ l ≤ h ∧ h ≤ (xs.length : Int) ∧ mOk h xs.length m then K (.rv t (SL.sub xs l h)) else none) else none
    | _, _ => none)
  | some (.slice E), .sl g => (match s.L.get g, szOf P E with
    | some (.buf t _ xs), some z => (match num3 lo hi mx (xs.length : Int) with
      | some (l, h, m) => bif Nat.beq t.sz z then (if 0 ≤ l ∧ l ≤ h ∧ h ≤ (xs.length : Int) ∧ mOk h xs.length m then K (.win g l (h - l)) else none) else none
      | none => none)
    | some (.fz t _ xs), some z => (match num3 lo hi mx (xs.length : Int) with
      | some (l, h, m) => bif Nat.beq t.sz z then (if 0 ≤ l ∧ l ≤ h ∧ h ≤ (xs.length : Int) ∧ mOk h xs.length m then K (.win g l (h - l)) else none) else none
      | none => none)
    | _, _ => none)
  | some (.slice E), .win g a n => (match s.L.get g, szOf P E with
    | some (.buf t _ _), some z => (match num3 lo hi mx n with
      | some (l, h, m) => bif Nat.beq t.sz z then (if 0 ≤ l ∧ l ≤ h ∧ h ≤ n ∧ mOk h n m then K (.win g (a + l) (h - l)) else none) else none
      | none => none)
    | some (.fz t _ _), some z => (match num3 lo hi mx n with
      | some (l, h, m) => bif Nat.beq t.sz z then (if 0 ≤ l ∧ l ≤ h ∧ h ≤ n ∧ mOk h n m then K (.win g (a + l) (h - l)) else none) else none
      | none => none)
    | _, _ => none)
  | some (.slice E), .nils => (match szOf P E, num3 lo hi mx 0 with
    | some z, some (l, h, m) => if l = 0 ∧ h = 0 ∧ m.getD 0 = 0 then K .nils else none
    | _, _ => none)
  | _, _ => none
/-- A cut 's[:0:0]'. -/
def isZ : Option SV → Bool | some (.int _ n) => decide (n = 0) | _ => false
def isSlv : SV → Bool | .rv _ _ => true | .sl _ => true | .win _ _ _ => true | .nils => true | .e0 _ => true | _ => false
def zeroCut (x : SV) (lo hi mx : Option SV) : Bool := isSlv x && (match lo with | none => true | lo => isZ lo) && isZ hi && isZ mx
def bigOk (n : Int) (bytes : Nat) : Prop := n * (bytes : Int) ≤ 140737488355328 ∧ n ≤ 9223372036854775807
instance (n : Int) (b : Nat) : Decidable (bigOk n b) := inferInstanceAs (Decidable (_ ∧ _))
/-- A type whose values lie as t says, with zeros. -/
def elemX (E : TypeId) : Option (Ty × Nat) := match tyOf P 12 E, P.info? E with
  | some t, some i => (match i.zero with
    | some z => (match (svOf z).cells with
      | some cs => (match t.rd cs with
        | some _ => bif Nat.beq t.sz i.size && Nat.beq cs.length i.size then some (t, i.bytes) else none
        | none => none)
      | none => none)
    | none => none)
  | _, _ => none
def zeroD (E : TypeId) (t : Ty) : t.den := match zeroV P E with | some z => (match (svOf z).cells with | some cs => (t.rd cs).getD t.df | none => t.df) | none => t.df
def convX (s : St) (S D : TypeId) (x : SV) (K : SV → St → Option ρ) : Option ρ := match P.underlying S, P.underlying D, x with
  | some (.int _), some (.int k), .int _ n => K (.int k (k.wrap n)) s
  | some .string, some (.slice E), .str b => (match P.underlying E with
    | some (.int .u8) => if bigOk (b.size : Int) 1 then K (.sl s.n) (s.new (.buf (.int .u8) E (bytesOf b))) else none
    | _ => none)
  | some (.slice E), some .string, x => (match P.underlying E, dat s (.int .u8) x, x with
    | _, _, .str _ => none
    | some (.int .u8), some xs, _ => K (.str (strOf xs)) s
    | _, _, _ => none)
  | some (.slice E), some (.slice _), .sl h => (match P.underlying E, s.L.get h with
    | some (.int .u8), some (.buf (.int .u8) E' (_ :: _)) => bif Nat.beq S D && Nat.beq E' E then K (.sl h) s else none
    | _, _ => none)
  | _, _, _ => none
def bytesX (E : TypeId) : Nat := match P.info? E with | some i => i.bytes | none => 0
def isStr (y : SV) : Bool := match y with | .str _ => true | _ => false
def txOk (tx : TypeId) (y : SV) : Bool := match P.underlying tx with | some .string => isStr y | some (.slice _) => !isStr y | _ => false
def appX (s : St) (T tx : TypeId) (x y : SV) (K : SV → St → Option ρ) : Option ρ := match P.underlying T with
  | some (.slice E) => (match elemX P E with
    | some (t, b) => (match dat s t x, dat s t y with
      | some xs, some ys => bif txOk P tx y then (match x with
        | .e0 nn => bif s.c && ys.isEmpty then K (.e0 nn) s else if bigOk (ys.length : Int) b then K (.sl s.n) (s.new (.buf t E ys)) else none
        | .sl h => (match s.L.get h with
          | some (.buf _ E' _) => if E' = E ∧ bigOk ((xs.length : Int) + (ys.length : Int)) b then K (.sl s.n) ((s.upd h .dead).new (.buf t E (xs ++ ys))) else none
          | _ => none)
        | .nils => bif s.c && ys.isEmpty then K .nils s else if bigOk (ys.length : Int) b then K (.sl s.n) (s.new (.buf t E ys)) else none
        | _ => none) else none
      | _, _ => none)
    | none => none)
  | _ => none
def eqX (s : St) (T : TypeId) (x y : SV) : Option Bool := match x, y with
  | .bool a, .bool b => (match P.underlying T with | some .bool => some (decide (a = b)) | _ => none)
  | .str a, .str b => some (decide (a = b))
  | .agg a, .agg b => bif P.eqGuardType P.depth T then none else eqT P 100 T (.agg a) (.agg b)
  | .nilp, .nilp => (match P.underlying T with | some (.pointer _) => some true | _ => none)
  | .ptr _ _, .nilp => (match P.underlying T with | some (.pointer _) => some false | _ => none)
  | .el _ _ _ _, .nilp => (match P.underlying T with | some (.pointer _) => some false | _ => none)
  | .nils, .nils => (match P.underlying T with | some (.slice _) => some true | _ => none)
  | .sl h, .nils => (match P.underlying T, s.L.get h with | some (.slice _), some (.buf _ _ (_ :: _)) => some false | some (.slice _), some (.fz _ _ (_ :: _)) => some false | _, _ => none)
  | .rv _ (_ :: _), .nils => (match P.underlying T with | some (.slice _) => some false | _ => none)
  | .e0 true, .nils => (match P.underlying T with | some (.slice _) => some false | _ => none)
  | .bw _ _ _ _ _, .nils => (match P.underlying T with | some (.slice _) => some false | _ => none)
  | _, _ => none
def binX (s : St) (op : BinOp) (T : TypeId) (x y : SV) (K : SV → Option ρ) : Option ρ := match x, y with
  | .int k a, .int k' b => (match op with
    | .shl => if 0 ≤ b then K (.int k (shlI k a b)) else none
    | .shr => if 0 ≤ b then K (.int k (shrI k a b)) else none
    | op => if k = k' then arith op k a b K else none)
  | x, y => (match op with
    | .eql => (match eqX P s T x y with | some b => K (.bool b) | none => none)
    | .neq => (match eqX P s T x y with | some b => K (.bool (!b)) | none => none)
    | .add => (match x, y with | .str a, .str b => if ((a.size + b.size : Nat) : Int) ≤ 9223372036854775807 then K (.str (a ++ b)) else none | _, _ => none)
    | _ => none)
def buildX (T : TypeId) (parts : List (Nat × SV)) : Option (List SV) := match P.info? T, P.underlying T with
  | some it, some (.array _ E) => (match it.zero, P.info? E with
    | some z, some ie => (match (svOf z).cells with | some zs => fillX (fun i => some (i * ie.size, ie.size)) zs parts | none => none)
    | _, _ => none)
  | some it, some (.struct fs) => (match it.zero, fs.toList.mapM (fun f => (P.info? f.type).map fun i => (f.offset, i.size)) with
    | some z, some places => (match (svOf z).cells with | some zs => fillX (fun i => places.toArray[i]?) zs parts | none => none)
    | _, _ => none)
  | _, _ => none
def lenX (s : St) (T : TypeId) (x : SV) (K : SV → St → Option ρ) : Option ρ := match P.underlying T, x with
  | some .string, .str b => K (.int .i64 (b.size : Int)) s
  | some (.slice _), .rv _ xs => K (.int .i64 (xs.length : Int)) s
  | some (.slice _), .nils => K (.int .i64 0) s
  | some (.slice _), .e0 _ => K (.int .i64 0) s
  | some (.slice _), .sl h => (match s.L.get h with | some (.buf _ _ xs) => K (.int .i64 (xs.length : Int)) s | some (.fz _ _ xs) => K (.int .i64 (xs.length : Int)) s | _ => none)
  | some (.slice _), .win h _ n => (match s.L.get h with | some (.buf _ _ _) => K (.int .i64 n) s | some (.fz _ _ _) => K (.int .i64 n) s | _ => none)
  | some (.slice _), .bw _ _ _ n _ => K (.int .i64 (n : Int)) s
  | _, _ => none
def copyX (s : St) (T : TypeId) (x y : SV) (K : SV → St → Option ρ) : Option ρ := match P.underlying T with
  | some (.slice E) => (match tyOf P 12 E, szOf P E with
    | some t, some z => bif Nat.beq t.sz z then (match x, dat s t y with
      | .sl h, some ys => (match s.L.get h with
        | some (.buf t' E' xs) => if e : t' = t then K (.int .i64 (minI (ys.length : Int) (xs.length : Int))) (s.upd h (.buf t E' (over (e ▸ xs) 0 (ys.take xs.length)))) else none
        | _ => none)
      | .win h lo n, some ys => (match s.L.get h with
        | some (.buf t' E' xs) => if e : t' = t then K (.int .i64 (minI (ys.length : Int) n)) (s.upd h (.buf t E' (over (e ▸ xs) lo.toNat (ys.take n.toNat)))) else none
        | _ => none)
      | .bw h o t' n _, some ys => (match s.L.get h with
        | some (.blk T cs) => bif decide (t' = t) && Nat.ble (o + n * z) cs.length then K (.int .i64 (minI (ys.length : Int) (n : Int))) (s.upd h (.blk T (setL cs o ((ys.take n).flatMap t.rf)))) else none
        | _ => none)
      | .nils, some _ => K (.int .i64 0) s
      | .e0 _, some _ => K (.int .i64 0) s
      | _, _ => none) else none
    | _, _ => none)
  | _ => none
def clearX (s : St) (T : TypeId) (x : SV) (K : SV → St → Option ρ) : Option ρ := match P.underlying T, x with
  | some (.slice E), .sl h => (match s.L.get h with
    | some (.buf t E' xs) => (match elemX P E with | some (t', _) => bif decide (t' = t) then K (.tup []) (s.upd h (.buf t E' (List.replicate xs.length (zeroD P E t)))) else none | none => none)
    | _ => none)
  | _, _ => none
def builtX (s : St) (b : Builtin) (as : List Operand) (ts : List TypeId) (K : SV → St → Option ρ) : Option ρ := match b, as, ts with
  | .len, [x], [T] => lenX P s T (sev s x) K
  | .min, [x, y], _ => (match sev s x, sev s y with | .int k a, .int k' b => if k = k' then K (.int k (minI a b)) s else none | _, _ => none)
  | .max, [x, y], _ => (match sev s x, sev s y with | .int k a, .int k' b => if k = k' then K (.int k (maxI a b)) s else none | _, _ => none)
  | .append, [x, y], [T, tx] => appX P s T tx (sev s x) (sev s y) K
  | .copy, [x, y], [T, tx] => copyX P s T (sev s x) (sev s y) K
  | .clear, [x], [T] => clearX P s T (sev s x) K
  | _, _, _ => none
def opX (s : St) (o : Op) (K : SV → St → Option ρ) : Option ρ := match o with
  | .move x => K (sev s x) s
  | .assign x => K (sev s x) s
  | .nilCheck x => (match sev s x with | .ptr h o => K (.ptr h o) s | .el h z i o => K (.el h z i o) s | .er t xs i o => K (.er t xs i o) s | _ => none)
  | .pick c a b => (match sev s c with | .bool q => bif q then K (sev s a) s else K (sev s b) s | _ => none)
  | .alloc E => (match zeroV P E with | some z => (match (svOf z).cells with | some cs => bif cs.all SV.one then K (.ptr s.n 0) (s.new (.blk E cs)) else none | none => none) | none => none)
  | .box E v => (match (sev s v).cells with | some cs => bif cs.all SV.one then K (.ptr s.n 0) (s.new (.blk E cs)) else none | none => none)
  | .build T ps => (match buildX P T (ps.toList.map fun p => (p.1, sev s p.2)) with | some cs => K (.agg cs) s | none => none)
  | .buildSlice T len ps => (match P.underlying T with
    | some (.slice E) => (match elemX P E, zeroV P E with
      | some (t, _), some z => (match fillX (fun i => some (i * t.sz, t.sz)) (List.flatten (List.replicate len ((svOf z).cells.getD []))) (ps.toList.map fun p => (p.1, sev s p.2)) with
        | some cs => (match frzL s cs with
          | some (cs, s) => (match t.riN len cs with
            | some xs => bif Nat.ble (len * t.sz) 16777216 && Nat.ble len 16777216 && Nat.beq cs.length (len * t.sz) && Nat.beq xs.length len then (bif s.c && Nat.beq len 0 then K (.e0 true) s else K (.sl s.n) (s.new (.buf t E xs))) else none
            | none => none)
          | none => none)
        | none => none)
      | _, _ => none)
    | _ => none)
  | .load T a => ldX P s T (sev s a) fun v => K v s
  | .store T a v => stX P s T (sev s v) (sev s a) fun s => K .ud s
  | .binOp op T x y _ => binX P s op T (sev s x) (sev s y) fun v => K v s
  | .unOp .not _ x => (match sev s x with | .bool b => K (.bool (!b)) s | _ => none)
  | .unOp .neg _ x => (match sev s x with | .int k n => K (.int k (k.wrap (0 - n))) s | _ => none)
  | .unOp .xor _ x => (match sev s x with | .int k n => K (.int k (cplI k n)) s | _ => none)
  | .convert S D x => convX P s S D (sev s x) K
  | .makeFunc (.func f) first c => bif first.isEmpty then K (.fn f (c.toList.map (sev s))) s else none
  | .makeSlice T l c => (match P.underlying T, sev s l, sev s c with
    | some (.slice E), .int _ n, .int _ m => (match elemX P E with | some (t, b) => if n = m ∧ 0 ≤ n ∧ bigOk n b then (bif s.c && decide (n = 0) then K (.e0 true) s else K (.sl s.n) (s.new (.buf t E (List.replicate n.toNat (zeroD P E t))))) else none | none => none)
    | _, _, _ => none)
  | .slice T x lo hi mx => bif zeroCut (sev s x) (lo.map (sev s)) (hi.map (sev s)) (mx.map (sev s)) then (match P.underlying T with | some (.slice E) => (match szOf P E with | some _ => K (.e0 false) s | none => none) | _ => none) else sliceX P s T (sev s x) (lo.map (sev s)) (hi.map (sev s)) (mx.map (sev s)) fun v => K v s
  | .fieldAddr T x i => (match P.underlying T with
    | some (.struct fs) => (match fs[i]? with
      | some f => (match szOf P f.type with
        | some (_ + 1) => (match sev s x with | .ptr h o => K (.ptr h (o + f.offset)) s | .el h z j o => K (.el h z j (o + f.offset)) s | .er t xs j o => K (.er t xs j (o + f.offset)) s | _ => none)
        | _ => none)
      | none => none)
    | _ => none)
  | .field T x i => (match P.underlying T, sev s x with
    | some (.struct fs), .agg cs => (match fs[i]? with | some f => (match part P f.type cs f.offset with | some v => K v s | none => none) | none => none)
    | _, _ => none)
  | .indexAddr T x i => (match P.underlying T, sev s x, sev s i with
    | some (.slice E), .sl h, .int _ n => (match s.L.get h, szOf P E with
      | some (.buf t _ xs), some z => bif Nat.beq t.sz z then (if 0 ≤ n ∧ n < (xs.length : Int) then K (.el h z n 0) s else none) else none
      | some (.fz t _ xs), some z => bif Nat.beq t.sz z then (if 0 ≤ n ∧ n < (xs.length : Int) then K (.el h z n 0) s else none) else none
      | _, _ => none)
    | some (.slice E), .win h lo m, .int _ n => (match s.L.get h, szOf P E with
      | some (.buf t _ xs), some z => bif Nat.beq t.sz z then (if 0 ≤ n ∧ n < m then K (.el h z (lo + n) 0) s else none) else none
      | some (.fz t _ xs), some z => bif Nat.beq t.sz z then (if 0 ≤ n ∧ n < m then K (.el h z (lo + n) 0) s else none) else none
      | _, _ => none)
    | some (.slice E), .rv t xs, .int _ n => (match szOf P E with
      | some z => bif Nat.beq t.sz z then (if 0 ≤ n ∧ n < (xs.length : Int) then K (.er t xs n 0) s else none) else none
      | none => none)
    | some (.slice E), .bw h o t m c, .int _ n => (match szOf P E with
      | some z => bif Nat.beq t.sz z then (if 0 ≤ n ∧ n < (m : Int) then K (.ptr h (o + n.toNat * z)) s else none) else none
      | none => none)
    | some (.array m E), .ptr h o, .int _ n => (match szOf P E with | some z => if 0 ≤ n ∧ n < (m : Int) then K (.ptr h (o + n.toNat * z)) s else none | none => none)
    | some (.array m E), .er t xs j o, .int _ n => (match szOf P E with | some z => if 0 ≤ n ∧ n < (m : Int) then K (.er t xs j (o + n.toNat * z)) s else none | none => none)
    | some (.array m E), .el h q j o, .int _ n => (match szOf P E with | some z => if 0 ≤ n ∧ n < (m : Int) then K (.el h q j (o + n.toNat * z)) s else none | none => none)
    | _, _, _ => none)
  | .index T x i => (match P.underlying T, sev s x, sev s i with
    | some (.array m E), .agg cs, .int _ n => (match szOf P E with | some z => if 0 ≤ n ∧ n < (m : Int) then (match part P E cs (n.toNat * z) with | some v => K v s | none => none) else none | none => none)
    | some .string, .str b, .int _ n => if 0 ≤ n ∧ n < (b.size : Int) then K (.int .u8 (rd (bytesOf b) n)) s else none
    | _, _, _ => none)
  | .extract x i => (match sev s x with | .tup l => (match l[i]? with | some v => K v s | none => none) | _ => none)
  | .makeMap T none => (match P.underlying T with | some (.map _ _) => K (.mp s.n) (s.new (.mp [])) | _ => none)
  | .mapUpdate T m k v => (match P.underlying T, sev s m with
    | some (.map KT _), .mp h => (match s.L.get h with
      | some (.mp es) => bif (eqT P 100 KT (sev s k) (sev s k)).isSome && SV.val (sev s v) then (match putX P KT (sev s k) (sev s v) es with | some es' => K .ud (s.upd h (.mp es')) | none => none) else none
      | _ => none)
    | _, _ => none)
  | .lookup T m k ok => (match P.underlying T with
    | some (.map KT VT) => (match (match sev s m with | .mp h => (match s.L.get h with | some (.mp es) => some es | _ => none) | .nilm => some [] | _ => none) with
      | some es => bif (eqT P 100 KT (sev s k) (sev s k)).isSome then (match findX P KT (sev s k) es with
        | some (some v) => bif ok then K (.tup [v, .bool true]) s else K v s
        | some none => (match zeroV P VT with | some z => bif ok then K (.tup [svOf z, .bool false]) s else K (svOf z) s | none => none)
        | none => none) else none
      | none => none)
    | _ => none)
  | .range T x => (match P.underlying T, sev s x with
    | some (.map _ _), .mp h => (match s.L.get h with | some (.mp _) => K (.ptr s.n 0) (s.new (.it h)) | _ => none)
    | _, _ => none)
  | .next x false => (match sev s x with
    | .ptr g 0 => (match s.L.get g with | some (.it h) => (match s.L.get h with | some (.mp []) => K (.tup [.bool false]) s | _ => none) | _ => none)
    | _ => none)
  | .call { callee := .builtin b, args := as, argTypes := ts } => builtX P s b as.toList ts.toList K
  | _ => none

inductive Ex where | normal | ret | exit (id : Nat)
def resX (s : St) (r : ResultVar) : Option SV := match r with
  | .tmp t => s.env.get t
  | .cell a T => (match s.env.get a with | some (.ptr h o) => (match s.L.get h with | some (.blk _ cs) => part P T cs o | _ => none) | _ => none)
def argsE : Nat → List SV → Te SV → Te SV
  | _, [], t => t
  | i, v :: l, t => argsE (i + 1) l (t.set i v)
def guardX (ops : Array Oper) (s : St) (o : Oper) : Option Bool := match o.guard with
  | none => some true
  | some (j, want) => (match (ops[j]?).bind (·.dst) with
    | some d => bif Nat.blt d s.m then (match s.env.get d with | some (.bool b) => some (b == want) | some .ud => some false | _ => none) else none
    | none => none)
/-- Operations that only look. -/
def looks : Op → Bool
  | .move _ | .pick .. | .binOp .. | .unOp .. | .build .. | .load .. | .fieldAddr .. | .field .. | .indexAddr .. | .index .. | .extract .. | .nilCheck _ | .slice .. => true
  | .call { callee := .builtin .len, .. } | .call { callee := .builtin .min, .. } | .call { callee := .builtin .max, .. } => true
  | .convert _ D _ => (match P.underlying D with | some (.slice _) => false | _ => true)
  | _ => false
def regX (all : Array Oper) (call : FuncId → List SV → St → (SV → St → Option ρ) → Option ρ) (K : St → Option ρ) : List Oper → St → Option ρ
  | [], s => K s
  | o :: os, s => bif !(okDst o.dst s.m) then none else (match guardX all s o with
    | none => none
    | some b => bif b then (match o.op with
        | .call { callee := .value f, args := as, .. } => (match sev s f with
          | .fn f cs => call f (as.toList.map (sev s) ++ cs) s fun v s => regX all call K os (s.put o.dst v)
          | _ => none)
        | op => opX P s op fun v s => regX all call K os (s.put o.dst v)) else regX all call K os (s.put o.dst .ud))
def rdV : SV → List Nat
  | .ptr h _ => [h] | .el h _ _ _ => [h] | .sl h => [h] | .win h _ _ => [h] | .bw h _ _ _ _ => [h] | _ => []
def rdsOf (s : St) : Op → List Nat
  | .load _ a => rdV (sev s a)
  | .convert _ _ x => rdV (sev s x)
  | _ => []
/-- Whether what is read at a handle hangs on what is told alone. -/
def pinned (L : Tr At) (k : Nat) : Bool := match L.get k with
  | some (.buf t _ _) => t.flat
  | _ => true
/-- What lies ahead of each operation. -/
def anD (ops : Array Oper) : Array (List Nat) := ops.foldl (init := #[]) fun acc o =>
  acc.push (o.after.toList.foldl (init := []) fun s e => if Region.binds .any e then e.on :: (acc.getD e.on []).filter (fun i => !Nat.beq i e.on && !s.contains i) ++ s.filter (fun i => !Nat.beq i e.on) else s)
/-- Sets of numbers as bits; an operation of a region, as its plan sees it. -/
def bitsOf : List Nat → Nat | [] => 0 | k :: l => Nat.lor (Nat.pow 2 k) (bitsOf l)
def disj (a b : Nat) : Bool := Nat.beq (Nat.land a b) 0
def subM (a b : Nat) : Bool := Nat.beq (Nat.land a b) a
structure Dg where
  i : Nat
  B : Nat
  A : Nat
  D : Nat
  K : Nat
  lk : Bool
def dgAt (ops : Array Oper) (j : Nat) : Dg := match ops[j]? with
  | some o => ⟨j, Nat.pow 2 j, bitsOf ((o.after.toList.filter (Region.binds .any)).map (·.on)), (match o.dst with | some d => Nat.pow 2 d | none => 0), bitsOf (o.looksAt ops), looks P o.op⟩
  | none => ⟨j, Nat.pow 2 j, 0, 0, 0, false⟩
def dgs (ops : Array Oper) : List Dg := (List.range ops.size).map (dgAt P ops)
def rdyM (ds : List Dg) (m : Nat) : List Dg := ds.filter fun d => disj d.B m && subM d.A m
def freeM (ds : List Dg) (m : Nat) (d : Dg) : Bool := ds.all fun e => Nat.beq e.i d.i || !disj e.B m || !disj e.A d.B || (disj d.D e.K && disj d.D e.D && disj e.D d.K)
/-- Which operation when; true: ahead of its turn. -/
def planM (ds : List Dg) : Nat → Nat → Option (List (Nat × Bool))
  | 0, m => (match rdyM ds m with | [] => some [] | _ => none)
  | k + 1, m => match rdyM ds m with
    | [] => some []
    | r :: rs => (match (r :: rs).find? fun d => d.lk && freeM ds m d with
      | some d => (match planM ds k (Nat.lor m d.B) with | some p => some ((d.i, true) :: p) | none => none)
      | none => (match rs with
        | [] => (match planM ds k (Nat.lor m r.B) with | some p => some ((r.i, false) :: p) | none => none)
        | _ => none))
def planD (ops : Array Oper) : Option (List (Nat × Bool)) := bif Region.noSelect ops then planM (dgs P ops) ops.size 0 else none
/-- New memory that hangs on no other memory: a block or a slice, out of the operands' values. -/
def hf : SV → Bool | .int _ _ => true | .bool _ => true | .str _ => true | .nilp => true | .nils => true | .nilf => true | .nilm => true | .nili => true | _ => false
def cellB : SV → Bool | .int _ _ => true | .bool _ => true | .str _ => true | _ => false
def opnds : Op → List Operand | .box _ v => [v] | .buildSlice _ _ ps => ps.toList.map (·.2) | _ => []
def mkA (op : Op) (vals : List SV) : Option (Bool × At) := match op with
  | .alloc E => (match zeroV P E with | some z => (match (svOf z).cells with | some cs => bif cs.all SV.one && cs.all hf then some (true, .blk E cs) else none | none => none) | none => none)
  | .box E _ => (match vals with | [v] => (match v.cells with | some cs => bif cs.all SV.one && cs.all hf then some (true, .blk E cs) else none | none => none) | _ => none)
  | .buildSlice T len ps => (match P.underlying T with
    | some (.slice E) => (match elemX P E, zeroV P E with
      | some (t, _), some z => (match fillX (fun i => some (i * t.sz, t.sz)) (List.flatten (List.replicate len ((svOf z).cells.getD []))) ((ps.toList.map (·.1)).zip vals) with
        | some cs => bif cs.all cellB then (match t.riN len cs with
            | some xs => bif Nat.ble (len * t.sz) 16777216 && Nat.ble len 16777216 && Nat.beq cs.length (len * t.sz) && Nat.beq xs.length len && !Nat.beq len 0 then some (false, .buf t E xs) else none
            | none => none) else none
        | none => none)
      | _, _ => none)
    | _ => none)
  | _ => none
def hnd (b : Bool) (k : Nat) : SV := bif b then .ptr k 0 else .sl k
/-- A plan with one such operation that may come up ahead of its turn. -/
def rdy (ops : Array Oper) (l : Array Bool) : List Nat := Region.ready .any ops l
def looksB (ops : Array Oper) (i : Nat) : Bool := match ops[i]? with | some o => looks P o.op | none => false
def planE (ops : Array Oper) (an : Array (List Nat)) (D : List Nat) : Nat → Array Bool → Option (List (Nat × Bool))
  | 0, l => bif (rdy ops l).isEmpty then some [] else none
  | k + 1, l => match (rdy ops l).filter (fun i => !D.contains i) with
    | [] => (match rdy ops l with
      | [] => some []
      | r :: _ => (match planE ops an D k (l.setIfInBounds r true) with | some p => some ((r, false) :: p) | none => none))
    | r :: rs => (match (r :: rs).find? fun i => looksB P ops i && tkB ops an l i with
      | some i => (match planE ops an D k (l.setIfInBounds i true) with | some p => some ((i, true) :: p) | none => none)
      | none => (match rs with
        | [] => (match planE ops an D k (l.setIfInBounds r true) with | some p => some ((r, false) :: p) | none => none)
        | _ => none))
def tmpOf : Operand → Option Nat | .tmp t => some t | _ => none
/-- Operation i leaves alone what operation a reads and tells. -/
def offB (ops : Array Oper) (a i : Nat) : Bool := match ops[a]?, ops[i]? with
  | some oa, some oi => (match oi.dst with | some d => !(oa.dst == some d) && (opnds oa.op).all (fun x => !(tmpOf x == some d)) | none => true)
  | _, _ => false
/-- Those that came up ahead of their turn are listed too. -/
def laE (E : List Nat) (l : Array Bool) : Array Bool := match E with | [] => l | a :: E => (laE E l).setIfInBounds a true
def newAt (ops : Array Oper) (a : Nat) : Option Nat := match ops[a]? with
  | some ⟨some t, .alloc _, _, _, _, none⟩ => some t
  | some ⟨some t, .box _ _, _, _, _, none⟩ => some t
  | some ⟨some t, .buildSlice _ _ _, _, _, _, none⟩ => some t
  | _ => none
/-- Whether a plan stands, where those of D may come up ahead of their turn and those of E have. -/
def planG (ops : Array Oper) (an : Array (List Nat)) (D : List Nat) : Nat → List Nat → List (Nat × Bool) → Array Bool → Bool
  | 0, _, _, _ => false
  | _ + 1, E, [], l => E.isEmpty && (rdy ops l).isEmpty
  | f + 1, E, (i, tk) :: p, l => bif E.contains i then !tk && !l.getD i true && (E.erase i).all (fun a => offB ops a i) && planG ops an D f (E.erase i) p (l.setIfInBounds i true) else
    E.all (fun a => offB ops a i) && (bif tk then looksB P ops i && tkB ops an (laE E l) i
      else (rdy ops (laE E l)).contains i && (rdy ops (laE E l)).all (fun j => Nat.beq j i || (D.contains j && !E.contains j && (rdy ops l).contains j && E.all (fun a => offB ops a j) && planG ops an D f (j :: E) ((i, tk) :: p) l))) && planG ops an D f E p (l.setIfInBounds i true)
def planX (ops : Array Oper) (an : Array (List Nat)) : Option (List Nat × List (Nat × Bool)) :=
  let D := (List.range ops.size).filter fun a => (newAt ops a).isSome && (match ops[a]? with | some o => Nat.ble o.after.size 0 || (opnds o.op).length != 0 | none => false)
  match planE P ops an D ops.size (Array.replicate ops.size false) with
    | some p => bif planG P ops an D (2 * ops.size + 2) [] p (Array.replicate ops.size false) && Nat.ble p.length ops.size then some (D, p) else none
    | none => none
def unB (s : St) (t : Nat) : Bool := match s.env.get t with | some .un => true | _ => false
def peX (ops : Array Oper) (D : List Nat) (l : Array Bool) (s : St) (q : Bool) (R : List Nat) : Bool := D.all fun a => l.getD a true || !((rdy ops l).contains a) ||
  (match newAt ops a with | some t => unB s t && okDst (some t) s.m | none => false) && (match ops[a]? with | some o => (mkA P o.op ((opnds o.op).map (sev s))).isSome | none => false)
/-- Where such a one goes nothing is told ahead. -/
def unD (ops : Array Oper) : List Nat → St → St
  | [], s => s
  | a :: D, s => unD ops D (s.put (newAt ops a) .un)
def effX (call : FuncId → List SV → St → (SV → St → Option ρ) → Option ρ) (s : St) (o : Op) (K : SV → St → Option ρ) : Option ρ := match o with
  | .call { callee := .value f, args := as, .. } => (match sev s f with
    | .fn f cs => call f (as.toList.map (sev s) ++ cs) s K
    | _ => none)
  | op => opX P s op K
/-- What hangs on its operands alone. -/
def easy : Op → Bool | .move _ => true | .pick .. => true | .extract .. => true | _ => false
def regD (pe : Array Bool → St → Bool → List Nat → Bool) (all : Array Oper) (an : Array (List Nat)) (call : FuncId → List SV → St → (SV → St → Option ρ) → Option ρ) (K : St → Option ρ) : List (Nat × Bool) → Array Bool → List Nat → List Nat → Bool → St → Option ρ
  | [], _, _, _, _, s => K s
  | (i, tk) :: p, l, T, R, q, s => match all[i]? with
    | none => none
    | some o => bif !(okDst o.dst s.m) then none else (match guardX all s o with
      | none => none
      | some b => bif b then
          bif tk then (bif easy o.op && !need T an i then opX P s o.op fun v s' => regD pe all an call K p (l.setIfInBounds i true) T R q (s'.put o.dst v)
            else opX P s o.op fun v s' => regD pe all an call K p (l.setIfInBounds i true) (i :: T) (rdsOf s o.op ++ R) (q && (rdsOf s o.op).all (pinned s.L)) (s'.put o.dst v))
          else bif pe l s q R then effX P call { s with log := [] } o.op fun v s' =>
            bif q && R.all (fun k => Nat.blt k s.n && !(s'.log.any (Nat.beq k))) then regD pe all an call K p (l.setIfInBounds i true) T R q (St.put { s' with log := s'.log ++ s.log } o.dst v)
            else bif (bif looks P o.op then (List.range all.size).all (fun j => l.getD j true || !need T an j) else !need T an i) then regD pe all an call K p (l.setIfInBounds i true) [] [] true (St.put { s' with log := s'.log ++ s.log } o.dst v)
            else none else none
        else bif tk || pe l s q R then regD pe all an call K p (l.setIfInBounds i true) (bif tk && need T an i then i :: T else T) R q (s.put o.dst .ud) else none)
def callX (X : Code → St → (Ex → St → Option ρ) → Option ρ) (f : FuncId) (args : List SV) (s : St) (K : SV → St → Option ρ) : Option ρ := match P.funcs[f]? with
  | some fn => (match fn.body with
    | some body => bif Nat.ble args.length fn.ntmps && !(fn.name == "runtime.NumGoroutine") then X body { s with env := argsE 0 args .e, m := fn.ntmps } fun ex s' => (match ex with
      | .exit _ => none
      | _ => (match fn.results.toList with
        | [r] => (match resX P s' r with | some v => K v { s' with env := s.env, m := s.m } | none => none)
        | rs => (match rs.mapM (resX P s') with | some l => K (.tup l) { s' with env := s.env, m := s.m } | none => none))) else none
    | none => none)
  | none => none
end
/-- Calls whose result is told. -/
abbrev Ov := FuncId → List SV → St → Option (SV × St)
def noV : Ov := fun _ _ _ => none
def callV {ρ : Type} (ov : Ov) (call : FuncId → List SV → St → (SV → St → Option ρ) → Option ρ) (f : FuncId) (args : List SV) (s : St) (K : SV → St → Option ρ) : Option ρ := match ov f args s with
  | some (v, s') => K v s'
  | none => call f args s K
/-- The run. -/
def X (P : Program) (ov : Ov) : Nat → {ρ : Type} → Code → St → (Ex → St → Option ρ) → Option ρ
  | 0, _, _, _, _ => none
  | k + 1, ρ, c, s, K => match c with
    | .skip => K .normal s
    | .ret => K .ret s
    | .exit id => K (.exit id) s
    | .seq a b => X P ov k a s fun ex s => (match ex with | .normal => X P ov k b s K | ex => K ex s)
    | .cond c a b => (match sev s c with | .bool q => bif q then X P ov k a s K else X P ov k b s K | _ => none)
    | .block id b => X P ov k b s fun ex s => (match ex with | .exit i => bif Nat.beq i id then K .normal s else K ex s | ex => K ex s)
    | .loop b => X P ov k b s fun ex s => (match ex with | .normal => X P ov k (.loop b) s K | ex => K ex s)
    | .region _ ops dr => bif dr then (bif P.follows .mixedOrders then (match planD P ops with
        | some p => regD P (fun _ _ _ _ => true) ops (anD ops) (callV ov (callX P (fun c s K => X P ov k c s K))) (K .normal) p (Array.replicate ops.size false) [] [] true s
        | none => (match planX P ops (anD ops) with
          | some (D, p) => regD P (peX P ops D) ops (anD ops) (callV ov (callX P (fun c s K => X P ov k c s K))) (K .normal) p (Array.replicate ops.size false) [] [] true (unD ops D s)
          | none => none)) else none) else regX P ops (callV ov (callX P (fun c s K => X P ov k c s K))) (K .normal) ops.toList s
    | _ => none
def fin (_ : Ex) (s : St) : Option (Option SV) := some (s.env.get 0)
/-- A call of a function. -/
def runF (P : Program) (ov : Ov) (k f : Nat) (args : List SV) (L : Tr At) (n g : Nat) (c : Bool) : Option SV := callX P (fun c s K => X P ov k c s K) f args ⟨.e, L, n, g, 0, [], c⟩ fun v _ => some v
end Go.Proofs.YtkdakjjockfmdaaGreatDoor.XC

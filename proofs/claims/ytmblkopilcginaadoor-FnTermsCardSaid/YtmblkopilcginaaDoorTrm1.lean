/-
  laws.FnTerms: the card, by a typed machine over the code
-/
import Derived.Calls
import Derived.Orders
import Derived.Below
import Derived.KernelRfl
import Derived.Laws.Cells
import Derived.Laws.NewBlocks
import Derived.Laws.AppendOwn
import Derived.Laws.Small
import Derived.Laws.BytesArg
import Derived.Laws.Append
set_option linter.unusedVariables false
set_option linter.unusedSimpArgs false
set_option linter.unusedSectionVars false
namespace Go.Vm

/-- The code of a value of one cell. -/
inductive C where
  | int (k : IntKind)
  | bool
  | str
  | sl1 (c : C)
  | sl (row : List C)
  | kids (row : List C)

inductive Rose (α : Type) where
  | mk (a : α) (ks : List (Rose α))

def Rose.a {α : Type} : Rose α → α | .mk a _ => a
def Rose.ks {α : Type} : Rose α → List (Rose α) | .mk _ ks => ks

mutual
def C.I : C → Type
  | .int _ => Int
  | .bool => Bool
  | .str => ByteArray
  | .sl1 c => List c.I
  | .sl row => List (C.Is row)
  | .kids row => List (Rose (C.Is row))
def C.Is : List C → Type
  | [] => Unit
  | c :: r => c.I × C.Is r
end

/-- Data of one cell, untyped. -/
inductive U where
  | i (k : IntKind) (n : Int)
  | b (v : Bool)
  | s (v : ByteArray)
  | l (n : Nat) (cells : List U)

mutual
def roseU {α : Type} (f : α → List U) : Rose α → List U
  | .mk a ks => f a ++ [.l ks.length (rosesU f ks)]
def rosesU {α : Type} (f : α → List U) : List (Rose α) → List U
  | [] => []
  | x :: r => roseU f x ++ rosesU f r
end

mutual
def enc : (c : C) → c.I → U
  | .int k, (n : Int) => .i k n
  | .bool, (v : Bool) => .b v
  | .str, (v : ByteArray) => .s v
  | .sl1 c, (xs : List c.I) => .l xs.length (xs.map (enc c))
  | .sl row, (xs : List (C.Is row)) => .l xs.length (xs.flatMap (encs row))
  | .kids row, (xs : List (Rose (C.Is row))) => .l xs.length (rosesU (encs row) xs)
def encs : (r : List C) → C.Is r → List U
  | [], _ => []
  | c :: r, (x : c.I × C.Is r) => enc c x.1 :: encs r x.2
end

end Go.Vm

namespace Go.Vm

mutual
def C.beq : C → C → Bool
  | .int k, .int k' => k == k'
  | .bool, .bool => true
  | .str, .str => true
  | .sl1 c, .sl1 c' => C.beq c c'
  | .sl r, .sl r' => C.beqs r r'
  | .kids r, .kids r' => C.beqs r r'
  | _, _ => false
def C.beqs : List C → List C → Bool
  | [], [] => true
  | c :: r, c' :: r' => C.beq c c' && C.beqs r r'
  | _, _ => false
end

mutual
theorem C.beq_eq : ∀ {a b : C}, C.beq a b = true → a = b
  | .int k, b, h => by cases b <;> simp_all [C.beq]
  | .bool, b, h => by cases b <;> simp_all [C.beq]
  | .str, b, h => by cases b <;> simp_all [C.beq]
  | .sl1 c, b, h => by
    cases b <;> simp [C.beq] at h
    rw [C.beq_eq h]
  | .sl r, b, h => by
    cases b <;> simp [C.beq] at h
    rw [C.beqs_eq h]
  | .kids r, b, h => by
    cases b <;> simp [C.beq] at h
    rw [C.beqs_eq h]
theorem C.beqs_eq : ∀ {a b : List C}, C.beqs a b = true → a = b
  | [], b, h => by cases b <;> simp_all [C.beqs]
  | c :: r, b, h => by
    cases b <;> simp [C.beqs] at h
    rw [C.beq_eq h.1, C.beqs_eq h.2]
end

def castI {c c' : C} (h : C.beq c c' = true) (x : c.I) : c'.I := C.beq_eq h ▸ x

def cast? (c c' : C) (x : c.I) : Option c'.I := if h : C.beq c c' = true then some (castI h x) else none

mutual
def dflt : (c : C) → c.I
  | .int _ => (0 : Int)
  | .bool => false
  | .str => ByteArray.empty
  | .sl1 _ => []
  | .sl _ => []
  | .kids _ => []
def dflts : (r : List C) → C.Is r
  | [] => ()
  | c :: r => (dflt c, dflts r)
end

structure D where
  c : C
  x : c.I

def D.U (d : D) : U := enc d.c d.x

/-- What a closure has captured. -/
inductive CV where
  | d (c : C) (x : c.I)
  | ptr (b off : Nat)

/-- One cell of the machine as the evaluator sees it. -/
inductive V where
  | d (c : C) (x : c.I)
  | nils
  | ptr (b off : Nat)
  | ref (b : Nat)
  | ep (b i off : Nat)
  | dp (cells : List D)
  | da (c : C) (x : c.I)
  | clo (f : Nat) (caps : List CV)
  | undef
  | junk

inductive A0 where
  | one (x : V)
  | agg (xs : List V)

inductive A where
  | v (a : A0)
  | tup (xs : List A0)

inductive Blk where
  | box (cells : List V)
  | arr (c : C) (xs : c.I)
  | dead

def A.junk : A := .v (.one .junk)

structure St where
  regs : List (Nat × A)
  mem : List Blk

def St.getL : List (Nat × A) → Nat → A
  | [], _ => A.junk
  | (t, v) :: r, u => if t = u then v else St.getL r u

def St.get (s : St) (t : Nat) : A := St.getL s.regs t
def St.put (s : St) (t : Nat) (v : A) : St := { s with regs := (t, v) :: s.regs }
def St.put? (s : St) (t : Option Nat) (v : A) : St := match t with | some t => s.put t v | none => s

/-- Length of a slice's content. -/
def lenC : (c : C) → c.I → Nat
  | .sl1 _, (xs : List _) => xs.length
  | .sl _, (xs : List _) => xs.length
  | .kids _, (xs : List _) => xs.length
  | _, _ => 0

def isSl : C → Bool
  | .sl1 _ | .sl _ | .kids _ => true
  | _ => false

def rowOf : C → List C
  | .sl1 c => [c]
  | .sl r => r
  | .kids r => r ++ [.kids r]
  | _ => []

def dsOf : (r : List C) → C.Is r → List D
  | [], _ => []
  | c :: r, (x : c.I × C.Is r) => ⟨c, x.1⟩ :: dsOf r x.2

def dfltRose (r : List C) : Rose (C.Is r) := .mk (dflts r) []

/-- The cells of element 'i'. -/
def elemC : (c : C) → c.I → Nat → List D
  | .sl1 c, (xs : List c.I), i => [⟨c, xs.getD i (dflt c)⟩]
  | .sl r, (xs : List (C.Is r)), i => dsOf r (xs.getD i (dflts r))
  | .kids r, (xs : List (Rose (C.Is r))), i => dsOf r (xs.getD i (dfltRose r)).a ++ [⟨.kids r, (xs.getD i (dfltRose r)).ks⟩]
  | _, _, _ => []

def appC : (c : C) → c.I → c.I → c.I
  | .sl1 _, (xs : List _), (ys : List _) => xs ++ ys
  | .sl _, (xs : List _), (ys : List _) => xs ++ ys
  | .kids _, (xs : List _), (ys : List _) => xs ++ ys
  | _, x, _ => x

def subC : (c : C) → c.I → Nat → Nat → c.I
  | .sl1 _, (xs : List _), lo, hi => (xs.take hi).drop lo
  | .sl _, (xs : List _), lo, hi => (xs.take hi).drop lo
  | .kids _, (xs : List _), lo, hi => (xs.take hi).drop lo
  | _, x, _, _ => x

def replC : (c : C) → Nat → c.I
  | .sl1 c, n => List.replicate n (dflt c)
  | .sl r, n => List.replicate n (dflts r)
  | .kids r, n => List.replicate n (dfltRose r)
  | c, _ => dflt c

/-- A cell as data of a given code. -/
def asC (c : C) : V → Option c.I
  | .d c' x => cast? c' c x
  | .nils => if isSl c then some (dflt c) else none
  | _ => none

def asRow : (r : List C) → List V → Option (C.Is r)
  | [], [] => some ()
  | c :: r, v :: vs => match asC c v with
    | some x => match asRow r vs with
      | some y => some (x, y)
      | none => none
    | none => none
  | _, _ => none

/-- One element out of its cells. -/
def ofCells : (c : C) → List V → Option (c.I)
  | .sl1 c, [v] => match asC c v with | some x => some [x] | none => none
  | .sl r, vs => match asRow r vs with | some x => some [x] | none => none
  | .kids r, vs => match asRow r (vs.take r.length), vs.drop r.length with
    | some x, [v] => match asC (.kids r) v with | some ks => some [Rose.mk x ks] | none => none
    | _, _ => none
  | _, _ => none

/-- 'n' elements out of their cells, 'w' a piece. -/
def ofRows (c : C) (w : Nat) : Nat → List V → Option c.I
  | 0, [] => some (dflt c)
  | 0, _ => none
  | n + 1, vs => match ofCells c (vs.take w), ofRows c w n (vs.drop w) with
    | some x, some y => some (appC c x y)
    | _, _ => none

/-- Cells from 'off' on replaced. -/
def setRow : (r : List C) → C.Is r → Nat → List V → Option (C.Is r)
  | _, x, _, [] => some x
  | [], _, _, _ :: _ => none
  | c :: r, (x : c.I × C.Is r), 0, v :: vs => match asC c v with
    | some y => match setRow r x.2 0 vs with
      | some z => some (y, z)
      | none => none
    | none => none
  | _ :: r, (x : _ × C.Is r), off + 1, v :: vs => match setRow r x.2 off (v :: vs) with
    | some z => some (x.1, z)
    | none => none

def setElem : (c : C) → c.I → Nat → Nat → List V → Option c.I
  | .sl1 c, (xs : List c.I), i, 0, [v] => match asC c v with | some y => some (xs.set i y) | none => none
  | .sl r, (xs : List (C.Is r)), i, off, v :: vs => match setRow r (xs.getD i (dflts r)) off (v :: vs) with | some y => some (xs.set i y) | none => none
  | _, _, _, _, _ => none

inductive TK where
  | other
  | strct (fs : List (Nat × Nat))
  | arr (n elem : Nat)
  | slc (elem : Nat)
  | str
  | bool
  | int (k : IntKind)

/-- What the evaluator knows of a type: cells, bytes, is it a struct or an array, the codes of its cells. -/
structure TI where
  size : Nat
  bytes : Nat
  agg : Bool
  cells : List C
  kind : TK

abbrev Cont (R : Type) := A → List Blk → Option R
abbrev Hnd := ∀ R : Type, List A0 → List Blk → Cont R → Option R

/-- The order of a region that draws: a number; does it load out of a box (1) or of what was frozen ahead of the region (2); which new blocks may come early. -/
abbrev Sched := List (Nat × Nat × List Nat)

structure Env where
  T : List (Option TI)
  call : Nat → Option Hnd
  alias : Nat → Bool
  glob : Nat → V
  sched : Nat → Option Sched
  live : Nat → List Nat
  keep : Nat
  n : Nat
  calm : Nat → Bool

def Env.ti (E : Env) (t : Nat) : Option TI := match E.T[t]? with | some (some i) => some i | _ => none

def constA : Value → A
  | .int k n => .v (.one (.d (.int k) n))
  | .bool b => .v (.one (.d .bool b))
  | .string s => .v (.one (.d .str s))
  | .slice none 0 0 => .v (.one .nils)
  | _ => A.junk

def Env.eval (E : Env) (s : St) : Operand → A
  | .tmp t => s.get t
  | .const v => constA v
  | .global g => .v (.one (E.glob g))
  | .func f => .v (.one (.clo f []))

def zeroV (c : C) : V := if isSl c then .nils else .d c (dflt c)

def A0.cells : A0 → List V
  | .one x => [x]
  | .agg xs => xs
/-- Of this cell something is known. -/
def goodV (mem : List Blk) : V → Bool
  | .junk => false
  | .undef => false
  | .dp [] => false
  | .ref b => match mem[b]? with | some (.arr _ _) => true | _ => false
  | .ep b _ _ => match mem[b]? with | some (.arr _ _) => true | _ => false
  | _ => true
def A0.plain (mem : List Blk) : A0 → Bool
  | .one x => goodV mem x
  | .agg _ => true

def fillV (cells : List V) (off : Nat) : List V → List V
  | [] => cells
  | v :: vs => fillV (cells.set off v) (off + 1) vs

def cellsAt (mem : List Blk) : V → Nat → Option (List V)
  | .ptr b off, n => match mem[b]? with
    | some (.box cs) => if off + n ≤ cs.length then some ((cs.drop off).take n) else none
    | _ => none
  | .ep b i off, n => match mem[b]? with
    | some (.arr c xs) => if off + n ≤ (rowOf c).length then some ((((elemC c xs i).drop off).take n).map fun d => V.d d.c d.x) else none
    | _ => none
  | .dp cs, n => if n ≤ cs.length then some ((cs.take n).map fun d => V.d d.c d.x) else none
  | _, _ => none

/-- The content of a slice. -/
def slOf (mem : List Blk) : V → Option D
  | .d c x => if isSl c then some ⟨c, x⟩ else none
  | .ref b => match mem[b]? with | some (.arr c xs) => some ⟨c, xs⟩ | _ => none
  | _ => none

def shiftP (mem : List Blk) (v : V) (n : Nat) : Option V := match v with
  | .ptr b off => some (.ptr b (off + n))
  | .ep b i off => match mem[b]? with
    | some (.arr _ _) => some (.ep b i (off + n))
    | _ => none
  | .dp (d :: ds) => some (.dp ((d :: ds).drop n))
  | _ => none

/-- The text that bytes make. -/
def ofBytes (xs : List Int) : ByteArray := ⟨(xs.map fun n => UInt8.ofNat n.toNat).toArray⟩
def strU (s : ByteArray) : List UInt8 := s.data.toList
def bt (s : ByteArray) (i : Int) : Int := ((strU s).getD i.toNat 0).toNat

/-- A binary operation; 'tb': the operands' type is a bool. -/
def vbin {R : Type} (tb : Bool) (op : BinOp) (x y : V) (K : V → Option R) : Option R :=
  match x, y with
  | .d (.int k) (a : Int), .d (.int k') (b : Int) => match op with
      | .shr => if b < 0 then none else K (.d (.int k) (a.fdiv ((2 : Int) ^ (min b.toNat k.bits))))
      | op => if k = k' then match op with
        | .add => K (.d (.int k) (k.wrap (a + b)))
        | .sub => K (.d (.int k) (k.wrap (a - b)))
        | .mul => K (.d (.int k) (k.wrap (a * b)))
        | .quo => if b = 0 then none else K (.d (.int k) (k.wrap (a.tdiv b)))
        | .rem => if b = 0 then none else K (.d (.int k) (a.tmod b))
        | .eql => K (.d .bool (a == b))
        | .neq => K (.d .bool (a != b))
        | .lss => K (.d .bool (decide (a < b)))
        | .leq => K (.d .bool (decide (a ≤ b)))
        | .gtr => K (.d .bool (decide (a > b)))
        | .geq => K (.d .bool (decide (a ≥ b)))
        | .and => K (.d (.int k) (bits .and k a b))
        | _ => none
      else none
  | .d .str (a : ByteArray), .d .str (b : ByteArray) => match op with
      | .add => if a.size + b.size ≤ 9223372036854775807 then K (.d .str (a ++ b)) else none
      | .eql => K (.d .bool (a.toList == b.toList))
      | .neq => K (.d .bool (!(a.toList == b.toList)))
      | .lss => K (.d .bool (Op.bytesLess a.toList b.toList))
      | .leq => K (.d .bool (Op.bytesLess a.toList b.toList || a.toList == b.toList))
      | .gtr => K (.d .bool (!(Op.bytesLess a.toList b.toList || a.toList == b.toList)))
      | .geq => K (.d .bool (!(Op.bytesLess a.toList b.toList)))
      | _ => none
  | .d .bool (a : Bool), .d .bool (b : Bool) => if tb then match op with
      | .eql => K (.d .bool (a == b))
      | .neq => K (.d .bool (!(a == b)))
      | _ => none
    else none
  | _, _ => none

/-- 'ref b' becomes data everywhere. -/
def fzV (b : Nat) (d : D) : V → V
  | .ref b' => if b' = b then .d d.c d.x else .ref b'
  | .ep b' i off => if b' = b then .junk else .ep b' i off
  | v => v
def fzA0 (b : Nat) (d : D) : A0 → A0
  | .one x => .one (fzV b d x)
  | .agg xs => .agg (xs.map (fzV b d))
def fzA (b : Nat) (d : D) : A → A
  | .v a => .v (fzA0 b d a)
  | .tup xs => .tup (xs.map (fzA0 b d))
def fzBlk (b : Nat) (d : D) : Blk → Blk
  | .box cs => .box (cs.map (fzV b d))
  | k => k
def St.fz (s : St) (b : Nat) : St := match s.mem[b]? with
  | some (.arr c xs) => { regs := s.regs.map fun (t, a) => (t, fzA b ⟨c, xs⟩ a), mem := (s.mem.map (fzBlk b ⟨c, xs⟩)).set b .dead }
  | _ => s
/-- The first 'ref' among cells. -/
def refIn : List V → Option Nat
  | [] => none
  | .ref b :: _ => some b
  | _ :: r => refIn r
def A.allCells : A → List V
  | .v a => a.cells
  | .tup xs => xs.flatMap A0.cells
/-- All that an operand refers to becomes data. -/
def St.fzO (E : Env) (x : Operand) : Nat → St → St
  | 0, s => s
  | n + 1, s => match refIn (E.eval s x).allCells with
    | some b => St.fzO E x n (s.fz b)
    | none => s
def St.fzOs (E : Env) : List Operand → St → St
  | [], s => s
  | x :: r, s => St.fzOs E r (s.fzO E x 8)

/-- Operands that are turned into data ahead of an operation. -/
def frozenOps (E : Env) : Op → List Operand
  | .buildSlice _ _ parts => parts.toList.map (·.2)
  | .slice _ x _ _ _ => [x]
  | .convert _ _ x => [x]
  | .call c => match c.callee with
    | .value (.func f) => if E.alias f then c.args.toList else []
    | _ => []
  | _ => []

def sliceBnd (o : Option A) (dfl : Int) : Option Int := match o with
  | none => some dfl
  | some (.v (.one (.d (.int _) (n : Int)))) => some n
  | _ => none

/-- Type 't' is a slice whose elements have the width of 'c'. -/
def Env.wide (E : Env) (t : Nat) (c : C) : Bool := match E.ti t with
  | some ⟨_, _, _, _, .slc e⟩ => match E.ti e with
    | some ei => ei.size == (rowOf c).length
    | none => false
  | _ => false
/-- Type 't' is an array of 'n' elements of the width of 'c'. -/
def Env.wideA (E : Env) (t : Nat) (c : C) (n : Nat) : Bool := match E.ti t with
  | some ⟨_, _, _, _, .arr m e⟩ => match E.ti e with
    | some ei => ei.size == (rowOf c).length && m == n && isSl c
    | none => false
  | _ => false

def Env.isStr (E : Env) (t : Nat) : Bool := match E.ti t with
  | some ⟨_, _, _, _, .str⟩ => true
  | _ => false
def Env.isSlc (E : Env) (t : Nat) : Bool := match E.ti t with
  | some ⟨_, _, _, _, .slc _⟩ => true
  | _ => false
def Env.isBytes (E : Env) (t : Nat) : Bool := match E.ti t with
  | some ⟨_, _, _, _, .slc e⟩ => match E.ti e with
    | some ⟨_, _, _, _, .int .u8⟩ => true
    | _ => false
  | _ => false
def Env.isBool (E : Env) (t : Nat) : Bool := match E.ti t with
  | some ⟨_, _, _, _, .bool⟩ => true
  | _ => false

def noJunk (mem : List Blk) : List V → Bool
  | [] => true
  | v :: r => goodV mem v && noJunk mem r

section
variable {R : Type} (E : Env)

def K1 (K : Cont R) (mem : List Blk) (v : V) : Option R := K (.v (.one v)) mem

def idx (n : Nat) (i : Int) (K : Option R) : Option R := if 0 ≤ i then (if i < (n : Int) then K else none) else none

def vlen (types : Array TypeId) (args : List A) (mem : List Blk) (K : Cont R) : Option R :=
  match args with
  | [.v (.one x)] => match types[0]? with
    | none => none
    | some t => match x with
      | .d .str (s : ByteArray) => if E.isStr t then K1 K mem (.d (.int .i64) (s.size : Int)) else none
      | .nils => if E.isSlc t then K1 K mem (.d (.int .i64) (0 : Int)) else none
      | x => match slOf mem x with
        | some ⟨c, xs⟩ => if E.isSlc t then K1 K mem (.d (.int .i64) (lenC c xs : Int)) else none
        | none => none
  | _ => none

/-- What is appended, as data of the code 'c'. -/
def srcOf (mem : List Blk) (c : C) : V → Option c.I
  | .nils => some (dflt c)
  | y => match slOf mem y with
    | some ⟨c', ys⟩ => cast? c' c ys
    | none => none

def vappend (types : Array TypeId) (args : List A) (mem : List Blk) (K : Cont R) : Option R :=
  match args with
  | [.v (.one x), .v (.one y)] => match types[0]?, types[1]? with
    | some t, some t' => match E.ti t with
      | some ⟨_, _, _, [c], .slc e⟩ => match E.ti e with
        | some ei => match srcOf mem c y with
          | none => none
          | some ys => if t' == t && ei.size != 0 && ei.bytes != 0 then match x with
            | .nils => if lenC c ys * ei.bytes ≤ 2 ^ 47 then K1 K (mem ++ [.arr c ys]) (.ref mem.length) else none
            | .ref b => match mem[b]? with
              | some (.arr c' xs) => match cast? c' c xs with
                | some xs => if (lenC c xs + lenC c ys) * ei.bytes ≤ 2 ^ 47 then K1 K (mem.set b .dead ++ [.arr c (appC c xs ys)]) (.ref mem.length) else none
                | none => none
              | _ => none
            | _ => none
            else none
        | none => none
      | _ => none
    | _, _ => none
  | _ => none

def vbuiltin (b : Builtin) (types : Array TypeId) (args : List A) (mem : List Blk) (K : Cont R) : Option R :=
  match b with
  | .len => vlen E types args mem K
  | .append => vappend E types args mem K
  | _ => none

/-- A struct's cells out of its parts. -/
def vbuild (s : St) (fs : List (Nat × Nat)) : List (Nat × Operand) → List V → Option (List V)
  | [], cells => some cells
  | (i, x) :: r, cells => match fs[i]?, E.eval s x with
    | some (off, ft), .v a => match E.ti ft with
      | some fi => if fi.size == a.cells.length && Nat.ble (off + fi.size) cells.length && a.plain s.mem then vbuild s fs r (fillV cells off a.cells) else none
      | none => none
    | _, _ => none

/-- The cells of a row out of its elements, each in its place. -/
def vparts (s : St) (w : Nat) : List (Nat × Operand) → Nat → List V → Option (List V)
  | [], _, acc => some acc
  | (i, x) :: r, n, acc => match E.eval s x with
    | .v a => if i == n && a.cells.length == w && a.plain s.mem then vparts s w r (n + 1) (acc ++ a.cells) else none
    | _ => none

def vargs (s : St) : List Operand → Option (List A0)
  | [] => some []
  | x :: r => match E.eval s x, vargs s r with
    | .v a, some l => some (a :: l)
    | _, _ => none

/-- What a closure captures. -/
def vcaps (s : St) : List Operand → Option (List CV)
  | [] => some []
  | x :: r => match E.eval s x, vcaps s r with
    | .v (.one (.ptr b off)), some l => some (.ptr b off :: l)
    | _, _ => none

/-- What a closure hands on. -/
def capArgs : List CV → List A0
  | [] => []
  | .d c x :: r => .one (.d c x) :: capArgs r
  | .ptr b off :: r => .one (.ptr b off) :: capArgs r

def vop (o : Op) (s : St) (K : Cont R) : Option R :=
  let ev := E.eval s
  match o with
  | .move x | .assign x => K (ev x) s.mem
  | .pick c a b => match ev c with
    | .v (.one (.d .bool (v : Bool))) => if v then K (ev a) s.mem else K (ev b) s.mem
    | _ => none
  | .box _ x => match ev x with
    | .v a => if a.plain s.mem then K1 K (s.mem ++ [.box a.cells]) (.ptr s.mem.length 0) else none
    | _ => none
  | .alloc t => match E.ti t with
    | some i => if i.cells.length == i.size && i.size != 0 then K1 K (s.mem ++ [.box (i.cells.map zeroV)]) (.ptr s.mem.length 0) else none
    | none => none
  | .build t parts => match E.ti t with
    | some ⟨_, _, true, c0 :: cs, .strct fs⟩ =>
      match vbuild E s fs parts.toList ((c0 :: cs).map zeroV) with
      | some cells => K (.v (.agg cells)) s.mem
      | none => none
    | _ => none
  | .buildSlice t len parts => match E.ti t with
    | some ⟨_, _, _, [c], .slc e⟩ => match E.ti e with
      | some ei =>
        match vparts E s ei.size parts.toList 0 [] with
        | some cells => if parts.toList.length == len && Nat.ble (len * ei.size) 16777216 && ei.size != 0 then match ofRows c ei.size len cells with
          | some xs => K1 K (s.mem ++ [.arr c xs]) (.ref s.mem.length)
          | none => none
          else none
        | none => none
      | none => none
    | _ => none
  | .load t x => match E.ti t, ev x with
    | some i, .v (.one p) => if i.size == 0 then none else match cellsAt s.mem p i.size with
      | some cs => if i.agg then K (.v (.agg cs)) s.mem else match cs with
        | [v] => K1 K s.mem v
        | _ => none
      | none => none
    | _, _ => none
  | .store t x y => match E.ti t, ev x, ev y with
    | some ti, .v (.one (.ptr b off)), .v a => match s.mem[b]? with
      | some (.box cs) => if noJunk s.mem a.cells && a.cells.length == ti.size && Nat.ble (off + a.cells.length) cs.length then K A.junk (s.mem.set b (.box (fillV cs off a.cells))) else none
      | _ => none
    | some ti, .v (.one (.ep b i off)), .v a => match s.mem[b]? with
      | some (.arr c xs) => if noJunk s.mem a.cells && a.cells.length == ti.size then (match setElem c xs i off a.cells with
        | some ys => K A.junk (s.mem.set b (.arr c ys))
        | none => none) else none
      | _ => none
    | _, _, _ => none
  | .nilCheck x => match ev x with
    | .v (.one (.ptr b off)) => K1 K s.mem (.ptr b off)
    | .v (.one (.ep b i off)) => match s.mem[b]? with
      | some (.arr _ _) => K1 K s.mem (.ep b i off)
      | _ => none
    | .v (.one (.dp (d :: ds))) => K1 K s.mem (.dp (d :: ds))
    | .v (.one (.da c x)) => K1 K s.mem (.da c x)
    | _ => none
  | .binOp op t x y _ => match ev x, ev y with
    | .v (.one a), .v (.one b) => vbin (E.isBool t) op a b (K1 K s.mem)
    | _, _ => none
  | .unOp op _ x => match op, ev x with
    | .not, .v (.one (.d .bool (v : Bool))) => K1 K s.mem (.d .bool (!v))
    | .neg, .v (.one (.d (.int k) (n : Int))) => K1 K s.mem (.d (.int k) (k.wrap (0 - n)))
    | _, _ => none
  | .convert src dst x => match E.ti src, E.ti dst, ev x with
    | some _, some ⟨_, _, _, _, .int k⟩, .v (.one (.d (.int _) (n : Int))) => K1 K s.mem (.d (.int k) (k.wrap n))
    | some _, some ⟨_, _, _, _, .str⟩, .v (.one (.d (.sl1 (.int .u8)) (xs : List Int))) => if E.isBytes src then K1 K s.mem (.d .str (ofBytes xs)) else none
    | _, _, _ => none
  | .makeFunc (.func f) first captured => if first.isEmpty then match vcaps E s captured.toList with
    | some caps => K1 K s.mem (.clo f caps)
    | none => none
    else none
  | .makeSlice t l c => match E.ti t, ev l, ev c with
    | some ⟨_, _, _, [co], .slc e⟩, .v (.one (.d (.int _) (n : Int))), .v (.one (.d (.int _) (m : Int))) => match E.ti e with
      | some ei => if ei.bytes != 0 && ei.size != 0 && C.beqs ei.cells (rowOf co) then (if 0 ≤ n then (if n ≤ m then (if m.toNat * ei.bytes ≤ 2 ^ 47 then K1 K (s.mem ++ [.arr co (replC co n.toNat)]) (.ref s.mem.length) else none) else none) else none) else none
      | none => none
    | _, _, _ => none
  | .slice t x lo hi none => match ev x with
    | .v (.one (.d .str (b : ByteArray))) => match sliceBnd (lo.map ev) 0, sliceBnd (hi.map ev) b.size with
      | some l, some h => if E.isStr t then if 0 ≤ l then (if l ≤ h then (if h ≤ (b.size : Int) then K1 K s.mem (.d .str (b.extract l.toNat h.toNat)) else none) else none) else none else none
      | _, _ => none
    | .v (.one (.d c x)) => match sliceBnd (lo.map ev) 0, sliceBnd (hi.map ev) (lenC c x) with
      | some l, some h => if isSl c && E.wide t c then (if 0 ≤ l then (if l ≤ h then (if h ≤ (lenC c x : Int) then K1 K s.mem (.d c (subC c x l.toNat h.toNat)) else none) else none) else none) else none
      | _, _ => none
    | .v (.one (.da c x)) => match sliceBnd (lo.map ev) 0, sliceBnd (hi.map ev) (lenC c x) with
      | some l, some h => if E.wideA t c (lenC c x) then (if 0 ≤ l then (if l ≤ h then (if h ≤ (lenC c x : Int) then K1 K s.mem (.d c (subC c x l.toNat h.toNat)) else none) else none) else none) else none
      | _, _ => none
    | _ => none
  | .fieldAddr t x f => match E.ti t, ev x with
    | some ⟨_, _, _, _, .strct fs⟩, .v (.one p) => match fs[f]? with
      | some (off, _) => match shiftP s.mem p off with
        | some q => K1 K s.mem q
        | none => none
      | none => none
    | _, _ => none
  | .field t x f => match E.ti t, ev x with
    | some ⟨_, _, _, _, .strct fs⟩, .v (.agg cs) => match fs[f]? with
      | some (off, ft) => match E.ti ft with
        | some fi => if fi.agg then K (.v (.agg ((cs.drop off).take fi.size))) s.mem else match cs[off]? with
          | some v => K1 K s.mem v
          | none => none
        | none => none
      | none => none
    | _, _ => none
  | .indexAddr t x i => match ev x, ev i with
    | .v (.one (.d c x)), .v (.one (.d (.int _) (n : Int))) => if isSl c && E.wide t c then idx (lenC c x) n (K1 K s.mem (.dp (elemC c x n.toNat))) else none
    | .v (.one (.da c x)), .v (.one (.d (.int _) (n : Int))) => if E.wideA t c (lenC c x) then idx (lenC c x) n (K1 K s.mem (.dp (elemC c x n.toNat))) else none
    | .v (.one (.ref b)), .v (.one (.d (.int _) (n : Int))) => match s.mem[b]? with
      | some (.arr c xs) => if E.wide t c then idx (lenC c xs) n (K1 K s.mem (.ep b n.toNat 0)) else none
      | _ => none
    | _, _ => none
  | .index t x i => match ev x, ev i with
    | .v (.one (.d .str (b : ByteArray))), .v (.one (.d (.int _) (n : Int))) => if E.isStr t then idx b.size n (K1 K s.mem (.d (.int .u8) (bt b n))) else none
    | _, _ => none
  | .extract x i => match ev x with
    | .tup xs => match xs[i]? with
      | some a => K (.v a) s.mem
      | none => none
    | _ => none
  | .call c => match c.callee with
    | .builtin b => vbuiltin E b c.argTypes (c.args.toList.map ev) s.mem K
    | .value (.func f) =>
      match E.call f, vargs E s c.args.toList with
      | some h, some args => h R args s.mem K
      | _, _ => none
    | .value (.tmp t) => match s.get t with
      | .v (.one (.clo f caps)) => match E.call f, vargs E s c.args.toList with
        | some h, some args => h R (args ++ capArgs caps) s.mem K
        | _, _ => none
      | _ => none
    | _ => none
  | _ => none

inductive Ex where
  | normal
  | exit (id : Nat)
  | ret

abbrev Kt (R : Type) := Ex → St → Option R

def guardHere (ops : List Oper) (i : Nat) : Bool := ops.any fun o => match o.guard with | some (j, _) => j == i | none => false

def boolOf : A → Option Bool
  | .v (.one (.d .bool (v : Bool))) => some v
  | _ => none

def litB (b : Bool) : A := .v (.one (.d .bool b))

/-- The value goes to its slot; a bool that guards others is parted on. -/
def land (split : Bool) (dst : Option Nat) (s : St) (K : St → Option R) (v : A) (mem : List Blk) : Option R :=
  let s' : St := { s with mem }
  if split then match boolOf v with
    | some b => if b then K (s'.put? dst (litB true)) else K (s'.put? dst (litB false))
    | none => K (s'.put? dst v)
  else K (s'.put? dst v)

def wantedV (ops : List Oper) (o : Oper) (s : St) : Option Bool :=
  match o.guard with
  | none => some true
  | some (j, want) => match (ops[j]?).bind (·.dst) with
    | some t => match s.get t with
      | .v (.one .undef) => some false
      | x => match boolOf x with
        | some b => some (b == want)
        | none => none
    | none => none

def dstOk (o : Oper) : Bool := match o.dst with
  | some d => Nat.blt d E.n && (match o.op with | .store .. => false | _ => true)
  | none => true

def vops (ops : List Oper) : List Nat → St → (St → Option R) → Option R
  | [], s, K => K s
  | i :: l, s, K => match ops[i]? with
    | none => none
    | some o => if dstOk E o then match wantedV ops o s with
      | none => none
      | some b => if b then
          let s := s.fzOs E (frozenOps E o.op)
          vop E o.op s (land (guardHere ops i) o.dst s fun s' => vops ops l s' K)
        else vops ops l (s.put? o.dst (.v (.one .undef))) K
      else none

def junkAll (ops : List Oper) : List Nat → St → St
  | [], s => s
  | k :: r, s => junkAll ops r (s.put? ((ops[k]?).bind (·.dst)) A.junk)

def boxOK (s0 : St) (ops : List Oper) (s : St) (i m : Nat) : Bool := match ops[i]? with
  | some o => match o.op with
    | .load _ x => if m != 2 then match E.eval s x with
        | .v (.one (.ptr b _)) => match s0.mem[b]? with
          | some (.box _) => m == 1 || (match s0.get (m - 3) with
            | .v (.one (.ptr b' _)) => b' == b && Nat.ble 3 m
            | _ => false)
          | _ => false
        | _ => false
      else match x with
        | .tmp t => match s0.get t with
          | .v (.one (.dp (_ :: _))) => ops.all fun o => o.dst != some t
          | _ => false
        | _ => false
    | _ => false
  | none => false

/-- The cells of a box that is data. -/
def dsV : List V → Option (List D)
  | [] => some []
  | .d c x :: r => match dsV r with
    | some l => some (⟨c, x⟩ :: l)
    | none => none
  | _ => none
def fzPV (b : Nat) (ds : List D) : V → V
  | .ptr b' off => if b' = b then .dp (ds.drop off) else .ptr b' off
  | v => v
def A0.mapV (f : V → V) : A0 → A0
  | .one x => .one (f x)
  | .agg xs => .agg (xs.map f)
def A.mapV (f : V → V) : A → A
  | .v a => .v (a.mapV f)
  | .tup xs => .tup (xs.map (A0.mapV f))
def Blk.mapV (f : V → V) : Blk → Blk
  | .box cs => .box (cs.map f)
  | k => k
/-- A box becomes data. -/
def St.fzBox (s : St) (b : Nat) : St := match s.mem[b]? with
  | some (.box cs) => match dsV cs with
    | some ds => { regs := s.regs.map fun x => (x.1, x.2.mapV (fzPV b ds)), mem := (s.mem.map (Blk.mapV (fzPV b ds))).set b .dead }
    | none => s
  | _ => s
/-- What a box holds becomes data. -/
def St.fzIn (b : Nat) : Nat → St → St
  | 0, s => s
  | n + 1, s => match s.mem[b]? with
    | some (.box cs) => match refIn cs with
      | some b' => St.fzIn b n (s.fz b')
      | none => s
    | _ => s
/-- The boxes that a region loads from first become data ahead of it. -/
def frz (ops : List Oper) : Sched → St → St
  | [], s => s
  | (i, m, _) :: l, s => frz ops l (if m == 2 then match ops[i]? with
    | some o => match o.op with
      | .load _ x => match E.eval s x with
        | .v (.one (.ptr b _)) => (St.fzIn b 8 s).fzBox b
        | _ => s
      | _ => s
    | none => s
    else s)

/-- Number 'k' can make its new block now. -/
def newOK (ops : List Oper) (s : St) (k : Nat) : Bool := match ops[k]? with
  | some o => o.guard.isNone && dstOk E o && o.dst.isSome && (vop E o.op (s.fzOs E (frozenOps E o.op)) fun _ _ => some ()).isSome
  | none => false

/-- The blocks that cells refer to. -/
def capBlks : List CV → List Nat
  | [] => []
  | .ptr b _ :: r => b :: capBlks r
  | _ :: r => capBlks r

def blksOf : List V → List Nat
  | [] => []
  | .clo _ caps :: r => capBlks caps ++ blksOf r
  | .ptr b _ :: r => b :: blksOf r
  | .ref b :: r => b :: blksOf r
  | .ep b _ _ :: r => b :: blksOf r
  | _ :: r => blksOf r

/-- What a call may write to. -/
def touches (s : St) (o : Op) : List Nat := match o with
  | .call c => match c.callee with
    | .value (.func _) => match vargs E s c.args.toList with
      | some args => blksOf (args.flatMap A0.cells)
      | none => []
    | .value (.tmp t) => match s.get t, vargs E s c.args.toList with
      | .v (.one (.clo _ caps)), some args => blksOf ((args ++ capArgs caps).flatMap A0.cells)
      | _, _ => []
    | _ => []
  | _ => []

def callOp : Op → Bool
  | .call { callee := .value _, .. } => true
  | _ => false

/-- A call of number 'i' leaves the boxes 'pb' alone. -/
def leaves (pb : List Nat) (ops : List Oper) (s : St) (i : Nat) : Bool := match ops[i]? with
  | some o => (touches E (s.fzOs E (frozenOps E o.op)) o.op).all fun b => !pb.contains b
  | none => true

/-- The boxes that calls of a region leave alone. -/
def protOf (s0 : St) : Sched → List Nat
  | [] => []
  | (_, m, _) :: l => if Nat.ble 3 m then match s0.get (m - 3) with
    | .v (.one (.ptr b _)) => b :: protOf s0 l
    | _ => protOf s0 l
    else protOf s0 l

/-- A region that draws. -/
def vdraw (ops : List Oper) (s0 : St) (pb : List Nat) : Sched → St → (St → Option R) → Option R
  | [], s, K => K s
  | (i, box, ns) :: l, s, K => if (box == 0 || boxOK E s0 ops (junkAll ops ns s) i box) && ns.all (newOK E ops (junkAll ops ns s)) && leaves E pb ops (junkAll ops ns s) i then
      vops E ops [i] (junkAll ops ns s) fun s' => vdraw ops s0 pb l s' K else none

def headId : Code → Nat
  | .region id _ _ => id
  | .seq a _ => headId a
  | .block _ b => headId b
  | .loop b => headId b
  | _ => 0

def addNew (l : List Nat) : List Nat → List Nat
  | [] => l
  | b :: r => if l.contains b then addNew l r else addNew (l ++ [b]) r

def reachFrom (mem : List Blk) : Nat → Nat → List Nat → List Nat
  | 0, _, l => l
  | n + 1, i, l => match l[i]? with
    | none => l
    | some b => match mem[b]? with
      | some (.box cs) => reachFrom mem n (i + 1) (addNew l (blksOf cs))
      | _ => reachFrom mem n (i + 1) l

def ren (l : List Nat) (b : Nat) : Option Nat := let i := l.idxOf b; if i < l.length then some i else none

def renCs (l : List Nat) : List CV → Option (List CV)
  | [] => some []
  | .d c x :: r => match renCs l r with | some r' => some (.d c x :: r') | none => none
  | .ptr b off :: r => match ren l b, renCs l r with | some b', some r' => some (.ptr b' off :: r') | _, _ => none

def renV (l : List Nat) : V → V
  | .clo f caps => match renCs l caps with | some caps' => .clo f caps' | none => .junk
  | .ptr b off => match ren l b with | some b' => .ptr b' off | none => .junk
  | .ref b => match ren l b with | some b' => .ref b' | none => .junk
  | .ep b i off => match ren l b with | some b' => .ep b' i off | none => .junk
  | v => v
def renA0 (l : List Nat) : A0 → A0
  | .one x => .one (renV l x)
  | .agg xs => .agg (xs.map (renV l))
def renA (l : List Nat) : A → A
  | .v a => .v (renA0 l a)
  | .tup xs => .tup (xs.map (renA0 l))
def renB (l : List Nat) : Blk → Blk
  | .box cs => .box (cs.map (renV l))
  | k => k

/-- Only the slots 'live' and what they refer to. -/
def St.norm (keep : Nat) (live : List Nat) (s : St) : St :=
  let vs := live.map fun t => (t, s.get t)
  let l := reachFrom s.mem 64 0 (addNew (List.range keep) (blksOf (vs.flatMap fun x => x.2.allCells)))
  { regs := vs.map fun x => (x.1, renA l x.2), mem := l.map fun b => renB l (s.mem.getD b .dead) }

def loopN (body : St → Kt R → Option R) (nm : St → St) : Nat → St → Kt R → Option R
  | 0, _, _ => none
  | n + 1, s, K => body s fun e s' => match e with
    | .normal => loopN body nm n (nm s') K
    | e => K e s'

def vm (k : Nat) : Code → St → Kt R → Option R
  | .skip, s, K => K .normal s
  | .region id ops draw, s, K => if draw then match E.sched id with
      | some l => vdraw E ops.toList (frz E ops.toList l s) (protOf (frz E ops.toList l s) l) l (frz E ops.toList l s) (K .normal)
      | none => none
    else vops E ops.toList (List.range ops.size) s (K .normal)
  | .seq a b, s, K => vm k a s fun e s' => match e with
    | .normal => vm k b s' K
    | e => K e s'
  | .cond c x y, s, K => match boolOf (E.eval s c) with
    | some b => if b then vm k x s K else vm k y s K
    | none => none
  | .block id b, s, K => vm k b s fun e s' => match e with
    | .exit i => if i = id then K .normal s' else K (.exit i) s'
    | e => K e s'
  | .loop b, s, K => loopN (fun s K => vm k b s K) (St.norm E.keep (E.live (headId b))) k (s.norm E.keep (E.live (headId b))) K
  | .exit id, s, K => K (.exit id) s
  | .ret, s, K => K .ret s
  | _, _, _ => none

end
end Go.Vm

namespace Go.Vm
section
variable {R : Type} (E : Env) (k : Nat)
/-- The loop at a path, and what stands behind it. -/
def ctx : List Nat → List Nat → Code → Kt R → Option (Code × Kt R)
  | [], _, .loop b, K => some (b, K)
  | 0 :: p, ns, .seq a b, K => ctx p ns a fun e s' => match e with
    | .normal => vm E k b s' K
    | e => K e s'
  | 1 :: p, ns, .seq _ b, K => ctx p ns b K
  | 0 :: p, ns, .cond _ a _, K => ctx p ns a K
  | 1 :: p, ns, .cond _ _ b, K => ctx p ns b K
  | 0 :: p, ns, .block id b, K => ctx p ns b fun e s' => match e with
    | .exit i => if i = id then K .normal s' else K (.exit i) s'
    | e => K e s'
  | 0 :: p, n :: ns, .loop b, K => ctx p ns b fun e s' => match e with
    | .normal => loopN (fun s K => vm E k b s K) (St.norm E.keep (E.live (headId b))) n (s'.norm E.keep (E.live (headId b))) K
    | e => K e s'
  | _, _, _, _ => none

def loopAt (p ns : List Nat) (c : Code) (K : Kt R) (n : Nat) (s : St) : Option R := match ctx E k p ns c K with
  | some (b, K') => loopN (fun s K => vm E k b s K) (St.norm E.keep (E.live (headId b))) n s K'
  | none => none
end
end Go.Vm

namespace Go.Vm

mutual
/-- Data 'u' lies behind the value 'v'; the blocks that are read meet 'Al'. -/
def Rd (w : World) (Al : Nat → Prop) : U → Value → Prop
  | .i k n, v => v = .int k n
  | .b x, v => v = .bool x
  | .s x, v => v = .string x
  | .l n cs, v => ∃ ad cap, v = .slice ad n cap ∧ n ≤ cap ∧ (n = 0 ∨ ∃ g off, ad = some ⟨g, off, none⟩ ∧ Al g ∧ RdC w Al g cs off)
def RdC (w : World) (Al : Nat → Prop) (g : Nat) : List U → Nat → Prop
  | [], _ => True
  | u :: r, off => (∃ v, w.cell? ⟨g, off, none⟩ = some v ∧ Rd w Al u v) ∧ RdC w Al g r (off + 1)
end

theorem cell_of_heap {w w' : World} {g : Nat} (h : w'.heap[g]? = w.heap[g]?) (off : Nat) : w'.cell? ⟨g, off, none⟩ = w.cell? ⟨g, off, none⟩ := by
  simp [World.cell?, h]

mutual
theorem Rd_mono {w w' : World} {Al Al' : Nat → Prop} (h : ∀ g, Al g → Al' g ∧ w'.heap[g]? = w.heap[g]?) :
    ∀ (u : U) (v : Value), Rd w Al u v → Rd w' Al' u v
  | .i _ _, _, hr => by simpa [Rd] using hr
  | .b _, _, hr => by simpa [Rd] using hr
  | .s _, _, hr => by simpa [Rd] using hr
  | .l n cs, v, hr => by
    simp only [Rd] at hr ⊢
    obtain ⟨ad, cap, e, hn, hc⟩ := hr
    refine ⟨ad, cap, e, hn, hc.imp id ?_⟩
    rintro ⟨g, off, e', hg, hd⟩
    exact ⟨g, off, e', (h g hg).1, RdC_mono h cs g off (h g hg).2 hd⟩
theorem RdC_mono {w w' : World} {Al Al' : Nat → Prop} (h : ∀ g, Al g → Al' g ∧ w'.heap[g]? = w.heap[g]?) :
    ∀ (cs : List U) (g off : Nat), w'.heap[g]? = w.heap[g]? → RdC w Al g cs off → RdC w' Al' g cs off
  | [], _, _, _, _ => by simp [RdC]
  | u :: r, g, off, hg, hr => by
    simp only [RdC] at hr ⊢
    obtain ⟨⟨v, hv, hu⟩, hr⟩ := hr
    exact ⟨⟨v, by rw [cell_of_heap hg]; exact hv, Rd_mono h u v hu⟩, RdC_mono h r g (off + 1) hg hr⟩
end

theorem RdC_iff {w : World} {Al : Nat → Prop} {g : Nat} : ∀ {cs : List U} {off : Nat},
    RdC w Al g cs off ↔ ∀ i u, cs[i]? = some u → ∃ v, w.cell? ⟨g, off + i, none⟩ = some v ∧ Rd w Al u v
  | [], off => by simp [RdC]
  | u :: r, off => by
    simp only [RdC]
    rw [RdC_iff (cs := r) (off := off + 1)]
    constructor
    · rintro ⟨h0, h1⟩ i x hx
      cases i with
      | zero => simp at hx; subst hx; exact h0
      | succ i =>
        have := h1 i x (by simpa using hx)
        rwa [show off + 1 + i = off + (i + 1) from by omega] at this
    · intro h
      refine ⟨h 0 u (by simp), fun i x hx => ?_⟩
      have := h (i + 1) x (by simpa using hx)
      rwa [show off + 1 + i = off + (i + 1) from by omega]

theorem Rd_oneCell {w : World} {Al : Nat → Prop} {u : U} {v : Value} (h : Rd w Al u v) : v.oneCell' = true := by
  cases u with
  | i k n => simp [Rd] at h; subst h; rfl
  | b x => simp [Rd] at h; subst h; rfl
  | s x => simp [Rd] at h; subst h; rfl
  | l n cs => simp [Rd] at h; obtain ⟨ad, cap, e, _⟩ := h; subst e; rfl

/-- The cells of a slice's content. -/
def cellsU (c : C) (x : c.I) : List U := match enc c x with
  | .l _ cs => cs
  | _ => []

theorem enc_sl {c : C} (h : isSl c = true) (x : c.I) : enc c x = .l (lenC c x) (cellsU c x) := by
  cases c <;> simp [isSl] at h <;> simp [enc, lenC, cellsU]

theorem encs_ds : ∀ (r : List C) (x : C.Is r), (dsOf r x).map D.U = encs r x
  | [], _ => by simp [dsOf, encs]
  | c :: r, x => by simp [dsOf, encs, D.U, encs_ds r x.2]

theorem encs_len (r : List C) (x : C.Is r) : (encs r x).length = r.length := by
  induction r with
  | nil => simp [encs]
  | cons c r ih => simp [encs, ih]

theorem roseU_len {r : List C} (t : Rose (C.Is r)) : (roseU (encs r) t).length = r.length + 1 := by
  cases t; simp [roseU, encs_len]

theorem rosesU_flat {α : Type} (f : α → List U) (xs : List (Rose α)) : rosesU f xs = xs.flatMap (roseU f) := by
  induction xs with
  | nil => simp [rosesU]
  | cons x r ih => simp [rosesU, ih]

theorem flatMap_len {α β : Type} (f : α → List β) (w : Nat) (h : ∀ x, (f x).length = w) (xs : List α) : (xs.flatMap f).length = xs.length * w := by
  induction xs with
  | nil => simp
  | cons x r ih => simp [ih, h, Nat.add_mul, Nat.add_comm]

theorem flatMap_take {α β : Type} (f : α → List β) (w : Nat) (h : ∀ x, (f x).length = w) (xs : List α) (n : Nat) :
    (xs.take n).flatMap f = (xs.flatMap f).take (n * w) := by
  induction xs generalizing n with
  | nil => simp
  | cons x r ih =>
    cases n with
    | zero => simp
    | succ n =>
      simp only [List.take_succ_cons, List.flatMap_cons, ih]
      rw [List.take_append, h, List.take_of_length_le (l := f x) (by rw [h, Nat.add_mul]; omega)]
      congr 2
      rw [Nat.add_mul]; omega

theorem flatMap_drop {α β : Type} (f : α → List β) (w : Nat) (h : ∀ x, (f x).length = w) (xs : List α) (n : Nat) :
    (xs.drop n).flatMap f = (xs.flatMap f).drop (n * w) := by
  induction xs generalizing n with
  | nil => simp
  | cons x r ih =>
    cases n with
    | zero => simp
    | succ n =>
      simp only [List.drop_succ_cons, List.flatMap_cons, ih]
      rw [List.drop_append, h, List.drop_of_length_le (l := f x) (by rw [h, Nat.add_mul]; omega)]
      simp only [List.nil_append]
      congr 1
      rw [Nat.add_mul]; omega

theorem flatMap_at {α β : Type} (f : α → List β) (w : Nat) (h : ∀ x, (f x).length = w) (xs : List α) (i : Nat) (d : α) (hi : i < xs.length) :
    ((xs.flatMap f).drop (i * w)).take w = f (xs.getD i d) := by
  rw [← flatMap_drop f w h]
  have e : xs.drop i = xs[i] :: xs.drop (i + 1) := by rw [List.drop_eq_getElem_cons hi]
  rw [e]
  simp only [List.flatMap_cons]
  rw [List.take_append_of_le_length (by rw [h]; exact Nat.le_refl _), List.take_of_length_le (by rw [h]; exact Nat.le_refl _)]
  simp [List.getD_eq_getElem?_getD, hi]

/-- One element's cells, as data. -/
theorem elemC_len (c : C) (x : c.I) (i : Nat) : (elemC c x i).length = (rowOf c).length := by
  cases c <;> simp [elemC, rowOf]
  case sl r => rw [← List.length_map (f := D.U), encs_ds, encs_len]
  case kids r => rw [← List.length_map (f := D.U), encs_ds, encs_len]

theorem cellsU_sl1 (c : C) (xs : List c.I) : cellsU (.sl1 c) xs = xs.map (enc c) := rfl
theorem cellsU_sl (r : List C) (xs : List (C.Is r)) : cellsU (.sl r) xs = xs.flatMap (encs r) := rfl
theorem cellsU_kids (r : List C) (xs : List (Rose (C.Is r))) : cellsU (.kids r) xs = xs.flatMap (roseU (encs r)) := rosesU_flat _ _

theorem cellsU_len : ∀ (c : C) (x : c.I), (cellsU c x).length = lenC c x * (rowOf c).length
  | .int _, _ => by simp [cellsU, enc, lenC]
  | .bool, _ => by simp [cellsU, enc, lenC]
  | .str, _ => by simp [cellsU, enc, lenC]
  | .sl1 c, (xs : List c.I) => by rw [cellsU_sl1]; simp [lenC, rowOf]
  | .sl r, (xs : List (C.Is r)) => by rw [cellsU_sl, flatMap_len _ _ (encs_len r)]; simp [lenC, rowOf]
  | .kids r, (xs : List (Rose (C.Is r))) => by rw [cellsU_kids, flatMap_len _ (r.length + 1) (fun t => roseU_len t)]; simp [lenC, rowOf]

theorem roseU_elem {r : List C} (t : Rose (C.Is r)) : roseU (encs r) t = (dsOf r t.a ++ [(⟨.kids r, t.ks⟩ : D)]).map D.U := by
  cases t with
  | mk a ks =>
    rw [List.map_append, encs_ds]
    rfl

theorem elemC_cells : ∀ (c : C) (x : c.I) (i : Nat), i < lenC c x →
    (elemC c x i).map D.U = ((cellsU c x).drop (i * (rowOf c).length)).take (rowOf c).length
  | .int _, _, _, hi => by simp [lenC] at hi
  | .bool, _, _, hi => by simp [lenC] at hi
  | .str, _, _, hi => by simp [lenC] at hi
  | .sl1 c, (xs : List c.I), i, hi => by
    have hi : i < xs.length := hi
    rw [cellsU_sl1]
    show [enc c (xs.getD i (dflt c))] = (((xs.map (enc c)).drop (i * 1)).take 1)
    have e : ((xs.map (enc c)).drop i).take 1 = [enc c xs[i]] := by
      rw [List.drop_eq_getElem_cons (by simpa using hi)]; simp
    rw [Nat.mul_one, e]
    simp [List.getD_eq_getElem?_getD, hi]
  | .sl r, (xs : List (C.Is r)), i, hi => by
    have hi : i < xs.length := hi
    rw [cellsU_sl]
    show (dsOf r (xs.getD i (dflts r))).map D.U = ((xs.flatMap (encs r)).drop (i * r.length)).take r.length
    rw [flatMap_at _ _ (encs_len r) xs i (dflts r) hi, encs_ds]
  | .kids r, (xs : List (Rose (C.Is r))), i, hi => by
    have hi : i < xs.length := hi
    rw [cellsU_kids]
    have e : (rowOf (.kids r)).length = r.length + 1 := by simp [rowOf]
    rw [e, flatMap_at _ (r.length + 1) (fun t => roseU_len t) xs i (dfltRose r) hi, roseU_elem]
    rfl

theorem appC_cells : ∀ {c : C} (_ : isSl c = true) (x y : c.I), cellsU c (appC c x y) = cellsU c x ++ cellsU c y ∧ lenC c (appC c x y) = lenC c x + lenC c y
  | .int _, h, _, _ => by simp [isSl] at h
  | .bool, h, _, _ => by simp [isSl] at h
  | .str, h, _, _ => by simp [isSl] at h
  | .sl1 c, _, (xs : List c.I), (ys : List c.I) => by
    refine ⟨?_, List.length_append⟩
    show cellsU (.sl1 c) (xs ++ ys) = _
    rw [cellsU_sl1, cellsU_sl1, cellsU_sl1, List.map_append]
  | .sl r, _, (xs : List (C.Is r)), (ys : List (C.Is r)) => by
    refine ⟨?_, List.length_append⟩
    show cellsU (.sl r) (xs ++ ys) = _
    rw [cellsU_sl, cellsU_sl, cellsU_sl, List.flatMap_append]
  | .kids r, _, (xs : List (Rose (C.Is r))), (ys : List (Rose (C.Is r))) => by
    refine ⟨?_, List.length_append⟩
    show cellsU (.kids r) (xs ++ ys) = _
    rw [cellsU_kids, cellsU_kids, cellsU_kids, List.flatMap_append]

theorem subC_cells : ∀ {c : C} (_ : isSl c = true) (x : c.I) (lo hi : Nat), hi ≤ lenC c x →
    cellsU c (subC c x lo hi) = ((cellsU c x).take (hi * (rowOf c).length)).drop (lo * (rowOf c).length) ∧ lenC c (subC c x lo hi) = hi - lo
  | .int _, h, _, _, _, _ => by simp [isSl] at h
  | .bool, h, _, _, _, _ => by simp [isSl] at h
  | .str, h, _, _, _, _ => by simp [isSl] at h
  | .sl1 c, _, (xs : List c.I), lo, hi, hh => by
    have hh : hi ≤ xs.length := hh
    refine ⟨?_, ?_⟩
    · show cellsU (.sl1 c) ((xs.take hi).drop lo) = ((cellsU (.sl1 c) xs).take (hi * 1)).drop (lo * 1)
      rw [cellsU_sl1, cellsU_sl1, Nat.mul_one, Nat.mul_one, List.map_drop, List.map_take]
    · show ((xs.take hi).drop lo).length = hi - lo
      simp; omega
  | .sl r, _, (xs : List (C.Is r)), lo, hi, hh => by
    have hh : hi ≤ xs.length := hh
    refine ⟨?_, ?_⟩
    · show cellsU (.sl r) ((xs.take hi).drop lo) = ((cellsU (.sl r) xs).take (hi * r.length)).drop (lo * r.length)
      rw [cellsU_sl, cellsU_sl, flatMap_drop _ _ (encs_len r), flatMap_take _ _ (encs_len r)]
    · show ((xs.take hi).drop lo).length = hi - lo
      simp; omega
  | .kids r, _, (xs : List (Rose (C.Is r))), lo, hi, hh => by
    have hh : hi ≤ xs.length := hh
    have e : (rowOf (.kids r)).length = r.length + 1 := by simp [rowOf]
    refine ⟨?_, ?_⟩
    · rw [e]
      show cellsU (.kids r) ((xs.take hi).drop lo) = _
      rw [cellsU_kids, cellsU_kids, flatMap_drop _ (r.length + 1) (fun t => roseU_len t), flatMap_take _ (r.length + 1) (fun t => roseU_len t)]
    · show ((xs.take hi).drop lo).length = hi - lo
      simp; omega

end Go.Vm

namespace Go.Vm

/-- Where a block of the evaluator lies. -/
inductive Bt where
  | blk (g cap : Nat)
  | nil

/-- The machine as the evaluator sees it. -/
structure Cf where
  w : World
  Al : Nat → Prop
  be : List Bt
  mem : List Blk

def CapsOK (w : World) (Al : Nat → Prop) (be : List Bt) : List CV → List Value → Prop
  | [], vs => vs = []
  | .d c x :: r, vs => ∃ v vs', vs = v :: vs' ∧ Rd w Al (enc c x) v ∧ CapsOK w Al be r vs'
  | .ptr b off :: r, vs => ∃ g cap vs', be[b]? = some (.blk g cap) ∧ vs = .pointer (some ⟨g, off, none⟩) :: vs' ∧ CapsOK w Al be r vs'

def RefAt (be : List Bt) (b n : Nat) (v : Value) : Prop :=
  (∃ g cap, be[b]? = some (.blk g cap) ∧ v = .slice (some ⟨g, 0, none⟩) n cap) ∨ (be[b]? = some .nil ∧ v = .slice none 0 0)

def Cf.r1 (c : Cf) : V → Value → Prop
  | .d k x, v => Rd c.w c.Al (enc k x) v
  | .nils, v => v = .slice none 0 0
  | .ptr b off, v => ∃ g cap, c.be[b]? = some (.blk g cap) ∧ v = .pointer (some ⟨g, off, none⟩)
  | .ref b, v => match c.mem[b]? with
    | some (.arr k xs) => RefAt c.be b (lenC k xs) v
    | some _ => True
    | none => False
  | .ep b i off, v => match c.mem[b]? with
    | some (.arr k xs) => i < lenC k xs ∧ ∃ g cap, c.be[b]? = some (.blk g cap) ∧ v = .pointer (some ⟨g, i * (rowOf k).length + off, none⟩)
    | some _ => True
    | none => False
  | .dp cs, v => cs = [] ∨ ∃ g off, v = .pointer (some ⟨g, off, none⟩) ∧ c.Al g ∧ RdC c.w c.Al g (cs.map D.U) off
  | .da k x, v => ∃ g off, v = .pointer (some ⟨g, off, none⟩) ∧ c.Al g ∧ RdC c.w c.Al g (cellsU k x) off ∧ ∃ cells T fr, c.w.heap[g]? = some (.cells cells T fr) ∧ cells.size = off + (cellsU k x).length
  | .clo f caps, v => ∃ vs : List Value, v = .func (.func f) #[] vs.toArray ∧ CapsOK c.w c.Al c.be caps vs
  | .undef, v => v = undef
  | .junk, _ => True

def Cf.ra0 (c : Cf) : A0 → Value → Prop
  | .one x, v => c.r1 x v
  | .agg xs, v => ∃ vs : Array Value, v = .agg vs ∧ vs.size = xs.length ∧ ∀ (i : Nat) (x : V), xs[i]? = some x → ∃ u, vs[i]? = some u ∧ c.r1 x u

def Cf.ra (c : Cf) : A → Value → Prop
  | .v a, v => c.ra0 a v
  | .tup xs, v => ∃ vs : Array Value, v = .tuple vs ∧ ∀ (i : Nat) (a : A0), xs[i]? = some a → ∃ u, vs[i]? = some u ∧ c.ra0 a u

def Blk.isDead : Blk → Bool
  | .dead => true
  | _ => false

def Cf.blkOK (c : Cf) (b : Nat) : Blk → Prop
  | .box cs => ∃ (g cap : Nat) (cells : Array Value) (T : TypeId), c.be[b]? = some (.blk g cap) ∧ c.w.heap[g]? = some (.cells cells T (0, 0)) ∧ cells.size = cs.length ∧
      ∀ (i : Nat) (x : V), cs[i]? = some x → ∃ v, cells[i]? = some v ∧ c.r1 x v
  | .arr k xs => isSl k = true ∧ ((∃ (g cap : Nat) (cells : Array Value) (T : TypeId), c.be[b]? = some (.blk g cap) ∧ c.w.heap[g]? = some (.cells cells T (0, 0)) ∧
        cells.size = cap * (rowOf k).length ∧ lenC k xs ≤ cap ∧ ∀ (i : Nat) (u : U), (cellsU k xs)[i]? = some u → ∃ v, cells[i]? = some v ∧ Rd c.w c.Al u v) ∨
      (c.be[b]? = some .nil ∧ lenC k xs = 0))
  | .dead => True

/-- Concrete block 'g' belongs to a block of the evaluator that lives. -/
def Cf.live (c : Cf) (g : Nat) : Prop := ∃ (b : Nat) (x : Blk) (cap : Nat), c.mem[b]? = some x ∧ x.isDead = false ∧ c.be[b]? = some (Bt.blk g cap)

structure Cf.ok (c : Cf) : Prop where
  len : c.be.length = c.mem.length
  blk : ∀ (b : Nat) (blk : Blk), c.mem[b]? = some blk → c.blkOK b blk
  inj : ∀ (b b' : Nat) (x y : Blk) (g cap cap' : Nat), c.mem[b]? = some x → x.isDead = false → c.be[b]? = some (.blk g cap) →
    c.mem[b']? = some y → y.isDead = false → c.be[b']? = some (.blk g cap') → b = b'
  av : ∀ g, c.live g → ¬ c.Al g
  lt : ∀ g, c.Al g → g < c.w.heap.size

structure Cf.To (c c' : Cf) : Prop where
  keeps : ∀ x v, c.r1 x v → c'.r1 x v
  os : c'.w.os = c.w.os
  tape : c'.w.tape = c.w.tape
  output : c'.w.output = c.w.output
  size : c.w.heap.size ≤ c'.w.heap.size
  block : ∀ g, g < c.w.heap.size → ¬ c.live g → c'.w.heap[g]? = c.w.heap[g]?
  al : ∀ g, c.Al g → c'.Al g
  alnew : ∀ g, c'.Al g → c.Al g ∨ c.live g ∨ c.w.heap.size ≤ g
  livenew : ∀ g, c'.live g → c.live g ∨ c.w.heap.size ≤ g
  boxes : ∀ (b : Nat) (cs : List V), c.mem[b]? = some (.box cs) → (∃ cs', c'.mem[b]? = some (.box cs')) ∨ ∀ g cap, c.be[b]? = some (.blk g cap) → c'.Al g

theorem Cf.To.refl (c : Cf) : c.To c := ⟨fun _ _ h => h, rfl, rfl, rfl, Nat.le_refl _, fun _ _ _ => rfl, fun _ h => h, fun _ h => .inl h, fun _ h => .inl h, fun _ cs h => .inl ⟨cs, h⟩⟩

theorem Cf.To.trans {a b c : Cf} (h : a.To b) (k : b.To c) : a.To c where
  keeps x v hv := k.keeps x v (h.keeps x v hv)
  os := k.os.trans h.os
  tape := k.tape.trans h.tape
  output := k.output.trans h.output
  size := Nat.le_trans h.size k.size
  block g hg hl := (k.block g (Nat.lt_of_lt_of_le hg h.size) (fun hb => (h.livenew g hb).elim hl (fun h' => by omega))).trans (h.block g hg hl)
  al g hg := k.al g (h.al g hg)
  alnew g hg := by
    rcases k.alnew g hg with h1 | h1 | h1
    · exact h.alnew g h1
    · exact .inr (h.livenew g h1)
    · exact .inr (.inr (Nat.le_trans h.size h1))
  livenew g hg := by
    rcases k.livenew g hg with h1 | h1
    · exact h.livenew g h1
    · exact .inr (Nat.le_trans h.size h1)
  boxes b cs hb := by
    rcases h.boxes b cs hb with ⟨cs', h1⟩ | h1
    · rcases k.boxes b cs' h1 with h2 | h2
      · exact .inl h2
      · refine .inr fun g cap e => ?_
        obtain ⟨g', cap', e', hv⟩ := h.keeps (.ptr b 0) (.pointer (some ⟨g, 0, none⟩)) ⟨g, cap, e, rfl⟩
        injection hv with hv; injection hv with hv; injection hv with hv
        subst hv
        exact h2 g cap' e'
    · exact .inr fun g cap e => k.al g (h1 g cap e)

theorem CapsOK_mono {w w' : World} {Al Al' : Nat → Prop} {be be' : List Bt} (h : ∀ g, Al g → Al' g ∧ w'.heap[g]? = w.heap[g]?)
    (hb : ∀ (b : Nat) (t : Bt), be[b]? = some t → be'[b]? = some t) : ∀ (caps : List CV) (vs : List Value), CapsOK w Al be caps vs → CapsOK w' Al' be' caps vs
  | [], _, hc => hc
  | .d c x :: r, _, hc => by
    obtain ⟨v, vs', e, h1, h2⟩ := hc
    exact ⟨v, vs', e, Rd_mono h _ _ h1, CapsOK_mono h hb r vs' h2⟩
  | .ptr b off :: r, _, hc => by
    obtain ⟨g, cap, vs', e, h1, h2⟩ := hc
    exact ⟨g, cap, vs', hb _ _ e, h1, CapsOK_mono h hb r vs' h2⟩

/-- What the evaluator knows of a cell stays true. -/
theorem r1_keep {c c' : Cf} (h : ∀ g, c.Al g → c'.Al g ∧ c'.w.heap[g]? = c.w.heap[g]?)
    (hb : ∀ (b : Nat) (t : Bt), c.be[b]? = some t → c'.be[b]? = some t)
    (ha : ∀ (b : Nat) (k : C) (xs : k.I), c.mem[b]? = some (.arr k xs) → (∃ ys : k.I, c'.mem[b]? = some (.arr k ys) ∧ lenC k ys = lenC k xs) ∨ c'.mem[b]? = some .dead)
    (hn : ∀ (b : Nat) (x : Blk), c.mem[b]? = some x → (∀ k ys, x ≠ .arr k ys) → ∃ y, c'.mem[b]? = some y ∧ ∀ k ys, y ≠ .arr k ys) :
    ∀ x v, c.r1 x v → c'.r1 x v := by
  intro x v hx
  cases x with
  | d k x => exact Rd_mono h _ _ hx
  | nils => exact hx
  | ptr b off => obtain ⟨g, cap, e, hv⟩ := hx; exact ⟨g, cap, hb _ _ e, hv⟩
  | ref b =>
    simp only [Cf.r1] at hx ⊢
    split at hx
    · rename_i k xs hm
      rcases ha b k xs hm with ⟨ys, hm', hl⟩ | hm'
      · rw [hm']
        simp only [hl]
        rcases hx with ⟨g, cap, e, hv⟩ | ⟨e, hv⟩
        · exact .inl ⟨g, cap, hb _ _ e, hv⟩
        · exact .inr ⟨hb _ _ e, hv⟩
      · rw [hm']; trivial
    · rename_i y hne hm
      obtain ⟨y', hm', hy⟩ := hn b y hm (fun k ys e => hne k ys e)
      rw [hm']
      cases y' with
      | arr k ys => exact absurd rfl (hy k ys)
      | box cs => trivial
      | dead => trivial
    · exact hx.elim
  | ep b i off =>
    simp only [Cf.r1] at hx ⊢
    split at hx
    · rename_i k xs hm
      rcases ha b k xs hm with ⟨ys, hm', hl⟩ | hm'
      · rw [hm']
        obtain ⟨hi, g, cap, e, hv⟩ := hx
        exact ⟨by rw [hl]; exact hi, g, cap, hb _ _ e, hv⟩
      · rw [hm']; trivial
    · rename_i y hne hm
      obtain ⟨y', hm', hy⟩ := hn b y hm (fun k ys e => hne k ys e)
      rw [hm']
      cases y' with
      | arr k ys => exact absurd rfl (hy k ys)
      | box cs => trivial
      | dead => trivial
    · exact hx.elim
  | dp cs =>
    rcases hx with hx | ⟨g, off, hv, hg, hr⟩
    · exact .inl hx
    · exact .inr ⟨g, off, hv, (h g hg).1, RdC_mono h _ g off (h g hg).2 hr⟩
  | da k x =>
    obtain ⟨g, off, hv, hg, hr, cells, T, fr, h1, h2⟩ := hx
    exact ⟨g, off, hv, (h g hg).1, RdC_mono h _ g off (h g hg).2 hr, cells, T, fr, by rw [(h g hg).2]; exact h1, h2⟩
  | clo f caps =>
    obtain ⟨vs, hv, hc⟩ := hx
    exact ⟨vs, hv, CapsOK_mono h hb caps vs hc⟩
  | undef => exact hx
  | junk => trivial

theorem ra0_keep {c c' : Cf} (h : ∀ x v, c.r1 x v → c'.r1 x v) {a : A0} {v : Value} (hv : c.ra0 a v) : c'.ra0 a v := by
  cases a with
  | one x => exact h x v hv
  | agg xs =>
    obtain ⟨vs, e, hs, hx⟩ := hv
    exact ⟨vs, e, hs, fun i x hi => let ⟨u, hu, hr⟩ := hx i x hi; ⟨u, hu, h x u hr⟩⟩

theorem ra_keep {c c' : Cf} (h : ∀ x v, c.r1 x v → c'.r1 x v) {a : A} {v : Value} (hv : c.ra a v) : c'.ra a v := by
  cases a with
  | v a => exact ra0_keep h hv
  | tup xs =>
    obtain ⟨vs, e, hx⟩ := hv
    exact ⟨vs, e, fun i x hi => let ⟨u, hu, hr⟩ := hx i x hi; ⟨u, hu, ra0_keep h hr⟩⟩

end Go.Vm

namespace Go.Vm

theorem app_some {α : Type} {l r : List α} {i : Nat} {x : α} (h : l[i]? = some x) : (l ++ r)[i]? = some x := by
  have hi : i < l.length := (List.getElem?_eq_some_iff.1 h).1
  rw [List.getElem?_append_left hi]; exact h

theorem app_one {α : Type} {l : List α} {i : Nat} {x y : α} (h : (l ++ [y])[i]? = some x) : l[i]? = some x ∨ (i = l.length ∧ x = y) := by
  rcases Nat.lt_trichotomy i l.length with hi | hi | hi
  · rw [List.getElem?_append_left hi] at h; exact .inl h
  · subst hi; simp at h; exact .inr ⟨rfl, h.symm⟩
  · rw [List.getElem?_append_right (by omega), List.getElem?_eq_none (by simp; omega)] at h; cases h

theorem blkOK_keep {c c' : Cf} {b : Nat} {x : Blk} (hx : c.blkOK b x) (hk : ∀ x v, c.r1 x v → c'.r1 x v)
    (h : ∀ g, c.Al g → c'.Al g ∧ c'.w.heap[g]? = c.w.heap[g]?) (hb : ∀ (t : Bt), c.be[b]? = some t → c'.be[b]? = some t)
    (hg : ∀ g cap, c.be[b]? = some (.blk g cap) → x.isDead = false → c'.w.heap[g]? = c.w.heap[g]?) : c'.blkOK b x := by
  cases x with
  | box cs =>
    obtain ⟨g, cap, cells, T, e, hh, hs, hx⟩ := hx
    exact ⟨g, cap, cells, T, hb _ e, by rw [hg g cap e rfl]; exact hh, hs, fun i x hi => let ⟨v, hv, hr⟩ := hx i x hi; ⟨v, hv, hk x v hr⟩⟩
  | arr k xs =>
    obtain ⟨hs, hx⟩ := hx
    refine ⟨hs, ?_⟩
    rcases hx with ⟨g, cap, cells, T, e, hh, hsz, hl, hx⟩ | ⟨e, hl⟩
    · exact .inl ⟨g, cap, cells, T, hb _ e, by rw [hg g cap e rfl]; exact hh, hsz, hl, fun i u hi => let ⟨v, hv, hr⟩ := hx i u hi; ⟨v, hv, Rd_mono h _ _ hr⟩⟩
    · exact .inr ⟨hb _ e, hl⟩
  | dead => trivial

theorem live_lt {c : Cf} (hc : c.ok) {g : Nat} (h : c.live g) : g < c.w.heap.size := by
  obtain ⟨b, x, cap, hm, hd, e⟩ := h
  have hx := hc.blk b x hm
  cases x with
  | box cs =>
    obtain ⟨g', cap', cells, T, e', hh, _⟩ := hx
    rw [e] at e'; cases e'
    exact (Array.getElem?_eq_some_iff.1 hh).1
  | arr k xs =>
    rcases hx.2 with ⟨g', cap', cells, T, e', hh, _⟩ | ⟨e', _⟩
    · rw [e] at e'; cases e'
      exact (Array.getElem?_eq_some_iff.1 hh).1
    · rw [e] at e'; cases e'
  | dead => cases hd

/-- The world has grown, or drawn; nothing that was there has turned. -/
structure Ext (w w' : World) : Prop where
  os : w'.os = w.os
  tape : w'.tape = w.tape
  output : w'.output = w.output
  size : w.heap.size ≤ w'.heap.size
  block : ∀ g, g < w.heap.size → w'.heap[g]? = w.heap[g]?

theorem Ext.refl (w : World) : Ext w w := ⟨rfl, rfl, rfl, Nat.le_refl _, fun _ _ => rfl⟩
theorem Ext.trans {a b c : World} (h : Ext a b) (k : Ext b c) : Ext a c :=
  ⟨k.os.trans h.os, k.tape.trans h.tape, k.output.trans h.output, Nat.le_trans h.size k.size, fun g hg => (k.block g (Nat.lt_of_lt_of_le hg h.size)).trans (h.block g hg)⟩
theorem Ext.alloc (w : World) (o : Obj) : Ext w (w.alloc o) :=
  ⟨rfl, rfl, rfl, by simp, fun g hg => by show (w.heap.push o)[g]? = _; rw [Array.getElem?_push, if_neg (by omega)]⟩
theorem Ext.drew (w : World) : Ext w w.drew := ⟨rfl, rfl, rfl, Nat.le_refl _, fun _ _ => rfl⟩

/-- A new block of the evaluator over a new block of the machine (or over none: a nil slice). -/
theorem step_new {c : Cf} (hc : c.ok) {w' : World} (hw : Ext c.w w') (t : Bt) (x : Blk)
    (ht : ∀ g cap, t = .blk g cap → c.w.heap.size ≤ g)
    (hx : (⟨w', c.Al, c.be ++ [t], c.mem ++ [x]⟩ : Cf).blkOK c.mem.length x) :
    (⟨w', c.Al, c.be ++ [t], c.mem ++ [x]⟩ : Cf).ok ∧ c.To ⟨w', c.Al, c.be ++ [t], c.mem ++ [x]⟩ := by
  have hal : ∀ g, c.Al g → c.Al g ∧ w'.heap[g]? = c.w.heap[g]? := fun g hg => ⟨hg, hw.block g (hc.lt g hg)⟩
  have hk : ∀ x' v, c.r1 x' v → (⟨w', c.Al, c.be ++ [t], c.mem ++ [x]⟩ : Cf).r1 x' v := by
    refine r1_keep (c' := ⟨w', c.Al, c.be ++ [t], c.mem ++ [x]⟩) hal (fun b t' h => app_some h) ?_ ?_
    · exact fun b k xs h => .inl ⟨xs, app_some h, rfl⟩
    · exact fun b y h hy => ⟨y, app_some h, hy⟩
  have hlive : ∀ g, (⟨w', c.Al, c.be ++ [t], c.mem ++ [x]⟩ : Cf).live g → c.live g ∨ c.w.heap.size ≤ g := by
    rintro g ⟨b, y, cap, hm, hd, e⟩
    rcases app_one hm with hm | ⟨hb, rfl⟩
    · rcases app_one e with e | ⟨hb, _⟩
      · exact .inl ⟨b, y, cap, hm, hd, e⟩
      · have hb' : b < c.mem.length := (List.getElem?_eq_some_iff.1 hm).1
        rw [hb, hc.len] at hb'; omega
    · rcases app_one e with e | ⟨_, e⟩
      · have := (List.getElem?_eq_some_iff.1 e).1
        rw [hb, hc.len] at this; omega
      · exact .inr (ht g cap e.symm)
  refine ⟨⟨?_, ?_, ?_, ?_, ?_⟩, ⟨hk, hw.os, hw.tape, hw.output, hw.size, fun g hg _ => hw.block g hg, fun g hg => hg, fun g hg => .inl hg, hlive, fun _ cs h => .inl ⟨cs, app_some h⟩⟩⟩
  · simp [hc.len]
  · intro b y hm
    rcases app_one hm with hm | ⟨hb, rfl⟩
    · exact blkOK_keep (hc.blk b y hm) hk hal (fun t' h => app_some h) (fun g cap e hd => hw.block g (live_lt hc ⟨b, y, cap, hm, hd, e⟩))
    · rw [hb]; exact hx
  · intro b b' y y' g cap cap' hm hd e hm' hd' e'
    have old : ∀ (b : Nat) (y : Blk) (cap : Nat), c.mem[b]? = some y → y.isDead = false → (c.be ++ [t])[b]? = some (.blk g cap) → c.be[b]? = some (.blk g cap) ∧ g < c.w.heap.size := by
      intro b y cap hm hd e
      rcases app_one e with e | ⟨h, _⟩
      · exact ⟨e, live_lt hc ⟨b, y, cap, hm, hd, e⟩⟩
      · have := (List.getElem?_eq_some_iff.1 hm).1; rw [h, hc.len] at this; omega
    have new : ∀ (b cap : Nat), b = c.mem.length → (c.be ++ [t])[b]? = some (.blk g cap) → c.w.heap.size ≤ g := by
      intro b cap hb e
      rcases app_one e with e | ⟨_, e⟩
      · have := (List.getElem?_eq_some_iff.1 e).1; rw [hb, hc.len] at this; omega
      · exact ht g cap e.symm
    rcases app_one hm with h1 | ⟨h1, _⟩ <;> rcases app_one hm' with h2 | ⟨h2, _⟩
    · exact hc.inj b b' y y' g cap cap' h1 hd (old b y cap h1 hd e).1 h2 hd' (old b' y' cap' h2 hd' e').1
    · have := (old b y cap h1 hd e).2; have := new b' cap' h2 e'; omega
    · have := (old b' y' cap' h2 hd' e').2; have := new b cap h1 e; omega
    · omega
  · intro g hl hg
    rcases hlive g hl with h | h
    · exact hc.av g h hg
    · have := hc.lt g hg; omega
  · exact fun g hg => Nat.lt_of_lt_of_le (hc.lt g hg) hw.size

/-- The world alone has grown. -/
theorem step_ext {c : Cf} (hc : c.ok) {w' : World} (hw : Ext c.w w') : (⟨w', c.Al, c.be, c.mem⟩ : Cf).ok ∧ c.To ⟨w', c.Al, c.be, c.mem⟩ := by
  have hal : ∀ g, c.Al g → c.Al g ∧ w'.heap[g]? = c.w.heap[g]? := fun g hg => ⟨hg, hw.block g (hc.lt g hg)⟩
  have hk : ∀ x' v, c.r1 x' v → (⟨w', c.Al, c.be, c.mem⟩ : Cf).r1 x' v :=
    r1_keep (c' := ⟨w', c.Al, c.be, c.mem⟩) hal (fun b t' h => h) (fun b k xs h => .inl ⟨xs, h, rfl⟩) (fun b y h hy => ⟨y, h, hy⟩)
  refine ⟨⟨hc.len, ?_, hc.inj, hc.av, fun g hg => Nat.lt_of_lt_of_le (hc.lt g hg) hw.size⟩,
    ⟨hk, hw.os, hw.tape, hw.output, hw.size, fun g hg _ => hw.block g hg, fun g hg => hg, fun g hg => .inl hg, fun g hg => .inl hg, fun _ cs h => .inl ⟨cs, h⟩⟩⟩
  intro b y hm
  exact blkOK_keep (hc.blk b y hm) hk hal (fun t' h => h) (fun g cap e hd => hw.block g (live_lt hc ⟨b, y, cap, hm, hd, e⟩))

end Go.Vm

namespace Go.Vm

/-- The world turns in block 'g' alone. -/
structure Only (g : Nat) (w w' : World) : Prop where
  os : w'.os = w.os
  tape : w'.tape = w.tape
  output : w'.output = w.output
  size : w'.heap.size = w.heap.size
  block : ∀ k, k ≠ g → w'.heap[k]? = w.heap[k]?

theorem Only.setRow (w : World) (g : Nat) (cs : Array Value) : Only g w (w.setRow g cs) :=
  ⟨rfl, rfl, rfl, by simp [World.setRow], fun k hk => by simp only [World.setRow, Array.getElem?_modify]; rw [if_neg (fun e => hk e.symm)]⟩

theorem set_some {α : Type} {l : List α} {b i : Nat} {x y : α} (h : (l.set b y)[i]? = some x) : (i = b ∧ x = y) ∨ (i ≠ b ∧ l[i]? = some x) := by
  rw [List.getElem?_set] at h
  split at h
  · rename_i e; subst e
    split at h
    · cases h; exact .inl ⟨rfl, rfl⟩
    · cases h
  · rename_i e; exact .inr ⟨fun h => e h.symm, h⟩

theorem set_at {α : Type} {l : List α} {b : Nat} {x y : α} (h : l[b]? = some x) : (l.set b y)[b]? = some y := by
  have hi : b < l.length := (List.getElem?_eq_some_iff.1 h).1
  simp [hi]

theorem set_ne {α : Type} {l : List α} {b i : Nat} {y : α} (h : i ≠ b) : (l.set b y)[i]? = l[i]? := by
  rw [List.getElem?_set, if_neg (fun e => h e.symm)]

/-- Same make: both boxes, or both slices of one code and length. -/
def Alike : Blk → Blk → Prop
  | .box _, .box _ => True
  | .arr k xs, .arr k' ys => ∃ e : k = k', lenC k' (e ▸ xs) = lenC k' ys
  | _, _ => False

theorem step_set {c : Cf} (hc : c.ok) {b g cap : Nat} {x y : Blk} {w' : World} (hm : c.mem[b]? = some x) (hd : x.isDead = false) (e : c.be[b]? = some (.blk g cap))
    (hw : Only g c.w w') (hl : Alike x y) (hy : (⟨w', c.Al, c.be, c.mem.set b y⟩ : Cf).blkOK b y) :
    (⟨w', c.Al, c.be, c.mem.set b y⟩ : Cf).ok ∧ c.To ⟨w', c.Al, c.be, c.mem.set b y⟩ := by
  have hlv : c.live g := ⟨b, x, cap, hm, hd, e⟩
  have hyd : y.isDead = false := by cases x <;> cases y <;> first | rfl | exact hl.elim
  have hal : ∀ k, c.Al k → c.Al k ∧ w'.heap[k]? = c.w.heap[k]? := fun k hk => ⟨hk, hw.block k (fun h => hc.av g hlv (h ▸ hk))⟩
  have hk : ∀ x' v, c.r1 x' v → (⟨w', c.Al, c.be, c.mem.set b y⟩ : Cf).r1 x' v := by
    refine r1_keep (c' := ⟨w', c.Al, c.be, c.mem.set b y⟩) hal (fun b t' h => h) ?_ ?_
    · intro b' k xs h
      by_cases hb : b' = b
      · subst hb
        rw [hm] at h; cases h
        cases y with
        | arr k' ys =>
          obtain ⟨rfl, he⟩ := hl
          exact .inl ⟨ys, set_at hm, he.symm⟩
        | _ => exact hl.elim
      · exact .inl ⟨xs, by show (c.mem.set b y)[b']? = _; rw [set_ne hb]; exact h, rfl⟩
    · intro b' y' h hne
      by_cases hb : b' = b
      · subst hb
        rw [hm] at h; cases h
        refine ⟨y, set_at hm, ?_⟩
        rintro k ys rfl
        cases x with
        | arr k' xs => exact hne k' xs rfl
        | _ => exact hl.elim
      · exact ⟨y', by show (c.mem.set b y)[b']? = _; rw [set_ne hb]; exact h, hne⟩
  have hback : ∀ (i : Nat) (z : Blk), (c.mem.set b y)[i]? = some z → z.isDead = false → ∃ z', c.mem[i]? = some z' ∧ z'.isDead = false := by
    intro i z h hz
    rcases set_some h with ⟨rfl, rfl⟩ | ⟨_, h⟩
    · exact ⟨x, hm, hd⟩
    · exact ⟨z, h, hz⟩
  have hlive : ∀ k, (⟨w', c.Al, c.be, c.mem.set b y⟩ : Cf).live k → c.live k := by
    rintro k ⟨i, z, cap', h, hz, e'⟩
    obtain ⟨z', h', hz'⟩ := hback i z h hz
    exact ⟨i, z', cap', h', hz', e'⟩
  have hbx : ∀ (b' : Nat) (cs : List V), c.mem[b']? = some (.box cs) → ∃ cs', (c.mem.set b y)[b']? = some (.box cs') := by
    intro b' cs h
    by_cases hb : b' = b
    · subst hb
      rw [hm] at h; cases h
      cases y with
      | box cs' => exact ⟨cs', set_at hm⟩
      | _ => exact hl.elim
    · exact ⟨cs, by rw [set_ne hb]; exact h⟩
  refine ⟨⟨by simp [hc.len], ?_, ?_, fun k hk' => hc.av k (hlive k hk'), fun k hk' => by rw [hw.size]; exact hc.lt k hk'⟩,
    ⟨hk, hw.os, hw.tape, hw.output, Nat.le_of_eq hw.size.symm, fun k _ hkl => hw.block k (fun h => hkl (h ▸ hlv)), fun k hk' => hk', fun k hk' => .inl hk', fun k hk' => .inl (hlive k hk'), fun b cs h => .inl (hbx b cs h)⟩⟩
  · intro i z h
    rcases set_some h with ⟨rfl, rfl⟩ | ⟨hne, h⟩
    · exact hy
    · refine blkOK_keep (hc.blk i z h) hk hal (fun t' h => h) (fun k cap' e' hz => hw.block k (fun hkg => hne ?_))
      subst hkg
      exact hc.inj i b z x k cap' cap h hz e' hm hd e
  · intro i i' z z' k cap1 cap2 h hz e1 h' hz' e2
    obtain ⟨z1, h1, hz1⟩ := hback i z h hz
    obtain ⟨z2, h2, hz2⟩ := hback i' z' h' hz'
    exact hc.inj i i' z1 z2 k cap1 cap2 h1 hz1 e1 h2 hz2 e2

/-- A slice's block is given up. -/
theorem step_kill {c : Cf} (hc : c.ok) {b : Nat} {k : C} {xs : k.I} (hm : c.mem[b]? = some (.arr k xs)) :
    (⟨c.w, c.Al, c.be, c.mem.set b .dead⟩ : Cf).ok ∧ c.To ⟨c.w, c.Al, c.be, c.mem.set b .dead⟩ ∧
      ∀ g cap, c.be[b]? = some (.blk g cap) → ¬ (⟨c.w, c.Al, c.be, c.mem.set b .dead⟩ : Cf).live g := by
  have hal : ∀ k, c.Al k → c.Al k ∧ c.w.heap[k]? = c.w.heap[k]? := fun k hk => ⟨hk, rfl⟩
  have hk : ∀ x' v, c.r1 x' v → (⟨c.w, c.Al, c.be, c.mem.set b .dead⟩ : Cf).r1 x' v := by
    refine r1_keep (c' := ⟨c.w, c.Al, c.be, c.mem.set b .dead⟩) hal (fun b t' h => h) ?_ ?_
    · intro b' k xs h
      by_cases hb : b' = b
      · subst hb; exact .inr (set_at hm)
      · exact .inl ⟨xs, by show (c.mem.set b .dead)[b']? = _; rw [set_ne hb]; exact h, rfl⟩
    · intro b' y' h hne
      by_cases hb : b' = b
      · subst hb; rw [hm] at h; cases h; exact absurd rfl (hne _ _)
      · exact ⟨y', by show (c.mem.set b .dead)[b']? = _; rw [set_ne hb]; exact h, hne⟩
  have hback : ∀ (i : Nat) (z : Blk), (c.mem.set b .dead)[i]? = some z → z.isDead = false → i ≠ b ∧ c.mem[i]? = some z := by
    intro i z h hz
    rcases set_some h with ⟨rfl, rfl⟩ | ⟨h1, h⟩
    · cases hz
    · exact ⟨h1, h⟩
  have hlive : ∀ k, (⟨c.w, c.Al, c.be, c.mem.set b .dead⟩ : Cf).live k → c.live k := by
    rintro k ⟨i, z, cap', h, hz, e'⟩
    exact ⟨i, z, cap', (hback i z h hz).2, hz, e'⟩
  refine ⟨⟨by simp [hc.len], ?_, ?_, fun k hk' => hc.av k (hlive k hk'), hc.lt⟩,
    ⟨hk, rfl, rfl, rfl, Nat.le_refl _, fun _ _ _ => rfl, fun k hk' => hk', fun k hk' => .inl hk', fun k hk' => .inl (hlive k hk'), fun b' cs h => .inl ⟨cs, by
      show (c.mem.set b .dead)[b']? = _
      rw [set_ne (fun hb => by subst hb; rw [hm] at h; cases h)]; exact h⟩⟩, ?_⟩
  · intro i z h
    rcases set_some h with ⟨rfl, rfl⟩ | ⟨hne, h⟩
    · trivial
    · exact blkOK_keep (hc.blk i z h) hk hal (fun t' h => h) (fun _ _ _ _ => rfl)
  · intro i i' z z' k cap1 cap2 h hz e1 h' hz' e2
    exact hc.inj i i' z z' k cap1 cap2 (hback i z h hz).2 hz e1 (hback i' z' h' hz').2 hz' e2
  · rintro g cap e ⟨i, z, cap', h, hz, e'⟩
    obtain ⟨hne, h⟩ := hback i z h hz
    exact hne (hc.inj i b z _ g cap' cap h hz e' hm rfl e)

/-- An append within the capacity: the block moves on under a new number. -/
theorem step_move {c : Cf} (hc : c.ok) {b g cap : Nat} {k : C} {xs ys : k.I} {w' : World} (hm : c.mem[b]? = some (.arr k xs)) (e : c.be[b]? = some (.blk g cap))
    (hw : Only g c.w w') (hy : (⟨w', c.Al, c.be ++ [.blk g cap], c.mem.set b .dead ++ [.arr k ys]⟩ : Cf).blkOK c.mem.length (.arr k ys)) :
    (⟨w', c.Al, c.be ++ [.blk g cap], c.mem.set b .dead ++ [.arr k ys]⟩ : Cf).ok ∧ c.To ⟨w', c.Al, c.be ++ [.blk g cap], c.mem.set b .dead ++ [.arr k ys]⟩ := by
  have hlv : c.live g := ⟨b, _, cap, hm, rfl, e⟩
  have hbl : b < c.mem.length := (List.getElem?_eq_some_iff.1 hm).1
  have hal : ∀ k, c.Al k → c.Al k ∧ w'.heap[k]? = c.w.heap[k]? := fun k hk => ⟨hk, hw.block k (fun h => hc.av g hlv (h ▸ hk))⟩
  have hat : ∀ (i : Nat) (z : Blk), i ≠ b → c.mem[i]? = some z → (c.mem.set b .dead ++ [Blk.arr k ys])[i]? = some z := by
    intro i z hi h
    exact app_some (by rw [set_ne hi]; exact h)
  have hk : ∀ x' v, c.r1 x' v → (⟨w', c.Al, c.be ++ [.blk g cap], c.mem.set b .dead ++ [.arr k ys]⟩ : Cf).r1 x' v := by
    refine r1_keep (c' := ⟨w', c.Al, c.be ++ [.blk g cap], c.mem.set b .dead ++ [.arr k ys]⟩) hal (fun b t' h => app_some h) ?_ ?_
    · intro b' k xs h
      by_cases hb : b' = b
      · subst hb; exact .inr (app_some (set_at hm))
      · exact .inl ⟨xs, hat b' _ hb h, rfl⟩
    · intro b' y' h hne
      by_cases hb : b' = b
      · subst hb; rw [hm] at h; cases h; exact absurd rfl (hne _ _)
      · exact ⟨y', hat b' _ hb h, hne⟩
  have hback : ∀ (i : Nat) (z : Blk) (k' cap' : Nat), (c.mem.set b .dead ++ [Blk.arr k ys])[i]? = some z → z.isDead = false → (c.be ++ [Bt.blk g cap])[i]? = some (.blk k' cap') →
      (i ≠ b ∧ c.mem[i]? = some z ∧ c.be[i]? = some (.blk k' cap')) ∨ (i = c.mem.length ∧ k' = g) := by
    intro i z k' cap' h hz e'
    rcases app_one h with h | ⟨hi, _⟩
    · rcases set_some h with ⟨rfl, rfl⟩ | ⟨h1, h⟩
      · cases hz
      · rcases app_one e' with e' | ⟨hi, _⟩
        · exact .inl ⟨h1, h, e'⟩
        · have := (List.getElem?_eq_some_iff.1 h).1
          rw [hi, hc.len] at this; omega
    · rcases app_one e' with e' | ⟨_, e'⟩
      · have := (List.getElem?_eq_some_iff.1 e').1
        rw [hi, hc.len] at this; simp at this
      · cases e'; exact .inr ⟨by simpa using hi, rfl⟩
  have hlive : ∀ k', (⟨w', c.Al, c.be ++ [.blk g cap], c.mem.set b .dead ++ [.arr k ys]⟩ : Cf).live k' → c.live k' := by
    rintro k' ⟨i, z, cap', h, hz, e'⟩
    rcases hback i z k' cap' h hz e' with ⟨_, h, e'⟩ | ⟨_, rfl⟩
    · exact ⟨i, z, cap', h, hz, e'⟩
    · exact hlv
  refine ⟨⟨by simp [hc.len], ?_, ?_, fun k hk' => hc.av k (hlive k hk'), fun k hk' => by rw [hw.size]; exact hc.lt k hk'⟩,
    ⟨hk, hw.os, hw.tape, hw.output, Nat.le_of_eq hw.size.symm, fun k' _ hkl => hw.block k' (fun h => hkl (h ▸ hlv)), fun k hk' => hk', fun k hk' => .inl hk', fun k hk' => .inl (hlive k hk'), fun b' cs h => .inl ⟨cs, app_some (by
      rw [set_ne (fun hb => by subst hb; rw [hm] at h; cases h)]; exact h)⟩⟩⟩
  · intro i z h
    rcases app_one h with h | ⟨hi, rfl⟩
    · rcases set_some h with ⟨rfl, rfl⟩ | ⟨hne, h⟩
      · trivial
      · refine blkOK_keep (hc.blk i z h) hk hal (fun t' h => app_some h) (fun k' cap' e' hz => hw.block k' (fun hkg => hne ?_))
        exact hc.inj i b z _ g cap' cap h hz (hkg ▸ e') hm rfl e
    · rw [show i = c.mem.length from by simpa using hi]; exact hy
  · intro i i' z z' k' cap1 cap2 h hz e1 h' hz' e2
    rcases hback i z k' cap1 h hz e1 with ⟨n1, h1, e1⟩ | ⟨n1, r1⟩ <;> rcases hback i' z' k' cap2 h' hz' e2 with ⟨n2, h2, e2⟩ | ⟨n2, r2⟩
    · exact hc.inj i i' z z' k' cap1 cap2 h1 hz e1 h2 hz' e2
    · exact absurd (hc.inj i b z _ g cap1 cap h1 hz (r2 ▸ e1) hm rfl e) n1
    · exact absurd (hc.inj i' b z' _ g cap2 cap h2 hz' (r1 ▸ e2) hm rfl e) n2
    · omega

end Go.Vm

namespace Go.Vm

theorem ref_data {c : Cf} (hc : c.ok) {b : Nat} {k : C} {xs : k.I} (hm : c.mem[b]? = some (.arr k xs)) {Al' : Nat → Prop} (hal : ∀ g, c.Al g → Al' g)
    (hb : ∀ g cap, c.be[b]? = some (.blk g cap) → Al' g) {v : Value} (hv : RefAt c.be b (lenC k xs) v) : Rd c.w Al' (enc k xs) v := by
  obtain ⟨hs, hx⟩ := hc.blk b _ hm
  rw [enc_sl hs]
  simp only [Rd]
  rcases hx with ⟨g, cap, cells, T, e, hh, hsz, hl, hcs⟩ | ⟨e, hl⟩
  · rcases hv with ⟨g', cap', e', hv⟩ | ⟨e', _⟩
    · rw [e] at e'; cases e'
      refine ⟨_, cap, hv, hl, .inr ⟨g, 0, rfl, hb g cap e, RdC_iff.2 fun i u hu => ?_⟩⟩
      obtain ⟨x, hx, hr⟩ := hcs i u hu
      exact ⟨x, by simp [World.cell?, hh, hx], Rd_mono (fun g hg => ⟨hal g hg, rfl⟩) u x hr⟩
    · rw [e] at e'; cases e'
  · rcases hv with ⟨g', cap', e', hv⟩ | ⟨_, hv⟩
    · rw [e] at e'; cases e'
    · exact ⟨none, 0, by rw [hv, hl], by omega, .inl hl⟩

/-- The configuration behind a freeze. -/
def Cf.fz (c : Cf) (b : Nat) (k : C) (xs : k.I) : Cf :=
  ⟨c.w, fun g => c.Al g ∨ ∃ cap, c.be[b]? = some (.blk g cap), c.be, (c.mem.map (fzBlk b ⟨k, xs⟩)).set b .dead⟩

theorem fz_at {l : List Blk} {b i : Nat} {d : D} {z : Blk} (h : ((l.map (fzBlk b d)).set b .dead)[i]? = some z) : (i = b ∧ z = .dead) ∨ (i ≠ b ∧ ∃ y, l[i]? = some y ∧ z = fzBlk b d y) := by
  rcases set_some h with ⟨rfl, rfl⟩ | ⟨hi, h⟩
  · exact .inl ⟨rfl, rfl⟩
  · rw [List.getElem?_map] at h
    cases hy : l[i]? with
    | none => rw [hy] at h; cases h
    | some y => rw [hy] at h; cases h; exact .inr ⟨hi, y, rfl, rfl⟩

theorem fz_to {l : List Blk} {b i : Nat} {d : D} {y : Blk} (hi : i ≠ b) (h : l[i]? = some y) : ((l.map (fzBlk b d)).set b .dead)[i]? = some (fzBlk b d y) := by
  rw [set_ne hi, List.getElem?_map, h]; rfl

theorem fzBlk_dead {b : Nat} {d : D} {y : Blk} : (fzBlk b d y).isDead = y.isDead := by cases y <;> rfl

theorem step_fz {c : Cf} (hc : c.ok) {b : Nat} {k : C} {xs : k.I} (hm : c.mem[b]? = some (.arr k xs)) :
    (c.fz b k xs).ok ∧ c.To (c.fz b k xs) ∧ ∀ x v, c.r1 x v → (c.fz b k xs).r1 (fzV b ⟨k, xs⟩ x) v := by
  have hal : ∀ g, c.Al g → (c.fz b k xs).Al g ∧ (c.fz b k xs).w.heap[g]? = c.w.heap[g]? := fun g hg => ⟨.inl hg, rfl⟩
  have hdead : (c.fz b k xs).mem[b]? = some .dead := set_at (x := fzBlk b ⟨k, xs⟩ (.arr k xs)) (by rw [List.getElem?_map, hm]; rfl)
  have hk : ∀ x' v, c.r1 x' v → (c.fz b k xs).r1 x' v := by
    refine r1_keep hal (fun b t' h => h) ?_ ?_
    · intro b' k' ys h
      by_cases hb : b' = b
      · subst hb; exact .inr hdead
      · exact .inl ⟨ys, fz_to hb h, rfl⟩
    · intro b' y' h hne
      by_cases hb : b' = b
      · subst hb; rw [hm] at h; cases h; exact absurd rfl (hne _ _)
      · refine ⟨_, fz_to hb h, ?_⟩
        cases y' with
        | arr k' ys => exact absurd rfl (hne _ _)
        | box cs => intro k ys h; cases h
        | dead => intro k ys h; cases h
  have hf : ∀ x v, c.r1 x v → (c.fz b k xs).r1 (fzV b ⟨k, xs⟩ x) v := by
    intro x v hx
    cases x with
    | ref b' =>
      simp only [fzV]
      split
      · rename_i hb; subst hb
        simp only [Cf.r1, hm] at hx
        exact ref_data hc hm (fun g hg => .inl hg) (fun g cap e => .inr ⟨cap, e⟩) hx
      · exact hk _ _ hx
    | ep b' i off =>
      simp only [fzV]
      split
      · trivial
      · exact hk _ _ hx
    | _ => exact hk _ _ hx
  have hlive : ∀ g, (c.fz b k xs).live g → c.live g ∧ ∀ cap, c.be[b]? ≠ some (.blk g cap) := by
    rintro g ⟨i, z, cap, h, hz, e⟩
    rcases fz_at h with ⟨_, rfl⟩ | ⟨hi, y, hy, rfl⟩
    · cases hz
    · rw [fzBlk_dead] at hz
      exact ⟨⟨i, y, cap, hy, hz, e⟩, fun cap' e' => hi (hc.inj i b y _ g cap cap' hy hz e hm rfl e')⟩
  refine ⟨⟨by simp [Cf.fz, hc.len], ?_, ?_, ?_, ?_⟩, ⟨hk, rfl, rfl, rfl, Nat.le_refl _, fun _ _ _ => rfl, fun g hg => .inl hg, ?_, fun g hg => .inl (hlive g hg).1, fun b' cs h => .inl ⟨_, fz_to (fun hb => by subst hb; rw [hm] at h; cases h) h⟩⟩, hf⟩
  · intro i z h
    rcases fz_at h with ⟨_, rfl⟩ | ⟨hi, y, hy, rfl⟩
    · trivial
    · cases y with
      | box cs =>
        obtain ⟨g, cap, cells, T, e, hh, hs, hx⟩ := hc.blk i _ hy
        refine ⟨g, cap, cells, T, e, hh, by simpa using hs, fun j x hj => ?_⟩
        rw [List.getElem?_map] at hj
        cases hz : cs[j]? with
        | none => rw [hz] at hj; cases hj
        | some x0 =>
          rw [hz] at hj; cases hj
          obtain ⟨v, hv, hr⟩ := hx j x0 hz
          exact ⟨v, hv, hf x0 v hr⟩
      | arr k' ys => exact blkOK_keep (hc.blk i _ hy) hk hal (fun t' h => h) (fun _ _ _ _ => rfl)
      | dead => trivial
  · intro i i' z z' g cap1 cap2 h hz e1 h' hz' e2
    rcases fz_at h with ⟨_, rfl⟩ | ⟨hi, y, hy, rfl⟩
    · cases hz
    · rcases fz_at h' with ⟨_, rfl⟩ | ⟨hi', y', hy', rfl⟩
      · cases hz'
      · rw [fzBlk_dead] at hz hz'
        exact hc.inj i i' y y' g cap1 cap2 hy hz e1 hy' hz' e2
  · rintro g hl (hg | ⟨cap, e⟩)
    · exact hc.av g (hlive g hl).1 hg
    · exact (hlive g hl).2 cap e
  · rintro g (hg | ⟨cap, e⟩)
    · exact hc.lt g hg
    · exact live_lt hc ⟨b, _, cap, hm, rfl, e⟩
  · rintro g (hg | ⟨cap, e⟩)
    · exact .inl hg
    · exact .inr (.inl ⟨b, _, cap, hm, rfl, e⟩)

theorem dsV_ok : ∀ {cs : List V} {ds : List D}, dsV cs = some ds → cs.length = ds.length ∧ ∀ (i : Nat) (d : D), ds[i]? = some d → cs[i]? = some (.d d.c d.x)
  | [], ds, h => by simp only [dsV] at h; cases h; exact ⟨rfl, fun i d h => by simp at h⟩
  | .d c x :: r, ds, h => by
    simp only [dsV] at h
    split at h
    · rename_i l hl
      cases h
      obtain ⟨h1, h2⟩ := dsV_ok hl
      refine ⟨by simp [h1], fun i d hd => ?_⟩
      cases i with
      | zero => simp at hd; subst hd; rfl
      | succ i => simpa using h2 i d (by simpa using hd)
    · cases h
  | .nils :: _, _, h => by simp [dsV] at h
  | .ptr _ _ :: _, _, h => by simp [dsV] at h
  | .ref _ :: _, _, h => by simp [dsV] at h
  | .ep _ _ _ :: _, _, h => by simp [dsV] at h
  | .dp _ :: _, _, h => by simp [dsV] at h
  | .da _ _ :: _, _, h => by simp [dsV] at h
  | .clo _ _ :: _, _, h => by simp [dsV] at h
  | .undef :: _, _, h => by simp [dsV] at h
  | .junk :: _, _, h => by simp [dsV] at h

/-- The configuration behind a box's freeze. -/
def Cf.fzBox (c : Cf) (b : Nat) (ds : List D) : Cf :=
  ⟨c.w, fun g => c.Al g ∨ ∃ cap, c.be[b]? = some (.blk g cap), c.be, (c.mem.map (Blk.mapV (fzPV b ds))).set b .dead⟩

theorem fzb_at {l : List Blk} {b i : Nat} {f : V → V} {z : Blk} (h : ((l.map (Blk.mapV f)).set b .dead)[i]? = some z) : (i = b ∧ z = .dead) ∨ (i ≠ b ∧ ∃ y, l[i]? = some y ∧ z = y.mapV f) := by
  rcases set_some h with ⟨rfl, rfl⟩ | ⟨hi, h⟩
  · exact .inl ⟨rfl, rfl⟩
  · rw [List.getElem?_map] at h
    cases hy : l[i]? with
    | none => rw [hy] at h; cases h
    | some y => rw [hy] at h; cases h; exact .inr ⟨hi, y, rfl, rfl⟩

theorem fzb_to {l : List Blk} {b i : Nat} {f : V → V} {y : Blk} (hi : i ≠ b) (h : l[i]? = some y) : ((l.map (Blk.mapV f)).set b .dead)[i]? = some (y.mapV f) := by
  rw [set_ne hi, List.getElem?_map, h]; rfl

theorem mapV_dead {f : V → V} {y : Blk} : (y.mapV f).isDead = y.isDead := by cases y <;> rfl

theorem step_fzBox {c : Cf} (hc : c.ok) {b : Nat} {cs : List V} {ds : List D} (hm : c.mem[b]? = some (.box cs)) (hds : dsV cs = some ds) :
    (c.fzBox b ds).ok ∧ c.To (c.fzBox b ds) ∧ ∀ x v, c.r1 x v → (c.fzBox b ds).r1 (fzPV b ds x) v := by
  have hal : ∀ g, c.Al g → (c.fzBox b ds).Al g ∧ (c.fzBox b ds).w.heap[g]? = c.w.heap[g]? := fun g hg => ⟨.inl hg, rfl⟩
  have hdead : (c.fzBox b ds).mem[b]? = some .dead := set_at (x := Blk.mapV (fzPV b ds) (.box cs)) (by rw [List.getElem?_map, hm]; rfl)
  have hk : ∀ x' v, c.r1 x' v → (c.fzBox b ds).r1 x' v := by
    refine r1_keep hal (fun b t' h => h) ?_ ?_
    · intro b' k' ys h
      by_cases hb : b' = b
      · subst hb; exact .inr hdead
      · exact .inl ⟨ys, fzb_to hb h, rfl⟩
    · intro b' y' h hne
      by_cases hb : b' = b
      · subst hb; exact ⟨.dead, hdead, fun k ys h => by cases h⟩
      · refine ⟨_, fzb_to hb h, ?_⟩
        cases y' with
        | arr k' ys => exact absurd rfl (hne _ _)
        | box cs => intro k ys h; cases h
        | dead => intro k ys h; cases h
  have hf : ∀ x v, c.r1 x v → (c.fzBox b ds).r1 (fzPV b ds x) v := by
    intro x v hx
    cases x with
    | ptr b' off =>
      simp only [fzPV]
      split
      · rename_i hb; subst hb
        obtain ⟨g, cap, e, rfl⟩ := hx
        obtain ⟨g', cap', cells, T, e', hh, hs, hcell⟩ := hc.blk b' _ hm
        rw [e] at e'; cases e'
        obtain ⟨hl, hd⟩ := dsV_ok hds
        refine .inr ⟨g, off, rfl, .inr ⟨cap, e⟩, RdC_iff.2 fun i u hu => ?_⟩
        rw [List.getElem?_map, List.getElem?_drop] at hu
        cases hdi : ds[off + i]? with
        | none => rw [hdi] at hu; cases hu
        | some d =>
          rw [hdi] at hu; cases hu
          obtain ⟨v, hv, hr⟩ := hcell (off + i) _ (hd _ d hdi)
          refine ⟨v, ?_, Rd_mono hal _ _ hr⟩
          show c.w.cell? ⟨g, off + i, none⟩ = some v
          simp [World.cell?, hh, hv]
      · exact hk _ _ hx
    | _ => exact hk _ _ hx
  have hlive : ∀ g, (c.fzBox b ds).live g → c.live g ∧ ∀ cap, c.be[b]? ≠ some (.blk g cap) := by
    rintro g ⟨i, z, cap, h, hz, e⟩
    rcases fzb_at h with ⟨_, rfl⟩ | ⟨hi, y, hy, rfl⟩
    · cases hz
    · rw [mapV_dead] at hz
      exact ⟨⟨i, y, cap, hy, hz, e⟩, fun cap' e' => hi (hc.inj i b y _ g cap cap' hy hz e hm rfl e')⟩
  refine ⟨⟨by simp [Cf.fzBox, hc.len], ?_, ?_, ?_, ?_⟩, ⟨hk, rfl, rfl, rfl, Nat.le_refl _, fun _ _ _ => rfl, fun g hg => .inl hg, ?_, fun g hg => .inl (hlive g hg).1, fun b' cs' h => ?_⟩, hf⟩
  · intro i z h
    rcases fzb_at h with ⟨_, rfl⟩ | ⟨hi, y, hy, rfl⟩
    · trivial
    · cases y with
      | box cs =>
        obtain ⟨g, cap, cells, T, e, hh, hs, hx⟩ := hc.blk i _ hy
        refine ⟨g, cap, cells, T, e, hh, by simpa using hs, fun j x hj => ?_⟩
        rw [List.getElem?_map] at hj
        cases hz : cs[j]? with
        | none => rw [hz] at hj; cases hj
        | some x0 =>
          rw [hz] at hj; cases hj
          obtain ⟨v, hv, hr⟩ := hx j x0 hz
          exact ⟨v, hv, hf x0 v hr⟩
      | arr k' ys => exact blkOK_keep (hc.blk i _ hy) hk hal (fun t' h => h) (fun _ _ _ _ => rfl)
      | dead => trivial
  · intro i i' z z' g cap1 cap2 h hz e1 h' hz' e2
    rcases fzb_at h with ⟨_, rfl⟩ | ⟨hi, y, hy, rfl⟩
    · cases hz
    · rcases fzb_at h' with ⟨_, rfl⟩ | ⟨hi', y', hy', rfl⟩
      · cases hz'
      · rw [mapV_dead] at hz hz'
        exact hc.inj i i' y y' g cap1 cap2 hy hz e1 hy' hz' e2
  · rintro g hl (hg | ⟨cap, e⟩)
    · exact hc.av g (hlive g hl).1 hg
    · exact (hlive g hl).2 cap e
  · rintro g (hg | ⟨cap, e⟩)
    · exact hc.lt g hg
    · exact live_lt hc ⟨b, _, cap, hm, rfl, e⟩
  · rintro g (hg | ⟨cap, e⟩)
    · exact .inl hg
    · exact .inr (.inl ⟨b, _, cap, hm, rfl, e⟩)
  · by_cases hb : b' = b
    · subst hb; exact .inr fun g cap e => .inr ⟨cap, e⟩
    · exact .inl ⟨_, fzb_to hb h⟩

theorem mapV0_ok {c c' : Cf} {f : V → V} (hf : ∀ x v, c.r1 x v → c'.r1 (f x) v) {a : A0} {v : Value} (h : c.ra0 a v) : c'.ra0 (a.mapV f) v := by
  cases a with
  | one x => exact hf x v h
  | agg xs =>
    obtain ⟨vs, e, hs, hx⟩ := h
    refine ⟨vs, e, by simpa using hs, fun i x hi => ?_⟩
    rw [List.getElem?_map] at hi
    cases hz : xs[i]? with
    | none => rw [hz] at hi; cases hi
    | some x0 =>
      rw [hz] at hi; cases hi
      obtain ⟨u, hu, hr⟩ := hx i x0 hz
      exact ⟨u, hu, hf x0 u hr⟩

theorem mapV_ok {c c' : Cf} {f : V → V} (hf : ∀ x v, c.r1 x v → c'.r1 (f x) v) {a : A} {v : Value} (h : c.ra a v) : c'.ra (a.mapV f) v := by
  cases a with
  | v a => exact mapV0_ok hf h
  | tup xs =>
    obtain ⟨vs, e, hx⟩ := h
    refine ⟨vs, e, fun i x hi => ?_⟩
    rw [List.getElem?_map] at hi
    cases hz : xs[i]? with
    | none => rw [hz] at hi; cases hi
    | some x0 =>
      rw [hz] at hi; cases hi
      obtain ⟨u, hu, hr⟩ := hx i x0 hz
      exact ⟨u, hu, mapV0_ok hf hr⟩

/-- What the evaluator's state says of the machine's. -/
def Good (n : Nat) (c0 : Cf) (s : St) (a : Act) (w : World) : Prop :=
  ∃ (Al : Nat → Prop) (be : List Bt), (⟨w, Al, be, s.mem⟩ : Cf).ok ∧ c0.To ⟨w, Al, be, s.mem⟩ ∧ a.tmps.size = n ∧ a.defers = [] ∧
    ∀ t, (⟨w, Al, be, s.mem⟩ : Cf).ra (s.get t) (a.tmps.getD t undef)

theorem fzA0_ok {c c' : Cf} {b : Nat} {d : D} (hf : ∀ x v, c.r1 x v → c'.r1 (fzV b d x) v) {a : A0} {v : Value} (h : c.ra0 a v) : c'.ra0 (fzA0 b d a) v := by
  cases a with
  | one x => exact hf x v h
  | agg xs =>
    obtain ⟨vs, e, hs, hx⟩ := h
    refine ⟨vs, e, by simpa using hs, fun i x hi => ?_⟩
    rw [List.getElem?_map] at hi
    cases hz : xs[i]? with
    | none => rw [hz] at hi; cases hi
    | some x0 =>
      rw [hz] at hi; cases hi
      obtain ⟨u, hu, hr⟩ := hx i x0 hz
      exact ⟨u, hu, hf x0 u hr⟩

theorem fzA_ok {c c' : Cf} {b : Nat} {d : D} (hf : ∀ x v, c.r1 x v → c'.r1 (fzV b d x) v) {a : A} {v : Value} (h : c.ra a v) : c'.ra (fzA b d a) v := by
  cases a with
  | v a => exact fzA0_ok hf h
  | tup xs =>
    obtain ⟨vs, e, hx⟩ := h
    refine ⟨vs, e, fun i x hi => ?_⟩
    rw [List.getElem?_map] at hi
    cases hz : xs[i]? with
    | none => rw [hz] at hi; cases hi
    | some x0 =>
      rw [hz] at hi; cases hi
      obtain ⟨u, hu, hr⟩ := hx i x0 hz
      exact ⟨u, hu, fzA0_ok hf hr⟩

theorem getL_map (f : A → A) (hf : f A.junk = A.junk) (t : Nat) : ∀ (l : List (Nat × A)), St.getL (l.map fun x => (x.1, f x.2)) t = f (St.getL l t)
  | [] => hf.symm
  | (u, v) :: r => by
    simp only [List.map_cons, St.getL]
    split
    · rfl
    · exact getL_map f hf t r

theorem Good.fz {n : Nat} {c0 : Cf} {s : St} {a : Act} {w : World} (h : Good n c0 s a w) (b : Nat) : Good n c0 (s.fz b) a w := by
  unfold St.fz
  split
  · rename_i k xs hm
    obtain ⟨Al, be, hc, ht, hn, hd, hr⟩ := h
    obtain ⟨h1, h2, h3⟩ := step_fz hc hm
    refine ⟨_, be, h1, ht.trans h2, hn, hd, fun t => ?_⟩
    have e : St.get { regs := s.regs.map fun x => (x.1, fzA b ⟨k, xs⟩ x.2), mem := (s.mem.map (fzBlk b ⟨k, xs⟩)).set b .dead } t = fzA b ⟨k, xs⟩ (s.get t) := getL_map _ rfl t s.regs
    show (Cf.fz ⟨w, Al, be, s.mem⟩ b k xs).ra (St.get _ t) _
    exact e ▸ fzA_ok h3 (hr t)
  · exact h

theorem Good.fzO {n : Nat} {c0 : Cf} {a : Act} {w : World} (E : Env) (x : Operand) : ∀ (m : Nat) {s : St}, Good n c0 s a w → Good n c0 (s.fzO E x m) a w
  | 0, _, h => h
  | m + 1, s, h => by
    unfold St.fzO
    split
    · exact Good.fzO E x m (h.fz _)
    · exact h

theorem Good.fzOs {n : Nat} {c0 : Cf} {a : Act} {w : World} (E : Env) : ∀ (l : List Operand) {s : St}, Good n c0 s a w → Good n c0 (s.fzOs E l) a w
  | [], _, h => h
  | x :: r, s, h => by
    unfold St.fzOs
    exact Good.fzOs E r (Good.fzO E x 8 h)

theorem Good.fzBox {n : Nat} {c0 : Cf} {s : St} {a : Act} {w : World} (h : Good n c0 s a w) (b : Nat) : Good n c0 (s.fzBox b) a w := by
  unfold St.fzBox
  split
  · rename_i cs hm
    split
    · rename_i ds hds
      obtain ⟨Al, be, hc, ht, hn, hd, hr⟩ := h
      obtain ⟨h1, h2, h3⟩ := step_fzBox hc hm hds
      refine ⟨_, be, h1, ht.trans h2, hn, hd, fun t => ?_⟩
      have e : St.get { regs := s.regs.map fun x => (x.1, x.2.mapV (fzPV b ds)), mem := (s.mem.map (Blk.mapV (fzPV b ds))).set b .dead } t = (s.get t).mapV (fzPV b ds) := getL_map _ rfl t s.regs
      show (Cf.fzBox ⟨w, Al, be, s.mem⟩ b ds).ra (St.get _ t) _
      exact e ▸ mapV_ok h3 (hr t)
    · exact h
  · exact h

theorem Good.fzIn {n : Nat} {c0 : Cf} {a : Act} {w : World} (b : Nat) : ∀ (m : Nat) {s : St}, Good n c0 s a w → Good n c0 (s.fzIn b m) a w
  | 0, _, h => h
  | m + 1, s, h => by
    unfold St.fzIn
    split
    · split
      · exact Good.fzIn b m (h.fz _)
      · exact h
    · exact h

theorem Good.frz {n : Nat} {c0 : Cf} {a : Act} {w : World} (E : Env) (ops : List Oper) : ∀ (l : Sched) {s : St}, Good n c0 s a w → Good n c0 (Vm.frz E ops l s) a w
  | [], _, h => h
  | (i, m, ns) :: l, s, h => by
    unfold Vm.frz
    refine Good.frz E ops l ?_
    split
    · split
      · split
        · split
          · exact (Good.fzIn _ 8 h).fzBox _
          · exact h
        · exact h
      · exact h
    · exact h

end Go.Vm

namespace Go.Vm

theorem addNew_nodup : ∀ (r l : List Nat), l.Nodup → (addNew l r).Nodup
  | [], _, h => h
  | b :: r, l, h => by
    simp only [addNew]
    split
    · exact addNew_nodup r l h
    · rename_i hb
      refine addNew_nodup r _ ?_
      rw [List.nodup_append]
      refine ⟨h, by simp, ?_⟩
      intro x hx y hy
      simp at hy; subst hy
      intro e; subst e
      exact hb (by simpa using hx)

theorem addNew_pre : ∀ (r l : List Nat), ∃ m, addNew l r = l ++ m
  | [], l => ⟨[], by simp [addNew]⟩
  | b :: r, l => by
    simp only [addNew]
    split
    · exact addNew_pre r l
    · obtain ⟨m, hm⟩ := addNew_pre r (l ++ [b])
      exact ⟨b :: m, by rw [hm]; simp⟩

theorem reach_nodup (mem : List Blk) : ∀ (n i : Nat) (l : List Nat), l.Nodup → (reachFrom mem n i l).Nodup
  | 0, _, _, h => h
  | n + 1, i, l, h => by
    simp only [reachFrom]
    split
    · exact h
    · split
      · exact reach_nodup mem n _ _ (addNew_nodup _ _ h)
      · exact reach_nodup mem n _ _ h

theorem reach_pre (mem : List Blk) : ∀ (n i : Nat) (l : List Nat), ∃ m, reachFrom mem n i l = l ++ m
  | 0, _, l => ⟨[], by simp [reachFrom]⟩
  | n + 1, i, l => by
    simp only [reachFrom]
    split
    · exact ⟨[], by simp⟩
    · split
      · rename_i cs _
        obtain ⟨m1, h1⟩ := addNew_pre (blksOf cs) l
        obtain ⟨m2, h2⟩ := reach_pre mem n (i + 1) (addNew l (blksOf cs))
        exact ⟨m1 ++ m2, by rw [h2, h1]; simp⟩
      · exact reach_pre mem n (i + 1) l

theorem ren_some {l : List Nat} {b i : Nat} (h : ren l b = some i) : l[i]? = some b := by
  simp only [ren] at h
  split at h
  · rename_i hi
    cases h
    rw [List.getElem?_eq_getElem hi]
    simp
  · cases h

theorem ren_keep {keep : Nat} {m : List Nat} {b : Nat} (hb : b < keep) : ren (List.range keep ++ m) b = some b := by
  have h1 : (List.range keep ++ m).idxOf b = b := by
    rw [List.idxOf_append, if_pos (by simpa using hb)]
    have h2 : (List.range keep)[b]? = some b := by simp [hb]
    have h3 : (List.range keep).idxOf b < (List.range keep).length := List.idxOf_lt_length_of_mem (by simpa using hb)
    have h4 : (List.range keep)[(List.range keep).idxOf b] = b := List.getElem_idxOf h3
    rw [List.getElem_range] at h4
    exact h4
  simp only [ren, h1]
  rw [if_pos (by simp; omega)]

/-- The configuration behind a normal form. -/
def Cf.nm (c : Cf) (l : List Nat) : Cf := ⟨c.w, c.Al, l.map fun b => c.be.getD b .nil, l.map fun b => renB l (c.mem.getD b .dead)⟩

theorem nm_be {c : Cf} {l : List Nat} {b i : Nat} {t : Bt} (hi : l[i]? = some b) (h : c.be[b]? = some t) : (c.nm l).be[i]? = some t := by
  simp [Cf.nm, hi, h]

theorem nm_mem {c : Cf} {l : List Nat} {b i : Nat} {y : Blk} (hi : l[i]? = some b) (h : c.mem[b]? = some y) : (c.nm l).mem[i]? = some (renB l y) := by
  simp [Cf.nm, hi, h]

theorem nm_caps {c : Cf} {l : List Nat} : ∀ (caps caps' : List CV) (vs : List Value), renCs l caps = some caps' → CapsOK c.w c.Al c.be caps vs → CapsOK c.w c.Al (c.nm l).be caps' vs
  | [], _, vs, h, hc => by
    simp only [renCs] at h; cases h; exact hc
  | .d k x :: r, caps', vs, h, hc => by
    simp only [renCs] at h
    split at h
    · rename_i r' hr
      cases h
      obtain ⟨v, vs', e, h1, h2⟩ := hc
      exact ⟨v, vs', e, h1, nm_caps r r' vs' hr h2⟩
    · cases h
  | .ptr b off :: r, caps', vs, h, hc => by
    simp only [renCs] at h
    split at h
    · rename_i b' r' hb hr
      cases h
      obtain ⟨g, cap, vs', e, h1, h2⟩ := hc
      exact ⟨g, cap, vs', nm_be (ren_some hb) e, h1, nm_caps r r' vs' hr h2⟩
    · cases h

theorem nm_r1 {c : Cf} {l : List Nat} : ∀ x v, c.r1 x v → (c.nm l).r1 (renV l x) v := by
  intro x v hx
  cases x with
  | d k x => exact hx
  | nils => exact hx
  | ptr b off =>
    simp only [renV]
    split
    · rename_i b' hb
      obtain ⟨g, cap, e, hv⟩ := hx
      exact ⟨g, cap, nm_be (ren_some hb) e, hv⟩
    · trivial
  | ref b =>
    simp only [renV]
    split
    · rename_i b' hb
      simp only [Cf.r1] at hx
      split at hx
      · rename_i k xs hm
        have hm' := nm_mem (ren_some hb) hm
        simp only [renB] at hm'
        simp only [Cf.r1, hm']
        rcases hx with ⟨g, cap, e, hv⟩ | ⟨e, hv⟩
        · exact .inl ⟨g, cap, nm_be (ren_some hb) e, hv⟩
        · exact .inr ⟨nm_be (ren_some hb) e, hv⟩
      · rename_i y hne hm
        have hm' := nm_mem (ren_some hb) hm
        simp only [Cf.r1, hm']
        cases y with
        | arr k ys => exact absurd rfl (hne k ys)
        | box cs => trivial
        | dead => trivial
      · exact hx.elim
    · trivial
  | ep b i off =>
    simp only [renV]
    split
    · rename_i b' hb
      simp only [Cf.r1] at hx
      split at hx
      · rename_i k xs hm
        have hm' := nm_mem (ren_some hb) hm
        simp only [renB] at hm'
        simp only [Cf.r1, hm']
        obtain ⟨hi, g, cap, e, hv⟩ := hx
        exact ⟨hi, g, cap, nm_be (ren_some hb) e, hv⟩
      · rename_i y hne hm
        have hm' := nm_mem (ren_some hb) hm
        simp only [Cf.r1, hm']
        cases y with
        | arr k ys => exact absurd rfl (hne k ys)
        | box cs => trivial
        | dead => trivial
      · exact hx.elim
    · trivial
  | dp cs => exact hx
  | da k x => exact hx
  | clo f caps =>
    simp only [renV]
    split
    · rename_i caps' h
      obtain ⟨vs, hv, hc⟩ := hx
      exact ⟨vs, hv, nm_caps caps caps' vs h hc⟩
    · trivial
  | undef => exact hx
  | junk => trivial

theorem nm_ra0 {c : Cf} {l : List Nat} {a : A0} {v : Value} (h : c.ra0 a v) : (c.nm l).ra0 (renA0 l a) v := by
  cases a with
  | one x => exact nm_r1 x v h
  | agg xs =>
    obtain ⟨vs, e, hs, hx⟩ := h
    refine ⟨vs, e, by simpa using hs, fun i x hi => ?_⟩
    rw [List.getElem?_map] at hi
    cases hz : xs[i]? with
    | none => rw [hz] at hi; cases hi
    | some x0 =>
      rw [hz] at hi; cases hi
      obtain ⟨u, hu, hr⟩ := hx i x0 hz
      exact ⟨u, hu, nm_r1 x0 u hr⟩

theorem nm_ra {c : Cf} {l : List Nat} {a : A} {v : Value} (h : c.ra a v) : (c.nm l).ra (renA l a) v := by
  cases a with
  | v a => exact nm_ra0 h
  | tup xs =>
    obtain ⟨vs, e, hx⟩ := h
    refine ⟨vs, e, fun i x hi => ?_⟩
    rw [List.getElem?_map] at hi
    cases hz : xs[i]? with
    | none => rw [hz] at hi; cases hi
    | some x0 =>
      rw [hz] at hi; cases hi
      obtain ⟨u, hu, hr⟩ := hx i x0 hz
      exact ⟨u, hu, nm_ra0 hr⟩

theorem nm_back {c : Cf} {l : List Nat} {i : Nat} {z : Blk} (h : (c.nm l).mem[i]? = some z) : ∃ b, l[i]? = some b ∧ z = renB l (c.mem.getD b .dead) := by
  simp only [Cf.nm, List.getElem?_map] at h
  cases hb : l[i]? with
  | none => rw [hb] at h; cases h
  | some b => rw [hb] at h; cases h; exact ⟨b, rfl, rfl⟩

theorem renB_dead {l : List Nat} {y : Blk} : (renB l y).isDead = y.isDead := by cases y <;> rfl

theorem step_nm {c : Cf} (hc : c.ok) {l : List Nat} (hl : l.Nodup) : (c.nm l).ok ∧ ∀ g, (c.nm l).live g → c.live g := by
  have back : ∀ (i : Nat) (z : Blk) (g cap : Nat), (c.nm l).mem[i]? = some z → z.isDead = false → (c.nm l).be[i]? = some (.blk g cap) →
      ∃ b y, l[i]? = some b ∧ c.mem[b]? = some y ∧ y.isDead = false ∧ c.be[b]? = some (.blk g cap) := by
    intro i z g cap h hz e
    obtain ⟨b, hb, rfl⟩ := nm_back h
    rw [renB_dead] at hz
    cases hy : c.mem[b]? with
    | none => simp [hy, Blk.isDead] at hz
    | some y =>
      simp [hy] at hz
      have hbl : b < c.be.length := by rw [hc.len]; exact (List.getElem?_eq_some_iff.1 hy).1
      have e1 : (c.nm l).be[i]? = some c.be[b] := nm_be hb (List.getElem?_eq_getElem hbl)
      rw [e1] at e
      exact ⟨b, y, hb, hy, hz, by rw [List.getElem?_eq_getElem hbl]; exact e⟩
  have hlive : ∀ g, (c.nm l).live g → c.live g := by
    rintro g ⟨i, z, cap, h, hz, e⟩
    obtain ⟨b, y, hb, hy, hyd, e'⟩ := back i z g cap h hz e
    exact ⟨b, y, cap, hy, hyd, e'⟩
  refine ⟨⟨by simp [Cf.nm], ?_, ?_, fun g hg => hc.av g (hlive g hg), hc.lt⟩, hlive⟩
  · intro i z h
    obtain ⟨b, hb, rfl⟩ := nm_back h
    cases hy : c.mem[b]? with
    | none => simp [hy, renB]; trivial
    | some y =>
      simp only [List.getD_eq_getElem?_getD, hy, Option.getD_some]
      have hx := hc.blk b y hy
      cases y with
      | box cs =>
        obtain ⟨g, cap, cells, T, e, hh, hs, hx⟩ := hx
        refine ⟨g, cap, cells, T, nm_be hb e, hh, by simpa using hs, fun j x hj => ?_⟩
        rw [List.getElem?_map] at hj
        cases hz : cs[j]? with
        | none => rw [hz] at hj; cases hj
        | some x0 =>
          rw [hz] at hj; cases hj
          obtain ⟨v, hv, hr⟩ := hx j x0 hz
          exact ⟨v, hv, nm_r1 x0 v hr⟩
      | arr k xs =>
        refine ⟨hx.1, ?_⟩
        rcases hx.2 with ⟨g, cap, cells, T, e, hh, rest⟩ | ⟨e, hl0⟩
        · exact .inl ⟨g, cap, cells, T, nm_be hb e, hh, rest⟩
        · exact .inr ⟨nm_be hb e, hl0⟩
      | dead => trivial
  · intro i i' z z' g cap1 cap2 h hz e1 h' hz' e2
    obtain ⟨b, y, hb, hy, hyd, e1⟩ := back i z g cap1 h hz e1
    obtain ⟨b', y', hb', hy', hyd', e2⟩ := back i' z' g cap2 h' hz' e2
    have hbb := hc.inj b b' y y' g cap1 cap2 hy hyd e1 hy' hyd' e2
    subst hbb
    have hi : i < l.length := (List.getElem?_eq_some_iff.1 hb).1
    exact (List.getElem?_inj hi hl).1 (hb.trans hb'.symm)

/-- All blocks that are named lie below 'n'. -/
def CapsBelow (n : Nat) : List CV → Prop
  | [] => True
  | .d _ _ :: r => CapsBelow n r
  | .ptr b _ :: r => b < n ∧ CapsBelow n r

def V.below (n : Nat) : V → Prop
  | .ptr b _ => b < n
  | .ref b => b < n
  | .ep b _ _ => b < n
  | .clo _ caps => CapsBelow n caps
  | _ => True

theorem caps_below {w : World} {Al : Nat → Prop} {be : List Bt} : ∀ (caps : List CV) (vs : List Value), CapsOK w Al be caps vs → CapsBelow be.length caps
  | [], _, _ => trivial
  | .d _ _ :: r, _, h => by obtain ⟨_, vs', _, _, h2⟩ := h; exact caps_below r vs' h2
  | .ptr b _ :: r, _, h => by
    obtain ⟨g, cap, vs', e, _, h2⟩ := h
    exact ⟨(List.getElem?_eq_some_iff.1 e).1, caps_below r vs' h2⟩

theorem r1_below {c : Cf} (hc : c.ok) {x : V} {v : Value} (h : c.r1 x v) : x.below c.mem.length := by
  cases x with
  | ptr b off => obtain ⟨g, cap, e, _⟩ := h; rw [← hc.len]; exact (List.getElem?_eq_some_iff.1 e).1
  | ref b =>
    simp only [Cf.r1] at h
    split at h
    · rename_i hm; exact (List.getElem?_eq_some_iff.1 hm).1
    · rename_i hm; exact (List.getElem?_eq_some_iff.1 hm).1
    · exact h.elim
  | ep b i off =>
    simp only [Cf.r1] at h
    split at h
    · rename_i hm; exact (List.getElem?_eq_some_iff.1 hm).1
    · rename_i hm; exact (List.getElem?_eq_some_iff.1 hm).1
    · exact h.elim
  | clo f caps => obtain ⟨vs, _, hcaps⟩ := h; rw [← hc.len]; exact caps_below caps vs hcaps
  | _ => trivial

theorem renCs_below {keep : Nat} {m : List Nat} : ∀ (caps : List CV), CapsBelow keep caps → renCs (List.range keep ++ m) caps = some caps
  | [], _ => rfl
  | .d _ _ :: r, h => by simp only [renCs, renCs_below r h]
  | .ptr b off :: r, h => by simp only [renCs, ren_keep h.1, renCs_below r h.2]

theorem renV_below {keep : Nat} {m : List Nat} {x : V} (h : x.below keep) : renV (List.range keep ++ m) x = x := by
  cases x with
  | ptr b off => simp only [renV, ren_keep (m := m) h]
  | ref b => simp only [renV, ren_keep (m := m) h]
  | ep b i off => simp only [renV, ren_keep (m := m) h]
  | clo f caps => simp only [renV, renCs_below caps h]
  | _ => rfl

theorem getL_live (f : Nat → A) (g : A → A) (live : List Nat) (t : Nat) :
    St.getL ((live.map fun t => (t, f t)).map fun x => (x.1, g x.2)) t = A.junk ∨ St.getL ((live.map fun t => (t, f t)).map fun x => (x.1, g x.2)) t = g (f t) := by
  induction live with
  | nil => exact .inl rfl
  | cons u r ih =>
    simp only [List.map_cons, St.getL]
    split
    · rename_i h; subst h; exact .inr rfl
    · exact ih

theorem Good.norm {n : Nat} {c0 : Cf} {s : St} {a : Act} {w : World} (hc0 : c0.ok) (h : Good n c0 s a w) (live : List Nat) : Good n c0 (s.norm c0.mem.length live) a w := by
  obtain ⟨Al, be, hc, ht, hn, hd, hr⟩ := h
  let vs := live.map fun t => (t, s.get t)
  let l := reachFrom s.mem 64 0 (addNew (List.range c0.mem.length) (blksOf (vs.flatMap fun x => x.2.allCells)))
  have hl : l.Nodup := reach_nodup _ _ _ _ (addNew_nodup _ _ List.nodup_range)
  obtain ⟨m, hm⟩ : ∃ m, l = List.range c0.mem.length ++ m := by
    obtain ⟨m1, h1⟩ := addNew_pre (blksOf (vs.flatMap fun x => x.2.allCells)) (List.range c0.mem.length)
    obtain ⟨m2, h2⟩ := reach_pre s.mem 64 0 (addNew (List.range c0.mem.length) (blksOf (vs.flatMap fun x => x.2.allCells)))
    exact ⟨m1 ++ m2, by show reachFrom _ _ _ _ = _; rw [h2, h1]; simp⟩
  obtain ⟨h1, h2⟩ := step_nm hc hl
  refine ⟨Al, _, h1, ⟨?_, ht.os, ht.tape, ht.output, ht.size, ht.block, ht.al, ht.alnew, fun g hg => ht.livenew g (h2 g hg), fun b cs hb => ?_⟩, hn, hd, fun t => ?_⟩
  · intro x v hx
    have h3 := nm_r1 (l := l) x v (ht.keeps x v hx)
    have hb := r1_below hc0 hx
    rw [hm, renV_below hb, ← hm] at h3
    exact h3
  · rcases ht.boxes b cs hb with ⟨cs', hb'⟩ | hb'
    rotate_left
    · exact .inr hb'
    have hlt : b < c0.mem.length := (List.getElem?_eq_some_iff.1 hb).1
    have hlb : l[b]? = some b := by
      rw [hm, List.getElem?_append_left (by simpa using hlt), List.getElem?_range hlt]
    exact .inl ⟨_, nm_mem (c := ⟨w, Al, be, s.mem⟩) hlb hb'⟩
  · rcases getL_live (fun t => s.get t) (renA l) live t with e | e
    · show (Cf.nm ⟨w, Al, be, s.mem⟩ l).ra (St.get (s.norm c0.mem.length live) t) _
      rw [show St.get (s.norm c0.mem.length live) t = A.junk from e]
      trivial
    · show (Cf.nm ⟨w, Al, be, s.mem⟩ l).ra (St.get (s.norm c0.mem.length live) t) _
      rw [show St.get (s.norm c0.mem.length live) t = renA l (s.get t) from e]
      exact nm_ra (hr t)

end Go.Vm

namespace Go.Vm

def zeroVal : C → Value
  | .int k => .int k 0
  | .bool => .bool false
  | .str => .string ⟨#[]⟩
  | _ => .slice none 0 0

def aggD : TypeDesc → Bool
  | .struct _ => true
  | .array _ _ => true
  | _ => false

def KOk (P : Program) (d : TypeDesc) (cells : List C) : TK → Prop
  | .other => True
  | .strct fs => ∃ fields : Array Field, d = .struct fields ∧ fields.size = fs.length ∧ ∀ (j off ft : Nat), fs[j]? = some (off, ft) → ∃ f : Field, fields[j]? = some f ∧ f.offset = off ∧ f.type = ft ∧
      ∃ fi, P.info? ft = some fi ∧ fi.size ≠ 0
  | .arr n e => d = .array n e
  | .slc e => d = .slice e ∧ ∀ k, cells = [k] → isSl k = true ∧ ∃ ei, P.info? e = some ei ∧ ei.size = (rowOf k).length
  | .str => d = .string
  | .bool => d = .bool
  | .int k => d = .int k

/-- What the table says of a type is so. -/
def TOk (P : Program) (t : Nat) (i : TI) : Prop :=
  ∃ info d z, P.info? t = some info ∧ info.size = i.size ∧ info.bytes = i.bytes ∧ P.underlying t = some d ∧ i.agg = aggD d ∧ KOk P d i.cells i.kind ∧
    info.zero = some z ∧ z.cells.size = i.size ∧ (i.cells = [] ∨ z.cells.toList = i.cells.map zeroVal)

def HEnter (P : Program) (f : Nat) : Prop := ∀ (args : Array Value) (w : World), (callFunc f args).run P w = .ok (.enter f args) w

/-- What is known of the global variables. -/
def GlobOK (gl : Nat → V) (c : Cf) : Prop := ∀ g, c.r1 (gl g) (.pointer (some ⟨g, 0, none⟩))

def argBlks (args : List A0) : List Nat := blksOf (args.flatMap A0.cells)

/-- Boxes that no argument refers to are left alone. -/
def FrB (c : Cf) (args : List A0) (w' : World) : Prop :=
  ∀ (b : Nat) (cs : List V) (g cap : Nat), c.mem[b]? = some (.box cs) → c.be[b]? = some (.blk g cap) → b ∉ argBlks args → w'.heap[g]? = c.w.heap[g]?

/-- A handler says what the call does. -/
def HSound (P : Program) (gl : Nat → V) (f : Nat) (cm : Bool) (h : Hnd) : Prop :=
  HEnter P f ∧ ∀ (R : Type) (args : List A0) (vs : List Value) (c : Cf) (K : Cont R) (r : R), c.ok → GlobOK gl c → vs.length = args.length →
    (∀ (i : Nat) (a : A0), args[i]? = some a → ∃ v, vs[i]? = some v ∧ c.ra0 a v) → h R args c.mem K = some r →
    Calls P f vs.toArray c.w fun e w' => ∃ v av Al be mem', e = .returned v ∧ K av mem' = some r ∧ (⟨w', Al, be, mem'⟩ : Cf).ok ∧
      c.To ⟨w', Al, be, mem'⟩ ∧ (⟨w', Al, be, mem'⟩ : Cf).ra av v ∧ (cm = true → Ext c.w w') ∧ FrB c args w'

structure EnvOK (P : Program) (E : Env) : Prop where
  ti : ∀ t i, E.ti t = some i → TOk P t i
  call : ∀ f h, E.call f = some h → HSound P E.glob f (E.calm f) h

theorem FrB.of_ext {c : Cf} (hc : c.ok) {args : List A0} {w' : World} (h : Ext c.w w') : FrB c args w' :=
  fun b _ g cap hm e _ => h.block g (live_lt hc ⟨b, _, cap, hm, rfl, e⟩)

theorem info_size {P : Program} {E : Env} (hE : EnvOK P E) {t : Nat} {i : TI} (h : E.ti t = some i) (w : World) : (sizeOf t).run P w = .ok i.size w := by
  obtain ⟨info, d, z, h1, h2, _⟩ := hE.ti t i h
  simp [sizeOf, typeInfo, h1, h2]

theorem info_agg {P : Program} {E : Env} (hE : EnvOK P E) {t : Nat} {i : TI} (h : E.ti t = some i) (w : World) : (isAgg t).run P w = .ok i.agg w := by
  obtain ⟨info, d, z, h1, h2, h3, h4, h5, _⟩ := hE.ti t i h
  simp only [isAgg, underlying, Sem.run_bind, run_program, Result.andThen_ok, h4, Sem.run_pure]
  rw [h5]
  cases d <;> rfl

theorem under_run {P : Program} {t : Nat} {d : TypeDesc} (h : P.underlying t = some d) (w : World) : (underlying t).run P w = .ok d w := by
  simp [underlying, h]

section
variable {P : Program} {E : Env}

/-- The evaluator's operands are the machine's. -/
def Evs (E : Env) (c : Cf) (s : St) (a : Act) : Prop := c.mem = s.mem ∧ ∀ x, c.ra (E.eval s x) (a.eval x)

/-- This operation reads memory. -/
def memOp : Op → Bool
  | .load .. => true
  | .convert .. => true
  | _ => false

/-- An operation that only reckons and reads. -/
def PureRes (P : Program) (c : Cf) (a : Act) (o : Oper) {R : Type} (K : Cont R) (mem : List Blk) (r : R) : Prop :=
  ∃ av v, K av mem = some r ∧ (∀ w', (memOp o.op = true → Ext c.w w') → (execOp a.eval o).run P w' = .ok (.value v) w') ∧ c.ra av v

theorem rd_ext {c : Cf} (hc : c.ok) {w' : World} (hw : Ext c.w w') {u : U} {v : Value} (h : Rd c.w c.Al u v) : Rd w' c.Al u v :=
  Rd_mono (fun g hg => ⟨hg, hw.block g (hc.lt g hg)⟩) u v h

theorem add_lit (g off n : Nat) : (⟨g, off, none⟩ : Addr).add n = ⟨g, off + n, none⟩ := by
  unfold Addr.add; split <;> simp_all

/-- Cells that are read through a pointer. -/
theorem cellsAt_ok {c : Cf} (hc : c.ok) {p : V} {v : Value} {n : Nat} {cs : List V} (h : cellsAt c.mem p n = some cs) (hp : c.r1 p v) (hn : n ≠ 0) :
    ∃ (g off : Nat) (vs : List Value), v = .pointer (some ⟨g, off, none⟩) ∧ vs.length = n ∧ g < c.w.heap.size ∧ (∀ (j : Nat) (u : Value), vs[j]? = some u → c.w.cell? ⟨g, off + j, none⟩ = some u) ∧
      cs.length = n ∧ ∀ (j : Nat) (x : V), cs[j]? = some x → ∃ u, vs[j]? = some u ∧ c.r1 x u := by
  cases p with
  | ptr b off =>
    simp only [cellsAt] at h
    split at h
    · rename_i cells hm
      split at h
      · rename_i hl
        cases h
        obtain ⟨g, cap, e, rfl⟩ := hp
        obtain ⟨g', cap', row, T, e', hh, hs, hx⟩ := hc.blk b _ hm
        rw [e] at e'; cases e'
        refine ⟨g, off, (row.toList.drop off).take n, rfl, by simp; omega, (Array.getElem?_eq_some_iff.1 hh).1, ?_, by simp; omega, ?_⟩
        · intro j u hu
          rw [List.getElem?_take] at hu
          split at hu
          · rw [List.getElem?_drop] at hu
            simp [World.cell?, hh]
            simpa using hu
          · cases hu
        · intro j x hj
          rw [List.getElem?_take] at hj
          split at hj
          · rename_i hjn
            rw [List.getElem?_drop] at hj
            obtain ⟨u, hu, hr⟩ := hx _ x hj
            exact ⟨u, by rw [List.getElem?_take, if_pos hjn, List.getElem?_drop]; simpa using hu, hr⟩
          · cases hj
      · cases h
    · cases h
  | ep b i off =>
    simp only [cellsAt] at h
    split at h
    · rename_i k xs hm
      split at h
      · rename_i hl
        cases h
        simp only [Cf.r1, hm] at hp
        obtain ⟨hi, g, cap, e, rfl⟩ := hp
        obtain ⟨hs, hx⟩ := hc.blk b _ hm
        rcases hx with ⟨g', cap', row, T, e', hh, hsz, hlc, hx⟩ | ⟨e', _⟩
        · rw [e] at e'; cases e'
          have hwd : (i + 1) * (rowOf k).length ≤ cap * (rowOf k).length := Nat.mul_le_mul_right _ (by omega)
          rw [Nat.add_mul, Nat.one_mul] at hwd
          refine ⟨g, _, (row.toList.drop (i * (rowOf k).length + off)).take n, rfl, by simp; omega, (Array.getElem?_eq_some_iff.1 hh).1, ?_, ?_, ?_⟩
          · intro j u hu
            rw [List.getElem?_take] at hu
            split at hu
            · rw [List.getElem?_drop] at hu
              simp [World.cell?, hh]
              simpa using hu
            · cases hu
          · have := elemC_len k xs i
            simp; omega
          · intro j x hj
            rw [List.getElem?_map, List.getElem?_take] at hj
            split at hj
            · rename_i hjn
              rw [List.getElem?_drop] at hj
              cases hd : (elemC k xs i)[off + j]? with
              | none => rw [hd] at hj; cases hj
              | some d =>
                rw [hd] at hj; cases hj
                have hcell : (cellsU k xs)[i * (rowOf k).length + (off + j)]? = some d.U := by
                  have h1 := elemC_cells k xs i hi
                  have h2 : ((elemC k xs i).map D.U)[off + j]? = some d.U := by rw [List.getElem?_map, hd]; rfl
                  rw [h1, List.getElem?_take] at h2
                  split at h2
                  · rw [List.getElem?_drop] at h2; exact h2
                  · cases h2
                obtain ⟨u, hu, hr⟩ := hx _ _ hcell
                refine ⟨u, ?_, hr⟩
                rw [List.getElem?_take, if_pos hjn, List.getElem?_drop]
                rw [← Nat.add_assoc] at hu
                simpa using hu
            · cases hj
        · rw [e] at e'; cases e'
      · cases h
    · cases h
  | dp ds =>
    simp only [cellsAt] at h
    split at h
    · rename_i hl
      cases h
      rcases hp with rfl | ⟨g, off, rfl, hg, hr⟩
      · simp at hl; exact absurd hl hn
      · have hget : ∀ j : Nat, j < n → ∃ u, c.w.cell? ⟨g, off + j, none⟩ = some u ∧ ∀ d, ds[j]? = some d → Rd c.w c.Al d.U u := by
          intro j hj
          have hjl : j < ds.length := by omega
          obtain ⟨u, hu, hr⟩ := RdC_iff.1 hr j ds[j].U (by simp [hjl])
          exact ⟨u, hu, fun d hd => by rw [List.getElem?_eq_getElem hjl] at hd; cases hd; exact hr⟩
        refine ⟨g, off, (List.range n).map fun j => (c.w.cell? ⟨g, off + j, none⟩).getD undef, rfl, by simp, hc.lt g hg, ?_, by simp; omega, ?_⟩
        · intro j u hu
          rw [List.getElem?_map] at hu
          cases hj : (List.range n)[j]? with
          | none => rw [hj] at hu; cases hu
          | some j' =>
            have hjn : j < n := by simpa using (List.getElem?_eq_some_iff.1 hj).1
            have : j' = j := by simp [hjn] at hj; exact hj.symm
            subst this
            rw [hj] at hu
            obtain ⟨u', hu', _⟩ := hget j' hjn
            simp [hu'] at hu
            rw [hu', hu]
        · intro j x hj
          rw [List.getElem?_map, List.getElem?_take] at hj
          split at hj
          · rename_i hjn
            cases hd : ds[j]? with
            | none => rw [hd] at hj; cases hj
            | some d =>
              rw [hd] at hj; cases hj
              obtain ⟨u, hu, hr⟩ := hget j hjn
              exact ⟨u, by simp [hjn, hu], hr d hd⟩
          · cases hj
    · cases h
  | _ => simp [cellsAt] at h

end
end Go.Vm

namespace Go.Vm
section
variable {P : Program} {E : Env} {R : Type} {K : Cont R} {r : R} {c : Cf} {s : St} {a : Act} {o : Oper}

theorem p_move (hev : Evs E c s a) {x : Operand} (ho : o.op = .move x ∨ o.op = .assign x) (h : K (E.eval s x) s.mem = some r) : PureRes P c a o K s.mem r :=
  ⟨_, a.eval x, h, fun w' _ => by rcases ho with ho | ho <;> simp [execOp, ho], hev.2 x⟩

theorem p_pick (hev : Evs E c s a) {x y z : Operand} (ho : o.op = .pick x y z) (h : vop E o.op s K = some r) : PureRes P c a o K s.mem r := by
  rw [ho] at h
  simp only [vop] at h
  split at h
  · rename_i v hv
    have hb := hev.2 x
    rw [hv] at hb
    have hb : a.eval x = .bool v := by simpa [Cf.ra, Cf.ra0, Cf.r1, enc, Rd] using hb
    split at h
    · rename_i hv'
      exact ⟨_, a.eval y, h, fun w' _ => by simp [execOp, ho, hb, asBool, hv'], hev.2 y⟩
    · rename_i hv'
      exact ⟨_, a.eval z, h, fun w' _ => by simp [execOp, ho, hb, asBool, hv'], hev.2 z⟩
  · cases h

/-- 'K1' hands on one cell. -/
theorem pure1 (x : V) (v : Value) (h : K1 K s.mem x = some r) (hr : c.r1 x v) (hrun : ∀ w', (memOp o.op = true → Ext c.w w') → (execOp a.eval o).run P w' = .ok (.value v) w') : PureRes P c a o K s.mem r :=
  ⟨_, v, h, hrun, hr⟩

theorem pint {k : IntKind} {n : Int} (h : K1 K s.mem (.d (.int k) n) = some r) (hrun : ∀ w', (execOp a.eval o).run P w' = .ok (.value (.int k n)) w') : PureRes P c a o K s.mem r :=
  pure1 _ (.int k n) h (by simp only [Cf.r1, enc, Rd]) fun w' _ => hrun w'
theorem pbool {b : Bool} (h : K1 K s.mem (.d .bool b) = some r) (hrun : ∀ w', (execOp a.eval o).run P w' = .ok (.value (.bool b)) w') : PureRes P c a o K s.mem r :=
  pure1 _ (.bool b) h (by simp only [Cf.r1, enc, Rd]) fun w' _ => hrun w'
theorem pstr {b : ByteArray} (h : K1 K s.mem (.d .str b) = some r) (hrun : ∀ w', (execOp a.eval o).run P w' = .ok (.value (.string b)) w') : PureRes P c a o K s.mem r :=
  pure1 _ (.string b) h (by simp only [Cf.r1, enc, Rd]) fun w' _ => hrun w'

theorem cell_ext {w w' : World} (hw : Ext w w') {g off : Nat} (hg : g < w.heap.size) : w'.cell? ⟨g, off, none⟩ = w.cell? ⟨g, off, none⟩ := cell_of_heap (hw.block g hg) off

theorem p_load_core (hE : EnvOK P E) (hc : c.ok) (hev : Evs E c s a) {t : TypeId} {x : Operand} (ho : o.op = .load t x) (h : vop E o.op s K = some r) :
    ∃ av v g off p, K av s.mem = some r ∧ E.eval s x = .v (.one p) ∧ (c.r1 p (.pointer (some ⟨g, off, none⟩)) ∧ a.eval x = .pointer (some ⟨g, off, none⟩)) ∧ g < c.w.heap.size ∧
      (∀ w' : World, w'.heap[g]? = c.w.heap[g]? → (execOp a.eval o).run P w' = .ok (.value v) w') ∧ c.ra av v := by
  rw [ho] at h
  simp only [vop] at h
  split at h
  · rename_i i p hi hx
    have hp := hev.2 x
    rw [hx] at hp
    split at h
    · cases h
    rename_i hn
    have hn : i.size ≠ 0 := by simpa using hn
    split at h
    · rename_i cs hcs
      rw [← hev.1] at hcs
      obtain ⟨g, off, vs, hv, hlen, hg, hcell, hlc, hrel⟩ := cellsAt_ok hc hcs hp hn
      have hp' : c.r1 p (.pointer (some ⟨g, off, none⟩)) := by rw [← hv]; exact hp
      have hload : ∀ w' : World, w'.heap[g]? = c.w.heap[g]? → (loadCells ⟨g, off, none⟩ i.size).run P w' = .ok vs.toArray w' := by
        intro w' hw
        rw [← hlen]
        exact run_loadCells_list w' _ vs fun j u hu => by rw [add_lit, cell_of_heap hw]; exact hcell j u hu
      split at h
      · rename_i hagg
        refine ⟨_, .agg vs.toArray, g, off, p, h, hx, ⟨hp', hv⟩, hg, fun w' hw => ?_, ⟨vs.toArray, rfl, by simp [hlen, hlc], fun j y hy => ?_⟩⟩
        · simp [execOp, ho, Instr.loadAt, hv, Instr.sureAddr, loadVar, info_agg hE hi, hagg, info_size hE hi, hload w' hw]
        · obtain ⟨u, hu, hr⟩ := hrel j y hy
          exact ⟨u, by simpa using hu, hr⟩
      · rename_i hagg
        split at h
        · rename_i y
          obtain ⟨u, hu, hr⟩ := hrel 0 y rfl
          refine ⟨_, u, g, off, p, h, hx, ⟨hp', hv⟩, hg, fun w' hw => ?_, hr⟩
          have h1 : w'.cell? ⟨g, off, none⟩ = some u := by rw [cell_of_heap hw]; simpa using hcell 0 u hu
          simp [execOp, ho, Instr.loadAt, hv, Instr.sureAddr, loadVar, info_agg hE hi, hagg, run_load, h1]
        · cases h
    · cases h
  · cases h

theorem p_load (hE : EnvOK P E) (hc : c.ok) (hev : Evs E c s a) {t : TypeId} {x : Operand} (ho : o.op = .load t x) (h : vop E o.op s K = some r) : PureRes P c a o K s.mem r := by
  obtain ⟨av, v, g, off, p, hK, _, _, hg, hrun, hra⟩ := p_load_core hE hc hev ho h
  exact ⟨av, v, hK, fun w' hw => hrun w' ((hw (by rw [ho]; rfl)).block g hg), hra⟩

theorem p_nilCheck (hev : Evs E c s a) {x : Operand} (ho : o.op = .nilCheck x) (h : vop E o.op s K = some r) : PureRes P c a o K s.mem r := by
  rw [ho] at h
  simp only [vop] at h
  have hp := hev.2 x
  split at h
  · rename_i b off hx
    rw [hx] at hp
    obtain ⟨g, cap, e, hv⟩ := hp
    exact pure1 _ _ h ⟨g, cap, e, rfl⟩ fun w' _ => by simp [execOp, ho, hv]
  · rename_i b i off hx
    rw [hx] at hp
    split at h
    · rename_i k xs hm
      rw [← hev.1] at hm
      simp only [Cf.ra, Cf.ra0, Cf.r1, hm] at hp
      obtain ⟨hi, g, cap, e, hv⟩ := hp
      exact pure1 _ _ h (by simp only [Cf.r1, hm]; exact ⟨hi, g, cap, e, rfl⟩) fun w' _ => by simp [execOp, ho, hv]
    · cases h
  · rename_i d ds hx
    rw [hx] at hp
    rcases hp with h0 | ⟨g, off, hv, hg, hr⟩
    · cases h0
    · exact pure1 _ _ h (.inr ⟨g, off, rfl, hg, hr⟩) fun w' _ => by simp [execOp, ho, hv]
  · rename_i k y hx
    rw [hx] at hp
    obtain ⟨g, off, hv, hg, hr⟩ := hp
    exact pure1 _ _ h ⟨g, off, rfl, hg, hr⟩ fun w' _ => by simp [execOp, ho, hv]
  · cases h

theorem eqGuard_int (op : BinOp) (t : TypeId) (x y : Operand) (k k' : IntKind) (m n : Int) (w : World) : (eqGuard op t x y (.int k m) (.int k' n)).run P w = .ok () w := by
  unfold eqGuard; split <;> rfl
theorem eqGuard_str (op : BinOp) (t : TypeId) (x y : Operand) (m n : ByteArray) (w : World) : (eqGuard op t x y (.string m) (.string n)).run P w = .ok () w := by
  unfold eqGuard; split <;> rfl
theorem eqGuard_bool (op : BinOp) (t : TypeId) (x y : Operand) (m n : Bool) (w : World) : (eqGuard op t x y (.bool m) (.bool n)).run P w = .ok () w := by
  unfold eqGuard; split <;> rfl


theorem bits_and (k : IntKind) (a b : Int) (w : World) : (Op.intBits .and k a b).run P w = .ok (.int k (bits .and k a b)) w := by
  simp [Op.intBits, bits]

theorem p_bin (hE : EnvOK P E) (hev : Evs E c s a) {op : BinOp} {t u : TypeId} {x y : Operand} (ho : o.op = .binOp op t x y u) (h : vop E o.op s K = some r) : PureRes P c a o K s.mem r := by
  rw [ho] at h
  simp only [vop] at h
  have hx := hev.2 x
  have hy := hev.2 y
  split at h
  · rename_i p q ex ey
    rw [ex] at hx; rw [ey] at hy
    unfold vbin at h
    split at h
    · rename_i k m k' n
      have hx : a.eval x = .int k m := by simpa [Cf.ra, Cf.ra0, Cf.r1, enc, Rd] using hx
      have hy : a.eval y = .int k' n := by simpa [Cf.ra, Cf.ra0, Cf.r1, enc, Rd] using hy
      split at h
      · split at h
        · cases h
        · rename_i hn
          exact pint h fun w' => by simp [execOp, ho, hx, hy, eqGuard_int, binOp, Op.shift, hn]
      · rename_i hop
        split at h
        · rename_i hk; subst hk
          split at h
          · exact pint h fun w' => by simp [execOp, ho, hx, hy, eqGuard_int, binOp, Op.intArith]
          · exact pint h fun w' => by simp [execOp, ho, hx, hy, eqGuard_int, binOp, Op.intArith]
          · exact pint h fun w' => by simp [execOp, ho, hx, hy, eqGuard_int, binOp, Op.intArith]
          · split at h
            · cases h
            · rename_i hn
              exact pint h fun w' => by simp [execOp, ho, hx, hy, eqGuard_int, binOp, Op.intDiv, hn]
          · split at h
            · cases h
            · rename_i hn
              exact pint h fun w' => by simp [execOp, ho, hx, hy, eqGuard_int, binOp, Op.intDiv, hn]
          · exact pbool h fun w' => by simp [execOp, ho, hx, hy, eqGuard_int, binOp, Op.intCmp]
          · exact pbool h fun w' => by simp [execOp, ho, hx, hy, eqGuard_int, binOp, Op.intCmp]
          · exact pbool h fun w' => by simp [execOp, ho, hx, hy, eqGuard_int, binOp, Op.intCmp]
          · exact pbool h fun w' => by simp [execOp, ho, hx, hy, eqGuard_int, binOp, Op.intCmp]
          · exact pbool h fun w' => by simp [execOp, ho, hx, hy, eqGuard_int, binOp, Op.intCmp]
          · exact pbool h fun w' => by simp [execOp, ho, hx, hy, eqGuard_int, binOp, Op.intCmp]
          · exact pint h fun w' => by simp [execOp, ho, hx, hy, eqGuard_int, binOp, bits_and]
          · cases h
        · cases h
    · rename_i m n
      have hx : a.eval x = .string m := by simpa [Cf.ra, Cf.ra0, Cf.r1, enc, Rd] using hx
      have hy : a.eval y = .string n := by simpa [Cf.ra, Cf.ra0, Cf.r1, enc, Rd] using hy
      split at h
      · split at h
        · rename_i hn
          have hn' : ¬ ((m.size + n.size : Nat) : Int) > IntKind.i64.max := by simp [IntKind.max, IntKind.bits, IntKind.signed]; omega
          exact pstr h fun w' => by
            simp only [execOp, ho, hx, hy, binOp, Op.stringOp, Sem.run_bind, eqGuard_str, Result.andThen_ok]
            rw [if_neg hn']
            rfl
        · cases h
      all_goals first
        | cases h; done
        | exact pbool h fun w' => by simp [execOp, ho, hx, hy, eqGuard_str, binOp, Op.stringOp]
    · rename_i m n
      have hx : a.eval x = .bool m := by simpa [Cf.ra, Cf.ra0, Cf.r1, enc, Rd] using hx
      have hy : a.eval y = .bool n := by simpa [Cf.ra, Cf.ra0, Cf.r1, enc, Rd] using hy
      split at h
      · rename_i hb
        have hub : P.underlying t = some .bool := by
          unfold Env.isBool at hb
          split at hb
          · rename_i i1 i2 i3 i4 hi
            obtain ⟨info, d, z, h1, h2, h3, h4, h5, h6, _⟩ := hE.ti t _ hi
            rw [h4]; exact congrArg some h6
          · cases hb
        split at h
        · exact pbool h fun w' => by simp [execOp, ho, hx, hy, eqGuard_bool, run_eql_bool w' t m n hub]
        · exact pbool h fun w' => by simp [execOp, ho, hx, hy, eqGuard_bool, run_neq_bool w' t m n hub]
        · cases h
      · cases h
    · cases h
  · cases h

theorem p_un (hev : Evs E c s a) {op : UnOp} {t : TypeId} {x : Operand} (ho : o.op = .unOp op t x) (h : vop E o.op s K = some r) : PureRes P c a o K s.mem r := by
  rw [ho] at h
  simp only [vop] at h
  have hx := hev.2 x
  split at h
  · rename_i v ex
    rw [ex] at hx
    have hx : a.eval x = .bool v := by simpa [Cf.ra, Cf.ra0, Cf.r1, enc, Rd] using hx
    exact pbool h fun w' => by simp [execOp, ho, hx, Op.unary]
  · rename_i k n ex
    rw [ex] at hx
    have hx : a.eval x = .int k n := by simpa [Cf.ra, Cf.ra0, Cf.r1, enc, Rd] using hx
    exact pint h fun w' => by simp [execOp, ho, hx, Op.unary, Op.intArith]
  · cases h


theorem vcaps_ok (hev : Evs E c s a) : ∀ (l : List Operand) (caps : List CV), vcaps E s l = some caps → CapsOK c.w c.Al c.be caps (l.map a.eval)
  | [], caps, h => by simp only [vcaps] at h; cases h; rfl
  | x :: r, caps, h => by
    simp only [vcaps] at h
    split at h
    · rename_i b off l hx hl
      cases h
      have hp := hev.2 x
      rw [hx] at hp
      obtain ⟨g, cap, e, hv⟩ := hp
      exact ⟨g, cap, r.map a.eval, e, by rw [List.map_cons, hv], vcaps_ok hev r l hl⟩
    · cases h

theorem p_makeFunc (hev : Evs E c s a) {fn : Fn} {first captured : Array Operand} (ho : o.op = .makeFunc fn first captured) (h : vop E o.op s K = some r) : PureRes P c a o K s.mem r := by
  rw [ho] at h
  cases fn with
  | func f =>
    simp only [vop] at h
    split at h
    · rename_i hf
      split at h
      · rename_i caps hc
        refine pure1 _ (.func (.func f) #[] (captured.toList.map a.eval).toArray) h ⟨_, rfl, vcaps_ok hev _ _ hc⟩ fun w' _ => ?_
        have e1 : first.map a.eval = #[] := by
          rw [Array.isEmpty_iff] at hf; rw [hf]; simp
        have e2 : captured.map a.eval = (captured.toList.map a.eval).toArray := by apply Array.ext'; simp
        simp [execOp, ho, Instr.makeFunc, e1, e2]
      · cases h
    · cases h
  | _ => simp [vop] at h

theorem isStr_ok (hE : EnvOK P E) {t : Nat} (h : E.isStr t = true) : P.underlying t = some .string := by
  unfold Env.isStr at h
  split at h
  · rename_i hi
    obtain ⟨info, d, z, h1, h2, h3, h4, h5, h6, _⟩ := hE.ti t _ hi
    rw [h4]; exact congrArg some h6
  · cases h

theorem isSlc_ok (hE : EnvOK P E) {t : Nat} (h : E.isSlc t = true) : ∃ e, P.underlying t = some (.slice e) := by
  unfold Env.isSlc at h
  split at h
  · rename_i e hi
    obtain ⟨info, d, z, h1, h2, h3, h4, h5, h6, _⟩ := hE.ti t _ hi
    exact ⟨e, by rw [h4]; exact congrArg some h6.1⟩
  · cases h

theorem wide_ok (hE : EnvOK P E) {t : Nat} {k : C} (h : E.wide t k = true) : ∃ e, P.underlying t = some (.slice e) ∧ ∀ w, (sizeOf e).run P w = .ok (rowOf k).length w := by
  unfold Env.wide at h
  split at h
  · rename_i e hi
    obtain ⟨info, d, z, h1, h2, h3, h4, h5, h6, _⟩ := hE.ti t _ hi
    split at h
    · rename_i ei he
      refine ⟨e, by rw [h4]; exact congrArg some h6.1, fun w => ?_⟩
      rw [info_size hE he, beq_iff_eq.1 h]
    · cases h
  · cases h

theorem wideA_ok (hE : EnvOK P E) {t n : Nat} {k : C} (h : E.wideA t k n = true) : ∃ e, P.underlying t = some (.array n e) ∧ isSl k = true ∧ ∀ w, (sizeOf e).run P w = .ok (rowOf k).length w := by
  unfold Env.wideA at h
  split at h
  · rename_i m e hi
    obtain ⟨info, d, z, h1, h2, h3, h4, h5, h6, _⟩ := hE.ti t _ hi
    split at h
    · rename_i ei he
      simp only [Bool.and_eq_true, beq_iff_eq] at h
      refine ⟨e, by rw [h4, ← h.1.2]; exact congrArg some h6, h.2, fun w => ?_⟩
      rw [info_size hE he, h.1.1]
    · cases h
  · cases h

theorem bytes_cell (xs : List Int) (i : Nat) (hi : i < xs.length) : (List.map (enc (.int .u8)) xs)[i]? = some (.i .u8 xs[i]) := by
  show (List.map (fun n : Int => U.i .u8 n) xs)[i]? = _
  simp [hi]

theorem p_conv (hE : EnvOK P E) (hc : c.ok) (hev : Evs E c s a) {t u : TypeId} {x : Operand} (ho : o.op = .convert t u x) (h : vop E o.op s K = some r) : PureRes P c a o K s.mem r := by
  rw [ho] at h
  simp only [vop] at h
  have hx := hev.2 x
  split at h
  · rename_i i1 i2 i3 i4 i5 k k' n h1 h2 ex
    rw [ex] at hx
    have hx : a.eval x = .int k' n := by simpa [Cf.ra, Cf.ra0, Cf.r1, enc, Rd] using hx
    obtain ⟨info, d, z, g1, g2, g3, g4, g5, g6, _⟩ := hE.ti t _ h1
    obtain ⟨info', d', z', g1', g2', g3', g4', g5', g6', _⟩ := hE.ti u _ h2
    have hu : P.underlying u = some (.int k) := by rw [g4']; exact congrArg some g6'
    exact pint h fun w' => by simp [execOp, ho, hx, convert, under_run g4, under_run hu, Conv.intToInt]
  · rename_i i1 i2 i3 i4 i5 xs h1 h2 ex
    rw [ex] at hx
    obtain ⟨info', d', z', g1', g2', g3', g4', g5', g6', _⟩ := hE.ti u _ h2
    have hu : P.underlying u = some .string := by rw [g4']; exact congrArg some g6'
    split at h
    · rename_i hb
      obtain ⟨e, hs, he⟩ : ∃ e, P.underlying t = some (.slice e) ∧ P.underlying e = some (.int .u8) := by
        unfold Env.isBytes at hb
        split at hb
        · rename_i q1 q2 q3 q4 e hq
          split at hb
          · rename_i p1 p2 p3 p4 hp
            obtain ⟨_, d1, _, _, _, _, f4, _, f6, _⟩ := hE.ti t _ hq
            obtain ⟨_, d2, _, _, _, _, f4', _, f6', _⟩ := hE.ti e _ hp
            exact ⟨e, by rw [f4]; exact congrArg some f6.1, by rw [f4']; exact congrArg some f6'⟩
          · cases hb
        · cases hb
      have hx : Rd c.w c.Al (.l xs.length (xs.map (enc (.int .u8)))) (a.eval x) := hx
      simp only [Rd] at hx
      obtain ⟨ad, cap, hv, hn, hd⟩ := hx
      refine pure1 (.d .str (ofBytes xs)) (.string (ofBytes xs)) h (by simp only [Cf.r1, enc, Rd]) fun w' hw => ?_
      have key : (convert t u (.slice ad xs.length cap)).run P w' = .ok (.string (ofBytes xs)) w' := by
        rcases hd with h0 | ⟨g, off, rfl, hg, hr⟩
        · have hxs : xs = [] := List.eq_nil_of_length_eq_zero h0
          subst hxs
          cases ad with
          | none => exact run_convert_bytes_nil w' t e hs he 0 cap u hu
          | some ad =>
            rw [run_convert_bytes_string w' t u e _ _ cap hs he hu, run_bytesToString w' ad _ cap [] (by simp [loadCells, loadCellsFrom])]
            rfl
        · refine run_convert_bytes_arg w' t e hs he g off xs.length cap xs rfl (fun i hi => ?_) u hu
          obtain ⟨v, hv, hr⟩ := RdC_iff.1 hr i (.i .u8 xs[i]) (bytes_cell xs i hi)
          rw [cell_of_heap ((hw (by rw [ho]; rfl)).block g (hc.lt g hg)), hv]
          simp only [Rd] at hr
          rw [hr]
          simp [hi]
      simp [execOp, ho, hv, key]
    · cases h
  · cases h

theorem sliceBnd_ok {c : Cf} {x : Option Operand} {dfl n : Int} (hev : Evs E c s a) (h : sliceBnd (x.map (E.eval s)) dfl = some n) :
    (x = none ∧ n = dfl) ∨ ∃ y k, x = some y ∧ a.eval y = .int k n := by
  cases x with
  | none => simp [sliceBnd] at h; exact .inl ⟨rfl, h.symm⟩
  | some y =>
    have hy := hev.2 y
    simp only [Option.map_some, sliceBnd] at h
    split at h
    · rename_i h0; cases h0
    · rename_i k m e
      cases h
      have e' : E.eval s y = .v (.one (.d (.int k) n)) := by simpa using e
      rw [e'] at hy
      exact .inr ⟨y, k, rfl, by simpa [Cf.ra, Cf.ra0, Cf.r1, enc, Rd] using hy⟩
    · cases h

/-- The bounds of a cut. -/
theorem bounds_run {lo hi : Option Operand} {l h : Int} {len cap : Nat} {b : Bool} (hlo : (lo = none ∧ l = 0) ∨ ∃ y k, lo = some y ∧ a.eval y = .int k l)
    (hhi : (hi = none ∧ h = (len : Int)) ∨ ∃ y k, hi = some y ∧ a.eval y = .int k h) (h0 : 0 ≤ l) (h1 : l ≤ h) (h2 : h ≤ (len : Int)) (hcap : len ≤ cap) (w : World) :
    (Instr.sliceBounds b len cap (lo.map a.eval) (hi.map a.eval) none).run P w = .ok (l.toNat, h.toNat, cap) w := by
  have e1 : ∀ (k : IntKind) (n : Int) (y : Nat) (code : BoundsCode), 0 ≤ n → n ≤ (y : Int) → (Instr.sliceBound (.int k n) y code).run P w = .ok n.toNat w := by
    intro k n y code g1 g2
    simp [Instr.sliceBound, asIntOf, g1, g2]
  unfold Instr.sliceBounds
  rcases hlo with ⟨rfl, rfl⟩ | ⟨y, k, rfl, hy⟩ <;> rcases hhi with ⟨rfl, rfl⟩ | ⟨y', k', rfl, hy'⟩
  · simp
  · simp [hy', e1 k' h cap _ (by omega) (by omega)]
  · simp [hy, e1 k l len _ h0 (by omega)]
  · simp [hy, hy', e1 k' h cap _ (by omega) (by omega), e1 k l h.toNat _ h0 (by omega)]

theorem RdC_sub {w : World} {Al : Nat → Prop} {g off : Nat} {cs : List U} (h : RdC w Al g cs off) (n m : Nat) : RdC w Al g ((cs.take m).drop n) (off + n) := by
  rw [RdC_iff] at h ⊢
  intro i u hu
  rw [List.getElem?_drop, List.getElem?_take] at hu
  split at hu
  · obtain ⟨v, hv, hr⟩ := h _ u hu
    exact ⟨v, by rw [Nat.add_assoc]; exact hv, hr⟩
  · cases hu

theorem p_slice (hE : EnvOK P E) (hev : Evs E c s a) {t : TypeId} {x : Operand} {lo hi mx : Option Operand} (ho : o.op = .slice t x lo hi mx) (h : vop E o.op s K = some r) : PureRes P c a o K s.mem r := by
  rw [ho] at h
  cases mx with
  | some m => simp [vop] at h
  | none =>
  simp only [vop] at h
  have hx := hev.2 x
  split at h
  · rename_i b ex
    rw [ex] at hx
    have hx : a.eval x = .string b := by simpa [Cf.ra, Cf.ra0, Cf.r1, enc, Rd] using hx
    split at h
    · rename_i l hh el eh
      split at h
      · rename_i ht
        split at h
        · rename_i g0
          split at h
          · rename_i g1
            split at h
            · rename_i g2
              have hu := isStr_ok hE ht
              exact pstr h fun w' => by
                have hb := bounds_run (P := P) (b := false) (sliceBnd_ok hev el) (sliceBnd_ok hev eh) g0 g1 g2 (Nat.le_refl _) w'
                simp [execOp, ho, hx, Instr.sliceAt, under_run hu, Instr.slice, hb]
            · cases h
          · cases h
        · cases h
      · cases h
    · cases h
  · rename_i k y hns ex
    rw [ex] at hx
    split at h
    · rename_i l hh el eh
      split at h
      · rename_i ht
        simp only [Bool.and_eq_true] at ht
        split at h
        · rename_i g0
          split at h
          · rename_i g1
            split at h
            · rename_i g2
              obtain ⟨e, hu, hsz⟩ := wide_ok hE ht.2
              have hx : Rd c.w c.Al (enc k y) (a.eval x) := hx
              rw [enc_sl ht.1] at hx
              simp only [Rd] at hx
              obtain ⟨ad, cap, hv, hlc, hcs⟩ := hx
              obtain ⟨hc1, hc2⟩ := subC_cells ht.1 y l.toNat hh.toNat (by omega)
              refine pure1 _ (.slice (if cap = l.toNat then ad else ad.map (·.add (l.toNat * (rowOf k).length))) (hh.toNat - l.toNat) (cap - l.toNat)) h ?_ fun w' _ => ?_
              · simp only [Cf.r1]
                rw [enc_sl ht.1]
                simp only [Rd]
                refine ⟨_, cap - l.toNat, by rw [hc2], by rw [hc2]; omega, ?_⟩
                rw [hc1, hc2]
                by_cases hz : hh.toNat - l.toNat = 0
                · exact .inl hz
                · right
                  rcases hcs with hz' | ⟨g, off, rfl, hg, hr⟩
                  · omega
                  · refine ⟨g, off + l.toNat * (rowOf k).length, ?_, hg, ?_⟩
                    · rw [if_neg (by omega)]
                      simp [add_lit]
                    · exact RdC_sub hr _ _
              · have hb := bounds_run (P := P) (b := true) (sliceBnd_ok hev el) (sliceBnd_ok hev eh) g0 g1 g2 hlc w'
                simp [execOp, ho, hv, Instr.sliceAt, under_run hu, Instr.slice, hb, hsz]
            · cases h
          · cases h
        · cases h
      · cases h
    · cases h
  · rename_i k y ex
    rw [ex] at hx
    split at h
    · rename_i l hh el eh
      split at h
      · rename_i ht
        split at h
        · rename_i g0
          split at h
          · rename_i g1
            split at h
            · rename_i g2
              obtain ⟨e, hu, hs, hsz⟩ := wideA_ok hE ht
              obtain ⟨g, off, hv, hg, hr⟩ := hx
              obtain ⟨hc1, hc2⟩ := subC_cells hs y l.toNat hh.toNat (by omega)
              refine pure1 _ (.slice (some (if lenC k y = l.toNat then ⟨g, off, none⟩ else (⟨g, off, none⟩ : Addr).add (l.toNat * (rowOf k).length))) (hh.toNat - l.toNat) (lenC k y - l.toNat)) h ?_ fun w' _ => ?_
              · simp only [Cf.r1]
                rw [enc_sl hs]
                simp only [Rd]
                refine ⟨_, lenC k y - l.toNat, by rw [hc2], by rw [hc2]; omega, ?_⟩
                rw [hc1, hc2]
                by_cases hz : hh.toNat - l.toNat = 0
                · exact .inl hz
                · right
                  refine ⟨g, off + l.toNat * (rowOf k).length, ?_, hg, RdC_sub hr.1 _ _⟩
                  rw [if_neg (by omega), add_lit]
              · have hb := bounds_run (P := P) (b := false) (sliceBnd_ok hev el) (sliceBnd_ok hev eh) g0 g1 g2 (Nat.le_refl _) w'
                simp [execOp, ho, hv, Instr.sliceAt, under_run hu, Instr.sureAddr, hb, hsz]
            · cases h
          · cases h
        · cases h
      · cases h
    · cases h
  · cases h

end
end Go.Vm

namespace Go.Vm
section
variable {P : Program} {E : Env} {R : Type} {K : Cont R} {r : R} {c : Cf} {s : St} {a : Act} {o : Oper}

theorem strct_ok (hE : EnvOK P E) {t sz by_ : Nat} {ag : Bool} {cs : List C} {fs : List (Nat × Nat)} (h : E.ti t = some ⟨sz, by_, ag, cs, .strct fs⟩) :
    ∃ fields : Array Field, P.underlying t = some (.struct fields) ∧ ag = true ∧ fields.size = fs.length ∧ ∀ (j off ft : Nat), fs[j]? = some (off, ft) → ∃ f : Field, fields[j]? = some f ∧ f.offset = off ∧ f.type = ft ∧
      ∃ fi, P.info? ft = some fi ∧ fi.size ≠ 0 := by
  obtain ⟨info, d, z, h1, h2, h3, h4, h5, h6, _⟩ := hE.ti t _ h
  obtain ⟨fields, rfl, hl, hf⟩ := h6
  exact ⟨fields, h4, h5, hl, hf⟩

theorem p_fieldAddr (hE : EnvOK P E) (hev : Evs E c s a) {t : TypeId} {x : Operand} {f : Nat} (ho : o.op = .fieldAddr t x f) (h : vop E o.op s K = some r) : PureRes P c a o K s.mem r := by
  rw [ho] at h
  simp only [vop] at h
  have hx := hev.2 x
  split at h
  · rename_i i1 i2 i3 i4 fs p hi ex
    rw [ex] at hx
    split at h
    · rename_i off ft hf
      obtain ⟨fields, hu, _, _, hall⟩ := strct_ok hE hi
      obtain ⟨fd, hfd, hoff, hty, fi, hfi, hsz⟩ := hall f off ft hf
      have run : ∀ (g o' : Nat) (w' : World), a.eval x = .pointer (some ⟨g, o', none⟩) → (execOp a.eval o).run P w' = .ok (.value (.pointer (some ⟨g, o' + off, none⟩))) w' := by
        intro g o' w' hv
        simp [execOp, ho, hv, Instr.fieldAt, under_run hu, hfd, Instr.sureAddr, fieldPlace, sizeOf, typeInfo, hty, hfi, hsz, hoff, add_lit]
      split at h
      · rename_i q hq
        cases p with
        | ptr b o' =>
          simp only [shiftP] at hq; cases hq
          obtain ⟨g, cap, e, hv⟩ := hx
          exact pure1 _ _ h ⟨g, cap, e, rfl⟩ fun w' _ => run g o' w' hv
        | ep b i o' =>
          simp only [shiftP] at hq
          split at hq
          · rename_i k xs hm
            cases hq
            rw [← hev.1] at hm
            simp only [Cf.ra, Cf.ra0, Cf.r1, hm] at hx
            obtain ⟨hi, g, cap, e, hv⟩ := hx
            refine pure1 _ _ h (by simp only [Cf.r1, hm]; exact ⟨hi, g, cap, e, rfl⟩) fun w' _ => ?_
            rw [← Nat.add_assoc]
            exact run g _ w' hv
          · cases hq
        | dp ds =>
          cases ds with
          | nil => simp [shiftP] at hq
          | cons d ds =>
            simp only [shiftP] at hq; cases hq
            rcases hx with h0 | ⟨g, o', hv, hg, hr⟩
            · cases h0
            · refine pure1 _ _ h (.inr ⟨g, o' + off, rfl, hg, ?_⟩) fun w' _ => run g o' w' hv
              have := RdC_sub hr off ((d :: ds).map D.U).length
              rw [List.take_length] at this
              rw [List.map_drop]
              exact this
        | _ => simp [shiftP] at hq
      · cases h
    · cases h
  · cases h

theorem p_field (hE : EnvOK P E) (hev : Evs E c s a) {t : TypeId} {x : Operand} {f : Nat} (ho : o.op = .field t x f) (h : vop E o.op s K = some r) : PureRes P c a o K s.mem r := by
  rw [ho] at h
  simp only [vop] at h
  have hx := hev.2 x
  split at h
  · rename_i i1 i2 i3 i4 fs cs hi ex
    rw [ex] at hx
    obtain ⟨vs, hv, hlen, hrel⟩ := hx
    split at h
    · rename_i off ft hf
      obtain ⟨fields, hu, _, _, hall⟩ := strct_ok hE hi
      obtain ⟨fd, hfd, hoff, hty, fi, hfi, hsz⟩ := hall f off ft hf
      split at h
      · rename_i fti hfti
        split at h
        · rename_i hagg
          have hsize := info_size hE hfti
          refine ⟨_, .agg (vs.extract off (off + fti.size)), h, fun w' _ => ?_, ⟨_, rfl, ?_, fun j y hj => ?_⟩⟩
          · simp [execOp, ho, hv, Instr.field, under_run hu, hfd, asAgg, part, hty, info_agg hE hfti, hagg, hsize, hoff]
          · simp; omega
          · rw [List.getElem?_take] at hj
            split at hj
            · rw [List.getElem?_drop] at hj
              obtain ⟨u, hu', hr⟩ := hrel _ y hj
              refine ⟨u, ?_, hr⟩
              have hlt : off + j < vs.size := (Array.getElem?_eq_some_iff.1 hu').1
              rw [Array.getElem?_extract]
              rw [if_pos (by omega)]
              exact hu'
            · cases hj
        · rename_i hagg
          split at h
          · rename_i y hy
            obtain ⟨u, hu', hr⟩ := hrel off y hy
            refine pure1 y u h hr fun w' _ => ?_
            simp [execOp, ho, hv, Instr.field, under_run hu, hfd, asAgg, part, hty, info_agg hE hfti, hagg, hoff, hu']
          · cases h
      · cases h
    · cases h
  · cases h

theorem idx_ok {n : Nat} {i : Int} {k : Option R} (h : idx n i k = some r) : 0 ≤ i ∧ i < (n : Int) ∧ k = some r := by
  unfold idx at h
  split at h
  · split at h
    · exact ⟨‹_›, ‹_›, h⟩
    · cases h
  · cases h

theorem p_indexAddr (hE : EnvOK P E) (hc : c.ok) (hev : Evs E c s a) {t : TypeId} {x y : Operand} (ho : o.op = .indexAddr t x y) (h : vop E o.op s K = some r) : PureRes P c a o K s.mem r := by
  rw [ho] at h
  simp only [vop] at h
  have hx := hev.2 x
  have hy := hev.2 y
  split at h
  · rename_i k z kk n ex ey
    rw [ex] at hx; rw [ey] at hy
    have hy : a.eval y = .int kk n := by simpa [Cf.ra, Cf.ra0, Cf.r1, enc, Rd] using hy
    split at h
    · rename_i ht
      simp only [Bool.and_eq_true] at ht
      obtain ⟨g0, g1, h⟩ := idx_ok h
      obtain ⟨e, hu, hsz⟩ := wide_ok hE ht.2
      have hx : Rd c.w c.Al (enc k z) (a.eval x) := hx
      rw [enc_sl ht.1] at hx
      simp only [Rd] at hx
      obtain ⟨ad, cap, hv, hlc, hcs⟩ := hx
      rcases hcs with h0 | ⟨g, off, rfl, hg, hr⟩
      · omega
      · refine pure1 _ (.pointer (some ⟨g, off + n.toNat * (rowOf k).length, none⟩)) h (.inr ⟨g, _, rfl, hg, ?_⟩) fun w' _ => ?_
        · rw [elemC_cells k z n.toNat (by omega)]
          have h1 := RdC_sub hr (n.toNat * (rowOf k).length) (n.toNat * (rowOf k).length + (rowOf k).length)
          rw [List.drop_take] at h1
          rwa [show n.toNat * (rowOf k).length + (rowOf k).length - n.toNat * (rowOf k).length = (rowOf k).length from by omega] at h1
        · simp [execOp, ho, hv, hy, Instr.indexAt, asIntOf, under_run hu, g0, g1, hsz, add_lit]
    · cases h
  · rename_i k z kk n ex ey
    rw [ex] at hx; rw [ey] at hy
    have hy : a.eval y = .int kk n := by simpa [Cf.ra, Cf.ra0, Cf.r1, enc, Rd] using hy
    split at h
    · rename_i ht
      obtain ⟨g0, g1, h⟩ := idx_ok h
      obtain ⟨e, hu, hs, hsz⟩ := wideA_ok hE ht
      obtain ⟨g, off, hv, hg, hr⟩ := hx
      refine pure1 _ (.pointer (some ⟨g, off + n.toNat * (rowOf k).length, none⟩)) h (.inr ⟨g, _, rfl, hg, ?_⟩) fun w' _ => ?_
      · rw [elemC_cells k z n.toNat (by omega)]
        have h1 := RdC_sub hr.1 (n.toNat * (rowOf k).length) (n.toNat * (rowOf k).length + (rowOf k).length)
        rw [List.drop_take] at h1
        rwa [show n.toNat * (rowOf k).length + (rowOf k).length - n.toNat * (rowOf k).length = (rowOf k).length from by omega] at h1
      · simp [execOp, ho, hv, hy, Instr.indexAt, asIntOf, under_run hu, g0, g1, hsz, add_lit, Instr.sureAddr]
    · cases h
  · rename_i b kk n ex ey
    rw [ex] at hx; rw [ey] at hy
    have hy : a.eval y = .int kk n := by simpa [Cf.ra, Cf.ra0, Cf.r1, enc, Rd] using hy
    split at h
    · rename_i k xs hm
      rw [← hev.1] at hm
      split at h
      · rename_i ht
        obtain ⟨g0, g1, h⟩ := idx_ok h
        obtain ⟨e, hu, hsz⟩ := wide_ok hE ht
        simp only [Cf.ra, Cf.ra0, Cf.r1, hm] at hx
        rcases hx with ⟨g, cap, e', hv⟩ | ⟨e', hv⟩
        · refine pure1 _ (.pointer (some ⟨g, n.toNat * (rowOf k).length, none⟩)) h ?_ fun w' _ => ?_
          · simp only [Cf.r1, hm]
            exact ⟨by omega, g, cap, e', rfl⟩
          · simp [execOp, ho, hv, hy, Instr.indexAt, asIntOf, under_run hu, g0, g1, hsz, add_lit]
        · rcases (hc.blk b _ hm).2 with ⟨g', cap', _, _, e'', _⟩ | ⟨_, hl⟩
          · rw [e'] at e''; cases e''
          · omega
      · cases h
    · cases h
  · cases h

theorem p_index (hE : EnvOK P E) (hev : Evs E c s a) {t : TypeId} {x y : Operand} (ho : o.op = .index t x y) (h : vop E o.op s K = some r) : PureRes P c a o K s.mem r := by
  rw [ho] at h
  simp only [vop] at h
  have hx := hev.2 x
  have hy := hev.2 y
  split at h
  · rename_i b kk n ex ey
    rw [ex] at hx; rw [ey] at hy
    have hx : a.eval x = .string b := by simpa [Cf.ra, Cf.ra0, Cf.r1, enc, Rd] using hx
    have hy : a.eval y = .int kk n := by simpa [Cf.ra, Cf.ra0, Cf.r1, enc, Rd] using hy
    split at h
    · rename_i ht
      obtain ⟨g0, g1, h⟩ := idx_ok h
      have hu := isStr_ok hE ht
      have hlt : n.toNat < b.size := by omega
      refine pint h fun w' => ?_
      have hb : b[n.toNat]? = some b[n.toNat] := by simp [hlt]
      have hbt : bt b n = (b[n.toNat].toNat : Int) := by
        have hlt' : n.toNat < b.data.toList.length := by simpa using hlt
        unfold bt strU
        rw [List.getD_eq_getElem?_getD, List.getElem?_eq_getElem hlt']
        rfl
      rw [hbt]
      simp [execOp, ho, hx, hy, Instr.index, asIntOf, under_run hu, g0, hb]
    · cases h
  · cases h

theorem p_extract (hev : Evs E c s a) {x : Operand} {i : Nat} (ho : o.op = .extract x i) (h : vop E o.op s K = some r) : PureRes P c a o K s.mem r := by
  rw [ho] at h
  simp only [vop] at h
  have hx := hev.2 x
  split at h
  · rename_i xs ex
    rw [ex] at hx
    obtain ⟨vs, hv, hrel⟩ := hx
    split at h
    · rename_i y hy
      obtain ⟨u, hu, hr⟩ := hrel i y hy
      exact ⟨_, u, h, fun w' _ => by simp [execOp, ho, hv, Instr.extract, hu], hr⟩
    · cases h
  · cases h


/-- The values of the operands of a call. -/
theorem evs_args (hev : Evs E c s a) (l : List Operand) : ∀ (i : Nat) (x : A), (l.map (E.eval s))[i]? = some x → ∃ v, (l.map a.eval)[i]? = some v ∧ c.ra x v := by
  intro i x hi
  rw [List.getElem?_map] at hi ⊢
  cases hl : l[i]? with
  | none => rw [hl] at hi; cases hi
  | some y => rw [hl] at hi; cases hi; exact ⟨a.eval y, rfl, hev.2 y⟩

theorem builtin_run {b : Builtin} {args : Array Operand} {ts : Array TypeId} (ho : o.op = .call { callee := .builtin b, args := args, argTypes := ts }) (w : World) :
    ∃ consts, (execOp a.eval o).run P w = (builtin b ts o.type consts (args.map a.eval)).run P w := by
  have h : (execOp a.eval o).run P w = (execOp a.eval o).run P w := rfl
  conv at h => rhs; simp only [execOp, ho, resolve, invoke, Sem.run_bind, Sem.run_pure, Result.andThen_ok]
  exact ⟨_, h⟩

theorem p_len (hE : EnvOK P E) (hc : c.ok) (hev : Evs E c s a) {args : Array Operand} {ts : Array TypeId} (ho : o.op = .call { callee := .builtin .len, args := args, argTypes := ts })
    (h : vop E o.op s K = some r) : PureRes P c a o K s.mem r := by
  rw [ho] at h
  simp only [vop, vbuiltin, vlen] at h
  have hargs := evs_args hev args.toList
  split at h
  · rename_i x hl
    rw [hl] at hargs
    obtain ⟨v, hv, hx⟩ := hargs 0 _ rfl
    have hv' : (args.map a.eval)[0]? = some v := by
      rw [← Array.getElem?_toList, Array.toList_map]; exact hv
    split at h
    · cases h
    · rename_i t ht
      have run : ∀ (n : Int), (∀ w', (Builtin.len_ ts o.type (args.map a.eval)).run P w' = .ok (goInt n) w') → ∀ w', (execOp a.eval o).run P w' = .ok (.value (.int .i64 n)) w' := by
        intro n hn w'
        obtain ⟨consts, hrun⟩ := builtin_run (P := P) (a := a) ho w'
        rw [hrun]
        simp [builtin, hn w', goInt]
      have sl : ∀ (e : TypeId) (ad : Option Addr) (n cap : Nat), P.underlying t = some (.slice e) → v = .slice ad n cap → ∀ w', (Builtin.len_ ts o.type (args.map a.eval)).run P w' = .ok (goInt n) w' := by
        intro e ad n cap hu hv0 w'
        subst hv0
        simp [Builtin.len_, ht, hv', under_run hu]
      split at h
      · rename_i b
        have hx : v = .string b := by simpa [Cf.ra, Cf.ra0, Cf.r1, enc, Rd] using hx
        split at h
        · rename_i hs
          have hu := isStr_ok hE hs
          subst hx
          exact pint h (run _ fun w' => by simp [Builtin.len_, ht, hv', under_run hu])
        · cases h
      · have hx : v = .slice none 0 0 := hx
        split at h
        · rename_i hs
          obtain ⟨e, hu⟩ := isSlc_ok hE hs
          exact pint h (run _ (sl e none 0 0 hu hx))
        · cases h
      · split at h
        · rename_i k xs hsl
          split at h
          · rename_i hs
            obtain ⟨e, hu⟩ := isSlc_ok hE hs
            have hsh : ∃ ad cap, v = .slice ad (lenC k xs) cap := by
              cases x with
              | d k' y =>
                simp only [slOf] at hsl
                split at hsl
                · rename_i hk
                  cases hsl
                  have hx : Rd c.w c.Al (enc k xs) v := hx
                  rw [enc_sl hk] at hx
                  simp only [Rd] at hx
                  obtain ⟨ad, cap, hv, _⟩ := hx
                  exact ⟨ad, cap, hv⟩
                · cases hsl
              | ref b =>
                simp only [slOf] at hsl
                split at hsl
                · rename_i k' ys hm
                  cases hsl
                  rw [← hev.1] at hm
                  simp only [Cf.ra, Cf.ra0, Cf.r1, hm] at hx
                  rcases hx with ⟨g, cap, _, hv⟩ | ⟨e', hv⟩
                  · exact ⟨_, cap, hv⟩
                  · rcases (hc.blk b _ hm).2 with ⟨g', cap', _, _, e'', _⟩ | ⟨_, hl⟩
                    · rw [e'] at e''; cases e''
                    · exact ⟨none, 0, by rw [hv, hl]⟩
                · cases hsl
              | _ => simp [slOf] at hsl
            obtain ⟨ad, cap, hv0⟩ := hsh
            exact pint h (run _ (sl e ad _ cap hu hv0))
          · cases h
        · cases h
  · cases h

end
end Go.Vm

namespace Go.Vm
section
variable {P : Program} {E : Env} {R : Type} {K : Cont R} {r : R} {c : Cf} {s : St} {a : Act} {o : Oper}

theorem goodV_one {x : V} {v : Value} (h : c.r1 x v) (hg : goodV c.mem x = true) : v.oneCell' = true := by
  cases x with
  | d k y => exact Rd_oneCell h
  | nils => have h : v = _ := h; subst h; rfl
  | ptr b off => obtain ⟨g, cap, _, rfl⟩ := h; rfl
  | ref b =>
    simp only [goodV] at hg
    split at hg
    · rename_i hm
      simp only [Cf.r1, hm] at h
      rcases h with ⟨g, cap, _, rfl⟩ | ⟨_, rfl⟩ <;> rfl
    · cases hg
  | ep b i off =>
    simp only [goodV] at hg
    split at hg
    · rename_i hm
      simp only [Cf.r1, hm] at h
      obtain ⟨_, g, cap, _, rfl⟩ := h; rfl
    · cases hg
  | dp cs =>
    cases cs with
    | nil => simp [goodV] at hg
    | cons d ds =>
      rcases h with h | ⟨g, off, rfl, _⟩
      · cases h
      · rfl
  | undef => simp [goodV] at hg
  | da k y => obtain ⟨g, off, rfl, _⟩ := h; rfl
  | clo f caps => obtain ⟨vs, rfl, _⟩ := h; rfl
  | junk => simp [goodV] at hg

theorem one_cells {v : Value} (h : v.oneCell' = true) : v.cells = #[v] := by cases v <;> first | rfl | simp [Value.oneCell'] at h

/-- The cells of a value. -/
def CellsRel (c : Cf) (xs : List V) (arr : Array Value) : Prop := arr.size = xs.length ∧ ∀ (i : Nat) (x : V), xs[i]? = some x → ∃ u, arr[i]? = some u ∧ c.r1 x u

theorem a0_cells {y : A0} {v : Value} (h : c.ra0 y v) (hp : y.plain c.mem = true) : CellsRel c y.cells v.cells := by
  cases y with
  | one x =>
    have h1 := one_cells (goodV_one (c := c) h hp)
    rw [h1]
    refine ⟨rfl, fun i z hz => ?_⟩
    cases i with
    | zero => simp [A0.cells] at hz; subst hz; exact ⟨v, rfl, h⟩
    | succ i => simp [A0.cells] at hz
  | agg xs =>
    obtain ⟨vs, rfl, hs, hx⟩ := h
    exact ⟨hs, hx⟩

theorem fold_rel : ∀ (vs : List V) (us : List Value) (k off : Nat) (xs : List V) (arr : Array Value), CellsRel c xs arr → us.length = vs.length →
    (∀ (i : Nat) (x : V), vs[i]? = some x → ∃ u, us[i]? = some u ∧ c.r1 x u) → off + k + vs.length ≤ xs.length →
    CellsRel c (fillV xs (off + k) vs) ((us.zipIdx k).foldl (fun cs x => cs.setIfInBounds (off + x.2) x.1) arr)
  | [], [], _, _, _, _, h, _, _, _ => by simpa [fillV] using h
  | [], _ :: _, _, _, _, _, _, hl, _, _ => by simp at hl
  | _ :: _, [], _, _, _, _, _, hl, _, _ => by simp at hl
  | v :: vs, u :: us, k, off, xs, arr, h, hl, hr, hle => by
    simp only [fillV, List.zipIdx_cons, List.foldl_cons]
    rw [show off + k + 1 = off + (k + 1) from by omega]
    refine fold_rel vs us (k + 1) off _ _ ⟨by simpa using h.1, fun i x hi => ?_⟩ (by simpa using hl) (fun i x hi => ?_) (by simp at hle ⊢; omega)
    · rcases set_some hi with ⟨rfl, rfl⟩ | ⟨hne, hi⟩
      · obtain ⟨u', hu', hr'⟩ := hr 0 x rfl
        simp at hu'; subst hu'
        have : off + k < arr.size := by rw [h.1]; simp at hle; omega
        exact ⟨u, by simp [this], hr'⟩
      · obtain ⟨u', hu', hr'⟩ := h.2 i x hi
        exact ⟨u', by rw [Array.getElem?_setIfInBounds_ne (fun e => hne e.symm)]; exact hu', hr'⟩
    · have := hr (i + 1) x (by simpa using hi)
      simpa using this

theorem fillV_len : ∀ (vs : List V) (off : Nat) (xs : List V), (fillV xs off vs).length = xs.length
  | [], _, _ => rfl
  | v :: vs, off, xs => by simp [fillV, fillV_len vs]

theorem fill_step {xs : List V} {arr : Array Value} {y : A0} {v : Value} {off : Nat} (h : CellsRel c xs arr) (hy : c.ra0 y v) (hp : y.plain c.mem = true) (hle : off + y.cells.length ≤ xs.length) :
    CellsRel c (fillV xs off y.cells) (v.cells.zipIdx.foldl (fun cs (x : Value × Nat) => cs.setIfInBounds (off + x.2) x.1) arr) := by
  obtain ⟨h1, h2⟩ := a0_cells hy hp
  rw [← Array.foldl_toList, Array.toList_zipIdx]
  have := fold_rel (c := c) y.cells v.cells.toList 0 off xs arr h (by simpa using h1) (fun i x hi => by simpa using h2 i x hi) (by omega)
  simpa using this

theorem zero_rel {t : Nat} {i : TI} (hE : EnvOK P E) (hi : E.ti t = some i) (hne : i.cells ≠ []) : ∃ z : Value, (∀ w, (zeroValue t).run P w = .ok z w) ∧ CellsRel c (i.cells.map zeroV) z.cells := by
  obtain ⟨info, d, z, h1, h2, h3, h4, h5, h6, h7, h8, h9⟩ := hE.ti t i hi
  refine ⟨z, fun w => by simp [zeroValue, typeInfo, h1, h7], ?_⟩
  rcases h9 with h9 | h9
  · exact absurd h9 hne
  · refine ⟨by rw [← Array.length_toList, h9]; simp, fun j x hj => ?_⟩
    rw [List.getElem?_map] at hj
    cases hk : i.cells[j]? with
    | none => rw [hk] at hj; cases hj
    | some k =>
      rw [hk] at hj; cases hj
      refine ⟨zeroVal k, by rw [← Array.getElem?_toList, h9, List.getElem?_map, hk]; rfl, ?_⟩
      cases k <;> simp [zeroV, zeroVal, isSl, Cf.r1, enc, Rd, dflt]
      rfl

theorem vbuild_ok (hE : EnvOK P E) (hev : Evs E c s a) {fields : Array Field} {fs : List (Nat × Nat)} (hall : ∀ (j off ft : Nat), fs[j]? = some (off, ft) → ∃ f : Field, fields[j]? = some f ∧ f.offset = off ∧ f.type = ft ∧
      ∃ fi, P.info? ft = some fi ∧ fi.size ≠ 0) (places : Array (Nat × Nat)) (hpl : ∀ (j : Nat) (f : Field) (fi : TypeInfo), fields[j]? = some f → P.info? f.type = some fi → places[j]? = some (f.offset, fi.size)) :
    ∀ (l : List (Nat × Operand)) (cells cells' : List V) (arr : Array Value), CellsRel c cells arr → vbuild E s fs l cells = some cells' →
      ∃ arr', Instr.fill (places[·]?) arr (l.map fun x => (x.1, a.eval x.2)) = some arr' ∧ CellsRel c cells' arr'
  | [], cells, cells', arr, h, hb => by
    simp only [vbuild] at hb; cases hb
    exact ⟨arr, rfl, h⟩
  | (i, x) :: l, cells, cells', arr, h, hb => by
    simp only [vbuild] at hb
    split at hb
    · rename_i off ft y hf ex
      have hx := hev.2 x
      rw [ex] at hx
      split at hb
      · rename_i fi hfi
        split at hb
        · rename_i hcond
          simp only [Bool.and_eq_true, beq_iff_eq, Nat.ble_eq] at hcond
          obtain ⟨f, hfd, hoff, hty, fi', hfi', hsz⟩ := hall i off ft hf
          obtain ⟨info, d, z, h1, h2, _⟩ := hE.ti ft fi hfi
          have e0 : info = fi' := Option.some.inj (h1.symm.trans hfi')
          subst e0
          have hpl' := hpl i f info hfd (by rw [hty]; exact h1)
          rw [hoff, h2] at hpl'
          rw [← hev.1] at hcond
          have hcr := a0_cells hx hcond.2
          have hstep := fill_step (off := off) h hx hcond.2 (by omega)
          obtain ⟨arr', h3, h4⟩ := vbuild_ok hE hev hall places hpl l _ cells' _ hstep hb
          refine ⟨arr', ?_, h4⟩
          simp only [List.map_cons, Instr.fill, hpl']
          rw [if_neg]
          · exact h3
          · have e1 : (a.eval x).cells.size = fi.size := by rw [hcr.1, hcond.1.1]
            have e2 := h.1
            simp [e1]
            omega
        · cases hb
      · cases hb
    · cases hb

def plOf (P : Program) (f : Field) : Nat × Nat := (f.offset, ((P.info? f.type).map (·.size)).getD 0)

theorem places_run {fields : Array Field} (hE : ∀ (j : Nat) (f : Field), fields[j]? = some f → ∃ fi, P.info? f.type = some fi) (w : World) :
    (fields.mapM fun f => do pure (f.offset, ← sizeOf f.type) : Sem (Array (Nat × Nat))).run P w = .ok (fields.map (plOf P)) w := by
  have key : ∀ (l : List Field), (∀ f ∈ l, ∃ fi, P.info? f.type = some fi) →
      (l.mapM fun f => do pure (f.offset, ← sizeOf f.type) : Sem (List (Nat × Nat))).run P w = .ok (l.map (plOf P)) w := by
    intro l
    induction l with
    | nil => intro _; simp
    | cons f l ih =>
      intro hl
      obtain ⟨fi, hfi⟩ := hl f (by simp)
      have h1 := ih fun g hg => hl g (by simp [hg])
      simp [List.mapM_cons, sizeOf, typeInfo, hfi, plOf]
      simp [sizeOf, typeInfo] at h1
      simp [h1]
  have h := key fields.toList fun f hf => by
    obtain ⟨j, hj⟩ := List.getElem?_of_mem hf
    exact hE j f (by simpa using hj)
  rw [Array.mapM_eq_mapM_toList]
  simp only [Sem.run_map, h, Result.andThen_ok]
  rw [← Array.toList_map]

theorem p_build (hE : EnvOK P E) (hev : Evs E c s a) {t : TypeId} {parts : Array (Nat × Operand)} (ho : o.op = .build t parts) (h : vop E o.op s K = some r) : PureRes P c a o K s.mem r := by
  rw [ho] at h
  simp only [vop] at h
  split at h
  · rename_i sz by_ c0 cs fs hi
    split at h
    · rename_i cells hb
      obtain ⟨fields, hu, _, hlen, hall⟩ := strct_ok hE hi
      have hinfo : ∀ (j : Nat) (f : Field), fields[j]? = some f → ∃ fi, P.info? f.type = some fi := by
        intro j f hf
        have hj : j < fs.length := by rw [← hlen]; exact (Array.getElem?_eq_some_iff.1 hf).1
        obtain ⟨f', hf', _, hty, fi, hfi, _⟩ := hall j fs[j].1 fs[j].2 (by simp [hj])
        rw [hf] at hf'; cases hf'
        exact ⟨fi, by rw [hty]; exact hfi⟩
      obtain ⟨z, hz1, hz2⟩ := zero_rel (c := c) (i := ⟨sz, by_, true, c0 :: cs, .strct fs⟩) hE hi (by simp)
      have hpl : ∀ (j : Nat) (f : Field) (fi : TypeInfo), fields[j]? = some f → P.info? f.type = some fi → (fields.map (plOf P))[j]? = some (f.offset, fi.size) := by
        intro j f fi hf hfi
        simp [hf, plOf, hfi]
      obtain ⟨arr, ha1, ha2⟩ := vbuild_ok hE hev hall _ hpl parts.toList _ _ _ hz2 hb
      refine ⟨_, .agg arr, h, fun w' _ => ?_, ⟨arr, rfl, ha2.1, ha2.2⟩⟩
      have hp := places_run (P := P) hinfo w'
      simp only [execOp, ho, Instr.build, Sem.run_bind, hz1, Result.andThen_ok, under_run hu, hp]
      simp only [Array.getElem?_map] at ha1
      simp [ha1]
    · cases h
  · cases h

end
end Go.Vm

namespace Go.Vm

/-- What stands behind an operation. -/
def Post (n : Nat) (c0 : Cf) (s : St) (dst : Option Nat) (w0 : World) (cm : Bool) {R : Type} (K : Cont R) (r : R) (a' : Act) (w' : World) : Prop :=
  (∃ av mem', K av mem' = some r ∧ Good n c0 (({ s with mem := mem' } : St).put? dst av) a' w') ∧ (cm = true → Ext w0 w')

section
variable {P : Program} {E : Env} {R : Type} {K : Cont R} {r : R} {s : St} {a : Act} {w : World} {o : Oper} {n : Nat} {c0 : Cf} {Q : Exit → Act → World → Prop} {cm : Bool}

theorem get_put (s : St) (d t : Nat) (v : A) : (s.put d v).get t = if d = t then v else s.get t := rfl

theorem good_put {Al : Nat → Prop} {be : List Bt} {mem' : List Blk} {w' : World} (hc : (⟨w', Al, be, mem'⟩ : Cf).ok) (ht : c0.To ⟨w', Al, be, mem'⟩) (hn : a.tmps.size = n) (hd : a.defers = [])
    (hr : ∀ t, (⟨w', Al, be, mem'⟩ : Cf).ra (s.get t) (a.tmps.getD t undef)) {dst : Option Nat} (hdst : ∀ d, dst = some d → d < n) {av : A} {v : Value}
    (hv : (⟨w', Al, be, mem'⟩ : Cf).ra av v) : Good n c0 (({ s with mem := mem' } : St).put? dst av) (a.put dst v) w' := by
  cases dst with
  | none => exact ⟨Al, be, hc, ht, hn, hd, hr⟩
  | some d =>
    refine ⟨Al, be, hc, ht, by simp [Act.put, hn], hd, fun t => ?_⟩
    have hlt := hdst d rfl
    show (⟨w', Al, be, mem'⟩ : Cf).ra (if d = t then av else s.get t) _
    split
    · rename_i e; subst e
      have : (a.put (some d) v).tmps.getD d undef = v := by simp [Act.put, hn, hlt]
      rw [this]; exact hv
    · rename_i e
      have : (a.put (some d) v).tmps.getD t undef = a.tmps.getD t undef := by simp [Act.put, Array.getElem?_setIfInBounds_ne e]
      rw [this]; exact hr t

/-- The situation at an operation. -/
structure At (P : Program) (E : Env) (n : Nat) (c0 : Cf) (s : St) (a : Act) (w : World) (Al : Nat → Prop) (be : List Bt) : Prop where
  hE : EnvOK P E
  ok : (⟨w, Al, be, s.mem⟩ : Cf).ok
  to : c0.To ⟨w, Al, be, s.mem⟩
  n : a.tmps.size = n
  d : a.defers = []
  r : ∀ t, (⟨w, Al, be, s.mem⟩ : Cf).ra (s.get t) (a.tmps.getD t undef)
  glob : ∀ g, c0.r1 (E.glob g) (.pointer (some ⟨g, 0, none⟩))

variable {Al : Nat → Prop} {be : List Bt}

theorem At.evs (h : At P E n c0 s a w Al be) : Evs E ⟨w, Al, be, s.mem⟩ s a := by
  refine ⟨rfl, fun x => ?_⟩
  cases x with
  | tmp t => exact h.r t
  | const v =>
    show (⟨w, Al, be, s.mem⟩ : Cf).ra (constA v) v
    unfold constA
    split
    · simp [Cf.ra, Cf.ra0, Cf.r1, enc, Rd]
    · simp [Cf.ra, Cf.ra0, Cf.r1, enc, Rd]
    · simp [Cf.ra, Cf.ra0, Cf.r1, enc, Rd]
    · simp [Cf.ra, Cf.ra0, Cf.r1]
    · simp [A.junk, Cf.ra, Cf.ra0, Cf.r1]
  | global g => exact h.to.keeps _ _ (h.glob g)
  | func f => exact ⟨[], rfl, rfl⟩

/-- The end of an operation that yields a value. -/
theorem At.post (h : At P E n c0 s a w Al be) {Al' : Nat → Prop} {be' : List Bt} {mem' : List Blk} {w' : World} (hc : (⟨w', Al', be', mem'⟩ : Cf).ok)
    (ht : (⟨w, Al, be, s.mem⟩ : Cf).To ⟨w', Al', be', mem'⟩) {dst : Option Nat} (hdst : ∀ d, dst = some d → d < n) {av : A} {v : Value} (hK : K av mem' = some r)
    (hv : (⟨w', Al', be', mem'⟩ : Cf).ra av v) {cm : Bool} (hcm : cm = true → Ext w w') : Post n c0 s dst w cm K r (a.put dst v) w' :=
  ⟨⟨av, mem', hK, good_put hc (h.to.trans ht) h.n h.d (fun t => ra_keep ht.keeps (h.r t)) hdst hv⟩, hcm⟩

theorem At.pure (h : At P E n c0 s a w Al be) (hdst : ∀ d, o.dst = some d → d < n) (hp : PureRes P ⟨w, Al, be, s.mem⟩ a o K s.mem r) : o.wp P a w (Post n c0 s o.dst w cm K r) Q := by
  obtain ⟨av, v, hK, hrun, hv⟩ := hp
  unfold Oper.wp
  rw [hrun w (fun _ => Ext.refl w), Oper.upon_value]
  exact h.post h.ok (Cf.To.refl _) hdst hK hv (fun _ => Ext.refl w)

/-- A new block. -/
theorem At.new (h : At P E n c0 s a w Al be) (hdst : ∀ d, o.dst = some d → d < n) {w' : World} (hw : Ext w w') {t : Bt} {x : Blk} (htt : ∀ g cap, t = .blk g cap → w.heap.size ≤ g)
    (hx : (⟨w', Al, be ++ [t], s.mem ++ [x]⟩ : Cf).blkOK s.mem.length x) {y : V} {v : Value} (hK : K1 K (s.mem ++ [x]) y = some r)
    (hv : (⟨w', Al, be ++ [t], s.mem ++ [x]⟩ : Cf).r1 y v) (hrun : (execOp a.eval o).run P w = .ok (.value v) w') : o.wp P a w (Post n c0 s o.dst w cm K r) Q := by
  unfold Oper.wp
  rw [hrun, Oper.upon_value]
  obtain ⟨h1, h2⟩ := step_new h.ok (w' := w') hw t x htt hx
  exact h.post h1 h2 hdst hK hv (fun _ => hw)

/-- Boxes are left as they are. -/
def BoxK (c : Cf) (w' : World) : Prop := (∀ (b : Nat) (cs : List V) (g cap : Nat), c.mem[b]? = some (.box cs) → c.be[b]? = some (.blk g cap) → w'.heap[g]? = c.w.heap[g]?) ∧
  ∀ g, c.Al g → w'.heap[g]? = c.w.heap[g]?

theorem BoxK.of_ext {c : Cf} (hc : c.ok) {w' : World} (hw : Ext c.w w') : BoxK c w' :=
  ⟨fun b _ g cap hm e => hw.block g (live_lt hc ⟨b, _, cap, hm, rfl, e⟩), fun g hg => hw.block g (hc.lt g hg)⟩

theorem At.new2 (h : At P E n c0 s a w Al be) (hdst : ∀ d, o.dst = some d → d < n) {w' : World} (hw : Ext w w') {t : Bt} {x : Blk} (htt : ∀ g cap, t = .blk g cap → w.heap.size ≤ g)
    (hx : (⟨w', Al, be ++ [t], s.mem ++ [x]⟩ : Cf).blkOK s.mem.length x) {y : V} {v : Value} (hK : K1 K (s.mem ++ [x]) y = some r)
    (hv : (⟨w', Al, be ++ [t], s.mem ++ [x]⟩ : Cf).r1 y v) (hrun : (execOp a.eval o).run P w = .ok (.value v) w') :
    o.wp P a w (fun a' w'' => Post n c0 s o.dst w cm K r a' w'' ∧ BoxK ⟨w, Al, be, s.mem⟩ w'') Q := by
  unfold Oper.wp
  rw [hrun, Oper.upon_value]
  obtain ⟨h1, h2⟩ := step_new h.ok (w' := w') hw t x htt hx
  exact ⟨h.post h1 h2 hdst hK hv (fun _ => hw), BoxK.of_ext h.ok hw⟩

theorem new_cells (w : World) (cells : Array Value) (T : TypeId) : (w.alloc (.cells cells T)).heap[w.heap.size]? = some (.cells cells T (0, 0)) := by
  show (w.heap.push _)[w.heap.size]? = _
  simp

theorem last_be (h : At P E n c0 s a w Al be) {t : Bt} : (be ++ [t])[s.mem.length]? = some t := by
  rw [← h.ok.len]; simp

theorem last_mem {x : Blk} : (s.mem ++ [x])[s.mem.length]? = some x := by simp

/-- What is known of cells stays so in the configuration with a new block. -/
theorem At.keep_new (h : At P E n c0 s a w Al be) {w' : World} (hw : Ext w w') {t : Bt} {x : Blk} {y : V} {v : Value} (hr : (⟨w, Al, be, s.mem⟩ : Cf).r1 y v) :
    (⟨w', Al, be ++ [t], s.mem ++ [x]⟩ : Cf).r1 y v :=
  r1_keep (c := ⟨w, Al, be, s.mem⟩) (c' := ⟨w', Al, be ++ [t], s.mem ++ [x]⟩) (fun g hg => ⟨hg, hw.block g (h.ok.lt g hg)⟩) (fun _ _ e => app_some e)
    (fun _ _ xs e => .inl ⟨xs, app_some e, rfl⟩) (fun _ y e hy => ⟨y, app_some e, hy⟩) y v hr

theorem i_box (h : At P E n c0 s a w Al be) (hdst : ∀ d, o.dst = some d → d < n) {t : TypeId} {x : Operand} (ho : o.op = .box t x) (hv : vop E o.op s K = some r) : o.wp P a w (Post n c0 s o.dst w cm K r) Q := by
  rw [ho] at hv
  simp only [vop] at hv
  have hx := h.evs.2 x
  split at hv
  · rename_i y ex
    rw [ex] at hx
    split at hv
    · rename_i hp
      obtain ⟨h1, h2⟩ := a0_cells (c := ⟨w, Al, be, s.mem⟩) hx hp
      have hw := Ext.alloc w (.cells (a.eval x).cells t)
      refine h.new hdst hw (t := .blk w.heap.size 0) (fun g cap e => by cases e; exact Nat.le_refl _) ?_ hv ⟨w.heap.size, 0, last_be h, rfl⟩ ?_
      · exact ⟨w.heap.size, 0, _, t, last_be h, new_cells w _ t, h1, fun i z hz => let ⟨u, hu, hr⟩ := h2 i z hz; ⟨u, hu, h.keep_new hw hr⟩⟩
      · simp [execOp, ho, Instr.box, newVar, newRow]
    · cases hv
  · cases hv

theorem i_alloc (h : At P E n c0 s a w Al be) (hdst : ∀ d, o.dst = some d → d < n) {t : TypeId} (ho : o.op = .alloc t) (hv : vop E o.op s K = some r) : o.wp P a w (Post n c0 s o.dst w cm K r) Q := by
  rw [ho] at hv
  simp only [vop] at hv
  split at hv
  · rename_i i hi
    split at hv
    · rename_i hl
      simp only [Bool.and_eq_true, beq_iff_eq, bne_iff_ne, ne_eq] at hl
      by_cases hne : i.cells = []
      · rw [hne] at hl; simp at hl; exact absurd hl.1.symm hl.2
      · obtain ⟨z, hz, h1, h2⟩ := zero_rel (c := ⟨w, Al, be, s.mem⟩) h.hE hi hne
        have hw := Ext.alloc w (.cells z.cells t)
        refine h.new hdst hw (t := .blk w.heap.size 0) (fun g cap e => by cases e; exact Nat.le_refl _) ?_ hv ⟨w.heap.size, 0, last_be h, rfl⟩ ?_
        · exact ⟨w.heap.size, 0, _, t, last_be h, new_cells w _ t, h1, fun i z hz => let ⟨u, hu, hr⟩ := h2 i z hz; ⟨u, hu, h.keep_new hw hr⟩⟩
        · simp [execOp, ho, Instr.alloc, newVar, newRow, hz]
    · cases hv
  · cases hv

end
end Go.Vm

namespace Go.Vm

/-! ### Elements out of cells -/

theorem castI_enc {c c' : C} (h : C.beq c c' = true) (x : c.I) : enc c' (castI h x) = enc c x := by
  have e := C.beq_eq h
  subst e
  rfl

theorem cast?_enc {c c' : C} {x : c.I} {y : c'.I} (h : cast? c c' x = some y) : enc c' y = enc c x ∧ c = c' := by
  unfold cast? at h
  split at h
  · rename_i hb
    cases h
    exact ⟨castI_enc hb x, C.beq_eq hb⟩
  · cases h

theorem dflt_sl {c : C} (h : isSl c = true) : lenC c (dflt c) = 0 ∧ cellsU c (dflt c) = [] := by
  cases c <;> simp [isSl] at h <;> exact ⟨rfl, rfl⟩

/-- A cell's value reads as data 'u'. -/
def Gives (c : Cf) (y : V) (u : U) : Prop := ∀ v, c.r1 y v → Rd c.w c.Al u v

theorem asC_ok {c : Cf} {k : C} {y : V} {x : k.I} (h : asC k y = some x) : Gives c y (enc k x) := by
  intro v hv
  cases y with
  | d k' z =>
    simp only [asC] at h
    obtain ⟨h1, _⟩ := cast?_enc h
    rw [h1]; exact hv
  | nils =>
    simp only [asC] at h
    split at h
    · rename_i hs
      cases h
      have hv : v = .slice none 0 0 := hv
      obtain ⟨h1, h2⟩ := dflt_sl hs
      rw [enc_sl hs, h1]
      simp only [Rd]
      exact ⟨none, 0, hv, Nat.le_refl _, .inl trivial⟩
    · cases h
  | _ => simp [asC] at h

/-- Cells that read as data. -/
def GivesL (c : Cf) (vs : List V) (us : List U) : Prop := us.length = vs.length ∧ ∀ (i : Nat) (y : V) (u : U), vs[i]? = some y → us[i]? = some u → Gives c y u

theorem GivesL.nil (c : Cf) : GivesL c [] [] := ⟨rfl, fun i y u h => by simp at h⟩
theorem GivesL.cons {c : Cf} {y : V} {u : U} {vs : List V} {us : List U} (h : Gives c y u) (hs : GivesL c vs us) : GivesL c (y :: vs) (u :: us) := by
  refine ⟨by simp [hs.1], fun i z x hz hx => ?_⟩
  cases i with
  | zero => simp at hz hx; subst hz; subst hx; exact h
  | succ i => exact hs.2 i z x (by simpa using hz) (by simpa using hx)
theorem GivesL.append {c : Cf} {vs ws : List V} {us xs : List U} (h : GivesL c vs us) (k : GivesL c ws xs) : GivesL c (vs ++ ws) (us ++ xs) := by
  refine ⟨by simp [h.1, k.1], fun i z x hz hx => ?_⟩
  by_cases hi : i < vs.length
  · rw [List.getElem?_append_left hi] at hz
    rw [List.getElem?_append_left (by rw [h.1]; exact hi)] at hx
    exact h.2 i z x hz hx
  · rw [List.getElem?_append_right (by omega)] at hz
    rw [List.getElem?_append_right (by rw [h.1]; omega), h.1] at hx
    exact k.2 _ z x hz hx

theorem asRow_ok {c : Cf} : ∀ (r : List C) (vs : List V) (x : C.Is r), asRow r vs = some x → GivesL c vs (encs r x)
  | [], [], x, _ => by cases x; exact GivesL.nil c
  | [], _ :: _, _, h => by simp [asRow] at h
  | k :: r, [], _, h => by simp [asRow] at h
  | k :: r, v :: vs, x, h => by
    simp only [asRow] at h
    split at h
    · rename_i y hy
      split at h
      · rename_i z hz
        cases h
        exact GivesL.cons (asC_ok hy) (asRow_ok r vs z hz)
      · cases h
    · cases h

theorem asRow_len : ∀ (r : List C) (vs : List V) (x : C.Is r), asRow r vs = some x → vs.length = r.length := by
  intro r vs x h
  have h1 := (asRow_ok (c := ⟨default, fun _ => False, [], []⟩) r vs x h).1
  rw [encs_len] at h1
  exact h1.symm

theorem ofCells_ok {c : Cf} : ∀ (k : C) (vs : List V) (x : k.I), ofCells k vs = some x → isSl k = true ∧ lenC k x = 1 ∧ GivesL c vs (cellsU k x)
  | .int _, _, _, h => by simp [ofCells] at h
  | .bool, _, _, h => by simp [ofCells] at h
  | .str, _, _, h => by simp [ofCells] at h
  | .sl1 k, [], _, h => by simp [ofCells] at h
  | .sl1 k, [v], x, h => by
    simp only [ofCells] at h
    split at h
    · rename_i y hy
      cases h
      refine ⟨rfl, rfl, ?_⟩
      show GivesL c [v] (cellsU (.sl1 k) [y])
      rw [cellsU_sl1]
      exact GivesL.cons (asC_ok hy) (GivesL.nil c)
    · cases h
  | .sl1 k, _ :: _ :: _, _, h => by simp [ofCells] at h
  | .sl r, vs, x, h => by
    simp only [ofCells] at h
    split at h
    · rename_i y hy
      cases h
      refine ⟨rfl, rfl, ?_⟩
      show GivesL c vs (cellsU (.sl r) [y])
      rw [cellsU_sl]
      simpa using asRow_ok r vs y hy
    · cases h
  | .kids r, vs, x, h => by
    simp only [ofCells] at h
    split at h
    · rename_i y v hy hd
      split at h
      · rename_i ks hks
        cases h
        refine ⟨rfl, rfl, ?_⟩
        show GivesL c vs (cellsU (.kids r) [Rose.mk y ks])
        rw [cellsU_kids]
        have e : vs = vs.take r.length ++ [v] := by rw [← hd, List.take_append_drop]
        rw [e]
        simp only [List.flatMap_cons, List.flatMap_nil, List.append_nil, roseU]
        exact (asRow_ok r _ y hy).append (GivesL.cons (asC_ok hks) (GivesL.nil c))
      · cases h
    · cases h

theorem ofRows_ok {c : Cf} {k : C} (hk : isSl k = true) (w : Nat) : ∀ (n : Nat) (vs : List V) (x : k.I), ofRows k w n vs = some x → lenC k x = n ∧ GivesL c vs (cellsU k x)
  | 0, [], x, h => by
    simp only [ofRows] at h; cases h
    obtain ⟨h1, h2⟩ := dflt_sl hk
    exact ⟨h1, by rw [h2]; exact GivesL.nil c⟩
  | 0, _ :: _, _, h => by simp [ofRows] at h
  | n + 1, vs, x, h => by
    simp only [ofRows] at h
    split at h
    · rename_i y z hy hz
      cases h
      obtain ⟨_, h1, h2⟩ := ofCells_ok (c := c) k _ y hy
      obtain ⟨h3, h4⟩ := ofRows_ok hk w n _ z hz
      obtain ⟨h5, h6⟩ := appC_cells hk y z
      refine ⟨by rw [h6, h1, h3, Nat.add_comm], ?_⟩
      rw [h5, ← List.take_append_drop w vs]
      exact h2.append h4
    · cases h

/-- Part of a list replaced. -/
def over {α : Type} (l : List α) (off : Nat) (xs : List α) : List α := l.take off ++ (xs ++ l.drop (off + xs.length))

theorem over_len {α : Type} (l : List α) (off : Nat) (xs : List α) (h : off + xs.length ≤ l.length) : (over l off xs).length = l.length := by
  simp [over]; omega

theorem over_at {α : Type} {l : List α} {off : Nat} {xs : List α} {i : Nat} {y : α} (h : off + xs.length ≤ l.length) (hy : (over l off xs)[i]? = some y) :
    (off ≤ i ∧ i < off + xs.length ∧ xs[i - off]? = some y) ∨ ((i < off ∨ off + xs.length ≤ i) ∧ l[i]? = some y) := by
  unfold over at hy
  have ht : (l.take off).length = off := by simp; omega
  by_cases h1 : i < off
  · rw [List.getElem?_append_left (by omega)] at hy
    rw [List.getElem?_take, if_pos h1] at hy
    exact .inr ⟨.inl h1, hy⟩
  · rw [List.getElem?_append_right (by omega), ht] at hy
    by_cases h2 : i - off < xs.length
    · rw [List.getElem?_append_left h2] at hy
      exact .inl ⟨by omega, by omega, hy⟩
    · rw [List.getElem?_append_right (by omega), List.getElem?_drop] at hy
      refine .inr ⟨.inr (by omega), ?_⟩
      rw [← hy]; congr 1; omega

theorem over_get {α : Type} {l : List α} {off : Nat} {xs : List α} {i : Nat} (h : off + xs.length ≤ l.length) :
    (over l off xs)[i]? = if off ≤ i ∧ i < off + xs.length then xs[i - off]? else l[i]? := by
  unfold over
  have ht : (l.take off).length = off := by simp; omega
  by_cases h1 : i < off
  · rw [List.getElem?_append_left (by omega), List.getElem?_take, if_pos h1, if_neg (by omega)]
  · rw [List.getElem?_append_right (by omega), ht]
    by_cases h2 : i - off < xs.length
    · rw [List.getElem?_append_left h2, if_pos (by omega)]
    · rw [List.getElem?_append_right (by omega), List.getElem?_drop, if_neg (by omega)]
      congr 1; omega

theorem fillV_over : ∀ (vs : List V) (off : Nat) (xs : List V), off + vs.length ≤ xs.length → fillV xs off vs = over xs off vs
  | [], off, xs, h => by simp [fillV, over]
  | v :: vs, off, xs, h => by
    simp only [fillV]
    rw [fillV_over vs (off + 1) (xs.set off v) (by simp at h ⊢; omega)]
    apply List.ext_getElem?
    intro i
    rw [over_get (by simp at h ⊢; omega), over_get h]
    simp only [List.length_cons, List.getElem?_set]
    simp only [List.length_cons] at h
    by_cases h1 : off + 1 ≤ i ∧ i < off + 1 + vs.length
    · rw [if_pos h1, if_pos (by omega)]
      rw [show i - off = (i - (off + 1)) + 1 from by omega, List.getElem?_cons_succ]
    · rw [if_neg h1]
      by_cases h2 : off = i
      · subst h2
        rw [if_pos rfl, if_pos (by omega), if_pos (by omega)]
        simp
      · rw [if_neg h2, if_neg (by omega)]

theorem setRow_ok {c : Cf} : ∀ (r : List C) (x : C.Is r) (off : Nat) (vs : List V) (y : C.Is r), setRow r x off vs = some y →
    ∃ us, GivesL c vs us ∧ (vs = [] ∨ off + us.length ≤ r.length) ∧ encs r y = over (encs r x) off us
  | [], x, off, [], y, h => by
    simp only [setRow] at h; cases h
    exact ⟨[], GivesL.nil c, .inl rfl, by simp [over, encs]⟩
  | k :: r, x, off, [], y, h => by
    have h : some x = some y := by cases off <;> simpa [setRow] using h
    cases h
    exact ⟨[], GivesL.nil c, .inl rfl, by simp [over]⟩
  | [], _, _, _ :: _, _, h => by simp [setRow] at h
  | k :: r, x, 0, v :: vs, y, h => by
    simp only [setRow] at h
    split at h
    · rename_i z hz
      split at h
      · rename_i q hq
        cases h
        obtain ⟨us, h1, h2, h3⟩ := setRow_ok r x.2 0 vs q hq
        refine ⟨enc k z :: us, GivesL.cons (asC_ok hz) h1, .inr ?_, ?_⟩
        · rcases h2 with rfl | h2
          · have := h1.1; simp at this; subst this; simp
          · simp; omega
        · simp only [encs, h3, over]
          simp
      · cases h
    · cases h
  | k :: r, x, off + 1, v :: vs, y, h => by
    simp only [setRow] at h
    split at h
    · rename_i z hz
      cases h
      obtain ⟨us, h1, h2, h3⟩ := setRow_ok r x.2 off (v :: vs) z hz
      refine ⟨us, h1, .inr ?_, ?_⟩
      · rcases h2 with h2 | h2
        · cases h2
        · simp; omega
      · simp only [encs, h3, over]
        simp
        rw [show off + 1 + us.length = (off + us.length) + 1 from by omega, List.drop_succ_cons]
    · cases h

theorem flat_set {α β : Type} (f : α → List β) (w : Nat) (hf : ∀ x, (f x).length = w) (xs : List α) (i : Nat) (y : α) (hi : i < xs.length) :
    (xs.set i y).flatMap f = over (xs.flatMap f) (i * w) (f y) := by
  have e : xs.set i y = xs.take i ++ y :: xs.drop (i + 1) := by rw [List.set_eq_take_append_cons_drop, if_pos hi]
  rw [e]
  simp only [List.flatMap_append, List.flatMap_cons, over, hf]
  rw [flatMap_take f w hf, flatMap_drop f w hf, Nat.add_mul, Nat.one_mul]

theorem over_over {α : Type} (l : List α) (a b : Nat) (us : List α) (m : List α) (h1 : a + m.length ≤ l.length) (h2 : b + us.length ≤ m.length) (hm : m = (l.drop a).take m.length) :
    over l a (over m b us) = over l (a + b) us := by
  have hl := over_len m b us h2
  apply List.ext_getElem?
  intro i
  rw [over_get (l := l) (off := a) (xs := over m b us) (by omega), over_get (l := l) (off := a + b) (xs := us) (by omega), hl]
  by_cases h3 : a ≤ i ∧ i < a + m.length
  · rw [if_pos h3, over_get h2]
    by_cases h4 : b ≤ i - a ∧ i - a < b + us.length
    · rw [if_pos h4, if_pos (by omega)]; congr 1; omega
    · rw [if_neg h4, if_neg (by omega), hm, List.getElem?_take, if_pos (by omega), List.getElem?_drop]
      congr 1; omega
  · rw [if_neg h3, if_neg (by omega)]

theorem setElem_ok {c : Cf} : ∀ (k : C) (xs : k.I) (i off : Nat) (vs : List V) (ys : k.I), i < lenC k xs → setElem k xs i off vs = some ys →
    ∃ us, GivesL c vs us ∧ i * (rowOf k).length + off + us.length ≤ (cellsU k xs).length ∧ cellsU k ys = over (cellsU k xs) (i * (rowOf k).length + off) us ∧ lenC k ys = lenC k xs
  | .int _, _, _, _, _, _, hi, _ => by simp [lenC] at hi
  | .bool, _, _, _, _, _, hi, _ => by simp [lenC] at hi
  | .str, _, _, _, _, _, hi, _ => by simp [lenC] at hi
  | .kids _, _, _, _, _, _, _, h => by simp [setElem] at h
  | .sl1 k, _, _, _ + 1, _, _, _, h => by simp [setElem] at h
  | .sl1 k, _, _, 0, [], _, _, h => by simp [setElem] at h
  | .sl1 k, _, _, 0, _ :: _ :: _, _, _, h => by simp [setElem] at h
  | .sl1 k, (xs : List k.I), i, 0, [v], ys, hi, h => by
    have hi : i < xs.length := hi
    simp only [setElem] at h
    split at h
    · rename_i y hy
      cases h
      refine ⟨[enc k y], GivesL.cons (asC_ok hy) (GivesL.nil c), ?_, ?_, ?_⟩
      · rw [cellsU_sl1]; simp [rowOf]; omega
      · show cellsU (.sl1 k) (xs.set i y) = _
        rw [cellsU_sl1, cellsU_sl1]
        have := flat_set (fun x => [enc k x]) 1 (fun _ => rfl) xs i y hi
        simp only [rowOf, List.length_cons, List.length_nil, Nat.add_zero]
        rw [Nat.zero_add]
        have e1 : ∀ l : List k.I, l.flatMap (fun x => [enc k x]) = l.map (enc k) := fun l => by induction l <;> simp_all
        rw [e1, e1] at this
        exact this
      · show (xs.set i y).length = xs.length
        simp
    · cases h
  | .sl _, _, _, _, [], _, _, h => by simp [setElem] at h
  | .sl r, (xs : List (C.Is r)), i, off, v :: vs, ys, hi, h => by
    have hi : i < xs.length := hi
    simp only [setElem] at h
    split at h
    · rename_i y hy
      cases h
      obtain ⟨us, h1, h2, h3⟩ := setRow_ok (c := c) r _ off (v :: vs) y hy
      have hx : encs r (xs.getD i (dflts r)) = (((xs.flatMap (encs r))).drop (i * r.length)).take r.length := (flatMap_at _ _ (encs_len r) xs i (dflts r) hi).symm
      have hlen : (xs.flatMap (encs r)).length = xs.length * r.length := flatMap_len _ _ (encs_len r) xs
      have hmul : (i + 1) * r.length ≤ xs.length * r.length := Nat.mul_le_mul_right _ hi
      rw [Nat.add_mul, Nat.one_mul] at hmul
      rcases h2 with h2 | h2
      · cases h2
      · refine ⟨us, h1, ?_, ?_, ?_⟩
        · rw [cellsU_sl, hlen]; simp only [rowOf]; omega
        · show cellsU (.sl r) (xs.set i y) = _
          rw [cellsU_sl, cellsU_sl, flat_set _ _ (encs_len r) xs i y hi, h3]
          simp only [rowOf]
          exact over_over _ _ _ _ _ (by rw [encs_len, hlen]; omega) (by rw [encs_len]; omega) (by rw [encs_len]; exact hx)
        · show (xs.set i y).length = xs.length
          simp
    · cases h

end Go.Vm

namespace Go.Vm
section
variable {P : Program} {E : Env} {R : Type} {K : Cont R} {r : R} {s : St} {a : Act} {w : World} {o : Oper} {n : Nat} {c0 : Cf} {Q : Exit → Act → World → Prop}
variable {Al : Nat → Prop} {be : List Bt}

theorem goodV_at {mem : List Blk} {q : V} : ∀ (l : List V) (i : Nat), noJunk mem l = true → l[i]? = some q → goodV mem q = true
  | [], _, _, h => by simp at h
  | p :: l, i, hl, hi => by
    simp only [noJunk, Bool.and_eq_true] at hl
    cases i with
    | zero => simp at hi; subst hi; exact hl.1
    | succ i => exact goodV_at l i hl.2 (by simpa using hi)

theorem plain_of_noJunk {mem : List Blk} {z : A0} (h : noJunk mem z.cells = true) : z.plain mem = true := by
  cases z with
  | one q => exact goodV_at _ 0 h rfl
  | agg qs => rfl

theorem cells_one {c : Cf} {xs : List V} {arr : Array Value} (h : CellsRel c xs arr) (hj : noJunk c.mem xs = true) : ∀ v ∈ arr.toList, v.oneCell' = true := by
  intro v hv
  obtain ⟨i, hi⟩ := List.getElem?_of_mem hv
  have hil : i < xs.length := by rw [← h.1, ← Array.length_toList]; exact (List.getElem?_eq_some_iff.1 hi).1
  obtain ⟨u, hu, hr⟩ := h.2 i _ (List.getElem?_eq_getElem hil)
  rw [← Array.getElem?_toList, hi] at hu; cases hu
  exact goodV_one hr (goodV_at _ i hj (List.getElem?_eq_getElem hil))

theorem i_store (h : At P E n c0 s a w Al be) (hdst : o.dst = none) {t : TypeId} {x y : Operand} (ho : o.op = .store t x y) (hv : vop E o.op s K = some r) : o.wp P a w (Post n c0 s o.dst w false K r) Q := by
  rw [ho] at hv
  simp only [vop] at hv
  have hx := h.evs.2 x
  have hy := h.evs.2 y
  split at hv
  · rename_i ti b off z hti ex ey
    rw [ex] at hx; rw [ey] at hy
    split at hv
    · rename_i cs hm
      split at hv
      · rename_i hcond
        simp only [Bool.and_eq_true, beq_iff_eq, Nat.ble_eq] at hcond
        obtain ⟨⟨hj, hsz⟩, hle⟩ := hcond
        obtain ⟨g, cap, e, hp⟩ := hx
        obtain ⟨g', cap', cells, T, e', hh, hcl, hrel⟩ := h.ok.blk b _ hm
        rw [e] at e'; cases e'
        have hgood : ∀ (i : Nat) (q : V), z.cells[i]? = some q → goodV s.mem q = true := by
          intro i q hq
          have : ∀ (l : List V) (i : Nat), noJunk s.mem l = true → l[i]? = some q → goodV s.mem q = true := by
            intro l
            induction l with
            | nil => intro i _ h; simp at h
            | cons p l ih =>
              intro i hl hi
              simp only [noJunk, Bool.and_eq_true] at hl
              cases i with
              | zero => simp at hi; subst hi; exact hl.1
              | succ i => exact ih i hl.2 (by simpa using hi)
          exact this _ i hj hq
        have hplain : z.plain s.mem = true := by
          cases z with
          | one q => exact hgood 0 q rfl
          | agg qs => rfl
        obtain ⟨hc1, hc2⟩ := a0_cells (c := ⟨w, Al, be, s.mem⟩) hy hplain
        have hone : ∀ v ∈ (a.eval y).cells.toList, v.oneCell' = true := by
          intro v hv
          obtain ⟨i, hi⟩ := List.getElem?_of_mem hv
          have hil : i < z.cells.length := by rw [← hc1, ← Array.length_toList]; exact (List.getElem?_eq_some_iff.1 hi).1
          obtain ⟨u, hu, hr⟩ := hc2 i _ (List.getElem?_eq_getElem hil)
          rw [← Array.getElem?_toList, hi] at hu; cases hu
          exact goodV_one hr (hgood i _ (List.getElem?_eq_getElem hil))
        have hlen : (a.eval y).cells.toList.length = z.cells.length := by rw [Array.length_toList, hc1]
        have hrun := run_storeCells_at P g off T (a.eval y).cells.toList 0 cells w hh (by rw [hlen, hcl]; omega) hone
        simp only [Nat.add_zero] at hrun
        have hov : cells.toList.take off ++ (a.eval y).cells.toList ++ cells.toList.drop (off + (a.eval y).cells.toList.length) = over cells.toList off (a.eval y).cells.toList := by
          simp [over]
        rw [hov] at hrun
        obtain ⟨h1, h2⟩ := step_set h.ok (y := .box (fillV cs off z.cells)) hm rfl e (Only.setRow w g (over cells.toList off (a.eval y).cells.toList).toArray) trivial
          ⟨g, cap, _, T, e, setRow_heap w g cells _ T (0, 0) hh, by rw [fillV_len]; simp [over_len _ _ _ (show off + (a.eval y).cells.toList.length ≤ cells.toList.length by rw [hlen]; simp [hcl]; omega), hcl], fun i q hq => by
            have hkeep : ∀ x v, (⟨w, Al, be, s.mem⟩ : Cf).r1 x v → (⟨w.setRow g (over cells.toList off (a.eval y).cells.toList).toArray, Al, be, s.mem.set b (.box (fillV cs off z.cells))⟩ : Cf).r1 x v := by
              refine r1_keep (c := ⟨w, Al, be, s.mem⟩) (c' := ⟨w.setRow g (over cells.toList off (a.eval y).cells.toList).toArray, Al, be, s.mem.set b (.box (fillV cs off z.cells))⟩) ?_ (fun _ _ e => e) ?_ ?_
              · exact fun k hk => ⟨hk, (Only.setRow w g _).block k (fun hkg => h.ok.av g ⟨b, _, cap, hm, rfl, e⟩ (hkg ▸ hk))⟩
              · intro b' k xs hb'
                by_cases hbb : b' = b
                · subst hbb; rw [hm] at hb'; cases hb'
                · exact .inl ⟨xs, by show (s.mem.set b _)[b']? = _; rw [set_ne hbb]; exact hb', rfl⟩
              · intro b' q hb' hne
                by_cases hbb : b' = b
                · subst hbb; exact ⟨_, set_at hm, fun k ys hk => by cases hk⟩
                · exact ⟨q, by show (s.mem.set b _)[b']? = _; rw [set_ne hbb]; exact hb', hne⟩
            rw [fillV_over _ _ _ hle] at hq
            have hle' : off + (a.eval y).cells.toList.length ≤ cells.toList.length := by rw [hlen]; simp [hcl]; omega
            rcases over_at hle hq with ⟨i1, i2, hq⟩ | ⟨i1, hq⟩
            · obtain ⟨u, hu, hr⟩ := hc2 _ q hq
              refine ⟨u, ?_, hkeep q u hr⟩
              rw [List.getElem?_toArray, over_get hle', if_pos (by rw [hlen]; omega), Array.getElem?_toList]
              exact hu
            · obtain ⟨u, hu, hr⟩ := hrel i q hq
              refine ⟨u, ?_, hkeep q u hr⟩
              rw [List.getElem?_toArray, over_get hle', if_neg (by rw [hlen]; omega), Array.getElem?_toList]
              exact hu⟩
        unfold Oper.wp
        have hop : (execOp a.eval o).run P w = .ok .skip (w.setRow g (over cells.toList off (a.eval y).cells.toList).toArray) := by
          have hp : a.eval x = .pointer (some ⟨g, off, none⟩) := hp
          simp [execOp, ho, Instr.storeAt, hp, Instr.sureAddr, storeVar, info_size h.hE hti, hc1, hsz, hrun]
        rw [hop, Oper.upon_skip]
        exact h.post (dst := o.dst) h1 h2 (fun d hd => by rw [hdst] at hd; cases hd) hv trivial (fun h => by cases h)
      · cases hv
    · cases hv
  · rename_i ti b i off z hti ex ey
    rw [ex] at hx; rw [ey] at hy
    split at hv
    · rename_i k xs hm
      split at hv
      · rename_i hcond
        simp only [Bool.and_eq_true, beq_iff_eq] at hcond
        obtain ⟨hj, hsz⟩ := hcond
        split at hv
        · rename_i ys hse
          simp only [Cf.ra, Cf.ra0, Cf.r1, hm] at hx
          obtain ⟨hi, g, cap, e, hp⟩ := hx
          obtain ⟨hk, hbk⟩ := h.ok.blk b _ hm
          rcases hbk with ⟨g', cap', cells, T, e', hh, hcl, hlc, hrel⟩ | ⟨e', _⟩
          · rw [e] at e'; cases e'
            obtain ⟨us, hus, hfit, hcells, hlen'⟩ := setElem_ok (c := ⟨w, Al, be, s.mem⟩) k xs i off z.cells ys hi hse
            have hplain : z.plain s.mem = true := plain_of_noJunk hj
            obtain ⟨hc1, hc2⟩ := a0_cells (c := ⟨w, Al, be, s.mem⟩) hy hplain
            have hone := cells_one (c := ⟨w, Al, be, s.mem⟩) ⟨hc1, hc2⟩ hj
            have hlen : (a.eval y).cells.toList.length = z.cells.length := by rw [Array.length_toList, hc1]
            have hsize : (cellsU k xs).length ≤ cells.size := by rw [cellsU_len, hcl]; exact Nat.mul_le_mul_right _ hlc
            have hcl2 : cells.toList.length = cells.size := Array.length_toList
            have hle' : i * (rowOf k).length + off + (a.eval y).cells.toList.length ≤ cells.toList.length := by rw [hlen, hcl2, ← hus.1]; omega
            have hrun := run_storeCells_at P g (i * (rowOf k).length + off) T (a.eval y).cells.toList 0 cells w hh (by rw [hcl2] at hle'; omega) hone
            simp only [Nat.add_zero] at hrun
            have hov : cells.toList.take (i * (rowOf k).length + off) ++ (a.eval y).cells.toList ++ cells.toList.drop (i * (rowOf k).length + off + (a.eval y).cells.toList.length) = over cells.toList (i * (rowOf k).length + off) (a.eval y).cells.toList := by
              simp [over]
            rw [hov] at hrun
            have hal : ∀ q, Al q → Al q ∧ (w.setRow g (over cells.toList (i * (rowOf k).length + off) (a.eval y).cells.toList).toArray).heap[q]? = w.heap[q]? := fun q hq => ⟨hq, (Only.setRow w g _).block q (fun hqg => h.ok.av g ⟨b, _, cap, hm, rfl, e⟩ (hqg ▸ hq))⟩
            obtain ⟨h1, h2⟩ := step_set h.ok (y := .arr k ys) hm rfl e (Only.setRow w g (over cells.toList (i * (rowOf k).length + off) (a.eval y).cells.toList).toArray) ⟨rfl, hlen'.symm⟩
              ⟨hk, .inl ⟨g, cap, _, T, e, setRow_heap w g cells _ T (0, 0) hh, by simp [over_len _ _ _ hle', hcl], by rw [hlen']; exact hlc, fun j u hu => by
                rw [hcells] at hu
                rcases over_at (by omega) hu with ⟨i1, i2, hu⟩ | ⟨i1, hu⟩
                · obtain ⟨v, hv, hr⟩ := hc2 (j - (i * (rowOf k).length + off)) _ (List.getElem?_eq_getElem (by rw [← hus.1]; omega))
                  refine ⟨v, ?_, Rd_mono hal u v (hus.2 _ _ u (List.getElem?_eq_getElem (by rw [← hus.1]; omega)) hu v hr)⟩
                  rw [List.getElem?_toArray, over_get hle', if_pos (by rw [hlen, ← hus.1]; omega), Array.getElem?_toList]
                  exact hv
                · obtain ⟨v, hv, hr⟩ := hrel j u hu
                  refine ⟨v, ?_, Rd_mono hal u v hr⟩
                  rw [List.getElem?_toArray, over_get hle', if_neg (by rw [hlen, ← hus.1]; omega), Array.getElem?_toList]
                  exact hv⟩⟩
            unfold Oper.wp
            have hop : (execOp a.eval o).run P w = .ok .skip (w.setRow g (over cells.toList (i * (rowOf k).length + off) (a.eval y).cells.toList).toArray) := by
              simp [execOp, ho, Instr.storeAt, hp, Instr.sureAddr, storeVar, info_size h.hE hti, hc1, hsz, hrun]
            rw [hop, Oper.upon_skip]
            exact h.post (dst := o.dst) h1 h2 (fun d hd => by rw [hdst] at hd; cases hd) hv trivial (fun h => by cases h)
          · rw [e] at e'; cases e'
        · cases hv
      · cases hv
    · cases hv
  · cases hv

end
end Go.Vm

namespace Go.Vm
section
variable {P : Program} {E : Env} {R : Type} {K : Cont R} {r : R} {s : St} {a : Act} {w : World} {o : Oper} {n : Nat} {c0 : Cf} {Q : Exit → Act → World → Prop} {cm : Bool}
variable {Al : Nat → Prop} {be : List Bt}

theorem fillV_app {acc part ys zs : List V} (h : ys.length = part.length) : fillV (acc ++ (ys ++ zs)) acc.length part = acc ++ (part ++ zs) := by
  rw [fillV_over _ _ _ (by simp; omega)]
  unfold over
  rw [List.take_left, ← List.append_assoc, ← List.append_assoc]
  have e : (acc ++ ys).length = acc.length + part.length := by simp [h]
  rw [← e, List.drop_left, List.append_assoc]

theorem vparts_ok {c : Cf} (hev : Evs E c s a) {wd : Nat} : ∀ (l : List (Nat × Operand)) (m : Nat) (acc cells : List V) (arr : Array Value), acc.length = m * wd →
    CellsRel c (acc ++ List.replicate (l.length * wd) V.junk) arr → vparts E s wd l m acc = some cells →
      ∃ arr', Instr.fill (fun i => some (i * wd, wd)) arr (l.map fun x => (x.1, a.eval x.2)) = some arr' ∧ CellsRel c cells arr'
  | [], m, acc, cells, arr, _, h, hb => by
    simp only [vparts] at hb; cases hb
    exact ⟨arr, rfl, by simpa using h⟩
  | (i, x) :: l, m, acc, cells, arr, hacc, h, hb => by
    simp only [vparts] at hb
    split at hb
    · rename_i y ex
      have hx := hev.2 x
      rw [ex] at hx
      split at hb
      · rename_i hcond
        simp only [Bool.and_eq_true, beq_iff_eq] at hcond
        obtain ⟨⟨rfl, hyl⟩, hp⟩ := hcond
        rw [← hev.1] at hp
        have hcr := a0_cells hx hp
        have hrep : List.replicate (((i, x) :: l).length * wd) V.junk = List.replicate wd V.junk ++ List.replicate (l.length * wd) V.junk := by
          rw [List.replicate_append_replicate]; congr 1; simp [Nat.add_mul]; omega
        rw [hrep] at h
        have hstep := fill_step (off := i * wd) h hx hp (by simp [hacc, hyl])
        rw [← hacc, fillV_app (by simp [hyl])] at hstep
        rw [← List.append_assoc] at hstep
        obtain ⟨arr', h3, h4⟩ := vparts_ok hev l (i + 1) (acc ++ y.cells) cells _ (by simp [hacc, hyl, Nat.add_mul]) hstep hb
        refine ⟨arr', ?_, h4⟩
        simp only [List.map_cons, Instr.fill]
        rw [if_neg]
        · rw [hacc] at h3; exact h3
        · have e1 : (a.eval x).cells.size = wd := by rw [hcr.1, hyl]
          have e2 := h.1
          simp [hacc] at e2
          simp [e1]
          omega
      · cases hb
    · cases hb

theorem slc_ok (hE : EnvOK P E) {t sz by_ e : Nat} {ag : Bool} {k : C} (h : E.ti t = some ⟨sz, by_, ag, [k], .slc e⟩) :
    P.underlying t = some (.slice e) ∧ isSl k = true ∧ ∀ ei, E.ti e = some ei → ei.size = (rowOf k).length := by
  obtain ⟨info, d, z, h1, h2, h3, h4, h5, h6, _⟩ := hE.ti t _ h
  obtain ⟨rfl, h7⟩ := h6
  obtain ⟨h8, ei, h9, h10⟩ := h7 k rfl
  refine ⟨h4, h8, fun ei' he' => ?_⟩
  obtain ⟨info', d', z', g1, g2, _⟩ := hE.ti e _ he'
  rw [h9] at g1; cases g1
  rw [← g2, h10]

theorem i_buildSlice (h : At P E n c0 s a w Al be) (hdst : ∀ d, o.dst = some d → d < n) {t : TypeId} {len : Nat} {parts : Array (Nat × Operand)} (ho : o.op = .buildSlice t len parts)
    (hv : vop E o.op s K = some r) : o.wp P a w (Post n c0 s o.dst w cm K r) Q := by
  rw [ho] at hv
  simp only [vop] at hv
  split at hv
  · rename_i sz by_ ag k e hi
    split at hv
    · rename_i ei hei
      split at hv
      · rename_i cells hparts
        split at hv
        · rename_i hcond
          simp only [Bool.and_eq_true, beq_iff_eq, Nat.ble_eq, bne_iff_ne, ne_eq] at hcond
          obtain ⟨⟨hlen, hbig⟩, hsz0⟩ := hcond
          split at hv
          · rename_i xs hxs
            obtain ⟨hu, hk, hw0⟩ := slc_ok h.hE hi
            have hwd := hw0 ei hei
            obtain ⟨info, d, z, g1, g2, g3, g4, g5, g6, g7, g8, g9⟩ := h.hE.ti e _ hei
            obtain ⟨hl1, hl2⟩ := ofRows_ok (c := ⟨w, Al, be, s.mem⟩) hk ei.size len cells xs hxs
            let zero : Array Value := if len * ei.size = 0 then #[] else z.cells
            let arr0 : Array Value := (Array.range (len * ei.size)).map (fun i => zero[i % zero.size]!)
            have h0 : CellsRel ⟨w, Al, be, s.mem⟩ ([] ++ List.replicate (parts.toList.length * ei.size) V.junk) arr0 := by
              refine ⟨by simp [arr0, ← hlen], fun i x hx => ?_⟩
              have hx' := hx
              simp only [List.nil_append, List.getElem?_replicate] at hx'
              split at hx'
              · rename_i hil
                cases hx'
                have : i < arr0.size := by simp [arr0, ← hlen]; simpa using hil
                exact ⟨arr0[i], by simp [this], trivial⟩
              · cases hx'
            obtain ⟨arr, ha1, ha2⟩ := vparts_ok (c := ⟨w, Al, be, s.mem⟩) h.evs parts.toList 0 [] cells arr0 (by simp) h0 hparts
            have hsizes : arr.size = len * (rowOf k).length := by
              rw [ha2.1, ← hl2.1, cellsU_len, hl1]
            have hw := Ext.alloc w (.cells arr e)
            refine h.new hdst hw (t := .blk w.heap.size len) (fun g cap e => by cases e; exact Nat.le_refl _) ?_ hv ?_ ?_ (v := .slice (some ⟨w.heap.size, 0, none⟩) len len)
            · refine ⟨hk, .inl ⟨w.heap.size, len, arr, e, last_be h, new_cells w _ e, hsizes, by omega, fun i u hu => ?_⟩⟩
              have hil : i < cells.length := by rw [← hl2.1]; exact (List.getElem?_eq_some_iff.1 hu).1
              obtain ⟨v, hv, hr⟩ := ha2.2 i _ (List.getElem?_eq_getElem hil)
              exact ⟨v, hv, Rd_mono (fun g hg => ⟨hg, hw.block g (h.ok.lt g hg)⟩) u v (hl2.2 i _ u (List.getElem?_eq_getElem hil) hu v hr)⟩
            · simp only [Cf.r1, last_mem]
              exact .inl ⟨w.heap.size, len, last_be h, by rw [hl1]⟩
            · simp only [execOp, ho, Instr.buildSlice, Sem.run_bind, under_run hu, Result.andThen_ok, info_size h.hE hei]
              rw [if_neg (by omega)]
              have harr : (parts.map fun x => (x.1, a.eval x.2)).toList = parts.toList.map fun x => (x.1, a.eval x.2) := by simp
              have hfill : Instr.fill (fun i => some (i * ei.size, ei.size)) ((Array.range (len * ei.size)).map (fun i => zero[i % zero.size]!)) (parts.map fun x => (x.1, a.eval x.2)).toList = some arr := by
                rw [harr]; exact ha1
              by_cases hz0 : len * ei.size = 0
              · have e0 : zero = #[] := if_pos hz0
                rw [e0] at hfill
                rw [if_pos hz0]
                simp only [Sem.run_bind, Sem.run_pure, Result.andThen_ok, hfill]
                simp [newRow]
              · have e0 : zero = z.cells := if_neg hz0
                rw [e0] at hfill
                rw [if_neg hz0]
                have hzr : (zeroValue e).run P w = .ok z w := by simp [zeroValue, typeInfo, g1, g7]
                simp only [Sem.run_bind, Sem.run_pure, Result.andThen_ok, hzr, hfill]
                simp [newRow]
          · cases hv
        · cases hv
      · cases hv
    · cases hv
  · cases hv

/-! ### make -/

theorem zero_rd (c : Cf) (k : C) : Rd c.w c.Al (enc k (dflt k)) (zeroVal k) := by
  cases k with
  | int k => simp [enc, Rd, dflt, zeroVal]
  | bool => simp [enc, Rd, dflt, zeroVal]
  | str => simp [enc, Rd, dflt, zeroVal]; rfl
  | sl1 k => exact ⟨none, 0, rfl, Nat.le_refl _, .inl rfl⟩
  | sl r => exact ⟨none, 0, rfl, Nat.le_refl _, .inl rfl⟩
  | kids r => exact ⟨none, 0, rfl, Nat.le_refl _, .inl rfl⟩

theorem encs_dflts : ∀ (r : List C), encs r (dflts r) = r.map fun k => enc k (dflt k)
  | [] => rfl
  | k :: r => by simp [encs, dflts, encs_dflts r]

theorem flat_repl {α β : Type} (f : α → List β) (x : α) (n i : Nat) (y : β) (h : ((List.replicate n x).flatMap f)[i]? = some y) : (f x)[i % (f x).length]? = some y := by
  induction n generalizing i with
  | zero => simp at h
  | succ n ih =>
    rw [List.replicate_succ, List.flatMap_cons] at h
    by_cases hi : i < (f x).length
    · rw [List.getElem?_append_left hi] at h
      rw [Nat.mod_eq_of_lt hi]; exact h
    · rw [List.getElem?_append_right (by omega)] at h
      have := ih _ h
      rwa [Nat.mod_eq_sub_mod (by omega)]

theorem replC_ok : ∀ {k : C} (_ : isSl k = true) (n : Nat), lenC k (replC k n) = n ∧ ∀ (i : Nat) (u : U), (cellsU k (replC k n))[i]? = some u →
    ∃ k', (rowOf k)[i % (rowOf k).length]? = some k' ∧ u = enc k' (dflt k')
  | .int _, h, _ => by simp [isSl] at h
  | .bool, h, _ => by simp [isSl] at h
  | .str, h, _ => by simp [isSl] at h
  | .sl1 k, _, n => by
    refine ⟨List.length_replicate, fun i u hu => ?_⟩
    have hu : (cellsU (.sl1 k) (List.replicate n (dflt k)))[i]? = some u := hu
    rw [cellsU_sl1, List.map_replicate, List.getElem?_replicate] at hu
    split at hu
    · cases hu; exact ⟨k, by simp [rowOf, Nat.mod_one], rfl⟩
    · cases hu
  | .sl r, _, n => by
    refine ⟨List.length_replicate, fun i u hu => ?_⟩
    have hu : (cellsU (.sl r) (List.replicate n (dflts r)))[i]? = some u := hu
    rw [cellsU_sl] at hu
    have := flat_repl _ _ _ _ _ hu
    rw [encs_len, encs_dflts, List.getElem?_map] at this
    show ∃ k', r[i % r.length]? = some k' ∧ _
    cases hk : r[i % r.length]? with
    | none => rw [hk] at this; cases this
    | some k' => rw [hk] at this; cases this; exact ⟨k', rfl, rfl⟩
  | .kids r, _, n => by
    refine ⟨List.length_replicate, fun i u hu => ?_⟩
    have hu : (cellsU (.kids r) (List.replicate n (dfltRose r)))[i]? = some u := hu
    rw [cellsU_kids] at hu
    have := flat_repl _ _ _ _ _ hu
    have e : roseU (encs r) (dfltRose r) = (r ++ [C.kids r]).map fun k => enc k (dflt k) := by
      simp only [dfltRose, roseU, encs_dflts, List.map_append, List.map_cons, List.map_nil]
      rfl
    rw [roseU_len, e, List.getElem?_map] at this
    have e2 : (rowOf (.kids r)).length = r.length + 1 := by simp [rowOf]
    rw [e2]
    show ∃ k', (r ++ [C.kids r])[i % (r.length + 1)]? = some k' ∧ _
    cases hk : (r ++ [C.kids r])[i % (r.length + 1)]? with
    | none => rw [hk] at this; cases this
    | some k' => rw [hk] at this; cases this; exact ⟨k', rfl, rfl⟩

theorem i_makeSlice (h : At P E n c0 s a w Al be) (hdst : ∀ d, o.dst = some d → d < n) {t : TypeId} {x y : Operand} (ho : o.op = .makeSlice t x y)
    (hv : vop E o.op s K = some r) : o.wp P a w (Post n c0 s o.dst w cm K r) Q := by
  rw [ho] at hv
  simp only [vop] at hv
  have hx := h.evs.2 x
  have hy := h.evs.2 y
  split at hv
  · rename_i sz by_ ag k e k1 m1 k2 m2 hi ex ey
    rw [ex] at hx; rw [ey] at hy
    have hx : a.eval x = .int k1 m1 := by simpa [Cf.ra, Cf.ra0, Cf.r1, enc, Rd] using hx
    have hy : a.eval y = .int k2 m2 := by simpa [Cf.ra, Cf.ra0, Cf.r1, enc, Rd] using hy
    split at hv
    · rename_i ei hei
      split at hv
      · rename_i hcond
        simp only [Bool.and_eq_true, bne_iff_ne, ne_eq] at hcond
        obtain ⟨⟨hb0, hs0⟩, hcs⟩ := hcond
        split at hv
        · rename_i g0
          split at hv
          · rename_i g1
            split at hv
            · rename_i g2
              obtain ⟨hu, hk, hw0⟩ := slc_ok h.hE hi
              have hwd := hw0 ei hei
              obtain ⟨info, d, z, q1, q2, q3, q4, q5, q6, q7, q8, q9⟩ := h.hE.ti e _ hei
              have hcells := C.beqs_eq hcs
              have hzl : z.cells.toList = (rowOf k).map zeroVal := by
                rcases q9 with q9 | q9
                · rw [hcells] at q9
                  rw [q9] at hwd; simp at hwd; exact absurd hwd hs0
                · rw [q9, hcells]
              have hm : m2.toNat ≤ m2.toNat * ei.bytes := Nat.le_mul_of_pos_right _ (by omega)
              have hm2 : m2.toNat ≤ 140737488355328 := by omega
              have wrap_id : ∀ q : Int, 0 ≤ q → q ≤ 140737488355328 → IntKind.i64.wrap q = q := by
                intro q h1 h2
                simp only [IntKind.wrap, IntKind.bits, IntKind.signed]
                have : q % (2 ^ 64 : Int) = q := Int.emod_eq_of_lt h1 (by omega)
                simp only [this]
                rw [if_neg]
                simp; omega
              have e1 := wrap_id m1 g0 (by omega)
              have e2 := wrap_id m2 (by omega) (by omega)
              obtain ⟨hr1, hr2⟩ := replC_ok hk m1.toNat
              let nn := m2.toNat * ei.size
              let zero : Array Value := if nn = 0 then #[] else z.cells
              let arr : Array Value := (Array.range nn).map (fun i => zero[i % zero.size]!)
              have hw := Ext.alloc w (.cells arr e)
              refine h.new hdst hw (t := .blk w.heap.size m2.toNat) (fun g cap e => by cases e; exact Nat.le_refl _) ?_ hv ?_ ?_ (v := .slice (some ⟨w.heap.size, 0, none⟩) m1.toNat m2.toNat)
              · refine ⟨hk, .inl ⟨w.heap.size, m2.toNat, arr, e, last_be h, new_cells w _ e, by simp [arr, nn, hwd], by rw [hr1]; omega, fun i u hu => ?_⟩⟩
                obtain ⟨k', hk', rfl⟩ := hr2 i u hu
                have hil : i < m1.toNat * (rowOf k).length := by
                  have := (List.getElem?_eq_some_iff.1 hu).1
                  rwa [cellsU_len, hr1] at this
                have hil2 : i < nn := by
                  have : m1.toNat * (rowOf k).length ≤ m2.toNat * (rowOf k).length := Nat.mul_le_mul_right _ (by omega)
                  simp only [nn, hwd]; omega
                have hz0 : zero = z.cells := by simp only [zero]; rw [if_neg (by omega)]
                have hzs : z.cells.size = (rowOf k).length := by rw [q8, hwd]
                refine ⟨zeroVal k', ?_, zero_rd _ k'⟩
                simp only [arr, Array.getElem?_map, Array.getElem?_range, hil2, if_true, Option.map_some, hz0, hzs]
                have : z.cells[i % (rowOf k).length]? = some (zeroVal k') := by
                  rw [← Array.getElem?_toList, hzl, List.getElem?_map, hk']; rfl
                rw [Array.getElem!_eq_getD, Array.getD_eq_getD_getElem?, this]; rfl
              · simp only [Cf.r1, last_mem]
                exact .inl ⟨w.heap.size, m2.toNat, last_be h, by rw [hr1]⟩
              · have hinfo : ∀ w', (typeInfo e).run P w' = .ok info w' := fun w' => by simp [typeInfo, q1]
                have hbm : ∀ q : Int, 0 ≤ q → q ≤ m2 → ¬ ((info.bytes : Int) * q > 2 ^ 48) := by
                  intro q h1 h2
                  have h3 : (info.bytes : Int) * q ≤ (info.bytes : Int) * m2 := Int.mul_le_mul_of_nonneg_left h2 (by omega)
                  have h4 : (info.bytes : Int) * m2 = ((m2.toNat * ei.bytes : Nat) : Int) := by
                    rw [q3, Int.natCast_mul, Int.toNat_of_nonneg (by omega), Int.mul_comm]
                  rw [h4] at h3
                  omega
                have h1 := hbm m2 (by omega) (by omega)
                have hzr : (zeroValue e).run P w = .ok z w := by simp [zeroValue, typeInfo, q1, q7]
                have hsz := info_size h.hE hei w
                simp only [execOp, ho, hx, hy, Instr.makeSlice, Sem.run_bind, under_run hu, Result.andThen_ok, asInt, asIntOf, Sem.run_pure, hinfo, e1, e2]
                have hcnd : ((decide (m2 < 0) || decide ((info.bytes : Int) * m2 > 2 ^ 48)) || decide (m1 < 0) || decide (m1 > m2)) = false := by
                  simp only [Bool.or_eq_false_iff, decide_eq_false_iff_not]
                  exact ⟨⟨⟨by omega, h1⟩, by omega⟩, by omega⟩
                rw [if_neg (by rw [hcnd]; simp)]
                simp only [Sem.run_bind, run_askRoom, Result.andThen_ok, hsz]
                by_cases hz0 : m2.toNat * ei.size = 0
                · have e0 : zero = #[] := if_pos hz0
                  have harr : arr = (Array.range (m2.toNat * ei.size)).map (fun i => (#[] : Array Value)[i % (#[] : Array Value).size]!) := by simp only [arr, nn, e0]
                  rw [if_pos hz0]
                  simp only [Sem.run_bind, Sem.run_pure, Result.andThen_ok, newRow, run_newObj, ← harr, World.alloc_eq]
                · have e0 : zero = z.cells := if_neg hz0
                  have harr : arr = (Array.range (m2.toNat * ei.size)).map (fun i => z.cells[i % z.cells.size]!) := by simp only [arr, nn, e0]
                  rw [if_neg hz0]
                  simp only [Sem.run_bind, Sem.run_pure, Result.andThen_ok, hzr, newRow, run_newObj, ← harr, World.alloc_eq]
            · cases hv
          · cases hv
        · cases hv
      · cases hv
    · cases hv
  · cases hv

end
end Go.Vm

namespace Go.Vm
section
variable {P : Program} {E : Env} {R : Type} {K : Cont R} {r : R} {s : St} {a : Act} {w : World} {o : Oper} {n : Nat} {c0 : Cf} {Q : Exit → Act → World → Prop}
variable {Al : Nat → Prop} {be : List Bt}

/-- What is appended. -/
structure Src (P : Program) (c : Cf) (wd : Nat) (v : Value) (m : Nat) (us : List U) (news : List Value) : Prop where
  sl : ∃ ad cap, v = .slice ad m cap
  len : news.length = m * wd
  first : ∀ w', (∀ g off u, c.w.cell? ⟨g, off, none⟩ = some u → w'.cell? ⟨g, off, none⟩ = some u) → (Builtin.firstCells wd m v).run P w' = .ok news.toArray w'
  rd : ∀ (i : Nat) (u : U), us[i]? = some u → ∃ x, news[i]? = some x ∧ Rd c.w c.Al u x
  one : ∀ x ∈ news, x.oneCell' = true

theorem loadCells_of (w : World) (g off : Nat) (cs : List Value) (h : ∀ (j : Nat) (v : Value), cs[j]? = some v → w.cell? ⟨g, off + j, none⟩ = some v) :
    (loadCells ⟨g, off, none⟩ cs.length).run P w = .ok cs.toArray w :=
  run_loadCells_list w _ cs fun j u hu => by rw [add_lit]; exact h j u hu

theorem src_ok {c : Cf} (hc : c.ok) {k : C} (hk : isSl k = true) {y : V} {v : Value} (hy : c.r1 y v) {ys : k.I} (h : srcOf c.mem k y = some ys) :
    ∃ news, Src P c (rowOf k).length v (lenC k ys) (cellsU k ys) news := by
  have empty : ∀ ad cap, v = .slice ad 0 cap → lenC k ys = 0 → ∃ news, Src P c (rowOf k).length v (lenC k ys) (cellsU k ys) news := by
    intro ad cap hv hl
    have hcl : cellsU k ys = [] := List.eq_nil_of_length_eq_zero (by rw [cellsU_len, hl, Nat.zero_mul])
    refine ⟨[], ⟨ad, cap, by rw [hl]; exact hv⟩, by simp [hl], fun w' _ => ?_, by rw [hcl]; simp, by simp⟩
    rw [hl, hv]
    cases ad <;> simp [Builtin.firstCells, loadCells, loadCellsFrom]
  have data : ∀ (k' : C) (z : k'.I), isSl k' = true → Rd c.w c.Al (enc k' z) v → cast? k' k z = some ys → ∃ news, Src P c (rowOf k).length v (lenC k ys) (cellsU k ys) news := by
    intro k' z hk' hr hcast
    obtain ⟨he, hkk⟩ := cast?_enc hcast
    rw [← he, enc_sl hk] at hr
    simp only [Rd] at hr
    obtain ⟨ad, cap, hv, hlc, hcs⟩ := hr
    by_cases hz : lenC k ys = 0
    · exact empty ad cap (by rw [hv, hz]) hz
    · rcases hcs with h0 | ⟨g, off, rfl, hg, hr⟩
      · exact absurd h0 hz
      · have hget : ∀ (i : Nat) (u : U), (cellsU k ys)[i]? = some u → ∃ x, c.w.cell? ⟨g, off + i, none⟩ = some x ∧ Rd c.w c.Al u x := RdC_iff.1 hr
        let news := (List.range (cellsU k ys).length).map fun j => (c.w.cell? ⟨g, off + j, none⟩).getD undef
        have hnews : ∀ (j : Nat) (x : Value), news[j]? = some x → c.w.cell? ⟨g, off + j, none⟩ = some x ∧ ∃ u, (cellsU k ys)[j]? = some u ∧ Rd c.w c.Al u x := by
          intro j x hx
          have hjl : j < (cellsU k ys).length := by
            have := (List.getElem?_eq_some_iff.1 hx).1
            simpa [news] using this
          obtain ⟨x', hx', hr'⟩ := hget j _ (List.getElem?_eq_getElem hjl)
          simp only [news, List.getElem?_map, List.getElem?_range hjl, Option.map_some, hx', Option.getD_some] at hx
          cases hx
          exact ⟨hx', _, List.getElem?_eq_getElem hjl, hr'⟩
        have hlen : news.length = lenC k ys * (rowOf k).length := by simp [news, cellsU_len]
        refine ⟨news, ⟨_, cap, hv⟩, hlen, fun w' hw' => ?_, fun i u hu => ?_, fun x hx => ?_⟩
        · rw [hv]
          simp only [Builtin.firstCells]
          rw [← hlen]
          exact loadCells_of w' g off news fun j x hx => hw' g _ x (hnews j x hx).1
        · have hil := (List.getElem?_eq_some_iff.1 hu).1
          have hil2 : i < news.length := by simpa [news] using hil
          have hx : news[i]? = some (news[i]'hil2) := List.getElem?_eq_getElem hil2
          obtain ⟨_, u', hu', hr'⟩ := hnews i _ hx
          rw [hu] at hu'; cases hu'
          exact ⟨_, hx, hr'⟩
        · obtain ⟨i, hi⟩ := List.getElem?_of_mem hx
          obtain ⟨_, u, _, hr'⟩ := hnews i x hi
          exact Rd_oneCell hr'
  cases y with
  | nils =>
    simp only [srcOf] at h; cases h
    have hv : v = .slice none 0 0 := hy
    exact empty none 0 hv (dflt_sl hk).1
  | d k' z =>
    simp only [srcOf, slOf] at h
    split at h
    · rename_i k2 y2 hsl
      split at hsl
      · rename_i hk'
        cases hsl
        exact data k' z hk' hy h
      · cases hsl
    · cases h
  | ref b =>
    simp only [srcOf, slOf] at h
    split at h
    · rename_i k2 y2 hsl
      split at hsl
      · rename_i k' zs hm
        cases hsl
        obtain ⟨he, rfl⟩ := cast?_enc h
        have hlu : lenC k2 y2 = lenC k2 ys ∧ cellsU k2 y2 = cellsU k2 ys := by
          rw [enc_sl hk, enc_sl hk] at he
          injection he with h1 h2
          exact ⟨h1.symm, h2.symm⟩
        simp only [Cf.r1, hm] at hy
        obtain ⟨_, hb⟩ := hc.blk b _ hm
        rcases hb with ⟨g, cap, cells, T, e, hh, hsz, hlc, hrel⟩ | ⟨e, hl⟩
        · rcases hy with ⟨g', cap', e', hv⟩ | ⟨e', _⟩
          · rw [e] at e'; cases e'
            have hfit : (cellsU k2 ys).length ≤ cells.size := by rw [← hlu.2, cellsU_len, hsz]; exact Nat.mul_le_mul_right _ hlc
            let news := cells.toList.take (cellsU k2 ys).length
            have hnl : news.length = lenC k2 ys * (rowOf k2).length := by
              simp only [news, List.length_take, Array.length_toList]
              rw [← cellsU_len]; omega
            have hn : ∀ (j : Nat) (x : Value), news[j]? = some x → j < (cellsU k2 ys).length ∧ cells[j]? = some x := by
              intro j x hx
              simp only [news, List.getElem?_take] at hx
              split at hx
              · exact ⟨by assumption, by simpa using hx⟩
              · cases hx
            refine ⟨news, ⟨_, cap, by rw [← hlu.1]; exact hv⟩, hnl, fun w' hw' => ?_, fun i u hu => ?_, fun x hx => ?_⟩
            · rw [hv, ← hlu.1]
              simp only [Builtin.firstCells]
              rw [hlu.1, ← hnl]
              refine loadCells_of w' g 0 news fun j x hx => hw' g _ x ?_
              simp [World.cell?, hh, (hn j x hx).2]
            · have hil := (List.getElem?_eq_some_iff.1 hu).1
              rw [← hlu.2] at hu
              obtain ⟨x, hx, hr'⟩ := hrel i u hu
              exact ⟨x, by simp only [news, List.getElem?_take, if_pos hil]; simpa using hx, hr'⟩
            · obtain ⟨i, hi⟩ := List.getElem?_of_mem hx
              obtain ⟨hil, hx'⟩ := hn i x hi
              obtain ⟨x2, hx2, hr'⟩ := hrel i _ (by rw [hlu.2]; exact List.getElem?_eq_getElem hil)
              rw [hx'] at hx2; cases hx2
              exact Rd_oneCell hr'
          · rw [e] at e'; cases e'
        · rcases hy with ⟨g', cap', e', hv⟩ | ⟨_, hv⟩
          · rw [e] at e'; cases e'
          · exact empty none 0 hv (by rw [← hlu.1]; exact hl)
      · cases hsl
    · cases h
  | _ => simp [srcOf, slOf] at h


theorem append_room {t ty e : TypeId} {wd : Nat} (ht : P.underlying t = some (.slice e)) (hs : ∀ w', (sizeOf e).run P w' = .ok wd w') {c : Cf} {v : Value} {m : Nat} {us : List U} {news : List Value}
    (hsrc : Src P c wd v m us news) {g sLen sCap : Nat} {cells : Array Value} {T : TypeId} (hg : c.w.heap[g]? = some (.cells cells T (0, 0))) (hroom : sLen + m ≤ sCap) (hfit : sLen * wd + news.length ≤ cells.size) :
    (Builtin.append_ #[t, t] ty #[.slice (some ⟨g, 0, none⟩) sLen sCap, v]).run P c.w =
      .ok (.slice (some ⟨g, 0, none⟩) (sLen + m) sCap) (c.w.setRow g (over cells.toList (sLen * wd) news).toArray) := by
  obtain ⟨ad, cap, hv⟩ := hsrc.sl
  have hf := hsrc.first c.w (fun _ _ _ h => h)
  have hst := run_storeCells_at P g (sLen * wd) T news 0 cells c.w hg (by omega) hsrc.one
  simp only [Nat.add_zero] at hst
  have hov : cells.toList.take (sLen * wd) ++ news ++ cells.toList.drop (sLen * wd + news.length) = over cells.toList (sLen * wd) news := by simp [over]
  rw [hov] at hst
  subst hv
  simp [Builtin.append_, under_run ht, hs, Builtin.lenOf, hroom, hf, add_lit, hst]

theorem append_grow {t ty e : TypeId} {wd : Nat} {info : TypeInfo} {z : Value} (ht : P.underlying t = some (.slice e)) (hi : P.info? e = some info) (hwd : info.size = wd) (hz : info.zero = some z) (hzs : z.cells.size = wd)
    (hb0 : info.bytes ≠ 0) {c : Cf} {v : Value} {m : Nat} {us : List U} {news : List Value} (hsrc : Src P c wd v m us news) {base : Option Addr} {sLen sCap : Nat} {old : List Value}
    (hold : (Builtin.firstCells wd sLen (.slice base sLen sCap)).run P c.w.drew = .ok old.toArray c.w.drew) (hgrow : sCap < sLen + m) (hbytes : (sLen + m) * info.bytes ≤ 140737488355328) :
    ∃ rest : List Value, ∃ cap, sLen + m ≤ cap ∧ rest.length = (cap - (sLen + m)) * wd ∧
    (Builtin.append_ #[t, t] ty #[.slice base sLen sCap, v]).run P c.w =
      .ok (.slice (some ⟨c.w.heap.size, 0, none⟩) (sLen + m) cap) (c.w.drew.alloc (.cells (old ++ news ++ rest).toArray e)) := by
  obtain ⟨ad, cap, hv⟩ := hsrc.sl
  have hf := hsrc.first c.w.drew (fun _ _ _ h => h)
  have hfit := growslice_fits hgrow hbytes
  have hneed : sLen + m ≤ 140737488355328 := Nat.le_trans (Nat.le_mul_of_pos_right _ (by omega)) hbytes
  let newCap := grownCap c.w (sLen + m) sCap e
  have hge : sLen + m ≤ newCap := grownCap_ge c.w (sLen + m) sCap e
  refine ⟨(Builtin.zeroCells z.cells (newCap - (sLen + m))).toList, newCap, hge, by simp [Builtin.zeroCells, hzs], ?_⟩
  subst hv
  have hzr : ∀ w', (zeroValue e).run P w' = .ok z w' := fun w' => by simp [zeroValue, typeInfo, hi, hz]
  have hinfo : ∀ w', (typeInfo e).run P w' = .ok info w' := fun w' => by simp [typeInfo, hi]
  have hsz : ∀ w', (sizeOf e).run P w' = .ok wd w' := fun w' => by simp [sizeOf, typeInfo, hi, hwd]
  have h1 : ¬ ((sLen + m : Nat) : Int) > IntKind.i64.max := by simp [IntKind.max, IntKind.bits, IntKind.signed]; omega
  have h2 : ¬ (Builtin.nextslicecap (sLen + m) sCap * info.bytes > 2 ^ 48) := by omega
  have hch : (choose (.appendCap (sLen + m) sCap e)).run P c.w = .ok newCap c.w.drew := by
    simp [Question.forced, newCap, grownCap]
  have h3 : ¬ (sLen + m ≤ sCap) := by omega
  simp [Builtin.append_, under_run ht, hsz, hinfo, Builtin.lenOf, h3, hb0, h2, Question.forced, hold, hf, hzr, newRow]
  refine ⟨rfl, congrArg _ (congrArg (fun x => Obj.cells x e) ?_)⟩
  apply Array.ext'
  simp
  rfl

theorem append_none {t ty e : TypeId} {wd : Nat} (ht : P.underlying t = some (.slice e)) (hs : ∀ w', (sizeOf e).run P w' = .ok wd w') {c : Cf} {v : Value} {us : List U} {news : List Value}
    (hsrc : Src P c wd v 0 us news) : (Builtin.append_ #[t, t] ty #[.slice none 0 0, v]).run P c.w = .ok (.slice none 0 0) c.w := by
  obtain ⟨ad, cap, hv⟩ := hsrc.sl
  have hf := hsrc.first c.w (fun _ _ _ h => h)
  subst hv
  simp [Builtin.append_, under_run ht, hs, Builtin.lenOf, hf]

theorem drew_alloc_ext (w : World) (o : Obj) : Ext w (w.drew.alloc o) := (Ext.drew w).trans (Ext.alloc _ _)

/-- The new row of an append that grows. -/
theorem grown_blk {c : Cf} {be' : List Bt} {mem' : List Blk} {k : C} {ys : k.I} {e cap m wd : Nat} {cells : List Value} (hk : isSl k = true) (hwd : wd = (rowOf k).length) (b : Nat)
    (hb : be'[b]? = some (.blk c.w.heap.size cap)) (hlen : cells.length = cap * wd) (hm : lenC k ys = m) (hcap : m ≤ cap)
    (hr : ∀ (i : Nat) (u : U), (cellsU k ys)[i]? = some u → ∃ v, cells[i]? = some v ∧ Rd (c.w.drew.alloc (.cells cells.toArray e)) c.Al u v) :
    (⟨c.w.drew.alloc (.cells cells.toArray e), c.Al, be', mem'⟩ : Cf).blkOK b (.arr k ys) := by
  refine ⟨hk, .inl ⟨c.w.heap.size, cap, cells.toArray, e, hb, ?_, by simp [hlen, hwd], by omega, fun i u hu => ?_⟩⟩
  · exact new_cells c.w.drew _ e
  · obtain ⟨v, hv, hr⟩ := hr i u hu
    exact ⟨v, by simpa using hv, hr⟩

theorem i_append2 (h : At P E n c0 s a w Al be) (hdst : ∀ d, o.dst = some d → d < n) {args : Array Operand} {ts : Array TypeId} (ho : o.op = .call { callee := .builtin .append, args := args, argTypes := ts })
    (hv : vop E o.op s K = some r) : o.wp P a w (fun a' w' => Post n c0 s o.dst w false K r a' w' ∧ BoxK ⟨w, Al, be, s.mem⟩ w') Q := by
  rw [ho] at hv
  simp only [vop, vbuiltin, vappend] at hv
  have hargs := evs_args h.evs args.toList
  split at hv
  · rename_i x y hl
    rw [hl] at hargs
    obtain ⟨vx, hvx, hx⟩ := hargs 0 _ rfl
    obtain ⟨vy, hvy, hy⟩ := hargs 1 _ rfl
    have hlen2 : args.toList.length = 2 := by
      have := congrArg List.length hl
      simpa using this
    split at hv
    · rename_i t t' ht ht'
      split at hv
      · rename_i sz by_ ag k e hi
        split at hv
        · rename_i ei hei
          split at hv
          · cases hv
          · rename_i ys hys
            split at hv
            · rename_i hcond
              simp only [Bool.and_eq_true, beq_iff_eq, bne_iff_ne, ne_eq] at hcond
              obtain ⟨⟨rfl, hs0⟩, hb0⟩ := hcond
              obtain ⟨hu, hk, hw0⟩ := slc_ok h.hE hi
              have hwd := hw0 ei hei
              obtain ⟨info, d, z, q1, q2, q3, q4, q5, q6, q7, q8, q9⟩ := h.hE.ti e _ hei
              obtain ⟨news, hsrc⟩ := src_ok (P := P) h.ok hk hy hys
              have hsz : ∀ w', (sizeOf e).run P w' = .ok (rowOf k).length w' := fun w' => by rw [info_size h.hE hei, hwd]
              have hval : args.map a.eval = #[vx, vy] := by
                apply Array.ext'
                apply List.ext_getElem?
                intro i
                rw [Array.toList_map]
                match i with
                | 0 => exact hvx
                | 1 => exact hvy
                | i + 2 => rw [List.getElem?_eq_none (by simp; rw [Array.length_toList] at hlen2; omega)]; rfl
              have hrun : ∀ {v' : Value} {w' : World}, (Builtin.append_ ts o.type #[vx, vy]).run P w = .ok v' w' → (execOp a.eval o).run P w = .ok (.value v') w' := by
                intro v' w' hr
                obtain ⟨consts, hb⟩ := builtin_run (P := P) (a := a) ho w
                rw [hb, hval]
                simp [builtin, hr]
              have happ : Builtin.append_ ts o.type #[vx, vy] = Builtin.append_ #[t', t'] o.type #[vx, vy] := by
                simp [Builtin.append_, ht, ht']
              rw [happ] at hrun
              have hgl : ∀ old m', (old.length = m' * (rowOf k).length) → ∀ rest : List Value, ∀ cap, m' + lenC k ys ≤ cap → rest.length = (cap - (m' + lenC k ys)) * (rowOf k).length →
                  (old ++ news ++ rest).length = cap * (rowOf k).length := by
                intro old m' h1 rest cap h2 h3
                simp only [List.length_append, h1, hsrc.len, h3, ← Nat.add_mul]
                congr 1; omega
              split at hv
              · -- onto nil
                have hx : vx = .slice none 0 0 := hx
                subst hx
                split at hv
                · rename_i hbytes
                  by_cases hm : lenC k ys = 0
                  · have hsrc0 : Src P ⟨w, Al, be, s.mem⟩ (rowOf k).length vy 0 (cellsU k ys) news := by rw [← hm]; exact hsrc
                    have hr := append_none (ty := o.type) hu hsz hsrc0
                    refine h.new2 hdst (Ext.refl w) (t := .nil) (x := .arr k ys) (fun g cap e => by cases e) ⟨hk, .inr ⟨last_be h, hm⟩⟩ hv ?_ (hrun hr)
                    simp only [Cf.r1, last_mem]
                    exact .inr ⟨last_be h, rfl⟩
                  · obtain ⟨rest, cap, hc1, hc2, hr⟩ := append_grow (ty := o.type) hu q1 (by rw [q2, hwd]) q7 (by rw [q8, hwd]) (by rw [q3]; exact hb0) hsrc (base := none) (sLen := 0) (sCap := 0) (old := [])
                      (by simp [Builtin.firstCells]) (by omega) (by rw [Nat.zero_add, q3]; exact hbytes)
                    rw [Nat.zero_add] at hc1 hc2 hr
                    have hw := drew_alloc_ext w (.cells ([] ++ news ++ rest).toArray e)
                    refine h.new2 hdst hw (t := .blk w.heap.size cap) (fun g cap e => by cases e; exact Nat.le_refl _) ?_ hv ?_ (hrun hr)
                    · refine grown_blk (c := ⟨w, Al, be, s.mem⟩) hk rfl _ (last_be h) (hgl [] 0 (by simp) rest cap (by omega) (by rw [Nat.zero_add]; exact hc2)) rfl hc1 (fun i u hu => ?_)
                      obtain ⟨x, hx, hr⟩ := hsrc.rd i u hu
                      refine ⟨x, ?_, Rd_mono (fun g hg => ⟨hg, hw.block g (h.ok.lt g hg)⟩) u x hr⟩
                      rw [List.nil_append]; exact app_some hx
                    · simp only [Cf.r1, last_mem]
                      exact .inl ⟨w.heap.size, cap, last_be h, rfl⟩
                · cases hv
              · rename_i b
                split at hv
                · rename_i k' xs' hm
                  split at hv
                  · rename_i xs hxs
                    obtain ⟨he, hkk⟩ := cast?_enc hxs
                    subst hkk
                    have hlu : lenC k' xs = lenC k' xs' ∧ cellsU k' xs = cellsU k' xs' := by
                      rw [enc_sl hk, enc_sl hk] at he
                      injection he with h1 h2
                      exact ⟨h1, h2⟩
                    split at hv
                    · rename_i hbytes
                      obtain ⟨hap1, hap2⟩ := appC_cells hk xs ys
                      obtain ⟨hk1, hk2, hk3⟩ := step_kill h.ok hm
                      simp only [Cf.ra, Cf.ra0, Cf.r1, hm] at hx
                      have hbk := (h.ok.blk b _ hm).2
                      have hkeepU : ∀ (w' : World) (u : U) (x : Value), Ext w w' → Rd w Al u x → Rd w' Al u x := fun w' u x hw hr => Rd_mono (fun g hg => ⟨hg, hw.block g (h.ok.lt g hg)⟩) u x hr
                      -- growing
                      have grow : ∀ (base : Option Addr) (sCap : Nat) (old : List Value), vx = .slice base (lenC k' xs') sCap → old.length = lenC k' xs' * (rowOf k').length →
                          (Builtin.firstCells (rowOf k').length (lenC k' xs') (.slice base (lenC k' xs') sCap)).run P w.drew = .ok old.toArray w.drew →
                          (∀ (i : Nat) (u : U), (cellsU k' xs')[i]? = some u → ∃ x, old[i]? = some x ∧ Rd w Al u x) → sCap < lenC k' xs' + lenC k' ys → o.wp P a w (fun a' w' => Post n c0 s o.dst w false K r a' w' ∧ BoxK ⟨w, Al, be, s.mem⟩ w') Q := by
                        intro base sCap old hvx hold hfirst hrd hlt
                        obtain ⟨rest, cap, hc1, hc2, hr⟩ := append_grow (ty := o.type) hu q1 (by rw [q2, hwd]) q7 (by rw [q8, hwd]) (by rw [q3]; exact hb0) hsrc (base := base) (sLen := lenC k' xs') (sCap := sCap) (old := old)
                          hfirst hlt (by rw [← hlu.1, q3]; exact hbytes)
                        rw [← hvx] at hr
                        have hw := drew_alloc_ext w (.cells (old ++ news ++ rest).toArray e)
                        obtain ⟨g1, g2⟩ := step_new hk1 hw (.blk w.heap.size cap) (.arr k' (appC k' xs ys)) (fun g cap e => by cases e; exact Nat.le_refl _)
                          (grown_blk (c := ⟨w, Al, be, s.mem⟩) hk rfl _ (by rw [List.length_set]; exact last_be h) (hgl old _ hold rest cap hc1 hc2) (by rw [hap2, hlu.1]) hc1 (fun i u hu => by
                            rw [hap1, hlu.2] at hu
                            by_cases hi : i < (cellsU k' xs').length
                            · rw [List.getElem?_append_left hi] at hu
                              obtain ⟨x, hx, hr⟩ := hrd i u hu
                              exact ⟨x, app_some (app_some hx), hkeepU _ u x hw hr⟩
                            · rw [List.getElem?_append_right (by omega)] at hu
                              obtain ⟨x, hx, hr⟩ := hsrc.rd _ u hu
                              refine ⟨x, app_some ?_, hkeepU _ u x hw hr⟩
                              rw [List.getElem?_append_right (by rw [hold, ← cellsU_len]; omega), hold, ← cellsU_len]
                              exact hx))
                        unfold Oper.wp
                        rw [hrun hr, Oper.upon_value]
                        refine ⟨h.post g1 (hk2.trans g2) hdst hv ?_ (fun h => by cases h), BoxK.of_ext h.ok hw⟩
                        simp only [Cf.ra, Cf.ra0, Cf.r1]
                        have e1 : (s.mem.set b Blk.dead ++ [Blk.arr k' (appC k' xs ys)])[s.mem.length]? = some (Blk.arr k' (appC k' xs ys)) := by
                          rw [List.getElem?_append_right (by simp)]; simp
                        rw [e1]
                        exact .inl ⟨w.heap.size, cap, last_be h, by rw [hap2, hlu.1]⟩
                      rcases hbk with ⟨g, cap, cells, T, eb, hh, hcl, hlc, hrel⟩ | ⟨eb, hl0⟩
                      · rcases hx with ⟨g', cap', e', hvx'⟩ | ⟨e', _⟩
                        · rw [eb] at e'; cases e'
                          by_cases hroom : lenC k' xs' + lenC k' ys ≤ cap
                          · -- there is room
                            have hmul : (lenC k' xs' + lenC k' ys) * (rowOf k').length ≤ cap * (rowOf k').length := Nat.mul_le_mul_right _ hroom
                            rw [Nat.add_mul] at hmul
                            have hfit : lenC k' xs' * (rowOf k').length + news.length ≤ cells.size := by rw [hsrc.len, hcl]; omega
                            have hr := append_room (ty := o.type) hu hsz hsrc hh hroom hfit
                            rw [← hvx'] at hr
                            have hcl2 : cells.toList.length = cells.size := Array.length_toList
                            obtain ⟨g1, g2⟩ := step_move h.ok (ys := appC k' xs ys) hm eb (Only.setRow w g (over cells.toList (lenC k' xs' * (rowOf k').length) news).toArray)
                              ⟨hk, .inl ⟨g, cap, _, T, last_be h, setRow_heap w g cells _ T (0, 0) hh, by simp [over_len _ _ _ (show lenC k' xs' * (rowOf k').length + news.length ≤ cells.toList.length by omega), hcl], by rw [hap2, hlu.1]; exact hroom, fun i u hu => by
                                have hal : ∀ q, Al q → Al q ∧ (w.setRow g (over cells.toList (lenC k' xs' * (rowOf k').length) news).toArray).heap[q]? = w.heap[q]? := fun q hq => ⟨hq, (Only.setRow w g _).block q (fun hqg => h.ok.av g ⟨b, _, cap, hm, rfl, eb⟩ (hqg ▸ hq))⟩
                                rw [hap1, hlu.2] at hu
                                by_cases hi : i < (cellsU k' xs').length
                                · rw [List.getElem?_append_left hi] at hu
                                  obtain ⟨x, hx, hr⟩ := hrel i u hu
                                  refine ⟨x, ?_, Rd_mono hal u x hr⟩
                                  rw [List.getElem?_toArray, over_get (by omega), if_neg (by rw [cellsU_len] at hi; omega)]
                                  simpa using hx
                                · rw [List.getElem?_append_right (by omega), cellsU_len] at hu
                                  obtain ⟨x, hx, hr⟩ := hsrc.rd _ u hu
                                  refine ⟨x, ?_, Rd_mono hal u x hr⟩
                                  have := (List.getElem?_eq_some_iff.1 hx).1
                                  rw [cellsU_len] at hi
                                  rw [List.getElem?_toArray, over_get (by omega), if_pos (by omega)]
                                  exact hx⟩⟩
                            unfold Oper.wp
                            rw [hrun hr, Oper.upon_value]
                            refine ⟨h.post g1 g2 hdst hv ?_ (fun h => by cases h), ⟨fun b' cs' g' cap' hm' e' => (Only.setRow w g _).block g' (fun hgg => by
                              subst hgg
                              have := h.ok.inj b b' _ _ g' cap cap' hm rfl eb hm' rfl e'
                              subst this
                              have hm : s.mem[b]? = some (.arr k' xs') := hm
                              have hm' : s.mem[b]? = some (.box cs') := hm'
                              rw [hm] at hm'; cases hm'), fun g' hg' => (Only.setRow w g _).block g' (fun hgg => by
                              subst hgg
                              exact h.ok.av g' ⟨b, _, cap, hm, rfl, eb⟩ hg')⟩⟩
                            simp only [Cf.ra, Cf.ra0, Cf.r1]
                            have e1 : (s.mem.set b Blk.dead ++ [Blk.arr k' (appC k' xs ys)])[s.mem.length]? = some (Blk.arr k' (appC k' xs ys)) := by
                              rw [List.getElem?_append_right (by simp)]; simp
                            rw [e1]
                            exact .inl ⟨g, cap, last_be h, by rw [hap2, hlu.1]⟩
                          · have hol : (cells.toList.take (lenC k' xs' * (rowOf k').length)).length = lenC k' xs' * (rowOf k').length := by
                              have : lenC k' xs' * (rowOf k').length ≤ cap * (rowOf k').length := Nat.mul_le_mul_right _ hlc
                              have e3 : cells.toList.length = cap * (rowOf k').length := (Array.length_toList (xs := cells)).trans hcl
                              rw [List.length_take, e3]
                              exact Nat.min_eq_left this
                            refine grow _ cap (cells.toList.take (lenC k' xs' * (rowOf k').length)) hvx' hol ?_ (fun i u hu => ?_) (by omega)
                            · simp only [Builtin.firstCells]
                              have := loadCells_of (P := P) w.drew g 0 (cells.toList.take (lenC k' xs' * (rowOf k').length)) (fun j v hj => by
                                rw [List.getElem?_take] at hj
                                split at hj
                                · have hh' : w.drew.heap[g]? = some (.cells cells T (0, 0)) := hh
                                  simp [World.cell?, hh']
                                  simpa using hj
                                · cases hj)
                              rw [hol] at this
                              exact this
                            · obtain ⟨x, hx, hr⟩ := hrel i u hu
                              have hi := (List.getElem?_eq_some_iff.1 hu).1
                              rw [cellsU_len] at hi
                              exact ⟨x, by rw [List.getElem?_take, if_pos hi]; simpa using hx, hr⟩
                        · rw [eb] at e'; cases e'
                      · rcases hx with ⟨g', cap', e', _⟩ | ⟨_, hvx'⟩
                        · rw [eb] at e'; cases e'
                        · have hcu : cellsU k' xs' = [] := List.eq_nil_of_length_eq_zero (by rw [cellsU_len, hl0, Nat.zero_mul])
                          by_cases hm0 : lenC k' ys = 0
                          · have hsrc0 : Src P ⟨w, Al, be, s.mem⟩ (rowOf k').length vy 0 (cellsU k' ys) news := by rw [← hm0]; exact hsrc
                            have hr := append_none (ty := o.type) hu hsz hsrc0
                            rw [← hvx'] at hr
                            obtain ⟨g1, g2⟩ := step_new hk1 (Ext.refl w) .nil (.arr k' (appC k' xs ys)) (fun g cap e => by cases e) ⟨hk, .inr ⟨by rw [List.length_set]; exact last_be h, by rw [hap2, hlu.1, hl0, hm0]⟩⟩
                            unfold Oper.wp
                            rw [hrun hr, Oper.upon_value]
                            refine ⟨h.post g1 (hk2.trans g2) hdst hv ?_ (fun h => by cases h), BoxK.of_ext h.ok (Ext.refl w)⟩
                            simp only [Cf.ra, Cf.ra0, Cf.r1]
                            have e1 : (s.mem.set b Blk.dead ++ [Blk.arr k' (appC k' xs ys)])[s.mem.length]? = some (Blk.arr k' (appC k' xs ys)) := by
                              rw [List.getElem?_append_right (by simp)]; simp
                            rw [e1]
                            exact .inr ⟨last_be h, hvx'⟩
                          · refine grow none 0 [] (by rw [hvx', hl0]) (by simp [hl0]) (by rw [hl0]; simp [Builtin.firstCells]) (fun i u hu => by rw [hcu] at hu; simp at hu) (by omega)
                    · cases hv
                  · cases hv
                · cases hv
              · cases hv
            · cases hv
        · cases hv
      · cases hv
    · cases hv
  · cases hv

theorem i_append (h : At P E n c0 s a w Al be) (hdst : ∀ d, o.dst = some d → d < n) {args : Array Operand} {ts : Array TypeId} (ho : o.op = .call { callee := .builtin .append, args := args, argTypes := ts })
    (hv : vop E o.op s K = some r) : o.wp P a w (Post n c0 s o.dst w false K r) Q :=
  Oper.wp_mono (fun _ _ h => h.1) (i_append2 h hdst ho hv)

end
end Go.Vm

namespace Go.Vm

/-! ### Orders: an operation that only reads may be taken first, if what may come before it leaves all old memory as it is. -/

section
variable {P : Program} {ops : Array Oper} {Q : Exit → Act → World → Prop} {md : Region.Mode} {Gu : Nat → World → World → Prop} {W : World → World → Prop}

def YieldsE (W : World → World → Prop) (P : Program) (ops : Array Oper) (o : Oper) (v : Value) (a : Act) (w : World) : Prop :=
  (Region.wanted o (yielded ops a.tmps) = true ∧ ∀ w', W w w' → (execOp a.eval o).run P w' = .ok (.value v) w') ∨
  (Region.wanted o (yielded ops a.tmps) = false ∧ v = undef)

theorem YieldsE.wpOp (hWr : ∀ w, W w w) {i : Nat} {o : Oper} {v : Value} {a : Act} {w : World} (hi : ops[i]? = some o) (hy : YieldsE W P ops o v a w)
    {K : Act → World → Prop} (h : K (a.put o.dst v) w) : wpOp P ops Q i K a w := by
  unfold Go.wpOp
  simp only [hi]
  rcases hy with ⟨hw, hv⟩ | ⟨hw, rfl⟩
  · simp only [hw, if_true, Oper.wp, hv w (hWr w), Oper.upon]; exact .inl h
  · simp only [hw, Bool.false_eq_true, if_false]; exact h

theorem YieldsE.of_same (hWt : ∀ a b c, W a b → W b c → W a c) {o : Oper} {v : Value} {a a' : Act} {w w' : World} (hy : YieldsE W P ops o v a w) (he : execOp a'.eval o = execOp a.eval o)
    (hw : Region.wanted o (yielded ops a'.tmps) = Region.wanted o (yielded ops a.tmps)) (hx : W w w') : YieldsE W P ops o v a' w' := by
  unfold YieldsE at *
  rw [he, hw]
  exact hy.imp (fun ⟨h1, h2⟩ => ⟨h1, fun w2 h3 => h2 w2 (hWt _ _ _ hx h3)⟩) id

theorem wpOp_putE (hWr : ∀ w, W w w) (hWt : ∀ a b c, W a b → W b c → W a c) {j : Nat} {oi oj : Oper} {v : Value} (hj : ops[j]? = some oj) (hap : oi.apart ops oj = true)
    (hsi : ∀ cs b, oi.op ≠ .select cs b) (hsj : ∀ cs b, oj.op ≠ .select cs b)
    (hQ : ∀ c a w, Q (.panic c) (a.put oi.dst v) w → Q (.panic c) a w) {K : Act → World → Prop} {a : Act} {w : World}
    (hy : YieldsE W P ops oi v a w) (h : wpOp P ops Q j K (a.put oi.dst v) w) :
    wpOp P ops Q j (fun a' w' => (W w w' → YieldsE W P ops oi v a' w') ∧ K (a'.put oi.dst v) w') a w := by
  obtain ⟨h1, h2, h3⟩ := Oper.apart_spec hap
  have keep : ∀ (u : Value) (w' : World), W w w' → YieldsE W P ops oi v (a.put oj.dst u) w' := fun u w' hx =>
    hy.of_same hWt (execOp_put oi hsi a oj.dst u h3) (wanted_put oi a oj.dst u h3) hx
  have keepD : ∀ (d : Deferred) (u : Value) (w' : World), W w w' → YieldsE W P ops oi v (({ a with defers := d :: a.defers } : Act).put oj.dst u) w' := fun d u w' hx =>
    (hy.of_same hWt (a' := { a with defers := d :: a.defers }) rfl rfl (hWr w)).of_same hWt (execOp_put oi hsi _ oj.dst u h3) (wanted_put oi _ oj.dst u h3) hx
  unfold wpOp at *
  simp only [hj] at *
  rw [wanted_put oj a oi.dst v h1] at h
  split
  · rename_i hw
    simp only [hw, if_true] at h
    rcases h with h | ⟨hasks, hlets⟩
    case inr => exact .inr ⟨by unfold Oper.asks at *; rw [execOp_put oj hsj a oi.dst v h1] at hasks; exact hasks, hlets⟩
    refine .inl ?_
    unfold Oper.wp at *
    rw [execOp_put oj hsj a oi.dst v h1] at h
    generalize (execOp a.eval oj).run P w = r at *
    cases r with
    | ok n w' =>
      cases n <;> simp only [Oper.upon] at h ⊢
      case value u => exact ⟨keep u w', by rw [← Act.put_comm a v u h2]; exact h⟩
      case skip => exact ⟨keep _ w', by rw [← Act.put_comm a v undef h2]; exact h⟩
      case defer d =>
        refine ⟨keepD d _ w', ?_⟩
        rw [← Act.put_comm _ v undef h2, ← Act.put_defers]
        exact h
      case enter f args =>
        refine Calls.mono h fun e w'' he => ?_
        cases e with
        | returned u => exact ⟨keep u w'', by rw [← Act.put_comm a v u h2]; exact he⟩
        | panicked c => exact hQ _ _ _ he
        | outgrown => exact he
      case row row args => exact Rows.mono h fun u w'' he => ⟨keep u w'', by rw [← Act.put_comm a v u h2]; exact he⟩
    | halt x w' =>
      cases x <;> simp only [Oper.upon] at h ⊢
      case panic u => exact hQ _ _ _ h
  · rename_i hw
    simp only [hw] at h
    exact ⟨keep _ w, by rw [← Act.put_comm a v undef h2]; exact h⟩

/-- Whatever order; calm operations leave all old memory as it is. -/
def wpAnyC (P : Program) (md : Region.Mode) (ops : Array Oper) (Q : Exit → Act → World → Prop) (Gu : Nat → World → World → Prop) : Nat → Array Bool → Act → World → Prop
  | 0, listed, a, w => Region.ready md ops listed = [] ∧ Q .normal a w
  | fuel + 1, listed, a, w =>
    (Region.ready md ops listed = [] → Q .normal a w) ∧
    ∀ i ∈ Region.ready md ops listed, wpOp P ops Q i (fun a' w' => Gu i w w' ∧ wpAnyC P md ops Q Gu fuel (listed.setIfInBounds i true) a' w') a w

theorem wpAny_of_calm : ∀ (fuel : Nat) (listed : Array Bool) (a : Act) (w : World), wpAnyC P md ops Q Gu fuel listed a w → wpAny P md ops Q fuel listed a w
  | 0, _, _, _, h => h
  | fuel + 1, _, _, _, h => ⟨h.1, fun i hi => wpOp_mono (fun a' w' h' => wpAny_of_calm fuel _ a' w' h'.2) (h.2 i hi)⟩

theorem wpAnyC_first (hWr : ∀ w, W w w) (hWt : ∀ a b c, W a b → W b c → W a c) (hGr : ∀ j w, Gu j w w) {i : Nat} {oi : Oper} {v : Value} (hi : ops[i]? = some oi) (hsel : ∀ (j : Nat) (o : Oper) cs b, ops[j]? = some o → o.op ≠ .select cs b)
    (hQ : ∀ c a w, Q (.panic c) (a.put oi.dst v) w → Q (.panic c) a w) :
    ∀ (fuel : Nat) (listed : Array Bool) (a : Act) (w : World),
      (∀ j oj, ops[j]? = some oj → j ≠ i → listed.getD j true = false → (∀ e ∈ oj.after, Region.binds md e = true → e.on ≠ i) → oi.apart ops oj = true ∧ ∀ w w', Gu j w w' → W w w') →
      i ∈ Region.ready md ops listed → YieldsE W P ops oi v a w →
      wpAnyC P md ops Q Gu fuel (listed.setIfInBounds i true) (a.put oi.dst v) w → wpAnyC P md ops Q Gu (fuel + 1) listed a w := by
  intro fuel
  induction fuel with
  | zero =>
    intro listed a w _ hr hy H
    refine ⟨fun h => (by rw [h] at hr; cases hr), fun j hj => ?_⟩
    by_cases hji : j = i
    · subst hji; exact hy.wpOp hWr hi ⟨hGr _ w, H⟩
    · have := ready_mono hj hji
      rw [H.1] at this
      cases this
  | succ fuel ih =>
    intro listed a w hfree hr hy H
    refine ⟨fun h => (by rw [h] at hr; cases hr), fun j hj => ?_⟩
    by_cases hji : j = i
    · subst hji; exact hy.wpOp hWr hi ⟨hGr _ w, H⟩
    · have h1 := H.2 j (ready_mono hj hji)
      obtain ⟨hjun, oj, hoj, hall⟩ := mem_ready.1 hj
      have hnot : ∀ e ∈ oj.after, Region.binds md e = true → e.on ≠ i := fun e he hb heq => by
        have h1 := hall e he hb
        have h0 := (mem_ready.1 hr).1
        rw [heq] at h1
        rcases Nat.lt_or_ge i listed.size with h' | h'
        · simp [h'] at h0 h1; rw [h0] at h1; cases h1
        · simp [Array.getElem?_eq_none h'] at h1
      obtain ⟨hap, hcm⟩ := hfree j oj hoj hji hjun hnot
      have h2 := wpOp_putE hWr hWt hoj hap (fun cs b => hsel i oi cs b hi) (fun cs b => hsel j oj cs b hoj) hQ hy h1
      have hfree' : ∀ k ok, ops[k]? = some ok → k ≠ i → (listed.setIfInBounds j true).getD k true = false →
          (∀ e ∈ ok.after, Region.binds md e = true → e.on ≠ i) → oi.apart ops ok = true ∧ ∀ w w', Gu k w w' → W w w' := fun k ok hk hki hun hno => by
        refine hfree k ok hk hki ?_ hno
        by_cases hjk : j = k
        · subst hjk; exact hjun
        · rw [getD_set_ne true hjk] at hun; exact hun
      refine wpOp_mono (fun a' w' h3 => ?_) h2
      obtain ⟨g1, g2, g3⟩ := h3
      have hx := hcm _ _ g2
      refine ⟨g2, ih (listed.setIfInBounds j true) a' w' hfree' (ready_mono hr (Ne.symm hji)) (g1 hx) ?_⟩
      rw [Array.setIfInBounds_comm _ _ hji]
      exact g3

end

/-! ### The order of a region that draws, held against its edges -/

def pureOp : Op → Bool
  | .move _ | .assign _ | .pick .. | .load .. | .nilCheck _ | .binOp .. | .unOp .. | .convert .. | .slice .. | .fieldAddr .. | .field .. | .indexAddr .. | .index .. | .extract .. | .build .. | .makeFunc .. => true
  | .call { callee := .builtin .len, .. } => true
  | _ => false

def calmOp (cf : Nat → Bool) : Op → Bool
  | .box .. | .alloc .. | .buildSlice .. | .makeSlice .. => true
  | .call { callee := .value (.func f), .. } => cf f
  | o => pureOp o

/-- This operation leaves boxes alone. -/
def boxyOp : Op → Bool
  | .call { callee := .builtin .append, .. } => true
  | _ => false

/-- A new block, and nothing else. -/
def newOp : Op → Bool
  | .alloc .. | .buildSlice .. => true
  | _ => false

def isLoad : Op → Bool
  | .load .. => true
  | _ => false

def opAt (p : Op → Bool) (ops : Array Oper) (j : Nat) : Bool := match ops[j]? with
  | some o => p o.op
  | none => false

abbrev calmAt (cf : Nat → Bool) (ops : Array Oper) (j : Nat) : Bool := opAt (calmOp cf) ops j
abbrev boxyAt (ops : Array Oper) (j : Nat) : Bool := opAt boxyOp ops j
abbrev newAt (ops : Array Oper) (j : Nat) : Bool := opAt newOp ops j

/-- Number 'i' may be taken first; 'box': it loads out of a box. -/
def mayFirst (cf : Nat → Bool) (ops : Array Oper) (listed : Array Bool) (i : Nat) (box : Nat) : Bool :=
  match ops[i]? with
  | none => false
  | some oi => pureOp oi.op && (box == 0 || isLoad oi.op) && (List.range ops.size).all fun j => j == i || listed.getD j true || match ops[j]? with
      | some oj => oj.after.any (fun e => Region.binds .any e && e.on == i) || (oi.apart ops oj && (!memOp oi.op || calmAt cf ops j || (box == 1 && boxyAt ops j) || box == 2 || (Nat.ble 3 box && (boxyAt ops j || opAt callOp ops j))))
      | none => true

/-- No other operation that is still to come meddles with number 'k'. -/
def aloneIn (ops : Array Oper) (listed : Array Bool) (k : Nat) : Bool := match ops[k]? with
  | none => false
  | some ok => (match ok.dst with | some d => !(ok.looksAt ops).contains d | none => true) && (List.range ops.size).all fun j => j == k || listed.getD j true || match ops[j]? with
      | some oj => match oj.dst with
        | some d => !(ok.looksAt ops).contains d && ok.dst != some d
        | none => true
      | none => true

def listAll (l : List Nat) (listed : Array Bool) : Array Bool := l.foldl (fun a i => a.setIfInBounds i true) listed

/-- Number 'k' stands behind number 'i'. -/
def depOn (ops : Array Oper) (k i : Nat) : Bool := match ops[k]? with
  | some o => o.after.any fun e => Region.binds .any e && e.on == i
  | none => false

/-- Number 'k' stands behind what is still to come and no new block. -/
def late (ops : Array Oper) (listed : Array Bool) (k : Nat) : Bool := match ops[k]? with
  | some o => o.after.any fun e => Region.binds .any e && !listed.getD e.on false && !newAt ops e.on
  | none => false

/-- Number 'i' is next, but for the new blocks that may come early. -/
def forced (ops : Array Oper) (listed : Array Bool) (i : Nat) (ns l : List Nat) : Bool :=
  let pn := (i :: l).filter fun k => newAt ops k && !depOn ops k i && !late ops listed k
  let j2 := ((i :: l).filter fun j => !newAt ops j).head?
  pn.all (fun k => ns.contains k && aloneIn ops listed k) && (Region.ready .any ops (listAll pn listed)).all (fun k => some k == j2) &&
  (!newAt ops i || match j2 with
    | some j => match ops[j]? with
      | some oj => oj.after.any (fun e => Region.binds .any e && e.on == i)
      | none => false
    | none => true)

def schedOK (cf : Nat → Bool) (ops : Array Oper) : Sched → Array Bool → Bool
  | [], listed => (Region.ready .any ops listed).isEmpty
  | (i, box, ns) :: l, listed => (Region.ready .any ops listed).contains i && (mayFirst cf ops listed i box || (box == 0 && forced ops listed i ns (l.map (·.1)))) && schedOK cf ops l (listed.setIfInBounds i true)

def orderOK (cf : Nat → Bool) (ops : Array Oper) (l : Sched) : Bool :=
  Region.noSelect ops && (List.range ops.size).all (fun j => (l.map (·.1)).contains j) && schedOK cf ops l (Array.replicate ops.size false)

theorem mayFirst_spec {cf : Nat → Bool} {ops : Array Oper} {listed : Array Bool} {i : Nat} {box : Nat} {oi : Oper} (hi : ops[i]? = some oi) (h : mayFirst cf ops listed i box = true) :
    pureOp oi.op = true ∧ (box ≠ 0 → isLoad oi.op = true) ∧ ∀ j oj, ops[j]? = some oj → j ≠ i → listed.getD j true = false → (∀ e ∈ oj.after, Region.binds .any e = true → e.on ≠ i) →
      oi.apart ops oj = true ∧ (memOp oi.op = false ∨ calmAt cf ops j = true ∨ (box = 1 ∧ boxyAt ops j = true) ∨ box = 2 ∨ (3 ≤ box ∧ (boxyAt ops j = true ∨ opAt callOp ops j = true))) := by
  simp only [mayFirst, hi, Bool.and_eq_true, List.all_eq_true, List.mem_range] at h
  refine ⟨h.1.1, fun hb => by simpa [hb] using h.1.2, fun j oj hj hne hun hno => ?_⟩
  have h1 := h.2 j (Array.getElem?_eq_some_iff.1 hj).1
  simp only [hj, Bool.or_eq_true, beq_iff_eq, hne, false_or, hun, Bool.false_eq_true, Bool.and_eq_true, Bool.not_eq_true'] at h1
  rcases h1 with h1 | h1
  · obtain ⟨e, he, hb⟩ := Array.any_eq_true'.1 h1
    simp only [Bool.and_eq_true, beq_iff_eq] at hb
    exact absurd hb.2 (hno e he hb.1)
  · exact ⟨h1.1, by rcases h1.2 with (((h2 | h2) | h2) | h2) | h2 <;> simp_all⟩

def Alone (ops : Array Oper) (listed : Array Bool) (k : Nat) : Prop := ∃ ok, ops[k]? = some ok ∧ (∀ d, ok.dst = some d → d ∉ ok.looksAt ops) ∧
    ∀ (j : Nat) (oj : Oper) (d : Nat), ops[j]? = some oj → j ≠ k → listed.getD j true = false → oj.dst = some d → d ∉ ok.looksAt ops ∧ ok.dst ≠ some d

theorem aloneIn_spec {ops : Array Oper} {listed : Array Bool} {k : Nat} (h : aloneIn ops listed k = true) : Alone ops listed k := by
  unfold aloneIn at h
  split at h
  · cases h
  · rename_i ok hk
    rw [Bool.and_eq_true] at h
    refine ⟨ok, hk, fun d hd => ?_, fun j oj d hj hne hun hd => ?_⟩
    · have := h.1
      rw [hd] at this
      simpa using this
    · have h1 := List.all_eq_true.1 h.2 j (List.mem_range.2 (Array.getElem?_eq_some_iff.1 hj).1)
      simp only [hj, hd, hun, Bool.or_eq_true, beq_iff_eq, hne, false_or, Bool.false_eq_true, Bool.and_eq_true, Bool.not_eq_true', bne_iff_ne, ne_eq] at h1
      exact ⟨by simpa using h1.1, h1.2⟩

end Go.Vm

namespace Go.Vm
section
variable {P : Program} {E : Env} {R : Type} {K : Cont R} {r : R} {s : St} {a : Act} {w : World} {o : Oper} {n : Nat} {c0 : Cf}
variable {Al : Nat → Prop} {be : List Bt}

/-- What an operation that makes a new block does, wherever the block comes to lie. -/
def NSem (P : Program) (s : St) (a : Act) (w : World) (Al : Nat → Prop) (be : List Bt) (o : Oper) {R : Type} (K : Cont R) (r : R) : Prop :=
  ∃ (cells : Array Value) (T : TypeId) (mk : Nat → Value) (cap : Nat) (x : Blk) (y : V), K1 K (s.mem ++ [x]) y = some r ∧ boolOf (.v (.one y)) = none ∧
    (∀ w' : World, (execOp a.eval o).run P w' = .ok (.value (mk w'.heap.size)) (w'.alloc (.cells cells T))) ∧
    ∀ (c2 : Cf) (g : Nat), c2.mem = s.mem ++ [x] → c2.be[s.mem.length]? = some (.blk g cap) → c2.w.heap[g]? = some (.cells cells T (0, 0)) →
      (∀ y v, (⟨w, Al, be, s.mem⟩ : Cf).r1 y v → c2.r1 y v) → (∀ u v, Rd w Al u v → Rd c2.w c2.Al u v) → c2.blkOK s.mem.length x ∧ c2.r1 y (mk g)

theorem nsem_alloc (h : At P E n c0 s a w Al be) {t : TypeId} (ho : o.op = .alloc t) (hv : vop E o.op s K = some r) : NSem P s a w Al be o K r := by
  rw [ho] at hv
  simp only [vop] at hv
  split at hv
  · rename_i i hi
    split at hv
    · rename_i hl
      simp only [Bool.and_eq_true, beq_iff_eq, bne_iff_ne, ne_eq] at hl
      by_cases hne : i.cells = []
      · rw [hne] at hl; simp at hl; exact absurd hl.1.symm hl.2
      · obtain ⟨z, hz, h1, h2⟩ := zero_rel (c := ⟨w, Al, be, s.mem⟩) h.hE hi hne
        refine ⟨z.cells, t, fun g => .pointer (some ⟨g, 0, none⟩), 0, _, _, hv, rfl, fun w' => by simp [execOp, ho, Instr.alloc, newVar, newRow, hz], fun c2 g hm hb hh hk _ => ?_⟩
        exact ⟨⟨g, 0, _, t, hb, hh, h1, fun i z hz => let ⟨u, hu, hr⟩ := h2 i z hz; ⟨u, hu, hk _ _ hr⟩⟩, g, 0, hb, rfl⟩
    · cases hv
  · cases hv

theorem nsem_buildSlice (h : At P E n c0 s a w Al be) {t : TypeId} {len : Nat} {parts : Array (Nat × Operand)} (ho : o.op = .buildSlice t len parts)
    (hv : vop E o.op s K = some r) : NSem P s a w Al be o K r := by
  rw [ho] at hv
  simp only [vop] at hv
  split at hv
  · rename_i sz by_ ag k e hi
    split at hv
    · rename_i ei hei
      split at hv
      · rename_i cells hparts
        split at hv
        · rename_i hcond
          simp only [Bool.and_eq_true, beq_iff_eq, Nat.ble_eq, bne_iff_ne, ne_eq] at hcond
          obtain ⟨⟨hlen, hbig⟩, hsz0⟩ := hcond
          split at hv
          · rename_i xs hxs
            obtain ⟨hu, hk, hw0⟩ := slc_ok h.hE hi
            have hwd := hw0 ei hei
            obtain ⟨info, d, z, g1, g2, g3, g4, g5, g6, g7, g8, g9⟩ := h.hE.ti e _ hei
            obtain ⟨hl1, hl2⟩ := ofRows_ok (c := ⟨w, Al, be, s.mem⟩) hk ei.size len cells xs hxs
            let zero : Array Value := if len * ei.size = 0 then #[] else z.cells
            let arr0 : Array Value := (Array.range (len * ei.size)).map (fun i => zero[i % zero.size]!)
            have h0 : CellsRel ⟨w, Al, be, s.mem⟩ ([] ++ List.replicate (parts.toList.length * ei.size) V.junk) arr0 := by
              refine ⟨by simp [arr0, ← hlen], fun i x hx => ?_⟩
              have hx' := hx
              simp only [List.nil_append, List.getElem?_replicate] at hx'
              split at hx'
              · rename_i hil
                cases hx'
                have : i < arr0.size := by simp [arr0, ← hlen]; simpa using hil
                exact ⟨arr0[i], by simp [this], trivial⟩
              · cases hx'
            obtain ⟨arr, ha1, ha2⟩ := vparts_ok (c := ⟨w, Al, be, s.mem⟩) h.evs parts.toList 0 [] cells arr0 (by simp) h0 hparts
            have hsizes : arr.size = len * (rowOf k).length := by
              rw [ha2.1, ← hl2.1, cellsU_len, hl1]
            refine ⟨arr, e, fun g => .slice (some ⟨g, 0, none⟩) len len, len, _, _, hv, rfl, fun w' => ?_, fun c2 g hm hb hh _ hkr => ?_⟩
            · simp only [execOp, ho, Instr.buildSlice, Sem.run_bind, under_run hu, Result.andThen_ok, info_size h.hE hei]
              rw [if_neg (by omega)]
              have harr : (parts.map fun x => (x.1, a.eval x.2)).toList = parts.toList.map fun x => (x.1, a.eval x.2) := by simp
              have hfill : Instr.fill (fun i => some (i * ei.size, ei.size)) ((Array.range (len * ei.size)).map (fun i => zero[i % zero.size]!)) (parts.map fun x => (x.1, a.eval x.2)).toList = some arr := by
                rw [harr]; exact ha1
              by_cases hz0 : len * ei.size = 0
              · have e0 : zero = #[] := if_pos hz0
                rw [e0] at hfill
                rw [if_pos hz0]
                simp only [Sem.run_bind, Sem.run_pure, Result.andThen_ok, hfill]
                simp [newRow]
              · have e0 : zero = z.cells := if_neg hz0
                rw [e0] at hfill
                rw [if_neg hz0]
                have hzr : (zeroValue e).run P w' = .ok z w' := by simp [zeroValue, typeInfo, g1, g7]
                simp only [Sem.run_bind, Sem.run_pure, Result.andThen_ok, hzr, hfill]
                simp [newRow]
            · refine ⟨⟨hk, .inl ⟨g, len, arr, e, hb, hh, hsizes, by omega, fun i u hu => ?_⟩⟩, ?_⟩
              · have hil : i < cells.length := by rw [← hl2.1]; exact (List.getElem?_eq_some_iff.1 hu).1
                obtain ⟨v, hv, hr⟩ := ha2.2 i _ (List.getElem?_eq_getElem hil)
                exact ⟨v, hv, hkr u v (hl2.2 i _ u (List.getElem?_eq_getElem hil) hu v hr)⟩
              · have hm' : c2.mem[s.mem.length]? = some (.arr k xs) := by rw [hm]; simp
                simp only [Cf.r1, hm']
                exact .inl ⟨g, len, hb, by rw [hl1]⟩
          · cases hv
        · cases hv
      · cases hv
    · cases hv
  · cases hv

theorem nsem (h : At P E n c0 s a w Al be) (hn : newOp o.op = true) (hv : vop E o.op s K = some r) : NSem P s a w Al be o K r := by
  cases ho : o.op with
  | alloc t => exact nsem_alloc h ho hv
  | buildSlice t len parts => exact nsem_buildSlice h ho hv
  | _ => rw [ho] at hn; cases hn

end
end Go.Vm

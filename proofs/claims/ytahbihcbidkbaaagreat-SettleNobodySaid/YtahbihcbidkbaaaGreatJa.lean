/-
  The evaluator: abstract values, the abstract heap, and what each operation does there. No tape: what the model draws (orders, capacities) is not asked; where the answer would hang on it the evaluator answers none.
-/
import GoSem.Dispatch
import GoSem.Machine.Return
namespace Go.Proofs.YtahbihcbidkbaaaGreat.Ev
open Go

/-- A slice's capacity: known; or the block's less so many elements. -/
inductive Cap where
  | ex (c : Nat)
  | rel (d : Nat)
  deriving DecidableEq, Inhabited

inductive AV where
  | int (k : IntKind) (n : Int)
  | bool (b : Bool)
  | str (s : ByteArray)
  | ptr (p : Option (Nat × Nat))
  | slice (b off poff len : Nat) (cap : Cap)
  | nilSlice
  | map (r : Option Nat)
  | fn (f : FuncId) (first captured : List AV)
  | yield (l : Nat)
  | nilFn
  | iface (t : TypeId) (v : AV)
  | nilIface
  | agg (cs : List AV)
  | tup (vs : List AV)
  deriving Inhabited

/-- What a temporary holds. -/
inductive Tm where
  | undef
  | val (a : AV)
  | lptr (l off : Nat)
  | lsl (l len : Nat)
  deriving Inhabited

structure LoopB where
  fn : FuncId
  tm : List Tm
  params : List Tmp
  assign : Code
  body : Code
  pending : Option Code
  busy : Bool

inductive Blk where
  | cells (cs : List AV) (esz : Nat)
  | dead
  | map (es : List (AV × AV))
  | loop (l : LoopB)
  | mark

/-- A trie over numbers. -/
inductive Tree where
  | leaf
  | node (v : Option Blk) (l r : Tree)

def Tree.get : (fuel : Nat) → Tree → Nat → Option Blk
  | 0, _, _ => none
  | _ + 1, .leaf, _ => none
  | f + 1, .node v l r, n => if n = 0 then v else if n % 2 = 1 then l.get f (n / 2) else r.get f (n / 2 - 1)

def Tree.set : (fuel : Nat) → Tree → Nat → Blk → Tree
  | 0, t, _, _ => t
  | f + 1, .leaf, n, b =>
    if n = 0 then .node (some b) .leaf .leaf
    else if n % 2 = 1 then .node none (Tree.set f .leaf (n / 2) b) .leaf else .node none .leaf (Tree.set f .leaf (n / 2 - 1) b)
  | f + 1, .node v l r, n, b =>
    if n = 0 then .node (some b) l r
    else if n % 2 = 1 then .node v (l.set f (n / 2) b) r else .node v l (r.set f (n / 2 - 1) b)

structure Heap where
  next : Nat
  t : Tree

def Heap.get (h : Heap) (b : Nat) : Option Blk := h.t.get (b + 1) b
def Heap.put (h : Heap) (b : Nat) (x : Blk) : Heap := { h with t := h.t.set (b + 1) b x }
def Heap.new (h : Heap) (x : Blk) : Nat × Heap := (h.next, { next := h.next + 1, t := h.t.set (h.next + 1) h.next x })
def Heap.empty : Heap := ⟨0, .leaf⟩

def Heap.cells (h : Heap) (b : Nat) : Option (List AV × Nat) :=
  match h.get b with
  | some (.cells cs e) => some (cs, e)
  | _ => none

def AV.cells : AV → List AV
  | .agg cs => cs
  | v => [v]

/-- What may stand in a cell. -/
def one : AV → Bool
  | .agg _ => false
  | .tup _ => false
  | _ => true

/-- A constant of the program's text. -/
def ofS : Value → Option AV
  | .int k n => some (.int k n)
  | .bool b => some (.bool b)
  | .string s => some (.str s)
  | .pointer none => some (.ptr none)
  | .slice none n c => match n, c with
    | 0, 0 => some .nilSlice
    | _, _ => none
  | .map none => some (.map none)
  | .nilFunc => some .nilFn
  | .nilIface => some .nilIface
  | .func (.func f) x y => match x.toList, y.toList with
    | [], [] => some (.fn f [] [])
    | _, _ => none
  | _ => none

def ofV : Value → Option AV
  | .agg cs => (cs.toList.mapM ofS).map .agg
  | .tuple cs => (cs.toList.mapM ofS).map .tup
  | v => ofS v

section types
variable (P : Program)
def tsize (t : TypeId) : Option Nat := (P.info? t).map (·.size)
def tzero (t : TypeId) : Option AV := ((P.info? t).bind (·.zero)).bind ofV
/-- The cells of a type's zero. -/
def tzeros (t : TypeId) : Option (List AV) :=
  match tzero P t with
  | some z => match z.cells.all one && (match tsize P t with | some n => Nat.beq n z.cells.length | none => false) with
    | true => some z.cells
    | false => none
  | none => none
def tagg (t : TypeId) : Option Bool := (P.underlying t).map fun | .struct _ | .array _ _ => true | _ => false
def tfields (t : TypeId) : Option (Array Field) := match P.underlying t with | some (.struct fs) => some fs | _ => none
def telem (t : TypeId) : Option TypeId := match P.underlying t with | some (.slice e) => some e | _ => none
end types

/-- A row without its first cells; in leaps, of which the kernel keeps the answers. -/
def dropC (n : Nat) (l : List AV) : List AV :=
  match n with
  | 0 => l
  | n + 1 => match l with
    | [] => []
    | _ :: t => dropC n t
def dropM (k : Nat) (l : List AV) (n : Nat) : List AV :=
  match n with
  | 0 => l
  | n + 1 => dropC k (dropM k l n)
def dropF (off : Nat) (l : List AV) : List AV := dropC (off % 16) (dropM 16 (dropM 256 l (off / 256)) (off % 256 / 16))

theorem dropC_eq (n : Nat) (l : List AV) : dropC n l = l.drop n := by
  induction n generalizing l with
  | zero => rfl
  | succ n ih => cases l with
    | nil => rfl
    | cons a t => exact ih t
theorem dropM_eq (k : Nat) (l : List AV) (n : Nat) : dropM k l n = l.drop (k * n) := by
  induction n with
  | zero => simp [dropM]
  | succ n ih => simp [dropM, dropC_eq, ih, List.drop_drop, Nat.mul_succ]
theorem dropF_eq (off : Nat) (l : List AV) : dropF off l = l.drop off := by
  simp only [dropF, dropC_eq, dropM_eq, List.drop_drop]
  congr 1
  omega

def takeC (n : Nat) (l : List AV) : Option (List AV) :=
  match n with
  | 0 => some []
  | n + 1 => match l with
    | [] => none
    | c :: t => match takeC n t with
      | some r => some (c :: r)
      | none => none
theorem takeC_eq (n : Nat) (l : List AV) : takeC n l = if n ≤ l.length then some (l.take n) else none := by
  induction n generalizing l with
  | zero => simp [takeC]
  | succ n ih => cases l with
    | nil => simp [takeC]
    | cons a t =>
      simp only [takeC, ih, List.length_cons, Nat.add_le_add_iff_right, List.take_succ_cons]
      split <;> split <;> simp_all

/-- n cells of a row, from off on. -/
def take? (cs : List AV) (off n : Nat) : Option (List AV) :=
  match n with
  | 0 => if off ≤ cs.length then some [] else none
  | n + 1 => takeC (n + 1) (dropF off cs)
theorem take?_eq (cs : List AV) (off n : Nat) : take? cs off n = if off + n ≤ cs.length then some ((cs.drop off).take n) else none := by
  cases n with
  | zero => simp [take?]
  | succ n =>
    simp only [take?, takeC_eq, dropF_eq, List.length_drop]
    by_cases h : off + (n + 1) ≤ cs.length
    · rw [if_pos h, if_pos (by omega)]
    · rw [if_neg h, if_neg (by omega)]

def overC (new cs : List AV) : List AV :=
  match new with
  | [] => cs
  | x :: xs => match cs with
    | [] => x :: overC xs []
    | _ :: t => x :: overC xs t
def putAt (off : Nat) (new cs : List AV) : List AV :=
  match off with
  | 0 => overC new cs
  | off + 1 => match cs with
    | [] => []
    | c :: t => c :: putAt off new t
theorem overC_eq (new cs : List AV) : overC new cs = new ++ cs.drop new.length := by
  induction new generalizing cs with
  | nil => simp [overC]
  | cons x xs ih => cases cs with
    | nil => simp [overC, ih]
    | cons c t => simp [overC, ih]
theorem putAt_eq (off : Nat) (new cs : List AV) (h : off ≤ cs.length) : putAt off new cs = cs.take off ++ new ++ cs.drop (off + new.length) := by
  induction off generalizing cs with
  | zero => simp [putAt, overC_eq]
  | succ n ih => cases cs with
    | nil => simp at h
    | cons c t =>
      simp only [putAt, ih t (by simpa using h), List.take_succ_cons, List.cons_append]
      rw [show n + 1 + new.length = n + new.length + 1 by omega, List.drop_succ_cons]

/-- A row with some cells laid over, from off on. -/
def lay? (cs : List AV) (off : Nat) (new : List AV) : Option (List AV) :=
  match new with
  | [] => if off ≤ cs.length then some cs else none
  | x :: xs => match dropF (off + xs.length) cs with
    | [] => none
    | _ :: _ => some (putAt off (x :: xs) cs)
theorem lay?_eq (cs : List AV) (off : Nat) (new : List AV) : lay? cs off new = if off + new.length ≤ cs.length then some (cs.take off ++ new ++ cs.drop (off + new.length)) else none := by
  cases new with
  | nil => simp [lay?]
  | cons x xs =>
    simp only [lay?, dropF_eq]
    by_cases h : off + (xs.length + 1) ≤ cs.length
    · rw [if_pos (by simpa using h)]
      cases hd : cs.drop (off + xs.length) with
      | nil => have := List.drop_eq_nil_iff.1 hd; omega
      | cons y ys => simp only [putAt_eq off (x :: xs) cs (by omega)]
    · rw [if_neg (by simpa using h)]
      rw [List.drop_eq_nil_iff.2 (by omega)]

/-- A part of an aggregate. -/
def part? (P : Program) (t : TypeId) (cs : List AV) (off : Nat) : Option AV := do
  let n ← tsize P t
  let xs ← take? cs off n
  if ← tagg P t then some (.agg xs) else match xs with | [x] => some x | _ => none

def ints : AV → Option (IntKind × Int)
  | .int k n => some (k, n)
  | _ => none

def bits (op : BinOp) (k : IntKind) (x y : Int) : Option AV :=
  let a := BitVec.ofInt k.bits x
  let b := BitVec.ofInt k.bits y
  match op with
  | .and => some (.int k (k.wrap (a &&& b).toNat))
  | .or => some (.int k (k.wrap (a ||| b).toNat))
  | .xor => some (.int k (k.wrap (a ^^^ b).toNat))
  | .andNot => some (.int k (k.wrap (a &&& ~~~b).toNat))
  | _ => none

def intOp (op : BinOp) (k : IntKind) (x y : Int) : Option AV :=
  match op with
  | .add => some (.int k (k.wrap (x + y)))
  | .sub => some (.int k (k.wrap (x - y)))
  | .mul => some (.int k (k.wrap (x * y)))
  | .quo => if y = 0 then none else some (.int k (k.wrap (x.tdiv y)))
  | .rem => if y = 0 then none else some (.int k (x.tmod y))
  | .eql => some (.bool (x == y))
  | .neq => some (.bool (x != y))
  | .lss => some (.bool (x < y))
  | .leq => some (.bool (x ≤ y))
  | .gtr => some (.bool (x > y))
  | .geq => some (.bool (x ≥ y))
  | .and | .or | .xor | .andNot => bits op k x y
  | _ => none

def shiftOp (op : BinOp) (k : IntKind) (x y : Int) : Option AV :=
  if y < 0 then none
  else
    let n := min y.toNat k.bits
    match op with
    | .shl => some (.int k (k.wrap (x * 2 ^ n)))
    | .shr => some (.int k (x.fdiv (2 ^ n)))
    | _ => none

def strOp (op : BinOp) (x y : ByteArray) : Option AV :=
  let eq := x.data.toList == y.data.toList
  let lt := Op.bytesLess x.data.toList y.data.toList
  match op with
  | .add => if x.size + y.size ≤ 2 ^ 40 then some (.str (x ++ y)) else none
  | .eql => some (.bool eq)
  | .neq => some (.bool !eq)
  | .lss => some (.bool lt)
  | .leq => some (.bool (lt || eq))
  | .gtr => some (.bool !(lt || eq))
  | .geq => some (.bool !lt)
  | _ => none

/-- Are fields alike, one by one? -/
def eqF (P : Program) (eq : TypeId → AV → AV → Option Bool) (xs ys : List AV) : List Field → Option Bool
  | [] => some true
  | f :: fs =>
    if f.name = "_" then eqF P eq xs ys fs
    else match part? P f.type xs f.offset, part? P f.type ys f.offset with
      | some x, some y => match eq f.type x y with
        | some true => eqF P eq xs ys fs
        | some false => some false
        | none => none
      | _, _ => none

/-- Are elements alike, from the i-th on? -/
def eqE (P : Program) (eq : TypeId → AV → AV → Option Bool) (e : TypeId) (z : Nat) (xs ys : List AV) : Nat → Nat → Option Bool
  | 0, _ => some true
  | n + 1, i =>
    match part? P e xs (i * z), part? P e ys (i * z) with
    | some x, some y => match eq e x y with
      | some true => eqE P eq e z xs ys n (i + 1)
      | some false => some false
      | none => none
    | _, _ => none

/-- Are two values of a type alike? -/
def eqT (P : Program) : Nat → TypeId → AV → AV → Option Bool
  | 0, _, _, _ => none
  | d + 1, t, x, y =>
    match P.underlying t with
    | some .bool => match x, y with
      | .bool a, .bool b => some (a == b)
      | _, _ => none
    | some (.int _) => match x, y with
      | .int k a, .int k' b => if k = k' then some (a == b) else none
      | _, _ => none
    | some .string => match x, y with
      | .str a, .str b => some (a.data.toList == b.data.toList)
      | _, _ => none
    | some (.pointer _) => match x, y with
      | .ptr none, .ptr b => some b.isNone
      | .ptr (some _), .ptr none => some false
      | _, _ => none
    | some (.slice _) => match x, y with
      | .nilSlice, .nilSlice => some true
      | .nilSlice, .slice .. => some false
      | .slice .., .nilSlice => some false
      | _, _ => none
    | some (.map _ _) => match x, y with
      | .map none, .map b => some b.isNone
      | .map (some _), .map none => some false
      | _, _ => none
    | some (.func _ _ _) => match x, y with
      | .nilFn, .nilFn => some true
      | .nilFn, .fn .. => some false
      | .fn .., .nilFn => some false
      | _, _ => none
    | some (.interface _) => match x, y with
      | .nilIface, .nilIface => some true
      | .nilIface, .iface .. => some false
      | .iface .., .nilIface => some false
      | _, _ => none
    | some (.struct fs) => match x, y with
      | .agg xs, .agg ys => if P.stoodInHeld t then none else eqF P (eqT P d) xs ys fs.toList
      | _, _ => none
    | some (.array n e) => match x, y with
      | .agg xs, .agg ys => match tsize P e with
        | some z => eqE P (eqT P d) e z xs ys n 0
        | none => none
      | _, _ => none
    | _ => none

/-- How deep values are looked into. -/
def deep : Nat := 20

/-- x == y, x != y. 'c': one of them is written out. -/
def eqop (P : Program) (c neg : Bool) (t : TypeId) (x y : AV) : Option AV :=
  match x, y with
  | .int k a, .int k' b => if k = k' then some (.bool ((a == b) != neg)) else none
  | .str a, .str b => some (.bool ((a.data.toList == b.data.toList) != neg))
  | .nilIface, .nilIface => match c with
    | true => (eqT P deep t .nilIface .nilIface).map fun b => .bool (b != neg)
    | false => none
  | .agg xs, .agg ys => if P.eqGuardType P.depth t then none else (eqT P deep t (.agg xs) (.agg ys)).map fun b => .bool (b != neg)
  | x, y => (eqT P deep t x y).map fun b => .bool (b != neg)

def binop (op : BinOp) (x y : AV) : Option AV :=
  match op, x, y with
  | .shl, .int k a, .int _ b => shiftOp .shl k a b
  | .shr, .int k a, .int _ b => shiftOp .shr k a b
  | op, .int k a, .int k' b => if k = k' then intOp op k a b else none
  | op, .str a, .str b => strOp op a b
  | _, _, _ => none

def unop (op : UnOp) (x : AV) : Option AV :=
  match op, x with
  | .neg, .int k n => intOp .sub k 0 n
  | .xor, .int k n => bits .xor k (if k.signed then -1 else k.max) n
  | .not, .bool b => some (.bool !b)
  | _, _ => none

def fillA (place : Nat → Option (Nat × Nat)) (cells : List AV) : List (Nat × AV) → Option (List AV)
  | [] => some cells
  | (i, v) :: rest => do
    let (off, size) ← place i
    if v.cells.length ≠ size ∨ v.cells.all one = false then none
    else fillA place (← lay? cells off v.cells) rest

/-- What one operation does that asks neither for the heap nor for a call. -/
def fieldA (P : Program) (t : TypeId) (x : AV) (f : Nat) : Option AV := do
  let fs ← tfields P t
  let f ← fs[f]?
  match x with
  | .agg cs => part? P f.type cs f.offset
  | _ => none

def fieldOff (P : Program) (t : TypeId) (f : Nat) : Option Nat := do
  let fs ← tfields P t
  let f ← fs[f]?
  if (← tsize P f.type) = 0 then none else some f.offset

def indexA (P : Program) (t : TypeId) (x i : AV) : Option AV := do
  let (_, i) ← ints i
  match P.underlying t, x with
  | some (.array len elem), .agg cs =>
    if 0 ≤ i ∧ i < len then do part? P elem cs (i.toNat * (← tsize P elem)) else none
  | some .string, .str s => if 0 ≤ i then (s[i.toNat]?).map fun b => .int .u8 b.toNat else none
  | _, _ => none

def min2 : AV → AV → Option AV
  | .int k x, .int k' y => if k = k' then some (.int k (if y < x then y else x)) else none
  | _, _ => none
def max2 : AV → AV → Option AV
  | .int k x, .int k' y => if k = k' then some (.int k (if y > x then y else x)) else none
  | _, _ => none

def typeAssertA (P : Program) (x : AV) (asserted : TypeId) (ok : Bool) : Option AV := do
  match P.underlying asserted with
  | some (.interface _) => none
  | some _ =>
    match x with
    | .iface t v => if t = asserted then some (if ok then .tup [v, .bool true] else v) else if ok then (tzero P asserted).map fun z => .tup [z, .bool false] else none
    | .nilIface => if ok then (tzero P asserted).map fun z => .tup [z, .bool false] else none
    | _ => none
  | none => none

def convertA (P : Program) (src dst : TypeId) (x : AV) : Option AV :=
  match P.underlying src, P.underlying dst, x with
  | some (.int _), some (.int k), .int _ n => some (.int k (k.wrap n))
  | some .string, some .string, .str s => some (.str s)
  | _, _, _ => none

def capOf : Cap → Option Nat
  | .ex c => some c
  | .rel _ => none

/-- How many elements there are for sure. -/
def roomOf (cells off e : Nat) : Cap → Nat
  | .ex c => c
  | .rel _ => (cells - off) / e

def lessCap (l : Nat) : Cap → Cap
  | .ex c => .ex (c - l)
  | .rel d => .rel (d + l)

def capAfter (room : Nat) (cap : Cap) (l h : Nat) (hi : Bool) : Option Int → Option Cap
  | none => some (lessCap l cap)
  | some m => if hi = false ∨ m < h ∨ m = 0 ∨ (room : Int) < m then none else some (.ex (m.toNat - l))

/-- s[lo:hi:max] of a slice whose block has 'cells' cells: the bounds must be known to hold. -/
def sliceT (e cells b off poff len : Nat) (cap : Cap) (lo hi mx : Option Int) : Option AV :=
  if e = 0 ∨ lo.getD 0 < 0 ∨ hi.getD len < lo.getD 0 ∨ (roomOf cells off e cap : Int) < hi.getD len then none
  else (capAfter (roomOf cells off e cap) cap (lo.getD 0).toNat (hi.getD len).toNat hi.isSome mx).bind fun c =>
    if (lo.getD 0).toNat = 0 then some (.slice b off poff (hi.getD len).toNat c)
    else some (.slice b (off + (lo.getD 0).toNat * e) off ((hi.getD len).toNat - (lo.getD 0).toNat) c)

/-- s[0:0:0]. -/
def sliceZ (e cells b off poff : Nat) (cap : Cap) (lo hi : Option Int) : Option AV :=
  if e = 0 ∨ lo.getD 0 ≠ 0 ∨ hi ≠ some 0 then none
  else match decide (0 < roomOf cells off e cap), cap with
    | true, _ => some (.slice b off off 0 (.ex 0))
    | false, .ex 0 => some (.slice b off poff 0 (.ex 0))
    | _, _ => none

def sliceS (e cells b off poff len : Nat) (cap : Cap) (lo hi mx : Option Int) : Option AV :=
  if mx = some 0 then sliceZ e cells b off poff cap lo hi else sliceT e cells b off poff len cap lo hi mx

def optInt : Option AV → Option (Option Int)
  | none => some none
  | some (.int _ n) => some (some n)
  | _ => none

def sliceA (P : Program) (h : Heap) (t : TypeId) (x : AV) (lo hi mx : Option AV) : Option AV := do
  let lo ← optInt lo
  let hi ← optInt hi
  let mx ← optInt mx
  match P.underlying t, x with
  | some .string, .str s =>
    let l := lo.getD 0
    let r := hi.getD s.size
    if mx.isSome ∨ l < 0 ∨ r < l ∨ (s.size : Int) < r then none else some (.str (s.extract l.toNat r.toNat))
  | some (.slice elem), .nilSlice => if lo.getD 0 = 0 ∧ hi.getD 0 = 0 ∧ (mx = none ∨ mx = some 0 ∧ hi.isSome) ∧ (tsize P elem).isSome then some .nilSlice else none
  | some (.slice elem), .slice b off poff len cap => do
    let e ← tsize P elem
    let (cs, e') ← h.cells b
    match cap with
    | .ex c => sliceS e cs.length b off poff len (.ex c) lo hi mx
    | .rel d => if e' = e then sliceS e cs.length b off poff len (.rel d) lo hi mx else none
  | some (.array n elem), .ptr (some (b, off)) => do
    let e ← tsize P elem
    let (cs, _) ← h.cells b
    if off + n * e ≤ cs.length then sliceS e cs.length b off off n (.ex n) lo hi mx else none
  | _, _ => none

/-- The cells of a slice. -/
def cellsOf (P : Program) (h : Heap) (elem : TypeId) : AV → Option (List AV)
  | .nilSlice => some []
  | .slice b off _ len _ => do
    let e ← tsize P elem
    let (cs, _) ← h.cells b
    take? cs off (len * e)
  | _ => none

def sliceLen : AV → Option Nat
  | .nilSlice => some 0
  | .slice _ _ _ len _ => some len
  | _ => none

def most : Nat := 2 ^ 32

/-- append, cells an element being known. -/
def appendE (h : Heap) (e : Nat) (s : AV) (n : Nat) (new : List AV) : Option (AV × Heap) :=
  match s with
  | .nilSlice =>
    if n = 0 then some (.nilSlice, h) else if n > most then none else
    some (.slice h.next 0 0 n (.rel 0), (h.new (.cells new e)).2)
  | .slice b off poff len cap =>
    if n = 0 then some (.slice b off poff len cap, h) else if len + n > most then none else
    (h.cells b).bind fun r => if r.2 ≠ e then none else
    match cap with
    | .ex c => match decide (len + n ≤ c) with
      | true => (lay? r.1 (off + len * e) new).bind fun cs => some (.slice b off poff (len + n) (.ex c), h.put b (.cells cs e))
      | false => (take? r.1 off (len * e)).bind fun old => some (.slice h.next 0 0 (len + n) (.rel 0), (h.new (.cells (old ++ new) e)).2)
    | .rel d => match decide (off + (len + n) * e ≤ r.1.length) with
      | true => (lay? r.1 (off + len * e) new).bind fun cs => some (.slice b off poff (len + n) (.rel d), h.put b (.cells cs e))
      | false => if off + len * e = r.1.length then
          (take? r.1 off (len * e)).bind fun old => some (.slice h.next 0 0 (len + n) (.rel 0), ((h.put b .dead).new (.cells (old ++ new) e)).2)
        else none
  | _ => none

/-- append: new elements behind a slice. -/
def appendA (P : Program) (h : Heap) (elem : TypeId) (s : AV) (n : Nat) (new : List AV) : Option (AV × Heap) :=
  match tsize P elem, tzeros P elem with
  | some e, some _ => if e = 0 ∨ new.length ≠ n * e ∨ ((P.info? elem).map (·.bytes)).getD most > 2 ^ 12 then none else appendE h e s n new
  | _, _ => none

def zeros (z : List AV) : Nat → List AV
  | 0 => []
  | n + 1 => z ++ zeros z n

/-- The entry of a key. -/
def findA (P : Program) (t : TypeId) (k : AV) : List (AV × AV) → Option (Option AV)
  | [] => some none
  | (k', v) :: es => match eqT P deep t k k' with
    | some true => some (some v)
    | some false => findA P t k es
    | none => none

mutual
def AV.same : AV → AV → Bool
  | .int k a, .int k' b => decide (k = k') && decide (a = b)
  | .bool a, .bool b => a == b
  | .str a, .str b => a.data.toList == b.data.toList
  | .ptr a, .ptr b => decide (a = b)
  | .slice a b c d e, .slice a' b' c' d' e' => decide (a = a') && decide (b = b') && decide (c = c') && decide (d = d') && decide (e = e')
  | .nilSlice, .nilSlice => true
  | .map a, .map b => decide (a = b)
  | .fn f a c, .fn f' a' c' => decide (f = f') && AV.sameL a a' && AV.sameL c c'
  | .yield a, .yield b => decide (a = b)
  | .nilFn, .nilFn => true
  | .iface t a, .iface t' b => decide (t = t') && AV.same a b
  | .nilIface, .nilIface => true
  | .agg a, .agg b => AV.sameL a b
  | .tup a, .tup b => AV.sameL a b
  | _, _ => false
def AV.sameL : List AV → List AV → Bool
  | [], [] => true
  | a :: as, b :: bs => AV.same a b && AV.sameL as bs
  | _, _ => false
end

def updateA (P : Program) (t : TypeId) (k v : AV) : List (AV × AV) → Option (List (AV × AV))
  | [] => some [(k, v)]
  | (k', v') :: es => match eqT P deep t k k' with
    | some true => match AV.same k k' with
      | true => some ((k, v) :: es)
      | false => none
    | some false => (updateA P t k v es).map ((k', v') :: ·)
    | none => none

/-- Keys whose parts are numbers, bools and strings. -/
def flat1 : AV → Bool
  | .int .. | .bool _ | .str _ => true
  | _ => false

def flatKey (k : AV) : Bool := k.cells.all flat1

def keyF (P : Program) (f : TypeId → AV → Bool) (cs : List AV) : List Field → Bool
  | [] => true
  | g :: fs => match decide (g.name = "_") with
    | true => keyF P f cs fs
    | false => match part? P g.type cs g.offset with
      | some x => f g.type x && keyF P f cs fs
      | none => false

/-- May a key be asked for? -/
def keyOk (P : Program) : Nat → TypeId → AV → Bool
  | 0, _, _ => false
  | d + 1, t, v => match P.underlying t with
    | some (.struct fs) => match v with
      | .agg cs => keyF P (keyOk P d) cs fs.toList
      | _ => false
    | some (.array _ _) => false
    | some (.interface _) => false
    | some _ => true
    | none => false
end Go.Proofs.YtahbihcbidkbaaaGreat.Ev

/-
  The evaluator, in continuations: one operation, a region, code, a call.
-/
namespace Go.Proofs.YtahbihcbidkbaaaGreat.Ev
open Go

structure St where
  tm : List Tm
  lc : List (Option (List AV))
  h : Heap
  df : List AV
  rc : Option (Option AV)

inductive Ex where
  | normal
  | exit (id : Nat)
  | goto (l : Nat)
  | ret
  | panic (v : AV)

/-- What a call comes to. -/
inductive Fin where
  | ret (v : AV)
  | panic (v : AV)

/-- What a call leaves: how it ends, the heap, and whether what could be recovered still can. -/
abbrev R := Option (Fin × Heap × Option (Option AV))

/-- The machine's tables, for one program: where the local variables are; what a loop carries along. -/
structure Ctx where
  P : Program
  locs : FuncId → List Tmp
  keep : FuncId → Nat → List Tmp
  flo : FuncId → Nat → List Tmp

section small
variable {ρ : Type}
def spL : Nat → List AV → (List AV → Option ρ) → Option ρ
  | 0, xs, k => match xs with
    | [] => k []
    | _ :: _ => none
  | n + 1, xs, k => match xs with
    | [] => none
    | x :: xs => spL n xs fun ys => k (x :: ys)

def spA (n : Nat) (a : AV) (k : List AV → Option ρ) : Option ρ :=
  match a with
  | .agg cs => spL n cs k
  | _ => none

def spT (n : Nat) (a : AV) (k : List AV → Option ρ) : Option ρ :=
  match a with
  | .tup cs => spL n cs k
  | _ => none

/-- One cell's value. -/
def scal (a : AV) (k : AV → Option ρ) : Option ρ :=
  match a with
  | .agg _ => none
  | .tup _ => none
  | a => k a

def asPtr (a : AV) (k : Nat → Nat → Option ρ) : Option ρ :=
  match a with
  | .ptr (some (b, off)) => k b off
  | _ => none

def asB (a : AV) (k : Bool → Option ρ) : Option ρ :=
  match a with
  | .bool b => k b
  | _ => none

def asI (a : AV) (k : Int → Option ρ) : Option ρ :=
  match a with
  | .int _ n => k n
  | _ => none

def asMap (a : AV) (k : Option Nat → Option ρ) : Option ρ :=
  match a with
  | .map r => k r
  | _ => none

def asFn (a : AV) (k : FuncId → List AV → List AV → Option ρ) (y : Nat → Option ρ) : Option ρ :=
  match a with
  | .fn f a c => k f a c
  | .yield l => y l
  | _ => none

/-- A value as the cells of a type. -/
def cellsK (agg : Bool) (n : Nat) (a : AV) (k : List AV → Option ρ) : Option ρ :=
  match agg with
  | true => spA n a k
  | false => scal a fun a => k [a]

/-- Cells as a value of a type. -/
def valK (agg : Bool) (n : Nat) (cs : List AV) (k : AV → Option ρ) : Option ρ :=
  match agg with
  | true => spL n cs fun cs => k (.agg cs)
  | false => spL 1 cs fun cs => match cs with
    | [] => none
    | x :: _ => k x
end small

def Heap.rd (h : Heap) (b off n : Nat) : Option (List AV) :=
  match h.get b with
  | some (.cells cs _) => take? cs off n
  | _ => none

def Heap.wr (h : Heap) (b off : Nat) (vs : List AV) : Option Heap :=
  match h.get b with
  | some (.cells cs e) => match lay? cs off vs with
    | some cs => some (h.put b (.cells cs e))
    | none => none
  | _ => none

def Heap.push (h : Heap) (x : Blk) : Heap := (h.new x).2

/-- What an operand holds. -/
def operand (s : St) : Operand → Option Tm
  | .tmp t => s.tm[t]?
  | .const v => match ofV v with
    | some a => some (.val a)
    | none => none
  | .global _ => none
  | .func f => some (.val (.fn f [] []))

def value (s : St) (x : Operand) : Option AV :=
  match operand s x with
  | some (.val a) => some a
  | _ => none

def values (s : St) : List Operand → Option (List AV)
  | [] => some []
  | x :: xs => match value s x with
    | some a => match values s xs with
      | some as => some (a :: as)
      | none => none
    | none => none

def part2 (s : St) : List (Nat × Operand) → Option (List (Nat × AV))
  | [] => some []
  | (i, x) :: xs => match value s x with
    | some a => match part2 s xs with
      | some as => some ((i, a) :: as)
      | none => none
    | none => none

/-- A type's size, and whether it is a struct or an array. -/
def tshape (P : Program) (t : TypeId) : Option (Nat × Bool) :=
  match tsize P t, tagg P t with
  | some n, some true => some (n, true)
  | some 1, some false => some (1, false)
  | _, _ => none

def local? (s : St) (l : Nat) : Option (List AV) :=
  match s.lc[l]? with
  | some (some cs) => some cs
  | _ => none

/-- What led to a local variable's elder self leads nowhere. -/
def forget (l : Nat) : List Tm → List Tm
  | [] => []
  | t :: ts => (match t with
    | .undef => .undef
    | .val a => .val a
    | .lptr l' o => match Nat.beq l' l with
      | true => .undef
      | false => .lptr l' o
    | .lsl l' n => match Nat.beq l' l with
      | true => .undef
      | false => .lsl l' n) :: forget l ts

section ops
variable {ρ : Type}
/-- Is a temporary the site of a local variable? -/
def localOf (locs : List Tmp) (dst : Option Tmp) : Option Nat :=
  match dst with
  | none => none
  | some d => locs.idxOf? d

/-- A slice type's element: its cells, whether it has parts, its zero. -/
def rowOf (P : Program) (t : TypeId) : Option (Nat × Bool × List AV) :=
  match telem P t with
  | none => none
  | some e => match tshape P e, tzeros P e with
    | some (n, agg), some z => match n with
      | 0 => none
      | _ + 1 => some (n, agg, z)
    | _, _ => none

/-- A new variable: a local one, where the table says so. -/
def newVar (locs : List Tmp) (dst : Option Tmp) (s : St) (cs : List AV) (k : Tm → St → Option ρ) : Option ρ :=
  match localOf locs dst with
  | some l => match Nat.blt l s.lc.length with
    | true => k (.lptr l 0) { s with tm := forget l s.tm, lc := s.lc.set l (some cs) }
    | false => none
  | none => k (.val (.ptr (some (s.h.next, 0)))) { s with h := s.h.push (.cells cs 1) }

def opLoad (agg : Bool) (n : Nat) (s : St) (a : Tm) (k : Tm → St → Option ρ) : Option ρ :=
  match a with
  | .lptr l off => match local? s l with
    | some cs => (take? cs off n).bind fun xs => valK agg n xs fun v => k (.val v) s
    | none => none
  | .val a => asPtr a fun b off => (s.h.rd b off n).bind fun xs => valK agg n xs fun v => k (.val v) s
  | _ => none

def opStore (agg : Bool) (n : Nat) (s : St) (a : Tm) (v : AV) (k : Tm → St → Option ρ) : Option ρ :=
  match a with
  | .lptr l off => match local? s l with
    | some cs => cellsK agg n v fun vs => (lay? cs off vs).bind fun cs' => spL cs.length cs' fun cs' => k (.val (.tup [])) { s with lc := s.lc.set l (some cs') }
    | none => none
  | .val a => asPtr a fun b off => cellsK agg n v fun vs => (s.h.wr b off vs).bind fun h => k (.val (.tup [])) { s with h }
  | _ => none

def addT (n : Nat) (a : Tm) (k : Tm → Option ρ) : Option ρ :=
  match a with
  | .lptr l off => k (.lptr l (off + n))
  | .val a => asPtr a fun b off => k (.val (.ptr (some (b, off + n))))
  | _ => none

/-- The place of an element of a slice. -/
def elemP (s : AV) (i : Int) (e : Nat) (k : Nat → Nat → Option ρ) : Option ρ :=
  match s with
  | .slice b off _ len _ => if 0 ≤ i ∧ i < len then k b (off + i.toNat * e) else none
  | _ => none

/-- The place of an element of an array. -/
def inArr (i : Int) (len : Nat) (k : Nat → Option ρ) : Option ρ := if 0 ≤ i ∧ i < len then k i.toNat else none

def opIndexAddr (P : Program) (t : TypeId) (x : Tm) (i : Int) (k : Tm → Option ρ) : Option ρ :=
  match P.underlying t with
  | some (.array len elem) => match tsize P elem with
    | some e => inArr i len fun j => addT (j * e) x k
    | none => none
  | some (.slice elem) => match tsize P elem, x with
    | some e, .val x => elemP x i e fun b off => k (.val (.ptr (some (b, off))))
    | _, _ => none
  | _ => none

def lenA (P : Program) (t : TypeId) (x : AV) : Option AV :=
  match P.underlying t with
  | some .string => match x with
    | .str s => some (.int .i64 s.size)
    | _ => none
  | some (.slice _) => match sliceLen x with
    | some n => some (.int .i64 n)
    | none => none
  | some (.array n _) => some (.int .i64 n)
  | _ => none

def capA (P : Program) (t : TypeId) (x : AV) : Option AV :=
  match P.underlying t with
  | some (.slice _) => match x with
    | .nilSlice => some (.int .i64 0)
    | .slice _ _ _ _ (.ex c) => some (.int .i64 c)
    | _ => none
  | some (.array n _) => some (.int .i64 n)
  | _ => none

def fold2 (f : AV → AV → Option AV) (x : AV) : List AV → Option AV
  | [] => some x
  | y :: ys => (f x y).bind fun z => fold2 f z ys

/-- What is appended: how many, and their cells. -/
def tailA (P : Program) (h : Heap) (elem t : TypeId) (x : AV) : Option (Nat × List AV) :=
  match P.underlying t with
  | some (.int _) => match x, tzeros P elem with
    | .int _ n, some z => if n < 0 ∨ most < n then none else some (n.toNat, zeros z n.toNat)
    | _, _ => none
  | some (.slice _) => match sliceLen x, cellsOf P h elem x with
    | some n, some cs => some (n, cs)
    | _, _ => none
  | some .string => match x with
    | .str b => some (b.size, b.data.toList.map fun u => AV.int .u8 u.toNat)
    | _ => none
  | _ => none

def opAppend (P : Program) (h : Heap) (t0 t1 : TypeId) (s x : AV) : Option (AV × Heap) :=
  (telem P t0).bind fun elem => (tailA P h elem t1 x).bind fun (n, new) => appendA P h elem s n new

def opCopy (P : Program) (h : Heap) (t0 : TypeId) (d x : AV) : Option (AV × Heap) :=
  (telem P t0).bind fun elem => (tsize P elem).bind fun e => match e with
  | 0 => none
  | e + 1 => (sliceLen x).bind fun m => (sliceLen d).bind fun k => (cellsOf P h elem x).bind fun cs => (take? cs 0 (min m k * (e + 1))).bind fun new =>
    match min m k with
    | 0 => some (.int .i64 0, h)
    | n + 1 => match d with
      | .slice b off _ _ _ => (h.wr b off new).bind fun h => some (.int .i64 (n + 1 : Nat), h)
      | _ => none

def opClear (P : Program) (h : Heap) (t0 : TypeId) (x : AV) : Option Heap :=
  (telem P t0).bind fun elem => match x with
  | .nilSlice => some h
  | .slice b off _ len _ => match len with
    | 0 => some h
    | n + 1 => (tzeros P elem).bind fun z => h.wr b off (zeros z (n + 1))
  | _ => none

def getV (a : Option AV) (s : St) (k : Tm → St → Option ρ) : Option ρ := a.bind fun a => k (.val a) s

/-- What recover gives. -/
def recK (rc : Option (Option AV)) (k : AV → Option ρ) (no : Option ρ) : Option ρ :=
  match rc with
  | some (some v) => k v
  | some none => no
  | none => none

def opBuiltin (P : Program) (s : St) (b : Builtin) (ts : Array TypeId) (args : List AV) (k : Tm → St → Option ρ) (pk : AV → St → Option ρ) : Option ρ :=
  match b with
  | .len => match ts[0]?, args with
    | some t, [x] => getV (lenA P t x) s k
    | _, _ => none
  | .cap => match ts[0]?, args with
    | some t, [x] => getV (capA P t x) s k
    | _, _ => none
  | .min => match args with
    | x :: xs => getV (fold2 min2 x xs) s k
    | _ => none
  | .max => match args with
    | x :: xs => getV (fold2 max2 x xs) s k
    | _ => none
  | .append => match ts[0]?, ts[1]?, args with
    | some t0, some t1, [x, y] => (opAppend P s.h t0 t1 x y).bind fun r => k (.val r.1) { s with h := r.2 }
    | _, _, _ => none
  | .copy => match ts[0]?, args with
    | some t0, [x, y] => (opCopy P s.h t0 x y).bind fun r => k (.val r.1) { s with h := r.2 }
    | _, _ => none
  | .clear => match ts[0]?, args with
    | some t0, [x] => (opClear P s.h t0 x).bind fun h => k (.val (.tup [])) { s with h }
    | _, _ => none
  | .recover => recK s.rc (fun v => k (.val v) { s with rc := some none }) (k (.val .nilIface) { s with rc := some none })
  | .panic => match args with
    | [x] => match x with
      | .iface t v => pk (.iface t v) s
      | _ => none
    | _ => none
  | _ => none

/-- A value that is thrown. -/
def thrown (a : AV) (k : AV → Option ρ) : Option ρ :=
  match a with
  | .iface t v => k (.iface t v)
  | _ => none

def bytesA : List AV → Option (List UInt8)
  | [] => some []
  | x :: xs => match x with
    | .int .u8 n => (bytesA xs).bind fun bs => some (UInt8.ofNat n.toNat :: bs)
    | _ => none

def opBytes (P : Program) (h : Heap) (e : TypeId) (x : AV) : Option AV :=
  (cellsOf P h e x).bind fun cs => (bytesA cs).bind fun bs => some (.str ⟨bs.toArray⟩)

def opUnbytes (h : Heap) (x : AV) : Option (AV × Heap) :=
  match x with
  | .str b => some (.slice h.next 0 0 b.size (.rel 0), h.push (.cells (b.data.toList.map fun u => AV.int .u8 u.toNat) 1))
  | _ => none

def isU8 (P : Program) (e : TypeId) : Bool :=
  match P.underlying e, tsize P e with
  | some (.int .u8), some 1 => true
  | _, _ => false

def opConvert (P : Program) (src dst : TypeId) (s : St) (x : AV) (k : Tm → St → Option ρ) : Option ρ :=
  match P.underlying src, P.underlying dst with
  | some (.slice e), some .string => match isU8 P e with
    | true => getV (opBytes P s.h e x) s k
    | false => none
  | some .string, some (.slice e) => match isU8 P e with
    | true => (opUnbytes s.h x).bind fun r => k (.val r.1) { s with h := r.2 }
    | false => none
  | _, _ => getV (convertA P src dst x) s k

def opMakeSlice (P : Program) (h : Heap) (t : TypeId) (l c : Int) : Option (AV × Heap) := do
  let elem ← telem P t
  let e ← tsize P elem
  let z ← tzeros P elem
  if e = 0 ∨ l < 0 ∨ c < l ∨ (most : Int) < c ∨ 2 ^ 12 < ((P.info? elem).map (·.bytes)).getD most then none else
  some (.slice h.next 0 0 l.toNat (.ex c.toNat), h.push (.cells (zeros z c.toNat) e))

def opBuildSlice (P : Program) (h : Heap) (t : TypeId) (len : Nat) (ps : List (Nat × AV)) : Option (AV × Heap) := do
  let elem ← telem P t
  let e ← tsize P elem
  let z ← tzeros P elem
  if e = 0 ∨ 2 ^ 24 < len * e then none else
  let cells ← fillA (fun i => some (i * e, e)) (zeros z len) ps
  some (.slice h.next 0 0 len (.ex len), h.push (.cells cells e))

/-- A map's entries. -/
def entriesH (h : Heap) (m : Option Nat) : Option (List (AV × AV)) :=
  match m with
  | none => some []
  | some b => match h.get b with
    | some (.map es) => some es
    | _ => none

def opLookup (P : Program) (h : Heap) (key elem : TypeId) (ok : Bool) (m : Option Nat) (k : AV) : Option AV :=
  match keyOk P deep key k with
  | false => none
  | true => (entriesH h m).bind fun es => (findA P key k es).bind fun r => match r with
    | some a => some (if ok then .tup [a, .bool true] else a)
    | none => (tzero P elem).bind fun z => some (if ok then .tup [z, .bool false] else z)

def opMapUpdate (P : Program) (h : Heap) (t : TypeId) (m : Option Nat) (k v : AV) : Option Heap :=
  match keyOk P deep t k && flatKey k, m with
  | true, some b => match h.get b with
    | some (.map es) => (updateA P t k v es).bind fun es => some (h.put b (.map es))
    | _ => none
  | _, _ => none

/-- What a call comes to: the value, or what is thrown. -/
def bindC (r : Option (Fin × Heap)) (k : AV → Heap → Option ρ) (pk : AV → Heap → Option ρ) : Option ρ :=
  match r with
  | some (.ret v, h) => k v h
  | some (.panic v, h) => pk v h
  | none => none

/-- The parts of a call's answer, where there are several. -/
def answer (P : Program) (t : TypeId) (v : AV) (k : Tm → Option ρ) : Option ρ :=
  match P.underlying t with
  | some (.tuple es) => spT es.size v fun vs => k (.val (.tup vs))
  | _ => k (.val v)

/-- What calls, deferred calls and rounds come to, to a depth. -/
structure Fns where
  call : FuncId → List AV → Heap → Option (Option AV) → R
  defers : List AV → Option AV → Heap → Option (Option AV × Heap)
  yield : Nat → List AV → Heap → Option (Fin × Heap)

def Fns.plain (F : Fns) (f : FuncId) (a : List AV) (h : Heap) : Option (Fin × Heap) :=
  match F.call f a h none with
  | some (r, h, _) => some (r, h)
  | none => none

/-- A call of a function's value. -/
def Fns.callV (F : Fns) (f : AV) (args : List AV) (h : Heap) : Option (Fin × Heap) :=
  match f with
  | .fn f a c => F.plain f (a ++ args ++ c) h
  | .yield l => F.yield l args h
  | _ => none

/-- append, where what is appended, or to what, may be a local row. -/
def opAppendT (P : Program) (t0 t1 : TypeId) (s : St) (x y : Tm) (k : Tm → St → Option ρ) : Option ρ :=
  match x with
  | .val x => match y with
    | .val y => (opAppend P s.h t0 t1 x y).bind fun r => k (.val r.1) { s with h := r.2 }
    | .lsl l n => match local? s l, telem P t0, telem P t1 with
      | some cs, some e, some _ => (appendA P s.h e x n cs).bind fun r => k (.val r.1) { s with h := r.2 }
      | _, _, _ => none
    | _ => none
  | .lsl l n => match local? s l, rowOf P t0 with
    | some cs, some (e, _, _) => match Nat.beq cs.length (n * e), y with
      | true, .val y => (opAppend P (s.h.push (.cells cs e)) t0 t1 (.slice s.h.next 0 0 n (.ex n)) y).bind fun r => k (.val r.1) { s with h := r.2, lc := s.lc.set l none }
      | _, _ => none
    | _, _ => none
  | _ => none

def opCall (cx : Ctx) (F : Fns) (c : Call) (t : TypeId) (s : St) (k : Tm → St → Option ρ) (pk : AV → St → Option ρ) : Option ρ :=
  match values s c.args.toList with
  | none => none
  | some args => match c.callee with
    | .builtin b => opBuiltin cx.P s b c.argTypes args k pk
    | .value f => match value s f with
      | none => none
      | some f => bindC (F.callV f args s.h) (fun v h => answer cx.P t v fun v => k v { s with h }) (fun v h => pk v { s with h })
    | .invoke .. => none

/-- Both operands of an append. -/
def appendOf (c : Call) : Option (TypeId × TypeId × Operand × Operand) :=
  match c.callee with
  | .builtin .append => match c.argTypes[0]?, c.argTypes[1]?, c.args.toList with
    | some t0, some t1, [x, y] => some (t0, t1, x, y)
    | _, _, _ => none
  | _ => none

def optK (s : St) (x : Option Operand) (k : Option AV → Option ρ) : Option ρ :=
  match x with
  | none => k none
  | some x => match value s x with
    | some a => k (some a)
    | none => none

def valueK (s : St) (x : Operand) (k : AV → Option ρ) : Option ρ :=
  match value s x with
  | some a => k a
  | none => none

def operandK (s : St) (x : Operand) (k : Tm → Option ρ) : Option ρ :=
  match operand s x with
  | some a => k a
  | none => none

/-- Where the parts of a type lie: place, size, and whether a part has parts. -/
def placesF (P : Program) : List Field → Option (List (Nat × Nat × Bool))
  | [] => some []
  | f :: fs => match tshape P f.type, placesF P fs with
    | some (n, b), some r => some ((f.offset, n, b) :: r)
    | _, _ => none

def places (P : Program) (t : TypeId) : Option (Nat → Option (Nat × Nat × Bool)) :=
  match P.underlying t with
  | some (.struct fs) => match placesF P fs.toList with
    | some l => some (l[·]?)
    | none => none
  | some (.array _ e) => match tshape P e with
    | some (n, b) => some fun i => some (i * n, n, b)
    | none => none
  | _ => none

def buildK (pl : Nat → Option (Nat × Nat × Bool)) : List (Nat × AV) → List AV → (List AV → Option ρ) → Option ρ
  | [], cs, k => k cs
  | (i, v) :: ps, cs, k => match pl i with
    | some (off, n, agg) => cellsK agg n v fun vs => match lay? cs off vs with
      | some cs => buildK pl ps cs k
      | none => none
    | none => none

def notNil (a : AV) (k : AV → Option ρ) : Option ρ :=
  match a with
  | .ptr none => none
  | .nilIface => none
  | .nilFn => none
  | a => k a

def isConst : Operand → Bool
  | .const _ => true
  | _ => false

/-- An operation. -/
def evalOp (cx : Ctx) (fn : FuncId) (F : Fns) (o : Oper) (s : St) (k : Tm → St → Option ρ) (pk : AV → St → Option ρ) : Option ρ :=
  match o.op with
  | .move x => operandK s x fun t => k t s
  | .assign x => operandK s x fun t => k t s
  | .pick c a b => valueK s c fun c => operandK s a fun a => operandK s b fun b => asB c fun c => match c with
    | true => k a s
    | false => k b s
  | .alloc t => match tzeros cx.P t with
    | some z => newVar (cx.locs fn) o.dst s z k
    | none => none
  | .box t x => match tshape cx.P t with
    | some (n, agg) => valueK s x fun a => cellsK agg n a fun cs => newVar (cx.locs fn) o.dst s cs k
    | none => none
  | .build t ps => match part2 s ps.toList, tzeros cx.P t, places cx.P t with
    | some ps, some z, some pl => buildK pl ps z fun cs => k (.val (.agg cs)) s
    | _, _, _ => none
  | .buildSlice t len ps => match part2 s ps.toList with
    | some ps => match localOf (cx.locs fn) o.dst with
      | some l => match rowOf cx.P t with
        | some (e, agg, z) => match decide (len * e ≤ 2 ^ 24) && Nat.blt l s.lc.length with
          | true => buildK (fun i => some (i * e, e, agg)) ps (zeros z len) fun cs => k (.lsl l len) { s with tm := forget l s.tm, lc := s.lc.set l (some cs) }
          | false => none
        | none => none
      | none => (opBuildSlice cx.P s.h t len ps).bind fun r => k (.val r.1) { s with h := r.2 }
    | none => none
  | .load t a => match tshape cx.P t with
    | some (n, agg) => operandK s a fun a => opLoad agg n s a k
    | none => none
  | .store t a x => match tshape cx.P t with
    | some (n, agg) => operandK s a fun a => valueK s x fun x => opStore agg n s a x k
    | none => none
  | .nilCheck x => operandK s x fun t => match t with
    | .val a => notNil a fun a => k (.val a) s
    | .lptr l off => k (.lptr l off) s
    | _ => none
  | .binOp op t x y _ => match op with
    | .eql => valueK s x fun a => valueK s y fun b => getV (eqop cx.P (isConst x || isConst y) false t a b) s k
    | .neq => valueK s x fun a => valueK s y fun b => getV (eqop cx.P (isConst x || isConst y) true t a b) s k
    | op => valueK s x fun x => valueK s y fun y => getV (binop op x y) s k
  | .unOp op _ x => valueK s x fun x => getV (unop op x) s k
  | .convert src dst x => valueK s x fun x => opConvert cx.P src dst s x k
  | .makeInterface t x => match cx.P.underlying t with
    | some (.interface _) => none
    | some _ => valueK s x fun a => k (.val (.iface t a)) s
    | none => none
  | .makeFunc (.func f) first captured => match values s first.toList, values s captured.toList with
    | some a, some c => k (.val (.fn f a c)) s
    | _, _ => none
  | .makeMap _ none => k (.val (.map (some s.h.next))) { s with h := s.h.push (.map []) }
  | .makeSlice t l c => valueK s l fun l => valueK s c fun c => asI l fun l => asI c fun c => (opMakeSlice cx.P s.h t l c).bind fun r => k (.val r.1) { s with h := r.2 }
  | .slice t x lo hi mx => valueK s x fun x => optK s lo fun lo => optK s hi fun hi => optK s mx fun mx => getV (sliceA cx.P s.h t x lo hi mx) s k
  | .fieldAddr t x f => match fieldOff cx.P t f with
    | some off => operandK s x fun x => addT off x fun t => k t s
    | none => none
  | .field t x f => valueK s x fun x => getV (fieldA cx.P t x f) s k
  | .indexAddr t x i => operandK s x fun x => valueK s i fun i => asI i fun i => opIndexAddr cx.P t x i fun t => k t s
  | .index t x i => valueK s x fun x => valueK s i fun i => getV (indexA cx.P t x i) s k
  | .lookup t x i ok => match cx.P.underlying t with
    | some (.map key elem) => valueK s x fun x => valueK s i fun i => asMap x fun m => (opLookup cx.P s.h key elem ok m i).bind fun v => match ok with
      | true => spT 2 v fun vs => k (.val (.tup vs)) s
      | false => k (.val v) s
    | _ => none
  | .mapUpdate t m key x => match cx.P.underlying t with
    | some (.map kt _) => valueK s m fun m => valueK s key fun key => valueK s x fun x => asMap m fun m => (opMapUpdate cx.P s.h kt m key x).bind fun h => k (.val (.tup [])) { s with h }
    | _ => none
  | .typeAssert x _ asserted ok => valueK s x fun x => (typeAssertA cx.P x asserted ok).bind fun v => match ok with
    | true => spT 2 v fun vs => k (.val (.tup vs)) s
    | false => k (.val v) s
  | .extract x i => valueK s x fun x => match x with
    | .tup vs => match vs[i]? with
      | some v => k (.val v) s
      | none => none
    | _ => none
  | .call c => match appendOf c with
    | some (t0, t1, x, y) => operandK s x fun x => operandK s y fun y => opAppendT cx.P t0 t1 s x y k
    | none => opCall cx F c o.type s k pk
  | .defer c => match c.callee, c.args.toList with
    | .value f, [] => valueK s f fun f => asFn f (fun f a c => k (.val (.tup [])) { s with df := .fn f a c :: s.df }) (fun _ => none)
    | _, _ => none
  | .panic x => valueK s x fun x => thrown x fun x => pk x s
  | _ => none

def putT (d : Option Tmp) (t : Tm) (s : St) : St :=
  match d with
  | some d => { s with tm := s.tm.set d t }
  | none => s

/-- Is an operation wanted? What was asked is known from then on. -/
def wantedK (ops : Array Oper) (o : Oper) (s : St) (k : Bool → St → Option ρ) : Option ρ :=
  match o.guard with
  | none => k true s
  | some (j, b) =>
    match (match ops[j]? with | some o => o.dst | none => none) with
    | none => none
    | some d => match s.tm[d]? with
      | some (.val a) => asB a fun c => match c with
        | true => k b { s with tm := s.tm.set d (.val (.bool true)) }
        | false => k (!b) { s with tm := s.tm.set d (.val (.bool false)) }
      | _ => none

end ops

def evalOps (cx : Ctx) (fn : FuncId) (F : Fns) (ops : Array Oper) (k : Ex → St → R) : List Oper → St → R
  | [], s => k .normal s
  | o :: os, s => wantedK ops o s fun w s => match w with
    | true => evalOp cx fn F o s (fun t s => evalOps cx fn F ops k os (putT o.dst t s)) (fun v s => k (.panic v) s)
    | false => evalOps cx fn F ops k os (putT o.dst .undef s)

/-- Does a temporary lead to a local variable? -/
def leads (l : Nat) : List Tm → Bool
  | [] => false
  | t :: ts => match t with
    | .lptr l' _ => match Nat.beq l' l with
      | true => true
      | false => leads l ts
    | .lsl l' _ => match Nat.beq l' l with
      | true => true
      | false => leads l ts
    | _ => leads l ts

/-- What has been read, and what has been turned, in a region whose order is open: (i) what was read there, and how; (j) the heap ahead of a turn; which local variables. -/
inductive Lg where
  | rd (i : Nat) (f : Heap → Option (List AV)) (xs : List AV)
  | ef (j : Nat) (h : Heap)
  | rl (i l : Nat)
  | wl (j l : Nat)

/-- On, if the same is read. -/
def same {ρ : Type} (a : Option (List AV)) (xs : List AV) (k : Option ρ) : Option ρ :=
  match a with
  | some ys => match AV.sameL ys xs with
    | true => k
    | false => none
  | none => none

/-- Is the order of two operations open? -/
def open2 (bf : Array Nat) (i j : Nat) : Bool := !((bf.getD j 0).testBit i) && !((bf.getD i 0).testBit j)

/-- What is read at i was the same ahead of each turn whose order is open. -/
def wasSame {ρ : Type} (bf : Array Nat) (i : Nat) (f : Heap → Option (List AV)) (xs : List AV) (k : Option ρ) : List Lg → Option ρ
  | [] => k
  | g :: gs => match g with
    | .ef j h => match open2 bf i j with
      | true => same (f h) xs (wasSame bf i f xs k gs)
      | false => wasSame bf i f xs k gs
    | _ => wasSame bf i f xs k gs

/-- What was read still is the same behind the turn j. -/
def stillSame {ρ : Type} (bf : Array Nat) (j : Nat) (h : Heap) (k : Option ρ) : List Lg → Option ρ
  | [] => k
  | g :: gs => match g with
    | .rd i f xs => match open2 bf i j with
      | true => same (f h) xs (stillSame bf j h k gs)
      | false => stillSame bf j h k gs
    | _ => stillSame bf j h k gs

/-- Local variable l is turned nowhere (read nowhere) with the order open. -/
def aloneL (bf : Array Nat) (i l : Nat) (reads : Bool) : List Lg → Bool
  | [] => true
  | g :: gs => (match g with
    | .wl j l' => match open2 bf i j, Nat.beq l l' with
      | true, true => false
      | _, _ => true
    | .rl j l' => match reads, open2 bf i j, Nat.beq l l' with
      | true, true, true => false
      | _, _, _ => true
    | _ => true) && aloneL bf i l reads gs

/-- What kind of operation is it, where the order is open? 0: it asks for operands alone (or makes a local variable) · 1: it reads the heap, or a local variable, by a load · 2: it reads a slice's octets · 3: it may turn the heap, or a local variable · 4: it looks at the heap. -/
def kindOf (P : Program) (locs : List Tmp) (o : Oper) : Nat :=
  match o.op with
  | .load .. => 1
  | .convert src dst _ => match P.underlying src, P.underlying dst with
    | some (.slice _), some .string => 2
    | some .string, some (.slice _) => 3
    | _, _ => 0
  | .alloc _ => match localOf locs o.dst with
    | some _ => 0
    | none => 3
  | .box _ _ => match localOf locs o.dst with
    | some _ => 0
    | none => 3
  | .buildSlice _ _ _ => match localOf locs o.dst with
    | some _ => 0
    | none => 3
  | .move _ => 0
  | .assign _ => 0
  | .pick _ _ _ => 0
  | .build _ _ => 0
  | .nilCheck _ => 0
  | .binOp _ _ _ _ _ => 0
  | .unOp _ _ _ => 0
  | .makeInterface _ _ => 0
  | .makeFunc _ _ _ => 0
  | .fieldAddr _ _ _ => 0
  | .field _ _ _ => 0
  | .indexAddr _ _ _ => 0
  | .index _ _ _ => 0
  | .typeAssert _ _ _ _ => 0
  | .extract _ _ => 0
  | .call c => match c.callee with
    | .builtin .len => 0
    | .builtin .cap => 0
    | .builtin .min => 0
    | .builtin .max => 0
    | _ => 3
  | .slice _ _ _ _ _ => 2
  | .lookup _ _ _ _ => 4
  | _ => 3

def namesOf (ops : Array Oper) (o : Oper) : List Tmp :=
  (match o.dst with | some d => [d] | none => []) ++ (o.op.operands.toList.filterMap fun | .tmp t => some t | _ => none) ++
  (match o.guard with
   | some (g, _) => match ops[g]? with
     | some o => match o.dst with
       | some d => [d]
       | none => []
     | none => []
   | none => [])

/-- May the order be left open? What turns something stands in one order; what looks at the heap stands in order with it; no temporary is written beside its other uses. -/
def drawOk (P : Program) (locs : List Tmp) (ops : Array Oper) (bf : Array Nat) : Bool :=
  let l := ops.toList.zipIdx
  (l.all fun (o, j) => (o.after.all fun e => !(Region.binds .any e) || decide (e.on < j)) && (match o.dst with | some d => !((o.op.operands.toList.filterMap fun | .tmp t => some t | _ => none).contains d) | none => true)) &&
  l.all fun (o, j) => l.all fun (o', i) =>
    !(decide (i < j)) || !(open2 bf i j) ||
      (!(kindOf P locs o == 3 && kindOf P locs o' == 3) && !(kindOf P locs o == 4 && kindOf P locs o' == 3) && !(kindOf P locs o == 3 && kindOf P locs o' == 4) &&
        (match o.dst with | some d => !(namesOf ops o').contains d | none => true) && (match o'.dst with | some d => !(namesOf ops o).contains d | none => true))

/-- The local variable that an operation makes. -/
def siteOf (locs : List Tmp) (o : Oper) : Option Nat :=
  match o.op with
  | .alloc _ => localOf locs o.dst
  | .box _ _ => localOf locs o.dst
  | .buildSlice _ _ _ => localOf locs o.dst
  | _ => none

/-- No local variable is one any more. -/
def nonesL : List (Option (List AV)) → List (Option (List AV))
  | [] => []
  | _ :: cs => none :: nonesL cs

def unsetT (tm : List Tm) (o : Oper) : List Tm :=
  match o.dst with
  | some d => tm.set d .undef
  | none => tm

/-- The temporaries that a region writes lead nowhere. -/
def wipe (ops : List Oper) (s : St) : St :=
  { s with tm := ops.foldl unsetT s.tm, lc := nonesL s.lc }

def one1 (a : Option AV) : Option (List AV) :=
  match a with
  | some v => some [v]
  | none => none

/-- What a store or an append is aimed at. -/
def aim (s : St) (o : Oper) : Option Tm :=
  match o.op with
  | .store _ a _ => operand s a
  | .call c => match appendOf c with
    | some (_, _, x, _) => operand s x
    | none => none
  | _ => none

/-- A region whose order is open, in the order of the text; what was read, and what was turned, is held against each other. -/
def evalDraw (cx : Ctx) (fn : FuncId) (F : Fns) (ops : Array Oper) (bf : Array Nat) (k : Ex → St → R) : List (Oper × Nat) → List Lg → St → R
  | [], _, s => k .normal s
  | (o, j) :: os, lg, s => wantedK ops o s fun w s => match w with
    | false => evalDraw cx fn F ops bf k os lg (putT o.dst .undef s)
    | true => match kindOf cx.P (cx.locs fn) o with
      | 1 => match o.op with
        | .load t a => match tshape cx.P t with
          | none => none
          | some (n, agg) => operandK s a fun a => match a with
            | .lptr l _ => match aloneL bf j l false lg with
              | true => opLoad agg n s a fun t s => evalDraw cx fn F ops bf k os (.rl j l :: lg) (putT o.dst t s)
              | false => none
            | .val a => asPtr a fun b off => (s.h.rd b off n).bind fun xs => wasSame bf j (fun h => h.rd b off n) xs
                (valK agg n xs fun v => evalDraw cx fn F ops bf k os (.rd j (fun h => h.rd b off n) xs :: lg) (putT o.dst (.val v) s)) lg
            | _ => none
        | _ => none
      | 2 => match o.op with
        | .convert src _ x => match cx.P.underlying src with
          | some (.slice e) => match isU8 cx.P e with
            | true => valueK s x fun x => (cellsOf cx.P s.h e x).bind fun cs => wasSame bf j (fun h => cellsOf cx.P h e x) cs
                ((bytesA cs).bind fun bs => evalDraw cx fn F ops bf k os (.rd j (fun h => cellsOf cx.P h e x) cs :: lg) (putT o.dst (.val (.str ⟨bs.toArray⟩)) s)) lg
            | false => none
          | _ => none
        | .slice t x lo hi mx => valueK s x fun x => optK s lo fun lo => optK s hi fun hi => optK s mx fun mx => (sliceA cx.P s.h t x lo hi mx).bind fun v =>
            wasSame bf j (fun h => one1 (sliceA cx.P h t x lo hi mx)) [v] (evalDraw cx fn F ops bf k os (.rd j (fun h => one1 (sliceA cx.P h t x lo hi mx)) [v] :: lg) (putT o.dst (.val v) s)) lg
        | _ => none
      | 3 => match aim s o with
        | some (.lsl l _) => match aloneL bf j l true lg with
          | true => evalOp cx fn F o s (fun t s' => stillSame bf j s'.h (evalDraw cx fn F ops bf k os (.wl j l :: .ef j s.h :: lg) (putT o.dst t s')) lg) (fun _ _ => none)
          | false => none
        | some (.lptr l _) => match aloneL bf j l true lg with
          | true => evalOp cx fn F o s (fun t s => evalDraw cx fn F ops bf k os (.wl j l :: lg) (putT o.dst t s)) (fun _ _ => none)
          | false => none
        | _ => evalOp cx fn F o s (fun t s' => stillSame bf j s'.h (evalDraw cx fn F ops bf k os (.ef j s.h :: lg) (putT o.dst t s')) lg)
            (fun v s' => match os.all (fun x => !(open2 bf x.2 j)) with
              | true => k (.panic v) (wipe ops.toList s')
              | false => none)
      | _ => evalOp cx fn F o s (fun t s => evalDraw cx fn F ops bf k os lg (putT o.dst t s)) (fun _ _ => none)

/-- Nothing leads to the local variables that a region makes. -/
def sitesOk (locs : List Tmp) (tm : List Tm) : List Oper → Bool
  | [] => true
  | o :: os => (match siteOf locs o with | some l => !(leads l tm) && os.all fun o' => !(siteOf locs o' == some l) | none => true) && sitesOk locs tm os

/-- A local variable becomes one of the heap's. -/
def promote1 (l b : Nat) : List Tm → List Tm
  | [] => []
  | t :: ts => (match t with
    | .lptr l' o => match Nat.beq l' l with
      | true => .val (.ptr (some (b, o)))
      | false => .lptr l' o
    | .lsl l' n => match Nat.beq l' l with
      | true => .undef
      | false => .lsl l' n
    | t => t) :: promote1 l b ts

def promote (locs : List Tmp) : List Tmp → St → St
  | [], s => s
  | t :: ts, s => match locs.idxOf? t with
    | some l => match local? s l with
      | some cs => promote locs ts { s with tm := promote1 l s.h.next s.tm, h := s.h.push (.cells cs 1), lc := s.lc.set l none }
      | none => promote locs ts s
    | none => promote locs ts s

def evalRegion (cx : Ctx) (fn : FuncId) (F : Fns) (id : Nat) (ops : Array Oper) (draw : Bool) (s : St) (k : Ex → St → R) : R :=
  match draw with
  | false => evalOps cx fn F ops k ops.toList s
  | true => match drawOk cx.P (cx.locs fn) ops (Region.before ops) with
    | false => none
    | true => match sitesOk (cx.locs fn) s.tm ops.toList with
      | false => none
      | true => evalDraw cx fn F ops (Region.before ops) (fun e s => match e with
        | .normal => k .normal (promote (cx.locs fn) (cx.flo fn id) s)
        | e => k e s) ops.toList.zipIdx [] s

/-- What a round's beginning keeps of the temporaries. -/
def keepT (keep : List Tmp) : Nat → List Tm → List Tm
  | _, [] => []
  | i, t :: ts => (match keep.contains i with | true => t | false => .undef) :: keepT keep (i + 1) ts

def keepL (tm : List Tm) : Nat → List (Option (List AV)) → List (Option (List AV))
  | _, [] => []
  | l, c :: cs => (match leads l tm with | true => c | false => none) :: keepL tm (l + 1) cs

/-- What a round's beginning keeps. -/
def norm (keep : List Tmp) (s : St) : St :=
  { s with tm := keepT keep 0 s.tm, lc := keepL (keepT keep 0 s.tm) 0 s.lc }

/-- What a loop carries along: the values of the temporaries, the cells of the local variables; their shape is as it was. -/
def packT : List Tm → List Tm → Option (List AV)
  | [], [] => some []
  | b :: bs, t :: ts => match b, t with
    | .undef, _ => packT bs ts
    | .val _, .val a => match packT bs ts with
      | some r => some (a :: r)
      | none => none
    | .lptr l o, .lptr l' o' => match Nat.beq l l', Nat.beq o o' with
      | true, true => packT bs ts
      | _, _ => none
    | .lsl l o, .lsl l' o' => match Nat.beq l l', Nat.beq o o' with
      | true, true => packT bs ts
      | _, _ => none
    | _, _ => none
  | _, _ => none

def packL : List (Option (List AV)) → List (Option (List AV)) → Option (List AV)
  | [], [] => some []
  | b :: bs, t :: ts => match b, t with
    | none, _ => packL bs ts
    | some c, some c' => match Nat.beq c.length c'.length with
      | true => match packL bs ts with
        | some r => some (c' ++ r)
        | none => none
      | false => none
    | _, _ => none
  | _, _ => none

def pack (b s : St) : Option (List AV) :=
  match b.rc, s.rc, b.df, s.df with
  | none, none, [], [] => match packT b.tm s.tm, packL b.lc s.lc with
    | some x, some y => some (x ++ y)
    | _, _ => none
  | _, _, _, _ => none

def fillT : List Tm → List AV → List Tm × List AV
  | [], vs => ([], vs)
  | b :: bs, vs => match b with
    | .val _ => match vs with
      | v :: vs => (.val v :: (fillT bs vs).1, (fillT bs vs).2)
      | [] => ([], [])
    | t => (t :: (fillT bs vs).1, (fillT bs vs).2)

def fillL : List (Option (List AV)) → List AV → List (Option (List AV))
  | [], _ => []
  | b :: bs, vs => match b with
    | none => none :: fillL bs vs
    | some c => some (vs.take c.length) :: fillL bs (vs.drop c.length)

def unpack (b : St) (vs : List AV) (h : Heap) : St :=
  { tm := (fillT b.tm vs).1, lc := fillL b.lc (fillT b.tm vs).2, h, df := [], rc := none }

def loopV (body : List AV → Heap → (List AV → Heap → R) → R) : Nat → List AV → Heap → R
  | 0, _, _ => none
  | n + 1, vs, h => body vs h (loopV body n)

/-- Code that neither defers, nor recovers, nor ranges over a function. -/
def plainCode : Code → Bool
  | .region _ ops _ => ops.toList.all fun o => match o.op with
    | .defer _ => false
    | .call c => match c.callee with
      | .builtin .recover => false
      | _ => true
    | _ => true
  | .seq a b => plainCode a && plainCode b
  | .cond _ a b => plainCode a && plainCode b
  | .block _ a => plainCode a
  | .loop a => plainCode a
  | .rangeFunc _ _ _ _ => false
  | _ => true

def hasBody (P : Program) (f : FuncId) : Bool :=
  match P.funcs[f]? with
  | some fn => fn.body.isSome
  | none => false

/-- What leads to local variables is dropped. -/
def dropL : List Tm → List Tm
  | [] => []
  | t :: ts => (match t with
    | .val a => .val a
    | _ => .undef) :: dropL ts

def evalCode (cx : Ctx) (fn : FuncId) (F : Fns) (n : Nat) (bl : Nat) : Code → St → (Ex → St → R) → R
  | .skip, s, k => k .normal s
  | .label _, s, k => k .normal s
  | .region id ops draw, s, k => evalRegion cx fn F id ops draw s k
  | .seq a b, s, k => evalCode cx fn F n bl a s fun e s => match e with
    | .normal => evalCode cx fn F n bl b s k
    | .exit i => k (.exit i) s
    | .goto i => k (.goto i) s
    | .ret => k .ret s
    | .panic v => k (.panic v) s
  | .cond c a b, s, k => valueK s c fun c => asB c fun c => match c with
    | true => evalCode cx fn F n bl a s k
    | false => evalCode cx fn F n bl b s k
  | .block id a, s, k => evalCode cx fn F n id a s fun e s => match e with
    | .normal => k .normal s
    | .exit i => match Nat.beq i id with
      | true => k .normal s
      | false => k (.exit i) s
    | .goto i => k (.goto i) s
    | .ret => k .ret s
    | .panic v => k (.panic v) s
  | .loop a, s, k =>
    match norm (cx.keep fn bl) s with
    | b => match pack b b with
      | none => none
      | some vs0 => loopV (fun vs h self => spL vs0.length vs fun vs => evalCode cx fn F n bl a (unpack b vs h) fun e s => match e with
        | .normal => match pack b (norm (cx.keep fn bl) s) with
          | some vs => self vs s.h
          | none => none
        | .exit i => k (.exit i) s
        | .goto i => k (.goto i) s
        | .ret => k .ret s
        | .panic v => k (.panic v) s) n vs0 s.h
  | .exit id, s, k => k (.exit id) s
  | .goto l, s, k => k (.goto l) s
  | .ret, s, k => k .ret s
  | .rangeFunc f params assign body, s, k => match plainCode assign && plainCode body with
    | false => none
    | true => valueK s f fun f => asFn f (fun g x y => match hasBody cx.P g with
      | false => none
      | true => match (s.h.push .mark).push (.loop { fn, tm := dropL s.tm, params := params.toList, assign, body, pending := none, busy := false }) with
      | h1 => bindC (F.plain g (x ++ [.yield (s.h.next + 1)] ++ y) h1)
        (fun _ h => match h.get (s.h.next + 1) with
          | some (.loop b) => match b.busy, b.pending with
            | false, none => k .normal { s with h := h.put (s.h.next + 1) .dead, df := .yield s.h.next :: s.df }
            | false, some .ret => k .ret { s with h := h.put (s.h.next + 1) .dead, df := .yield s.h.next :: s.df }
            | false, some (.exit i) => k (.exit i) { s with h := h.put (s.h.next + 1) .dead, df := .yield s.h.next :: s.df }
            | _, _ => none
          | _ => none)
        (fun _ _ => none)) (fun _ => none)
  | _, _, _ => none

def result1 (P : Program) (s : St) : ResultVar → (AV → R) → R
  | .tmp t, k => valueK s (.tmp t) k
  | .cell a t, k => match tshape P t with
    | some (n, agg) => operandK s (.tmp a) fun a => opLoad agg n s a fun t _ => match t with
      | .val v => k v
      | _ => none
    | none => none

def resultsK (P : Program) (s : St) : List ResultVar → (List AV → R) → R
  | [], k => k []
  | r :: rs, k => result1 P s r fun v => resultsK P s rs fun vs => k (v :: vs)

def tupled : List AV → AV
  | [v] => v
  | vs => .tup vs

/-- A function without a body. -/
def evalExtern (fn : Func) (args : List AV) (h : Heap) : Option (Fin × Heap) :=
  if fn.name = "maps.clone" then
    match args with
    | [.iface t (.map (some b))] =>
      match h.get b with
      | some (.map es) => some (.ret (.iface t (.map (some h.next))), h.push (.map es))
      | _ => none
    | _ => none
  else none

def tmOf : List AV → List Tm
  | [] => []
  | a :: as => .val a :: tmOf as

def undefs : Nat → List Tm
  | 0 => []
  | n + 1 => .undef :: undefs n

def nones : List Tmp → List (Option (List AV))
  | [] => []
  | _ :: ts => none :: nones ts

def enterS (cx : Ctx) (f : FuncId) (fn : Func) (args : List AV) (h : Heap) (rc : Option (Option AV)) : St :=
  { tm := tmOf args ++ undefs (fn.ntmps - args.length), lc := nones (cx.locs f), h, df := [], rc }

def bindD (r : Option (Option AV × Heap)) (k : Heap → R) (pk : AV → Heap → R) : R :=
  match r with
  | some (none, h) => k h
  | some (some v, h) => pk v h
  | none => none

/-- What stands behind a body: the deferred calls, the results. -/
def leaveA (cx : Ctx) (F : Fns) (fn : Func) (u : Option AV) (s : St) : R :=
  match s.df with
  | [] => match u with
    | none => resultsK cx.P s fn.results.toList fun vs => some (.ret (tupled vs), s.h, s.rc)
    | some v => some (.panic v, s.h, s.rc)
  | d :: ds => match s.rc with
    | some _ => none
    | none => bindD (F.defers (d :: ds) u s.h) (fun h => resultsK cx.P { s with h } fn.results.toList fun vs => some (.ret (tupled vs), h, s.rc))
      (fun v h => some (.panic v, h, s.rc))

/-- Code without recover. -/
def noRec : Code → Bool
  | .region _ ops _ => ops.toList.all fun o => match o.op with
    | .call c => match c.callee with
      | .builtin .recover => false
      | _ => true
    | _ => true
  | .seq a b => noRec a && noRec b
  | .cond _ a b => noRec a && noRec b
  | .block _ a => noRec a
  | .loop a => noRec a
  | .rangeFunc _ _ a b => noRec a && noRec b
  | _ => true

/-- Code of a function that is called as a deferred one: what recovers stands in a region of one order that makes no call. -/
def recCode : Code → Bool
  | .seq a b => recCode a && recCode b
  | .cond _ a b => recCode a && recCode b
  | .region id ops draw => noRec (.region id ops draw) || !draw && ops.toList.all fun o => match o.op with
    | .defer _ => false
    | .call c => match c.callee with
      | .builtin _ => true
      | _ => false
    | _ => true
  | c => noRec c

def callStep (cx : Ctx) (n : Nat) (F : Fns) (f : FuncId) (args : List AV) (h : Heap) (rc : Option (Option AV)) : R :=
  match cx.P.funcs[f]? with
  | none => none
  | some fn => match fn.body with
    | none => match rc with
      | none => (evalExtern fn args h).bind fun r => some (r.1, r.2, none)
      | some _ => none
    | some c => match noRec c || recCode c && rc.isSome with
      | false => none
      | true => evalCode cx f F n 0 c (enterS cx f fn args h rc) fun e s => match e with
        | .normal => leaveA cx F fn none s
        | .ret => leaveA cx F fn none s
        | .panic v => leaveA cx F fn (some v) s
        | .exit _ => none
        | .goto _ => none

def defersStep (F : Fns) (ds : List AV) (u : Option AV) (h : Heap) : Option (Option AV × Heap) :=
  match ds with
  | [] => some (u, h)
  | .fn f first captured :: ds =>
    match F.call f (first ++ captured) h (some u) with
    | some (.ret _, h, some u) => F.defers ds u h
    | _ => none
  | .yield b :: ds => match h.get b with
    | some .mark => F.defers ds u (h.put b .dead)
    | _ => none
  | _ => none

/-- A loop's record is given back. -/
def shutRound (l : Nat) (pending : Option Code) (s : St) : R :=
  match s.df, s.h.get l with
  | [], some (.loop b) => match b.busy with
    | true => some (.ret (.bool pending.isNone), s.h.put l (.loop { b with pending, busy := false }), none)
    | false => none
  | _, _ => none

def setTms : List Tmp → List AV → List Tm → Option (List Tm)
  | [], [], tm => some tm
  | t :: ts, a :: as, tm => setTms ts as (tm.set t (.val a))
  | _, _, _ => none

/-- A round of a loop over a function. -/
def yieldStep (cx : Ctx) (n : Nat) (F : Fns) (l : Nat) (args : List AV) (h : Heap) : Option (Fin × Heap) :=
  match h.get l with
  | some (.loop b) => (setTms b.params args b.tm).bind fun tm =>
    (evalCode cx b.fn F n 0 b.assign { tm, lc := nones (cx.locs b.fn), h, df := [], rc := none } fun e s => match e with
      | .normal => match s.h.get l with
        | some (.loop b') => match b'.busy, b'.pending with
          | false, none => evalCode cx b.fn F n 0 b.body { s with h := s.h.put l (.loop { b' with busy := true }) } fun e s => match e with
            | .normal => shutRound l none s
            | .exit i => shutRound l (some (.exit i)) s
            | .ret => shutRound l (some .ret) s
            | _ => none
          | _, _ => none
        | _ => none
      | _ => none).bind fun r => some (r.1, r.2.1)
  | _ => none

def fns (cx : Ctx) : Nat → Fns
  | 0 => { call := fun _ _ _ _ => none, defers := fun ds u h => match ds with | [] => some (u, h) | _ => none, yield := fun _ _ _ => none }
  | n + 1 => { call := callStep cx n (fns cx n), defers := defersStep (fns cx n), yield := yieldStep cx n (fns cx n) }

def evalCall (cx : Ctx) (n : Nat) : FuncId → List AV → Heap → Option (Option AV) → R := (fns cx n).call
end Go.Proofs.YtahbihcbidkbaaaGreat.Ev

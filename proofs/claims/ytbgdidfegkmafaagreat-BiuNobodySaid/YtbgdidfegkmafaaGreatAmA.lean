/- a machine for the model's code, and that its steps are the model's: values, heap, loads, stores, slices -/
import GoSem.Step
import Derived.KernelRfl
import Derived.Laws.Cells
import Derived.Laws.Sem
import Derived.Calls
import Derived.ChangeKeysEq
/- AM: an abstract machine for the model's code: values as trees, blocks under abstract numbers, no tape, no capacity. Definitions only. -/
namespace Go.AM
open Go

inductive V where
  | unk | undef
  | bool (b : Bool) | int (k : IntKind) (n : Int) | str (s : List UInt8)
  | nilp | ptr (tg : Option Nat) (b : Nat) (p : List Nat)
  | nils | slz (tg : Option Nat) | slc (tg : Option Nat) (b : Nat) (p : List Nat) (s n : Nat) (x : Bool)
  | nilm | map (b : Nat)
  | nilf | fn (f : Nat) (first caps : List V)
  | nili
  | agg (t : Nat) (cs : List V)
  | tup (cs : List V)
  deriving Inhabited

inductive Blk where
  | row (ro : Bool) (es : List V)
  | mp (es : List (V × V))

inductive Tr where
  | nil | node (l : Tr) (v : Option Blk) (r : Tr)

def Tr.get : Tr → Nat → Option Blk
  | .nil, _ => none
  | .node l v r, n => bif Nat.beq n 0 then v else bif Nat.beq (n % 2) 1 then l.get (n / 2) else r.get (n / 2 - 1)

def Tr.setF : Nat → Tr → Nat → Option Blk → Tr
  | 0, t, _, _ => t
  | f + 1, t, n, a =>
    match t with
    | .nil => bif Nat.beq n 0 then .node .nil a .nil else bif Nat.beq (n % 2) 1 then .node (setF f .nil (n / 2) a) none .nil else .node .nil none (setF f .nil (n / 2 - 1) a)
    | .node l v r => bif Nat.beq n 0 then .node l a r else bif Nat.beq (n % 2) 1 then .node (setF f l (n / 2) a) v r else .node l v (setF f r (n / 2 - 1) a)

structure H where
  next : Nat
  m : Tr

def H.get (h : H) (b : Nat) : Option Blk := bif Nat.blt b h.next then h.m.get b else none
def H.set (h : H) (b : Nat) (x : Option Blk) : H := ⟨h.next, h.m.setF (b + 1) b x⟩
def H.push (h : H) (x : Blk) : H := ⟨h.next + 1, h.m.setF (h.next + 1) h.next (some x)⟩

def V.at : V → List Nat → Option V
  | v, [] => some v
  | .agg _ cs, i :: p => match cs[i]? with | some c => c.at p | none => none
  | _, _ :: _ => none
termination_by structural _ p => p

def V.put : V → List Nat → V → Option V
  | _, [], u => some u
  | .agg t cs, i :: p, u => match cs[i]? with | some c => (match c.put p u with | some c' => some (.agg t (cs.set i c')) | none => none) | none => none
  | _, _ :: _, _ => none
termination_by structural _ p => p

/-! what is known of a type, by the program's table -/

/-- a type of the table, as it is beneath its name -/
def desc (P : Program) (t : TypeId) : Option TypeDesc := bif Nat.blt t P.types.size then P.underlying t else none
def undId (P : Program) (t : TypeId) : Nat := match P.info? t with | some { desc := .named _ u, .. } => u | _ => t
/-- none: no type of the table; some none: a value of one cell; some (some u): a struct or an array, u the type beneath its name -/
def tgo (P : Program) (t : TypeId) : Option (Option Nat) :=
  match desc P t with
  | some (.struct _) => some (some (undId P t))
  | some (.array _ _) => some (some (undId P t))
  | some _ => some none
  | none => none
/-- the types of a struct's or an array's parts -/
def kids (P : Program) (t : TypeId) : List TypeId :=
  match desc P t with
  | some (.struct fs) => fs.toList.map (·.type)
  | some (.array n e) => List.replicate n e
  | _ => []
/-- a field: the struct's tag, the field's -/
def fldT (P : Program) (s : TypeId) (f : Nat) : Option (Option Nat × Option Nat) :=
  match desc P s with
  | some (.struct fs) => match fs[f]? with
    | some fd => (match tgo P fd.type with | some tf => bif Nat.beq (P.cellsOf fd.type) 0 then none else some (some (undId P s), tf) | none => none)
    | none => none
  | _ => none
inductive IxK where
  | arr (tg : Option Nat) (n : Nat) (te : Option Nat)
  | slc (te : Option Nat)
  | str
  | bad
def ixK (P : Program) (t : TypeId) : IxK :=
  match desc P t with
  | some (.array n e) => (match tgo P e with | some te => bif Nat.beq (P.cellsOf e) 0 then .bad else .arr (some (undId P t)) n te | none => .bad)
  | some (.slice e) => (match tgo P e with | some te => bif Nat.beq (P.cellsOf e) 0 then .bad else .slc te | none => .bad)
  | some .string => .str
  | _ => .bad
/-- a slice type's element: its type, tag, bytes -/
def elT (P : Program) (t : TypeId) : Option (TypeId × Option Nat × Nat) :=
  match desc P t with
  | some (.slice e) => (match tgo P e with | some te => bif Nat.beq (P.cellsOf e) 0 || Nat.beq (P.bytesOf e) 0 then none else some (e, te, P.bytesOf e) | none => none)
  | _ => none

def tagOk (tg : Option Nat) (u : V) : Bool :=
  match u, tg with
  | .agg t _, some t' => Nat.beq t t'
  | .agg _ _, none => false
  | _, some _ => false
  | .unk, none => false
  | .undef, none => false
  | .tup _, none => false
  | _, none => true
def tgEq : Option Nat → Option Nat → Bool
  | none, none => true
  | some a, some b => Nat.beq a b
  | _, _ => false

/-! the heap -/
def H.at (h : H) (b : Nat) (p : List Nat) : Option V :=
  match p with
  | i :: q => match h.get b with
    | some (.row _ es) => match es[i]? with | some e => e.at q | none => none
    | _ => none
  | [] => none

def H.putAt (h : H) (b : Nat) (p : List Nat) (u : V) : Option H :=
  match p with
  | i :: q => match h.get b with
    | some (.row false es) => match es[i]? with
      | some e => match e.put q u with | some e' => some (h.set b (some (.row false (es.set i e')))) | none => none
      | none => none
    | _ => none
  | [] => none

def ld (tg : Option Nat) (h : H) (p : V) : Option V :=
  match p with
  | .ptr tp b q => bif tgEq tp tg then h.at b q else none
  | _ => none

def st (tg : Option Nat) (h : H) (p : V) (u : V) : Option H :=
  match p with
  | .ptr tp b q => bif tgEq tp tg && tagOk tg u then h.putAt b q u else none
  | _ => none

abbrev Ans := Option (V × H)
abbrev Fr := Nat → V
inductive Ex where | normal | exit (id : Nat) | ret
abbrev K := Ex → Fr → H → Ans
abbrev Env := Nat → List V → H → Ans
abbrev JT := Nat → List V → H → Ans

def Fr.set (fr : Fr) (d : Nat) (v : V) : Fr := fun i => bif Nat.beq i d then v else fr i

def mkFr : List Nat → List V → Fr
  | l :: ls, v :: vs => fun i => bif Nat.beq i l then v else mkFr ls vs i
  | _, _ => fun _ => .unk

def bnd {α : Type} (x : Option α) (k : α → Ans) : Ans := match x with | some a => k a | none => none
def bnd2 (x : Ans) (k : V → H → Ans) : Ans := match x with | some (v, h) => k v h | none => none
def cnd (c : V) (a b : Ans) : Ans := match c with | .bool t => (match t with | true => a | false => b) | _ => none
def gd (g : V) (want : Bool) (x : Ans) (h : H) : Ans :=
  match g with
  | .bool b => bif b == want then x else some (.undef, h)
  | .unk => none
  | _ => some (.undef, h)

/-- constants -/
def ofConst (v : Value) : V :=
  match v with
  | .bool b => .bool b
  | .int k n => .int k n
  | .string s => .str s.data.toList
  | .pointer none => .nilp
  | .slice none 0 0 => .nils
  | .map none => .nilm
  | .nilFunc => .nilf
  | .nilIface => .nili
  | _ => .unk

/-- cells as a tree -/
def unflLeaf (v : Value) : Option V := match ofConst v with | .unk => none | u => some u
mutual
def unfl (P : Program) : Nat → TypeId → List Value → Option (V × List Value)
  | 0, _, _ => none
  | d + 1, t, cells =>
    match tgo P t with
    | none => none
    | some none => (match cells with | v :: r => (match unflLeaf v with | some u => some (u, r) | none => none) | [] => none)
    | some (some u) => (match unflL P d (kids P t) cells with | some (cs, r) => some (.agg u cs, r) | none => none)
def unflL (P : Program) : Nat → List TypeId → List Value → Option (List V × List Value)
  | 0, _, _ => none
  | _ + 1, [], cells => some ([], cells)
  | d + 1, t :: ts, cells =>
    match unfl P d t cells with
    | some (v, r) => (match unflL P d ts r with | some (vs, r') => some (v :: vs, r') | none => none)
    | none => none
end
def zD : Nat := 1000
def zOk (v : V) (z : Value) : Bool := match v, z with | .agg _ _, .agg _ => true | .agg _ _, _ => false | _, .agg _ => false | _, _ => true
def zeroV (P : Program) (t : TypeId) : Option V :=
  match P.info? t with
  | some i => (match i.zero with
    | some z => (match unfl P zD t z.cells.toList with | some (v, []) => bif zOk v z then some v else none | _ => none)
    | none => none)
  | none => none

def evO (fr : Fr) : Operand → V
  | .tmp t => fr t
  | .const v => ofConst v
  | .global _ => .unk
  | .func f => .fn f [] []

/-! operations -/

def bitsI (op : BinOp) (k : IntKind) (x y : Int) : Option V :=
  match op with
  | .and => some (.int k (k.wrap (BitVec.ofInt k.bits x &&& BitVec.ofInt k.bits y).toNat))
  | .or => some (.int k (k.wrap (BitVec.ofInt k.bits x ||| BitVec.ofInt k.bits y).toNat))
  | .xor => some (.int k (k.wrap (BitVec.ofInt k.bits x ^^^ BitVec.ofInt k.bits y).toNat))
  | .andNot => some (.int k (k.wrap (BitVec.ofInt k.bits x &&& ~~~BitVec.ofInt k.bits y).toNat))
  | _ => none

def strOp (op : BinOp) (x y : List UInt8) : Option V :=
  match op with
  | .add => bif Nat.ble (x.length + y.length) 9223372036854775807 then some (.str (x ++ y)) else none
  | .eql => some (.bool (x == y))
  | .neq => some (.bool (!(x == y)))
  | .lss => some (.bool (Op.bytesLess x y))
  | .leq => some (.bool (Op.bytesLess x y || x == y))
  | .gtr => some (.bool (!(Op.bytesLess x y || x == y)))
  | .geq => some (.bool (!Op.bytesLess x y))
  | _ => none

/-- how values of a type are held against each other -/
inductive EqK where
  | bool | int | str | ptr | slc | map | fn | bad
  | agg (t : Nat) (ks : List EqK)
def eqk (P : Program) : Nat → TypeId → EqK
  | 0, _ => .bad
  | d + 1, t =>
    match desc P t with
    | some .bool => .bool
    | some (.int _) => .int
    | some .string => .str
    | some (.pointer _) => .ptr
    | some (.slice _) => .slc
    | some (.map _ _) => .map
    | some (.func _ _ _) => .fn
    | some (.struct fs) => bif fs.toList.any (fun f => f.name == "_") || P.stoodInHeld t || P.eqGuardType P.depth t then .bad else .agg (undId P t) (fs.toList.map fun f => eqk P d f.type)
    | some (.array n e) => bif P.eqGuardType P.depth t then .bad else .agg (undId P t) (List.replicate n (eqk P d e))
    | _ => .bad
def eqD : Nat := 20

mutual
def eqV : EqK → V → V → Option Bool
  | .bool, .bool a, .bool b => some (a == b)
  | .int, .int k a, .int j b => bif k == j then some (a == b) else none
  | .str, .str a, .str b => some (a == b)
  | .ptr, .nilp, .nilp => some true
  | .ptr, .nilp, .ptr _ _ _ => some false
  | .ptr, .ptr _ _ _, .nilp => some false
  | .slc, .nils, .nils => some true
  | .slc, .nils, .slz _ => some false
  | .slc, .slz _, .nils => some false
  | .slc, .nils, .slc _ _ _ _ _ _ => some false
  | .slc, .slc _ _ _ _ _ _, .nils => some false
  | .map, .nilm, .nilm => some true
  | .map, .nilm, .map _ => some false
  | .map, .map _, .nilm => some false
  | .fn, .nilf, .nilf => some true
  | .fn, .nilf, .fn _ _ _ => some false
  | .fn, .fn _ _ _, .nilf => some false
  | .agg t ks, .agg u xs, .agg v ys => bif Nat.beq t u && Nat.beq t v then eqVs ks xs ys else none
  | _, _, _ => none
def eqVs : List EqK → List V → List V → Option Bool
  | [], [], [] => some true
  | k :: ks, x :: xs, y :: ys => match eqV k x y with | some true => eqVs ks xs ys | r => r
  | _, _, _ => none
end

def bin (op : BinOp) (x y : V) : Option V :=
  match op with
  | .shl => (match x, y with
    | .int k a, .int _ b => bif decide (b < 0) then none else some (.int k (k.wrap (a * 2 ^ (min b.toNat k.bits))))
    | _, _ => none)
  | .shr => (match x, y with
    | .int k a, .int _ b => bif decide (b < 0) then none else some (.int k (a.fdiv (2 ^ (min b.toNat k.bits))))
    | _, _ => none)
  | .add => (match x, y with
    | .int k a, .int j b => bif k == j then some (.int k (k.wrap (a + b))) else none
    | .str a, .str b => strOp .add a b
    | _, _ => none)
  | .sub => (match x, y with | .int k a, .int j b => bif k == j then some (.int k (k.wrap (a - b))) else none | _, _ => none)
  | .mul => (match x, y with | .int k a, .int j b => bif k == j then some (.int k (k.wrap (a * b))) else none | _, _ => none)
  | .quo => (match x, y with | .int k a, .int j b => bif k == j && b != 0 then some (.int k (k.wrap (a.tdiv b))) else none | _, _ => none)
  | .rem => (match x, y with | .int k a, .int j b => bif k == j && b != 0 then some (.int k (a.tmod b)) else none | _, _ => none)
  | .and => (match x, y with | .int k a, .int j b => bif k == j then bitsI .and k a b else none | _, _ => none)
  | .or => (match x, y with | .int k a, .int j b => bif k == j then bitsI .or k a b else none | _, _ => none)
  | .xor => (match x, y with | .int k a, .int j b => bif k == j then bitsI .xor k a b else none | _, _ => none)
  | .andNot => (match x, y with | .int k a, .int j b => bif k == j then bitsI .andNot k a b else none | _, _ => none)
  | .lss => (match x, y with
    | .int k a, .int j b => bif k == j then some (.bool (decide (a < b))) else none
    | .str a, .str b => strOp .lss a b
    | _, _ => none)
  | .leq => (match x, y with
    | .int k a, .int j b => bif k == j then some (.bool (decide (a ≤ b))) else none
    | .str a, .str b => strOp .leq a b
    | _, _ => none)
  | .gtr => (match x, y with
    | .int k a, .int j b => bif k == j then some (.bool (decide (a > b))) else none
    | .str a, .str b => strOp .gtr a b
    | _, _ => none)
  | .geq => (match x, y with
    | .int k a, .int j b => bif k == j then some (.bool (decide (a ≥ b))) else none
    | .str a, .str b => strOp .geq a b
    | _, _ => none)
  | _ => none
def binE (neg : Bool) (k : EqK) (x y : V) : Option V :=
  match eqV k x y with | some b => some (.bool (bif neg then !b else b)) | none => none

def un (op : UnOp) (x : V) : Option V :=
  match op with
  | .neg => (match x with | .int k n => some (.int k (k.wrap (0 - n))) | _ => none)
  | .xor => (match x with | .int k n => bitsI .xor k (if k.signed then -1 else k.max) n | _ => none)
  | .not => (match x with | .bool b => some (.bool (!b)) | _ => none)
  | .plus => none

def pick (c a b : V) : Option V := match c with | .bool t => some (bif t then a else b) | _ => none

inductive CvK where | int (k : IntKind) | same | s2b | b2s | sl2 | bad
def cvSl (P : Program) (src dst e : TypeId) : CvK := bif Nat.beq src dst then (match desc P e with | some (.int .u8) => .sl2 | _ => .bad) else .bad

def cvKind (P : Program) (src dst : TypeId) : CvK :=
  match desc P src, desc P dst with
  | some (.int _), some (.int k) => .int k
  | some .string, some .string => .same
  | some .string, some (.slice e) => (match desc P e with | some (.int .u8) => .s2b | _ => .bad)
  | some (.slice e), some .string => (match desc P e with | some (.int .u8) => .b2s | _ => .bad)
  | some (.slice e), some (.slice _) => cvSl P src dst e
  | _, _ => .bad

/-- the elements of a row, or of an array in one -/
def H.els (h : H) (b : Nat) (p : List Nat) : Option (List V) :=
  match p with
  | [] => (match h.get b with | some (.row _ es) => some es | _ => none)
  | _ :: _ => (match h.at b p with | some (.agg _ es) => some es | _ => none)
/-- the elements of a slice whose elements have a tag -/
def H.elems (h : H) (tg : Option Nat) (v : V) : Option (List V) :=
  match v with
  | .nils => some []
  | .slz te => bif tgEq te tg then some [] else none
  | .slc te b p s n _ => bif tgEq te tg then
      (match h.els b p with
      | some es => bif Nat.ble (s + n) es.length then some ((es.drop s).take n) else none
      | none => none) else none
  | _ => none

def bytesOf : List V → Option (List UInt8)
  | [] => some []
  | .int .u8 n :: r => (match bytesOf r with | some l => some (UInt8.ofNat n.toNat :: l) | none => none)
  | _ => none
def strEl (s : List UInt8) : List V := s.map fun b => .int .u8 b.toNat

def conv (k : CvK) (h : H) (x : V) : Option (V × H) :=
  match k with
  | .int k => (match x with | .int _ n => some (.int k (k.wrap n), h) | _ => none)
  | .same => (match x with | .str s => some (.str s, h) | _ => none)
  | .s2b => (match x with | .str s => some (.slc none h.next [] 0 s.length false, h.push (.row false (strEl s))) | _ => none)
  | .sl2 => (match x with | .slc t b [] s n ex => (match h.get b with | some (.row false _) => some (.slc t b [] s n ex, h) | _ => none) | _ => none)
  | .b2s => (match h.elems none x with | some l => (match bytesOf l with | some s => some (.str s, h) | none => none) | none => none)
  | .bad => none

def fieldA (i : Option (Option Nat × Option Nat)) (x : V) (f : Nat) : Option V :=
  match i with
  | some (ts, tf) => (match x with | .ptr tp b p => bif tgEq tp ts then some (.ptr tf b (p ++ [f])) else none | _ => none)
  | none => none
def fieldV (i : Option (Option Nat × Option Nat)) (x : V) (f : Nat) : Option V :=
  match i with
  | some (some t, _) => (match x with | .agg u cs => bif Nat.beq t u then cs[f]? else none | _ => none)
  | _ => none

def indexA (k : IxK) (x i : V) : Option V :=
  match i with
  | .int _ n => bif decide (n < 0) then none else
    (match k, x with
    | .arr tg l te, .ptr tp b p => bif tgEq tp tg && Nat.blt n.toNat l then some (.ptr te b (p ++ [n.toNat])) else none
    | .slc te, .slc t b p s m _ => bif tgEq t te && Nat.blt n.toNat m then some (.ptr te b (p ++ [s + n.toNat])) else none
    | _, _ => none)
  | _ => none

def indexV (k : IxK) (x i : V) : Option V :=
  match i with
  | .int _ n => bif decide (n < 0) then none else
    (match k, x with
    | .arr (some t) l _, .agg u cs => bif Nat.beq t u && Nat.blt n.toNat l then cs[n.toNat]? else none
    | .str, .str s => (match s[n.toNat]? with | some b => some (.int .u8 b.toNat) | none => none)
    | _, _ => none)
  | _ => none

def ext (x : V) (i : Nat) : Option V := match x with | .tup vs => vs[i]? | _ => none

def bound (v : Option V) (d : Nat) : Option Nat :=
  match v with
  | none => some d
  | some (.int _ n) => bif decide (n < 0) then none else some n.toNat
  | some _ => none

/-- slicing: strings, slices, arrays by their address -/
def slcV (k : IxK) (x : V) (lo hi mx : Option V) : Option V :=
  match k with
  | .str => (match x with
    | .str s => (match bound hi s.length, bound lo 0, mx with
      | some h, some l, none => bif Nat.ble l h && Nat.ble h s.length then some (.str ((s.drop l).take (h - l))) else none
      | _, _, _ => none)
    | _ => none)
  | .slc te => (match x with
    | .nils => (match bound hi 0, bound lo 0, bound mx 0 with
      | some h, some l, some m => bif Nat.beq h 0 && Nat.beq l 0 && Nat.beq m 0 && (hi.isSome || mx.isNone) then some .nils else none
      | _, _, _ => none)
    | .slz t => (match bound hi 0, bound lo 0, bound mx 0 with
      | some h, some l, some m => bif tgEq t te && Nat.beq h 0 && Nat.beq l 0 && Nat.beq m 0 && (hi.isSome || mx.isNone) then some (.slz t) else none
      | _, _, _ => none)
    | .slc t b p s n ex => (match bound hi n, bound lo 0 with
      | some h, some l => (match mx with
        | none => bif tgEq t te && Nat.ble l h && Nat.ble h n then some (.slc t b p (s + l) (h - l) (ex && Nat.beq h n)) else none
        | some mv => (match hi, bound (some mv) 0 with
          | some _, some m => bif tgEq t te && Nat.ble l h && Nat.ble h m && Nat.ble m n then some (.slc t b p (s + l) (h - l) (Nat.beq h m)) else none
          | _, _ => none))
      | _, _ => none)
    | _ => none)
  | .arr tg n te => (match x with
    | .ptr tp b p => (match bound hi n, bound lo 0, mx with
      | some h, some l, none => bif tgEq tp tg && Nat.ble l h && Nat.ble h n then some (.slc te b p l (h - l) (Nat.beq h n)) else none
      | _, _, _ => none)
    | _ => none)
  | .bad => none

/-- both of one cell, or of one struct or array type -/
def tagSame : V → V → Bool
  | .agg t _, u => tagOk (some t) u
  | _, u => tagOk none u
def setParts : List V → List (Nat × V) → Option (List V)
  | cs, [] => some cs
  | cs, (i, v) :: r => (match cs[i]? with
    | some c => bif tagSame c v then setParts (cs.set i v) r else none
    | none => none)

def build (z : Option V) (ps : List (Nat × V)) : Option V :=
  match z with
  | some (.agg t cs) => (match setParts cs ps with | some l => some (.agg t l) | none => none)
  | _ => none

def al (tg : Option (Option Nat)) (z : Option V) (h : H) : Option (V × H) :=
  match tg, z with
  | some tg, some z => some (.ptr tg h.next [0], h.push (.row false [z]))
  | _, _ => none
def box (tg : Option (Option Nat)) (h : H) (v : V) : Option (V × H) :=
  match tg with
  | some tg => bif tagOk tg v then some (.ptr tg h.next [0], h.push (.row false [v])) else none
  | none => none
def bslc (i : Option (TypeId × Option Nat × Nat)) (z : Option V) (n : Nat) (ps : List (Nat × V)) (h : H) : Option (V × H) :=
  match i, z with
  | some (_, te, _), some z => (match setParts (List.replicate n z) ps with
    | some es => some (.slc te h.next [] 0 n true, h.push (.row false es))
    | none => none)
  | _, _ => none
def mslc (i : Option (TypeId × Option Nat × Nat)) (z : Option V) (l c : V) (h : H) : Option (V × H) :=
  match i, z, l, c with
  | some (_, te, by_), some z, .int .i64 n, .int .i64 m => bif decide (n < 0) || decide (m < n) || decide (9223372036854775807 < m) || !Nat.ble (m.toNat * by_) 281474976710656 then none else
      some (.slc te h.next [] 0 n.toNat (n == m), h.push (.row false (List.replicate n.toNat z)))
  | _, _, _, _ => none

inductive LnK where | arr (n : Nat) | slc | str | map | bad
def lnK (P : Program) (t : TypeId) : LnK :=
  match desc P t with
  | some (.array n _) => .arr n
  | some (.slice _) => .slc
  | some .string => .str
  | some (.map _ _) => .map
  | _ => .bad
def lenV (k : LnK) (h : H) (x : V) : Option V :=
  match k, x with
  | .arr n, _ => some (.int .i64 n)
  | .str, .str s => some (.int .i64 s.length)
  | .slc, .nils => some (.int .i64 0)
  | .slc, .slz _ => some (.int .i64 0)
  | .slc, .slc _ _ _ _ n _ => some (.int .i64 n)
  | .map, .nilm => some (.int .i64 0)
  | .map, .map b => (match h.get b with | some (.mp es) => some (.int .i64 es.length) | _ => none)
  | _, _ => none
def capV (k : LnK) (x : V) : Option V :=
  match k, x with
  | .slc, .nils => some (.int .i64 0)
  | .slc, .slz _ => some (.int .i64 0)
  | .slc, .slc _ _ _ _ n true => some (.int .i64 n)
  | _, _ => none

def mx2 : V → V → Option V
  | .int k x, .int _ y => some (.int k (if y > x then y else x))
  | _, _ => none
def mn2 : V → V → Option V
  | .int k x, .int _ y => some (.int k (if y < x then y else x))
  | _, _ => none
def foldO (f : V → V → Option V) : V → List V → Option V
  | x, [] => some x
  | x, y :: r => (match f x y with | some z => foldO f z r | none => none)
def mxs : List V → Option V | [] => none | x :: r => foldO mx2 x r
def mns : List V → Option V | [] => none | x :: r => foldO mn2 x r

/-- append -/
def srcEl (h : H) (tg : Option Nat) (x : V) : Option (List V) :=
  match x with
  | .str l => bif tgEq tg none then some (strEl l) else none
  | x => h.elems tg x
def app (i : Option (TypeId × Option Nat × Nat)) (h : H) (s x : V) : Option (V × H) :=
  match i with
  | none => none
  | some (_, te, by_) =>
  match srcEl h te x with
  | none => none
  | some xs =>
    match h.elems te s with
    | none => none
    | some es =>
    match xs with
    | [] => some (s, h)
    | _ :: _ => bif !Nat.ble ((es.length + xs.length) * by_) 140737488355328 then none else
      match s with
      | .nils => some (.slc te h.next [] 0 xs.length false, h.push (.row false xs))
      | .slz _ => some (.slc te h.next [] 0 xs.length false, h.push (.row false xs))
      | .slc _ b p _ n ex =>
          bif ex then some (.slc te h.next [] 0 (n + xs.length) false, h.push (.row false (es ++ xs)))
          else (match p, h.get b with
            | [], some (.row false _) => some (.slc te h.next [] 0 (n + xs.length) false, (h.set b none).push (.row false (es ++ xs)))
            | _, _ => none)
      | _ => none

/-- append(nil slice, so many zeros) -/
def appZ (i : Option (TypeId × Option Nat × Nat)) (z : Option V) (h : H) (s x : V) : Option (V × H) :=
  match i, z, s, x with
  | some (_, te, by_), some z, .nils, .int .i64 n => bif decide (n ≤ 0) || decide (9223372036854775807 < n) || !Nat.ble (n.toNat * by_) 140737488355328 then none else
      some (.slc te h.next [] 0 n.toNat false, h.push (.row false (List.replicate n.toNat z)))
  | _, _, _, _ => none
def isIntT (P : Program) (t : TypeId) : Bool := match desc P t with | some (.int _) => true | _ => false

def splice (es : List V) (s : Nat) (xs : List V) : List V := es.take s ++ xs ++ es.drop (s + xs.length)
def cpy (i : Option (TypeId × Option Nat × Nat)) (h : H) (d x : V) : Option (V × H) :=
  match i with
  | none => none
  | some (_, te, _) =>
  match srcEl h te x, h.elems te d with
  | some xs, some ds =>
    (match d with
    | .nils => some (.int .i64 0, h)
    | .slz _ => some (.int .i64 0, h)
    | .slc _ b p s _ _ => (match p, h.get b with
      | [], some (.row false es) => some (.int .i64 (min xs.length ds.length : Nat), h.set b (some (.row false (splice es s (xs.take ds.length)))))
      | i :: q, _ => (match h.at b (i :: q) with
        | some (.agg t es) =>
            (match h.putAt b (i :: q) (.agg t (splice es s (xs.take ds.length))) with | some h' => some (.int .i64 (min xs.length ds.length : Nat), h') | none => none)
        | _ => none)
      | _, _ => none)
    | _ => none)
  | _, _ => none

/-! maps -/
def known (vs : List V) : Bool := vs.all fun v => match v with | .unk => false | _ => true
def findK (e : EqK) (k : V) : List (V × V) → Option (Option V)
  | [] => some none
  | (x, v) :: r => (match eqV e k x with | some true => some (some v) | some false => findK e k r | none => none)
def updK (e : EqK) (k v : V) : List (V × V) → Option (List (V × V))
  | [] => some [(k, v)]
  | (x, u) :: r => (match eqV e k x with
    | some true => some ((k, v) :: r)
    | some false => (match updK e k v r with | some l => some ((x, u) :: l) | none => none)
    | none => none)
def mkMap (h : H) : Option (V × H) := some (.map h.next, h.push (.mp []))
/-- a map type: how its keys are held against each other; the zero value of its elements -/
def mapT (P : Program) (t : TypeId) : Option (EqK × TypeId) := match desc P t with | some (.map k e) => (match desc P k with | some (.array _ _) => none | _ => some (eqk P eqD k, e)) | _ => none
def flatK : EqK → Bool
  | .bool => true | .int => true | .str => true
  | _ => false
def plainK : EqK → Bool
  | .agg _ ks => ks.all flatK
  | k => flatK k
def mapEs (h : H) (m : V) : Option (List (V × V)) := match m with | .nilm => some [] | .map b => (match h.get b with | some (.mp es) => some es | _ => none) | _ => none
def mlook (e : EqK) (z : Option V) (h : H) (m k : V) (ok : Bool) : Option V :=
  bif !plainK e then none else
  match mapEs h m with
  | some es => (match findK e k es with
    | some (some v) => some (bif ok then .tup [v, .bool true] else v)
    | some none => (match eqV e k k, z with | some _, some z => some (bif ok then .tup [z, .bool false] else z) | _, _ => none)
    | none => none)
  | none => none
def upd (e : EqK) (h : H) (m k v : V) : Option H :=
  bif !(plainK e && known [v]) then none else
  match m with
  | .map b => (match h.get b, eqV e k k with
    | some (.mp es), some _ => (match updK e k v es with | some es' => some (h.set b (some (.mp es'))) | none => none)
    | _, _ => none)
  | _ => none

def nilChk (x : V) : Option V := match x with
  | .ptr t b p => some (.ptr t b p)
  | .fn f a b => some (.fn f a b)
  | _ => none

def callV (env : Env) (f : V) (args : List V) (h : H) : Ans :=
  match f with | .fn g first caps => env g (first ++ (args ++ caps)) h | _ => none

def mkFn (fn : Fn) (first caps : List V) : Option V := match fn with | .func f => bif known first && known caps then some (.fn f first caps) else none | _ => none

/-! equality of values, for the checks of regions that draw -/
mutual
def V.same : V → V → Bool
  | .unk, .unk => true
  | .undef, .undef => true
  | .bool a, .bool b => a == b
  | .int k a, .int j b => k == j && a == b
  | .str a, .str b => a == b
  | .nilp, .nilp => true
  | .ptr t a p, .ptr u b q => tgEq t u && Nat.beq a b && p == q
  | .nils, .nils => true
  | .slz u, .slz v => tgEq u v
  | .slc u a p s n x, .slc v b q t m y => tgEq u v && Nat.beq a b && p == q && Nat.beq s t && Nat.beq n m && x == y
  | .nilm, .nilm => true
  | .map a, .map b => Nat.beq a b
  | .nilf, .nilf => true
  | .fn f a b, .fn g c d => Nat.beq f g && V.sames a c && V.sames b d
  | .nili, .nili => true
  | .agg t a, .agg u b => Nat.beq t u && V.sames a b
  | .tup a, .tup b => V.sames a b
  | _, _ => false
def V.sames : List V → List V → Bool
  | [], [] => true
  | a :: r, b :: q => V.same a b && V.sames r q
  | _, _ => false
end

section
variable (P : Program) (env : Env)

def evCall (c : Call) (fr : Fr) (h : H) (k : V → H → Ans) : Ans :=
  match c.callee with
  | .value f => bnd2 (callV env (evO fr f) (c.args.toList.map (evO fr)) h) k
  | .invoke _ _ => none
  | .builtin b => match c.argTypes[0]? with
    | none => none
    | some t0 => match b with
    | .len => (match c.args.toList.map (evO fr) with | [x] => bnd (lenV (lnK P t0) h x) fun v => k v h | _ => none)
    | .cap => (match c.args.toList.map (evO fr) with | [x] => bnd (capV (lnK P t0) x) fun v => k v h | _ => none)
    | .max => bnd (mxs (c.args.toList.map (evO fr))) fun v => k v h
    | .min => bnd (mns (c.args.toList.map (evO fr))) fun v => k v h
    | .append => (match c.argTypes[1]? with
      | some t1 => (match lnK P t1, c.args.toList.map (evO fr) with
        | .slc, [s, x] => (match elT P t0 with
          | some (e, te, b) => bif (zeroV P e).isSome then bnd2 (app (some (e, te, b)) h s x) k else none
          | none => none)
        | .str, [s, x] => (match elT P t0 with
          | some (e, te, b) => bif (zeroV P e).isSome then bnd2 (app (some (e, te, b)) h s x) k else none
          | none => none)
        | .bad, [s, x] => bif isIntT P t1 then (match elT P t0 with
          | some (e, te, b) => bnd2 (appZ (some (e, te, b)) (zeroV P e) h s x) k
          | none => none) else none
        | _, _ => none)
      | none => none)
    | .copy => (match c.args.toList.map (evO fr), elT P t0 with | [s, x], some (e, te, b) => bnd2 (cpy (some (e, te, b)) h s x) k | _, _ => none)
    | _ => none

def evOp (o : Op) (fr : Fr) (h : H) (k : V → H → Ans) : Ans :=
  match o with
  | .move x => k (evO fr x) h
  | .assign x => k (evO fr x) h
  | .pick c a b => bnd (pick (evO fr c) (evO fr a) (evO fr b)) fun v => k v h
  | .alloc e => bif Nat.beq (P.cellsOf e) 0 then none else bnd2 (al (tgo P e) (zeroV P e) h) k
  | .box e v => bif Nat.beq (P.cellsOf e) 0 then none else bnd2 (box (tgo P e) h (evO fr v)) k
  | .build t ps => bnd (build (zeroV P t) (ps.toList.map fun (i, x) => (i, evO fr x))) fun v => k v h
  | .buildSlice t n ps => (match elT P t with
    | some (e, te, b) => bif Nat.ble (n * P.cellsOf e) 16777216 then bnd2 (bslc (some (e, te, b)) (zeroV P e) n (ps.toList.map fun (i, x) => (i, evO fr x)) h) k else none
    | none => none)
  | .load t a => (match tgo P t with | some tg => bnd (ld tg h (evO fr a)) fun v => k v h | none => none)
  | .store t a v => (match tgo P t with | some tg => bnd (st tg h (evO fr a) (evO fr v)) fun h => k .undef h | none => none)
  | .nilCheck x => bnd (nilChk (evO fr x)) fun v => k v h
  | .binOp op t x y _ => (match op with
    | .eql => bnd (binE false (eqk P eqD t) (evO fr x) (evO fr y)) fun v => k v h
    | .neq => bnd (binE true (eqk P eqD t) (evO fr x) (evO fr y)) fun v => k v h
    | op => bnd (bin op (evO fr x) (evO fr y)) fun v => k v h)
  | .unOp op _ x => bnd (un op (evO fr x)) fun v => k v h
  | .convert s d x => bnd2 (conv (cvKind P s d) h (evO fr x)) k
  | .makeFunc f a b => bnd (mkFn f (a.toList.map (evO fr)) (b.toList.map (evO fr))) fun v => k v h
  | .makeMap _ none => bnd2 (mkMap h) k
  | .makeSlice t l c => (match elT P t with
    | some (e, te, b) => bnd2 (mslc (some (e, te, b)) (zeroV P e) (evO fr l) (evO fr c) h) k
    | none => none)
  | .slice t x lo hi mx => bnd (slcV (ixK P t) (evO fr x) (lo.map (evO fr)) (hi.map (evO fr)) (mx.map (evO fr))) fun v => k v h
  | .fieldAddr s x f => bnd (fieldA (fldT P s f) (evO fr x) f) fun v => k v h
  | .field s x f => bnd (fieldV (fldT P s f) (evO fr x) f) fun v => k v h
  | .indexAddr t x i => bnd (indexA (ixK P t) (evO fr x) (evO fr i)) fun v => k v h
  | .index t x i => bnd (indexV (ixK P t) (evO fr x) (evO fr i)) fun v => k v h
  | .lookup t x i ok => (match mapT P t with
    | some (e, te) => bnd (mlook e (zeroV P te) h (evO fr x) (evO fr i) ok) fun v => k v h
    | none => none)
  | .mapUpdate t m i v => (match mapT P t with
    | some (e, _) => bnd (upd e h (evO fr m) (evO fr i) (evO fr v)) fun h => k .undef h
    | none => none)
  | .extract t i => bnd (ext (evO fr t) i) fun v => k v h
  | .call c => evCall P env c fr h k
  | _ => none

def slotOf (ops : Array Oper) (j : Nat) : Option Nat := match ops[j]? with | some o => o.dst | none => none
def gval (ops : Array Oper) (j : Nat) (fr : Fr) : V := match slotOf ops j with | some d => fr d | none => .undef
def putD (o : Oper) (fr : Fr) (v : V) : Fr := match o.dst with | some d => fr.set d v | none => fr

def evOper (ops : Array Oper) (i : Nat) (fr : Fr) (h : H) (k : Fr → H → Ans) : Ans :=
  match ops[i]? with
  | none => none
  | some o =>
    match o.guard with
    | none => evOp P env o.op fr h fun v h => k (putD o fr v) h
    | some (j, w) => bnd2 (gd (gval ops j fr) w (evOp P env o.op fr h fun v h => some (v, h)) h) fun v h => k (putD o fr v) h

def evOps (ops : Array Oper) : List Nat → Fr → H → (Fr → H → Ans) → Ans
  | [], fr, h, k => k fr h
  | i :: r, fr, h, k => evOper P env ops i fr h fun fr h => evOps ops r fr h k

inductive It where
  | op (i : Nat)
  | chk (i : Nat)

def chkS (v x : V) (k : Ans) : Ans := bif V.same v x then k else none
def gchk (g : V) (w : Bool) (x k : Ans) : Ans := match g with
  | .bool b => bif b == w then x else k
  | .unk => none
  | _ => k

def evChk (ops : Array Oper) (i : Nat) (fr : Fr) (h : H) (k : Ans) : Ans :=
  match ops[i]? with
  | none => none
  | some o =>
    match o.dst with
    | none => none
    | some d =>
      match o.guard with
      | none => evOp P env o.op fr h fun v _ => chkS v (fr d) k
      | some (j, w) => gchk (gval ops j fr) w (evOp P env o.op fr h fun v _ => chkS v (fr d) k) k

def evIts (ops : Array Oper) : List It → Fr → H → (Fr → H → Ans) → Ans
  | [], fr, h, k => k fr h
  | .op i :: r, fr, h, k => evOper P env ops i fr h fun fr h => evIts ops r fr h k
  | .chk i :: r, fr, h, k => evChk P env ops i fr h (evIts ops r fr h k)

inductive An where
  | leaf
  | n1 (a : An)
  | n2 (a b : An)
  | loop (id : Nat) (live : List Nat) (a : An)
  | reg (l : List It)
  | join (id : Nat) (live : List Nat) (a : An)
  deriving Inhabited

variable (J : JT)

def kSeq (b : Fr → H → K → Ans) (k : K) : K := fun e fr h => match e with | .normal => b fr h k | .exit i => k (.exit i) fr h | .ret => k .ret fr h
def kBlock (id : Nat) (k : K) : K := fun e fr h => match e with | .normal => k .normal fr h | .exit i => bif Nat.beq i id then k .normal fr h else k (.exit i) fr h | .ret => k .ret fr h
def kLoop (id : Nat) (live : List Nat) (k : K) : K := fun e fr h => match e with | .normal => J id (live.map fr) h | .exit i => k (.exit i) fr h | .ret => k .ret fr h

def evC : An → Code → Fr → H → K → Ans
  | .join id live _, _, fr, h, _ => J id (live.map fr) h
  | .n2 a b, .seq x y, fr, h, k => evC a x fr h (kSeq (evC b y) k)
  | .n2 a b, .cond c x y, fr, h, k => cnd (evO fr c) (evC a x fr h k) (evC b y fr h k)
  | .n1 a, .block id x, fr, h, k => evC a x fr h (kBlock id k)
  | .n1 a, .scope x, fr, h, k => evC a x fr h k
  | .loop id live _, .loop _, fr, h, _ => J id (live.map fr) h
  | .leaf, .skip, fr, h, k => k .normal fr h
  | .leaf, .label _, fr, h, k => k .normal fr h
  | .leaf, .exit id, fr, h, k => k (.exit id) fr h
  | .leaf, .ret, fr, h, k => k .ret fr h
  | .leaf, .region _ ops false, fr, h, k => evOps P env ops (List.range ops.size) fr h fun fr h => k .normal fr h
  | .reg l, .region _ ops _, fr, h, k => evIts P env ops l fr h fun fr h => k .normal fr h
  | _, _, _, _, _ => none

/-- contexts, and pieces -/
inductive Cx where
  | fin
  | seq (a : An) (c : Code) (κ : Cx)
  | blk (id : Nat) (κ : Cx)
  | lp (id : Nat) (live : List Nat) (a : An) (c : Code) (κ : Cx)

def kOf (kf : K) : Cx → K
  | .fin => kf
  | .seq a c κ => kSeq (evC P env J a c) (kOf kf κ)
  | .blk id κ => kBlock id (kOf kf κ)
  | .lp id live _ _ κ => kLoop J id live (kOf kf κ)

end

structure Piece where
  id : Nat
  live : List Nat
  a : An
  c : Code
  κ : Cx

/-- all joins and loops of a code -/
def pieces : An → Code → Cx → List Piece
  | .join id live a, c, κ => ⟨id, live, a, c, κ⟩ :: pieces a c κ
  | .n2 a b, .seq x y, κ => pieces a x (.seq b y κ) ++ pieces b y κ
  | .n2 a b, .cond _ x y, κ => pieces a x κ ++ pieces b y κ
  | .n1 a, .block id x, κ => pieces a x (.blk id κ)
  | .n1 a, .scope x, κ => pieces a x κ
  | .loop id live a, .loop x, κ => ⟨id, live, a, x, .lp id live a x κ⟩ :: pieces a x (.lp id live a x κ)
  | _, _, _ => []

def findP (id : Nat) : List Piece → Option Piece
  | [] => none
  | p :: r => bif Nat.beq p.id id then some p else findP id r

def resK (P : Program) (fr : Fr) (h : H) : List ResultVar → List V → (List V → Ans) → Ans
  | [], acc, k => k acc
  | .tmp t :: r, acc, k => resK P fr h r (acc ++ [fr t]) k
  | .cell a t :: r, acc, k => (match tgo P t with | some tg => bnd (ld tg h (fr a)) fun v => resK P fr h r (acc ++ [v]) k | none => none)

def retV (h : H) : List V → Ans
  | [v] => some (v, h)
  | vs => bif known vs then some (.tup vs, h) else none

def kFin (P : Program) (rs : List ResultVar) : K := fun e fr h =>
  match e with
  | .exit _ => none
  | .normal => resK P fr h rs [] (retV h)
  | .ret => resK P fr h rs [] (retV h)

def initFr (args : List V) : Fr := fun i => match args[i]? with | some v => v | none => .undef

def bodyOf (P : Program) (g : Nat) : Code := match P.funcs[g]? with | some fn => (match fn.body with | some c => c | none => .skip) | none => .skip
def ressOf (P : Program) (g : Nat) : List ResultVar := match P.funcs[g]? with | some fn => fn.results.toList | none => []
def evF (P : Program) (env : Env) (J : JT) (g : Nat) (an : An) (args : List V) (h : H) : Ans :=
  evC P env J an (bodyOf P g) (initFr args) h (kFin P (ressOf P g))
def evP (P : Program) (env : Env) (J : JT) (g : Nat) (an : An) (id : Nat) (vs : List V) (h : H) : Ans :=
  match findP id (pieces an (bodyOf P g) .fin) with
  | some p => evC P env J p.a p.c (mkFr p.live vs) h (kOf P env J (kFin P (ressOf P g)) p.κ)
  | none => none
def evJ (P : Program) (env : Env) (g : Nat) (an : An) : Nat → JT
  | 0 => fun _ _ _ => none
  | n + 1 => evP P env (evJ P env g an n) g an
/-- a program's machine: each function's annotation and its loops' fuel; `n` calls deep -/
def envN (P : Program) (tb : Nat → Option (An × Nat)) : Nat → Env
  | 0 => fun _ _ _ => none
  | n + 1 => fun g args h => match tb g with | some (an, f) => evF P (envN P tb n) (evJ P (envN P tb n) g an f) g an args h | none => none
end Go.AM

namespace Go.AM
open Go

inductive BI where
  | row (c base : Nat) (e : TypeId) (lim : Nat)
  | mp (c : Nat)
abbrev Inj := Nat → Option BI
def Inj.le (M M' : Inj) : Prop := ∀ b x, M b = some x → M' b = some x
theorem Inj.le.refl (M : Inj) : M.le M := fun _ _ h => h
theorem Inj.le.trans {A B C : Inj} (h : A.le B) (g : B.le C) : A.le C := fun _ _ x => g _ _ (h _ _ x)

/-- a part's place, and type -/
def koff (P : Program) (t : TypeId) (i : Nat) : Option (Nat × TypeId) :=
  match desc P t with
  | some (.struct fs) => (match fs[i]? with | some f => some (f.offset, f.type) | none => none)
  | some (.array n e) => if i < n then some (i * P.cellsOf e, e) else none
  | _ => none
def offT (P : Program) : TypeId → List Nat → Option (Nat × TypeId)
  | t, [] => some (0, t)
  | t, i :: q => match koff P t i with
    | some (o, t') => (match offT P t' q with | some (o', t'') => some (o + o', t'') | none => none)
    | none => none
termination_by structural _ p => p
def nodeT (P : Program) (base : Nat) (e : TypeId) (lim : Nat) : List Nat → Option (Nat × TypeId × Nat)
  | [] => some (base, e, lim)
  | i :: q => match offT P e q with
    | some (o, t) => (match desc P t with | some (.array n e') => some (base + i * P.cellsOf e + o, e', n) | _ => none)
    | none => none

def okT (P : Program) (v : V) (t : TypeId) : Prop := ∃ tg, tgo P t = some tg ∧ tagOk tg v = true

mutual
def R (P : Program) (M : Inj) : V → List Value → Prop
  | .unk, _ => False
  | .undef, c => c = [undef]
  | .bool b, c => c = [.bool b]
  | .int k n, c => c = [.int k n]
  | .str s, c => c = [.string ⟨s.toArray⟩]
  | .nilp, c => c = [.pointer none]
  | .ptr tg b p, c => ∃ cb base e lim i q o t, M b = some (.row cb base e lim) ∧ p = i :: q ∧ offT P e q = some (o, t) ∧ tgo P t = some tg ∧ c = [.pointer (some ⟨cb, base + i * P.cellsOf e + o, none⟩)]
  | .nils, c => c = [.slice none 0 0]
  | .slz _, c => ∃ a, c = [.slice (some a) 0 0]
  | .slc tg b p s n x, c => ∃ cb base e lim bo e' lim' ad cap, M b = some (.row cb base e lim) ∧ nodeT P base e lim p = some (bo, e', lim') ∧ tgo P e' = some tg ∧ n ≤ cap ∧ s + cap ≤ lim' ∧ (cap = 0 ∨ ad = bo + s * P.cellsOf e') ∧ (x = true → cap = n) ∧ c = [.slice (some ⟨cb, ad, none⟩) n cap]
  | .nilm, c => c = [.map none]
  | .map b, c => ∃ cb, M b = some (.mp cb) ∧ c = [.map (some cb)]
  | .nilf, c => c = [.nilFunc]
  | .fn f a b, c => ∃ a' b', c = [.func (.func f) a'.toArray b'.toArray] ∧ RVs P M a a' ∧ RVs P M b b'
  | .nili, c => c = [.nilIface]
  | .agg t cs, c => tgo P t = some (some t) ∧ RL P M cs (kids P t) c
  | .tup vs, c => ∃ vs', c = [.tuple vs'.toArray] ∧ RVs P M vs vs'
def RL (P : Program) (M : Inj) : List V → List TypeId → List Value → Prop
  | [], ts, c => ts = [] ∧ c = []
  | v :: vs, ts, c => ∃ t ts' c1 c2, ts = t :: ts' ∧ c = c1 ++ c2 ∧ okT P v t ∧ R P M v c1 ∧ RL P M vs ts' c2
def RVs (P : Program) (M : Inj) : List V → List Value → Prop
  | [], c => c = []
  | v :: vs, c => ∃ v' c', c = v' :: c' ∧ (match v with | .agg _ _ => (∃ cells : Array Value, v' = .agg cells ∧ R P M v cells.toList) | _ => R P M v [v']) ∧ RVs P M vs c'
end

/-- one value of a frame -/
def VR (P : Program) (M : Inj) (v : V) (v' : Value) : Prop :=
  match v with | .agg _ _ => (∃ cells : Array Value, v' = .agg cells ∧ R P M v cells.toList) | _ => R P M v [v']

mutual
theorem R.mono {P : Program} {M M' : Inj} (h : M.le M') : ∀ (v : V) (c : List Value), R P M v c → R P M' v c
  | .unk, _ => id
  | .undef, _ | .bool _, _ | .int _ _, _ | .str _, _ | .nilp, _ | .nils, _ | .slz _, _ | .nilm, _ | .nilf, _ | .nili, _ => by simp only [R]; exact id
  | .ptr _ _ _, _ => by
    simp only [R]
    rintro ⟨cb, base, e, lim, i, q, o, t, hM, r⟩
    exact ⟨cb, base, e, lim, i, q, o, t, h _ _ hM, r⟩
  | .slc _ _ _ _ _ _, _ => by
    simp only [R]
    rintro ⟨cb, base, e, lim, bo, e', lim', ad, cap, hM, r⟩
    exact ⟨cb, base, e, lim, bo, e', lim', ad, cap, h _ _ hM, r⟩
  | .map _, _ => by
    simp only [R]
    rintro ⟨cb, hM, r⟩
    exact ⟨cb, h _ _ hM, r⟩
  | .fn _ a b, _ => by
    simp only [R]
    rintro ⟨a', b', e, ha, hb⟩
    exact ⟨a', b', e, RVs.mono h a _ ha, RVs.mono h b _ hb⟩
  | .agg _ cs, _ => by
    simp only [R]
    rintro ⟨ht, hl⟩
    exact ⟨ht, RL.mono h cs _ _ hl⟩
  | .tup vs, _ => by
    simp only [R]
    rintro ⟨vs', e, hv⟩
    exact ⟨vs', e, RVs.mono h vs _ hv⟩
theorem RL.mono {P : Program} {M M' : Inj} (h : M.le M') : ∀ (vs : List V) (ts : List TypeId) (c : List Value), RL P M vs ts c → RL P M' vs ts c
  | [], _, _ => by simp only [RL]; exact id
  | v :: vs, _, _ => by
    simp only [RL]
    rintro ⟨t, ts', c1, c2, e1, e2, ok, hv, hl⟩
    exact ⟨t, ts', c1, c2, e1, e2, ok, R.mono h v _ hv, RL.mono h vs _ _ hl⟩
theorem RVs.mono {P : Program} {M M' : Inj} (h : M.le M') : ∀ (vs : List V) (c : List Value), RVs P M vs c → RVs P M' vs c
  | [], _ => by simp only [RVs]; exact id
  | v :: vs, _ => by
    simp only [RVs]
    rintro ⟨v', c', e, hv, hl⟩
    refine ⟨v', c', e, ?_, RVs.mono h vs _ hl⟩
    have hm := R.mono (P := P) h v
    cases v <;> first
      | exact hm _ hv
      | (obtain ⟨cells, e, hr⟩ := hv; exact ⟨cells, e, hm _ hr⟩)
end

theorem VR.mono {P : Program} {M M' : Inj} (h : M.le M') {v : V} {v' : Value} (hv : VR P M v v') : VR P M' v v' := by
  have hm := R.mono (P := P) h v
  cases v <;> simp only [VR] at hv ⊢ <;> first
    | (obtain ⟨cells, e, hr⟩ := hv; exact ⟨cells, e, hm _ hr⟩)
    | exact hm _ hv

/-- what is asked of the program's table of types -/
structure Lay (P : Program) : Prop where
  kid : ∀ t i t', (kids P t)[i]? = some t' → koff P t i = some ((((kids P t).take i).map P.cellsOf).sum, t') ∧ (tgo P t').isSome
  off : ∀ t i o t', koff P t i = some (o, t') → (kids P t)[i]? = some t'
  sz : ∀ t u, tgo P t = some (some u) → P.cellsOf t = ((kids P t).map P.cellsOf).sum
  one : ∀ t, tgo P t = some none → P.cellsOf t = 1
  arr : ∀ t n e, desc P t = some (.array n e) → (tgo P e).isSome
  tag : ∀ t u, tgo P t = some (some u) → desc P u = desc P t ∧ P.cellsOf u = P.cellsOf t ∧ tgo P u = some (some u)

theorem Lay.kids_eq {P : Program} (L : Lay P) {t u : TypeId} (h : tgo P t = some (some u)) : kids P u = kids P t := by
  unfold kids; rw [(L.tag t u h).1]
theorem Lay.koff_eq {P : Program} (L : Lay P) {t u : TypeId} (h : tgo P t = some (some u)) (i : Nat) : koff P u i = koff P t i := by
  unfold koff; rw [(L.tag t u h).1]

theorem tagOk_none {v : V} (h : tagOk none v = true) : (∀ t cs, v ≠ .agg t cs) ∧ v ≠ .unk ∧ v ≠ .undef ∧ (∀ vs, v ≠ .tup vs) := by
  cases v <;> simp [tagOk] at h ⊢
theorem tagOk_some {v : V} {u : Nat} (h : tagOk (some u) v = true) : ∃ cs, v = .agg u cs := by
  cases v <;> simp [tagOk] at h ⊢
  exact h

/-- a value of one cell -/
theorem R.one {P : Program} {M : Inj} {v : V} {c : List Value} (h : R P M v c) (ht : tagOk none v = true) : ∃ v', c = [v'] ∧ (∀ cs, v' ≠ .agg cs) ∧ (∀ vs, v' ≠ .tuple vs) := by
  cases v <;> simp only [R, tagOk, Bool.false_eq_true] at h ht <;> first
    | contradiction
    | (subst h; exact ⟨_, rfl, by simp, by simp⟩)
    | (obtain ⟨_, h⟩ := h; subst h; exact ⟨_, rfl, by simp, by simp⟩)
    | (obtain ⟨_, _, _, _, _, _, _, _, _, _, _, _, h⟩ := h; subst h; exact ⟨_, rfl, by simp, by simp⟩)
    | (obtain ⟨_, _, _, _, _, _, _, _, _, _, _, _, _, _, _, _, h⟩ := h; subst h; exact ⟨_, rfl, by simp, by simp⟩)
    | (obtain ⟨_, _, h⟩ := h; subst h; exact ⟨_, rfl, by simp, by simp⟩)
    | (obtain ⟨_, _, h, _⟩ := h; subst h; exact ⟨_, rfl, by simp, by simp⟩)

mutual
theorem R.len {P : Program} (L : Lay P) {M : Inj} : ∀ (v : V) (c : List Value) (t : TypeId), R P M v c → okT P v t → c.length = P.cellsOf t
  | .agg u cs, c, t => by
    rintro h ⟨tg, htg, hok⟩
    simp only [R] at h
    obtain ⟨h1, h2⟩ := h
    cases tg with
    | none => simp [tagOk] at hok
    | some w =>
      have : u = w := by simpa [tagOk] using hok
      subst this
      rw [RL.len L cs _ _ h2, L.kids_eq htg, ← L.sz _ _ htg]
  | .unk, c, t | .undef, c, t | .bool _, c, t | .int _ _, c, t | .str _, c, t | .nilp, c, t | .ptr _ _ _, c, t | .nils, c, t | .slz _, c, t | .slc _ _ _ _ _ _, c, t | .nilm, c, t | .map _, c, t | .nilf, c, t | .fn _ _ _, c, t | .nili, c, t | .tup _, c, t => by
    rintro h ⟨tg, htg, hok⟩
    cases tg with
    | some w => simp [tagOk] at hok
    | none =>
      obtain ⟨v', rfl, _⟩ := R.one h hok
      rw [L.one _ htg]; rfl
theorem RL.len {P : Program} (L : Lay P) {M : Inj} : ∀ (vs : List V) (ts : List TypeId) (c : List Value), RL P M vs ts c → c.length = (ts.map P.cellsOf).sum
  | [], _, _ => by simp only [RL]; rintro ⟨rfl, rfl⟩; rfl
  | v :: vs, _, _ => by
    simp only [RL]
    rintro ⟨t, ts', c1, c2, rfl, rfl, ok, hv, hl⟩
    simp [R.len L v c1 t hv ok, RL.len L vs ts' c2 hl]
end

theorem RL.length {P : Program} {M : Inj} : ∀ {vs : List V} {ts : List TypeId} {c : List Value}, RL P M vs ts c → vs.length = ts.length
  | [], _, _ => by simp only [RL]; rintro ⟨rfl, rfl⟩; rfl
  | v :: vs, _, _ => by
    simp only [RL]
    rintro ⟨t, ts', c1, c2, rfl, rfl, ok, hv, hl⟩
    simp [RL.length hl]

/-- one part of several -/
theorem RL.get {P : Program} (L : Lay P) {M : Inj} : ∀ {vs : List V} {ts : List TypeId} {c : List Value}, RL P M vs ts c → ∀ {i : Nat} {v : V}, vs[i]? = some v →
    ∃ t, ts[i]? = some t ∧ okT P v t ∧ R P M v ((c.drop ((ts.take i).map P.cellsOf).sum).take (P.cellsOf t)) ∧ ((ts.take i).map P.cellsOf).sum + P.cellsOf t ≤ c.length
  | [], _, _ => by simp
  | v :: vs, _, _ => by
    simp only [RL]
    rintro ⟨t, ts', c1, c2, rfl, rfl, ok, hv, hl⟩ i u hi
    have h1 := R.len L v c1 t hv ok
    cases i with
    | zero =>
      simp at hi; subst hi
      refine ⟨t, rfl, ok, ?_, by simp [h1]⟩
      simp [← h1]; exact hv
    | succ i =>
      simp at hi
      obtain ⟨t', e, ok', hr, hle⟩ := RL.get L hl hi
      have : ((t :: ts').take (i + 1)).map P.cellsOf = P.cellsOf t :: (ts'.take i).map P.cellsOf := by simp
      refine ⟨t', by simpa using e, ok', ?_, by rw [this, List.sum_cons, List.length_append]; omega⟩
      rw [this, List.sum_cons, ← h1, List.drop_append, List.drop_of_length_le (by omega)]
      simpa using hr

/-- a list with some of it put anew -/
def put (c : List Value) (o : Nat) (x : List Value) : List Value := c.take o ++ x ++ c.drop (o + x.length)
theorem put_length {c x : List Value} {o : Nat} (h : o + x.length ≤ c.length) : (put c o x).length = c.length := by
  simp [put]; omega

theorem RL.set {P : Program} (L : Lay P) {M : Inj} : ∀ {vs : List V} {ts : List TypeId} {c : List Value}, RL P M vs ts c → ∀ {i : Nat} {v : V} {t : TypeId} {x : List Value}, i < vs.length → ts[i]? = some t → okT P v t →
    R P M v x → RL P M (vs.set i v) ts (put c ((ts.take i).map P.cellsOf).sum x)
  | [], _, _ => by intro _ i v t x h; exact absurd h (by simp)
  | w :: vs, _, _ => by
    simp only [RL]
    rintro ⟨t0, ts', c1, c2, rfl, rfl, ok, hv, hl⟩ i v t x hi ht okv hx
    have h1 := R.len L w c1 t0 hv ok
    have h2 := R.len L v x t hx okv
    cases i with
    | zero =>
      simp at ht; subst ht
      simp only [List.set_cons_zero, RL]
      refine ⟨t0, ts', x, c2, rfl, ?_, okv, hx, hl⟩
      simp [put, h2, ← h1]
    | succ i =>
      simp at ht hi
      simp only [List.set_cons_succ, RL]
      refine ⟨t0, ts', c1, _, rfl, ?_, ok, hv, RL.set L hl hi ht okv hx⟩
      have : ((t0 :: ts').take (i + 1)).map P.cellsOf = P.cellsOf t0 :: (ts'.take i).map P.cellsOf := by simp
      rw [this, List.sum_cons, ← h1]
      simp only [put]
      rw [List.take_append, List.take_of_length_le (by omega), Nat.add_assoc, List.drop_append, List.drop_of_length_le (by omega)]
      simp

/-- down a path -/
theorem R.at {P : Program} (L : Lay P) {M : Inj} : ∀ (p : List Nat) {v : V} {t : TypeId} {c : List Value} {u : V}, R P M v c → okT P v t → v.at p = some u →
    ∃ o t', offT P t p = some (o, t') ∧ okT P u t' ∧ R P M u ((c.drop o).take (P.cellsOf t')) ∧ o + P.cellsOf t' ≤ c.length
  | [], v, t, c, u => by
    intro h ok e
    simp only [V.at, Option.some.injEq] at e; subst e
    refine ⟨0, t, rfl, ok, ?_, ?_⟩
    · rw [← R.len L v c t h ok]; simpa using h
    · rw [← R.len L v c t h ok]; simp
  | i :: q, v, t, c, u => by
    intro h ok e
    cases v <;> simp only [V.at] at e <;> try contradiction
    rename_i t0 cs
    obtain ⟨tg, htg, hok⟩ := ok
    cases tg with
    | none => simp [tagOk] at hok
    | some w =>
      have : t0 = w := by simpa [tagOk] using hok
      subst this
      simp only [R] at h
      obtain ⟨h1, h2⟩ := h
      cases hi : cs[i]? with
      | none => rw [hi] at e; simp at e
      | some x =>
        rw [hi] at e; simp only at e
        obtain ⟨t', e1, ok', hr, hle⟩ := RL.get L h2 hi
        obtain ⟨k1, _⟩ := L.kid _ _ _ e1
        obtain ⟨o, t'', g1, g2, g3, g4⟩ := R.at L q hr ok' e
        rw [L.koff_eq htg] at k1
        refine ⟨(((kids P t0).take i).map P.cellsOf).sum + o, t'', by simp only [offT, k1, g1], g2, ?_, ?_⟩
        · rw [List.length_take, List.length_drop] at g4
          rw [List.drop_take, List.take_take, List.drop_drop] at g3
          rw [Nat.min_eq_left (by omega)] at g3
          exact g3
        · rw [List.length_take, List.length_drop] at g4; omega

theorem put_put {c x : List Value} {a b n : Nat} (h : a + n ≤ c.length) (hb : b + x.length ≤ n) : put c a (put ((c.drop a).take n) b x) = put c (a + b) x := by
  apply List.ext_getElem?
  intro i
  have hl : (put ((c.drop a).take n) b x).length = n := by rw [put_length (by simp; omega)]; simp; omega
  simp only [put] at *
  simp only [List.append_assoc, List.getElem?_append, List.length_take, List.length_drop, List.getElem?_take, List.getElem?_drop, List.length_append]
  repeat' split
  all_goals first | rfl | omega | (congr 1; omega) | skip

theorem R.put {P : Program} (L : Lay P) {M : Inj} : ∀ (p : List Nat) {v : V} {t : TypeId} {c : List Value} {u w : V} {o : Nat} {t' : TypeId} {x : List Value}, R P M v c → okT P v t → v.put p u = some w →
    offT P t p = some (o, t') → okT P u t' → R P M u x → R P M w (AM.put c o x) ∧ okT P w t ∧ o + x.length ≤ c.length
  | [], v, t, c, u, w, o, t', x => by
    intro h ok e ho oku hx
    simp only [V.put, Option.some.injEq] at e; subst e
    simp only [offT, Option.some.injEq, Prod.mk.injEq] at ho
    obtain ⟨rfl, rfl⟩ := ho
    have h1 := R.len L v c t h ok
    have h2 := R.len L u x t hx oku
    refine ⟨?_, oku, by omega⟩
    simp [AM.put, h2, ← h1]; exact hx
  | i :: q, v, t, c, u, w, o, t', x => by
    intro h ok e ho oku hx
    cases v <;> simp only [V.put] at e <;> try contradiction
    rename_i t0 cs
    obtain ⟨tg, htg, hok⟩ := ok
    cases tg with
    | none => simp [tagOk] at hok
    | some w0 =>
      have : t0 = w0 := by simpa [tagOk] using hok
      subst this
      simp only [R] at h
      obtain ⟨h1, h2⟩ := h
      cases hi : cs[i]? with
      | none => rw [hi] at e; simp at e
      | some y =>
        rw [hi] at e; simp only at e
        cases hp : y.put q u with
        | none => rw [hp] at e; simp at e
        | some y' =>
          rw [hp] at e; simp only [Option.some.injEq] at e; subst e
          obtain ⟨ti, e1, ok', hr, hle⟩ := RL.get L h2 hi
          obtain ⟨k1, _⟩ := L.kid _ _ _ e1
          rw [L.koff_eq htg] at k1
          simp only [offT, k1] at ho
          cases hq : offT P ti q with
          | none => rw [hq] at ho; simp at ho
          | some ot =>
            obtain ⟨o', t''⟩ := ot
            rw [hq] at ho; simp only [Option.some.injEq, Prod.mk.injEq] at ho
            obtain ⟨rfl, rfl⟩ := ho
            obtain ⟨g1, g2, g3⟩ := R.put L q hr ok' hp hq oku hx
            have hilt : i < cs.length := by
              rcases Nat.lt_or_ge i cs.length with h | h
              · exact h
              · rw [List.getElem?_eq_none h] at hi; simp at hi
            have g4 := RL.set L h2 hilt e1 g2 g1
            rw [List.length_take, List.length_drop] at g3
            rw [put_put hle (by omega)] at g4
            refine ⟨?_, ⟨some t0, htg, by simp [tagOk]⟩, by omega⟩
            simp only [R]
            exact ⟨h1, g4⟩
end Go.AM

namespace Go.AM
open Go

/-! the trie -/
theorem Tr.get_nil (n : Nat) : Tr.get .nil n = none := rfl
theorem beq_eq (x y : Nat) : Nat.beq x y = decide (x = y) := by
  cases h : Nat.beq x y
  · have := Nat.ne_of_beq_eq_false h; simp [this]
  · have := Nat.eq_of_beq_eq_true h; simp [this]
theorem blt_eq (a b : Nat) : Nat.blt a b = decide (a < b) := by
  cases h : Nat.blt a b
  · have : ¬ a < b := fun h' => by have := Nat.blt_eq ▸ h'; rw [h] at this; cases this
    simp [this]
  · have : a < b := by rw [← Nat.blt_eq]; exact h
    simp [this]
theorem ble_eq (a b : Nat) : Nat.ble a b = decide (a ≤ b) := by
  cases h : Nat.ble a b
  · have : ¬ a ≤ b := fun h' => by have := Nat.ble_eq ▸ h'; rw [h] at this; cases this
    simp [this]
  · have : a ≤ b := by rw [← Nat.ble_eq]; exact h
    simp [this]

theorem Tr.get_node (l : Tr) (v : Option Blk) (r : Tr) (n : Nat) : Tr.get (.node l v r) n = if n = 0 then v else if n % 2 = 1 then l.get (n / 2) else r.get (n / 2 - 1) := by
  simp only [Tr.get, beq_eq, Bool.cond_decide]
theorem Tr.setF_eq (f : Nat) (t : Tr) (n : Nat) (a : Option Blk) : Tr.setF (f + 1) t n a =
    match t with
    | .nil => if n = 0 then .node .nil a .nil else if n % 2 = 1 then .node (setF f .nil (n / 2) a) none .nil else .node .nil none (setF f .nil (n / 2 - 1) a)
    | .node l v r => if n = 0 then .node l a r else if n % 2 = 1 then .node (setF f l (n / 2) a) v r else .node l v (setF f r (n / 2 - 1) a) := by
  cases t <;> simp only [Tr.setF, beq_eq, Bool.cond_decide]
theorem Tr.get_setF : ∀ (f : Nat) (t : Tr) (n m : Nat) (a : Option Blk), n < f → Tr.get (Tr.setF f t n a) m = if m = n then a else t.get m
  | 0, _, _, _, _, h => absurd h (by omega)
  | f + 1, t, n, m, a, h => by
    have key : ∀ (l : Tr) (v : Option Blk) (r : Tr), Tr.get (if n = 0 then .node l a r else if n % 2 = 1 then .node (Tr.setF f l (n / 2) a) v r else .node l v (Tr.setF f r (n / 2 - 1) a)) m = if m = n then a else Tr.get (.node l v r) m := by
      intro l v r
      by_cases h0 : n = 0
      · subst h0
        simp only [if_true, Tr.get_node]
        by_cases h1 : m = 0 <;> simp [h1]
      · rw [if_neg h0]
        by_cases h1 : n % 2 = 1
        · have ih := Tr.get_setF f l (n / 2) (m / 2) a (by omega)
          rw [if_pos h1, Tr.get_node, Tr.get_node]
          by_cases h2 : m = 0
          · have : ¬ m = n := by omega
            simp [h2]; omega
          · by_cases h3 : m % 2 = 1
            · rw [if_neg h2, if_pos h3, ih, if_neg h2, if_pos h3]
              by_cases h4 : m = n
              · simp [h4]
              · have : ¬ m / 2 = n / 2 := by omega
                simp [h4, this]
            · have : ¬ m = n := by rintro rfl; exact h3 h1
              simp [h2, h3, this]
        · have ih := Tr.get_setF f r (n / 2 - 1) (m / 2 - 1) a (by omega)
          rw [if_neg h1, Tr.get_node, Tr.get_node]
          by_cases h2 : m = 0
          · have : ¬ m = n := by omega
            simp [h2]; omega
          · by_cases h3 : m % 2 = 1
            · have : ¬ m = n := by rintro rfl; exact h1 h3
              simp [h2, h3, this]
            · rw [if_neg h2, if_neg h3, ih, if_neg h2, if_neg h3]
              by_cases h4 : m = n
              · simp [h4]
              · have : ¬ m / 2 - 1 = n / 2 - 1 := by omega
                simp [h4, this]
    rw [Tr.setF_eq]
    cases t with
    | nil =>
      have := key .nil none .nil
      simp only [this, Tr.get_nil]
      by_cases h1 : m = n
      · simp [h1]
      · simp only [h1, if_false, Tr.get_node, Tr.get_nil]
        simp
    | node l v r => exact key l v r

theorem H.get_lt {h : H} {b : Nat} {x : Blk} (e : h.get b = some x) : b < h.next := by
  unfold H.get at e
  rw [blt_eq] at e
  by_cases hb : b < h.next
  · exact hb
  · simp [hb] at e
theorem H.get_set (h : H) (b b' : Nat) (x : Option Blk) (hb : b < h.next) : (h.set b x).get b' = if b' = b then x else h.get b' := by
  unfold H.get H.set
  simp only [Tr.get_setF _ _ _ _ _ (Nat.lt_succ_self b), blt_eq]
  by_cases h1 : b' = b
  · subst h1; simp [hb]
  · simp [h1]
theorem H.get_push (h : H) (b' : Nat) (x : Blk) : (h.push x).get b' = if b' = h.next then some x else h.get b' := by
  unfold H.get H.push
  simp only [Tr.get_setF _ _ _ _ _ (Nat.lt_succ_self _), blt_eq]
  by_cases h1 : b' = h.next
  · subst h1; simp
  · have : (b' < h.next + 1) ↔ (b' < h.next) := by omega
    simp [h1, this]
@[simp] theorem H.next_set (h : H) (b : Nat) (x : Option Blk) : (h.set b x).next = h.next := rfl
@[simp] theorem H.next_push (h : H) (x : Blk) : (h.push x).next = h.next + 1 := rfl

/-! the state -/
def BI.cid : BI → Nat | .row c _ _ _ => c | .mp c => c
def rw? : Blk → Prop | .row true _ => False | _ => True

def MpR (P : Program) (M : Inj) : List (V × V) → List MapEntry → Prop
  | [], es => es = []
  | (k, v) :: r, es => ∃ e es', es = e :: es' ∧ VR P M k e.key ∧ VR P M v e.val ∧ MpR P M r es'

def Frz (ro : Bool) (n lo hi : Nat) : Prop := ro = false → lo ≤ hi ∧ ∀ o, o < n → ¬ (lo ≤ o ∧ o < hi)

def HB (P : Program) (M : Inj) (w : World) (b : Nat) : Blk → Prop
  | .row ro es => ∃ c base e lim, M b = some (.row c base e lim) ∧ ∃ cells el lo hi, w.heap[c]? = some (.cells cells el (lo, hi)) ∧ es.length ≤ lim ∧ base + lim * P.cellsOf e ≤ cells.size ∧
      RL P M es (List.replicate es.length e) ((cells.toList.drop base).take (es.length * P.cellsOf e)) ∧ Frz ro cells.size lo hi ∧ 0 < P.cellsOf e ∧ (tgo P e).isSome
  | .mp es => ∃ c entries clock, M b = some (.mp c) ∧ w.heap[c]? = some (.map entries clock) ∧ MpR P M es entries.toList

structure St (P : Program) (M : Inj) (h : H) (w : World) : Prop where
  blk : ∀ b x, h.get b = some x → HB P M w b x
  exc : ∀ b b' x x' i i', h.get b = some x → h.get b' = some x' → b ≠ b' → rw? x → M b = some i → M b' = some i' → i.cid ≠ i'.cid
  dom : ∀ b i, M b = some i → b < h.next
  cid : ∀ b i, M b = some i → i.cid < w.heap.size

structure Ext (M : Inj) (h : H) (w : World) (M' : Inj) (h' : H) (w' : World) : Prop where
  le : M.le M'
  nx : h.next ≤ h'.next
  sz : w.heap.size ≤ w'.heap.size
  keep : ∀ c, c < w.heap.size → (∀ b x i, h.get b = some x → rw? x → M b = some i → i.cid ≠ c) → w'.heap[c]? = w.heap[c]?
  own : ∀ b x i, h'.get b = some x → M' b = some i → w.heap.size ≤ i.cid ∨ ∃ b0 x0 i0, h.get b0 = some x0 ∧ (rw? x → rw? x0) ∧ M b0 = some i0 ∧ i0.cid = i.cid
  fr : ∀ b i, M' b = some i → M b = none → h.next ≤ b
  tape : w'.tape = w.tape
  os : w'.os = w.os
  out : w'.output = w.output

theorem Ext.refl (M : Inj) (h : H) (w : World) : Ext M h w M h w :=
  ⟨.refl _, Nat.le_refl _, Nat.le_refl _, fun _ _ _ => rfl, fun b x i h1 h3 => .inr ⟨b, x, i, h1, id, h3, rfl⟩, fun b i h1 h2 => (by rw [h1] at h2; cases h2), rfl, rfl, rfl⟩

theorem Ext.trans {M M1 M2 : Inj} {h h1 h2 : H} {w w1 w2 : World} (a : Ext M h w M1 h1 w1) (b : Ext M1 h1 w1 M2 h2 w2) : Ext M h w M2 h2 w2 where
  le := a.le.trans b.le
  nx := Nat.le_trans a.nx b.nx
  sz := Nat.le_trans a.sz b.sz
  keep c hc hn := by
    rw [b.keep c (Nat.lt_of_lt_of_le hc a.sz) ?_, a.keep c hc hn]
    intro b0 x i g1 g2 g3 g4
    rcases a.own b0 x i g1 g3 with g | ⟨b1, x1, i1, k1, k2, k3, k4⟩
    · omega
    · exact hn b1 x1 i1 k1 (k2 g2) k3 (k4.trans g4)
  own b0 x i g1 g3 := by
    rcases b.own b0 x i g1 g3 with g | ⟨b1, x1, i1, k1, k2, k3, k4⟩
    · exact .inl (Nat.le_trans a.sz g)
    · rcases a.own b1 x1 i1 k1 k3 with g | ⟨b2, x2, i2, l1, l2, l3, l4⟩
      · exact .inl (k4 ▸ g)
      · exact .inr ⟨b2, x2, i2, l1, fun hx => l2 (k2 hx), l3, l4.trans k4⟩
  fr b0 i g1 g2 := by
    cases hm : M1 b0 with
    | none => exact Nat.le_trans a.nx (b.fr b0 i g1 hm)
    | some j => exact a.fr b0 j hm g2
  tape := b.tape.trans a.tape
  os := b.os.trans a.os
  out := b.out.trans a.out

/-- a world that differs from another one in one block -/
structure Ch (w w' : World) (c : Nat) (o : Obj) : Prop where
  at_ : w'.heap[c]? = some o
  other : ∀ c', c' ≠ c → w'.heap[c']? = w.heap[c']?
  sz : w.heap.size ≤ w'.heap.size
  tape : w'.tape = w.tape
  os : w'.os = w.os
  out : w'.output = w.output

theorem Ch.lt {w w' : World} {c : Nat} {o : Obj} (h : Ch w w' c o) : c < w'.heap.size := by
  rcases Nat.lt_or_ge c w'.heap.size with h1 | h1
  · exact h1
  · have := h.at_; rw [Array.getElem?_eq_none h1] at this; cases this

theorem Ch.new (w : World) (o : Obj) : Ch w { w with heap := w.heap.push o } w.heap.size o where
  at_ := by simp
  other c' h := by simp [Array.getElem?_push, h]
  sz := by simp
  tape := rfl
  os := rfl
  out := rfl

theorem HB.other {P : Program} {M M' : Inj} {w w' : World} {b : Nat} {x : Blk} (hm : M.le M') (h : HB P M w b x) (hw : ∀ i, M b = some i → w'.heap[i.cid]? = w.heap[i.cid]?) : HB P M' w' b x := by
  cases x with
  | row ro es =>
    obtain ⟨c, base, e, lim, h1, cells, el, lo, hi, h2, h3, h4, h5, h6, h7⟩ := h
    exact ⟨c, base, e, lim, hm _ _ h1, cells, el, lo, hi, (hw _ h1).trans h2, h3, h4, RL.mono hm _ _ _ h5, h6, h7⟩
  | mp es =>
    obtain ⟨c, entries, clock, h1, h2, h3⟩ := h
    refine ⟨c, entries, clock, hm _ _ h1, (hw _ h1).trans h2, ?_⟩
    generalize entries.toList = l at h3
    clear h2 h1
    induction es generalizing l with
    | nil => exact h3
    | cons kv r ih =>
      obtain ⟨k, v⟩ := kv
      obtain ⟨e, es', g1, g2, g3, g4⟩ := h3
      exact ⟨e, es', g1, g2.mono hm, g3.mono hm, ih _ g4⟩

/-- what a block was is put anew -/
theorem St.set {P : Program} {M : Inj} {h : H} {w w' : World} (S : St P M h w) {b : Nat} {x x' : Blk} {i : BI} {o : Obj} (hx : h.get b = some x) (hr : rw? x) (hi : M b = some i)
    (hc : Ch w w' i.cid o) (hb : HB P M w' b x') : St P M (h.set b (some x')) w' ∧ Ext M h w M (h.set b (some x')) w' := by
  have hlt := H.get_lt hx
  refine ⟨⟨?_, ?_, ?_, ?_⟩, ⟨.refl _, Nat.le_refl _, hc.sz, ?_, ?_, ?_, hc.tape, hc.os, hc.out⟩⟩
  · intro b0 x0 g
    rw [H.get_set _ _ _ _ hlt] at g
    by_cases e : b0 = b
    · subst e; simp at g; subst g; exact hb
    · simp [e] at g
      refine (S.blk _ _ g).other (.refl _) fun j hj => hc.other _ ?_
      exact fun e' => S.exc b b0 x x0 i j hx g (Ne.symm e) hr hi hj e'.symm
  · intro b1 b2 x1 x2 i1 i2 g1 g2 hne hr1 hm1 hm2
    rw [H.get_set _ _ _ _ hlt] at g1 g2
    by_cases e1 : b1 = b
    · subst e1; simp at g1; subst g1
      have e2 : b2 ≠ b1 := Ne.symm hne
      simp [e2] at g2
      exact S.exc b1 b2 x x2 i1 i2 hx g2 hne hr hm1 hm2
    · simp [e1] at g1
      by_cases e2 : b2 = b
      · subst e2; simp at g2; subst g2
        exact S.exc b1 b2 x1 x i1 i2 g1 hx hne hr1 hm1 hm2
      · simp [e2] at g2
        exact S.exc b1 b2 x1 x2 i1 i2 g1 g2 hne hr1 hm1 hm2
  · intro b0 j hj; exact S.dom _ _ hj
  · intro b0 j hj; exact Nat.lt_of_lt_of_le (S.cid _ _ hj) hc.sz
  · intro c _ hn
    exact hc.other _ fun e => hn b x i hx hr hi e.symm
  · intro b0 x0 j g hj
    rw [H.get_set _ _ _ _ hlt] at g
    by_cases e : b0 = b
    · subst e; exact .inr ⟨b0, x, j, hx, fun _ => hr, hj, rfl⟩
    · simp [e] at g; exact .inr ⟨b0, x0, j, g, id, hj, rfl⟩
  · intro b0 j g1 g2; rw [g1] at g2; cases g2

def Inj.add (M : Inj) (b : Nat) (i : BI) : Inj := fun b' => if b' = b then some i else M b'
theorem Inj.le_add {M : Inj} {b : Nat} {i : BI} (h : M b = none) : M.le (M.add b i) := by
  intro b' x hx
  by_cases e : b' = b
  · subst e; rw [h] at hx; cases hx
  · simp [Inj.add, e, hx]
theorem Inj.add_self (M : Inj) (b : Nat) (i : BI) : M.add b i b = some i := by simp [Inj.add]
theorem St.fresh {P : Program} {M : Inj} {h : H} {w : World} (S : St P M h w) : M h.next = none := by
  cases hm : M h.next with
  | none => rfl
  | some i => have := S.dom _ _ hm; omega

/-- a new block -/
theorem St.push {P : Program} {M : Inj} {h : H} {w w' : World} (S : St P M h w) {x : Blk} {i : BI} {o : Obj} (hc : Ch w w' i.cid o) (hn : w.heap.size ≤ i.cid)
    (hb : HB P (M.add h.next i) w' h.next x) : St P (M.add h.next i) (h.push x) w' ∧ Ext M h w (M.add h.next i) (h.push x) w' := by
  have hle : M.le (M.add h.next i) := Inj.le_add S.fresh
  have hadd : ∀ b j, b ≠ h.next → M.add h.next i b = some j → M b = some j := fun b j e hj => by simpa [Inj.add, e] using hj
  refine ⟨⟨?_, ?_, ?_, ?_⟩, ⟨hle, by simp, hc.sz, ?_, ?_, ?_, hc.tape, hc.os, hc.out⟩⟩
  · intro b0 x0 g
    rw [H.get_push] at g
    by_cases e : b0 = h.next
    · subst e; simp at g; subst g; exact hb
    · simp [e] at g
      refine (S.blk _ _ g).other hle fun j hj => hc.other _ ?_
      have := S.cid _ _ hj; omega
  · intro b1 b2 x1 x2 i1 i2 g1 g2 hne hr1 hm1 hm2
    rw [H.get_push] at g1 g2
    by_cases e1 : b1 = h.next
    · subst e1
      have e2 : b2 ≠ h.next := Ne.symm hne
      have k1 : i1 = i := by rw [Inj.add_self] at hm1; injection hm1 with hm1; exact hm1.symm
      have := S.cid _ _ (hadd _ _ e2 hm2)
      subst k1; omega
    · by_cases e2 : b2 = h.next
      · subst e2
        have k1 : i2 = i := by rw [Inj.add_self] at hm2; injection hm2 with hm2; exact hm2.symm
        have := S.cid _ _ (hadd _ _ e1 hm1)
        subst k1; omega
      · simp [e1] at g1; simp [e2] at g2
        exact S.exc b1 b2 x1 x2 i1 i2 g1 g2 hne hr1 (hadd _ _ e1 hm1) (hadd _ _ e2 hm2)
  · intro b0 j hj
    by_cases e : b0 = h.next
    · subst e; simp
    · have := S.dom _ _ (hadd _ _ e hj); simp; omega
  · intro b0 j hj
    by_cases e : b0 = h.next
    · subst e; rw [Inj.add_self] at hj; injection hj with hj; subst hj; exact hc.lt
    · exact Nat.lt_of_lt_of_le (S.cid _ _ (hadd _ _ e hj)) hc.sz
  · intro c h1 _
    exact hc.other _ (by omega)
  · intro b0 x0 j g hj
    rw [H.get_push] at g
    by_cases e : b0 = h.next
    · subst e; rw [Inj.add_self] at hj; injection hj with hj; subst hj; exact .inl hn
    · simp [e] at g; exact .inr ⟨b0, x0, j, g, id, hadd _ _ e hj, rfl⟩
  · intro b0 j g1 g2
    by_cases e : b0 = h.next
    · subst e; exact Nat.le_refl _
    · rw [hadd _ _ e g1] at g2; cases g2

/-- a block that is taken over by a new one -/
theorem St.take {P : Program} {M : Inj} {h : H} {w w' : World} (S : St P M h w) {b : Nat} {x x' : Blk} {i i' : BI} {o : Obj} (hx : h.get b = some x) (hr : rw? x) (hi : M b = some i) (hii : i'.cid = i.cid)
    (hc : Ch w w' i.cid o) (hb : HB P (M.add h.next i') w' h.next x') :
    St P (M.add h.next i') ((h.set b none).push x') w' ∧ Ext M h w (M.add h.next i') ((h.set b none).push x') w' := by
  have hlt := H.get_lt hx
  have hle : M.le (M.add h.next i') := Inj.le_add S.fresh
  have hadd : ∀ b j, b ≠ h.next → M.add h.next i' b = some j → M b = some j := fun b j e hj => by simpa [Inj.add, e] using hj
  have hget : ∀ b0 x0, ((h.set b none).push x').get b0 = some x0 → (b0 = h.next ∧ x0 = x') ∨ (b0 ≠ h.next ∧ b0 ≠ b ∧ h.get b0 = some x0) := by
    intro b0 x0 g
    rw [H.get_push, H.get_set _ _ _ _ hlt] at g
    by_cases e : b0 = h.next
    · subst e; simp at g; exact .inl ⟨rfl, g.symm⟩
    · simp [e] at g; exact .inr ⟨e, g.1, g.2⟩
  refine ⟨⟨?_, ?_, ?_, ?_⟩, ⟨hle, by simp, hc.sz, ?_, ?_, ?_, hc.tape, hc.os, hc.out⟩⟩
  · intro b0 x0 g
    rcases hget _ _ g with ⟨rfl, rfl⟩ | ⟨e, e2, g⟩
    · exact hb
    · refine (S.blk _ _ g).other hle fun j hj => hc.other _ ?_
      exact fun e' => S.exc b b0 x x0 i j hx g (Ne.symm e2) hr hi hj e'.symm
  · intro b1 b2 x1 x2 i1 i2 g1 g2 hne hr1 hm1 hm2
    rcases hget _ _ g1 with ⟨rfl, rfl⟩ | ⟨e1, f1, k1⟩
    · rcases hget _ _ g2 with ⟨rfl, rfl⟩ | ⟨e2, f2, k2⟩
      · exact absurd rfl hne
      · rw [Inj.add_self] at hm1; injection hm1 with hm1; subst hm1
        rw [hii]
        exact S.exc b b2 x x2 i i2 hx k2 (Ne.symm f2) hr hi (hadd _ _ e2 hm2)
    · rcases hget _ _ g2 with ⟨rfl, rfl⟩ | ⟨e2, f2, k2⟩
      · rw [Inj.add_self] at hm2; injection hm2 with hm2; subst hm2
        rw [hii]
        exact S.exc b1 b x1 x i1 i k1 hx f1 hr1 (hadd _ _ e1 hm1) hi
      · exact S.exc b1 b2 x1 x2 i1 i2 k1 k2 hne hr1 (hadd _ _ e1 hm1) (hadd _ _ e2 hm2)
  · intro b0 j hj
    by_cases e : b0 = h.next
    · subst e; simp
    · have := S.dom _ _ (hadd _ _ e hj); simp; omega
  · intro b0 j hj
    by_cases e : b0 = h.next
    · subst e; rw [Inj.add_self] at hj; injection hj with hj; subst hj; rw [hii]; exact hc.lt
    · exact Nat.lt_of_lt_of_le (S.cid _ _ (hadd _ _ e hj)) hc.sz
  · intro c _ hn
    exact hc.other _ fun e => hn b x i hx hr hi e.symm
  · intro b0 x0 j g hj
    rcases hget _ _ g with ⟨rfl, rfl⟩ | ⟨e, _, g⟩
    · rw [Inj.add_self] at hj; injection hj with hj; subst hj
      exact .inr ⟨b, x, i, hx, fun _ => hr, hi, hii.symm⟩
    · exact .inr ⟨b0, x0, j, g, id, hadd _ _ e hj, rfl⟩
  · intro b0 j g1 g2
    by_cases e : b0 = h.next
    · subst e; exact Nat.le_refl _
    · rw [hadd _ _ e g1] at g2; cases g2

/-- the same state in a world that differs in nothing of memory -/
theorem St.same {P : Program} {M : Inj} {h : H} {w w' : World} (S : St P M h w) (e : w'.heap = w.heap) : St P M h w' where
  blk b x g := (S.blk b x g).other (.refl _) fun _ _ => by rw [e]
  exc := S.exc
  dom := S.dom
  cid b i g := by rw [e]; exact S.cid b i g
theorem Ext.same (M : Inj) (h : H) {w w' : World} (e : w'.heap = w.heap) (e1 : w'.tape = w.tape) (e2 : w'.os = w.os) (e3 : w'.output = w.output) : Ext M h w M h w' where
  le := .refl _
  nx := Nat.le_refl _
  sz := by rw [e]; exact Nat.le_refl _
  keep _ _ _ := by rw [e]
  own b x i h1 h3 := .inr ⟨b, x, i, h1, id, h3, rfl⟩
  fr b i h1 h2 := by rw [h1] at h2; cases h2
  tape := e1
  os := e2
  out := e3
end Go.AM

namespace Go.AM
open Go
variable {P : Program}

/-- a frame's value: known, or not -/
def VU (P : Program) (M : Inj) (v : V) (v' : Value) : Prop := v = .unk ∨ VR P M v v'
theorem VU.mono {M M' : Inj} (h : M.le M') {v : V} {v' : Value} (hv : VU P M v v') : VU P M' v v' := hv.imp id (VR.mono h)
def Fit (P : Program) (M : Inj) (fr : Fr) (a : Act) : Prop := ∀ t, VU P M (fr t) (a.tmps.getD t undef)
theorem Fit.mono {M M' : Inj} (h : M.le M') {fr : Fr} {a : Act} (F : Fit P M fr a) : Fit P M' fr a := fun t => (F t).mono h

@[simp] theorem VR_undef {M : Inj} {v : Value} : VR P M .undef v ↔ v = undef := by simp [VR, R]
@[simp] theorem VR_bool {M : Inj} {b : Bool} {v : Value} : VR P M (.bool b) v ↔ v = .bool b := by simp [VR, R]
@[simp] theorem VR_int {M : Inj} {k : IntKind} {n : Int} {v : Value} : VR P M (.int k n) v ↔ v = .int k n := by simp [VR, R]
@[simp] theorem VR_str {M : Inj} {s : List UInt8} {v : Value} : VR P M (.str s) v ↔ v = .string ⟨s.toArray⟩ := by simp [VR, R]
@[simp] theorem VR_nilp {M : Inj} {v : Value} : VR P M .nilp v ↔ v = .pointer none := by simp [VR, R]
@[simp] theorem VR_nils {M : Inj} {v : Value} : VR P M .nils v ↔ v = .slice none 0 0 := by simp [VR, R]
@[simp] theorem VR_nilm {M : Inj} {v : Value} : VR P M .nilm v ↔ v = .map none := by simp [VR, R]
@[simp] theorem VR_nilf {M : Inj} {v : Value} : VR P M .nilf v ↔ v = .nilFunc := by simp [VR, R]
@[simp] theorem VR_nili {M : Inj} {v : Value} : VR P M .nili v ↔ v = .nilIface := by simp [VR, R]
@[simp] theorem VR_unk {M : Inj} {v : Value} : VR P M .unk v ↔ False := by simp [VR, R]

theorem VU.bool {M : Inj} {b : Bool} {v : Value} (h : VU P M (.bool b) v) : v = .bool b := by simpa [VU] using h
theorem VU.int {M : Inj} {k : IntKind} {n : Int} {v : Value} (h : VU P M (.int k n) v) : v = .int k n := by simpa [VU] using h
theorem VU.str {M : Inj} {s : List UInt8} {v : Value} (h : VU P M (.str s) v) : v = .string ⟨s.toArray⟩ := by simpa [VU] using h
theorem VU.known {M : Inj} {x : V} {v : Value} (h : VU P M x v) (hx : x ≠ .unk) : VR P M x v := h.resolve_left hx

theorem ofConst_VU (M : Inj) (v : Value) : VU P M (ofConst v) v := by
  unfold ofConst
  split <;> first | exact .inl rfl | exact .inr (by simp)

theorem evO_VU {M : Inj} {fr : Fr} {a : Act} (F : Fit P M fr a) (x : Operand) : VU P M (evO fr x) (a.eval x) := by
  cases x with
  | tmp t => exact F t
  | const v => exact ofConst_VU M v
  | global g => exact .inl rfl
  | func f => exact .inr (by simp [evO, VR, R, RVs, Act.eval])

/-- what an operation's run comes to -/
def OpS (P : Program) (s : Sem Next) (w : World) (Rr : Value → World → Prop) : Prop :=
  match s.run P w with
  | .ok (.value v) w' => Rr v w'
  | .ok .skip w' => Rr undef w'
  | .ok (.enter f args) w' => Calls P f args w' (fun e w'' => match e with | .returned v => Rr v w'' | _ => False)
  | _ => False

theorem OpS.wp {o : Oper} {a : Act} {w : World} {next : Act → World → Prop} {Q : Exit → Act → World → Prop}
    (h : OpS P (execOp a.eval o) w fun v w' => next (a.put o.dst v) w') : o.wp P a w next Q := by
  unfold OpS at h
  unfold Oper.wp
  generalize (execOp a.eval o).run P w = r at h
  cases r with
  | halt x w' => exact h.elim
  | ok n w' =>
    cases n <;> simp only [Oper.upon] at h ⊢ <;> try contradiction
    · exact h
    · exact h
    · refine Calls.mono h fun e w'' he => ?_
      cases e <;> first | exact he | exact he.elim

theorem OpS.mono {s : Sem Next} {w : World} {A B : Value → World → Prop} (h : OpS P s w A) (hab : ∀ v w', A v w' → B v w') : OpS P s w B := by
  unfold OpS at *
  generalize s.run P w = r at h
  cases r with
  | halt x w' => exact h
  | ok n w' =>
    cases n <;> simp only at h ⊢ <;> try contradiction
    · exact hab _ _ h
    · exact hab _ _ h
    · refine Calls.mono h fun e w'' he => ?_
      cases e <;> first | exact hab _ _ he | exact he.elim

theorem OpS.value {s : Sem Value} {w w' : World} {v : Value} {Rr : Value → World → Prop} (h : s.run P w = .ok v w') (hr : Rr v w') : OpS P (do pure (.value (← s))) w Rr := by
  simp only [OpS, Sem.run_bind, h, Result.andThen_ok, Sem.run_pure]; exact hr
theorem OpS.unit {s : Sem Unit} {w w' : World} {Rr : Value → World → Prop} (h : s.run P w = .ok () w') (hr : Rr undef w') : OpS P (do s; pure .skip) w Rr := by
  simp only [OpS, Sem.run_bind, h, Result.andThen_ok, Sem.run_pure]; exact hr

/-! operations on values alone -/
theorem pick_snd {M : Inj} {c a b r : V} {c' a' b' : Value} (h : pick c a b = some r) (hc : VU P M c c') (ha : VU P M a a') (hb : VU P M b b') (w : World) :
    ∃ v', (do pure (if ← asBool c' then a' else b') : Sem Value).run P w = .ok v' w ∧ VU P M r v' := by
  unfold pick at h
  split at h <;> try contradiction
  rename_i t
  have := hc.bool; subst this
  injection h with h; subst h
  cases t <;> simp [asBool, ha, hb]

theorem bitsI_snd {op : BinOp} {k : IntKind} {x y : Int} {r : V} (h : bitsI op k x y = some r) (M : Inj) (w : World) :
    ∃ v', (Op.intBits op k x y).run P w = .ok v' w ∧ VR P M r v' := by
  unfold bitsI at h
  split at h <;> try contradiction
  all_goals (injection h with h; subst h; exact ⟨_, rfl, by simp⟩)

theorem un_snd {M : Inj} {op : UnOp} {x r : V} {x' : Value} (h : un op x = some r) (hx : VU P M x x') (w : World) : ∃ v', (Op.unary op x').run P w = .ok v' w ∧ VR P M r v' := by
  unfold un at h
  split at h
  · split at h <;> try contradiction
    have := hx.int; subst this
    injection h with h; subst h
    exact ⟨_, rfl, by simp⟩
  · split at h <;> try contradiction
    have := hx.int; subst this
    exact bitsI_snd h M w
  · split at h <;> try contradiction
    have := hx.bool; subst this
    injection h with h; subst h
    exact ⟨_, rfl, by simp⟩
  · contradiction

theorem toList_mk (s : List UInt8) : (⟨s.toArray⟩ : ByteArray).toList = s := by
  have key : ∀ (n i : Nat) (r : List UInt8), s.length - i = n → ByteArray.toList.loop (⟨s.toArray⟩ : ByteArray) i r = r.reverse ++ s.drop i := by
    intro n
    induction n with
    | zero =>
      intro i r h
      rw [ByteArray.toList.loop]
      have : ¬ i < (⟨s.toArray⟩ : ByteArray).size := by show ¬ i < s.toArray.size; simp; omega
      rw [if_neg this, List.drop_of_length_le (by omega)]; simp
    | succ n ih =>
      intro i r h
      rw [ByteArray.toList.loop]
      have hi : i < s.length := by omega
      have : i < (⟨s.toArray⟩ : ByteArray).size := by show i < s.toArray.size; simpa using hi
      rw [if_pos this, ih (i + 1) _ (by omega)]
      have e : (⟨s.toArray⟩ : ByteArray).get! i = s[i] := by
        show (s.toArray)[i]! = s[i]
        simp [hi]
      rw [e, List.reverse_cons, List.append_assoc, List.drop_eq_getElem_cons hi]; rfl
  have := key s.length 0 [] (by omega)
  simpa [ByteArray.toList] using this

theorem append_mk (s t : List UInt8) : (⟨s.toArray⟩ ++ ⟨t.toArray⟩ : ByteArray) = ⟨(s ++ t).toArray⟩ := by
  apply ByteArray.ext
  simp [ByteArray.data_append]
theorem size_mk (s : List UInt8) : (⟨s.toArray⟩ : ByteArray).size = s.length := by show s.toArray.size = _; simp

theorem strOp_snd {op : BinOp} {x y : List UInt8} {r : V} (h : strOp op x y = some r) (M : Inj) (w : World) :
    ∃ v', (Op.stringOp op ⟨x.toArray⟩ ⟨y.toArray⟩).run P w = .ok v' w ∧ VR P M r v' := by
  unfold strOp at h
  split at h <;> try contradiction
  · rw [ble_eq] at h
    by_cases hl : x.length + y.length ≤ 9223372036854775807
    · simp [hl] at h; subst h
      refine ⟨.string ⟨(x ++ y).toArray⟩, ?_, by simp⟩
      have hm : ¬ ((((⟨x.toArray⟩ : ByteArray).size + (⟨y.toArray⟩ : ByteArray).size : Nat) : Int) > IntKind.i64.max) := by
        rw [size_mk, size_mk]
        have : IntKind.i64.max = 9223372036854775807 := by decide
        rw [this]; omega
      simp only [Op.stringOp]
      rw [if_neg hm, append_mk]; rfl
    · simp [hl] at h
  all_goals (injection h with h; subst h; refine ⟨_, rfl, ?_⟩; simp only [toList_mk]; simp)

theorem bin_snd {M : Inj} {op : BinOp} {t : TypeId} {x y r : V} {x' y' : Value} (h : bin op x y = some r) (hx : VU P M x x') (hy : VU P M y y') (w : World) :
    ∃ v', (binOp op t x' y').run P w = .ok v' w ∧ VR P M r v' := by
  cases op <;> simp only [bin] at h <;> try contradiction
  all_goals (split at h <;> try contradiction)
  all_goals first
    | (have e1 := hx.int; have e2 := hy.int; subst e1 e2)
    | (have e1 := hx.str; have e2 := hy.str; subst e1 e2; exact strOp_snd h M w)
  all_goals (rename_i k a j b)
  all_goals first
    | (by_cases hk : k = j
       · subst hk
         simp only [beq_self_eq_true, cond_true, Bool.true_and] at h
         first
           | (injection h with h; subst h; refine ⟨_, ?_, VR_int.2 rfl⟩; simp [binOp, Op.intArith]; done)
           | (injection h with h; subst h; refine ⟨_, ?_, VR_bool.2 rfl⟩; simp [binOp, Op.intCmp]; done)
           | (simp only [binOp, ne_eq, not_true_eq_false, if_false]; exact bitsI_snd h M w)
           | (by_cases hb : b = 0
              · subst hb; simp at h
              · have : (b != 0) = true := by simp [hb]
                rw [this] at h
                simp only [cond_true] at h
                injection h with h; subst h
                refine ⟨_, ?_, VR_int.2 rfl⟩
                simp [binOp, Op.intDiv, hb])
       · have hk' : (k == j) = false := by simpa using hk
         simp [hk'] at h)
    | (by_cases hb : b < 0
       · simp [hb] at h
       · simp only [hb, decide_false, cond_false] at h
         injection h with h; subst h
         refine ⟨_, ?_, VR_int.2 rfl⟩
         simp [binOp, Op.shift, hb])
end Go.AM

namespace Go.AM
open Go
variable {P : Program}

theorem desc_und {t : TypeId} {d : TypeDesc} (h : desc P t = some d) : P.underlying t = some d := by
  unfold desc at h
  cases hb : Nat.blt t P.types.size <;> simp [hb] at h
  exact h
theorem tgo_desc {t : TypeId} {tg : Option Nat} (h : tgo P t = some tg) : ∃ d, desc P t = some d := by
  unfold tgo at h
  cases hd : desc P t with
  | none => rw [hd] at h; simp at h
  | some d => exact ⟨d, rfl⟩
theorem tgo_info {t : TypeId} {tg : Option Nat} (h : tgo P t = some tg) : ∃ i, P.info? t = some i := by
  obtain ⟨d, hd⟩ := tgo_desc h
  exact info_of_underlying (desc_und hd)
theorem run_size {t : TypeId} {tg : Option Nat} (h : tgo P t = some tg) (w : World) : (sizeOf t).run P w = .ok (P.cellsOf t) w := by
  obtain ⟨i, hi⟩ := tgo_info h
  exact run_sizeOf w hi
theorem run_isAgg {t : TypeId} {tg : Option Nat} (h : tgo P t = some tg) (w : World) : (isAgg t).run P w = .ok tg.isSome w := by
  obtain ⟨d, hd⟩ := tgo_desc h
  simp only [isAgg, Sem.run_bind, run_underlying (desc_und hd), Result.andThen_ok]
  unfold tgo at h
  rw [hd] at h
  cases d <;> simp at h <;> subst h <;> rfl

/-- a part of an aggregate -/
theorem part_snd {M : Inj} (L : Lay P) {u : Nat} {cs : List V} {cells : Array Value} {i : Nat} {v : V} {o : Nat} {t' : TypeId} (hr : R P M (.agg u cs) cells.toList) (hi : cs[i]? = some v) (hk : koff P u i = some (o, t')) (w : World) :
    ∃ v', (part t' cells o).run P w = .ok v' w ∧ VR P M v v' ∧ okT P v t' := by
  simp only [R] at hr
  obtain ⟨h1, h2⟩ := hr
  obtain ⟨t, e1, ok, hv, hle⟩ := RL.get L h2 hi
  obtain ⟨k1, _⟩ := L.kid _ _ _ e1
  rw [hk] at k1
  simp only [Option.some.injEq, Prod.mk.injEq] at k1
  obtain ⟨rfl, rfl⟩ := k1
  obtain ⟨tg, htg, hok⟩ := ok
  cases tg with
  | some u' =>
    obtain ⟨cs', rfl⟩ := tagOk_some hok
    refine ⟨.agg (cells.extract (((kids P u).take i).map P.cellsOf).sum ((((kids P u).take i).map P.cellsOf).sum + P.cellsOf t')), ?_, ?_, ⟨_, htg, hok⟩⟩
    · simp only [part, Sem.run_bind, run_isAgg htg, Result.andThen_ok, Option.isSome_some, if_true, Sem.run_ite, run_size htg, Sem.run_pure]
    · refine ⟨_, rfl, ?_⟩
      rw [Array.toList_extract, List.extract_eq_take_drop, Nat.add_sub_cancel_left]
      exact hv
  | none =>
    obtain ⟨v', e, _⟩ := R.one hv hok
    have hone := L.one _ htg
    have hget : cells[(((kids P u).take i).map P.cellsOf).sum]? = some v' := by
      rw [← Array.getElem?_toList]
      have := congrArg (fun l => l[0]?) e
      rw [hone] at this
      simp only [List.getElem?_take, List.getElem?_drop] at this
      simpa using this
    refine ⟨v', ?_, ?_, ⟨_, htg, hok⟩⟩
    · simp only [part, Sem.run_bind, run_isAgg htg, Result.andThen_ok, Option.isSome_none, Bool.false_eq_true, if_false, hget, Sem.run_pure]
    · rw [e] at hv
      cases v <;> first | exact hv | (simp [tagOk] at hok)

theorem koff_str {t : TypeId} {fs : Array Field} (h : desc P t = some (.struct fs)) {i : Nat} {f : Field} (hf : fs[i]? = some f) : koff P t i = some (f.offset, f.type) := by
  unfold koff; rw [h]; simp [hf]
theorem koff_arr {t : TypeId} {n : Nat} {e : TypeId} (h : desc P t = some (.array n e)) {i : Nat} (hi : i < n) : koff P t i = some (i * P.cellsOf e, e) := by
  unfold koff; rw [h]; simp [hi]

theorem tgo_agg {t u : TypeId} (h : tgo P t = some (some u)) : u = undId P t := by
  unfold tgo at h
  split at h <;> simp at h <;> exact h.symm

theorem eqV_bool {x y : V} {b : Bool} (h : eqV .bool x y = some b) : ∃ c d, x = .bool c ∧ y = .bool d ∧ b = (c == d) := by
  unfold eqV at h
  split at h <;> first | contradiction | (rename_i e1 e2 e3; cases e1; done) | skip
  injection h with h
  exact ⟨_, _, rfl, rfl, h.symm⟩
theorem eqV_int {x y : V} {b : Bool} (h : eqV .int x y = some b) : ∃ k c d, x = .int k c ∧ y = .int k d ∧ b = (c == d) := by
  unfold eqV at h
  split at h <;> first | contradiction | (rename_i e1 e2 e3; cases e1; done) | skip
  rename_i k c j d _
  by_cases hk : k = j
  · subst hk; simp at h; exact ⟨_, _, _, rfl, rfl, h.symm⟩
  · have : (k == j) = false := by simpa using hk
    simp [this] at h
theorem eqV_str {x y : V} {b : Bool} (h : eqV .str x y = some b) : ∃ c d, x = .str c ∧ y = .str d ∧ b = (c == d) := by
  unfold eqV at h
  split at h <;> first | contradiction | (rename_i e1 e2 e3; cases e1; done) | skip
  injection h with h
  exact ⟨_, _, rfl, rfl, h.symm⟩
theorem eqV_ptr {x y : V} {b : Bool} (h : eqV .ptr x y = some b) : (x = .nilp ∧ y = .nilp ∧ b = true) ∨ (x = .nilp ∧ (∃ t c p, y = .ptr t c p) ∧ b = false) ∨ ((∃ t c p, x = .ptr t c p) ∧ y = .nilp ∧ b = false) := by
  unfold eqV at h
  split at h <;> first | contradiction | (rename_i e1 e2 e3; cases e1; done) | skip
  all_goals injection h with h
  · exact .inl ⟨rfl, rfl, h.symm⟩
  · exact .inr (.inl ⟨rfl, ⟨_, _, _, rfl⟩, h.symm⟩)
  · exact .inr (.inr ⟨⟨_, _, _, rfl⟩, rfl, h.symm⟩)
theorem eqV_slc {x y : V} {b : Bool} (h : eqV .slc x y = some b) : (x = .nils ∧ y = .nils ∧ b = true) ∨ (x = .nils ∧ (∃ t c p s n e, y = .slc t c p s n e) ∧ b = false) ∨ ((∃ t c p s n e, x = .slc t c p s n e) ∧ y = .nils ∧ b = false) ∨ (x = .nils ∧ (∃ t, y = .slz t) ∧ b = false) ∨ ((∃ t, x = .slz t) ∧ y = .nils ∧ b = false) := by
  unfold eqV at h
  split at h <;> first | contradiction | (rename_i e1 e2 e3; cases e1; done) | skip
  all_goals injection h with h
  · exact .inl ⟨rfl, rfl, h.symm⟩
  · exact .inr (.inr (.inr (.inl ⟨rfl, ⟨_, rfl⟩, h.symm⟩)))
  · exact .inr (.inr (.inr (.inr ⟨⟨_, rfl⟩, rfl, h.symm⟩)))
  · exact .inr (.inl ⟨rfl, ⟨_, _, _, _, _, _, rfl⟩, h.symm⟩)
  · exact .inr (.inr (.inl ⟨⟨_, _, _, _, _, _, rfl⟩, rfl, h.symm⟩))
theorem eqV_map {x y : V} {b : Bool} (h : eqV .map x y = some b) : (x = .nilm ∧ y = .nilm ∧ b = true) ∨ (x = .nilm ∧ (∃ c, y = .map c) ∧ b = false) ∨ ((∃ c, x = .map c) ∧ y = .nilm ∧ b = false) := by
  unfold eqV at h
  split at h <;> first | contradiction | (rename_i e1 e2 e3; cases e1; done) | skip
  all_goals injection h with h
  · exact .inl ⟨rfl, rfl, h.symm⟩
  · exact .inr (.inl ⟨rfl, ⟨_, rfl⟩, h.symm⟩)
  · exact .inr (.inr ⟨⟨_, rfl⟩, rfl, h.symm⟩)
theorem eqV_fn {x y : V} {b : Bool} (h : eqV .fn x y = some b) : (x = .nilf ∧ y = .nilf ∧ b = true) ∨ (x = .nilf ∧ (∃ f c d, y = .fn f c d) ∧ b = false) ∨ ((∃ f c d, x = .fn f c d) ∧ y = .nilf ∧ b = false) := by
  unfold eqV at h
  split at h <;> first | contradiction | (rename_i e1 e2 e3; cases e1; done) | skip
  all_goals injection h with h
  · exact .inl ⟨rfl, rfl, h.symm⟩
  · exact .inr (.inl ⟨rfl, ⟨_, _, _, rfl⟩, h.symm⟩)
  · exact .inr (.inr ⟨⟨_, _, _, rfl⟩, rfl, h.symm⟩)
theorem eqV_agg {t : Nat} {ks : List EqK} {x y : V} {b : Bool} (h : eqV (.agg t ks) x y = some b) : ∃ xs ys, x = .agg t xs ∧ y = .agg t ys ∧ eqVs ks xs ys = some b := by
  unfold eqV at h
  split at h <;> first | contradiction | (rename_i e1 e2 e3; cases e1; done) | skip
  rename_i t' ks' u xs v ys e1
  injection e1 with e1 e2
  subst e1 e2
  by_cases huv : (Nat.beq t u && Nat.beq t v) = true
  · rw [huv] at h
    simp only [Bool.and_eq_true, beq_eq, decide_eq_true_eq] at huv
    obtain ⟨rfl, rfl⟩ := huv
    exact ⟨_, _, rfl, rfl, h⟩
  · rw [Bool.eq_false_iff.2 huv] at h; simp at h
theorem eqV_bad {x y : V} {b : Bool} (h : eqV .bad x y = some b) : False := by
  unfold eqV at h
  cases h

/-- equality, by its kind -/
theorem eqV_snd (L : Lay P) {M : Inj} : ∀ (d : Nat) (t : TypeId) (x y : V) (b : Bool) (x' y' : Value) (D : Nat), d ≤ D → eqV (eqk P d t) x y = some b → VR P M x x' → VR P M y y' → ∀ w, (Op.equalIn D t x' y').run P w = .ok b w
  | 0, t, x, y, b, x', y', D, _ => by
    intro h; exact (eqV_bad h).elim
  | d + 1, t, x, y, b, x', y', D, hD => by
    intro h hx hy w
    obtain ⟨D, rfl⟩ : ∃ k, D = k + 1 := ⟨D - 1, by omega⟩
    unfold eqk at h
    cases hd : desc P t with
    | none => rw [hd] at h; exact (eqV_bad h).elim
    | some ds =>
      have hu := desc_und hd
      rw [hd] at h
      cases ds <;> simp only at h
      case bool =>
        obtain ⟨c, e, rfl, rfl, rfl⟩ := eqV_bool h
        rw [VR_bool] at hx hy; subst hx hy
        exact run_equalIn_bool w D t _ _ hu
      case int k0 =>
        obtain ⟨k, c, e, rfl, rfl, rfl⟩ := eqV_int h
        rw [VR_int] at hx hy; subst hx hy
        exact run_equalIn_int w D t _ _ _ _ hu
      case string =>
        obtain ⟨c, e, rfl, rfl, rfl⟩ := eqV_str h
        rw [VR_str] at hx hy; subst hx hy
        rw [run_equalIn_string w D t _ _ hu, toList_mk, toList_mk]
      case pointer e0 =>
        rcases eqV_ptr h with ⟨rfl, rfl, rfl⟩ | ⟨rfl, ⟨_, _, _, rfl⟩, rfl⟩ | ⟨⟨_, _, _, rfl⟩, rfl, rfl⟩
        · rw [VR_nilp] at hx hy; subst hx hy
          simp [Op.equalIn, run_underlying hu]
        · rw [VR_nilp] at hx; subst hx
          simp only [VR, R] at hy
          obtain ⟨_, _, _, _, _, _, _, _, _, _, _, _, e⟩ := hy
          injection e with e; subst e
          simp [Op.equalIn, run_underlying hu]
        · rw [VR_nilp] at hy; subst hy
          simp only [VR, R] at hx
          obtain ⟨_, _, _, _, _, _, _, _, _, _, _, _, e⟩ := hx
          injection e with e; subst e
          simp [Op.equalIn, run_underlying hu]
      case slice e0 =>
        rcases eqV_slc h with ⟨rfl, rfl, rfl⟩ | ⟨rfl, ⟨_, _, _, _, _, _, rfl⟩, rfl⟩ | ⟨⟨_, _, _, _, _, _, rfl⟩, rfl, rfl⟩ | ⟨rfl, ⟨_, rfl⟩, rfl⟩ | ⟨⟨_, rfl⟩, rfl, rfl⟩
        · rw [VR_nils] at hx hy; subst hx hy
          simp [Op.equalIn, run_underlying hu]
        · rw [VR_nils] at hx; subst hx
          simp only [VR, R] at hy
          obtain ⟨_, _, _, _, _, _, _, _, _, _, _, _, _, _, _, _, e⟩ := hy
          injection e with e; subst e
          simp [Op.equalIn, run_underlying hu]
        · rw [VR_nils] at hy; subst hy
          simp only [VR, R] at hx
          obtain ⟨_, _, _, _, _, _, _, _, _, _, _, _, _, _, _, _, e⟩ := hx
          injection e with e; subst e
          simp [Op.equalIn, run_underlying hu]
        · rw [VR_nils] at hx; subst hx
          simp only [VR, R] at hy
          obtain ⟨_, e⟩ := hy
          injection e with e; subst e
          simp [Op.equalIn, run_underlying hu]
        · rw [VR_nils] at hy; subst hy
          simp only [VR, R] at hx
          obtain ⟨_, e⟩ := hx
          injection e with e; subst e
          simp [Op.equalIn, run_underlying hu]
      case map k0 e0 =>
        rcases eqV_map h with ⟨rfl, rfl, rfl⟩ | ⟨rfl, ⟨_, rfl⟩, rfl⟩ | ⟨⟨_, rfl⟩, rfl, rfl⟩
        · rw [VR_nilm] at hx hy; subst hx hy
          simp [Op.equalIn, run_underlying hu]
        · rw [VR_nilm] at hx; subst hx
          simp only [VR, R] at hy
          obtain ⟨_, _, e⟩ := hy
          injection e with e; subst e
          simp [Op.equalIn, run_underlying hu]
        · rw [VR_nilm] at hy; subst hy
          simp only [VR, R] at hx
          obtain ⟨_, _, e⟩ := hx
          injection e with e; subst e
          simp [Op.equalIn, run_underlying hu]
      case func ps0 rs0 v0 =>
        rcases eqV_fn h with ⟨rfl, rfl, rfl⟩ | ⟨rfl, ⟨_, _, _, rfl⟩, rfl⟩ | ⟨⟨_, _, _, rfl⟩, rfl, rfl⟩
        · rw [VR_nilf] at hx hy; subst hx hy
          simp [Op.equalIn, run_underlying hu]
        · rw [VR_nilf] at hx; subst hx
          simp only [VR, R] at hy
          obtain ⟨_, _, e, _⟩ := hy
          injection e with e; subst e
          simp [Op.equalIn, run_underlying hu]
        · rw [VR_nilf] at hy; subst hy
          simp only [VR, R] at hx
          obtain ⟨_, _, e, _⟩ := hx
          injection e with e; subst e
          simp [Op.equalIn, run_underlying hu]
      case struct fs =>
        by_cases hg : (fs.toList.any (fun f => f.name == "_") || P.stoodInHeld t || P.eqGuardType P.depth t) = true
        · rw [hg] at h; exact (eqV_bad h).elim
        · have hg' := Bool.eq_false_iff.2 hg
          rw [hg'] at h
          simp only [cond_false] at h
          simp only [Bool.or_eq_false_iff] at hg'
          obtain ⟨⟨hn, hp⟩, _⟩ := hg'
          obtain ⟨xs, ys, rfl, rfl, hq0⟩ := eqV_agg h
          · obtain ⟨cx, rfl, hxr⟩ := hx
            obtain ⟨cy, rfl, hyr⟩ := hy
            have hfo : P.fieldsOf t = fs := by simp [Program.fieldsOf, hu]
            rw [run_equalIn_struct w D t cx cy (by rw [hfo]; exact hu) hp, hfo]
            have hK : ∀ i f, fs[i]? = some f → koff P (undId P t) i = some (f.offset, f.type) := by
              intro i f hf
              have ht : tgo P t = some (some (undId P t)) := by unfold tgo; rw [hd]
              rw [L.koff_eq ht]; exact koff_str hd hf
            have hlenx : xs.length = fs.size := by
              have hx2 := hxr; simp only [R] at hx2
              have ht : tgo P t = some (some (undId P t)) := by unfold tgo; rw [hd]
              rw [RL.length hx2.2, L.kids_eq ht]; simp [kids, hd]
            have hleny : ys.length = fs.size := by
              have hx2 := hyr; simp only [R] at hx2
              have ht : tgo P t = some (some (undId P t)) := by unfold tgo; rw [hd]
              rw [RL.length hx2.2, L.kids_eq ht]; simp [kids, hd]
            -- the fields from the k-th on
            have key : ∀ (l : List Field) (k : Nat), (∀ j, l[j]? = fs[k + j]?) → eqVs (l.map fun f => eqk P d f.type) (xs.drop k) (ys.drop k) = some b → (Op.eqFields D cx cy l).run P w = .ok b w := by
              intro l
              induction l with
              | nil =>
                intro k hl hq
                cases hxk : xs.drop k <;> cases hyk : ys.drop k <;> rw [hxk, hyk] at hq <;> simp [eqVs] at hq
                subst hq; simp [Op.eqFields]
              | cons f l ih =>
                intro k hl hq
                have hf : fs[k]? = some f := by simpa using (hl 0).symm
                have hks : k < fs.size := by
                  rcases Nat.lt_or_ge k fs.size with h | h
                  · exact h
                  · rw [Array.getElem?_eq_none h] at hf; cases hf
                have hxk : xs[k]? = some xs[k] := List.getElem?_eq_getElem (by omega)
                have hyk : ys[k]? = some ys[k] := List.getElem?_eq_getElem (by omega)
                rw [List.drop_eq_getElem_cons (by omega : k < xs.length), List.drop_eq_getElem_cons (by omega : k < ys.length)] at hq
                simp only [List.map_cons, eqVs] at hq
                have hname : f.name ≠ "_" := by
                  intro hc
                  have : fs.toList.any (fun f => f.name == "_") = true := by
                    rw [List.any_eq_true]
                    exact ⟨f, by
                      rw [List.mem_iff_getElem?]; exact ⟨k, by simpa using hf⟩, by simp [hc]⟩
                  rw [hn] at this; cases this
                obtain ⟨a', p1, v1, _⟩ := part_snd L hxr hxk (hK k f hf) w
                obtain ⟨b', p2, v2, _⟩ := part_snd L hyr hyk (hK k f hf) w
                simp only [Op.eqFields, hname, ne_eq, not_false_eq_true, if_true, Sem.run_bind, p1, p2, Result.andThen_ok]
                cases he : eqV (eqk P d f.type) xs[k] ys[k] with
                | none => rw [he] at hq; simp at hq
                | some r =>
                  have := eqV_snd L d f.type _ _ r a' b' D (by omega) he v1 v2 w
                  rw [this]
                  rw [he] at hq
                  cases r
                  · simp at hq; subst hq; simp
                  · simp only at hq
                    simp only [Result.andThen_ok, Bool.not_true, Bool.false_eq_true, if_false]
                    exact ih (k + 1) (fun j => by have := hl (j + 1); simp at this; rw [this]; congr 1; omega) hq
            exact key fs.toList 0 (fun j => by simp) (by simpa using hq0)
      case array n e =>
        by_cases hg : P.eqGuardType P.depth t = true
        · rw [hg] at h; exact (eqV_bad h).elim
        · rw [Bool.eq_false_iff.2 hg] at h
          simp only [cond_false] at h
          obtain ⟨xs, ys, rfl, rfl, hq0⟩ := eqV_agg h
          · obtain ⟨cx, rfl, hxr⟩ := hx
            obtain ⟨cy, rfl, hyr⟩ := hy
            have ht : tgo P t = some (some (undId P t)) := by unfold tgo; rw [hd]
            have hlenx : xs.length = n := by
              have hx2 := hxr; simp only [R] at hx2
              rw [RL.length hx2.2, L.kids_eq ht]; simp [kids, hd]
            have hleny : ys.length = n := by
              have hx2 := hyr; simp only [R] at hx2
              rw [RL.length hx2.2, L.kids_eq ht]; simp [kids, hd]
            by_cases hn0 : n = 0
            · subst hn0
              have hxe : xs = [] := List.length_eq_zero_iff.1 hlenx
              have hye : ys = [] := List.length_eq_zero_iff.1 hleny
              subst hxe hye
              simp [eqVs] at hq0; subst hq0
              simp only [Op.equalIn, Sem.run_bind, run_underlying hu, Result.andThen_ok]
              obtain ⟨tge, hsz⟩ := Option.isSome_iff_exists.1 (L.arr t _ e hd)
              simp [run_size hsz]
            · have hte : (tgo P e).isSome := L.arr t _ e hd
              obtain ⟨tge, hte⟩ := Option.isSome_iff_exists.1 hte
              obtain ⟨ie, hie⟩ := tgo_info hte
              rw [run_equalIn_array w D cx cy hu hie]
              have hK : ∀ i, i < n → koff P (undId P t) i = some (i * P.cellsOf e, e) := by
                intro i hi
                rw [L.koff_eq ht]; exact koff_arr hd hi
              have key : ∀ (m k : Nat), k + m = n → eqVs (List.replicate m (eqk P d e)) (xs.drop k) (ys.drop k) = some b → (Op.eqItems D e (P.cellsOf e) cx cy (List.range' k m)).run P w = .ok b w := by
                intro m
                induction m with
                | zero =>
                  intro k hk hq
                  rw [List.drop_of_length_le (by omega), List.drop_of_length_le (by omega)] at hq
                  simp [eqVs] at hq
                  subst hq; simp [Op.eqItems]
                | succ m ih =>
                  intro k hk hq
                  have hxk : xs[k]? = some xs[k] := List.getElem?_eq_getElem (by omega)
                  have hyk : ys[k]? = some ys[k] := List.getElem?_eq_getElem (by omega)
                  rw [List.drop_eq_getElem_cons (by omega : k < xs.length), List.drop_eq_getElem_cons (by omega : k < ys.length)] at hq
                  simp only [List.replicate_succ, eqVs] at hq
                  obtain ⟨a', p1, v1, _⟩ := part_snd L hxr hxk (hK k (by omega)) w
                  obtain ⟨b', p2, v2, _⟩ := part_snd L hyr hyk (hK k (by omega)) w
                  simp only [List.range'_succ, Op.eqItems, Sem.run_bind, p1, p2, Result.andThen_ok]
                  cases he : eqV (eqk P d e) xs[k] ys[k] with
                  | none => rw [he] at hq; simp at hq
                  | some r =>
                    have := eqV_snd L d e _ _ r a' b' D (by omega) he v1 v2 w
                    rw [this]
                    rw [he] at hq
                    cases r
                    · simp at hq; subst hq; simp
                    · simp only at hq
                      simp only [Result.andThen_ok, Bool.not_true, Bool.false_eq_true, if_false]
                      exact ih (k + 1) (by omega) hq
              rw [List.range_eq_range']
              exact key n 0 (by omega) (by simpa using hq0)
      all_goals exact (eqV_bad h).elim
end Go.AM

namespace Go.AM
open Go
variable {P : Program}

theorem sum_replicate (n e : Nat) (f : Nat → Nat) (i : Nat) (h : i ≤ n) : (((List.replicate n e).take i).map f).sum = i * f e := by
  rw [List.take_replicate, List.map_replicate, Nat.min_eq_left h]
  induction i with
  | zero => simp
  | succ i ih => rw [List.replicate_succ, List.sum_cons, ih (by omega), Nat.succ_mul]; omega

theorem getElem?_lt {α : Type} {l : List α} {i : Nat} {x : α} (h : l[i]? = some x) : i < l.length := by
  rcases Nat.lt_or_ge i l.length with g | g
  · exact g
  · rw [List.getElem?_eq_none g] at h; cases h

/-- what lies at a path of a block -/
theorem St.at {M : Inj} {h : H} {w : World} (L : Lay P) (S : St P M h w) {b i : Nat} {q : List Nat} {v : V} {c base lim : Nat} {e t' : TypeId} {o : Nat}
    (hv : h.at b (i :: q) = some v) (hM : M b = some (.row c base e lim)) (ho : offT P e q = some (o, t')) :
    ∃ cells el lo hi, w.heap[c]? = some (.cells cells el (lo, hi)) ∧ okT P v t' ∧ R P M v ((cells.toList.drop (base + i * P.cellsOf e + o)).take (P.cellsOf t')) ∧ base + i * P.cellsOf e + o + P.cellsOf t' ≤ cells.size := by
  unfold H.at at hv
  cases hg : h.get b with
  | none => rw [hg] at hv; simp at hv
  | some blk =>
    rw [hg] at hv
    cases blk with
    | mp es => simp at hv
    | row ro es =>
      simp only at hv
      cases hi : es[i]? with
      | none => rw [hi] at hv; simp at hv
      | some x =>
        rw [hi] at hv; simp only at hv
        obtain ⟨c0, base0, e0, lim0, g1, cells, el, lo, hi', g2, g3, g4, g5, g6, g7, g8⟩ := S.blk _ _ hg
        rw [hM] at g1; injection g1 with g1; injection g1 with g1a g1b g1c g1d
        subst g1a g1b g1c g1d
        have hil := getElem?_lt hi
        obtain ⟨t1, k1, k2, k3, k4⟩ := RL.get L g5 hi
        rw [List.getElem?_replicate, if_pos hil] at k1
        injection k1 with k1; subst k1
        rw [sum_replicate _ _ _ _ (Nat.le_of_lt hil)] at k3 k4
        obtain ⟨o', t'', r1, r2, r3, r4⟩ := R.at L q k3 k2 hv
        rw [ho] at r1; injection r1 with r1; injection r1 with r1a r1b
        subst r1a r1b
        refine ⟨cells, el, lo, hi', g2, r2, ?_, ?_⟩
        · rw [List.drop_take, List.take_take, List.drop_drop] at r3
          rw [List.drop_take, List.take_take, List.drop_drop] at r3
          rw [List.length_take, List.length_drop, List.length_take, List.length_drop] at r4
          rw [List.length_take, List.length_drop] at k4
          rw [Nat.min_eq_left (by omega)] at r3
          rw [Nat.min_eq_left (by omega)] at r3
          rw [show base + (i * P.cellsOf e + o) = base + i * P.cellsOf e + o from by omega] at r3
          exact r3
        · rw [List.length_take, List.length_drop, List.length_take, List.length_drop] at r4
          rw [List.length_take, List.length_drop] at k4
          have : cells.toList.length = cells.size := by simp
          omega

theorem tgEq_eq {a b : Option Nat} (h : tgEq a b = true) : a = b := by
  cases a <;> cases b <;> simp [tgEq] at h ⊢
  exact h
theorem tgEq_self (a : Option Nat) : tgEq a a = true := by
  cases a <;> simp [tgEq]

theorem Lay.size_eq (L : Lay P) {t t' : TypeId} {tg : Option Nat} (h : tgo P t = some tg) (h' : tgo P t' = some tg) : P.cellsOf t = P.cellsOf t' := by
  cases tg with
  | none => rw [L.one _ h, L.one _ h']
  | some u => rw [← (L.tag _ _ h).2.1, ← (L.tag _ _ h').2.1]

theorem okT.of_tag {v : V} {t : TypeId} {tg : Option Nat} (h : tgo P t = some tg) (hv : okT P v t) : tagOk tg v = true := by
  obtain ⟨tg', h1, h2⟩ := hv
  rw [h] at h1; injection h1 with h1; subst h1; exact h2

theorem addr_add (c o n : Nat) : (⟨c, o, none⟩ : Addr).add n = ⟨c, o + n, none⟩ := by
  unfold Addr.add; split
  · subst_vars; rfl
  · rfl

theorem cell_at {w : World} {c o : Nat} {cells : Array Value} {el : TypeId} {fz : Nat × Nat} (h : w.heap[c]? = some (.cells cells el fz)) : w.cell? ⟨c, o, none⟩ = cells[o]? := by
  simp [World.cell?, h]

/-- a value out of its cells -/
theorem VR.of_cells {M : Inj} {v : V} {tg : Option Nat} (ht : tagOk tg v = true) {cs : Array Value} (h : R P M v cs.toList) :
    VR P M v (match tg with | some _ => .agg cs | none => cs.toList.headD undef) := by
  cases tg with
  | some u => obtain ⟨cs', rfl⟩ := tagOk_some ht; exact ⟨cs, rfl, h⟩
  | none =>
    obtain ⟨v', e, _⟩ := R.one h ht
    rw [e] at h ⊢
    cases v <;> first | exact h | (simp [tagOk] at ht)

theorem load_run {w : World} (L : Lay P) {t : TypeId} {tg : Option Nat} (ht : tgo P t = some tg) {c o n : Nat} {cells : Array Value} {el : TypeId} {fz : Nat × Nat}
    (hc : w.heap[c]? = some (.cells cells el fz)) (hn : n = P.cellsOf t) (hle : o + n ≤ cells.size) :
    (Instr.loadAt t (.pointer (some ⟨c, o, none⟩))).run P w = .ok (match tg with | some _ => .agg ((cells.toList.drop o).take n).toArray | none => ((cells.toList.drop o).take n).headD undef) w := by
  simp only [Instr.loadAt, Instr.sureAddr, loadVar, Sem.run_bind, Sem.run_pure, Result.andThen_ok, run_isAgg ht, Sem.run_ite]
  cases tg with
  | some u =>
    simp only [Option.isSome_some, if_true, run_size ht, Result.andThen_ok]
    have hlen : ((cells.toList.drop o).take n).length = P.cellsOf t := by
      rw [List.length_take, List.length_drop]; simp; omega
    have := run_loadCells_list (P := P) w ⟨c, o, none⟩ ((cells.toList.drop o).take n) (by
      intro j v hj
      rw [addr_add, cell_at hc]
      rw [List.getElem?_take, List.getElem?_drop] at hj
      split at hj
      · simpa using hj
      · cases hj)
    rw [hlen] at this
    rw [this]; rfl
  | none =>
    have h1 := L.one _ ht
    have ho : o < cells.size := by omega
    simp only [Option.isSome_none, Bool.false_eq_true, if_false, run_load, cell_at hc]
    rw [Array.getElem?_eq_getElem ho]
    subst hn
    rw [h1, List.drop_eq_getElem_cons (by simpa using ho)]
    simp

theorem ld_snd {M : Inj} {h : H} {w : World} (L : Lay P) (S : St P M h w) {t : TypeId} {tg : Option Nat} (ht : tgo P t = some tg) {p v : V} {p' : Value} (he : ld tg h p = some v) (hp : VU P M p p') :
    ∃ v', (Instr.loadAt t p').run P w = .ok v' w ∧ VR P M v v' := by
  unfold ld at he
  split at he <;> try contradiction
  rename_i tp b q
  by_cases hq : tgEq tp tg = true
  · rw [hq] at he; simp only [cond_true] at he
    have := tgEq_eq hq; subst this
    have hp := hp.known (by simp)
    simp only [VR, R] at hp
    obtain ⟨cb, base, e, lim, i, q', o, t', hM, rfl, ho, htt, hpe⟩ := hp
    injection hpe with hpe; subst hpe
    obtain ⟨cells, el, lo, hi, k1, k2, k3, k4⟩ := S.at L he hM ho
    have hs := L.size_eq ht htt
    refine ⟨_, load_run L ht k1 hs.symm k4, ?_⟩
    have := VR.of_cells (k2.of_tag htt) (cs := ((cells.toList.drop (base + i * P.cellsOf e + o)).take (P.cellsOf t')).toArray) (by simpa using k3)
    cases tp <;> simpa using this
  · rw [Bool.eq_false_iff.2 hq] at he; simp at he

/-! storing -/
theorem Ch.trans {w w1 w2 : World} {c : Nat} {o o' : Obj} (a : Ch w w1 c o) (b : Ch w1 w2 c o') : Ch w w2 c o' where
  at_ := b.at_
  other c' h := (b.other c' h).trans (a.other c' h)
  sz := Nat.le_trans a.sz b.sz
  tape := b.tape.trans a.tape
  os := b.os.trans a.os
  out := b.out.trans a.out
theorem Ch.self {w : World} {c : Nat} {o : Obj} (h : w.heap[c]? = some o) : Ch w w c o := ⟨h, fun _ _ => rfl, Nat.le_refl _, rfl, rfl, rfl⟩

theorem setCell_Ch {w : World} {c o : Nat} {cells : Array Value} {el : TypeId} {fz : Nat × Nat} {v : Value} (h : w.heap[c]? = some (.cells cells el fz)) :
    Ch w (w.setCell ⟨c, o, none⟩ v) c (.cells (cells.setIfInBounds o v) el fz) := by
  have hlt : c < w.heap.size := by
    rcases Nat.lt_or_ge c w.heap.size with g | g
    · exact g
    · rw [Array.getElem?_eq_none g] at h; cases h
  refine ⟨?_, ?_, ?_, rfl, rfl, rfl⟩
  · simp [World.setCell, Array.getElem?_modify, h]
  · intro c' hc'
    simp [World.setCell, Array.getElem?_modify, Ne.symm hc']
  · simp [World.setCell]

theorem put_get {c x : List Value} {o j : Nat} (h : o + x.length ≤ c.length) : (put c o x)[j]? = if o ≤ j ∧ j < o + x.length then x[j - o]? else c[j]? := by
  simp only [put, List.append_assoc, List.getElem?_append, List.length_take, List.getElem?_take, List.getElem?_drop]
  rw [Nat.min_eq_left (by omega)]
  by_cases h1 : j < o
  · rw [if_pos h1, if_pos h1, if_neg (by omega)]
  · rw [if_neg h1]
    by_cases h2 : j - o < x.length
    · rw [if_pos h2, if_pos (by omega)]
    · rw [if_neg h2, if_neg (by omega)]
      congr 1; omega

theorem stores_run (c off : Nat) (el : TypeId) (fz : Nat × Nat) : ∀ (vs : List Value) (i : Nat) (cells : Array Value) (w : World), w.heap[c]? = some (.cells cells el fz) → off + i + vs.length ≤ cells.size →
    (∀ o, o < cells.size → ¬ (fz.1 ≤ o ∧ o < fz.2)) → (∀ v ∈ vs, v.oneCell' = true) →
    ∃ w', (storeCells ⟨c, off, none⟩ vs i).run P w = .ok () w' ∧ Ch w w' c (.cells (put cells.toList (off + i) vs).toArray el fz)
  | [], i, cells, w, hc, _, _, _ => ⟨w, rfl, by simpa [put] using Ch.self hc⟩
  | v :: vs, i, cells, w, hc, hle, hf, h1 => by
    simp only [List.length_cons] at hle
    have ho : off + i < cells.size := by omega
    have hst : (store ((⟨c, off, none⟩ : Addr).add i) v).run P w = .ok () (w.setCell ⟨c, off + i, none⟩ v) := by
      have hfr : w.frozen? ⟨c, off + i, none⟩ = false := by
        have := hf _ ho
        simp [World.frozen?, hc]
        omega
      rw [addr_add, run_store P w _ v _ (h1 v (by simp)), cell_at hc, Array.getElem?_eq_getElem ho]
      simp [hfr]
    have hch := setCell_Ch (o := off + i) (v := v) hc
    obtain ⟨w', r1, r2⟩ := stores_run c off el fz vs (i + 1) (cells.setIfInBounds (off + i) v) _ hch.at_ (by simp; omega) (by simpa using hf) (fun x hx => h1 x (by simp [hx]))
    refine ⟨w', ?_, ?_⟩
    · simp only [storeCells, Sem.run_bind, hst, Result.andThen_ok, r1]
    · have e : put (cells.setIfInBounds (off + i) v).toList (off + (i + 1)) vs = put cells.toList (off + i) (v :: vs) := by
        rw [Array.toList_setIfInBounds]
        apply List.ext_getElem?
        intro j
        rw [put_get (by simp; omega), put_get (by simp; omega), List.getElem?_set, List.length_cons]
        have hl : cells.toList.length = cells.size := by simp
        by_cases a1 : j = off + i
        · subst a1
          rw [if_neg (by omega), if_pos rfl, if_pos (by omega), if_pos (by omega)]
          simp
        · by_cases a2 : off + (i + 1) ≤ j ∧ j < off + (i + 1) + vs.length
          · rw [if_pos a2, if_pos (by omega)]
            have : j - (off + i) = (j - (off + (i + 1))) + 1 := by omega
            rw [this, List.getElem?_cons_succ]
          · rw [if_neg a2, if_neg (fun h => a1 h.symm), if_neg (by omega)]
      rw [e] at r2
      exact hch.trans r2

mutual
theorem R.cells1 {M : Inj} : ∀ (v : V) (c : List Value) (t : TypeId), R P M v c → okT P v t → ∀ x ∈ c, x.oneCell' = true
  | .agg u cs, c, t => by
    rintro h ⟨tg, htg, hok⟩
    simp only [R] at h
    exact RL.cells1 cs _ _ h.2
  | .unk, c, t | .undef, c, t | .bool _, c, t | .int _ _, c, t | .str _, c, t | .nilp, c, t | .ptr _ _ _, c, t | .nils, c, t | .slz _, c, t | .slc _ _ _ _ _ _, c, t | .nilm, c, t | .map _, c, t | .nilf, c, t | .fn _ _ _, c, t | .nili, c, t | .tup _, c, t => by
    rintro h ⟨tg, htg, hok⟩
    cases tg with
    | some w => simp [tagOk] at hok
    | none =>
      obtain ⟨v', rfl, a1, a2⟩ := R.one h hok
      intro x hx
      simp only [List.mem_singleton] at hx; subst hx
      cases x <;> first | rfl | exact absurd rfl (a1 _) | exact absurd rfl (a2 _)
theorem RL.cells1 {M : Inj} : ∀ (vs : List V) (ts : List TypeId) (c : List Value), RL P M vs ts c → ∀ x ∈ c, x.oneCell' = true
  | [], _, _ => by simp only [RL]; rintro ⟨rfl, rfl⟩; simp
  | v :: vs, _, _ => by
    simp only [RL]
    rintro ⟨t, ts', c1, c2, rfl, rfl, ok, hv, hl⟩ x hx
    rcases List.mem_append.1 hx with hx | hx
    · exact R.cells1 v c1 t hv ok x hx
    · exact RL.cells1 vs ts' c2 hl x hx
end

/-- a value's cells -/
theorem VR.cells {M : Inj} {v : V} {v' : Value} {tg : Option Nat} (ht : tagOk tg v = true) (h : VR P M v v') : R P M v v'.cells.toList := by
  cases tg with
  | some u => obtain ⟨cs', rfl⟩ := tagOk_some ht; obtain ⟨cells, rfl, hr⟩ := h; exact hr
  | none =>
    have hr : R P M v [v'] := by cases v <;> first | exact h | (simp [tagOk] at ht)
    obtain ⟨x, e, a1, a2⟩ := R.one hr ht
    injection e with e; subst e
    cases v' <;> first | exact hr | exact absurd rfl (a1 _)

theorem st_snd {M : Inj} {h h' : H} {w : World} (L : Lay P) (S : St P M h w) {t : TypeId} {tg : Option Nat} (ht : tgo P t = some tg) {p u : V} {p' u' : Value} (he : st tg h p u = some h') (hp : VU P M p p') (hu : VU P M u u') :
    ∃ w', (Instr.storeAt t p' u').run P w = .ok () w' ∧ St P M h' w' ∧ Ext M h w M h' w' := by
  unfold st at he
  split at he <;> try contradiction
  rename_i tp b q
  by_cases hq : (tgEq tp tg && tagOk tg u) = true
  · rw [hq] at he; simp only [cond_true] at he
    rw [Bool.and_eq_true] at hq
    obtain ⟨hq, hok⟩ := hq
    have := tgEq_eq hq; subst this
    have hp := hp.known (by simp)
    have hu := hu.known (by rintro rfl; cases tp <;> simp [tagOk] at hok)
    simp only [VR, R] at hp
    obtain ⟨cb, base, e, lim, i, q', o, t', hM, rfl, ho, htt, hpe⟩ := hp
    injection hpe with hpe; subst hpe
    simp only [H.putAt] at he
    cases hg : h.get b with
    | none => rw [hg] at he; simp at he
    | some blk =>
      rw [hg] at he
      cases blk with
      | mp es => simp at he
      | row ro es =>
        cases ro with
        | true => simp at he
        | false =>
          simp only at he
          cases hi : es[i]? with
          | none => rw [hi] at he; simp at he
          | some x =>
            rw [hi] at he; simp only at he
            cases hx : x.put q' u with
            | none => rw [hx] at he; simp at he
            | some x' =>
              rw [hx] at he; simp only [Option.some.injEq] at he; subst he
              have hB := S.blk _ _ hg
              obtain ⟨c0, base0, e0, lim0, g1, cells, el, lo, hi', g2, g3, g4, g5, g6, g7, g8⟩ := hB
              rw [hM] at g1; injection g1 with g1; injection g1 with g1a g1b g1c g1d
              subst g1a g1b g1c g1d
              have hil := getElem?_lt hi
              obtain ⟨t1, k1, k2, k3, k4⟩ := RL.get L g5 hi
              rw [List.getElem?_replicate, if_pos hil] at k1
              injection k1 with k1; subst k1
              rw [sum_replicate _ _ _ _ (Nat.le_of_lt hil)] at k3 k4
              have hR := VR.cells hok hu
              have okU : okT P u t' := ⟨tp, htt, hok⟩
              obtain ⟨m1, m2, m3⟩ := R.put L q' k3 k2 hx ho okU hR
              have hlenU := R.len L _ _ _ hR okU
              have hlen : ((cells.toList.drop base).take (es.length * P.cellsOf e)).length = es.length * P.cellsOf e := by
                rw [List.length_take, List.length_drop]
                have : cells.toList.length = cells.size := by simp
                have := Nat.mul_le_mul_right (P.cellsOf e) g3
                omega
              rw [List.length_take, List.length_drop] at m3
              have hsz : cells.toList.length = cells.size := by simp
              have hmul := Nat.mul_le_mul_right (P.cellsOf e) g3
              rw [hlen] at k4
              obtain ⟨w', r1, r2⟩ := stores_run (P := P) cb (base + i * P.cellsOf e + o) el (lo, hi') u'.cells.toList 0 cells w g2 (by rw [hlenU]; omega) (g6 rfl).2 (R.cells1 _ _ _ hR okU)
              have hM' : M b = some (.row cb base e lim) := hM
              have hb : HB P M w' b (.row false (es.set i x')) := by
                refine ⟨cb, base, e, lim, hM, _, el, lo, hi', r2.at_, by simpa using g3, ?_, ?_, ?_, g7, g8⟩
                · simp only [List.size_toArray]; rw [put_length (by rw [hlenU]; omega)]; simpa using g4
                · have := RL.set L g5 hil (by rw [List.getElem?_replicate, if_pos hil]) m2 m1
                  rw [sum_replicate _ _ _ _ (Nat.le_of_lt hil)] at this
                  rw [put_put (by rw [hlen]; exact k4) (by rw [hlenU]; omega)] at this
                  simp only [List.length_set]
                  have e2 : (List.drop base (put cells.toList (base + i * P.cellsOf e + o + 0) u'.cells.toList)).take (es.length * P.cellsOf e) = put ((cells.toList.drop base).take (es.length * P.cellsOf e)) (i * P.cellsOf e + o) u'.cells.toList := by
                    apply List.ext_getElem?
                    intro j
                    simp only [put, List.append_assoc, List.getElem?_append, List.length_take, List.length_drop, List.getElem?_take, List.getElem?_drop, hsz]
                    repeat' split
                    all_goals first | rfl | omega | (congr 1; omega) | skip
                  rw [e2]; exact this
                · intro _; refine ⟨(g6 rfl).1, ?_⟩; simpa using (fun o ho => (g6 rfl).2 o (by rw [put_length (by rw [hlenU]; omega)] at ho; simpa using ho))
              obtain ⟨s1, s2⟩ := S.set hg (by simp [rw?]) hM r2 hb
              refine ⟨w', ?_, s1, s2⟩
              have hsize : u'.cells.size = P.cellsOf t := by
                rw [L.size_eq ht htt, ← hlenU]; simp
              simp only [Instr.storeAt, Instr.sureAddr, storeVar, Sem.run_bind, Sem.run_pure, Result.andThen_ok, run_size ht, hsize, ne_eq, not_true_eq_false, if_false]
              exact r1
  · rw [Bool.eq_false_iff.2 hq] at he; simp at he
end Go.AM

namespace Go.AM
open Go
variable {P : Program}

theorem ofConst_R (M : Inj) {v : Value} {u : V} (h : unflLeaf v = some u) : R P M u [v] ∧ tagOk none u = true := by
  unfold unflLeaf at h
  have h2 := ofConst_VU (P := P) M v
  cases hc : ofConst v <;> rw [hc] at h h2 <;> simp only [Option.some.injEq, reduceCtorEq] at h <;> subst h
  all_goals (try (unfold ofConst at hc; split at hc <;> cases hc; done))
  all_goals (have h3 := h2.known (by simp); refine ⟨?_, rfl⟩; exact h3)

theorem unfl_snd (L : Lay P) (M : Inj) : ∀ (d : Nat), (∀ (t : TypeId) (cells : List Value) (v : V) (r : List Value), unfl P d t cells = some (v, r) → ∃ c, cells = c ++ r ∧ R P M v c ∧ okT P v t) ∧
    (∀ (ts : List TypeId) (cells : List Value) (vs : List V) (r : List Value), unflL P d ts cells = some (vs, r) → ∃ c, cells = c ++ r ∧ RL P M vs ts c)
  | 0 => ⟨fun _ _ _ _ h => by simp [unfl] at h, fun _ _ _ _ h => by simp [unflL] at h⟩
  | d + 1 => by
    obtain ⟨ih1, ih2⟩ := unfl_snd L M d
    refine ⟨fun t cells v r h => ?_, fun ts cells vs r h => ?_⟩
    · simp only [unfl] at h
      cases ht : tgo P t with
      | none => rw [ht] at h; simp at h
      | some tg =>
        rw [ht] at h
        cases tg with
        | none =>
          cases cells with
          | nil => simp at h
          | cons x xs =>
            simp only at h
            cases hu : unflLeaf x with
            | none => rw [hu] at h; simp at h
            | some u =>
              rw [hu] at h
              simp only [Option.some.injEq, Prod.mk.injEq] at h
              obtain ⟨rfl, rfl⟩ := h
              obtain ⟨h1, h2⟩ := ofConst_R (P := P) M hu
              exact ⟨[x], rfl, h1, none, ht, h2⟩
        | some u =>
          simp only at h
          cases hk : unflL P d (kids P t) cells with
          | none => rw [hk] at h; simp at h
          | some x =>
            obtain ⟨cs, r'⟩ := x
            rw [hk] at h
            simp only [Option.some.injEq, Prod.mk.injEq] at h
            obtain ⟨rfl, rfl⟩ := h
            obtain ⟨c, e, hr⟩ := ih2 _ _ _ _ hk
            refine ⟨c, e, ?_, some u, ht, by simp [tagOk]⟩
            simp only [R]
            exact ⟨(L.tag _ _ ht).2.2, by rw [L.kids_eq ht]; exact hr⟩
    · cases ts with
      | nil =>
        simp only [unflL, Option.some.injEq, Prod.mk.injEq] at h
        obtain ⟨rfl, rfl⟩ := h
        exact ⟨[], rfl, by simp [RL]⟩
      | cons t ts =>
        simp only [unflL] at h
        cases h1 : unfl P d t cells with
        | none => rw [h1] at h; simp at h
        | some x =>
          obtain ⟨v, r1⟩ := x
          rw [h1] at h
          simp only at h
          cases h2 : unflL P d ts r1 with
          | none => rw [h2] at h; simp at h
          | some y =>
            obtain ⟨vs', r2⟩ := y
            rw [h2] at h
            simp only [Option.some.injEq, Prod.mk.injEq] at h
            obtain ⟨rfl, rfl⟩ := h
            obtain ⟨c1, e1, a1, a2⟩ := ih1 _ _ _ _ h1
            obtain ⟨c2, e2, b1⟩ := ih2 _ _ _ _ h2
            refine ⟨c1 ++ c2, by rw [e1, e2, List.append_assoc], ?_⟩
            simp only [RL]
            exact ⟨t, ts, c1, c2, rfl, rfl, a2, a1, b1⟩

theorem zero_snd (L : Lay P) (M : Inj) {t : TypeId} {z : V} (h : zeroV P t = some z) : ∃ zv, (∀ w, (zeroValue t).run P w = .ok zv w) ∧ R P M z zv.cells.toList ∧ okT P z t := by
  unfold zeroV at h
  cases hi : P.info? t with
  | none => rw [hi] at h; simp at h
  | some i =>
    rw [hi] at h
    simp only at h
    cases hz : i.zero with
    | none => rw [hz] at h; simp at h
    | some zv =>
      rw [hz] at h
      simp only at h
      split at h <;> try contradiction
      rename_i v hu
      replace h : v = z := by revert h; cases zOk v zv <;> simp
      subst h
      obtain ⟨c, e, a1, a2⟩ := (unfl_snd L M zD).1 _ _ _ _ hu
      rw [List.append_nil] at e
      refine ⟨zv, fun w => ?_, by rw [e]; exact a1, a2⟩
      simp [zeroValue, typeInfo, hi, hz]

theorem zero_form {t : TypeId} {z : V} (h : zeroV P t = some z) {zv : Value} {w : World} (hz : (zeroValue t).run P w = .ok zv w) : zOk z zv = true := by
  unfold zeroV at h
  cases hi : P.info? t with
  | none => rw [hi] at h; simp at h
  | some i =>
    rw [hi] at h
    simp only at h
    cases hz0 : i.zero with
    | none => rw [hz0] at h; simp at h
    | some zv' =>
      rw [hz0] at h
      simp only at h
      simp [zeroValue, typeInfo, hi, hz0] at hz
      subst hz
      split at h <;> try contradiction
      rename_i v hu
      revert h; cases hq : zOk v zv' <;> simp
      rintro rfl; exact hq
theorem zero_VR {M : Inj} {z : V} {zv : Value} (h : zOk z zv = true) (hr : R P M z zv.cells.toList) : VR P M z zv := by
  cases z <;> cases zv <;> simp [zOk] at h <;> first
    | exact hr
    | exact ⟨_, rfl, hr⟩

/-- a new row of the machine's -/
theorem St.row {M : Inj} {h : H} {w : World} (S : St P M h w) {es : List V} {e el : TypeId} {cells : Array Value} {lim : Nat} (hl : es.length ≤ lim) (hc : lim * P.cellsOf e ≤ cells.size)
    (hr : RL P M es (List.replicate es.length e) (cells.toList.take (es.length * P.cellsOf e))) (h0 : 0 < P.cellsOf e) (ht : (tgo P e).isSome) (w' : World) (hw : Ch w w' w.heap.size (.cells cells el (0, 0))) :
    St P (M.add h.next (.row w.heap.size 0 e lim)) (h.push (.row false es)) w' ∧ Ext M h w (M.add h.next (.row w.heap.size 0 e lim)) (h.push (.row false es)) w' := by
  refine S.push (i := .row w.heap.size 0 e lim) hw (Nat.le_refl _) ?_
  refine ⟨w.heap.size, 0, e, lim, Inj.add_self _ _ _, cells, el, 0, 0, hw.at_, hl, by simpa using hc, ?_, by intro _; exact ⟨by omega, by intro o _; omega⟩, h0, ht⟩
  simpa using RL.mono (Inj.le_add S.fresh) _ _ _ hr

theorem ptr_VR {M : Inj} {b c base lim : Nat} {e : TypeId} {tg : Option Nat} (hM : M b = some (.row c base e lim)) (ht : tgo P e = some tg) : VR P M (.ptr tg b [0]) (.pointer (some ⟨c, base, none⟩)) := by
  simp only [VR, R]
  exact ⟨c, base, e, lim, 0, [], 0, e, hM, rfl, rfl, ht, by simp⟩

/-- a new variable -/
theorem var_snd {M : Inj} {h : H} {w : World} (L : Lay P) (S : St P M h w) {e : TypeId} {tg : Option Nat} (ht : tgo P e = some tg) (h0 : P.cellsOf e ≠ 0) {v : V} {v' : Value} (hv : R P M v v'.cells.toList) (ok : okT P v e) :
    ∃ p' w' M', (do pure (.pointer (some (← newVar e v'))) : Sem Value).run P w = .ok p' w' ∧ St P M' (h.push (.row false [v])) w' ∧ Ext M h w M' (h.push (.row false [v])) w' ∧ VR P M' (.ptr tg h.next [0]) p' := by
  have hlen := R.len L _ _ _ hv ok
  have hch := Ch.new w (.cells v'.cells e (0, 0))
  obtain ⟨s1, s2⟩ := S.row (es := [v]) (e := e) (lim := 1) (by simp) (by simp at hlen ⊢; omega) (by
    simp only [List.length_singleton, List.replicate_one, Nat.one_mul, RL]
    refine ⟨e, [], v'.cells.toList, [], rfl, ?_, ok, hv, rfl, rfl⟩
    rw [List.append_nil, ← hlen, List.take_length]) (by omega) (by rw [ht]; rfl) _ hch
  refine ⟨_, _, _, ?_, s1, s2, ptr_VR (Inj.add_self _ _ _) ht⟩
  simp [newVar, newRow]

theorem al_snd {M : Inj} {h h' : H} {w : World} (L : Lay P) (S : St P M h w) {e : TypeId} (h0 : P.cellsOf e ≠ 0) {r : V} (he : al (tgo P e) (zeroV P e) h = some (r, h')) :
    ∃ p' w' M', (Instr.alloc e true (.tuple #[])).run P w = .ok p' w' ∧ St P M' h' w' ∧ Ext M h w M' h' w' ∧ VR P M' r p' := by
  unfold al at he
  split at he <;> try contradiction
  rename_i tg z ht hz
  simp only [Option.some.injEq, Prod.mk.injEq] at he
  obtain ⟨rfl, rfl⟩ := he
  obtain ⟨zv, k1, k2, k3⟩ := zero_snd L M hz
  obtain ⟨p', w', M', r1, r2, r3, r4⟩ := var_snd L S ht h0 k2 k3
  refine ⟨p', w', M', ?_, r2, r3, r4⟩
  simp only [Instr.alloc, Sem.run_bind, k1, Result.andThen_ok]
  simpa using r1

theorem box_snd {M : Inj} {h h' : H} {w : World} (L : Lay P) (S : St P M h w) {e : TypeId} (h0 : P.cellsOf e ≠ 0) {v r : V} {v' : Value} (he : box (tgo P e) h v = some (r, h')) (hv : VU P M v v') :
    ∃ p' w' M', (Instr.box e v').run P w = .ok p' w' ∧ St P M' h' w' ∧ Ext M h w M' h' w' ∧ VR P M' r p' := by
  unfold box at he
  split at he <;> try contradiction
  rename_i tg ht
  by_cases hk : tagOk tg v = true
  · rw [hk] at he
    simp only [cond_true, Option.some.injEq, Prod.mk.injEq] at he
    obtain ⟨rfl, rfl⟩ := he
    have hv := hv.known (by rintro rfl; cases tg <;> simp [tagOk] at hk)
    obtain ⟨p', w', M', r1, r2, r3, r4⟩ := var_snd L S ht h0 (VR.cells hk hv) ⟨tg, ht, hk⟩
    exact ⟨p', w', M', by simpa [Instr.box] using r1, r2, r3, r4⟩
  · rw [Bool.eq_false_iff.2 hk] at he; simp at he

/-! parts laid into zero values -/
theorem zip_put (cells : Array Value) (off : Nat) (x : Array Value) (h : off + x.size ≤ cells.size) : (x.zipIdx.foldl (fun cs (p : Value × Nat) => cs.setIfInBounds (off + p.2) p.1) cells).toList = put cells.toList off x.toList := by
  rw [← Array.foldl_toList, Array.toList_zipIdx]
  have key : ∀ (l : List Value) (k : Nat) (cells : Array Value), off + k + l.length ≤ cells.size → ((l.zipIdx k).foldl (fun cs (p : Value × Nat) => cs.setIfInBounds (off + p.2) p.1) cells).toList = put cells.toList (off + k) l := by
    intro l
    induction l with
    | nil => intro k cells _; simp [put]
    | cons v l ih =>
      intro k cells hk
      simp only [List.length_cons] at hk
      rw [List.zipIdx_cons, List.foldl_cons, ih (k + 1) _ (by simp; omega)]
      rw [Array.toList_setIfInBounds]
      apply List.ext_getElem?
      intro j
      rw [put_get (by simp; omega), put_get (by simp; omega), List.getElem?_set, List.length_cons]
      have hl : cells.toList.length = cells.size := by simp
      by_cases a1 : j = off + k
      · subst a1
        rw [if_neg (by omega), if_pos rfl, if_pos (by omega), if_pos (by omega)]
        simp
      · by_cases a2 : off + (k + 1) ≤ j ∧ j < off + (k + 1) + l.length
        · rw [if_pos a2, if_pos (by omega)]
          have : j - (off + k) = (j - (off + (k + 1))) + 1 := by omega
          rw [this, List.getElem?_cons_succ]
        · rw [if_neg a2, if_neg (fun h => a1 h.symm), if_neg (by omega)]
  exact key x.toList 0 cells (by simpa using h)

theorem tagSame_ok {c v : V} (h : tagSame c v = true) {t : TypeId} (hc : okT P c t) : okT P v t := by
  obtain ⟨tg, ht, hk⟩ := hc
  refine ⟨tg, ht, ?_⟩
  cases tg with
  | some u => obtain ⟨cs, rfl⟩ := tagOk_some hk; exact h
  | none => cases c <;> first | exact h | (simp [tagOk] at hk)

inductive PR (P : Program) (M : Inj) : List (Nat × V) → List (Nat × Value) → Prop
  | nil : PR P M [] []
  | cons {i : Nat} {v : V} {v' : Value} {l : List (Nat × V)} {l' : List (Nat × Value)} (h : VU P M v v') (t : PR P M l l') : PR P M ((i, v) :: l) ((i, v') :: l')

theorem setParts_snd {M : Inj} (L : Lay P) {ts : List TypeId} {place : Nat → Option (Nat × Nat)} (hp : ∀ i t, ts[i]? = some t → place i = some (((ts.take i).map P.cellsOf).sum, P.cellsOf t)) :
    ∀ {ps : List (Nat × V)} {ps' : List (Nat × Value)}, PR P M ps ps' → ∀ {cs l : List V} {cells : Array Value}, setParts cs ps = some l → RL P M cs ts cells.toList →
    ∃ cells', Instr.fill place cells ps' = some cells' ∧ RL P M l ts cells'.toList := by
  intro ps ps' h
  induction h with
  | nil =>
    intro cs l cells he hr
    simp only [setParts, Option.some.injEq] at he; subst he
    exact ⟨cells, rfl, hr⟩
  | @cons i v v' l0 l0' hv ht ih =>
    intro cs l cells he hr
    simp only [setParts] at he
    cases hi : cs[i]? with
    | none => rw [hi] at he; simp at he
    | some c =>
      rw [hi] at he
      simp only at he
      by_cases hs : tagSame c v = true
      · rw [hs] at he; simp only [cond_true] at he
        obtain ⟨t, e1, okc, _, hle⟩ := RL.get L hr hi
        have okv := tagSame_ok hs okc
        obtain ⟨tg, htg, hk⟩ := okv
        have hv := hv.known (by rintro rfl; cases tg <;> simp [tagOk] at hk)
        have hR := VR.cells hk hv
        have hlen := R.len L _ _ _ hR ⟨tg, htg, hk⟩
        have hset := RL.set L hr (getElem?_lt hi) e1 ⟨tg, htg, hk⟩ hR
        have hsz : v'.cells.size = P.cellsOf t := by simpa using hlen
        simp only [Array.length_toList] at hle
        have hz := zip_put cells (((ts.take i).map P.cellsOf).sum) v'.cells (by omega)
        rw [← hz] at hset
        obtain ⟨cells', f1, f2⟩ := ih he hset
        refine ⟨cells', ?_, f2⟩
        simp only [Instr.fill, hp i t e1]
        have hc : ¬ ((decide (v'.cells.size ≠ P.cellsOf t) || decide ((((ts.take i).map P.cellsOf).sum) + v'.cells.size > cells.size)) = true) := by
          rw [Bool.or_eq_true, decide_eq_true_eq, decide_eq_true_eq]
          omega
        rw [if_neg hc]
        exact f1
      · rw [Bool.eq_false_iff.2 hs] at he; simp at he
end Go.AM

namespace Go.AM
open Go
variable {P : Program}

theorem mapM_run {α β : Type} (w : World) (f : α → Sem β) (g : α → β) : ∀ (l : List α), (∀ x ∈ l, (f x).run P w = .ok (g x) w) → (l.mapM f).run P w = .ok (l.map g) w
  | [], _ => by simp
  | x :: l, h => by
    simp only [List.mapM_cons, Sem.run_bind, h x (by simp), Result.andThen_ok, mapM_run w f g l (fun y hy => h y (by simp [hy])), Sem.run_pure, List.map_cons]
theorem amapM_run {α β : Type} (w : World) (f : α → Sem β) (g : α → β) (a : Array α) (h : ∀ x ∈ a.toList, (f x).run P w = .ok (g x) w) : (a.mapM f).run P w = .ok (a.toList.map g).toArray w := by
  rw [Array.mapM_eq_mapM_toList]
  simp only [Sem.run_map, mapM_run w f g a.toList h, Result.andThen_ok]

theorem kid_str {t : TypeId} {fs : Array Field} (h : desc P t = some (.struct fs)) : kids P t = fs.toList.map (·.type) := by unfold kids; rw [h]
theorem kid_arr {t : TypeId} {n : Nat} {e : TypeId} (h : desc P t = some (.array n e)) : kids P t = List.replicate n e := by unfold kids; rw [h]

theorem build_snd {M : Inj} (L : Lay P) {t : TypeId} {ps : List (Nat × V)} {ps' : Array (Nat × Value)} {r : V} (he : build (zeroV P t) ps = some r) (hp : PR P M ps ps'.toList) (w : World) :
    ∃ v', (Instr.build t ps').run P w = .ok v' w ∧ VR P M r v' := by
  unfold build at he
  split at he <;> try contradiction
  rename_i u cs hz
  cases hs : setParts cs ps with
  | none => rw [hs] at he; simp at he
  | some l =>
    rw [hs] at he
    simp only [Option.some.injEq] at he; subst he
    obtain ⟨zv, k1, k2, tg, ht, hk⟩ := zero_snd L M hz
    have : tg = some u := by cases tg <;> simp [tagOk] at hk; exact congrArg some hk.symm
    subst this
    simp only [R] at k2
    rw [L.kids_eq ht] at k2
    obtain ⟨ds, hd⟩ := tgo_desc ht
    have hu := desc_und hd
    have hfin : ∀ cells', RL P M l (kids P t) cells'.toList → VR P M (.agg u l) (.agg cells') := by
      intro cells' h
      refine ⟨cells', rfl, ?_⟩
      simp only [R]
      exact ⟨(L.tag _ _ ht).2.2, by rw [L.kids_eq ht]; exact h⟩
    cases ds
    case struct fs =>
      have hplace : ∀ x ∈ fs.toList, ((do pure (x.offset, ← sizeOf x.type) : Sem (Nat × Nat))).run P w = .ok (x.offset, P.cellsOf x.type) w := by
        intro x hx
        rw [List.mem_iff_getElem?] at hx
        obtain ⟨i, hi⟩ := hx
        have := (L.kid t i x.type (by rw [kid_str hd]; simp [hi])).2
        obtain ⟨tx, htx⟩ := Option.isSome_iff_exists.1 this
        simp only [Sem.run_bind, run_size htx, Result.andThen_ok, Sem.run_pure]
      obtain ⟨cells', f1, f2⟩ := setParts_snd L (place := fun i => ((fs.toList.map fun f => (f.offset, P.cellsOf f.type)).toArray)[i]?) (by
        intro i t' hi
        have hk2 := (L.kid t i t' hi).1
        rw [kid_str hd] at hi
        simp only [List.getElem?_map, Option.map_eq_some_iff] at hi
        obtain ⟨f, hf, rfl⟩ := hi
        rw [koff_str hd (f := f) (by simpa using hf)] at hk2
        simp only [Option.some.injEq, Prod.mk.injEq] at hk2
        simp only [List.getElem?_toArray, List.getElem?_map, hf, Option.map_some]
        rw [hk2.1]) hp hs k2.2
      refine ⟨.agg cells', ?_, hfin _ f2⟩
      simp only [Instr.build, Sem.run_bind, k1, Result.andThen_ok, run_underlying hu, amapM_run w _ _ fs hplace, f1, Sem.run_pure]
    case array n e =>
      obtain ⟨te, hte⟩ := Option.isSome_iff_exists.1 (L.arr t n e hd)
      obtain ⟨cells', f1, f2⟩ := setParts_snd L (place := fun i => some (i * P.cellsOf e, P.cellsOf e)) (by
        intro i t' hi
        have hk2 := (L.kid t i t' hi).1
        rw [kid_arr hd] at hi
        rw [List.getElem?_replicate] at hi
        split at hi <;> try contradiction
        rename_i hlt
        injection hi with hi; subst hi
        rw [koff_arr hd hlt] at hk2
        simp only [Option.some.injEq, Prod.mk.injEq] at hk2
        rw [hk2.1]) hp hs k2.2
      refine ⟨.agg cells', ?_, hfin _ f2⟩
      simp only [Instr.build, Sem.run_bind, k1, Result.andThen_ok, run_underlying hu, run_size hte, f1, Sem.run_pure]
    all_goals (unfold tgo at ht; rw [hd] at ht; simp at ht)

/-- a row of zero values -/
theorem zeros_eq (z : Array Value) (n : Nat) : ((Array.range (n * z.size)).map (fun i => z[i % z.size]!)).toList = (List.replicate n z.toList).flatten := by
  rw [Array.toList_map, Array.toList_range]
  induction n with
  | zero => simp
  | succ n ih =>
    rw [Nat.succ_mul, List.range_add, List.map_append, ih, List.replicate_succ', List.flatten_append]
    congr 1
    simp only [List.flatten_cons, List.flatten_nil, List.append_nil, List.map_map]
    apply List.ext_getElem?
    intro j
    by_cases hj : j < z.size
    · have : (n * z.size + j) % z.size = j := by rw [Nat.mul_comm, Nat.mul_add_mod, Nat.mod_eq_of_lt hj]
      simp [hj, this]
    · simp [hj]

theorem RL.replicate {M : Inj} {z : V} {e : TypeId} {c : List Value} (h : R P M z c) (ok : okT P z e) : ∀ n, RL P M (List.replicate n z) (List.replicate n e) (List.replicate n c).flatten
  | 0 => by simp [RL]
  | n + 1 => by
    simp only [List.replicate_succ, RL]
    exact ⟨e, _, c, _, rfl, by simp, ok, h, RL.replicate h ok n⟩

theorem elT_snd {t e : TypeId} {te : Option Nat} {b : Nat} (h : elT P t = some (e, te, b)) : desc P t = some (.slice e) ∧ tgo P e = some te ∧ P.cellsOf e ≠ 0 ∧ b = P.bytesOf e := by
  unfold elT at h
  split at h <;> try contradiction
  rename_i e' hd
  split at h <;> try contradiction
  rename_i te' ht
  cases h0 : (Nat.beq (P.cellsOf e') 0 || Nat.beq (P.bytesOf e') 0)
  · rw [h0] at h
    simp only [cond_false, Option.some.injEq, Prod.mk.injEq] at h
    obtain ⟨rfl, rfl, rfl⟩ := h
    rw [Bool.or_eq_false_iff] at h0
    exact ⟨hd, ht, by simpa [beq_eq] using h0.1, rfl⟩
  · rw [h0] at h; simp at h
theorem elT_bytes {t e : TypeId} {te : Option Nat} {b : Nat} (h : elT P t = some (e, te, b)) : b ≠ 0 := by
  unfold elT at h
  split at h <;> try contradiction
  rename_i e' hd
  split at h <;> try contradiction
  rename_i te' ht
  cases h0 : (Nat.beq (P.cellsOf e') 0 || Nat.beq (P.bytesOf e') 0)
  · rw [h0] at h
    simp only [cond_false, Option.some.injEq, Prod.mk.injEq] at h
    obtain ⟨rfl, rfl, rfl⟩ := h
    rw [Bool.or_eq_false_iff] at h0
    simpa [beq_eq] using h0.2
  · rw [h0] at h; simp at h

theorem slc_VR {M : Inj} {b c base lim : Nat} {e : TypeId} {tg : Option Nat} {s n cap : Nat} {x : Bool} (hM : M b = some (.row c base e lim)) (ht : tgo P e = some tg) (h1 : n ≤ cap) (h2 : s + cap ≤ lim) (h3 : x = true → cap = n) :
    VR P M (.slc tg b [] s n x) (.slice (some ⟨c, base + s * P.cellsOf e, none⟩) n cap) := by
  simp only [VR, R]
  exact ⟨c, base, e, lim, base, e, lim, _, cap, hM, rfl, ht, h1, h2, .inr rfl, h3, rfl⟩

theorem bslc_snd {M : Inj} {h h' : H} {w : World} (L : Lay P) (S : St P M h w) {t e : TypeId} {te : Option Nat} {b n : Nat} (hel : elT P t = some (e, te, b)) (hn : n * P.cellsOf e ≤ 16777216) {ps : List (Nat × V)} {ps' : Array (Nat × Value)} {r : V}
    (he : bslc (some (e, te, b)) (zeroV P e) n ps h = some (r, h')) (hp : PR P M ps ps'.toList) :
    ∃ v' w' M', (Instr.buildSlice t n ps').run P w = .ok v' w' ∧ St P M' h' w' ∧ Ext M h w M' h' w' ∧ VR P M' r v' := by
  obtain ⟨hd, hte, h0, rfl⟩ := elT_snd hel
  have hu := desc_und hd
  unfold bslc at he
  split at he <;> try contradiction
  rename_i e1 te1 b1 z heq hz
  simp only [Option.some.injEq, Prod.mk.injEq] at heq
  obtain ⟨rfl, rfl, rfl⟩ := heq
  split at he <;> try contradiction
  rename_i es hs
  simp only [Option.some.injEq, Prod.mk.injEq] at he
  obtain ⟨rfl, rfl⟩ := he
  obtain ⟨zv, k1, k2, k3⟩ := zero_snd L M hz
  have hzl := R.len L _ _ _ k2 k3
  have hzs : zv.cells.size = P.cellsOf e := by simpa using hzl
  let z0 : Array Value := if n * P.cellsOf e = 0 then #[] else zv.cells
  have hz0 : ((Array.range (n * P.cellsOf e)).map (fun i => z0[i % z0.size]!)).toList = (List.replicate n zv.cells.toList).flatten := by
    by_cases hc : n * P.cellsOf e = 0
    · have : n = 0 := by rcases Nat.mul_eq_zero.1 hc with h | h; exact h; exact absurd h h0
      subst this; simp
    · have : z0 = zv.cells := by simp [z0, hc]
      rw [this, ← hzs]; exact zeros_eq _ _
  have hrep := RL.replicate k2 k3 n
  rw [← hz0] at hrep
  obtain ⟨cells', f1, f2⟩ := setParts_snd L (place := fun i => some (i * P.cellsOf e, P.cellsOf e)) (by
    intro i t' hi
    rw [List.getElem?_replicate] at hi
    split at hi <;> try contradiction
    rename_i hlt
    injection hi with hi; subst hi
    rw [sum_replicate _ _ _ _ (Nat.le_of_lt hlt)]) hp hs hrep
  have hlen : es.length = n := by rw [RL.length f2]; simp
  have hcl := RL.len L _ _ _ f2
  have hsum : ((List.replicate n e).map P.cellsOf).sum = n * P.cellsOf e := by
    have := sum_replicate n e P.cellsOf n (Nat.le_refl _)
    rwa [List.take_of_length_le (by simp)] at this
  rw [hsum] at hcl
  have hcs : cells'.size = n * P.cellsOf e := by simpa using hcl
  obtain ⟨s1, s2⟩ := S.row (es := es) (e := e) (lim := n) (cells := cells') (el := e) (by omega) (by omega) (by
    rw [hlen, List.take_of_length_le (by simp; omega)]; exact f2) (by omega) (by rw [hte]; rfl) _ (Ch.new w (.cells cells' e (0, 0)))
  refine ⟨.slice (some ⟨w.heap.size, 0, none⟩) n n, _, _, ?_, s1, s2, ?_⟩
  · simp only [Instr.buildSlice, Sem.run_bind, run_underlying hu, Result.andThen_ok, run_size hte, Sem.run_ite]
    have h2 : ¬ (n * P.cellsOf e > 2 ^ 24) := by omega
    rw [if_neg h2]
    simp only [Result.andThen_ok, Sem.run_pure]
    by_cases hc : n * P.cellsOf e = 0
    · have hz1 : z0 = #[] := by simp [z0, hc]
      rw [hz1] at f1
      rw [if_pos hc, f1]
      simp only [newRow, Sem.run_bind, run_newObj, Sem.run_pure, Result.andThen_ok]
    · have hz1 : z0 = zv.cells := by simp [z0, hc]
      rw [hz1] at f1
      rw [if_neg hc, k1]
      simp only [Result.andThen_ok, f1, newRow, Sem.run_bind, run_newObj, Sem.run_pure]
  · have := slc_VR (P := P) (M := M.add h.next (.row w.heap.size 0 e n)) (s := 0) (n := n) (cap := n) (x := true) (Inj.add_self _ _ _) hte (Nat.le_refl _) (by omega) (fun _ => rfl)
    simpa using this
end Go.AM

namespace Go.AM
open Go
variable {P : Program}

theorem cond_some {α : Type} {c : Bool} {x : Option α} {r : α} (h : (bif c then x else none) = some r) : c = true ∧ x = some r := by
  cases c
  · cases h
  · exact ⟨rfl, h⟩
theorem cond_none {α : Type} {c : Bool} {x : Option α} {r : α} (h : (bif c then none else x) = some r) : c = false ∧ x = some r := by
  cases c
  · exact ⟨rfl, h⟩
  · cases h

theorem mslc_snd {M : Inj} {h h' : H} {w : World} (L : Lay P) (S : St P M h w) {t e : TypeId} {te : Option Nat} {b : Nat} (hel : elT P t = some (e, te, b)) {l c r : V} {l' c' : Value}
    (he : mslc (some (e, te, b)) (zeroV P e) l c h = some (r, h')) (hl : VU P M l l') (hc : VU P M c c') :
    ∃ v' w' M', (Instr.makeSlice t l' c').run P w = .ok v' w' ∧ St P M' h' w' ∧ Ext M h w M' h' w' ∧ VR P M' r v' := by
  obtain ⟨hd, hte, h0, rfl⟩ := elT_snd hel
  have hu := desc_und hd
  unfold mslc at he
  split at he <;> try contradiction
  rename_i e1 te1 b1 z n m heq hz
  simp only [Option.some.injEq, Prod.mk.injEq] at heq
  obtain ⟨rfl, rfl, rfl⟩ := heq
  have := hl.int; subst this
  have := hc.int; subst this
  replace he := cond_none he
  obtain ⟨h1, he⟩ := he
  simp only [Option.some.injEq, Prod.mk.injEq] at he
  obtain ⟨rfl, rfl⟩ := he
  simp only [Bool.or_eq_false_iff, decide_eq_false_iff_not, Bool.not_eq_false', ble_eq, decide_eq_true_eq] at h1
  obtain ⟨⟨⟨hn, hmn⟩, hm⟩, hby⟩ := h1
  obtain ⟨zv, k1, k2, k3⟩ := zero_snd L M hz
  have hzl := R.len L _ _ _ k2 k3
  have hzs : zv.cells.size = P.cellsOf e := by simpa using hzl
  have wn : IntKind.i64.wrap n = n := by unfold IntKind.wrap; simp [IntKind.bits, IntKind.signed]; omega
  have wm : IntKind.i64.wrap m = m := by unfold IntKind.wrap; simp [IntKind.bits, IntKind.signed]; omega
  obtain ⟨ie, hie⟩ := tgo_info hte
  have hbytes : P.bytesOf e = ie.bytes := by simp [Program.bytesOf, hie]
  have hcells : P.cellsOf e = ie.size := by simp [Program.cellsOf, hie]
  let z0 : Array Value := if m.toNat * P.cellsOf e = 0 then #[] else zv.cells
  have hz0 : ((Array.range (m.toNat * P.cellsOf e)).map (fun i => z0[i % z0.size]!)).toList = (List.replicate m.toNat zv.cells.toList).flatten := by
    by_cases hc : m.toNat * P.cellsOf e = 0
    · have : m.toNat = 0 := by rcases Nat.mul_eq_zero.1 hc with h | h; exact h; exact absurd h h0
      rw [this]; simp
    · have : z0 = zv.cells := by simp [z0, hc]
      rw [this, ← hzs]; exact zeros_eq _ _
  have hlenl : ((List.replicate m.toNat zv.cells.toList).flatten).take (n.toNat * P.cellsOf e) = (List.replicate n.toNat zv.cells.toList).flatten := by
    have hle : n.toNat ≤ m.toNat := by omega
    obtain ⟨k, hk⟩ := Nat.exists_eq_add_of_le hle
    rw [hk, ← List.replicate_append_replicate, List.flatten_append]
    have hl2 : ((List.replicate n.toNat zv.cells.toList).flatten).length = n.toNat * P.cellsOf e := by
      simp [List.length_flatten, hzs]
    rw [← hl2, List.take_left']
    rfl
  obtain ⟨s1, s2⟩ := S.row (es := List.replicate n.toNat z) (e := e) (lim := m.toNat) (cells := (Array.range (m.toNat * P.cellsOf e)).map (fun i => z0[i % z0.size]!)) (el := e) (by simp; omega) (by simp) (by
    rw [hz0, List.length_replicate, hlenl]; exact RL.replicate k2 k3 _) (by omega) (by rw [hte]; rfl) _ (Ch.new w (.cells _ e (0, 0)))
  refine ⟨.slice (some ⟨w.heap.size, 0, none⟩) n.toNat m.toNat, _, _, ?_, s1, s2, ?_⟩
  · simp only [Instr.makeSlice, Sem.run_bind, run_underlying hu, Result.andThen_ok, asInt, asIntOf, Sem.run_pure, run_typeInfo w hie, wn, wm]
    have hbn : (ie.bytes : Int) * m ≤ 2 ^ 48 := by
      have h3 : ((m.toNat * ie.bytes : Nat) : Int) ≤ ((281474976710656 : Nat) : Int) := Int.ofNat_le.2 (hbytes ▸ hby)
      rw [Int.natCast_mul, Int.toNat_of_nonneg (by omega)] at h3
      have h4 : (2 : Int) ^ 48 = ((281474976710656 : Nat) : Int) := by rfl
      rw [h4, Int.mul_comm]; exact h3
    have c1 : ¬ ((decide (m < 0) || decide ((ie.bytes : Int) * m > 2 ^ 48) || decide (n < 0) || decide (n > m)) = true) := by
      simp only [Bool.or_eq_true, decide_eq_true_eq]; omega
    rw [if_neg c1]
    simp only [Sem.run_bind, Sem.run_pure, Result.andThen_ok, run_askRoom, run_size hte, Sem.run_ite]
    by_cases hc : m.toNat * P.cellsOf e = 0
    · have hz1 : z0 = #[] := by simp [z0, hc]
      rw [if_pos hc]
      simp only [newRow, Sem.run_bind, run_newObj, Sem.run_pure, Result.andThen_ok, hz1]
    · have hz1 : z0 = zv.cells := by simp [z0, hc]
      rw [if_neg hc, k1]
      simp only [Result.andThen_ok, newRow, Sem.run_bind, run_newObj, Sem.run_pure, hz1]
  · have := slc_VR (P := P) (M := M.add h.next (.row w.heap.size 0 e m.toNat)) (s := 0) (n := n.toNat) (cap := m.toNat) (x := n == m) (Inj.add_self _ _ _) hte (by omega) (by omega) (by intro hx; have := eq_of_beq hx; subst this; rfl)
    simpa using this

theorem fldT_snd {s : TypeId} {f : Nat} {ts tf : Option Nat} (_L : Lay P) (h : fldT P s f = some (ts, tf)) : ∃ fs fd, desc P s = some (.struct fs) ∧ fs[f]? = some fd ∧ tgo P fd.type = some tf ∧ P.cellsOf fd.type ≠ 0 ∧ ts = some (undId P s) ∧ tgo P s = some (some (undId P s)) ∧ koff P s f = some (fd.offset, fd.type) := by
  unfold fldT at h
  split at h <;> try contradiction
  rename_i fs hd
  split at h <;> try contradiction
  rename_i fd hf
  split at h <;> try contradiction
  rename_i tf' ht
  obtain ⟨h1, h⟩ := cond_none h
  simp only [Option.some.injEq, Prod.mk.injEq] at h
  obtain ⟨rfl, rfl⟩ := h
  exact ⟨fs, fd, hd, hf, ht, by simpa [beq_eq] using h1, rfl, by unfold tgo; rw [hd], koff_str hd hf⟩

theorem offT_snoc (L : Lay P) : ∀ (q : List Nat) (t : TypeId) (o : Nat) (t' : TypeId) (i o2 : Nat) (t2 : TypeId), offT P t q = some (o, t') → koff P t' i = some (o2, t2) → offT P t (q ++ [i]) = some (o + o2, t2)
  | [], t, o, t', i, o2, t2 => by
    intro h hk
    simp only [offT, Option.some.injEq, Prod.mk.injEq] at h
    obtain ⟨rfl, rfl⟩ := h
    simp [offT, hk]
  | j :: q, t, o, t', i, o2, t2 => by
    intro h hk
    simp only [offT] at h
    cases hj : koff P t j with
    | none => rw [hj] at h; simp at h
    | some x =>
      obtain ⟨o1, t1⟩ := x
      rw [hj] at h; simp only at h
      cases hq : offT P t1 q with
      | none => rw [hq] at h; simp at h
      | some y =>
        obtain ⟨o3, t3⟩ := y
        rw [hq] at h
        simp only [Option.some.injEq, Prod.mk.injEq] at h
        obtain ⟨rfl, rfl⟩ := h
        have := offT_snoc L q t1 o3 t3 i o2 t2 hq hk
        simp [offT, hj, this, Nat.add_assoc]

theorem koff_tag (L : Lay P) {t t' : TypeId} {u : Nat} (h : tgo P t = some (some u)) (h' : tgo P t' = some (some u)) (i : Nat) : koff P t i = koff P t' i := by
  rw [← L.koff_eq h, ← L.koff_eq h']

theorem fieldA_snd {M : Inj} (L : Lay P) {s : TypeId} {f : Nat} {x r : V} {x' : Value} (he : fieldA (fldT P s f) x f = some r) (hx : VU P M x x') (w : World) :
    ∃ v', (Instr.fieldAt s x' f).run P w = .ok v' w ∧ VR P M r v' := by
  unfold fieldA at he
  split at he <;> try contradiction
  rename_i ts tf hf
  obtain ⟨fs, fd, hd, hfd, htf, h0, rfl, hts, hko⟩ := fldT_snd L hf
  split at he <;> try contradiction
  rename_i tp b p
  replace he := cond_some he
  obtain ⟨h1, he⟩ := he
  injection he with he; subst he
  have := tgEq_eq h1; subst this
  have hx := hx.known (by simp)
  simp only [VR, R] at hx
  obtain ⟨cb, base, e, lim, i, q, o, t, hM, rfl, ho, htt, hpe⟩ := hx
  injection hpe with hpe; subst hpe
  have hk : koff P t f = some (fd.offset, fd.type) := by rw [koff_tag L htt hts]; exact hko
  refine ⟨.pointer (some ⟨cb, base + i * P.cellsOf e + o + fd.offset, none⟩), ?_, ?_⟩
  · simp only [Instr.fieldAt, Sem.run_bind, run_underlying (desc_und hd), Result.andThen_ok, hfd, Instr.sureAddr, Sem.run_pure, fieldPlace, run_size htf, Sem.run_ite, if_neg h0, addr_add]
  · simp only [VR, R]
    exact ⟨cb, base, e, lim, i, q ++ [f], o + fd.offset, fd.type, hM, rfl, offT_snoc L q e o t f _ _ ho hk, htf, by rw [Nat.add_assoc]⟩

theorem fieldV_snd {M : Inj} (L : Lay P) {s : TypeId} {f : Nat} {x r : V} {x' : Value} (he : fieldV (fldT P s f) x f = some r) (hx : VU P M x x') (w : World) :
    ∃ v', (Instr.field s x' f).run P w = .ok v' w ∧ VR P M r v' := by
  unfold fieldV at he
  split at he <;> try contradiction
  rename_i t tf hf
  obtain ⟨fs, fd, hd, hfd, htf, h0, hte, hts, hko⟩ := fldT_snd L hf
  injection hte with hte; subst hte
  split at he <;> try contradiction
  rename_i u cs
  replace he := cond_some he
  obtain ⟨h1, he⟩ := he
  simp only [beq_eq, decide_eq_true_eq] at h1
  subst h1
  have hx := hx.known (by simp)
  obtain ⟨cells, rfl, hr⟩ := hx
  obtain ⟨v', p1, p2, _⟩ := part_snd L hr he (by rw [L.koff_eq hts]; exact hko) w
  refine ⟨v', ?_, p2⟩
  simp only [Instr.field, Sem.run_bind, run_underlying (desc_und hd), Result.andThen_ok, hfd, asAgg, Sem.run_pure, p1]

theorem ext_snd {M : Inj} {x r : V} {i : Nat} {x' : Value} (he : ext x i = some r) (hx : VU P M x x') (w : World) : ∃ v', (Instr.extract x' i).run P w = .ok v' w ∧ VR P M r v' := by
  unfold ext at he
  split at he <;> try contradiction
  rename_i vs
  have hx := hx.known (by simp)
  simp only [VR, R] at hx
  obtain ⟨vs', e, hv⟩ := hx
  injection e with e; subst e
  have key : ∀ (vs : List V) (vs' : List Value) (i : Nat), RVs P M vs vs' → vs[i]? = some r → ∃ v', vs'[i]? = some v' ∧ VR P M r v' := by
    intro vs
    induction vs with
    | nil => intro _ i _ h; simp at h
    | cons v vs ih =>
      intro vs' i h hi
      simp only [RVs] at h
      obtain ⟨v', c', rfl, a, b⟩ := h
      cases i with
      | zero => simp at hi; subst hi; exact ⟨v', rfl, a⟩
      | succ i => simp at hi; obtain ⟨v2, e1, e2⟩ := ih c' i b hi; exact ⟨v2, by simpa using e1, e2⟩
  obtain ⟨v', e1, e2⟩ := key vs vs' i hv he
  refine ⟨v', ?_, e2⟩
  simp [Instr.extract, e1]

/-- indices -/
theorem ixK_arr (_L : Lay P) {t : TypeId} {tg te : Option Nat} {n : Nat} (h : ixK P t = .arr tg n te) : ∃ e, desc P t = some (.array n e) ∧ tgo P e = some te ∧ P.cellsOf e ≠ 0 ∧ tg = some (undId P t) ∧ tgo P t = some (some (undId P t)) := by
  unfold ixK at h
  split at h <;> try contradiction
  · rename_i n' e hd
    split at h <;> try contradiction
    rename_i te' ht
    cases h0 : Nat.beq (P.cellsOf e) 0
    · rw [h0] at h
      simp only [cond_false, IxK.arr.injEq] at h
      obtain ⟨rfl, rfl, rfl⟩ := h
      exact ⟨e, hd, ht, by simpa [beq_eq] using h0, rfl, by unfold tgo; rw [hd]⟩
    · rw [h0] at h; cases h
  · split at h <;> try contradiction
    rename_i e hd _ te' _
    cases h0 : Nat.beq (P.cellsOf e) 0 <;> rw [h0] at h <;> cases h
theorem ixK_slc {t : TypeId} {te : Option Nat} (h : ixK P t = .slc te) : ∃ e, desc P t = some (.slice e) ∧ tgo P e = some te ∧ P.cellsOf e ≠ 0 := by
  unfold ixK at h
  split at h <;> try contradiction
  · rename_i n' e hd
    split at h <;> try contradiction
    cases h0 : Nat.beq (P.cellsOf e) 0 <;> rw [h0] at h <;> cases h
  · rename_i e hd
    split at h <;> try contradiction
    rename_i te' ht
    cases h0 : Nat.beq (P.cellsOf e) 0
    · rw [h0] at h
      simp only [cond_false, IxK.slc.injEq] at h
      subst h
      exact ⟨e, hd, ht, by simpa [beq_eq] using h0⟩
    · rw [h0] at h; cases h
theorem ixK_str {t : TypeId} (h : ixK P t = .str) : desc P t = some .string := by
  unfold ixK at h
  split at h <;> try contradiction
  · split at h <;> try contradiction
    rename_i e _ _ _ _
    cases h0 : Nat.beq (P.cellsOf e) 0 <;> rw [h0] at h <;> cases h
  · split at h <;> try contradiction
    rename_i e _ _ _ _
    cases h0 : Nat.beq (P.cellsOf e) 0 <;> rw [h0] at h <;> cases h
  · assumption

theorem indexV_snd {M : Inj} (L : Lay P) {t : TypeId} {x i r : V} {x' i' : Value} (he : indexV (ixK P t) x i = some r) (hx : VU P M x x') (hi : VU P M i i') (w : World) :
    ∃ v', (Instr.index t x' i').run P w = .ok v' w ∧ VR P M r v' := by
  unfold indexV at he
  split at he <;> try contradiction
  rename_i k n
  have := hi.int; subst this
  replace he := cond_none he
  obtain ⟨h1, he⟩ := he
  have hn : 0 ≤ n := by simpa using h1
  split at he <;> try contradiction
  · rename_i tg l te u cs hk
    replace he := cond_some he
    obtain ⟨h2, he⟩ := he
    obtain ⟨e, hd, hte, h0, htg, ht⟩ := ixK_arr L hk
    simp only [Bool.and_eq_true, beq_eq, blt_eq, decide_eq_true_eq] at h2
    obtain ⟨rfl, hlt⟩ := h2
    injection htg with htg; subst htg
    obtain ⟨cells, rfl, hr⟩ := hx.known (by simp)
    obtain ⟨v', p1, p2, _⟩ := part_snd L hr he (by rw [L.koff_eq ht]; exact koff_arr hd hlt) w
    refine ⟨v', ?_, p2⟩
    have hc : 0 ≤ n ∧ n < (l : Int) := by omega
    simp only [Instr.index, asIntOf, Sem.run_bind, Sem.run_pure, Result.andThen_ok, run_underlying (desc_und hd), if_pos hc, run_size hte, p1]
  · rename_i s hk
    have hd := ixK_str hk
    have := hx.str; subst this
    cases hb : s[n.toNat]? with
    | none => rw [hb] at he; simp at he
    | some b =>
    rw [hb] at he
    injection he with he; subst he
    refine ⟨_, ?_, VR_int.2 rfl⟩
    have hget : (⟨s.toArray⟩ : ByteArray)[n.toNat]? = some b := by
      have hlt := getElem?_lt hb
      have : n.toNat < (⟨s.toArray⟩ : ByteArray).size := by rw [size_mk]; exact hlt
      rw [getElem?_pos (⟨s.toArray⟩ : ByteArray) n.toNat this]
      rw [List.getElem?_eq_getElem hlt] at hb
      injection hb with hb; subst hb; rfl
    simp only [Instr.index, asIntOf, Sem.run_bind, Sem.run_pure, Result.andThen_ok, run_underlying (desc_und hd), if_pos hn, hget]

theorem indexA_snd {M : Inj} (L : Lay P) {t : TypeId} {x i r : V} {x' i' : Value} (he : indexA (ixK P t) x i = some r) (hx : VU P M x x') (hi : VU P M i i') (w : World) :
    ∃ v', (Instr.indexAt t x' i').run P w = .ok v' w ∧ VR P M r v' := by
  unfold indexA at he
  split at he <;> try contradiction
  rename_i k n
  have := hi.int; subst this
  replace he := cond_none he
  obtain ⟨h1, he⟩ := he
  have hn : 0 ≤ n := by simpa using h1
  split at he <;> try contradiction
  · rename_i tg l te tp b p hk
    replace he := cond_some he
    obtain ⟨h2, he⟩ := he
    injection he with he; subst he
    obtain ⟨e, hd, hte, h0, rfl, ht⟩ := ixK_arr L hk
    simp only [Bool.and_eq_true, blt_eq, decide_eq_true_eq] at h2
    obtain ⟨h2, hlt⟩ := h2
    have := tgEq_eq h2; subst this
    have hx := hx.known (by simp)
    simp only [VR, R] at hx
    obtain ⟨cb, base, e0, lim, j, q, o, t', hM, rfl, ho, htt, hpe⟩ := hx
    injection hpe with hpe; subst hpe
    have hko : koff P t' n.toNat = some (n.toNat * P.cellsOf e, e) := by rw [koff_tag L htt ht]; exact koff_arr hd hlt
    refine ⟨.pointer (some ⟨cb, base + j * P.cellsOf e0 + o + n.toNat * P.cellsOf e, none⟩), ?_, ?_⟩
    · have hc : 0 ≤ n ∧ n < (l : Int) := by omega
      simp only [Instr.indexAt, asIntOf, Sem.run_bind, Sem.run_pure, Result.andThen_ok, run_underlying (desc_und hd), Instr.sureAddr, if_pos hc, run_size hte, addr_add]
    · simp only [VR, R]
      exact ⟨cb, base, e0, lim, j, q ++ [n.toNat], o + n.toNat * P.cellsOf e, e, hM, rfl, offT_snoc L q e0 o t' _ _ _ ho hko, hte, by rw [Nat.add_assoc]⟩
  · rename_i te tp b p s m ex hk
    replace he := cond_some he
    obtain ⟨h2, he⟩ := he
    injection he with he; subst he
    obtain ⟨e, hd, hte, h0⟩ := ixK_slc hk
    simp only [Bool.and_eq_true, blt_eq, decide_eq_true_eq] at h2
    obtain ⟨h2, hlt⟩ := h2
    have := tgEq_eq h2; subst this
    have hx := hx.known (by simp)
    simp only [VR, R] at hx
    obtain ⟨cb, base, e0, lim, bo, e', lim', ad, cap, hM, hnode, hte', hncap, hscap, had, _, hpe⟩ := hx
    injection hpe with hpe; subst hpe
    have hsz := L.size_eq hte hte'
    have had : ad = bo + s * P.cellsOf e' := by rcases had with h | h; omega; exact h
    subst had
    refine ⟨.pointer (some ⟨cb, bo + s * P.cellsOf e' + n.toNat * P.cellsOf e, none⟩), ?_, ?_⟩
    · have hc : 0 ≤ n ∧ n < (m : Int) := by omega
      simp only [Instr.indexAt, asIntOf, Sem.run_bind, Sem.run_pure, Result.andThen_ok, run_underlying (desc_und hd), if_pos hc, run_size hte, addr_add]
    · simp only [VR, R]
      cases p with
      | nil =>
        simp only [nodeT, Option.some.injEq, Prod.mk.injEq] at hnode
        obtain ⟨rfl, rfl, rfl⟩ := hnode
        exact ⟨cb, base, e0, lim, s + n.toNat, [], 0, e0, hM, rfl, rfl, hte', by rw [hsz, Nat.add_mul]; simp [Nat.add_assoc]⟩
      | cons j q =>
        simp only [nodeT] at hnode
        cases ho : offT P e0 q with
        | none => rw [ho] at hnode; simp at hnode
        | some y =>
          obtain ⟨o, t'⟩ := y
          rw [ho] at hnode; simp only at hnode
          split at hnode <;> try contradiction
          rename_i n2 e2 hd2
          simp only [Option.some.injEq, Prod.mk.injEq] at hnode
          obtain ⟨rfl, rfl, rfl⟩ := hnode
          have hko : koff P t' (s + n.toNat) = some ((s + n.toNat) * P.cellsOf e2, e2) := koff_arr hd2 (by omega)
          exact ⟨cb, base, e0, lim, j, q ++ [s + n.toNat], o + (s + n.toNat) * P.cellsOf e2, e2, hM, rfl, offT_snoc L q e0 o t' _ _ _ ho hko, hte', by rw [hsz, Nat.add_mul]; simp [Nat.add_assoc]⟩
end Go.AM

namespace Go.AM
open Go
variable {P : Program}

theorem RL.split {M : Inj} (L : Lay P) {e : TypeId} : ∀ {as bs : List V} {c : List Value}, RL P M (as ++ bs) (List.replicate (as.length + bs.length) e) c →
    RL P M as (List.replicate as.length e) (c.take (as.length * P.cellsOf e)) ∧ RL P M bs (List.replicate bs.length e) (c.drop (as.length * P.cellsOf e))
  | [], bs, c => by intro h; simpa [RL] using h
  | a :: as, bs, c => by
    intro h
    simp only [List.cons_append, List.length_cons] at h
    rw [show as.length + 1 + bs.length = (as.length + bs.length) + 1 from by omega, List.replicate_succ] at h
    simp only [RL] at h
    obtain ⟨t, ts', c1, c2, e1, rfl, ok, hv, hl⟩ := h
    injection e1 with e1 e2
    subst e1 e2
    have hlen := R.len L _ _ _ hv ok
    obtain ⟨g1, g2⟩ := RL.split L hl
    constructor
    · simp only [List.length_cons, List.replicate_succ, RL]
      refine ⟨e, _, c1, _, rfl, ?_, ok, hv, g1⟩
      rw [Nat.succ_mul, List.take_append, List.take_of_length_le (by omega)]
      congr 2; omega
    · simp only [List.length_cons]
      rw [Nat.succ_mul, List.drop_append, List.drop_of_length_le (by omega), List.nil_append]
      rw [show as.length * P.cellsOf e + P.cellsOf e - c1.length = as.length * P.cellsOf e from by omega]
      exact g2
theorem RL.app {M : Inj} {e : TypeId} : ∀ {as bs : List V} {c d : List Value}, RL P M as (List.replicate as.length e) c → RL P M bs (List.replicate bs.length e) d → RL P M (as ++ bs) (List.replicate (as ++ bs).length e) (c ++ d)
  | [], bs, c, d => by
    intro h1 h2
    simp only [RL] at h1
    obtain ⟨_, rfl⟩ := h1
    simpa using h2
  | a :: as, bs, c, d => by
    intro h1 h2
    simp only [List.length_cons, List.replicate_succ, RL] at h1
    obtain ⟨t, ts', c1, c2, e1, rfl, ok, hv, hl⟩ := h1
    injection e1 with e1 e2
    subst e1 e2
    simp only [List.cons_append, List.length_cons, List.replicate_succ, RL]
    exact ⟨e, _, c1, _, rfl, by rw [List.append_assoc], ok, hv, RL.app hl h2⟩

theorem RL.sub {M : Inj} (L : Lay P) {e : TypeId} {es : List V} {N : Nat} {c : List Value} (h : RL P M es (List.replicate N e) c) {s n : Nat} (hn : s + n ≤ N) :
    RL P M ((es.drop s).take n) (List.replicate n e) ((c.drop (s * P.cellsOf e)).take (n * P.cellsOf e)) := by
  have hN : es.length = N := by rw [RL.length h]; simp
  have h1 : RL P M (es.take s ++ es.drop s) (List.replicate ((es.take s).length + (es.drop s).length) e) c := by
    rw [List.take_append_drop]
    rw [show (es.take s).length + (es.drop s).length = N from by rw [List.length_take, List.length_drop]; omega]
    exact h
  obtain ⟨_, g⟩ := RL.split L h1
  rw [show (es.take s).length = s from by rw [List.length_take]; omega] at g
  have h2 : RL P M ((es.drop s).take n ++ (es.drop s).drop n) (List.replicate (((es.drop s).take n).length + ((es.drop s).drop n).length) e) (c.drop (s * P.cellsOf e)) := by
    rw [List.take_append_drop]
    rw [show ((es.drop s).take n).length + ((es.drop s).drop n).length = (es.drop s).length from by simp only [List.length_take, List.length_drop]; omega]
    exact g
  obtain ⟨k, _⟩ := RL.split L h2
  rw [show ((es.drop s).take n).length = n from by simp only [List.length_take, List.length_drop]; omega] at k
  exact k

theorem RL.retype {M : Inj} {e e' : TypeId} {tg : Option Nat} (h : tgo P e = some tg) (h' : tgo P e' = some tg) : ∀ {es : List V} {n : Nat} {c : List Value}, RL P M es (List.replicate n e') c → RL P M es (List.replicate n e) c
  | [], n, c => by
    simp only [RL]
    rintro ⟨h1, rfl⟩
    cases n with
    | zero => exact ⟨rfl, rfl⟩
    | succ n => simp at h1
  | v :: es, n, c => by
    simp only [RL]
    rintro ⟨t, ts', c1, c2, e1, rfl, ok, hv, hl⟩
    cases n with
    | zero => simp at e1
    | succ n =>
      rw [List.replicate_succ] at e1
      injection e1 with e1 e2
      subst e1 e2
      refine ⟨e, _, c1, c2, by rw [List.replicate_succ], rfl, ?_, hv, RL.retype h h' hl⟩
      obtain ⟨tg', k1, k2⟩ := ok
      rw [h'] at k1; injection k1 with k1; subst k1
      exact ⟨tg, h, k2⟩

/-- the elements of a slice, and where they lie -/
theorem elems_snd {M : Inj} {h : H} {w : World} (L : Lay P) (S : St P M h w) {e : TypeId} {tg : Option Nat} (hte : tgo P e = some tg) {v : V} {es : List V} {v' : Value} (he : h.elems tg v = some es) (hv : VU P M v v') :
    ∃ a cap, v' = .slice a es.length cap ∧ es.length ≤ cap ∧ (a = none → es = [] ∧ cap = 0) ∧ (a = none ∨ es.length = 0 ∨ ∃ c o cells el lo hi, a = some ⟨c, o, none⟩ ∧ w.heap[c]? = some (.cells cells el (lo, hi)) ∧ o + es.length * P.cellsOf e ≤ cells.size ∧
      RL P M es (List.replicate es.length e) ((cells.toList.drop o).take (es.length * P.cellsOf e))) := by
  unfold H.elems at he
  split at he <;> try contradiction
  · injection he with he; subst he
    have := hv.known (by simp)
    rw [VR_nils] at this; subst this
    exact ⟨none, 0, rfl, Nat.le_refl _, fun _ => ⟨rfl, rfl⟩, .inl rfl⟩
  · replace he := (cond_some he).2
    injection he with he; subst he
    have := hv.known (by simp)
    simp only [VR, R] at this
    obtain ⟨a, e⟩ := this
    injection e with e; subst e
    exact ⟨some a, 0, rfl, Nat.le_refl _, fun _ => ⟨rfl, rfl⟩, .inr (.inl rfl)⟩
  · rename_i te b p s n ex
    replace he := cond_some he
    obtain ⟨h1, he⟩ := he
    have := tgEq_eq h1; subst this
    have hv := hv.known (by simp)
    simp only [VR, R] at hv
    obtain ⟨cb, base, e0, lim, bo, e', lim', ad, cap, hM, hnode, hte', hncap, hscap, had, _, hpe⟩ := hv
    injection hpe with hpe; subst hpe
    have hsz := L.size_eq hte hte'
    cases hnd : h.els b p with
    | none => rw [hnd] at he; cases he
    | some all =>
      rw [hnd] at he
      replace he := cond_some he
      obtain ⟨hle, he⟩ := he
      rw [ble_eq, decide_eq_true_eq] at hle
      injection he with he; subst he
      have hlen : ((all.drop s).take n).length = n := by rw [List.length_take, List.length_drop]; omega
      rw [hlen]
      refine ⟨some ⟨cb, ad, none⟩, cap, rfl, hncap, by simp, .inr ?_⟩
      by_cases hn0 : n = 0
      · exact .inl hn0
      · refine .inr ?_
        have had : ad = bo + s * P.cellsOf e' := by rcases had with h | h; omega; exact h
        subst had
        cases p with
        | nil =>
          simp only [nodeT, Option.some.injEq, Prod.mk.injEq] at hnode
          obtain ⟨rfl, rfl, rfl⟩ := hnode
          simp only [H.els] at hnd
          cases hg : h.get b with
          | none => rw [hg] at hnd; simp at hnd
          | some blk =>
            rw [hg] at hnd
            cases blk with
            | mp es => simp at hnd
            | row ro es =>
              simp only [Option.some.injEq] at hnd; subst hnd
              obtain ⟨c0, base0, e1, lim0, g1, cells, el, lo, hi', g2, g3, g4, g5, g6, g7, g8⟩ := S.blk _ _ hg
              rw [hM] at g1; injection g1 with g1; injection g1 with g1a g1b g1c g1d
              subst g1a g1b g1c g1d
              have hmul := Nat.mul_le_mul_right (P.cellsOf e0) g3
              have hmul2 := Nat.mul_le_mul_right (P.cellsOf e0) hle
              rw [Nat.add_mul] at hmul2
              refine ⟨cb, _, cells, el, lo, hi', rfl, g2, by rw [hsz]; omega, ?_⟩
              have := RL.sub L g5 hle
              rw [List.drop_take, List.take_take, List.drop_drop, Nat.min_eq_left (by omega)] at this
              rw [hsz]
              exact RL.retype hte hte' this
        | cons j q =>
          simp only [nodeT] at hnode
          cases ho : offT P e0 q with
          | none => rw [ho] at hnode; simp at hnode
          | some y =>
            obtain ⟨o, t'⟩ := y
            rw [ho] at hnode; simp only at hnode
            split at hnode <;> try contradiction
            rename_i n2 e2 hd2
            simp only [Option.some.injEq, Prod.mk.injEq] at hnode
            obtain ⟨rfl, rfl, rfl⟩ := hnode
            simp only [H.els] at hnd
            cases hat : h.at b (j :: q) with
            | none => rw [hat] at hnd; simp at hnd
            | some x =>
              rw [hat] at hnd
              cases x <;> simp only [Option.some.injEq, reduceCtorEq] at hnd
              rename_i u cs
              subst hnd
              obtain ⟨cells, el, lo, hi', k1, k2, k3, k4⟩ := S.at L hat hM ho
              have htt : tgo P t' = some (some (undId P t')) := by unfold tgo; rw [hd2]
              simp only [R] at k3
              have hu : u = undId P t' := by simpa [tagOk] using k2.of_tag htt
              subst hu
              obtain ⟨_, k3⟩ := k3
              rw [L.kids_eq htt, kid_arr hd2] at k3
              have hcs : cs.length = n2 := by rw [RL.length k3]; simp
              have hct : P.cellsOf t' = n2 * P.cellsOf e2 := by
                rw [L.sz _ _ htt, kid_arr hd2]
                have := sum_replicate n2 e2 P.cellsOf n2 (Nat.le_refl _)
                rwa [List.take_of_length_le (by simp)] at this
              have hmul2 := Nat.mul_le_mul_right (P.cellsOf e2) hle
              rw [Nat.add_mul, hcs] at hmul2
              refine ⟨cb, _, cells, el, lo, hi', rfl, k1, by rw [hsz]; omega, ?_⟩
              have := RL.sub L k3 (s := s) (n := n) (by omega)
              rw [List.drop_take, List.take_take, List.drop_drop, Nat.min_eq_left (by omega)] at this
              rw [hsz]
              exact RL.retype hte hte' this

/-- the elements of a slice or a string, as the machine loads them -/
theorem src_snd {M : Inj} {h : H} {w : World} (L : Lay P) (S : St P M h w) {e : TypeId} {tg : Option Nat} (hte : tgo P e = some tg) {v : V} {es : List V} {v' : Value} (he : srcEl h tg v = some es) (hv : VU P M v v') :
    (∀ w0, (Builtin.lenOf v').run P w0 = .ok es.length w0) ∧ ∀ n, n ≤ es.length → ∃ cells : Array Value, (∀ w0 : World, w0.heap = w.heap → (Builtin.firstCells (P.cellsOf e) n v').run P w0 = .ok cells w0) ∧ RL P M (es.take n) (List.replicate n e) cells.toList := by
  unfold srcEl at he
  split at he
  · rename_i l
    replace he := cond_some he
    obtain ⟨h1, he⟩ := he
    have := tgEq_eq h1; subst this
    injection he with he; subst he
    have := hv.str; subst this
    refine ⟨fun w0 => by simp [Builtin.lenOf, size_mk, strEl], fun n hn => ?_⟩
    refine ⟨((⟨l.toArray⟩ : ByteArray).extract 0 n).data.map fun b => .int .u8 b.toNat, fun w0 _ => rfl, ?_⟩
    have hx : (((⟨l.toArray⟩ : ByteArray).extract 0 n).data.map fun b => Value.int .u8 (b.toNat : Int)).toList = (l.take n).map fun b => Value.int .u8 (b.toNat : Int) := by
      rw [Array.toList_map, ByteArray.data_extract]
      simp
    rw [hx]
    have key : ∀ (l : List UInt8) (n : Nat), n ≤ l.length → RL P M ((strEl l).take n) (List.replicate n e) ((l.take n).map fun b => Value.int .u8 (b.toNat : Int)) := by
      intro l
      induction l with
      | nil => intro n hn; simp at hn; subst hn; simp [strEl, RL]
      | cons b l ih =>
        intro n hn
        cases n with
        | zero => simp [RL]
        | succ n =>
          simp only [strEl, List.map_cons, List.take_succ_cons, List.replicate_succ, RL]
          exact ⟨e, _, [.int .u8 b.toNat], _, rfl, rfl, ⟨none, hte, rfl⟩, by simp [R], ih n (by simpa using hn)⟩
    exact key l n (by simpa [strEl] using hn)
  · obtain ⟨a, cap, rfl, h1, h2, h3⟩ := elems_snd L S hte he hv
    refine ⟨fun w0 => rfl, fun n hn => ?_⟩
    rcases h3 with rfl | h3 | ⟨c, o, cells, el, lo, hi, rfl, g2, g3, g4⟩
    · obtain ⟨rfl, rfl⟩ := h2 rfl
      simp at hn; subst hn
      exact ⟨#[], fun w0 _ => rfl, by simp [RL]⟩
    · have : n = 0 := by omega
      subst this
      refine ⟨#[], fun w0 _ => ?_, by simp [RL]⟩
      cases a with
      | none => rfl
      | some a => simp [Builtin.firstCells, loadCells, loadCellsFrom]
    · have hmul := Nat.mul_le_mul_right (P.cellsOf e) hn
      have hsub := RL.sub L g4 (s := 0) (n := n) (by omega)
      simp only [List.drop_zero, Nat.zero_mul] at hsub
      rw [List.take_take, Nat.min_eq_left hmul] at hsub
      refine ⟨((cells.toList.drop o).take (n * P.cellsOf e)).toArray, fun w0 hw0 => ?_, by simpa using hsub⟩
      have hlen : ((cells.toList.drop o).take (n * P.cellsOf e)).length = n * P.cellsOf e := by
        rw [List.length_take, List.length_drop]; simp; omega
      have := run_loadCells_list (P := P) w0 ⟨c, o, none⟩ ((cells.toList.drop o).take (n * P.cellsOf e)) (by
        intro j v hj
        rw [addr_add, cell_at (by rw [hw0]; exact g2)]
        rw [List.getElem?_take, List.getElem?_drop] at hj
        split at hj
        · simpa using hj
        · cases hj)
      rw [hlen] at this
      exact this
end Go.AM

namespace Go.AM
open Go
variable {P : Program}

/-- a block is forgotten -/
theorem St.drop {M : Inj} {h : H} {w : World} (S : St P M h w) {b : Nat} (hb : b < h.next) : St P M (h.set b none) w ∧ Ext M h w M (h.set b none) w := by
  have hget : ∀ b0 x0, (h.set b none).get b0 = some x0 → h.get b0 = some x0 := by
    intro b0 x0 g
    rw [H.get_set _ _ _ _ hb] at g
    by_cases e : b0 = b
    · simp [e] at g
    · simpa [e] using g
  refine ⟨⟨fun b0 x0 g => S.blk _ _ (hget _ _ g), fun b1 b2 x1 x2 i1 i2 g1 g2 => S.exc b1 b2 x1 x2 i1 i2 (hget _ _ g1) (hget _ _ g2), S.dom, S.cid⟩, ⟨.refl _, Nat.le_refl _, Nat.le_refl _, fun _ _ _ => rfl, ?_, ?_, rfl, rfl, rfl⟩⟩
  · intro b0 x i g1 g3; exact .inr ⟨b0, x, i, hget _ _ g1, id, g3, rfl⟩
  · intro b0 i g1 g2; rw [g1] at g2; cases g2

theorem nextslicecap_le (n c : Nat) (h : c < n) : Builtin.nextslicecap n c ≤ 2 * n := by
  have grow : ∀ (r c : Nat), c ≤ 2 * n → Builtin.growBy n r c ≤ 2 * n ∨ True := fun _ _ _ => .inr trivial
  clear grow
  have step : ∀ (r c : Nat), 256 ≤ c → c < n ∨ c ≤ 2 * n → c ≤ 2 * n → Builtin.growBy n r c ≤ 2 * n := by
    intro r
    induction r with
    | zero => intro c _ _ h; exact h
    | succ r ih =>
      intro c h1 _ h3
      simp only [Builtin.growBy]
      split
      · exact h3
      · have : c + (c + 768) / 4 ≤ 2 * n := by omega
        exact ih _ (by omega) (.inr this) this
  unfold Builtin.nextslicecap
  split
  · omega
  · split
    · omega
    · exact step 4 c (by omega) (.inl h) (by omega)

theorem zeroCells_len (z : Array Value) (n : Nat) : (Builtin.zeroCells z n).size = n * z.size := by
  simp [Builtin.zeroCells]

/-- a row with more behind it is good for a new block -/
theorem row_take {M : Inj} (L : Lay P) {es : List V} {e : TypeId} {c : List Value} (h : RL P M es (List.replicate es.length e) c) (d : List Value) : RL P M es (List.replicate es.length e) ((c ++ d).take (es.length * P.cellsOf e)) := by
  have hl := RL.len L _ _ _ h
  have := sum_replicate es.length e P.cellsOf es.length (Nat.le_refl _)
  rw [List.take_of_length_le (by simp)] at this
  rw [this] at hl
  rw [List.take_left' hl]
  exact h

theorem append_in {w : World} {t t1 ty e : TypeId} {d1 : TypeDesc} {sz nx : Nat} (hu : P.underlying t = some (.slice e)) (hd1 : P.underlying t1 = some d1) (hni : ∀ k, d1 ≠ .int k) (hsz : (sizeOf e).run P w = .ok sz w)
    {ats : Array TypeId} (h0 : ats[0]? = some t) (h1 : ats[1]? = some t1) {a : Option Addr} {n cap : Nat} {x' : Value} (hlen : (Builtin.lenOf x').run P w = .ok nx w) (hc : n + nx ≤ cap) {xc : Array Value} (hx : (Builtin.firstCells sz nx x').run P w = .ok xc w) :
    (Builtin.append_ ats ty #[.slice a n cap, x']).run P w = match a with
      | some a => ((storeCells (a.add (n * sz)) xc.toList).run P w).andThen fun _ w1 => .ok (.slice (some a) (n + nx) cap) w1
      | none => .ok (.slice none (n + nx) cap) w := by
  simp only [Builtin.append_, h0, h1]
  simp [Sem.run_bind, run_underlying hu, Result.andThen_ok, hsz, run_underlying hd1, hlen, hc, hx]
  cases a <;> simp

theorem append_new {w : World} {t t1 ty e : TypeId} {d1 : TypeDesc} {sz nx : Nat} {ie : TypeInfo} {zv : Value} (hu : P.underlying t = some (.slice e)) (hd1 : P.underlying t1 = some d1) (hni : ∀ k, d1 ≠ .int k) (hsz : ∀ w, (sizeOf e).run P w = .ok sz w) (hie : P.info? e = some ie)
    {ats : Array TypeId} (h0 : ats[0]? = some t) (h1 : ats[1]? = some t1) {a : Option Addr} {n cap : Nat} {x' : Value} (hlen : ∀ w, (Builtin.lenOf x').run P w = .ok nx w) (hc : ¬ n + nx ≤ cap) {sc xc : Array Value}
    (hs : ∀ w0 : World, w0.heap = w.heap → (Builtin.firstCells sz n (.slice a n cap)).run P w0 = .ok sc w0)
    (hx : ∀ w0 : World, w0.heap = w.heap → (Builtin.firstCells sz nx x').run P w0 = .ok xc w0) (hz : ∀ w, (zeroValue e).run P w = .ok zv w) (hby : ie.bytes ≠ 0) (hcap : Builtin.nextslicecap (n + nx) cap * ie.bytes ≤ 2 ^ 48) :
    ∃ nc, n + nx ≤ nc ∧ (Builtin.append_ ats ty #[.slice a n cap, x']).run P w =
      .ok (.slice (some ⟨w.heap.size, 0, none⟩) (n + nx) nc) { w with drawn := w.drawn + 1, heap := w.heap.push (.cells (sc ++ xc ++ Builtin.zeroCells zv.cells (nc - (n + nx))) e) } := by
  refine ⟨(Question.appendCap (n + nx) cap e).cut (w.tape w.drawn (.appendCap (n + nx) cap e)), by simp [Question.cut], ?_⟩
  simp only [Builtin.append_, h0, h1]
  have hc2 : ¬ (Builtin.nextslicecap (n + nx) cap * ie.bytes > 2 ^ 48) := by omega
  simp [Sem.run_bind, run_underlying hu, Result.andThen_ok, hsz, run_underlying hd1, hlen, hc, run_typeInfo _ hie, hby, Question.forced]
  rw [if_neg (by omega), hs w.drew rfl]
  simp only [Result.andThen_ok, hx w.drew rfl, hz, newRow, Sem.run_bind, run_newObj, Sem.run_pure]
  rfl

theorem app_snd {M : Inj} {h h' : H} {w : World} (L : Lay P) (S : St P M h w) {t t1 ty e : TypeId} {te : Option Nat} {b : Nat} (hel : elT P t = some (e, te, b)) (ht1 : lnK P t1 = .slc ∨ lnK P t1 = .str) {s x r : V} {s' x' : Value}
    (he : app (some (e, te, b)) h s x = some (r, h')) (hs : VU P M s s') (hx : VU P M x x') {ats : Array TypeId} (h0 : ats[0]? = some t) (h1 : ats[1]? = some t1) (hz : ∃ z, zeroV P e = some z) :
    ∃ v' w' M', (Builtin.append_ ats ty #[s', x']).run P w = .ok v' w' ∧ St P M' h' w' ∧ Ext M h w M' h' w' ∧ VR P M' r v' := by
  have hb0 := elT_bytes hel
  obtain ⟨hd, hte, hne, rfl⟩ := elT_snd hel
  have hu := desc_und hd
  obtain ⟨ie, hie⟩ := tgo_info hte
  have hbytes : P.bytesOf e = ie.bytes := by simp [Program.bytesOf, hie]
  have hnotint : ∃ d1, P.underlying t1 = some d1 ∧ (∀ k, d1 ≠ .int k) := by
    rcases ht1 with h | h <;> (unfold lnK at h; split at h <;> try contradiction) <;> (rename_i hd1; exact ⟨_, desc_und hd1, by simp⟩)
  obtain ⟨d1, hd1, hni⟩ := hnotint
  obtain ⟨z, hz⟩ := hz
  obtain ⟨zv, k1, k2, k3⟩ := zero_snd L M hz
  have hzl := R.len L _ _ _ k2 k3
  have hzs : zv.cells.size = P.cellsOf e := by simpa using hzl
  unfold app at he
  simp only at he
  cases hsrc : srcEl h te x with
  | none => rw [hsrc] at he; cases he
  | some xs =>
  rw [hsrc] at he
  simp only at he
  cases hels : h.elems te s with
  | none => rw [hels] at he; cases he
  | some es =>
  rw [hels] at he
  simp only at he
  obtain ⟨q1, q2⟩ := src_snd L S hte hsrc hx
  have hels' := elems_snd L S hte hels hs
  obtain ⟨a, cap, rfl, p1, p2, p3⟩ := hels'
  obtain ⟨xc, hxc, hxr⟩ := q2 xs.length (Nat.le_refl _)
  rw [List.take_length] at hxr
  have hxlen : xc.size = xs.length * P.cellsOf e := by
    have := RL.len L _ _ _ hxr
    have h2 := sum_replicate xs.length e P.cellsOf xs.length (Nat.le_refl _)
    rw [List.take_of_length_le (by simp)] at h2
    rw [h2] at this; simpa using this
  -- the old elements, as loaded
  have hsrc2 : srcEl h te s = some es := by
    unfold srcEl
    cases s <;> first | exact hels | (simp [H.elems] at hels)
  obtain ⟨_, o2⟩ := src_snd L S hte hsrc2 hs
  obtain ⟨sc, hsc, hsr⟩ := o2 es.length (Nat.le_refl _)
  rw [List.take_length] at hsr
  have hslen : sc.size = es.length * P.cellsOf e := by
    have := RL.len L _ _ _ hsr
    have h2 := sum_replicate es.length e P.cellsOf es.length (Nat.le_refl _)
    rw [List.take_of_length_le (by simp)] at h2
    rw [h2] at this; simpa using this
  cases xs with
  | nil =>
    simp only [Option.some.injEq, Prod.mk.injEq] at he
    obtain ⟨rfl, rfl⟩ := he
    have hxc0 : xc = #[] := by
      apply Array.eq_empty_of_size_eq_zero; rw [hxlen]; simp
    have hrun := append_in (ty := ty) hu hd1 hni (run_size hte w) h0 h1 (a := a) (n := es.length) (cap := cap) (q1 w) (by simpa using p1) (hxc w rfl)
    have hne : s ≠ .unk := by rintro rfl; simp [H.elems] at hels
    refine ⟨_, w, M, hrun.trans ?_, S, Ext.refl _ _ _, hs.known hne⟩
    subst hxc0
    cases a <;> simp [storeCells]
  | cons x0 xs0 =>
    generalize hxs : x0 :: xs0 = xs at *
    have hxpos : 0 < xs.length := by subst hxs; simp
    have he2 : (bif !Nat.ble ((es.length + xs.length) * P.bytesOf e) 140737488355328 then none else
      match s with
      | .nils => some (V.slc te h.next [] 0 xs.length false, h.push (.row false xs))
      | .slz _ => some (V.slc te h.next [] 0 xs.length false, h.push (.row false xs))
      | .slc _ b p _ n ex =>
          bif ex then some (.slc te h.next [] 0 (n + xs.length) false, h.push (.row false (es ++ xs)))
          else (match p, h.get b with
            | [], some (.row false _) => some (.slc te h.next [] 0 (n + xs.length) false, (h.set b none).push (.row false (es ++ xs)))
            | _, _ => none)
      | _ => none) = some (r, h') := by subst hxs; exact he
    clear he
    replace he2 := cond_none he2
    obtain ⟨hby, he⟩ := he2
    simp only [Bool.not_eq_false', ble_eq, decide_eq_true_eq] at hby
    have hcapn : ¬ es.length + xs.length ≤ cap → Builtin.nextslicecap (es.length + xs.length) cap * ie.bytes ≤ 2 ^ 48 := by
      intro hc
      have h3 := nextslicecap_le (es.length + xs.length) cap (by omega)
      have h4 := Nat.mul_le_mul_right ie.bytes h3
      rw [hbytes] at hby
      have h5 : 2 * (es.length + xs.length) * ie.bytes = 2 * ((es.length + xs.length) * ie.bytes) := Nat.mul_assoc _ _ _
      omega
    have hall := RL.app hsr hxr
    -- a new block
    have hnew : ∀ (M1 : Inj) (h2 : H), M.le M1 → M1 = M → St P M h2 w → Ext M h w M h2 w → h2.next = h.next → ¬ es.length + xs.length ≤ cap →
        ∃ v' w' M', (Builtin.append_ ats ty #[.slice a es.length cap, x']).run P w = .ok v' w' ∧ St P M' (h2.push (.row false (es ++ xs))) w' ∧ Ext M h w M' (h2.push (.row false (es ++ xs))) w' ∧ VR P M' (.slc te h.next [] 0 (es.length + xs.length) false) v' := by
      intro M1 h2 _ _ S2 X2 hnx hc
      obtain ⟨nc, g1, g2⟩ := append_new (ty := ty) hu hd1 hni (run_size hte) hie h0 h1 (a := a) (n := es.length) (cap := cap) (q1) hc hsc hxc k1 (by rw [← hbytes]; exact hb0) (hcapn hc)
      have hcs : (sc ++ xc ++ Builtin.zeroCells zv.cells (nc - (es.length + xs.length))).size = nc * P.cellsOf e := by
        simp only [Array.size_append, zeroCells_len, hslen, hxlen, hzs, ← Nat.add_mul]
        congr 1; omega
      obtain ⟨s1, s2⟩ := (S2.same (w' := { w with drawn := w.drawn + 1 }) rfl).row (es := es ++ xs) (e := e) (el := e) (lim := nc) (cells := sc ++ xc ++ Builtin.zeroCells zv.cells (nc - (es.length + xs.length))) (by simpa using g1) (by rw [hcs]; exact Nat.le_refl _) (by
        simp only [Array.toList_append]
        exact row_take L hall _) (by omega) (by rw [hte]; rfl) _ (Ch.new _ _)
      refine ⟨_, _, _, g2, s1, (X2.trans (Ext.same M h2 (w' := { w with drawn := w.drawn + 1 }) rfl rfl rfl rfl)).trans s2, ?_⟩
      have := slc_VR (P := P) (M := M.add h2.next (.row w.heap.size 0 e nc)) (b := h2.next) (s := 0) (n := es.length + xs.length) (cap := nc) (x := false) (Inj.add_self _ _ _) hte g1 (by omega) (by simp)
      rw [hnx] at this ⊢
      simpa using this
    cases s <;> simp only [reduceCtorEq] at he
    case nils =>
      simp only [Option.some.injEq, Prod.mk.injEq] at he
      obtain ⟨rfl, rfl⟩ := he
      have hes : es = [] := by simp [H.elems] at hels; exact hels
      subst hes
      have ha : a = none ∧ cap = 0 := by
        have := hs.known (by simp)
        rw [VR_nils] at this
        injection this with e1 e2 e3
        exact ⟨e1, e3⟩
      obtain ⟨rfl, rfl⟩ := ha
      have := hnew M h (.refl _) rfl S (Ext.refl _ _ _) rfl (by simp only [List.length_nil]; omega)
      simpa using this
    case slz tg =>
      simp only [Option.some.injEq, Prod.mk.injEq] at he
      obtain ⟨rfl, rfl⟩ := he
      have hes : es = [] := by
        simp only [H.elems] at hels
        have := (cond_some hels).2
        injection this with this; exact this.symm
      subst hes
      have ha : cap = 0 := by
        have := hs.known (by simp)
        simp only [VR, R] at this
        obtain ⟨_, e⟩ := this
        injection e with e
        injection e with e1 e2 e3
      subst ha
      have := hnew M h (.refl _) rfl S (Ext.refl _ _ _) rfl (by simp only [List.length_nil]; omega)
      simpa using this
    case slc tg b p st n ex =>
      have hn : n = es.length := by
        have := hs.known (by simp)
        simp only [VR, R] at this
        obtain ⟨_, _, _, _, _, _, _, _, _, _, _, _, _, _, _, _, e⟩ := this
        injection e with e
        injection e with e1 e2 e3
        exact e2.symm
      subst hn
      cases ex with
      | true =>
        simp only [cond_true, Option.some.injEq, Prod.mk.injEq] at he
        obtain ⟨rfl, rfl⟩ := he
        have hcap : cap = es.length := by
          have := hs.known (by simp)
          simp only [VR, R] at this
          obtain ⟨_, _, _, _, _, _, _, _, cap', _, _, _, _, _, _, hx1, e⟩ := this
          injection e with e
          injection e with e1 e2 e3
          rw [e3]; exact hx1 trivial
        exact hnew M h (.refl _) rfl S (Ext.refl _ _ _) rfl (by omega)
      | false =>
        simp only [cond_false] at he
        split at he <;> try contradiction
        rename_i all hg
        simp only [Option.some.injEq, Prod.mk.injEq] at he
        obtain ⟨rfl, rfl⟩ := he
        have hlt := H.get_lt hg
        by_cases hc : es.length + xs.length ≤ cap
        · -- in place
          have hv := hs.known (by simp)
          simp only [VR, R] at hv
          obtain ⟨cb, base, e0, lim, bo, e', lim', ad, cap', hM, hnode, hte', hncap, hscap, had, _, hpe⟩ := hv
          injection hpe with hpe
          injection hpe with e1 e2 e3
          subst e1 e3
          simp only [nodeT, Option.some.injEq, Prod.mk.injEq] at hnode
          obtain ⟨rfl, rfl, rfl⟩ := hnode
          have htg : tg = te := by
            simp only [H.elems] at hels
            exact tgEq_eq (cond_some hels).1
          subst htg
          have hsz := L.size_eq hte hte'
          have had : ad = base + st * P.cellsOf e0 := by rcases had with h | h; omega; exact h
          subst had
          obtain ⟨c0, base0, e1, lim0, g1, cells, el, lo, hi', g2, g3, g4, g5, g6, g7, g8⟩ := S.blk _ _ hg
          rw [hM] at g1; injection g1 with g1; injection g1 with g1a g1b g1c g1d
          subst g1a g1b g1c g1d
          have hlimcap : (st + cap) * P.cellsOf e0 ≤ lim * P.cellsOf e0 := Nat.mul_le_mul_right _ hscap
          have hcc : (es.length + xs.length) * P.cellsOf e0 ≤ cap * P.cellsOf e0 := Nat.mul_le_mul_right _ hc
          rw [Nat.add_mul] at hlimcap hcc
          have hxsz : xc.toList.length = xs.length * P.cellsOf e0 := by rw [← hsz]; simpa using hxlen
          have hxsz' : xc.size = xs.length * P.cellsOf e0 := by simpa using hxsz
          obtain ⟨w', r1, r2⟩ := stores_run (P := P) cb (base + st * P.cellsOf e0 + es.length * P.cellsOf e0) el (lo, hi') xc.toList 0 cells w g2 (by omega) (g6 rfl).2 (RL.cells1 _ _ _ hxr)
          have hrun := append_in (ty := ty) hu hd1 hni (run_size hte w) h0 h1 (a := some ⟨cb, base + st * P.cellsOf e0, none⟩) (n := es.length) (cap := cap) (q1 w) hc (hxc w rfl)
          simp only [addr_add, hsz, r1, Result.andThen_ok] at hrun
          have hputl : (put cells.toList (base + st * P.cellsOf e0 + es.length * P.cellsOf e0 + 0) xc.toList).length = cells.toList.length := put_length (by simp only [Array.length_toList]; omega)
          obtain ⟨s1, s2⟩ := S.take (i' := .row cb (base + st * P.cellsOf e0) e0 (lim - st)) (x' := .row false (es ++ xs)) hg (by simp [rw?]) hM rfl r2 (by
            refine ⟨cb, _, e0, lim - st, Inj.add_self _ _ _, _, el, lo, hi', r2.at_, by simp; omega, ?_, ?_, ?_, g7, g8⟩
            · simp only [List.size_toArray, hputl, Array.length_toList]
              have : st * P.cellsOf e0 + (lim - st) * P.cellsOf e0 = lim * P.cellsOf e0 := by rw [← Nat.add_mul]; congr 1; omega
              omega
            · have hold := (elems_snd L S hte hels hs)
              obtain ⟨a2, cap2, ea, _, _, hold⟩ := hold
              injection ea with ea1 ea2 ea3
              subst ea1
              have hrl : RL P (M.add h.next (.row cb (base + st * P.cellsOf e0) e0 (lim - st))) (es ++ xs) (List.replicate (es ++ xs).length e0) (((cells.toList.drop (base + st * P.cellsOf e0)).take (es.length * P.cellsOf e0)) ++ xc.toList) := by
                refine RL.mono (Inj.le_add S.fresh) _ _ _ (RL.app ?_ (RL.retype hte' hte hxr))
                rcases hold with hh | hh | ⟨c2, o2, cells2, el2, lo2, hi2, ee, f1, f2, f3⟩
                · cases hh
                · have : es = [] := List.length_eq_zero_iff.1 hh
                  subst this; simp [RL]
                · injection ee with ee; injection ee with ee1 ee2
                  subst ee1 ee2
                  rw [g2] at f1; injection f1 with f1; injection f1 with f1a f1b f1c
                  subst f1a
                  rw [hsz] at f3
                  exact RL.retype hte' hte f3
              have e2 : (List.drop (base + st * P.cellsOf e0) (put cells.toList (base + st * P.cellsOf e0 + es.length * P.cellsOf e0 + 0) xc.toList)).take ((es ++ xs).length * P.cellsOf e0) = ((cells.toList.drop (base + st * P.cellsOf e0)).take (es.length * P.cellsOf e0)) ++ xc.toList := by
                apply List.ext_getElem?
                intro j
                have hsz2 : cells.toList.length = cells.size := by simp
                simp only [put, List.append_assoc, List.getElem?_append, List.length_take, List.length_drop, List.getElem?_take, List.getElem?_drop, List.length_append, Nat.add_mul, hxsz, hsz2]
                repeat' split
                all_goals first | rfl | omega | (congr 1; omega) | (symm; apply List.getElem?_eq_none; omega) | (apply List.getElem?_eq_none; omega) | skip
              simp only [e2]; exact hrl
            · intro _
              refine ⟨(g6 rfl).1, fun o ho => ?_⟩
              simp only [List.size_toArray, hputl, Array.length_toList] at ho
              exact (g6 rfl).2 o ho)
          refine ⟨_, w', _, hrun, s1, s2, ?_⟩
          have := slc_VR (P := P) (M := M.add h.next (.row cb (base + st * P.cellsOf e0) e0 (lim - st))) (b := h.next) (s := 0) (n := es.length + xs.length) (cap := cap) (x := false) (Inj.add_self _ _ _) hte' hc (by omega) (by simp)
          simpa using this
        · obtain ⟨d1, d2⟩ := S.drop hlt
          exact hnew M (h.set b none) (.refl _) rfl d1 d2 rfl hc

theorem appZ_snd {M : Inj} {h h' : H} {w : World} (L : Lay P) (S : St P M h w) {t t1 ty e : TypeId} {te : Option Nat} {b : Nat} (hel : elT P t = some (e, te, b)) (ht1 : isIntT P t1 = true) {s x r : V} {s' x' : Value}
    (he : appZ (some (e, te, b)) (zeroV P e) h s x = some (r, h')) (hs : VU P M s s') (hx : VU P M x x') {ats : Array TypeId} (h0 : ats[0]? = some t) (h1 : ats[1]? = some t1) :
    ∃ v' w' M', (Builtin.append_ ats ty #[s', x']).run P w = .ok v' w' ∧ St P M' h' w' ∧ Ext M h w M' h' w' ∧ VR P M' r v' := by
  have hb0 := elT_bytes hel
  obtain ⟨hd, hte, hne, rfl⟩ := elT_snd hel
  have hu := desc_und hd
  obtain ⟨ie, hie⟩ := tgo_info hte
  have hbytes : P.bytesOf e = ie.bytes := by simp [Program.bytesOf, hie]
  have hint : ∃ k, P.underlying t1 = some (.int k) := by
    unfold isIntT at ht1
    split at ht1
    · rename_i k hd1; exact ⟨k, desc_und hd1⟩
    · cases ht1
  obtain ⟨k1t, hd1⟩ := hint
  unfold appZ at he
  split at he <;> try contradiction
  rename_i e1 te1 b1 z n heq hz
  simp only [Option.some.injEq, Prod.mk.injEq] at heq
  obtain ⟨rfl, rfl, rfl⟩ := heq
  have := hs.known (by simp); rw [VR_nils] at this; subst this
  have := hx.int; subst this
  obtain ⟨hb, he⟩ := cond_none he
  simp only [Option.some.injEq, Prod.mk.injEq] at he
  obtain ⟨rfl, rfl⟩ := he
  simp only [Bool.or_eq_false_iff, decide_eq_false_iff_not, Bool.not_eq_false', ble_eq, decide_eq_true_eq] at hb
  obtain ⟨⟨hn0, hnm⟩, hby⟩ := hb
  obtain ⟨zv, k1, k2, k3⟩ := zero_snd L M hz
  have hzl := R.len L _ _ _ k2 k3
  have hzs : zv.cells.size = P.cellsOf e := by simpa using hzl
  have wn : IntKind.i64.wrap n = n := by unfold IntKind.wrap; simp [IntKind.bits, IntKind.signed]; omega
  have hnat : ((n.toNat : Nat) : Int) = n := by omega
  have hpos : 0 < n.toNat := by omega
  have hcap : Builtin.nextslicecap n.toNat 0 * ie.bytes ≤ 2 ^ 48 := by
    have h3 := nextslicecap_le n.toNat 0 hpos
    have h4 := Nat.mul_le_mul_right ie.bytes h3
    rw [hbytes] at hby
    have h5 : 2 * n.toNat * ie.bytes = 2 * (n.toNat * ie.bytes) := Nat.mul_assoc _ _ _
    omega
  have hmul : (n * (ie.bytes : Int)) ≤ 2 ^ 48 := by
    rw [hbytes] at hby
    have : ((n.toNat * ie.bytes : Nat) : Int) = n * (ie.bytes : Int) := by rw [Int.natCast_mul, hnat]
    omega
  let nc := (Question.appendCap n.toNat 0 e).cut (w.tape w.drawn (.appendCap n.toNat 0 e))
  have hnc : n.toNat ≤ nc := by simp [nc, Question.cut]
  have hrun : (Builtin.append_ ats ty #[.slice none 0 0, .int .i64 n]).run P w =
      .ok (.slice (some ⟨w.heap.size, 0, none⟩) n.toNat nc) { w with drawn := w.drawn + 1, heap := w.heap.push (.cells (Builtin.zeroCells zv.cells n.toNat ++ Builtin.zeroCells zv.cells (nc - n.toNat)) e) } := by
    have hne' : ¬ (n.toNat * P.cellsOf e = 0) := by
      intro hh
      rcases Nat.mul_eq_zero.1 hh with h | h
      · omega
      · exact hne h
    have hlt : ¬ n < 0 := by omega
    have hmul2 : ¬ (n * (ie.bytes : Int) > 2 ^ 48) := by omega
    have hle0 : ¬ (0 + n.toNat ≤ 0) := by omega
    have hmax : ¬ (((0 + n.toNat : Nat) : Int) > IntKind.i64.max) := by
      have : IntKind.i64.max = 9223372036854775807 := by rfl
      omega
    have hcap2 : ¬ (Builtin.nextslicecap (0 + n.toNat) 0 * ie.bytes > 2 ^ 48) := by rw [Nat.zero_add]; omega
    simp only [Builtin.append_, h0, h1]
    simp [Sem.run_bind, run_underlying hu, Result.andThen_ok, run_size hte, run_underlying hd1, asInt, asIntOf, wn, run_typeInfo _ hie, Question.forced]
    have g1 : ¬ (281474976710656 < n * (ie.bytes : Int)) := by omega
    have g2 : ¬ n ≤ 0 := by omega
    have g3 : ¬ (9223372036854775807 < max n 0) := by omega
    have g4 : ¬ (281474976710656 < Builtin.nextslicecap n.toNat 0 * ie.bytes) := by omega
    rw [if_neg hlt, if_neg g1, if_neg g2, if_neg g3, if_neg g4]
    have hf : ∀ w, (Builtin.firstCells (P.cellsOf e) 0 (Value.slice none 0 0)).run P w = .ok #[] w := by
      intro w; simp [Builtin.firstCells]
    simp only [hf, Result.andThen_ok, if_neg hne', k1, newRow, Sem.run_bind, run_newObj, Sem.run_pure]
    simp only [Array.empty_append]
    rfl
  have hcs : (Builtin.zeroCells zv.cells n.toNat ++ Builtin.zeroCells zv.cells (nc - n.toNat)).size = nc * P.cellsOf e := by
    simp only [Array.size_append, zeroCells_len, hzs, ← Nat.add_mul]
    congr 1; omega
  have hzc : (Builtin.zeroCells zv.cells n.toNat).toList = (List.replicate n.toNat zv.cells.toList).flatten := by
    unfold Builtin.zeroCells
    exact zeros_eq _ _
  obtain ⟨s1, s2⟩ := (S.same (w' := { w with drawn := w.drawn + 1 }) rfl).row (es := List.replicate n.toNat z) (e := e) (el := e) (lim := nc) (cells := Builtin.zeroCells zv.cells n.toNat ++ Builtin.zeroCells zv.cells (nc - n.toNat)) (by simpa using hnc) (by rw [hcs]; exact Nat.le_refl _) (by
    simp only [Array.toList_append]
    refine row_take L ?_ _
    rw [hzc, List.length_replicate]
    exact RL.replicate k2 k3 _) (by omega) (by rw [hte]; rfl) _ (Ch.new _ _)
  refine ⟨_, _, _, hrun, s1, (Ext.same M h (w := w) (w' := { w with drawn := w.drawn + 1 }) rfl rfl rfl rfl).trans s2, ?_⟩
  have := slc_VR (P := P) (M := M.add h.next (.row w.heap.size 0 e nc)) (b := h.next) (s := 0) (n := n.toNat) (cap := nc) (x := false) (Inj.add_self _ _ _) hte hnc (by omega) (by simp)
  simpa using this
end Go.AM

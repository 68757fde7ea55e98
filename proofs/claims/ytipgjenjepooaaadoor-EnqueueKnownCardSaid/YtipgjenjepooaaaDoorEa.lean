/- A small machine for the translated code: its runs stand for the program's. Own text, no conditions. -/
import Derived.Orders
import Derived.KernelRfl
import Derived.Laws.IdiomCopy
import Derived.Laws.Entries
import Derived.Laws.StructEq
import Derived.Laws.BytesString
import Derived.Lib.Bytealg
namespace Go.Eng

inductive Cap where
  | ex (n : Nat)
  | any
  deriving DecidableEq

/-- abstract values. 'ptr', 'slc', 'mp' name blocks of the abstract heap; 'ip', 'isl' carry what they point to (immutable). -/
inductive AV where
  | bool (b : Bool)
  | int (k : IntKind) (n : Int)
  | str (s : List UInt8)
  | nilp
  | ptr (ν o : Nat)
  | ip (cells : List AV)
  | nils
  | slc (ν o n : Nat) (c : Cap)
  | isl (cells : List AV) (n : Nat) (c : Cap)
  | nilm
  | mp (ν : Nat)
  | nilf
  | fn (f : Fn) (first captured : List AV)
  | nili
  | ifc (t : TypeId) (v : AV)
  | agg (cs : List AV)
  | tup (vs : List AV)
  | undef

mutual
def noNames : AV → Bool
  | .ptr _ _ | .slc _ _ _ _ | .mp _ => false
  | .fn _ a b => noNamesL a && noNamesL b
  | .ifc _ v => noNames v
  | .agg cs => noNamesL cs
  | .tup vs => noNamesL vs
  | _ => true
def noNamesL : List AV → Bool
  | [] => true
  | v :: vs => noNames v && noNamesL vs
/-- no part that stands for memory of others -/
def noIsl : AV → Bool
  | .ip _ => false
  | .isl _ n _ => Nat.beq n 0
  | .fn _ a b => noIslL a && noIslL b
  | .ifc _ v => noIsl v
  | .agg cs => noIslL cs
  | .tup vs => noIslL vs
  | _ => true
def noIslL : List AV → Bool
  | [] => true
  | v :: vs => noIsl v && noIslL vs
end

structure VK where
  el : TypeId
  es : Nat
  grow : Bool
  pur : Bool

inductive ABlk where
  | vec (cells : List AV) (k : VK)
  | amap (es : List (AV × AV × Nat)) (clock : Nat)
  | miter (m : Option Nat) (since : Nat) (seen : List Nat) (stepped : Nat)
  | siter (s : List UInt8) (pos : Nat)

def noIslE : List (AV × AV × Nat) → Bool
  | [] => true
  | (k, v, _) :: r => noIsl k && noIsl v && noIslE r
def noIslB : ABlk → Bool
  | .vec cells _ => noIslL cells
  | .amap es _ => noIslE es
  | _ => true
def noIslBs : List (Nat × ABlk) → Bool
  | [] => true
  | (_, b) :: r => noIslB b && noIslBs r

structure AHeap where
  nx : Nat
  rs : List Nat
  bs : List (Nat × ABlk)

def lookB (ν : Nat) : List (Nat × ABlk) → Option ABlk
  | [] => none
  | (k, b) :: r => if Nat.beq k ν then some b else lookB ν r
def setB (ν : Nat) (x : ABlk) : List (Nat × ABlk) → List (Nat × ABlk)
  | [] => []
  | (k, b) :: r => if Nat.beq k ν then (k, x) :: r else (k, b) :: setB ν x r
def delB (ν : Nat) : List (Nat × ABlk) → List (Nat × ABlk)
  | [] => []
  | (k, b) :: r => if Nat.beq k ν then delB ν r else (k, b) :: delB ν r
def delN (ν : Nat) : List Nat → List Nat
  | [] => []
  | k :: r => if Nat.beq k ν then delN ν r else k :: delN ν r
/-- names in falling order -/
def insB (ν : Nat) (x : ABlk) : List (Nat × ABlk) → List (Nat × ABlk)
  | [] => [(ν, x)]
  | (k, b) :: r => if Nat.blt k ν then (ν, x) :: (k, b) :: r else (k, b) :: insB ν x r
def memN (ν : Nat) : List Nat → Bool
  | [] => false
  | k :: r => Nat.beq k ν || memN ν r

namespace AHeap
def get (h : AHeap) (ν : Nat) : Option ABlk := lookB ν h.bs
def set (h : AHeap) (ν : Nat) (x : ABlk) : AHeap := { h with bs := setB ν x h.bs }
def kill (h : AHeap) (ν : Nat) : AHeap := { h with bs := delB ν h.bs }
/-- a new block: under the next name, or under a name that was kept free for it -/
def alloc (h : AHeap) (at_ : Option Nat) (x : ABlk) : Option (Nat × AHeap) :=
  match at_ with
  | none => some (h.nx, { nx := h.nx + 1, rs := h.rs, bs := insB h.nx x h.bs })
  | some ν => if memN ν h.rs then some (ν, { nx := h.nx, rs := delN ν h.rs, bs := insB ν x h.bs }) else none
def empty : AHeap := ⟨0, [], []⟩
end AHeap

inductive Tr where
  | lf (v : AV)
  | nd (l r : Tr)
def Tr.get : Tr → Nat → AV
  | .lf v, n => match n with
    | 0 => v
    | _ + 1 => .undef
  | .nd l r, n => if Nat.beq (n % 2) 0 then l.get (n / 2) else r.get (n / 2)
def Tr.set : Tr → Nat → AV → Tr
  | .lf v, n, x => match n with
    | 0 => .lf x
    | _ + 1 => .lf v
  | .nd l r, n, x => if Nat.beq (n % 2) 0 then .nd (l.set (n / 2) x) r else .nd l (r.set (n / 2) x)
def Tr.mk (v : AV) : Nat → Tr
  | 0 => .lf v
  | d + 1 => .nd (Tr.mk v d) (Tr.mk v d)
def Tr.deep : Nat → Tr → Prop
  | 0, .lf _ => True
  | d + 1, .nd l r => Tr.deep d l ∧ Tr.deep d r
  | _, _ => False
def Tr.ofList (t : Tr) (i : Nat) : List AV → Tr
  | [] => t
  | v :: vs => Tr.ofList (t.set i v) (i + 1) vs

structure St where
  tm : Tr
  h : AHeap

abbrev R (α : Type) := List (Option α)
def bindO {α β : Type} (o : Option α) (f : α → R β) : R β :=
  match o with
  | some x => f x
  | none => [none]
def bindR {α β : Type} : R α → (α → R β) → R β
  | [], _ => []
  | [o], f => bindO o f
  | o :: os, f => bindO o f ++ bindR os f

/-- the kind of type at which two values are compared -/
inductive TK where
  | bool | int | str | ptr | slice | map | func | iface
  | struct (ks : List TK)
  | no

/-- operands -/
inductive AX where
  | t (i : Nat)
  | c (v : AV)
  | f (fid : FuncId)
  | g (gid : Nat)
def AX.ev (tm : Tr) : AX → AV
  | .t i => tm.get i
  | .c v => v
  | .f fid => .fn (.func fid) [] []
  | .g _ => .undef

inductive AOp where
  | mov (x : AX)
  | pick (c a b : AX)
  | new (zero : List AV) (el : TypeId)
  | box (x : AX) (el : TypeId) (es : Nat)
  | build (zero : List AV) (parts : List (Nat × Nat × AX))
  | mkslice (n es : Nat) (el : TypeId) (zero : List AV) (parts : List (Nat × AX))
  | mkisl (n es : Nat) (zero : List AV) (parts : List (Nat × AX))
  | load (isagg : Bool) (sz : Nat) (a : AX)
  | store (sz : Nat) (a x : AX)
  | nilchk (x : AX)
  | bin (op : BinOp) (k : TK) (x y : AX)
  | un (op : UnOp) (x : AX)
  | convI (k : IntKind) (x : AX)
  | convS (x : AX)
  | convSB (el : TypeId) (x : AX)
  | convBS (x : AX)
  | mkiface (t : TypeId) (x : AX)
  | mkfn (f : Fn) (first captured : List AX)
  | mkmap
  | make (el : TypeId) (es bytes : Nat) (zero : List AV) (l c : AX)
  | slice (sk : TK) (es : Nat) (x : AX) (lo hi mx : Option AX)
  | addOff (k : Nat) (x : AX)
  | fld (isagg : Bool) (off sz : Nat) (x : AX)
  | idxAddr (n : Option Nat) (es : Nat) (x i : AX)
  | idxAgg (isagg : Bool) (n es : Nat) (x i : AX)
  | idxStr (x i : AX)
  | lookup (kk : TK) (zero : AV) (ok : Bool) (m k : AX)
  | mapUpd (kk : TK) (m k v : AX)
  | range (sk : TK) (x : AX)
  | next (isStr : Bool) (it : AX)
  | entry (it : AX)
  | extract (x : AX) (i : Nat)
  | len (lk : TK) (x : AX)
  | cap (x : AX)
  | append (el : TypeId) (es bytes : Nat) (s x : AX)
  | copy (es : Nat) (d s : AX)
  | clear (sk : TK) (zero : List AV) (x : AX)
  | delete (kk : TK) (m k : AX)
  | minmax (mx : Bool) (xs : List AX)
  | ext (k : Nat) (x y : AX)
  | call (f : AX) (args : List AX)
  | bad

end Go.Eng

namespace Go.Eng

def cells? : AV → Option (List AV)
  | .agg cs => some cs
  | .undef => none
  | .tup _ => none
  | v => some [v]
def oneC : AV → Bool
  | .agg _ | .tup _ | .undef => false
  | _ => true
def allOne : List AV → Bool
  | [] => true
  | v :: vs => oneC v && allOne vs
def splice (cs : List AV) (off : Nat) (xs : List AV) : Option (List AV) :=
  if off + xs.length ≤ cs.length then some (cs.take off ++ (xs ++ cs.drop (off + xs.length))) else none
def repeatL (z : List AV) : Nat → List AV
  | 0 => []
  | n + 1 => z ++ repeatL z n

def buildA (tm : Tr) (z : List AV) : List (Nat × Nat × AX) → Option (List AV)
  | [] => some z
  | (off, sz, x) :: r =>
    match cells? (x.ev tm) with
    | some cs => if cs.length = sz then (match splice z off cs with | some z' => buildA tm z' r | none => none) else none
    | none => none
def buildS (tm : Tr) (es : Nat) (z : List AV) : List (Nat × AX) → Option (List AV)
  | [] => some z
  | (i, x) :: r =>
    match cells? (x.ev tm) with
    | some cs => if cs.length = es then (match splice z (i * es) cs with | some z' => buildS tm es z' r | none => none) else none
    | none => none

def intBin (op : BinOp) (k : IntKind) (a b : Int) : Option AV :=
  match op with
  | .add => some (.int k (k.wrap (a + b)))
  | .sub => some (.int k (k.wrap (a - b)))
  | .mul => some (.int k (k.wrap (a * b)))
  | .quo => if b = 0 then none else some (.int k (k.wrap (a.tdiv b)))
  | .rem => if b = 0 then none else some (.int k (a.tmod b))
  | .and => some (.int k (k.wrap (BitVec.ofInt k.bits a &&& BitVec.ofInt k.bits b).toNat))
  | .or => some (.int k (k.wrap (BitVec.ofInt k.bits a ||| BitVec.ofInt k.bits b).toNat))
  | .xor => some (.int k (k.wrap (BitVec.ofInt k.bits a ^^^ BitVec.ofInt k.bits b).toNat))
  | .andNot => some (.int k (k.wrap (BitVec.ofInt k.bits a &&& ~~~ BitVec.ofInt k.bits b).toNat))
  | .eql => some (.bool (a == b))
  | .neq => some (.bool (a != b))
  | .lss => some (.bool (a < b))
  | .leq => some (.bool (a ≤ b))
  | .gtr => some (.bool (a > b))
  | .geq => some (.bool (a ≥ b))
  | _ => none
def shiftA (op : BinOp) (k : IntKind) (a b : Int) : Option AV :=
  if b < 0 then none
  else match op with
    | .shl => some (.int k (k.wrap (a * 2 ^ min b.toNat k.bits)))
    | .shr => some (.int k (a.fdiv (2 ^ min b.toNat k.bits)))
    | _ => none
def strBin (op : BinOp) (x y : List UInt8) : Option AV :=
  match op with
  | .add => if ((x.length + y.length : Nat) : Int) > IntKind.i64.max then none else some (.str (x ++ y))
  | .eql => some (.bool (x == y))
  | .neq => some (.bool !(x == y))
  | .lss => some (.bool (Op.bytesLess x y))
  | .leq => some (.bool (Op.bytesLess x y || x == y))
  | .gtr => some (.bool !(Op.bytesLess x y || x == y))
  | .geq => some (.bool !(Op.bytesLess x y))
  | _ => none

/-- equality of two values that hold no part -/
def eqOne (k : TK) (x y : AV) : Option Bool :=
  match k, x, y with
  | .bool, .bool a, .bool b => some (a == b)
  | .int, .int j a, .int k b => if j = k then some (a == b) else none
  | .str, .str a, .str b => some (a == b)
  | .ptr, .nilp, .nilp => some true
  | .ptr, .nilp, .ptr _ _ => some false
  | .ptr, .nilp, .ip _ => some false
  | .ptr, .ptr _ _, .nilp => some false
  | .ptr, .ip _, .nilp => some false
  | .slice, .nils, .nils => some true
  | .slice, .nils, .slc _ _ _ _ => some false
  | .slice, .slc _ _ _ _, .nils => some false
  | .slice, .nils, .isl _ n _ => if n = 0 then none else some false
  | .slice, .isl _ n _, .nils => if n = 0 then none else some false
  | .map, .nilm, .nilm => some true
  | .map, .nilm, .mp _ => some false
  | .map, .mp _, .nilm => some false
  | .func, .nilf, .nilf => some true
  | .func, .nilf, .fn _ _ _ => some false
  | .func, .fn _ _ _, .nilf => some false
  | .iface, .nili, .ifc _ _ => some false
  | .iface, .ifc _ _, .nili => some false
  | _, _, _ => none
def eqCells : List TK → List AV → List AV → Option Bool
  | [], [], [] => some true
  | k :: ks, x :: xs, y :: ys =>
    match eqOne k x y with
    | some true => eqCells ks xs ys
    | some false => some false
    | none => none
  | _, _, _ => none
def eqA (k : TK) (x y : AV) : Option Bool :=
  match k, x, y with
  | .struct ks, .agg xs, .agg ys => eqCells ks xs ys
  | k, x, y => eqOne k x y

def binA (op : BinOp) (tk : TK) (x y : AV) : Option AV :=
  match op, x, y with
  | .shl, .int k a, .int _ b => shiftA .shl k a b
  | .shr, .int k a, .int _ b => shiftA .shr k a b
  | op, .int k a, .int k' b => if k = k' then intBin op k a b else none
  | op, .str a, .str b => strBin op a b
  | .eql, x, y => match eqA tk x y with | some b => some (.bool b) | none => none
  | .neq, x, y => match eqA tk x y with | some b => some (.bool !b) | none => none
  | _, _, _ => none
def unA (op : UnOp) (x : AV) : Option AV :=
  match op, x with
  | .neg, .int k n => some (.int k (k.wrap (0 - n)))
  | .xor, .int k n => some (.int k (k.wrap (BitVec.ofInt k.bits (if k.signed then -1 else k.max) ^^^ BitVec.ofInt k.bits n).toNat))
  | .not, .bool b => some (.bool !b)
  | _, _ => none

/-- the cells from an address on -/
def cellsAt (h : AHeap) : AV → Option (List AV)
  | .ptr ν o => match h.get ν with
    | some (.vec cells _) => some (cells.drop o)
    | _ => none
  | .ip cells => some cells
  | _ => none
def loadA (isagg : Bool) (sz : Nat) (cells : List AV) : Option AV :=
  if isagg then (if sz ≤ cells.length then some (.agg (cells.take sz)) else none)
  else match cells with
    | c :: _ => some c
    | [] => none
def storeA (h : AHeap) (sz : Nat) (a x : AV) : Option AHeap :=
  match a, cells? x with
  | .ptr ν o, some cs =>
    match h.get ν with
    | some (.vec cells k) =>
      if cs.length = sz ∧ allOne cs then
        match splice cells o cs with
        | some cells' => some (h.set ν (.vec cells' { k with pur := k.pur && noNamesL cs }))
        | none => none
      else none
    | _ => none
  | _, _ => none

/-- what a slice, or a string, holds: its length, its cells -/
def seqOf (h : AHeap) (es : Nat) : AV → Option (Nat × List AV)
  | .nils => some (0, [])
  | .isl cells n _ => if cells.length = n * es then some (n, cells) else none
  | .slc ν o n _ => match h.get ν with
    | some (.vec cells _) => if o + n * es ≤ cells.length then some (n, (cells.drop o).take (n * es)) else none
    | _ => none
  | .str s => if es = 1 then some (s.length, s.map fun b => .int .u8 b.toNat) else none
  | _ => none
def lenA (h : AHeap) (lk : TK) (x : AV) : Option Nat :=
  match lk, x with
  | .slice, .nils => some 0
  | .slice, .isl _ n _ => some n
  | .slice, .slc _ _ n _ => some n
  | .str, .str s => some s.length
  | .map, .nilm => some 0
  | .map, .mp ν => match h.get ν with
    | some (.amap es _) => some es.length
    | _ => none
  | _, _ => none

def room (need bytes : Nat) : Bool := Nat.ble need 70368744177664 && Nat.ble ((2 * need + 1024) * bytes) 70368744177664

def appendA (h : AHeap) (at_ : Option Nat) (el es bytes : Nat) (s x : AV) : Option (AV × AHeap) :=
  match seqOf h es x with
  | none => none
  | some (m, new) =>
    match s with
    | .nils =>
      if m = 0 then some (.nils, h)
      else if room m bytes && allOne new then
        match h.alloc at_ (.vec new ⟨el, es, true, noNamesL new⟩) with
        | some (ν, h') => some (.slc ν 0 m .any, h')
        | none => none
      else none
    | .isl cells n c =>
      if m = 0 then some (s, h)
      else match c with
        | .ex k =>
          if k < n + m ∧ cells.length = n * es ∧ room (n + m) bytes ∧ allOne new ∧ allOne cells then
            match h.alloc at_ (.vec (cells ++ new) ⟨el, es, true, noNamesL new && noNamesL cells⟩) with
            | some (ν, h') => some (.slc ν 0 (n + m) .any, h')
            | none => none
          else none
        | .any => none
    | .slc ν o n c =>
      if m = 0 then some (s, h)
      else match h.get ν with
        | some (.vec cells k) =>
          if k.el = el ∧ k.es = es ∧ room (n + m) bytes ∧ allOne new then
            match c with
            | .ex cp =>
              if n + m ≤ cp then
                match splice cells (o + n * es) new with
                | some cells' => some (.slc ν o (n + m) c, h.set ν (.vec cells' { k with pur := k.pur && noNamesL new }))
                | none => none
              else if o + n * es ≤ cells.length ∧ allOne cells then
                match h.alloc at_ (.vec ((cells.drop o).take (n * es) ++ new) ⟨el, es, true, k.pur && noNamesL new⟩) with
                | some (μ, h') => some (.slc μ 0 (n + m) .any, h')
                | none => none
              else none
            | .any =>
              if o + (n + m) * es ≤ cells.length ∧ 0 < es then
                match splice cells (o + n * es) new with
                | some cells' => some (.slc ν o (n + m) c, h.set ν (.vec cells' { k with pur := k.pur && noNamesL new }))
                | none => none
              else if o + n * es = cells.length ∧ 0 < es then
                match (h.kill ν).alloc at_ (.vec (cells.drop o ++ new) ⟨el, es, true, k.pur && noNamesL new⟩) with
                | some (μ, h') => some (.slc μ 0 (n + m) .any, h')
                | none => none
              else none
          else none
        | _ => none
    | _ => none

def copyA (h : AHeap) (es : Nat) (d s : AV) : Option (AV × AHeap) :=
  match seqOf h es s, lenA h .slice d with
  | some (m, cs), some n =>
    let k := min m n
    if k = 0 then some (.int .i64 0, h)
    else match d with
      | .slc ν o _ _ =>
        match h.get ν with
        | some (.vec cells q) =>
          let new := cs.take (k * es)
          if allOne new then
            match splice cells o new with
            | some cells' => some (.int .i64 k, h.set ν (.vec cells' { q with pur := q.pur && noNamesL new }))
            | none => none
          else none
        | _ => none
      | _ => none
  | _, _ => none

def clearA (h : AHeap) (sk : TK) (zero : List AV) (x : AV) : Option AHeap :=
  match sk, x with
  | .map, .nilm => some h
  | .slice, .nils => some h
  | .slice, .isl _ n _ => if n = 0 then some h else none
  | .slice, .slc ν o n _ =>
    if n = 0 then some h
    else match h.get ν with
      | some (.vec cells q) =>
        let new := repeatL zero n
        if allOne new then
          match splice cells o new with
          | some cells' => some (h.set ν (.vec cells' { q with pur := q.pur && noNamesL new }))
          | none => none
        else none
      | _ => none
  | .map, .mp ν => match h.get ν with
    | some (.amap _ clock) => some (h.set ν (.amap [] clock))
    | _ => none
  | _, _ => none

/-- the place of a key: nothing where a comparison is not known -/
def findA (tk : TK) (k : AV) : List (AV × AV × Nat) → Nat → Option (Option (Nat × AV))
  | [], _ => some none
  | (k', v, _) :: es, i =>
    match eqA tk k k' with
    | some true => some (some (i, v))
    | some false => findA tk k es (i + 1)
    | none => none
def setEntry (k v : AV) : List (AV × AV × Nat) → Nat → List (AV × AV × Nat)
  | [], _ => []
  | (_, _, b) :: es, 0 => (k, v, b) :: es
  | e :: es, i + 1 => e :: setEntry k v es i
def dropEntry : List (AV × AV × Nat) → Nat → List (AV × AV × Nat)
  | [], _ => []
  | _ :: es, 0 => es
  | e :: es, i + 1 => e :: dropEntry es i
/-- kinds of keys whose two equal values are one value -/
def TK.plain : TK → Bool
  | .bool | .int | .str => true
  | .struct ks => ks.all fun | .bool | .int | .str => true | _ => false
  | _ => false

def lookupA (h : AHeap) (tk : TK) (zero : AV) (ok : Bool) (m k : AV) : Option AV :=
  let ans (v : AV) (b : Bool) : AV := if ok then .tup [v, .bool b] else v
  if tk.plain then
    match m with
    | .nilm => match eqA tk k k with
      | some _ => some (ans zero false)
      | none => none
    | .mp ν => match h.get ν with
      | some (.amap es _) =>
        match eqA tk k k, findA tk k es 0 with
        | some _, some (some (_, v)) => some (ans v true)
        | some _, some none => some (ans zero false)
        | _, _ => none
      | _ => none
    | _ => none
  else none
def mapUpdA (h : AHeap) (tk : TK) (m k v : AV) : Option AHeap :=
  if tk.plain then
    match m with
    | .mp ν => match h.get ν with
      | some (.amap es clock) =>
        match eqA tk k k, findA tk k es 0 with
        | some _, some (some (i, _)) => some (h.set ν (.amap (setEntry k v es i) clock))
        | some _, some none => some (h.set ν (.amap (es ++ [(k, v, clock)]) (clock + 1)))
        | _, _ => none
      | _ => none
    | _ => none
  else none
def deleteA (h : AHeap) (tk : TK) (m k : AV) : Option AHeap :=
  if tk.plain then
    match m with
    | .nilm => match eqA tk k k with
      | some _ => some h
      | none => none
    | .mp ν => match h.get ν with
      | some (.amap es clock) =>
        match eqA tk k k, findA tk k es 0 with
        | some _, some (some (i, _)) => some (h.set ν (.amap (dropEntry es i) clock))
        | some _, some none => some (h.set ν (.amap es clock))
        | _, _ => none
      | _ => none
    | _ => none
  else none

def sliceA (h : AHeap) (sk : TK) (es : Nat) (x : AV) (lo hi mx : Option AV) : Option AV :=
  let num (o : Option AV) (d : Nat) : Option Int := match o with
    | none => some d
    | some (.int _ n) => some n
    | _ => none
  match sk, x with
  | .str, .str s =>
    match num lo 0, num hi s.length, mx with
    | some l, some u, none => if 0 ≤ l ∧ l ≤ u ∧ u ≤ s.length then some (.str ((s.drop l.toNat).take (u.toNat - l.toNat))) else none
    | _, _, _ => none
  | .slice, .nils =>
    match num lo 0, num hi 0, num mx 0 with
    | some l, some u, some m => if l = 0 ∧ u = 0 ∧ m = 0 ∧ hi.isSome = mx.isSome then some .nils else none
    | _, _, _ => none
  | .slice, .isl cells n c =>
    match num lo 0, num hi n, mx with
    | some l, some u, none =>
      if 0 ≤ l ∧ l ≤ u ∧ u ≤ n then
        (if l = u then some (.isl [] 0 .any)
        else some (.isl ((cells.drop (l.toNat * es)).take ((u.toNat - l.toNat) * es)) (u.toNat - l.toNat) (match c with | .ex k => .ex (k - l.toNat) | .any => .any)))
      else none
    | some l, some u, some (.int _ m) =>
      if l = 0 ∧ u = 0 ∧ m = 0 ∧ hi.isSome then some (.isl [] 0 (.ex 0)) else none
    | _, _, _ => none
  | .slice, .slc ν o n c =>
    match num lo 0, num hi n, mx with
    | some l, some u, none =>
      if 0 ≤ l ∧ l ≤ u ∧ u ≤ n then
        match c with
        | .ex k => some (.slc ν (if k = l.toNat then o else o + l.toNat * es) (u.toNat - l.toNat) (.ex (k - l.toNat)))
        | .any =>
          if l = u then (if l = 0 then some (.slc ν o 0 .any) else some (.isl [] 0 .any))
          else match h.get ν with
            | some (.vec _ q) => if q.es = es then some (.slc ν (o + l.toNat * es) (u.toNat - l.toNat) .any) else none
            | _ => none
      else if 0 ≤ l ∧ l < u then
        match c, h.get ν with
        | .ex k, _ => if u ≤ k then some (.slc ν (o + l.toNat * es) (u.toNat - l.toNat) (.ex (k - l.toNat))) else none
        | .any, some (.vec cells q) => if q.es = es ∧ 0 < es ∧ o + u.toNat * es ≤ cells.length then some (.slc ν (o + l.toNat * es) (u.toNat - l.toNat) .any) else none
        | _, _ => none
      else none
    | some l, some u, some (.int _ m) =>
      if l = 0 ∧ u = 0 ∧ m = 0 ∧ hi.isSome then some (.isl [] 0 (.ex 0))
      else if 0 ≤ l ∧ l < u ∧ u ≤ m ∧ m ≤ n ∧ hi.isSome then some (.slc ν (o + l.toNat * es) (u.toNat - l.toNat) (.ex (m.toNat - l.toNat)))
      else none
    | _, _, _ => none
  | _, _ => none

def idxAddrA (es : Nat) (x i : AV) : Option AV :=
  match x, i with
  | .isl cells n _, .int _ j => if 0 ≤ j ∧ j < n then some (.ip (cells.drop (j.toNat * es))) else none
  | .slc ν o n _, .int _ j => if 0 ≤ j ∧ j < n then some (.ptr ν (o + j.toNat * es)) else none
  | _, _ => none
/-- the address of an array's element -/
def idxArrA (n es : Nat) (x i : AV) : Option AV :=
  match x, i with
  | .ip cells, .int _ j => if 0 ≤ j ∧ j < n ∧ j.toNat * es ≤ cells.length then some (.ip (cells.drop (j.toNat * es))) else none
  | .ptr ν o, .int _ j => if 0 ≤ j ∧ j < n then some (.ptr ν (o + j.toNat * es)) else none
  | _, _ => none
def idxFrom (c : UInt8) : Nat → List UInt8 → Int
  | _, [] => -1
  | i, b :: l => if b == c then i else idxFrom c (i + 1) l

def minmaxA (mx : Bool) : AV → AV → Option AV
  | .int k a, .int j b => if k = j then some (.int k (if mx then (if b > a then b else a) else (if b < a then b else a))) else none
  | _, _ => none
def minmaxL (mx : Bool) : AV → List AV → Option AV
  | v, [] => some v
  | v, x :: xs => match minmaxA mx v x with
    | some u => minmaxL mx u xs
    | none => none

def bytesA : List AV → Option (List UInt8)
  | [] => some []
  | .int .u8 n :: vs => match bytesA vs with
    | some r => some (UInt8.ofNat n.toNat :: r)
    | none => none
  | _ => none

def cmpL : List UInt8 → List UInt8 → Int
  | [], [] => 0
  | [], _ :: _ => -1
  | _ :: _, [] => 1
  | a :: x, b :: y => if a < b then -1 else if b < a then 1 else cmpL x y

/-- functions without a body: 0 compares two strings, 1 looks for a byte, 2 counts a byte -/
def extA (k : Nat) (x y : AV) : Option AV :=
  match k, x, y with
  | 0, .str a, .str b => some (.int .i64 (cmpL a b))
  | 1, .str a, .int .u8 c => some (.int .i64 (idxFrom c.toNat.toUInt8 0 a))
  | 2, .str a, .int .u8 c => some (.int .i64 (a.count c.toNat.toUInt8))
  | _, _, _ => none

def noH (h : AHeap) (o : Option AV) : Option (AV × AHeap) := match o with
  | some v => some (v, h)
  | none => none
def noV (o : Option AHeap) : Option (AV × AHeap) := match o with
  | some h => some (.tup [], h)
  | none => none
def mk (h : AHeap) (at_ : Option Nat) (b : ABlk) (v : Nat → AV) : Option (AV × AHeap) := match h.alloc at_ b with
  | some (ν, h') => some (v ν, h')
  | none => none

/-- one operation, but for calls and the step of an iterator over a map -/
def aop (o : AOp) (tm : Tr) (h : AHeap) (at_ : Option Nat) : Option (AV × AHeap) :=
  match o with
  | .mov x => some (x.ev tm, h)
  | .pick c a b => match c.ev tm with
    | .bool t => some (if t then a.ev tm else b.ev tm, h)
    | _ => none
  | .new zero el => mk h at_ (.vec zero ⟨el, zero.length, false, noNamesL zero⟩) fun ν => .ptr ν 0
  | .box x el es => match cells? (x.ev tm) with
    | some cs => if cs.length = es then mk h at_ (.vec cs ⟨el, es, false, noNamesL cs⟩) fun ν => .ptr ν 0 else none
    | none => none
  | .build zero parts => match buildA tm zero parts with
    | some cs => some (.agg cs, h)
    | none => none
  | .mkslice n es el zero parts => match buildS tm es (repeatL zero n) parts with
    | some cs => mk h at_ (.vec cs ⟨el, es, false, noNamesL cs⟩) fun ν => .slc ν 0 n (.ex n)
    | none => none
  | .mkisl n es zero parts => match buildS tm es (repeatL zero n) parts with
    | some cs => if noNamesL cs then some (.isl cs n (.ex n), h) else none
    | none => none
  | .load isagg sz a => match cellsAt h (a.ev tm) with
    | some cs => noH h (loadA isagg sz cs)
    | none => none
  | .store sz a x => noV (storeA h sz (a.ev tm) (x.ev tm))
  | .nilchk x => match x.ev tm with
    | .ptr ν o => some (.ptr ν o, h)
    | .ip cs => some (.ip cs, h)
    | .fn (.func f) a b => some (.fn (.func f) a b, h)
    | _ => none
  | .bin op k x y => noH h (binA op k (x.ev tm) (y.ev tm))
  | .un op x => noH h (unA op (x.ev tm))
  | .convI k x => match x.ev tm with
    | .int _ n => some (.int k (k.wrap n), h)
    | _ => none
  | .convS x => match x.ev tm with
    | .str s => some (.str s, h)
    | _ => none
  | .convSB el x => match x.ev tm with
    | .str s => mk h at_ (.vec (s.map fun b => .int .u8 b.toNat) ⟨el, 1, true, true⟩) fun ν => .slc ν 0 s.length .any
    | _ => none
  | .convBS x => match seqOf h 1 (x.ev tm) with
    | some (_, cs) => match x.ev tm, bytesA cs with
      | .str _, _ => none
      | _, some s => some (.str s, h)
      | _, none => none
    | none => none
  | .mkiface t x => match x.ev tm with
    | .undef => none
    | v => some (.ifc t v, h)
  | .mkfn f first captured => some (.fn f (first.map (AX.ev tm)) (captured.map (AX.ev tm)), h)
  | .mkmap => mk h at_ (.amap [] 0) .mp
  | .make el es bytes zero l c => match l.ev tm, c.ev tm with
    | .int _ a, .int _ b =>
      if 0 ≤ a ∧ a ≤ b ∧ b ≤ 70368744177664 ∧ room b.toNat bytes then
        mk h at_ (.vec (repeatL zero b.toNat) ⟨el, es, false, noNamesL zero⟩) fun ν => .slc ν 0 a.toNat (.ex b.toNat)
      else none
    | _, _ => none
  | .slice sk es x lo hi mx => noH h (sliceA h sk es (x.ev tm) (lo.map (AX.ev tm)) (hi.map (AX.ev tm)) (mx.map (AX.ev tm)))
  | .addOff k x => match x.ev tm with
    | .ptr ν o => some (.ptr ν (o + k), h)
    | .ip cs => if k ≤ cs.length then some (.ip (cs.drop k), h) else none
    | _ => none
  | .fld isagg off sz x => match x.ev tm with
    | .agg cs => noH h (loadA isagg sz (cs.drop off))
    | _ => none
  | .idxAddr n es x i => match n with
    | none => noH h (idxAddrA es (x.ev tm) (i.ev tm))
    | some n => noH h (idxArrA n es (x.ev tm) (i.ev tm))
  | .idxAgg isagg n es x i => match x.ev tm, i.ev tm with
    | .agg cs, .int _ j => if 0 ≤ j ∧ j < n then noH h (loadA isagg es (cs.drop (j.toNat * es))) else none
    | _, _ => none
  | .idxStr x i => match x.ev tm, i.ev tm with
    | .str s, .int _ j => if 0 ≤ j then (match s[j.toNat]? with | some b => some (.int .u8 b.toNat, h) | none => none) else none
    | _, _ => none
  | .lookup kk zero ok m k => noH h (lookupA h kk zero ok (m.ev tm) (k.ev tm))
  | .mapUpd kk m k v => noV (mapUpdA h kk (m.ev tm) (k.ev tm) (v.ev tm))
  | .range sk x => match sk, x.ev tm with
    | .str, .str s => mk h at_ (.siter s 0) fun ν => .ptr ν 0
    | .map, .nilm => mk h at_ (.miter none 0 [] 0) fun ν => .ptr ν 0
    | .map, .mp μ => match h.get μ with
      | some (.amap _ clock) => mk h at_ (.miter (some μ) clock [] clock) fun ν => .ptr ν 0
      | _ => none
    | _, _ => none
  | .next true it => match it.ev tm with
    | .ptr ν 0 => match h.get ν with
      | some (.siter s pos) =>
        if pos < s.length then
          let r := Utf8.decode ⟨⟨s⟩⟩ pos
          some (.tup [.bool true, .int .i64 pos, .int .i32 r.1], h.set ν (.siter s (pos + r.2)))
        else some (.tup [.bool false], h)
      | _ => none
    | _ => none
  | .entry it => match it.ev tm with
    | .ptr ν 0 => match h.get ν with
      | some (.miter (some μ) _ seen stepped) => match h.get μ, seen.getLast? with
        | some (.amap es clock), some stamp => if clock = stepped then
            match es.find? fun e => Nat.beq e.2.2 stamp with
            | some e => some (.tup [e.1, e.2.1], h)
            | none => none
          else none
        | _, _ => none
      | _ => none
    | _ => none
  | .extract x i => match x.ev tm with
    | .tup vs => match vs[i]? with
      | some v => some (v, h)
      | none => none
    | _ => none
  | .len lk x => match lenA h lk (x.ev tm) with
    | some n => some (.int .i64 n, h)
    | none => none
  | .cap x => match x.ev tm with
    | .nils => some (.int .i64 0, h)
    | .slc _ _ _ (.ex k) => some (.int .i64 k, h)
    | _ => none
  | .append el es bytes s x => appendA h at_ el es bytes (s.ev tm) (x.ev tm)
  | .copy es d s => copyA h es (d.ev tm) (s.ev tm)
  | .clear sk zero x => noV (clearA h sk zero (x.ev tm))
  | .delete kk m k => noV (deleteA h kk (m.ev tm) (k.ev tm))
  | .minmax mx xs => match xs.map (AX.ev tm) with
    | v :: vs => noH h (minmaxL mx v vs)
    | [] => none
  | .ext k x y => noH h (extA k (x.ev tm) (y.ev tm))
  | _ => none

/-- the steps that an iterator over a map may take -/
def nextA (h : AHeap) (it : AV) : R (AV × AHeap) :=
  match it with
  | .ptr ν 0 => match h.get ν with
    | some (.miter none _ _ _) => [some (.tup [.bool false], h)]
    | some (.miter (some μ) since seen last) => match h.get μ with
      | some (.amap es clock) =>
        if !seen.isEmpty && !es.isEmpty && es.all (fun e => last ≤ e.2.2) then [none]
        else
          let left := es.filter fun e => !memN e.2.2 seen
          let old := left.filter fun e => e.2.2 < since
          let new := left.filter fun e => since ≤ e.2.2
          (if old.isEmpty then [some (.tup [.bool false], h)] else []) ++
            (old ++ new).map fun e => some (.tup [.bool true, e.1, e.2.1], h.set ν (.miter (some μ) since (seen ++ [e.2.2]) clock))
      | _ => [none]
    | _ => [none]
  | _ => [none]

end Go.Eng

namespace Go.Eng

structure ROp where
  dst : Option Nat
  op : AOp
  guard : Option (Nat × Bool)
  /-- (drawn regions) what it may do to the heap: 0 nothing; 1 reads; 2 lays a new block; 3 a call that sees and leaves no block; 4 a call that sees no block; 5 anything -/
  cl : Nat
  /-- (drawn regions) the operations whose new block this one may not see; may it see no block laid by calls of this region? -/
  hide : List Nat
  hall : Bool

inductive ACode where
  | skip
  | reg (drawn : Bool) (ops : List ROp)
  | seq (a b : ACode)
  | cond (c : AX) (a b : ACode)
  | block (id : Nat) (a : ACode)
  | loop (live : List Nat) (a : ACode)
  | exit (id : Nat)
  | ret

inductive AExit where
  | normal
  | exit (id : Nat)
  | ret

inductive ARes where
  | tmp (t : Nat)
  | cell (t : Nat) (isagg : Bool) (sz : Nat)

structure AFunc where
  depth : Nat
  res : List ARes
  body : ACode
  md : Nat
  /-- are slices that stand written out never turned? -/
  lit : Bool

/-- how calls are answered: 'p': functions that see and leave no named block (mode 0); 's': those that see none (mode 1), and the others -/
structure Hand where
  md : FuncId → Nat
  p : FuncId → List AV → R AV
  s : FuncId → List AV → AHeap → R (AV × AHeap)

/-- named blocks that are only read from now on go into the value -/
def frz (h : AHeap) : Nat → AV → Option AV
  | 0, _ => none
  | d + 1, v => match v with
    | .ptr _ _ | .mp _ => none
    | .slc ν o n c => match h.get ν with
      | some (.vec cells k) =>
        if o + n * k.es ≤ cells.length then
          let cs := (cells.drop o).take (n * k.es)
          if k.pur then some (.isl cs n (match c with | .ex m => .ex m | .any => .any))
          else match frzL (frz h d) cs with
            | some cs' => some (.isl cs' n (match c with | .ex m => .ex m | .any => .any))
            | none => none
        else none
      | _ => none
    | .fn f a b => match frzL (frz h d) a, frzL (frz h d) b with
      | some a', some b' => some (.fn f a' b')
      | _, _ => none
    | .ifc t x => match frz h d x with
      | some x' => some (.ifc t x')
      | none => none
    | .agg cs => match frzL (frz h d) cs with
      | some cs' => some (.agg cs')
      | none => none
    | .tup cs => match frzL (frz h d) cs with
      | some cs' => some (.tup cs')
      | none => none
    | v => some v
  where
  frzL (f : AV → Option AV) : List AV → Option (List AV)
    | [] => some []
    | v :: vs => match f v, frzL f vs with
      | some v', some vs' => some (v' :: vs')
      | _, _ => none

/-- no pointer, slice, map or function in it -/
def flat : Nat → AV → Bool
  | 0, _ => false
  | d + 1, v => match v with
    | .bool _ | .int _ _ | .str _ | .nilp | .nils | .nilm | .nilf | .nili => true
    | .agg cs => cs.all (flat d)
    | .tup cs => cs.all (flat d)
    | _ => false

def allGe (m : Nat) : List (Nat × ABlk) → Bool
  | [] => true
  | (k, _) :: r => Nat.ble m k && allGe m r
def Hand.call (C : Hand) (f : FuncId) (args : List AV) (h : AHeap) : R (AV × AHeap) :=
  match C.md f with
  | 0 => (match noNamesL args with
    | true => bindR (C.p f args) fun v => [some (v, h)]
    | false => (match frz.frzL (frz h 64) args with
      | some args' => bindR (C.p f args') fun v => if flat 8 v then [some (v, h)] else [none]
      | none => [none]))
  | 1 => (match noNamesL args with
    | true => bindR (C.s f args ⟨h.nx, [], []⟩) fun vh =>
        if Nat.ble h.nx vh.2.nx && allGe h.nx vh.2.bs then [some (vh.1, ⟨vh.2.nx, h.rs, vh.2.bs ++ h.bs⟩)] else [none]
    | false => [none])
  | 3 => (match noNamesL args with
    | true => bindR (C.s f args ⟨h.nx, [], []⟩) fun vh =>
        if Nat.ble h.nx vh.2.nx && allGe h.nx vh.2.bs then [some (vh.1, ⟨vh.2.nx, h.rs, vh.2.bs ++ h.bs⟩)] else [none]
    | false => (match frz.frzL (frz h 64) args with
      | some args' => bindR (C.s f args' ⟨h.nx, [], []⟩) fun vh =>
          if Nat.ble h.nx vh.2.nx && allGe h.nx vh.2.bs && (noIsl vh.1 && noIslBs vh.2.bs) then [some (vh.1, ⟨vh.2.nx, h.rs, vh.2.bs ++ h.bs⟩)] else [none]
      | none => [none]))
  | _ => bindR (C.s f args h) fun vh => if Nat.ble h.nx vh.2.nx then [some vh] else [none]

/-- the function and the arguments that a call comes to -/
def callee (f : AV) (args : List AV) : Option (FuncId × List AV) :=
  match f with
  | .fn (.func g) first captured => some (g, first ++ args ++ captured)
  | _ => none

def putD (tm : Tr) (dst : Option Nat) (v : AV) : Tr := match dst with
  | some d => tm.set d v
  | none => tm

def wantedA (tm : Tr) : Option (Nat × Bool) → Option Bool
  | none => some true
  | some (t, want) => match tm.get t with
    | .bool b => some (b == want)
    | .tup _ => some false
    | _ => none

def opR (C : Hand) (o : AOp) (tm : Tr) (h : AHeap) (at_ : Option Nat) : R (AV × AHeap) :=
  match o with
  | .call f args => match callee (f.ev tm) (args.map (AX.ev tm)) with
    | some (g, as) => C.call g as h
    | none => [none]
  | .next false it => nextA h (it.ev tm)
  | o => [aop o tm h at_]

def stepR (C : Hand) (r : ROp) (at_ : Option Nat) (σ : St) : R St :=
  match wantedA σ.tm r.guard with
  | none => [none]
  | some false => [some { σ with tm := putD σ.tm r.dst (.tup []) }]
  | some true => bindR (opR C r.op σ.tm σ.h at_) fun vh => [some { tm := putD σ.tm r.dst vh.1, h := vh.2 }]

def opsR (C : Hand) : List ROp → St → R St
  | [], σ => [some σ]
  | r :: rs, σ => bindR (stepR C r none σ) (opsR C rs)

/-- drawn regions: the names that are kept free: one an operation -/
def reserve (b : Nat) : Nat → List Nat
  | 0 => []
  | n + 1 => (b + n) :: reserve b n
/-- an operation in a drawn region runs where it can't see the blocks of those with which it is in no order -/
def hideB (b : Nat) (bs : List (Nat × ABlk)) : List Nat → List (Nat × ABlk)
  | [] => bs
  | i :: is => hideB b (delB (b + i) bs) is
def delGe (m : Nat) : List (Nat × ABlk) → List (Nat × ABlk)
  | [] => []
  | (k, x) :: r => if Nat.ble m k then delGe m r else (k, x) :: delGe m r
def hideH (b n : Nat) (h : AHeap) (is : List Nat) (all : Bool) : AHeap :=
  { nx := 0, rs := [], bs := match all with
      | true => delGe (b + n) (hideB b h.bs is)
      | false => hideB b h.bs is }
def opD (C : Hand) (b n : Nat) (r : ROp) (i : Nat) (σ : St) : R (AV × AHeap) :=
  match r.cl with
  | 0 => match aop r.op σ.tm .empty none with
    | some (v, _) => [some (v, σ.h)]
    | none => [none]
  | 1 => match aop r.op σ.tm (hideH b n σ.h r.hide r.hall) none with
    | some (v, _) => [some (v, σ.h)]
    | none => [none]
  | 3 => bindR (opR C r.op σ.tm (hideH b n σ.h r.hide r.hall) none) fun vh => [some (vh.1, σ.h)]
  | _ => opR C r.op σ.tm σ.h (some (b + i))
def stepD (C : Hand) (b n : Nat) (r : ROp) (i : Nat) (σ : St) : R St :=
  match wantedA σ.tm r.guard with
  | none => [none]
  | some false => [some { σ with tm := putD σ.tm r.dst (.tup []) }]
  | some true => bindR (opD C b n r i σ) fun vh => [some { tm := putD σ.tm r.dst vh.1, h := vh.2 }]
def opsD (C : Hand) (b n : Nat) : List ROp → Nat → St → R St
  | [], _, σ => [some σ]
  | r :: rs, i, σ => bindR (stepD C b n r i σ) (opsD C b n rs (i + 1))
def keepLt (m : Nat) : List Nat → List Nat
  | [] => []
  | k :: r => match Nat.blt k m with
    | true => k :: keepLt m r
    | false => keepLt m r
def regD (C : Hand) (ops : List ROp) (σ : St) : R St :=
  bindR (opsD C σ.h.nx ops.length ops 0 { σ with h := { nx := σ.h.nx + ops.length, rs := reserve σ.h.nx ops.length ++ σ.h.rs, bs := σ.h.bs } }) fun τ =>
    [some { τ with h := { τ.h with rs := keepLt σ.h.nx τ.h.rs } }]

/-- at a loop's head only the live temporaries are kept -/
def keepOnly (d : Nat) (tm : Tr) : List Nat → Tr
  | [] => Tr.mk .undef d
  | i :: is => (keepOnly d tm is).set i (tm.get i)

def runC (C : Hand) (L : List Nat → ACode → St → R (AExit × St)) : ACode → St → R (AExit × St)
  | .skip, σ => [some (.normal, σ)]
  | .reg drawn ops, σ => match drawn with
    | true => bindR (regD C ops σ) fun τ => [some (.normal, τ)]
    | false => bindR (opsR C ops σ) fun τ => [some (.normal, τ)]
  | .seq a b, σ => bindR (runC C L a σ) fun x => match x with
    | (.normal, τ) => runC C L b τ
    | (e, τ) => [some (e, τ)]
  | .cond c a b, σ => match c.ev σ.tm with
    | .bool true => runC C L a σ
    | .bool false => runC C L b σ
    | _ => [none]
  | .block id a, σ => bindR (runC C L a σ) fun x => match x with
    | (.exit j, τ) => if Nat.beq j id then [some (.normal, τ)] else [some (.exit j, τ)]
    | (e, τ) => [some (e, τ)]
  | .loop live a, σ => L live a σ
  | .exit id, σ => [some (.exit id, σ)]
  | .ret, σ => [some (.ret, σ)]

def iterL (C : Hand) (d : Nat) : Nat → List Nat → ACode → St → R (AExit × St)
  | 0, _, _, _ => [none]
  | n + 1, live, a, σ => bindR (runC C (iterL C d n) a { σ with tm := keepOnly d σ.tm live }) fun x => match x with
    | (.normal, τ) => iterL C d n live a τ
    | (e, τ) => [some (e, τ)]

def resA (σ : St) : ARes → Option AV
  | .tmp t => some (σ.tm.get t)
  | .cell t isagg sz => match cellsAt σ.h (σ.tm.get t) with
    | some cs => loadA isagg sz cs
    | none => none
def resL (σ : St) : List ARes → Option (List AV)
  | [] => some []
  | r :: rs => match resA σ r, resL σ rs with
    | some v, some vs => some (v :: vs)
    | _, _ => none
def resV (σ : St) (rs : List ARes) : Option AV := match resL σ rs with
  | some [v] => some v
  | some vs => some (.tup vs)
  | none => none

abbrev AProg := FuncId → Option AFunc

def bodyR (C : Hand) (n : Nat) (F : AFunc) (args : List AV) (h : AHeap) : R (AV × AHeap) :=
  bindR (runC C (iterL C F.depth n) F.body { tm := Tr.ofList (Tr.mk (.tup []) F.depth) 0 args, h }) fun x =>
    match x with
    | (.exit _, _) => [none]
    | (_, τ) => match resV τ F.res with
      | some v => [some (v, τ.h)]
      | none => [none]

def hand (G : AProg) : Nat → Hand
  | 0 => { md := fun f => match G f with | some F => F.md | none => 2, p := fun _ _ => [none], s := fun _ _ _ => [none] }
  | n + 1 =>
    { md := fun f => match G f with | some F => F.md | none => 2
      p := fun f args => match G f with
        | some F => bindR (bodyR (hand G n) n F args .empty) fun vh => [frz vh.2 64 vh.1]
        | none => [none]
      s := fun f args h => match G f with
        | some F => bodyR (hand G n) n F args h
        | none => [none] }

end Go.Eng

namespace Go.Eng

def ofValues (f : Value → Option AV) : List Value → Option (List AV)
  | [] => some []
  | v :: vs => match f v, ofValues f vs with
    | some x, some xs => some (x :: xs)
    | _, _ => none
def ofCell : Value → Option AV
  | .bool b => some (.bool b)
  | .int k n => some (.int k n)
  | .string s => some (.str s.data.toList)
  | .pointer none => some .nilp
  | .slice none 0 0 => some .nils
  | .map none => some .nilm
  | .nilFunc => some .nilf
  | .nilIface => some .nili
  | _ => none
def ofValue : Value → Option AV
  | .agg cs => match ofValues ofCell cs.toList with
    | some xs => some (.agg xs)
    | none => none
  | v => ofCell v

def trX : Operand → Option AX
  | .tmp t => some (.t t)
  | .const v => (ofValue v).map .c
  | .func f => some (.f f)
  | .global _ => none
def trXs : List Operand → Option (List AX)
  | [] => some []
  | x :: xs => match trX x, trXs xs with
    | some y, some ys => some (y :: ys)
    | _, _ => none
def trO : Option Operand → Option (Option AX)
  | none => some none
  | some x => (trX x).map some

def sz? (P : Program) (t : TypeId) : Option Nat := (P.info? t).map (·.size)
def bytes? (P : Program) (t : TypeId) : Option Nat := (P.info? t).map (·.bytes)
def isagg? (P : Program) (t : TypeId) : Option Bool := (P.underlying t).map fun d => match d with | .struct _ | .array _ _ => true | _ => false
def zero? (P : Program) (t : TypeId) : Option AV := match P.info? t with
  | some i => match i.zero with
    | some v => ofValue v
    | none => none
  | none => none
def zeros? (P : Program) (t : TypeId) : Option (List AV) := (zero? P t).bind cells?

def tkOne (P : Program) (t : TypeId) : TK := match P.underlying t with
  | some .bool => .bool
  | some (.int _) => .int
  | some .string => .str
  | some (.pointer _) => .ptr
  | some (.slice _) => .slice
  | some (.map _ _) => .map
  | some (.func _ _ _) => .func
  | some (.interface _) => .iface
  | _ => .no
def tkFields (P : Program) : Nat → List Field → Option (List TK)
  | _, [] => some []
  | i, f :: fs =>
    if f.offset = i ∧ f.name ≠ "_" then
      match tkOne P f.type, sz? P f.type, isagg? P f.type, tkFields P (i + 1) fs with
      | .no, _, _, _ => none
      | .iface, _, _, _ => none
      | k, some 1, some false, some ks => some (k :: ks)
      | _, _, _, _ => none
    else none
def tkOf (P : Program) (t : TypeId) : TK := match P.underlying t with
  | some (.struct fs) => if P.stoodInHeld t || P.eqGuardType P.depth t then .no else match tkFields P 0 fs.toList with
    | some ks => .struct ks
    | none => .no
  | _ => tkOne P t

def trParts (P : Program) (fs : Array Field) : List (Nat × Operand) → Option (List (Nat × Nat × AX))
  | [] => some []
  | (i, x) :: r => match fs[i]? with
    | some f => match sz? P f.type, trX x, trParts P fs r with
      | some s, some y, some ys => some ((f.offset, s, y) :: ys)
      | _, _, _ => none
    | none => none
def trPartsS : List (Nat × Operand) → Option (List (Nat × AX))
  | [] => some []
  | (i, x) :: r => match trX x, trPartsS r with
    | some y, some ys => some ((i, y) :: ys)
    | _, _ => none

def extName : Nat → String
  | 0 => "internal/bytealg.abigen_runtime_cmpstring"
  | 1 => "internal/bytealg.IndexByteString"
  | _ => "internal/bytealg.CountString"
def extK (n : String) : Option Nat := if n == extName 0 then some 0 else if n == extName 1 then some 1 else if n == extName 2 then some 2 else none

def trCall (P : Program) (c : Call) : Option AOp :=
  match c.callee, c.args.toList, c.argTypes.toList with
  | .builtin .len, [x], [t] => match tkOne P t, trX x with
    | .str, some y => some (.len .str y)
    | .slice, some y => some (.len .slice y)
    | .map, some y => some (.len .map y)
    | _, _ => none
  | .builtin .cap, [x], [t] => match tkOne P t, trX x with
    | .slice, some y => some (.cap y)
    | _, _ => none
  | .builtin .append, [s, x], [st, xt] => match P.underlying st, P.underlying xt, trX s, trX x with
    | some (.slice el), some xd, some s', some x' => match xd, sz? P el, bytes? P el, zeros? P el with
      | .int _, _, _, _ => none
      | _, some es, some bs, some z => if z.length = es then some (.append el es bs s' x') else none
      | _, _, _, _ => none
    | _, _, _, _ => none
  | .builtin .copy, [d, s], t :: _ => match P.underlying t, trX d, trX s with
    | some (.slice el), some d', some s' => match sz? P el with
      | some es => some (.copy es d' s')
      | none => none
    | _, _, _ => none
  | .builtin .clear, [x], [t] => match P.underlying t, trX x with
    | some (.slice el), some x' => match zeros? P el, sz? P el with
      | some z, some es => if z.length = es then some (.clear .slice z x') else none
      | _, _ => none
    | some (.map _ _), some x' => some (.clear .map [] x')
    | _, _ => none
  | .builtin .delete, [m, k], t :: _ => match P.underlying t, trX m, trX k with
    | some (.map kt _), some m', some k' => some (.delete (tkOf P kt) m' k')
    | _, _, _ => none
  | .builtin .min, xs, _ => (trXs xs).map (.minmax false)
  | .builtin .max, xs, _ => (trXs xs).map (.minmax true)
  | .value (.func g), xs, _ => match P.funcs[g]?, trXs xs with
    | some fn, some ys => match fn.body with
      | some _ => some (.call (.f g) ys)
      | none => match extK fn.name, (Extern.findNext fn).isNone, ys with
        | some k, true, [a, b] => some (.ext k a b)
        | _, _, _ => none
    | _, _ => none
  | .value f, xs, _ => match trX f, trXs xs with
    | some g, some ys => some (.call g ys)
    | _, _ => none
  | _, _, _ => none

def trMap (P : Program) (t : TypeId) (r : Option Operand) : Option AOp :=
  match r with
  | none => some .mkmap
  | some (.const (.int _ _)) => match P.underlying t with
    | some (.map _ _) => some .mkmap
    | _ => none
  | _ => none

def tkFor (P : Program) (op : BinOp) (t : TypeId) : TK := match op with
  | .eql | .neq => tkOf P t
  | _ => .no

def trOp (P : Program) (o : Op) : Option AOp :=
  match o with
  | .move x | .assign x => (trX x).map .mov
  | .pick c a b => match trX c, trX a, trX b with
    | some c, some a, some b => some (.pick c a b)
    | _, _, _ => none
  | .alloc el => match zeros? P el, sz? P el with
    | some z, some es => if z.length = es then some (.new z el) else none
    | _, _ => none
  | .box el x => match trX x, sz? P el with
    | some y, some es => some (.box y el es)
    | _, _ => none
  | .build t parts => match P.underlying t, zeros? P t with
    | some (.struct fs), some z => if fs.all fun f => (sz? P f.type).isSome then (trParts P fs parts.toList).map (.build z) else none
    | _, _ => none
  | .buildSlice t n parts => match P.underlying t with
    | some (.slice el) => match sz? P el, zeros? P el, trPartsS parts.toList with
      | some es, some z, some ps => if n * es ≤ 16777216 ∧ z.length = es then some (.mkslice n es el z ps) else none
      | _, _, _ => none
    | _ => none
  | .load t a => match isagg? P t, sz? P t, trX a with
    | some b, some s, some x => some (.load b s x)
    | _, _, _ => none
  | .store t a x => match sz? P t, trX a, trX x with
    | some s, some a', some x' => some (.store s a' x')
    | _, _, _ => none
  | .nilCheck x => (trX x).map .nilchk
  | .binOp op t x y _ => match trX x, trX y with
    | some a, some b => some (.bin op (tkFor P op t) a b)
    | _, _ => none
  | .unOp op _ x => (trX x).map (.un op)
  | .convert src dst x => match P.underlying src, P.underlying dst, trX x with
    | some (.int _), some (.int k), some y => some (.convI k y)
    | some .string, some .string, some y => some (.convS y)
    | some .string, some (.slice el), some y => match P.underlying el, sz? P el with
      | some (.int .u8), some 1 => some (.convSB el y)
      | _, _ => none
    | some (.slice el), some .string, some y => match P.underlying el with
      | some (.int .u8) => some (.convBS y)
      | _ => none
    | _, _, _ => none
  | .makeInterface t x => match P.underlying t, trX x with
    | some (.interface _), _ => none
    | some _, some y => some (.mkiface t y)
    | _, _ => none
  | .makeFunc f first captured => match trXs first.toList, trXs captured.toList with
    | some a, some b => some (.mkfn f a b)
    | _, _ => none
  | .makeMap t r => trMap P t r
  | .makeSlice t l c => match P.underlying t, trX l, trX c with
    | some (.slice el), some l', some c' => match sz? P el, bytes? P el, zeros? P el with
      | some es, some bs, some z => if z.length = es then some (.make el es bs z l' c') else none
      | _, _, _ => none
    | _, _, _ => none
  | .slice t x lo hi mx => match trX x, trO lo, trO hi, trO mx with
    | some y, some lo', some hi', some mx' => match P.underlying t with
      | some .string => some (.slice .str 1 y lo' hi' mx')
      | some (.slice el) => (sz? P el).map fun es => .slice .slice es y lo' hi' mx'
      | _ => none
    | _, _, _, _ => none
  | .fieldAddr s x i => match P.underlying s, trX x with
    | some (.struct fs), some y => match fs[i]? with
      | some f => match sz? P f.type with
        | some 0 => none
        | some _ => some (.addOff f.offset y)
        | none => none
      | none => none
    | _, _ => none
  | .field t x i => match P.underlying t, trX x with
    | some (.struct fs), some y => match fs[i]? with
      | some f => match isagg? P f.type, sz? P f.type with
        | some b, some s => some (.fld b f.offset s y)
        | _, _ => none
      | none => none
    | _, _ => none
  | .indexAddr t x i => match P.underlying t, trX x, trX i with
    | some (.slice el), some y, some j => (sz? P el).map fun es => .idxAddr none es y j
    | some (.array n el), some y, some j => (sz? P el).map fun es => .idxAddr (some n) es y j
    | _, _, _ => none
  | .index t x i => match P.underlying t, trX x, trX i with
    | some .string, some y, some j => some (.idxStr y j)
    | some (.array n el), some y, some j => match isagg? P el, sz? P el with
      | some b, some es => some (.idxAgg b n es y j)
      | _, _ => none
    | _, _, _ => none
  | .lookup t m k ok => match P.underlying t, trX m, trX k with
    | some (.map kt el), some m', some k' => (zero? P el).map fun z => .lookup (tkOf P kt) z ok m' k'
    | _, _, _ => none
  | .mapUpdate t m k v => match P.underlying t, trX m, trX k, trX v with
    | some (.map kt _), some m', some k', some v' => some (.mapUpd (tkOf P kt) m' k' v')
    | _, _, _, _ => none
  | .range t x => match P.underlying t, trX x with
    | some .string, some y => some (.range .str y)
    | some (.map _ _), some y => some (.range .map y)
    | _, _ => none
  | .next it s => (trX it).map (.next s)
  | .entry it => (trX it).map .entry
  | .extract x i => (trX x).map fun y => .extract y i
  | .call c => trCall P c
  | _ => none

/-- what an operation may do to the heap: 0 nothing; 1 reads; 2 lays a new block; 3 a call that sees and leaves no block; 4 a call that sees no block; 5 anything -/
def opClass (md : FuncId → Nat) : AOp → Nat
  | .mov _ | .pick _ _ _ | .build _ _ | .nilchk _ | .bin _ _ _ _ | .un _ _ | .convI _ _ | .convS _ | .mkiface _ _ | .mkfn _ _ _
  | .mkisl _ _ _ _ | .addOff _ _ | .fld _ _ _ _ | .idxAddr _ _ _ _ | .idxAgg _ _ _ _ _ | .idxStr _ _ | .extract _ _ | .cap _ | .minmax _ _ | .ext _ _ _ => 0
  | .len .map _ => 1
  | .len _ _ => 0
  | .load _ _ _ | .lookup _ _ _ _ _ | .entry _ | .convBS _ | .slice _ _ _ _ _ _ => 1
  | .new _ _ | .box _ _ _ | .mkslice _ _ _ _ _ | .mkmap | .make _ _ _ _ _ _ | .convSB _ _ => 2
  | .call (.f g) _ => match md g with
    | 0 => 3
    | 1 => 4
    | _ => 5
  | _ => 5
def AX.tmps : AX → List Nat
  | .t i => [i]
  | _ => []
def AX.tmpsL : List AX → List Nat
  | [] => []
  | x :: xs => x.tmps ++ AX.tmpsL xs
def AX.tmpsO : Option AX → List Nat
  | none => []
  | some x => x.tmps
/-- the temporaries that an operation reads -/
def AOp.tmps : AOp → List Nat
  | .mov x | .box x _ _ | .load _ _ x | .nilchk x | .un _ x | .convI _ x | .convS x | .convSB _ x | .convBS x | .mkiface _ x | .addOff _ x | .fld _ _ _ x
  | .range _ x | .next _ x | .entry x | .extract x _ | .len _ x | .cap x | .clear _ _ x => x.tmps
  | .pick a b c | .mapUpd _ a b c => a.tmps ++ b.tmps ++ c.tmps
  | .store _ a b | .bin _ _ a b | .idxAddr _ _ a b | .idxAgg _ _ _ a b | .idxStr a b | .lookup _ _ _ a b | .append _ _ _ a b | .copy _ a b | .delete _ a b | .ext _ a b
  | .make _ _ _ _ a b => a.tmps ++ b.tmps
  | .slice _ _ x a b c => x.tmps ++ AX.tmpsO a ++ AX.tmpsO b ++ AX.tmpsO c
  | .mkfn _ a b => AX.tmpsL a ++ AX.tmpsL b
  | .call f xs => f.tmps ++ AX.tmpsL xs
  | .minmax _ xs => AX.tmpsL xs
  | .build _ ps => AX.tmpsL (ps.map (·.2.2))
  | .mkslice _ _ _ _ ps => AX.tmpsL (ps.map (·.2))
  | .mkisl _ _ _ ps => AX.tmpsL (ps.map (·.2))
  | .new _ _ | .mkmap | .bad => []

def guardOf (ops : Array Oper) : Option (Nat × Bool) → Option (Option (Nat × Bool))
  | none => some none
  | some (j, want) => match (ops[j]?).bind (·.dst) with
    | some t => some (some (t, want))
    | none => none

/-- a slice that stands written out and that nobody turns -/
def litOp (lit : Bool) (o : AOp) : AOp := match lit, o with
  | true, .mkslice n es _ z ps => .mkisl n es z ps
  | _, o => o
def trROp (P : Program) (md : FuncId → Nat) (lit : Bool) (ops : Array Oper) (o : Oper) : Option ROp :=
  match trOp P o.op, guardOf ops o.guard with
  | some a, some g => some { dst := o.dst, op := litOp lit a, guard := g, cl := opClass md (litOp lit a), hide := [], hall := false }
  | _, _ => none
def trROps (P : Program) (md : FuncId → Nat) (lit : Bool) (ops : Array Oper) : List Oper → Option (List ROp)
  | [] => some []
  | o :: os => match trROp P md lit ops o, trROps P md lit ops os with
    | some r, some rs => some (r :: rs)
    | _, _ => none

def ROp.reads (r : ROp) : List Nat := r.op.tmps ++ (match r.guard with | some (t, _) => [t] | none => [])
def notIn (d : Option Nat) (l : List Nat) : Bool := match d with
  | some d => !memN d l
  | none => true
def apartR (x y : ROp) : Bool :=
  notIn x.dst y.reads && notIn y.dst x.reads && (match x.dst, y.dst with | some a, some b => !(Nat.beq a b) | _, _ => true)
/-- two operations in no order: may they run in both? -/
def clsOk (a b : Nat) : Bool := Nat.beq a 0 || Nat.beq b 0 || (Nat.blt a 5 && Nat.blt b 5 && (Nat.blt a 3 || Nat.blt b 3))

/-- a drawn region: are operations i and j in no order? ('bs': the marks of what comes before each) -/
def loose (bs : Array Nat) (i j : Nat) : Bool := !((bs.getD i 0).testBit j) && !((bs.getD j 0).testBit i) && !(Nat.beq i j)
def drawOp (bs : Array Nat) (rs : List ROp) (j : Nat) (rj : ROp) : Option ROp :=
  let free := rs.zipIdx.filter fun ri => loose bs ri.2 j
  if free.all fun ri => apartR ri.1 rj && clsOk ri.1.cl rj.cl then
    some (if Nat.beq rj.cl 1 || Nat.beq rj.cl 3 then { rj with hide := (free.filter fun ri => Nat.beq ri.1.cl 2).map (·.2), hall := free.any fun ri => Nat.beq ri.1.cl 4 } else rj)
  else none
def drawAll (bs : Array Nat) (rs : List ROp) : Nat → List ROp → Option (List ROp)
  | _, [] => some []
  | j, rj :: r =>
    match drawOp bs rs j rj, drawAll bs rs (j + 1) r with
    | some x, some y => some (x :: y)
    | _, _ => none
def edgesBack : Nat → List Oper → Bool
  | _, [] => true
  | i, o :: os => (o.after.all fun e => !Region.binds .any e || Nat.blt e.on i) && edgesBack (i + 1) os

def firstReg : Code → Nat
  | .region id _ _ => id
  | .seq a _ => firstReg a
  | .block _ a => firstReg a
  | .loop a => firstReg a
  | _ => 0

def trC (P : Program) (md : FuncId → Nat) (lit : Bool) (live : Nat → List Nat) : Code → Option ACode
  | .skip => some .skip
  | .region _ ops draw => match trROps P md lit ops ops.toList with
    | some rs => match draw with
      | false => some (.reg false rs)
      | true => if edgesBack 0 ops.toList && Region.noSelect ops then (drawAll (Region.before ops) rs 0 rs).map (.reg true) else none
    | none => none
  | .seq a b => match trC P md lit live a, trC P md lit live b with
    | some x, some y => some (.seq x y)
    | _, _ => none
  | .cond c a b => match trX c, trC P md lit live a, trC P md lit live b with
    | some c', some x, some y => some (.cond c' x y)
    | _, _, _ => none
  | .block id a => (trC P md lit live a).map (.block id)
  | .loop a => (trC P md lit live a).map (.loop (live (firstReg a)))
  | .exit id => some (.exit id)
  | .ret => some .ret
  | _ => none

def trRes (P : Program) : List ResultVar → Option (List ARes)
  | [] => some []
  | .tmp t :: rs => (trRes P rs).map (.tmp t :: ·)
  | .cell a t :: rs => match isagg? P t, sz? P t, trRes P rs with
    | some b, some s, some r => some (.cell a b s :: r)
    | _, _, _ => none

def dstIn (n : Nat) : List ROp → Bool
  | [] => true
  | r :: rs => (match r.dst with | some d => Nat.blt d n | none => true) && dstIn n rs
def ACode.dstIn (n : Nat) : ACode → Bool
  | .reg _ ops => Eng.dstIn n ops
  | .seq a b => a.dstIn n && b.dstIn n
  | .cond _ a b => a.dstIn n && b.dstIn n
  | .block _ a => a.dstIn n
  | .loop _ a => a.dstIn n
  | _ => true

def trF (P : Program) (md : FuncId → Nat) (lit : Bool) (live : Nat → List Nat) (depth : Nat) (f : FuncId) : Option AFunc :=
  match P.funcs[f]? with
  | some fn => match fn.body with
    | some c => if fn.name == "runtime.NumGoroutine" || Nat.blt (2 ^ depth) fn.ntmps then none else
      match trC P md lit live c, trRes P fn.results.toList with
      | some b, some r => if b.dstIn fn.ntmps then some { depth, res := r, body := b, md := md f, lit } else none
      | _, _ => none
    | none => none
  | none => none

end Go.Eng

namespace Go.Eng

structure Ctx where
  K : Nat → Prop
  m : Nat → Nat × Nat
  O : Nat → Prop
  X : Nat → Prop
  w : World

def Ctx.bare (c : Ctx) : Ctx := { c with K := fun _ => False }
def Ctx.imm (c : Ctx) (b : Nat) : Prop := b < c.w.heap.size ∧ ¬ c.O b ∧ ¬ c.X b

def capOk (cp : Cap) (n cap : Nat) : Prop := n ≤ cap ∧ match cp with
  | .ex k => cap = k
  | .any => True

mutual
def VR (P : Program) : AV → Ctx → Value → Prop
  | .bool b, _, v => v = .bool b
  | .int k n, _, v => v = .int k n
  | .str s, _, v => v = .string ⟨⟨s⟩⟩
  | .nilp, _, v => v = .pointer none
  | .ptr ν o, c, v => c.K ν ∧ v = .pointer (some ⟨(c.m ν).1, (c.m ν).2 + o, none⟩)
  | .ip cells, c, v => ∃ b base, v = .pointer (some ⟨b, base, none⟩) ∧ c.imm b ∧ VRm P cells c.bare b base
  | .nils, _, v => v = .slice none 0 0
  | .slc ν o n cp, c, v => c.K ν ∧ (c.m ν).1 < c.w.heap.size ∧ ∃ cap, v = .slice (some ⟨(c.m ν).1, (c.m ν).2 + o, none⟩) n cap ∧ capOk cp n cap ∧
      (cp = .any → ∀ el s, c.w.shape? (c.m ν).1 = some (el, s) → (c.m ν).2 + o + cap * P.cellsOf el = s)
  | .isl cells n cp, c, v => ∃ a cap, v = .slice a n cap ∧ capOk cp n cap ∧ (n = 0 → cells = []) ∧
      (n ≠ 0 → ∃ b base, a = some ⟨b, base, none⟩ ∧ c.imm b ∧ VRm P cells c.bare b base)
  | .nilm, _, v => v = .map none
  | .mp ν, c, v => c.K ν ∧ v = .map (some (c.m ν).1)
  | .nilf, _, v => v = .nilFunc
  | .fn f a b, c, v => ∃ a' b' : List Value, v = .func f ⟨a'⟩ ⟨b'⟩ ∧ VRl P a c a' ∧ VRl P b c b'
  | .nili, _, v => v = .nilIface
  | .ifc t x, c, v => ∃ x', v = .iface t x' ∧ VR P x c x'
  | .agg cs, c, v => ∃ cs' : List Value, v = .agg ⟨cs'⟩ ∧ VRl P cs c cs'
  | .tup cs, c, v => ∃ cs' : List Value, v = .tuple ⟨cs'⟩ ∧ VRl P cs c cs'
  | .undef, _, _ => True
def VRl (P : Program) : List AV → Ctx → List Value → Prop
  | [], _, vs => vs = []
  | x :: xs, c, vs => ∃ v r, vs = v :: r ∧ VR P x c v ∧ VRl P xs c r
def VRm (P : Program) : List AV → Ctx → Nat → Nat → Prop
  | [], _, _, _ => True
  | x :: xs, c, b, o => (∃ v, c.w.cell? ⟨b, o, none⟩ = some v ∧ VR P x c v) ∧ VRm P xs c b (o + 1)
end

/-- a later context: what was named, what was immutable, is as it was -/
structure CLe (c d : Ctx) : Prop where
  K : ∀ ν, c.K ν → d.K ν ∧ d.m ν = c.m ν
  size : c.w.heap.size ≤ d.w.heap.size
  keep : ∀ b, b < c.w.heap.size → ¬ c.O b → d.w.heap[b]? = c.w.heap[b]? ∧ ¬ d.O b
  shp : ∀ b, b < c.w.heap.size → d.w.shape? b = c.w.shape? b
  X : ∀ b, d.X b → c.X b

theorem CLe.refl (c : Ctx) : CLe c c := ⟨fun _ h => ⟨h, rfl⟩, Nat.le_refl _, fun _ _ h => ⟨rfl, h⟩, fun _ _ => rfl, fun _ h => h⟩
theorem CLe.trans {a b c : Ctx} (h : CLe a b) (k : CLe b c) : CLe a c where
  K ν hν := by
    obtain ⟨h1, h2⟩ := h.K ν hν
    obtain ⟨k1, k2⟩ := k.K ν h1
    exact ⟨k1, k2.trans h2⟩
  size := Nat.le_trans h.size k.size
  keep x hx ho := by
    obtain ⟨h1, h2⟩ := h.keep x hx ho
    obtain ⟨k1, k2⟩ := k.keep x (Nat.lt_of_lt_of_le hx h.size) h2
    exact ⟨k1.trans h1, k2⟩
  shp x hx := (k.shp x (Nat.lt_of_lt_of_le hx h.size)).trans (h.shp x hx)
  X b hb := h.X b (k.X b hb)
theorem CLe.bare {c d : Ctx} (h : CLe c d) : CLe c.bare d.bare := ⟨fun _ h => h.elim, h.size, h.keep, h.shp, h.X⟩
theorem CLe.imm {c d : Ctx} (h : CLe c d) {b : Nat} (hb : c.imm b) : d.imm b := ⟨Nat.lt_of_lt_of_le hb.1 h.size, (h.keep b hb.1 hb.2.1).2, fun hx => hb.2.2 (h.X b hx)⟩
theorem World.cell?_congr {w w' : World} {a : Addr} (h : w'.heap[a.block]? = w.heap[a.block]?) : w'.cell? a = w.cell? a := by
  simp only [World.cell?, h]
theorem CLe.cell {c d : Ctx} (h : CLe c d) {b o : Nat} (hb : c.imm b) : d.w.cell? ⟨b, o, none⟩ = c.w.cell? ⟨b, o, none⟩ :=
  World.cell?_congr (h.keep b hb.1 hb.2.1).1

/-- the part of it that the values need -/
structure CLi (c d : Ctx) : Prop where
  K : ∀ ν, c.K ν → d.K ν ∧ d.m ν = c.m ν
  size : c.w.heap.size ≤ d.w.heap.size
  keep : ∀ b, c.imm b → d.imm b ∧ d.w.heap[b]? = c.w.heap[b]?
  shp : ∀ b, b < c.w.heap.size → d.w.shape? b = c.w.shape? b
theorem CLe.toI {c d : Ctx} (h : CLe c d) : CLi c d := ⟨h.K, h.size, fun b hb => ⟨h.imm hb, (h.keep b hb.1 hb.2.1).1⟩, h.shp⟩
theorem CLi.bare {c d : Ctx} (h : CLi c d) : CLi c.bare d.bare := ⟨fun _ h => h.elim, h.size, h.keep, h.shp⟩
theorem CLi.imm {c d : Ctx} (h : CLi c d) {b : Nat} (hb : c.imm b) : d.imm b := (h.keep b hb).1
theorem CLi.cell {c d : Ctx} (h : CLi c d) {b o : Nat} (hb : c.imm b) : d.w.cell? ⟨b, o, none⟩ = c.w.cell? ⟨b, o, none⟩ :=
  World.cell?_congr (h.keep b hb).2

mutual
theorem VR.monoI {P : Program} : ∀ (x : AV) {c d : Ctx} {v : Value}, CLi c d → VR P x c v → VR P x d v
  | .bool _, _, _, _, _, h => h
  | .int _ _, _, _, _, _, h => h
  | .str _, _, _, _, _, h => h
  | .nilp, _, _, _, _, h => h
  | .ptr ν o, c, d, v, hl, h => by
    simp only [VR] at h ⊢
    obtain ⟨hk, hm⟩ := hl.K ν h.1
    rw [hm]; exact ⟨hk, h.2⟩
  | .ip cells, c, d, v, hl, h => by
    simp only [VR] at h ⊢
    obtain ⟨b, base, rfl, hi, hm⟩ := h
    exact ⟨b, base, rfl, hl.imm hi, VRm.monoI cells hl.bare hi hm⟩
  | .nils, _, _, _, _, h => h
  | .slc ν o n cp, c, d, v, hl, h => by
    simp only [VR] at h ⊢
    obtain ⟨hk, hs, cap, rfl, hc, he⟩ := h
    obtain ⟨hk', hm⟩ := hl.K ν hk
    rw [hm]
    refine ⟨hk', Nat.lt_of_lt_of_le hs hl.size, cap, rfl, hc, fun hcp el s h => he hcp el s ?_⟩
    rw [← hl.shp _ hs]; exact h
  | .isl cells n cp, c, d, v, hl, h => by
    simp only [VR] at h ⊢
    obtain ⟨a, cap, rfl, hc, h0, hn⟩ := h
    refine ⟨a, cap, rfl, hc, h0, fun hn0 => ?_⟩
    obtain ⟨b, base, rfl, hi, hm⟩ := hn hn0
    exact ⟨b, base, rfl, hl.imm hi, VRm.monoI cells hl.bare hi hm⟩
  | .nilm, _, _, _, _, h => h
  | .mp ν, c, d, v, hl, h => by
    simp only [VR] at h ⊢
    obtain ⟨hk, hm⟩ := hl.K ν h.1
    rw [hm]; exact ⟨hk, h.2⟩
  | .nilf, _, _, _, _, h => h
  | .fn f a b, c, d, v, hl, h => by
    simp only [VR] at h ⊢
    obtain ⟨a', b', rfl, ha, hb⟩ := h
    exact ⟨a', b', rfl, VRl.monoI a hl ha, VRl.monoI b hl hb⟩
  | .nili, _, _, _, _, h => h
  | .ifc t x, c, d, v, hl, h => by
    simp only [VR] at h ⊢
    obtain ⟨x', rfl, hx⟩ := h
    exact ⟨x', rfl, VR.monoI x hl hx⟩
  | .agg cs, c, d, v, hl, h => by
    simp only [VR] at h ⊢
    obtain ⟨cs', rfl, hx⟩ := h
    exact ⟨cs', rfl, VRl.monoI cs hl hx⟩
  | .tup cs, c, d, v, hl, h => by
    simp only [VR] at h ⊢
    obtain ⟨cs', rfl, hx⟩ := h
    exact ⟨cs', rfl, VRl.monoI cs hl hx⟩
  | .undef, _, _, _, _, h => h
theorem VRl.monoI {P : Program} : ∀ (xs : List AV) {c d : Ctx} {vs : List Value}, CLi c d → VRl P xs c vs → VRl P xs d vs
  | [], _, _, _, _, h => h
  | x :: xs, _, _, _, hl, h => by
    simp only [VRl] at h ⊢
    obtain ⟨v, r, rfl, hx, hxs⟩ := h
    exact ⟨v, r, rfl, VR.monoI x hl hx, VRl.monoI xs hl hxs⟩
theorem VRm.monoI {P : Program} : ∀ (xs : List AV) {c d : Ctx} {b o : Nat}, CLi c d → c.imm b → VRm P xs c b o → VRm P xs d b o
  | [], _, _, _, _, _, _, h => h
  | x :: xs, c, d, b, o, hl, hi, h => by
    simp only [VRm] at h ⊢
    obtain ⟨⟨v, hc, hx⟩, hxs⟩ := h
    exact ⟨⟨v, by rw [hl.cell hi]; exact hc, VR.monoI x hl hx⟩, VRm.monoI xs hl hi hxs⟩
end

/-- the same where the block is not immutable but its cells are the same -/
theorem VRm.mono_atI {P : Program} : ∀ (xs : List AV) {c d : Ctx} {b o : Nat}, CLi c d →
    (∀ i, i < xs.length → d.w.cell? ⟨b, o + i, none⟩ = c.w.cell? ⟨b, o + i, none⟩) → VRm P xs c b o → VRm P xs d b o
  | [], _, _, _, _, _, _, h => h
  | x :: xs, c, d, b, o, hl, hi, h => by
    simp only [VRm] at h ⊢
    obtain ⟨⟨v, hc, hx⟩, hxs⟩ := h
    refine ⟨⟨v, by rw [show o = o + 0 from rfl, hi 0 (by simp)]; exact hc, VR.monoI x hl hx⟩, VRm.mono_atI xs hl (fun i hlt => ?_) hxs⟩
    rw [show o + 1 + i = o + (i + 1) by omega]
    exact hi (i + 1) (by simp; omega)

theorem VR.mono {P : Program} (x : AV) {c d : Ctx} {v : Value} (h : CLe c d) (hv : VR P x c v) : VR P x d v := VR.monoI x h.toI hv
theorem VRl.mono {P : Program} (xs : List AV) {c d : Ctx} {vs : List Value} (h : CLe c d) (hv : VRl P xs c vs) : VRl P xs d vs := VRl.monoI xs h.toI hv
theorem VRm.mono {P : Program} (xs : List AV) {c d : Ctx} {b o : Nat} (h : CLe c d) (hb : c.imm b) (hv : VRm P xs c b o) : VRm P xs d b o := VRm.monoI xs h.toI hb hv
theorem VRm.mono_at {P : Program} (xs : List AV) {c d : Ctx} {b o : Nat} (h : CLe c d)
    (hi : ∀ i, i < xs.length → d.w.cell? ⟨b, o + i, none⟩ = c.w.cell? ⟨b, o + i, none⟩) (hv : VRm P xs c b o) : VRm P xs d b o := VRm.mono_atI xs h.toI hi hv

theorem VRl.length {P : Program} : ∀ {xs : List AV} {c : Ctx} {vs : List Value}, VRl P xs c vs → vs.length = xs.length
  | [], _, _, h => by simp only [VRl] at h; simp [h]
  | x :: xs, _, _, h => by
    simp only [VRl] at h
    obtain ⟨v, r, rfl, _, hxs⟩ := h
    simp [VRl.length hxs]
theorem VRl.get {P : Program} : ∀ {xs : List AV} {c : Ctx} {vs : List Value} (_ : VRl P xs c vs) (i : Nat) {x : AV}, xs[i]? = some x → ∃ v, vs[i]? = some v ∧ VR P x c v
  | x :: xs, _, _, h, 0, _, hx => by
    simp only [VRl] at h
    obtain ⟨v, r, rfl, hv, hxs⟩ := h
    simp at hx; subst hx
    exact ⟨v, rfl, hv⟩
  | x :: xs, _, _, h, i + 1, _, hx => by
    simp only [VRl] at h
    obtain ⟨v, r, rfl, hv, hxs⟩ := h
    simpa using VRl.get hxs i (by simpa using hx)
theorem VRl.append {P : Program} : ∀ {xs ys : List AV} {c : Ctx} {vs us : List Value}, VRl P xs c vs → VRl P ys c us → VRl P (xs ++ ys) c (vs ++ us)
  | [], _, _, _, _, h, k => by simp only [VRl] at h; simpa [h] using k
  | x :: xs, ys, c, vs, us, h, k => by
    simp only [VRl] at h
    obtain ⟨v, r, rfl, hv, hxs⟩ := h
    simp only [List.cons_append, VRl]
    exact ⟨v, r ++ us, rfl, hv, VRl.append hxs k⟩
theorem VRl.take {P : Program} : ∀ {xs : List AV} {c : Ctx} {vs : List Value} (n : Nat), VRl P xs c vs → VRl P (xs.take n) c (vs.take n)
  | _, _, _, 0, _ => by simp [VRl]
  | [], _, _, n + 1, h => by simp only [VRl] at h; simp [h, VRl]
  | x :: xs, c, vs, n + 1, h => by
    simp only [VRl] at h
    obtain ⟨v, r, rfl, hv, hxs⟩ := h
    simp only [List.take_succ_cons, VRl]
    exact ⟨v, r.take n, rfl, hv, VRl.take n hxs⟩
theorem VRl.drop {P : Program} : ∀ {xs : List AV} {c : Ctx} {vs : List Value} (n : Nat), VRl P xs c vs → VRl P (xs.drop n) c (vs.drop n)
  | _, _, _, 0, h => by simpa using h
  | [], _, _, n + 1, h => by simp only [VRl] at h; simp [h, VRl]
  | x :: xs, c, vs, n + 1, h => by
    simp only [VRl] at h
    obtain ⟨v, r, rfl, hv, hxs⟩ := h
    simpa using VRl.drop n hxs

theorem VRm.drop {P : Program} : ∀ {xs : List AV} {c : Ctx} {b o : Nat} (n : Nat), VRm P xs c b o → VRm P (xs.drop n) c b (o + n)
  | _, _, _, _, 0, h => by simpa using h
  | [], _, _, _, n + 1, _ => by simp [VRm]
  | x :: xs, c, b, o, n + 1, h => by
    simp only [VRm] at h
    have := VRm.drop n h.2
    simpa [Nat.add_assoc, Nat.add_comm 1 n] using this
theorem VRm.take {P : Program} : ∀ {xs : List AV} {c : Ctx} {b o : Nat} (n : Nat), VRm P xs c b o → VRm P (xs.take n) c b o
  | _, _, _, _, 0, _ => by simp [VRm]
  | [], _, _, _, n + 1, _ => by simp [VRm]
  | x :: xs, c, b, o, n + 1, h => by
    simp only [VRm] at h
    simp only [List.take_succ_cons, VRm]
    exact ⟨h.1, VRm.take n h.2⟩
theorem VRm.append {P : Program} : ∀ {xs ys : List AV} {c : Ctx} {b o : Nat}, VRm P xs c b o → VRm P ys c b (o + xs.length) → VRm P (xs ++ ys) c b o
  | [], _, _, _, _, _, k => by simpa using k
  | x :: xs, ys, c, b, o, h, k => by
    simp only [VRm] at h
    simp only [List.cons_append, VRm]
    exact ⟨h.1, VRm.append h.2 (by simpa [Nat.add_assoc, Nat.add_comm 1] using k)⟩
/-- the values behind cells -/
theorem VRm.vals {P : Program} : ∀ {xs : List AV} {c : Ctx} {b o : Nat}, VRm P xs c b o →
    ∃ vs : List Value, VRl P xs c vs ∧ ∀ j v, vs[j]? = some v → c.w.cell? ⟨b, o + j, none⟩ = some v
  | [], _, _, _, _ => ⟨[], by simp [VRl], by simp⟩
  | x :: xs, c, b, o, h => by
    simp only [VRm] at h
    obtain ⟨⟨v, hc, hv⟩, hxs⟩ := h
    obtain ⟨vs, hvs, hcs⟩ := VRm.vals hxs
    refine ⟨v :: vs, by simp only [VRl]; exact ⟨v, vs, rfl, hv, hvs⟩, fun j u hj => ?_⟩
    cases j with
    | zero => simp at hj; subst hj; simpa using hc
    | succ j => rw [show o + (j + 1) = o + 1 + j by omega]; exact hcs j u (by simpa using hj)
theorem VRm.of_vals {P : Program} : ∀ {xs : List AV} {c : Ctx} {b o : Nat} {vs : List Value}, VRl P xs c vs → (∀ j v, vs[j]? = some v → c.w.cell? ⟨b, o + j, none⟩ = some v) →
    VRm P xs c b o
  | [], _, _, _, _, _, _ => by simp [VRm]
  | x :: xs, c, b, o, vs, h, hc => by
    simp only [VRl] at h
    obtain ⟨v, r, rfl, hv, hxs⟩ := h
    simp only [VRm]
    refine ⟨⟨v, by simpa using hc 0 v rfl, hv⟩, VRm.of_vals hxs fun j u hj => ?_⟩
    rw [show o + 1 + j = o + (j + 1) by omega]
    exact hc (j + 1) u (by simpa using hj)

/- values without names stand in every context alike -/
mutual
theorem VR.bare {P : Program} : ∀ (x : AV) {c : Ctx} {v : Value}, noNames x = true → VR P x c v → VR P x c.bare v
  | .bool _, _, _, _, h => h
  | .int _ _, _, _, _, h => h
  | .str _, _, _, _, h => h
  | .nilp, _, _, _, h => h
  | .ptr _ _, _, _, hn, _ => by simp [noNames] at hn
  | .ip _, _, _, _, h => h
  | .nils, _, _, _, h => h
  | .slc _ _ _ _, _, _, hn, _ => by simp [noNames] at hn
  | .isl _ _ _, _, _, _, h => h
  | .nilm, _, _, _, h => h
  | .mp _, _, _, hn, _ => by simp [noNames] at hn
  | .nilf, _, _, _, h => h
  | .fn f a b, c, v, hn, h => by
    simp only [VR] at h ⊢
    simp only [noNames, Bool.and_eq_true] at hn
    obtain ⟨a', b', rfl, ha, hb⟩ := h
    exact ⟨a', b', rfl, VRl.bare a hn.1 ha, VRl.bare b hn.2 hb⟩
  | .nili, _, _, _, h => h
  | .ifc t x, c, v, hn, h => by
    simp only [VR] at h ⊢
    simp only [noNames] at hn
    obtain ⟨x', rfl, hx⟩ := h
    exact ⟨x', rfl, VR.bare x hn hx⟩
  | .agg cs, c, v, hn, h => by
    simp only [VR] at h ⊢
    simp only [noNames] at hn
    obtain ⟨cs', rfl, hx⟩ := h
    exact ⟨cs', rfl, VRl.bare cs hn hx⟩
  | .tup cs, c, v, hn, h => by
    simp only [VR] at h ⊢
    simp only [noNames] at hn
    obtain ⟨cs', rfl, hx⟩ := h
    exact ⟨cs', rfl, VRl.bare cs hn hx⟩
  | .undef, _, _, _, h => h
theorem VRl.bare {P : Program} : ∀ (xs : List AV) {c : Ctx} {vs : List Value}, noNamesL xs = true → VRl P xs c vs → VRl P xs c.bare vs
  | [], _, _, _, h => h
  | x :: xs, _, _, hn, h => by
    simp only [VRl] at h ⊢
    simp only [noNamesL, Bool.and_eq_true] at hn
    obtain ⟨v, r, rfl, hx, hxs⟩ := h
    exact ⟨v, r, rfl, VR.bare x hn.1 hx, VRl.bare xs hn.2 hxs⟩
end
theorem CLe.unbare (c : Ctx) : CLe c.bare c := ⟨fun _ h => h.elim, Nat.le_refl _, fun _ _ h => ⟨rfl, h⟩, fun _ _ => rfl, fun _ h => h⟩

end Go.Eng

namespace Go.Eng

/-- what the names stand for; blocks that are not to be touched or read; the first name that may be known -/
structure Gh where
  f : Nat → Nat × Nat
  X : Nat → Prop
  lo : Nat
instance : CoeFun Gh fun _ => Nat → Nat × Nat := ⟨Gh.f⟩
def Kn (m : Gh) (h : AHeap) (ν : Nat) : Prop := m.lo ≤ ν ∧ ν < h.nx ∧ memN ν h.rs = false
def Own (m : Gh) (h : AHeap) (b : Nat) : Prop := ∃ ν bk, h.get ν = some bk ∧ (m ν).1 = b
def cx (m : Gh) (h : AHeap) (w : World) : Ctx := ⟨Kn m h, m.f, Own m h, m.X, w⟩

def MR (P : Program) : List (AV × AV × Nat) → Ctx → List MapEntry → Prop
  | [], _, es => es = []
  | (k, v, n) :: r, c, es => ∃ e r', es = e :: r' ∧ VR P k c e.key ∧ VR P v c e.val ∧ e.born = n ∧ MR P r c r'
def Ctx.of (c : Ctx) (pur : Bool) : Ctx := match pur with
  | true => c.bare
  | false => c
def BR (P : Program) (c : Ctx) (bk : ABlk) (b base : Nat) : Prop := match bk with
  | .vec cells k => ∃ arr fz, c.w.heap[b]? = some (.cells arr k.el fz) ∧ VRm P cells (c.of k.pur) b base ∧ base + cells.length ≤ arr.size ∧
      (∀ i, base ≤ i → i < arr.size → ¬ (fz.1 ≤ i ∧ i < fz.2)) ∧ P.cellsOf k.el = k.es
  | .amap es clock => base = 0 ∧ ∃ es' : List MapEntry, c.w.heap[b]? = some (.map ⟨es'⟩ clock) ∧ MR P es c es'
  | .miter mo since seen stepped => base = 0 ∧ ∃ mo', c.w.heap[b]? = some (.mapIter mo' since ⟨seen⟩ stepped) ∧ (match mo with
      | none => mo' = none
      | some μ => c.K μ ∧ mo' = some (c.m μ).1)
  | .siter s pos => base = 0 ∧ c.w.heap[b]? = some (.stringIter ⟨⟨s⟩⟩ pos)

structure HR (P : Program) (m : Gh) (h : AHeap) (w : World) : Prop where
  blk : ∀ ν bk, h.get ν = some bk → Kn m h ν ∧ (m ν).1 < w.heap.size ∧ BR P (cx m h w) bk (m ν).1 (m ν).2
  inj : ∀ ν μ x y, h.get ν = some x → h.get μ = some y → (m ν).1 = (m μ).1 → ν = μ
  rsv : ∀ ν, memN ν h.rs = true → m.lo ≤ ν ∧ ν < h.nx
  lo : m.lo ≤ h.nx
  far : ∀ b, m.X b → b < w.heap.size

structure Fr (m : Gh) (h : AHeap) (w : World) (m' : Gh) (h' : AHeap) (w' : World) : Prop where
  os : w'.os = w.os
  tape : w'.tape = w.tape
  output : w'.output = w.output
  le : CLe (cx m h w) (cx m' h' w')
  lo : m'.lo = m.lo
  X : m'.X = m.X

theorem Fr.refl (m : Gh) (h : AHeap) (w : World) : Fr m h w m h w := ⟨rfl, rfl, rfl, CLe.refl _, rfl, rfl⟩
theorem Fr.trans {m m' m'' : Gh} {h h' h'' : AHeap} {w w' w'' : World} (a : Fr m h w m' h' w') (b : Fr m' h' w' m'' h'' w'') : Fr m h w m'' h'' w'' :=
  ⟨b.os.trans a.os, b.tape.trans a.tape, b.output.trans a.output, a.le.trans b.le, b.lo.trans a.lo, b.X.trans a.X⟩

theorem MR.monoI {P : Program} : ∀ {es : List (AV × AV × Nat)} {c d : Ctx} {es' : List MapEntry}, CLi c d → MR P es c es' → MR P es d es'
  | [], _, _, _, _, h => h
  | (k, v, n) :: r, _, _, _, hl, h => by
    simp only [MR] at h ⊢
    obtain ⟨e, r', rfl, hk, hv, hn, hr⟩ := h
    exact ⟨e, r', rfl, VR.monoI k hl hk, VR.monoI v hl hv, hn, MR.monoI hl hr⟩
theorem MR.mono {P : Program} {es : List (AV × AV × Nat)} {c d : Ctx} {es' : List MapEntry} (h : CLe c d) (hm : MR P es c es') : MR P es d es' := hm.monoI h.toI
theorem CLe.of {c d : Ctx} (h : CLe c d) (p : Bool) : CLe (c.of p) (d.of p) := by
  cases p
  · exact h
  · exact h.bare
theorem CLi.of {c d : Ctx} (h : CLi c d) (p : Bool) : CLi (c.of p) (d.of p) := by
  cases p
  · exact h
  · exact h.bare
theorem Ctx.of_w (c : Ctx) (p : Bool) : (c.of p).w = c.w := by cases p <;> rfl
theorem Ctx.of_le (c : Ctx) (p : Bool) : CLe (c.of p) c := by
  cases p
  · exact CLe.refl _
  · exact CLe.unbare _
theorem BR.monoI {P : Program} {c d : Ctx} (hl : CLi c d) {bk : ABlk} {b base : Nat} (hb : d.w.heap[b]? = c.w.heap[b]?) (h : BR P c bk b base) : BR P d bk b base := by
  cases bk with
  | vec cells k =>
    obtain ⟨arr, fz, h1, h2, h3, h4⟩ := h
    refine ⟨arr, fz, by rw [hb]; exact h1, VRm.mono_atI cells (hl.of k.pur) (fun i _ => ?_) h2, h3, h4⟩
    rw [Ctx.of_w, Ctx.of_w]
    exact World.cell?_congr hb
  | amap es clock =>
    obtain ⟨h0, es', h1, h2⟩ := h
    exact ⟨h0, es', by rw [hb]; exact h1, h2.monoI hl⟩
  | miter mo since seen stepped =>
    obtain ⟨h0, mo', h1, h2⟩ := h
    refine ⟨h0, mo', by rw [hb]; exact h1, ?_⟩
    cases mo with
    | none => exact h2
    | some μ =>
      obtain ⟨k1, k2⟩ := hl.K μ h2.1
      exact ⟨k1, by rw [k2]; exact h2.2⟩
  | siter s pos => exact ⟨h.1, by rw [hb]; exact h.2⟩

theorem BR.mono {P : Program} {c d : Ctx} (hl : CLe c d) {bk : ABlk} {b base : Nat} (hb : d.w.heap[b]? = c.w.heap[b]?) (h : BR P c bk b base) : BR P d bk b base := h.monoI hl.toI hb

theorem beq_true {a b : Nat} : Nat.beq a b = true ↔ a = b := by simp
theorem beq_false {a b : Nat} : Nat.beq a b = false ↔ a ≠ b := by
  rw [← Bool.not_eq_true, beq_true]

theorem lookB_insB {ν : Nat} {x : ABlk} : ∀ {bs : List (Nat × ABlk)} (_ : lookB ν bs = none) (μ : Nat), lookB μ (insB ν x bs) = if μ = ν then some x else lookB μ bs
  | [], _, μ => by
    simp only [insB, lookB]
    by_cases h : μ = ν
    · subst h; simp
    · rw [if_neg h, show Nat.beq ν μ = false from beq_false.2 (fun e => h e.symm)]; simp
  | (k, b) :: r, hn, μ => by
    simp only [lookB] at hn
    have hk : Nat.beq k ν = false := by
      cases hb : Nat.beq k ν with
      | true => simp [hb] at hn
      | false => rfl
    simp only [hk, Bool.false_eq_true, if_false] at hn
    simp only [insB]
    cases hlt : Nat.blt k ν with
    | true =>
      simp only [if_true, lookB]
      by_cases h : μ = ν
      · subst h; simp
      · rw [if_neg h, show Nat.beq ν μ = false from beq_false.2 (fun e => h e.symm)]; simp
    | false =>
      simp only [Bool.false_eq_true, if_false, lookB]
      rw [lookB_insB hn μ]
      by_cases h : μ = ν
      · subst h; simp [hk]
      · simp [h]
theorem lookB_setB {ν : Nat} {x : ABlk} : ∀ (bs : List (Nat × ABlk)) {y : ABlk} (_ : lookB ν bs = some y) (μ : Nat), lookB μ (setB ν x bs) = if μ = ν then some x else lookB μ bs
  | [], _, h, _ => by simp [lookB] at h
  | (k, b) :: r, y, hy, μ => by
    simp only [lookB] at hy
    simp only [setB]
    cases hk : Nat.beq k ν with
    | true =>
      simp only [if_true, lookB]
      obtain rfl := beq_true.1 hk
      by_cases h : μ = k
      · subst h; simp
      · rw [if_neg h, show Nat.beq k μ = false from beq_false.2 (fun e => h e.symm)]; simp
    | false =>
      simp only [hk, Bool.false_eq_true, if_false] at hy
      simp only [Bool.false_eq_true, if_false, lookB]
      rw [lookB_setB r hy μ]
      by_cases h : μ = ν
      · subst h; simp [hk]
      · simp [h]
theorem lookB_delB (ν : Nat) : ∀ (bs : List (Nat × ABlk)) (μ : Nat), lookB μ (delB ν bs) = if μ = ν then none else lookB μ bs
  | [], _ => by simp [lookB, delB]
  | (k, b) :: r, μ => by
    simp only [delB]
    cases hk : Nat.beq k ν with
    | true =>
      obtain rfl := beq_true.1 hk
      simp only [if_true, lookB]
      rw [lookB_delB k r μ]
      by_cases h : μ = k
      · simp [h]
      · rw [if_neg h, if_neg h, show Nat.beq k μ = false from beq_false.2 (fun e => h e.symm)]; simp
    | false =>
      simp only [Bool.false_eq_true, if_false, lookB]
      rw [lookB_delB ν r μ]
      by_cases h : μ = ν
      · subst h; simp [hk]
      · simp [h]
theorem memN_delN (ν : Nat) : ∀ (l : List Nat) (μ : Nat), memN μ (delN ν l) = (memN μ l && !(Nat.beq μ ν))
  | [], _ => by simp [memN, delN]
  | k :: r, μ => by
    simp only [delN]
    cases hk : Nat.beq k ν with
    | true =>
      obtain rfl := beq_true.1 hk
      simp only [if_true, memN]
      rw [memN_delN k r μ]
      by_cases h : μ = k
      · subst h; simp
      · rw [show Nat.beq k μ = false from beq_false.2 (fun e => h e.symm)]; simp
    | false =>
      simp only [Bool.false_eq_true, if_false, memN]
      rw [memN_delN ν r μ]
      by_cases h : k = μ
      · subst h; simp [hk]
      · rw [beq_false.2 h]; simp

theorem get_set {h : AHeap} {ν : Nat} {x y : ABlk} (hy : h.get ν = some y) (μ : Nat) : (h.set ν x).get μ = if μ = ν then some x else h.get μ := lookB_setB _ hy μ
theorem get_kill (h : AHeap) (ν μ : Nat) : (h.kill ν).get μ = if μ = ν then none else h.get μ := lookB_delB ν _ μ

/-- the general step: blocks in 'B' may have turned -/
theorem step_ok {P : Program} {m m' : Gh} {h h' : AHeap} {w w' : World} (hH : HR P m h w) (B : Nat → Prop)
    (hB : ∀ b, b < w.heap.size → B b → Own m h b) (os : w'.os = w.os) (tape : w'.tape = w.tape) (output : w'.output = w.output) (size : w.heap.size ≤ w'.heap.size)
    (same : ∀ b, b < w.heap.size → ¬ B b → w'.heap[b]? = w.heap[b]?) (shp : ∀ b, b < w.heap.size → w'.shape? b = w.shape? b)
    (hlo : m'.lo = m.lo) (hX : m'.X = m.X) (hnx : h.nx ≤ h'.nx) (hK : ∀ ν, Kn m h ν → Kn m' h' ν ∧ m' ν = m ν) (hO : ∀ b, b < w.heap.size → Own m' h' b → Own m h b)
    (hnew : ∀ ν bk, h'.get ν = some bk → (h.get ν = some bk ∧ ¬ B (m ν).1) ∨
      (Kn m' h' ν ∧ (m' ν).1 < w'.heap.size ∧ (CLe (cx m h w) (cx m' h' w') → BR P (cx m' h' w') bk (m' ν).1 (m' ν).2)))
    (hinj : ∀ ν μ x y, h'.get ν = some x → h'.get μ = some y → (m' ν).1 = (m' μ).1 → ν = μ) (hrsv : ∀ ν, memN ν h'.rs = true → m.lo ≤ ν ∧ ν < h'.nx) :
    Fr m h w m' h' w' ∧ HR P m' h' w' := by
  have hle : CLe (cx m h w) (cx m' h' w') :=
    ⟨hK, size, fun b hb ho => ⟨same b hb (fun hBb => ho (hB b hb hBb)), fun ho' => ho (hO b hb ho')⟩, shp, fun b hb => by have hb' : m'.X b := hb; rw [hX] at hb'; exact hb'⟩
  refine ⟨⟨os, tape, output, hle, hlo, hX⟩, fun ν bk hg => ?_, hinj, by rw [hlo]; exact hrsv, by rw [hlo]; exact Nat.le_trans hH.lo hnx,
    fun b hb => Nat.lt_of_lt_of_le (hH.far b (by rw [← hX]; exact hb)) size⟩
  rcases hnew ν bk hg with ⟨hg0, hnb⟩ | ⟨h1, h2, h3⟩
  · obtain ⟨k, s, r⟩ := hH.blk ν bk hg0
    obtain ⟨k', e⟩ := hK ν k
    rw [e]
    exact ⟨k', Nat.lt_of_lt_of_le s size, r.mono hle (same _ s hnb)⟩
  · exact ⟨h1, h2, h3 hle⟩

theorem alloc_facts {P : Program} {m : Gh} {h h' : AHeap} {w : World} (hH : HR P m h w) {at_ : Option Nat} {bk : ABlk} {ν : Nat}
    (ha : h.alloc at_ bk = some (ν, h')) :
    ¬ Kn m h ν ∧ h.get ν = none ∧ Kn m h' ν ∧ (∀ μ, Kn m h μ → Kn m h' μ) ∧ (∀ μ, h'.get μ = if μ = ν then some bk else h.get μ) ∧ (∀ μ, memN μ h'.rs = true → m.lo ≤ μ ∧ μ < h'.nx) ∧ h.nx ≤ h'.nx := by
  cases at_ with
  | none =>
    simp only [AHeap.alloc, Option.some.injEq, Prod.mk.injEq] at ha
    obtain ⟨rfl, rfl⟩ := ha
    have hnk : ¬ Kn m h h.nx := fun hk => Nat.lt_irrefl _ hk.2.1
    have hg : h.get h.nx = none := by
      cases hg : h.get h.nx with
      | none => rfl
      | some y => exact absurd (hH.blk _ _ hg).1 hnk
    have hr : memN h.nx h.rs = false := by
      cases hr : memN h.nx h.rs with
      | false => rfl
      | true => exact absurd (hH.rsv _ hr).2 (Nat.lt_irrefl _)
    refine ⟨hnk, hg, ⟨hH.lo, Nat.lt_succ_self _, hr⟩, fun μ hk => ⟨hk.1, Nat.lt_succ_of_lt hk.2.1, hk.2.2⟩, fun μ => lookB_insB hg μ, fun μ hm => ⟨(hH.rsv _ hm).1, Nat.lt_succ_of_lt (hH.rsv _ hm).2⟩, Nat.le_succ _⟩
  | some κ =>
    simp only [AHeap.alloc] at ha
    split at ha
    · rename_i hm
      simp only [Option.some.injEq, Prod.mk.injEq] at ha
      obtain ⟨rfl, rfl⟩ := ha
      have hnk : ¬ Kn m h κ := fun hk => by rw [hk.2.2] at hm; cases hm
      have hg : h.get κ = none := by
        cases hg : h.get κ with
        | none => rfl
        | some y => exact absurd (hH.blk _ _ hg).1 hnk
      refine ⟨hnk, hg, ⟨(hH.rsv _ hm).1, (hH.rsv _ hm).2, by simp [memN_delN]⟩, fun μ hk => ⟨hk.1, hk.2.1, by simp [memN_delN, hk.2.2]⟩, fun μ => lookB_insB hg μ, fun μ hm' => hH.rsv _ ?_, Nat.le_refl _⟩
      simp only [memN_delN, Bool.and_eq_true] at hm'
      exact hm'.1
    · cases ha

def upd (m : Gh) (ν : Nat) (x : Nat × Nat) : Gh := { m with f := fun μ => if μ = ν then x else m μ }
theorem upd_same (m : Gh) (ν : Nat) (x : Nat × Nat) : upd m ν x ν = x := by simp [upd]
theorem upd_other {m : Gh} {ν μ : Nat} {x : Nat × Nat} (h : μ ≠ ν) : upd m ν x μ = m μ := by simp [upd, h]

theorem heap_push_lt {h : Array Obj} {o : Obj} {b : Nat} (hb : b < h.size) : (h.push o)[b]? = h[b]? := by
  rw [Array.getElem?_push, if_neg (Nat.ne_of_lt hb)]
theorem shape_congr {w w' : World} {b : Nat} (h : w'.heap[b]? = w.heap[b]?) : w'.shape? b = w.shape? b := by simp only [World.shape?, h]

/-- a new block -/
theorem alloc_ok {P : Program} {m : Gh} {h h' : AHeap} {w w' : World} (hH : HR P m h w) {at_ : Option Nat} {bk : ABlk} {ν : Nat}
    (ha : h.alloc at_ bk = some (ν, h')) {o : Obj} (hw : w'.heap = w.heap.push o) (os : w'.os = w.os) (tape : w'.tape = w.tape) (output : w'.output = w.output)
    (hb : CLe (cx m h w) (cx (upd m ν (w.heap.size, 0)) h' w') → BR P (cx (upd m ν (w.heap.size, 0)) h' w') bk w.heap.size 0) :
    Fr m h w (upd m ν (w.heap.size, 0)) h' w' ∧ HR P (upd m ν (w.heap.size, 0)) h' w' ∧ Kn (upd m ν (w.heap.size, 0)) h' ν := by
  obtain ⟨hnk, hg, hk', hkk, hget, hrsv, hnx⟩ := alloc_facts hH ha
  have hsz : w'.heap.size = w.heap.size + 1 := by rw [hw]; simp
  have hsame : ∀ b, b < w.heap.size → w'.heap[b]? = w.heap[b]? := fun b hb => by rw [hw]; exact heap_push_lt hb
  obtain ⟨h1, h2⟩ := step_ok (m' := upd m ν (w.heap.size, 0)) (h' := h') (w' := w') hH (fun _ => False) (fun _ _ hf => hf.elim) os tape output (by omega) (fun b hb _ => hsame b hb)
    (fun b hb => shape_congr (hsame b hb)) rfl rfl hnx (fun μ hk => ⟨hkk μ hk, upd_other (fun e => hnk (e ▸ hk))⟩)
    (fun b hlt ⟨μ, x, hx, he⟩ => by
      rw [hget] at hx
      by_cases e : μ = ν
      · subst e; rw [upd_same] at he; exact absurd he.symm (Nat.ne_of_lt hlt)
      · rw [if_neg e] at hx; rw [upd_other e] at he; exact ⟨μ, x, hx, he⟩)
    (fun μ x hx => by
      rw [hget] at hx
      by_cases e : μ = ν
      · subst e
        simp only [if_true, Option.some.injEq] at hx
        subst hx
        exact Or.inr ⟨hk', by rw [upd_same, hsz]; exact Nat.lt_succ_self _, fun hl => by rw [upd_same]; exact hb hl⟩
      · rw [if_neg e] at hx
        exact Or.inl ⟨hx, fun hf => hf⟩)
    (fun μ κ x y hx hy he => by
      rw [hget] at hx hy
      by_cases e : μ = ν <;> by_cases f : κ = ν
      · rw [e, f]
      · subst e; rw [if_neg f] at hy; rw [upd_same, upd_other f] at he
        exact absurd he (Nat.ne_of_gt (hH.blk κ y hy).2.1)
      · subst f; rw [if_neg e] at hx; rw [upd_same, upd_other e] at he
        exact absurd he (Nat.ne_of_lt (hH.blk μ x hx).2.1)
      · rw [if_neg e] at hx; rw [if_neg f] at hy; rw [upd_other e, upd_other f] at he
        exact hH.inj μ κ x y hx hy he) hrsv
  exact ⟨h1, h2, hk'⟩

/-- a block of one's own, written -/
theorem write_ok {P : Program} {m : Gh} {h : AHeap} {w w' : World} (hH : HR P m h w) {ν : Nat} {x y : ABlk} (hg : h.get ν = some x)
    (os : w'.os = w.os) (tape : w'.tape = w.tape) (output : w'.output = w.output) (size : w'.heap.size = w.heap.size)
    (same : ∀ b, b ≠ (m ν).1 → w'.heap[b]? = w.heap[b]?) (shp : w'.shape? (m ν).1 = w.shape? (m ν).1)
    (hb : CLe (cx m h w) (cx m (h.set ν y) w') → BR P (cx m (h.set ν y) w') y (m ν).1 (m ν).2) :
    Fr m h w m (h.set ν y) w' ∧ HR P m (h.set ν y) w' := by
  have hget := get_set (x := y) hg
  obtain ⟨hk, hs, _⟩ := hH.blk ν x hg
  refine step_ok hH (fun b => b = (m ν).1) (fun b _ e => ⟨ν, x, hg, e.symm⟩) os tape output (by omega) (fun b _ hn => same b hn)
    (fun b _ => ?_) rfl rfl (Nat.le_refl _) (fun μ hk => ⟨hk, rfl⟩) (fun b _ ⟨μ, z, hz, he⟩ => ?_) (fun μ z hz => ?_) (fun μ κ z u hz hu he => ?_) hH.rsv
  · by_cases e : b = (m ν).1
    · rw [e]; exact shp
    · exact shape_congr (same b e)
  · rw [hget] at hz
    by_cases e : μ = ν
    · subst e; exact ⟨μ, x, hg, he⟩
    · rw [if_neg e] at hz; exact ⟨μ, z, hz, he⟩
  · rw [hget] at hz
    by_cases e : μ = ν
    · subst e
      simp only [if_true, Option.some.injEq] at hz
      subst hz
      exact Or.inr ⟨hk, by rw [size]; exact hs, hb⟩
    · rw [if_neg e] at hz
      exact Or.inl ⟨hz, fun e' => e (hH.inj μ ν z x hz hg e')⟩
  · rw [hget] at hz hu
    have hz' : ∃ z', h.get μ = some z' := by by_cases e : μ = ν; · exact ⟨x, e ▸ hg⟩
                                             · rw [if_neg e] at hz; exact ⟨z, hz⟩
    have hu' : ∃ u', h.get κ = some u' := by by_cases e : κ = ν; · exact ⟨x, e ▸ hg⟩
                                             · rw [if_neg e] at hu; exact ⟨u, hu⟩
    obtain ⟨z', hz'⟩ := hz'
    obtain ⟨u', hu'⟩ := hu'
    exact hH.inj μ κ z' u' hz' hu' he

/-- a block of one's own, taken over under a new name -/
theorem take_ok {P : Program} {m : Gh} {h h' : AHeap} {w w' : World} (hH : HR P m h w) {ν μ : Nat} {x y : ABlk} {at_ : Option Nat} (base : Nat) (hg : h.get ν = some x)
    (ha : (h.kill ν).alloc at_ y = some (μ, h')) (os : w'.os = w.os) (tape : w'.tape = w.tape) (output : w'.output = w.output) (size : w'.heap.size = w.heap.size)
    (same : ∀ b, b ≠ (m ν).1 → w'.heap[b]? = w.heap[b]?) (shp : w'.shape? (m ν).1 = w.shape? (m ν).1)
    (hb : CLe (cx m h w) (cx (upd m μ ((m ν).1, base)) h' w') → BR P (cx (upd m μ ((m ν).1, base)) h' w') y (m ν).1 base) :
    Fr m h w (upd m μ ((m ν).1, base)) h' w' ∧ HR P (upd m μ ((m ν).1, base)) h' w' ∧ Kn (upd m μ ((m ν).1, base)) h' μ := by
  have hHk : HR P m (h.kill ν) w := by
    have hle : CLe (cx m h w) (cx m (h.kill ν) w) :=
      ⟨fun ν hk => ⟨hk, rfl⟩, Nat.le_refl _, fun b _ ho => ⟨rfl, fun ⟨κ, z, hz, he⟩ => ho ⟨κ, z, by
        rw [get_kill] at hz
        split at hz
        · cases hz
        · exact hz, he⟩⟩, fun _ _ => rfl, fun _ h => h⟩
    have hsub : ∀ κ z, (h.kill ν).get κ = some z → h.get κ = some z := fun κ z hz => by
      rw [get_kill] at hz
      split at hz
      · cases hz
      · exact hz
    exact ⟨fun κ z hz => by
      obtain ⟨k, s, r⟩ := hH.blk κ z (hsub κ z hz)
      exact ⟨k, s, r.mono hle rfl⟩, fun κ τ z u hz hu he => hH.inj κ τ z u (hsub κ z hz) (hsub τ u hu) he, hH.rsv, hH.lo, hH.far⟩
  obtain ⟨hnk, hgn, hk', hkk, hget, hrsv, hnx⟩ := alloc_facts hHk ha
  have hget' : ∀ κ, h'.get κ = if κ = μ then some y else if κ = ν then none else h.get κ := fun κ => by rw [hget, get_kill]
  obtain ⟨hkν, hs, _⟩ := hH.blk ν x hg
  obtain ⟨h1, h2⟩ := step_ok (m' := upd m μ ((m ν).1, base)) (h' := h') (w' := w') hH (fun b => b = (m ν).1) (fun b _ e => ⟨ν, x, hg, e.symm⟩) os tape output (by omega) (fun b _ hn => same b hn)
    (fun b _ => by
      by_cases e : b = (m ν).1
      · rw [e]; exact shp
      · exact shape_congr (same b e)) rfl rfl hnx
    (fun κ hk => ⟨hkk κ hk, upd_other (fun e => hnk (e ▸ hk))⟩)
    (fun b _ ⟨κ, z, hz, he⟩ => by
      rw [hget'] at hz
      by_cases e : κ = μ
      · subst e; rw [upd_same] at he; exact ⟨ν, x, hg, he⟩
      · rw [if_neg e] at hz; rw [upd_other e] at he
        split at hz
        · cases hz
        · exact ⟨κ, z, hz, he⟩)
    (fun κ z hz => by
      rw [hget'] at hz
      by_cases e : κ = μ
      · subst e
        simp only [if_true, Option.some.injEq] at hz
        subst hz
        exact Or.inr ⟨hk', by rw [upd_same, size]; exact hs, fun hl => by rw [upd_same]; exact hb hl⟩
      · rw [if_neg e] at hz
        split at hz
        · cases hz
        · rename_i hne
          exact Or.inl ⟨hz, fun e' => hne (hH.inj κ ν z x hz hg e')⟩)
    (fun κ τ z u hz hu he => by
      rw [hget'] at hz hu
      by_cases e : κ = μ <;> by_cases f : τ = μ
      · rw [e, f]
      · subst e; rw [if_neg f] at hu; rw [upd_same, upd_other f] at he
        split at hu
        · cases hu
        · rename_i hne; exact absurd (hH.inj τ ν u x hu hg he.symm) hne
      · subst f; rw [if_neg e] at hz; rw [upd_same, upd_other e] at he
        split at hz
        · cases hz
        · rename_i hne; exact absurd (hH.inj κ ν z x hz hg he) hne
      · rw [if_neg e] at hz; rw [if_neg f] at hu; rw [upd_other e, upd_other f] at he
        split at hz
        · cases hz
        · split at hu
          · cases hu
          · exact hH.inj κ τ z u hz hu he) hrsv
  exact ⟨h1, h2, hk'⟩

end Go.Eng

namespace Go.Eng

def TR (P : Program) (tm : Tr) (c : Ctx) (a : Act) : Prop := ∀ t, VR P (tm.get t) c (a.tmps.getD t undef)

def OpOk (P : Program) (o : Oper) (a : Act) (w : World) (m : Gh) (h : AHeap) (v : AV) (h' : AHeap) : Prop :=
  ∃ r cv m' w', (execOp a.eval o).run P w = .ok r w' ∧ (r = .value cv ∨ r = .skip ∧ cv = undef) ∧ VR P v (cx m' h' w') cv ∧ Fr m h w m' h' w' ∧ HR P m' h' w'

theorem OpOk.same {P : Program} {o : Oper} {a : Act} {w : World} {m : Gh} {h : AHeap} {v : AV} {cv : Value} (hH : HR P m h w)
    (hr : (execOp a.eval o).run P w = .ok (.value cv) w) (hv : VR P v (cx m h w) cv) : OpOk P o a w m h v h :=
  ⟨_, cv, m, w, hr, .inl rfl, hv, Fr.refl _ _ _, hH⟩
theorem OpOk.val {P : Program} {o : Oper} {a : Act} {w w' : World} {m m' : Gh} {h h' : AHeap} {v : AV} {cv : Value}
    (hr : (execOp a.eval o).run P w = .ok (.value cv) w') (hv : VR P v (cx m' h' w') cv) (hf : Fr m h w m' h' w') (hH : HR P m' h' w') : OpOk P o a w m h v h' :=
  ⟨_, cv, m', w', hr, .inl rfl, hv, hf, hH⟩
theorem OpOk.skip {P : Program} {o : Oper} {a : Act} {w w' : World} {m m' : Gh} {h h' : AHeap}
    (hr : (execOp a.eval o).run P w = .ok .skip w') (hf : Fr m h w m' h' w') (hH : HR P m' h' w') : OpOk P o a w m h (.tup []) h' :=
  ⟨_, undef, m', w', hr, .inr ⟨rfl, rfl⟩, by simp only [VR, VRl]; exact ⟨[], rfl, rfl⟩, hf, hH⟩

theorem ofCell_ok {P : Program} {v : Value} {x : AV} (h : ofCell v = some x) (c : Ctx) : VR P x c v := by
  unfold ofCell at h
  split at h <;> simp only [Option.some.injEq, reduceCtorEq] at h <;> subst h <;> simp [VR]
theorem ofValues_ok {P : Program} : ∀ {vs : List Value} {xs : List AV}, ofValues ofCell vs = some xs → ∀ c, VRl P xs c vs
  | [], xs, h, c => by simp only [ofValues, Option.some.injEq] at h; subst h; simp [VRl]
  | v :: vs, xs, h, c => by
    simp only [ofValues] at h
    split at h
    · rename_i x ys h1 h2
      simp only [Option.some.injEq] at h
      subst h
      simp only [VRl]
      exact ⟨v, vs, rfl, ofCell_ok h1 c, ofValues_ok h2 c⟩
    · cases h
theorem ofValue_ok {P : Program} {v : Value} {x : AV} (h : ofValue v = some x) (c : Ctx) : VR P x c v := by
  unfold ofValue at h
  split at h
  · rename_i cs
    split at h
    · rename_i xs h1
      simp only [Option.some.injEq] at h
      subst h
      simp only [VR]
      exact ⟨cs.toList, rfl, ofValues_ok h1 c⟩
    · cases h
  · exact ofCell_ok h c

theorem trX_ok {P : Program} {x : Operand} {y : AX} (h : trX x = some y) {tm : Tr} {c : Ctx} {a : Act} (hT : TR P tm c a) : VR P (y.ev tm) c (a.eval x) := by
  cases x with
  | tmp t => simp only [trX, Option.some.injEq] at h; subst h; exact hT t
  | const v =>
    simp only [trX, Option.map_eq_some_iff] at h
    obtain ⟨z, hz, rfl⟩ := h
    exact ofValue_ok hz c
  | func f =>
    simp only [trX, Option.some.injEq] at h; subst h
    simp only [AX.ev, VR, VRl, Act.eval]
    exact ⟨[], [], rfl, rfl, rfl⟩
  | global g => simp [trX] at h
theorem trXs_ok {P : Program} : ∀ {xs : List Operand} {ys : List AX} (_ : trXs xs = some ys) {tm : Tr} {c : Ctx} {a : Act} (_ : TR P tm c a),
    VRl P (ys.map (AX.ev tm)) c (xs.map a.eval)
  | [], ys, h, tm, c, a, hT => by simp only [trXs, Option.some.injEq] at h; subst h; simp [VRl]
  | x :: xs, ys, h, tm, c, a, hT => by
    simp only [trXs] at h
    split at h
    · rename_i y ys' h1 h2
      simp only [Option.some.injEq] at h
      subst h
      simp only [List.map_cons, VRl]
      exact ⟨_, _, rfl, trX_ok h1 hT, trXs_ok h2 hT⟩
    · cases h

theorem run_sizeOf {P : Program} {t : TypeId} {s : Nat} (h : sz? P t = some s) (w : World) : (sizeOf t).run P w = .ok s w := by
  simp only [sz?, Option.map_eq_some_iff] at h
  obtain ⟨i, hi, rfl⟩ := h
  simp [sizeOf, typeInfo, hi]
theorem cellsOf_of {P : Program} {t : TypeId} {s : Nat} (h : sz? P t = some s) : P.cellsOf t = s := by
  simp only [sz?] at h
  simp [Program.cellsOf, h]
theorem run_isAgg {P : Program} {t : TypeId} {b : Bool} (h : isagg? P t = some b) (w : World) : (isAgg t).run P w = .ok b w := by
  simp only [isagg?, Option.map_eq_some_iff] at h
  obtain ⟨d, hd, rfl⟩ := h
  simp only [isAgg, Sem.run_bind, run_underlying hd, Result.andThen_ok]
  cases d <;> rfl
theorem run_zero {P : Program} {t : TypeId} {x : AV} (h : zero? P t = some x) (w : World) : ∃ z, (zeroValue t).run P w = .ok z w ∧ ofValue z = some x := by
  unfold zero? at h
  split at h
  · rename_i i hi
    split at h
    · rename_i v hv
      exact ⟨v, by simp [zeroValue, typeInfo, hi, hv], h⟩
    · cases h
  · cases h

theorem cells_ok {P : Program} {x : AV} {cs : List AV} (h : cells? x = some cs) {c : Ctx} {v : Value} (hv : VR P x c v) : VRl P cs c v.cells.toList := by
  cases x <;> simp only [cells?, Option.some.injEq, reduceCtorEq] at h <;> subst h
  case agg cs =>
    simp only [VR] at hv
    obtain ⟨cs', rfl, hl⟩ := hv
    exact hl
  all_goals (
    simp only [VRl]
    refine ⟨v, [], ?_, hv, rfl⟩
    simp only [VR] at hv
    first
      | (subst hv; rfl)
      | (obtain ⟨_, rfl⟩ := hv; rfl)
      | (obtain ⟨_, _, rfl, _⟩ := hv; rfl)
      | (obtain ⟨_, _, _, rfl, _⟩ := hv; rfl)
      | (obtain ⟨_, rfl, _⟩ := hv; rfl))

theorem cellsAt_ok {P : Program} {m : Gh} {h : AHeap} {w : World} (hH : HR P m h w) {x : AV} {cells : List AV} (hc : cellsAt h x = some cells) {v : Value}
    (hv : VR P x (cx m h w) v) : ∃ b base, v = .pointer (some ⟨b, base, none⟩) ∧ VRm P cells (cx m h w) b base := by
  cases x <;> simp only [cellsAt, reduceCtorEq] at hc
  case ptr ν o =>
    split at hc
    · rename_i cs k hg
      simp only [Option.some.injEq] at hc
      subst hc
      simp only [VR] at hv
      obtain ⟨hk, rfl⟩ := hv
      obtain ⟨_, _, arr, fz, _, hm, _⟩ := hH.blk ν _ hg
      refine ⟨_, _, rfl, VRm.drop o (VRm.mono_at cs (Ctx.of_le _ k.pur) (fun _ _ => by rw [Ctx.of_w]) hm)⟩
    · cases hc
  case ip cs =>
    simp only [Option.some.injEq] at hc
    subst hc
    simp only [VR] at hv
    obtain ⟨b, base, rfl, hi, hm⟩ := hv
    exact ⟨b, base, rfl, VRm.mono_at cs (CLe.unbare _) (fun _ _ => rfl) hm⟩

theorem addr_add (b o i : Nat) : (⟨b, o, none⟩ : Addr).add i = ⟨b, o + i, none⟩ := by
  unfold Addr.add
  split
  · rename_i h; subst h; rfl
  · rfl

theorem load_ok {P : Program} {c : Ctx} {t : TypeId} {isagg : Bool} {sz : Nat} (h1 : isagg? P t = some isagg) (h2 : sz? P t = some sz) {cells : List AV} {b base : Nat}
    (hm : VRm P cells c b base) {v : AV} (hl : loadA isagg sz cells = some v) :
    ∃ cv, (loadVar t ⟨b, base, none⟩).run P c.w = .ok cv c.w ∧ VR P v c cv := by
  cases isagg with
  | true =>
    simp only [loadA, if_true] at hl
    split at hl
    · rename_i hle
      simp only [Option.some.injEq] at hl
      subst hl
      obtain ⟨vs, hvs, hcs⟩ := (hm.take sz).vals
      have hlen : vs.length = sz := by rw [hvs.length]; simp [hle]
      refine ⟨.agg ⟨vs⟩, ?_, by simp only [VR]; exact ⟨vs, rfl, hvs⟩⟩
      simp only [loadVar, Sem.run_bind, run_isAgg h1, Result.andThen_ok, if_true, run_sizeOf h2]
      rw [← hlen, run_loadCells_list c.w ⟨b, base, none⟩ vs (fun j v hj => by rw [addr_add]; exact hcs j v hj)]
      rfl
    · cases hl
  | false =>
    simp only [loadA, Bool.false_eq_true, if_false] at hl
    cases cells with
    | nil => cases hl
    | cons x xs =>
      simp only [Option.some.injEq] at hl
      subst hl
      simp only [VRm] at hm
      obtain ⟨⟨v, hc, hv⟩, _⟩ := hm
      refine ⟨v, ?_, hv⟩
      simp [loadVar, Sem.run_bind, run_isAgg h1, hc]

/-- what a slice holds: as many cells, from its address on -/
theorem seq_ok {P : Program} {m : Gh} {h : AHeap} {w : World} (hH : HR P m h w) {es : Nat} {x : AV} {n : Nat} {cs : List AV} (hs : seqOf h es x = some (n, cs))
    {v : Value} (hv : VR P x (cx m h w) v) : ∃ vs : List Value, VRl P cs (cx m h w) vs ∧ cs.length = n * es ∧ (Builtin.lenOf v).run P w = .ok n w ∧
      (Builtin.firstCells es n v).run P w = .ok ⟨vs⟩ w ∧ (∀ k, k ≤ n → ∀ w', w'.heap = w.heap → (Builtin.firstCells es k v).run P w' = .ok ⟨vs.take (k * es)⟩ w') ∧
      ((∃ s, v = .string s) ∨ ∃ a cap, v = .slice a n cap ∧ (a = none → n * es = 0)) ∧
      (∀ ν o n c cells k, x = .slc ν o n c → h.get ν = some (.vec cells k) → k.pur = true → VRl P cs (cx m h w).bare vs) := by
  suffices hsuff : ∃ vs : List Value, VRl P cs (cx m h w) vs ∧ cs.length = n * es ∧ (Builtin.lenOf v).run P w = .ok n w ∧
      (∀ k, k ≤ n → ∀ w', w'.heap = w.heap → (Builtin.firstCells es k v).run P w' = .ok ⟨vs.take (k * es)⟩ w') ∧
      ((∃ s, v = .string s) ∨ ∃ a cap, v = .slice a n cap ∧ (a = none → n * es = 0)) ∧
      (∀ ν o n c cells k, x = .slc ν o n c → h.get ν = some (.vec cells k) → k.pur = true → VRl P cs (cx m h w).bare vs) by
    obtain ⟨vs, h1, h2, h3, h4, h5, h6⟩ := hsuff
    refine ⟨vs, h1, h2, h3, ?_, h4, h5, h6⟩
    have := h4 n (Nat.le_refl _) w rfl
    rwa [List.take_of_length_le (by rw [h1.length, h2]; exact Nat.le_refl _)] at this
  cases x <;> simp only [seqOf, reduceCtorEq] at hs
  case nils =>
    simp only [Option.some.injEq, Prod.mk.injEq] at hs
    obtain ⟨rfl, rfl⟩ := hs
    simp only [VR] at hv
    subst hv
    exact ⟨[], by simp [VRl], by simp, rfl, fun k hk w' _ => by simp [Builtin.firstCells], .inr ⟨none, 0, rfl, fun _ => by simp⟩, fun _ _ _ _ _ _ hh => by cases hh⟩
  case isl cells n' cp =>
    split at hs
    · rename_i hlen
      simp only [Option.some.injEq, Prod.mk.injEq] at hs
      obtain ⟨rfl, rfl⟩ := hs
      simp only [VR] at hv
      obtain ⟨a, cap, rfl, hcap, h0, hn⟩ := hv
      by_cases hz : n' = 0
      · subst hz
        obtain rfl := h0 rfl
        refine ⟨[], by simp [VRl], by simp, rfl, fun k hk w' _ => ?_, .inr ⟨a, cap, rfl, fun _ => by simp⟩, fun _ _ _ _ _ _ hh => by cases hh⟩
        obtain rfl : k = 0 := by omega
        cases a <;> simp [Builtin.firstCells, loadCells, loadCellsFrom]
      · obtain ⟨b, base, rfl, hi, hm⟩ := hn hz
        obtain ⟨vs, hvs, hcs⟩ := (VRm.mono_at cells (CLe.unbare _) (fun _ _ => rfl) hm).vals
        refine ⟨vs, hvs, hlen, rfl, fun k hk w' hw' => ?_, .inr ⟨_, cap, rfl, fun h => by cases h⟩, fun _ _ _ _ _ _ hh => by cases hh⟩
        have hl : (vs.take (k * es)).length = k * es := by
          rw [List.length_take, hvs.length, hlen]; exact Nat.min_eq_left (Nat.mul_le_mul_right _ hk)
        simp only [Builtin.firstCells]
        rw [← hl]
        rw [run_loadCells_list w' ⟨b, base, none⟩ (vs.take (k * es)) (fun j v hj => by
          rw [addr_add, World.cell?_congr (w := w) (by rw [hw'])]
          refine hcs j v ?_
          rw [List.getElem?_take] at hj
          split at hj
          · exact hj
          · cases hj)]
        rw [hl]
    · cases hs
  case slc ν o n' cp =>
    split at hs
    · rename_i cells k hg
      split at hs
      · rename_i hle
        simp only [Option.some.injEq, Prod.mk.injEq] at hs
        obtain ⟨rfl, rfl⟩ := hs
        simp only [VR] at hv
        obtain ⟨hk, hsz, cap, rfl, hcap, _⟩ := hv
        obtain ⟨_, _, arr, fz, _, hm, _⟩ := hH.blk ν _ hg
        have hm' : VRm P ((cells.drop o).take (n' * es)) ((cx m h w).of k.pur) (m ν).1 ((m ν).2 + o) := (VRm.drop o hm).take _
        have hlen : ((cells.drop o).take (n' * es)).length = n' * es := by simp; omega
        obtain ⟨vs, hvs0, hcs0⟩ := hm'.vals
        have hvs : VRl P ((cells.drop o).take (n' * es)) (cx m h w) vs := VRl.mono _ (Ctx.of_le _ k.pur) hvs0
        have hcs : ∀ j v, vs[j]? = some v → w.cell? ⟨(m ν).1, (m ν).2 + o + j, none⟩ = some v := fun j v hj => by
          have := hcs0 j v hj
          rwa [Ctx.of_w] at this
        refine ⟨vs, hvs, hlen, rfl, fun k hk w' hw' => ?_, .inr ⟨_, cap, rfl, fun h => by cases h⟩, fun ν' o' n'' c' cells' k' hx hg' hp => by
          cases hx
          rw [hg] at hg'
          cases hg'
          rw [hp] at hvs0
          exact hvs0⟩
        have hl : (vs.take (k * es)).length = k * es := by
          rw [List.length_take, hvs.length, hlen]; exact Nat.min_eq_left (Nat.mul_le_mul_right _ hk)
        simp only [Builtin.firstCells]
        rw [← hl]
        rw [run_loadCells_list w' ⟨(cx m h w |>.m ν).1, (cx m h w |>.m ν).2 + o, none⟩ (vs.take (k * es)) (fun j v hj => by
          rw [addr_add, World.cell?_congr (w := w) (by rw [hw'])]
          refine hcs j v ?_
          rw [List.getElem?_take] at hj
          split at hj
          · exact hj
          · cases hj)]
        rw [hl]
      · cases hs
    · cases hs
  case str s =>
    split at hs
    · rename_i hes
      subst hes
      simp only [Option.some.injEq, Prod.mk.injEq] at hs
      obtain ⟨rfl, rfl⟩ := hs
      simp only [VR] at hv
      subst hv
      refine ⟨s.map fun b => .int .u8 b.toNat, ?_, by simp, rfl, fun k hk w' _ => ?_, .inl ⟨_, rfl⟩, fun _ _ _ _ _ _ hh => by cases hh⟩
      · clear hH
        generalize cx m h w = c
        induction s with
        | nil => simp [VRl]
        | cons b s ih => simp only [List.map_cons, VRl, VR]; exact ⟨_, _, rfl, rfl, ih⟩
      · simp only [Builtin.firstCells, Sem.run_pure]
        congr 1
        apply Array.ext'
        simp [ByteArray.extract, ByteArray.copySlice]
    · cases hs

end Go.Eng

namespace Go.Eng

theorem strv (s : List UInt8) : (ByteArray.toList ⟨⟨s⟩⟩) = s := by rw [ByteArray.toList_eq]

/-! equality -/
theorem eqOne_ok {P : Program} {k : TK} {x y : AV} {r : Bool} (h : eqOne k x y = some r) {t : TypeId} (ht : tkOne P t = k) {c : Ctx} {vx vy : Value} (hx : VR P x c vx) (hy : VR P y c vy)
    (d : Nat) (w : World) : (Op.equalIn (d + 1) t vx vy).run P w = .ok r w := by
  unfold eqOne at h
  unfold tkOne at ht
  split at h <;> first | (cases h; done) | skip
  all_goals (
    split at ht <;> first | (cases ht; done) | skip)
  all_goals rename_i hu
  all_goals simp only [VR] at hx hy
  case h_1 => subst hx hy; cases h; exact run_equalIn_bool w d t _ _ hu
  case h_2 =>
    subst hx hy
    split at h
    · rename_i hjk; subst hjk; cases h; exact run_equalIn_int w d t _ _ _ _ hu
    · cases h
  case h_3 =>
    subst hx hy; cases h
    rw [run_equalIn_string w d t _ _ hu, strv, strv]
  all_goals (try (split at h <;> first | (cases h; done) | skip))
  all_goals (
    cases h
    first
      | (obtain ⟨a, cap, rfl, _, _, hn⟩ := hy; subst hx; obtain ⟨_, _, rfl, _⟩ := hn (by assumption); simp [Op.equalIn, run_underlying hu])
      | (obtain ⟨a, cap, rfl, _, _, hn⟩ := hx; subst hy; obtain ⟨_, _, rfl, _⟩ := hn (by assumption); simp [Op.equalIn, run_underlying hu])
      | (subst hx hy; simp [Op.equalIn, run_underlying hu])
      | (obtain ⟨_, rfl⟩ := hy; subst hx; simp [Op.equalIn, run_underlying hu])
      | (obtain ⟨_, rfl⟩ := hx; subst hy; simp [Op.equalIn, run_underlying hu])
      | (obtain ⟨_, _, rfl, _⟩ := hy; subst hx; simp [Op.equalIn, run_underlying hu])
      | (obtain ⟨_, _, rfl, _⟩ := hx; subst hy; simp [Op.equalIn, run_underlying hu])
      | (obtain ⟨_, _, _, rfl, _⟩ := hy; subst hx; simp [Op.equalIn, run_underlying hu])
      | (obtain ⟨_, _, _, rfl, _⟩ := hx; subst hy; simp [Op.equalIn, run_underlying hu])
      | (obtain ⟨_, rfl, _⟩ := hy; subst hx; simp [Op.equalIn, run_underlying hu])
      | (obtain ⟨_, rfl, _⟩ := hx; subst hy; simp [Op.equalIn, run_underlying hu]))

theorem run_part {P : Program} {t : TypeId} {isagg : Bool} {sz : Nat} (h1 : isagg? P t = some isagg) (h2 : sz? P t = some sz) {c : Ctx} {cells : List AV} {vs : List Value} (hv : VRl P cells c vs)
    (off : Nat) {v : AV} (hl : loadA isagg sz (cells.drop off) = some v) (w : World) : ∃ cv, (part t ⟨vs⟩ off).run P w = .ok cv w ∧ VR P v c cv := by
  have hd := hv.drop off
  cases isagg with
  | true =>
    simp only [loadA, if_true] at hl
    split at hl
    · rename_i hle
      simp only [Option.some.injEq] at hl
      subst hl
      refine ⟨.agg ⟨(vs.drop off).take sz⟩, ?_, by simp only [VR]; exact ⟨_, rfl, hd.take sz⟩⟩
      simp only [part, Sem.run_bind, run_isAgg h1, Result.andThen_ok, if_true, run_sizeOf h2, Sem.run_pure]
      congr 2
      apply Array.ext'
      simp
    · cases hl
  | false =>
    simp only [loadA, Bool.false_eq_true, if_false] at hl
    cases hcs : cells.drop off with
    | nil => rw [hcs] at hl; cases hl
    | cons x xs =>
      rw [hcs] at hl hd
      simp only [Option.some.injEq] at hl
      subst hl
      simp only [VRl] at hd
      obtain ⟨v, r, hr, hv', _⟩ := hd
      refine ⟨v, ?_, hv'⟩
      have hg : vs[off]? = some v := by
        have := congrArg (·[0]?) hr
        simpa using this
      simp [part, Sem.run_bind, run_isAgg h1, hg]

theorem eqCells_ok {P : Program} {c : Ctx} {xs ys : List AV} {vx vy : List Value} (hx : VRl P xs c vx) (hy : VRl P ys c vy) (d : Nat) (w : World) :
    ∀ (fs : List Field) (i : Nat) (ks : List TK) (r : Bool), tkFields P i fs = some ks → eqCells ks (xs.drop i) (ys.drop i) = some r →
      (Op.eqFields (d + 1) ⟨vx⟩ ⟨vy⟩ fs).run P w = .ok r w
  | [], i, ks, r, hk, he => by
    simp only [tkFields, Option.some.injEq] at hk
    subst hk
    cases h1 : xs.drop i <;> cases h2 : ys.drop i <;> rw [h1, h2] at he <;> simp only [eqCells, Option.some.injEq, reduceCtorEq] at he
    subst he
    simp [Op.eqFields]
  | f :: fs, i, ks, r, hk, he => by
    simp only [tkFields] at hk
    split at hk
    · rename_i hof
      obtain ⟨hof, hnm⟩ := hof
      split at hk
      · cases hk
      · cases hk
      · rename_i ks' hsz hag hrest hno hni
        simp only [Option.some.injEq] at hk
        subst hk
        cases h1 : xs.drop i with
        | nil => rw [h1] at he; simp [eqCells] at he
        | cons x xr =>
          cases h2 : ys.drop i with
          | nil => rw [h1, h2] at he; simp [eqCells] at he
          | cons y yr =>
            rw [h1, h2] at he
            simp only [eqCells] at he
            obtain ⟨cx', hpx, hvx⟩ := run_part hag hsz hx i (v := x) (by rw [h1]; rfl) w
            obtain ⟨cy', hpy, hvy⟩ := run_part hag hsz hy i (v := y) (by rw [h2]; rfl) w
            simp only [Op.eqFields, hof, hnm, ne_eq, not_false_eq_true, if_true, Sem.run_bind, hpx, hpy, Result.andThen_ok]
            split at he
            · rename_i h3
              rw [eqOne_ok h3 rfl hvx hvy d w]
              simp only [Result.andThen_ok, Bool.not_true, Bool.false_eq_true, if_false]
              refine eqCells_ok hx hy d w fs (i + 1) _ r hrest ?_
              have e1 : xs.drop (i + 1) = xr := by rw [← List.drop_drop, h1]; rfl
              have e2 : ys.drop (i + 1) = yr := by rw [← List.drop_drop, h2]; rfl
              rw [e1, e2]; exact he
            · rename_i h3
              rw [eqOne_ok h3 rfl hvx hvy d w]
              simp only [Option.some.injEq] at he
              subst he
              simp
            · cases he
      · cases hk
    · cases hk

theorem eqA_ok {P : Program} {t : TypeId} {x y : AV} {r : Bool} (h : eqA (tkOf P t) x y = some r) {c : Ctx} {vx vy : Value} (hx : VR P x c vx) (hy : VR P y c vy) (d : Nat) (w : World) :
    (Op.equalIn (d + 2) t vx vy).run P w = .ok r w ∧ (∀ xs, vx = .agg xs → P.eqGuardType P.depth t = false) := by
  unfold tkOf at h
  split at h
  · rename_i fs hu
    split at h
    · simp only [eqA] at h
      unfold eqOne at h
      split at h <;> first | (cases h; done) | (rename_i hq; cases hq)
    · rename_i hg
      simp only [Bool.or_eq_true, not_or, Bool.not_eq_true] at hg
      split at h
      · rename_i ks hk
        simp only [eqA] at h
        split at h
        · rename_i ks' xs ys hks
          cases hks
          simp only [VR] at hx hy
          obtain ⟨vx', rfl, hx⟩ := hx
          obtain ⟨vy', rfl, hy⟩ := hy
          have hf : P.fieldsOf t = fs := by simp [Program.fieldsOf, hu]
          refine ⟨?_, fun _ _ => hg.2⟩
          rw [show d + 2 = (d + 1) + 1 from rfl, run_equalIn_struct w (d + 1) t _ _ (by rw [hf]; exact hu) hg.1, hf]
          exact eqCells_ok hx hy d w fs.toList 0 ks r hk (by simpa using h)
        · rename_i hne
          unfold eqOne at h
          split at h <;> first | (cases h; done) | (rename_i hq; cases hq)
      · simp only [eqA] at h
        unfold eqOne at h
        split at h <;> first | (cases h; done) | (rename_i hq; cases hq)
  · rename_i hns
    have h' : eqOne (tkOne P t) x y = some r := by
      unfold eqA at h
      split at h
      · rename_i ks xs ys hks
        unfold tkOne at hks
        split at hks <;> cases hks
      · exact h
    refine ⟨eqOne_ok h' rfl hx hy (d + 1) w, fun xs hxs => ?_⟩
    subst hxs
    exfalso
    unfold eqOne at h'
    split at h' <;> first | (cases h'; done) | skip
    all_goals (simp only [VR] at hx; first | (cases hx; done) | (obtain ⟨_, hx⟩ := hx; cases hx; done) | (obtain ⟨_, _, hx, _⟩ := hx; cases hx; done) | (obtain ⟨_, _, _, hx, _⟩ := hx; cases hx; done) | (obtain ⟨_, hx, _⟩ := hx; cases hx; done))

theorem eqOne_shape {P : Program} {k : TK} {x y : AV} {r : Bool} (h : eqOne k x y = some r) {c : Ctx} {vx vy : Value} (hx : VR P x c vx) (hy : VR P y c vy) (t : TypeId) (xo yo : Operand)
    (hni : ∀ k a j b, x = .int k a → y = .int j b → False) (hns : ∀ a b, x = .str a → y = .str b → False) :
    (∀ op, eqGuard op t xo yo vx vy = pure ()) ∧ (binOp .eql t vx vy = do pure (.bool (← Op.equal t vx vy))) ∧ (binOp .neq t vx vy = do pure (.bool (!(← Op.equal t vx vy)))) := by
  unfold eqOne at h
  split at h <;> first | (cases h; done) | skip
  all_goals simp only [VR] at hx hy
  case h_2 => exact (hni _ _ _ _ rfl rfl).elim
  case h_3 => exact (hns _ _ rfl rfl).elim
  all_goals (
    first
      | (subst hx hy; exact ⟨fun op => by cases op <;> rfl, rfl, rfl⟩)
      | (obtain ⟨_, rfl⟩ := hy; subst hx; exact ⟨fun op => by cases op <;> rfl, rfl, rfl⟩)
      | (obtain ⟨_, rfl⟩ := hx; subst hy; exact ⟨fun op => by cases op <;> rfl, rfl, rfl⟩)
      | (obtain ⟨_, _, rfl, _⟩ := hy; subst hx; exact ⟨fun op => by cases op <;> rfl, rfl, rfl⟩)
      | (obtain ⟨_, _, rfl, _⟩ := hx; subst hy; exact ⟨fun op => by cases op <;> rfl, rfl, rfl⟩)
      | (obtain ⟨_, _, _, rfl, _⟩ := hy; subst hx; exact ⟨fun op => by cases op <;> rfl, rfl, rfl⟩)
      | (obtain ⟨_, _, _, rfl, _⟩ := hx; subst hy; exact ⟨fun op => by cases op <;> rfl, rfl, rfl⟩)
      | (obtain ⟨_, rfl, _⟩ := hy; subst hx; exact ⟨fun op => by cases op <;> rfl, rfl, rfl⟩)
      | (obtain ⟨_, rfl, _⟩ := hx; subst hy; exact ⟨fun op => by cases op <;> rfl, rfl, rfl⟩))

theorem eq_run {P : Program} {t : TypeId} {x y : AV} {r : Bool} (h : eqA (tkOf P t) x y = some r) {c : Ctx} {vx vy : Value} (hx : VR P x c vx) (hy : VR P y c vy) (xo yo : Operand)
    (hni : ∀ k a j b, x = .int k a → y = .int j b → False) (hns : ∀ a b, x = .str a → y = .str b → False) (w : World) :
    (do eqGuard .eql t xo yo vx vy; binOp .eql t vx vy : Sem Value).run P w = .ok (.bool r) w ∧
    (do eqGuard .neq t xo yo vx vy; binOp .neq t vx vy : Sem Value).run P w = .ok (.bool !r) w := by
  obtain ⟨he, hg⟩ := eqA_ok h hx hy 9998 w
  have he' : (Op.equal t vx vy).run P w = .ok r w := he
  by_cases hagg : ∃ xs ys, x = .agg xs ∧ y = .agg ys
  · obtain ⟨xs, ys, rfl, rfl⟩ := hagg
    simp only [VR] at hx hy
    obtain ⟨vx', rfl, _⟩ := hx
    obtain ⟨vy', rfl, _⟩ := hy
    have hg' := hg _ rfl
    simp only [Sem.run_bind, run_eqGuard_agg w _ _ _ _ _ _ hg', Result.andThen_ok]
    constructor
    · rw [run_eql_struct]
      have : (Op.equalIn 10000 t (.agg ⟨vx'⟩) (.agg ⟨vy'⟩)).run P w = .ok r w := he'
      rw [this]; rfl
    · rw [run_neq_struct]
      have : (Op.equalIn 10000 t (.agg ⟨vx'⟩) (.agg ⟨vy'⟩)).run P w = .ok r w := he'
      rw [this]; rfl
  · have h' : ∃ k, eqOne k x y = some r := by
      unfold eqA at h
      split at h
      · exact absurd ⟨_, _, rfl, rfl⟩ hagg
      · exact ⟨_, h⟩
    obtain ⟨k, h'⟩ := h'
    obtain ⟨h1, h2, h3⟩ := eqOne_shape h' hx hy t xo yo hni hns
    rw [h1, h1, h2, h3]
    simp [he']

/-! numbers and strings -/
theorem vr_int {P : Program} {c : Ctx} {k : IntKind} {n : Int} : VR P (.int k n) c (.int k n) := by simp [VR]
theorem vr_bool {P : Program} {c : Ctx} {b : Bool} : VR P (.bool b) c (.bool b) := by simp [VR]
theorem vr_str {P : Program} {c : Ctx} {s : List UInt8} : VR P (.str s) c (.string ⟨⟨s⟩⟩) := by simp [VR]

theorem intBin_ok {P : Program} {op : BinOp} {k : IntKind} {a b : Int} {r : AV} (h : intBin op k a b = some r) (t : TypeId) (c : Ctx) (w : World) :
    ∃ cv, (binOp op t (.int k a) (.int k b)).run P w = .ok cv w ∧ VR P r c cv := by
  cases op <;> simp only [intBin, Option.some.injEq, reduceCtorEq] at h
  case quo =>
    split at h
    · cases h
    · rename_i hb
      simp only [Option.some.injEq] at h; subst h
      exact ⟨_, by simp only [binOp_quo, Op.intDiv, if_neg hb]; rfl, vr_int⟩
  case rem =>
    split at h
    · cases h
    · rename_i hb
      simp only [Option.some.injEq] at h; subst h
      exact ⟨_, by simp only [binOp_rem, Op.intDiv, if_neg hb]; rfl, vr_int⟩
  all_goals subst h
  case add => exact ⟨_, by rw [binOp_add]; rfl, vr_int⟩
  case sub => exact ⟨_, by rw [binOp_sub]; rfl, vr_int⟩
  case mul => exact ⟨_, by rw [binOp_mul]; rfl, vr_int⟩
  case and => exact ⟨_, by rw [binOp_and]; rfl, vr_int⟩
  case or => exact ⟨_, by rw [binOp_or]; rfl, vr_int⟩
  case xor => exact ⟨_, by rw [binOp_xor]; rfl, vr_int⟩
  case andNot => exact ⟨_, by rw [binOp_andNot]; rfl, vr_int⟩
  case eql => exact ⟨_, by rw [binOp_eql]; rfl, vr_bool⟩
  case neq => exact ⟨_, by rw [binOp_neq]; rfl, vr_bool⟩
  case lss => exact ⟨_, by rw [binOp_lss]; rfl, vr_bool⟩
  case leq => exact ⟨_, by rw [binOp_leq]; rfl, vr_bool⟩
  case gtr => exact ⟨_, by rw [binOp_gtr]; rfl, vr_bool⟩
  case geq => exact ⟨_, by rw [binOp_geq]; rfl, vr_bool⟩

theorem shiftA_ok {P : Program} {op : BinOp} {k k' : IntKind} {a b : Int} {r : AV} (h : shiftA op k a b = some r) (t : TypeId) (c : Ctx) (w : World) :
    ∃ cv, (binOp op t (.int k a) (.int k' b)).run P w = .ok cv w ∧ VR P r c cv := by
  unfold shiftA at h
  split at h
  · cases h
  · rename_i hb
    split at h
    · simp only [Option.some.injEq] at h; subst h
      exact ⟨_, by simp only [binOp_shl, Op.shift, if_neg hb]; rfl, vr_int⟩
    · simp only [Option.some.injEq] at h; subst h
      exact ⟨_, by simp only [binOp_shr, Op.shift, if_neg hb]; rfl, vr_int⟩
    · cases h

theorem strBin_ok {P : Program} {op : BinOp} {x y : List UInt8} {r : AV} (h : strBin op x y = some r) (t : TypeId) (c : Ctx) (w : World) :
    ∃ cv, (binOp op t (.string ⟨⟨x⟩⟩) (.string ⟨⟨y⟩⟩)).run P w = .ok cv w ∧ VR P r c cv := by
  have hb : ∀ op, op ≠ .shl → op ≠ .shr → binOp op t (.string ⟨⟨x⟩⟩) (.string ⟨⟨y⟩⟩) = Op.stringOp op ⟨⟨x⟩⟩ ⟨⟨y⟩⟩ := fun op h1 h2 => by
    cases op <;> first | rfl | exact absurd rfl h1 | exact absurd rfl h2
  cases op <;> simp only [strBin, Option.some.injEq, reduceCtorEq] at h
  case add =>
    split at h
    · cases h
    · rename_i hlt
      simp only [Option.some.injEq] at h; subst h
      refine ⟨_, ?_, vr_str⟩
      rw [hb _ (by simp) (by simp)]
      simp only [Op.stringOp]
      rw [if_neg (by simpa [ByteArray.size] using hlt)]
      simp only [Sem.run_pure]
      congr 3
  all_goals (
    subst h
    refine ⟨_, ?_, vr_bool⟩
    rw [hb _ (by simp) (by simp)]
    simp only [Op.stringOp, strv, Sem.run_pure])

theorem bin_ok {P : Program} {op : BinOp} {t : TypeId} {x y : AV} {r : AV} (h : binA op (tkFor P op t) x y = some r) {c : Ctx} {vx vy : Value}
    (hx : VR P x c vx) (hy : VR P y c vy) (xo yo : Operand) (w : World) :
    ∃ cv, (do eqGuard op t xo yo vx vy; binOp op t vx vy : Sem Value).run P w = .ok cv w ∧ VR P r c cv := by
  unfold binA at h
  split at h
  · simp only [VR] at hx hy
    subst hx hy
    simpa only [Sem.run_bind, eqGuard_at_int, Sem.run_pure, Result.andThen_ok] using shiftA_ok h t c w
  · simp only [VR] at hx hy
    subst hx hy
    simpa only [Sem.run_bind, eqGuard_at_int, Sem.run_pure, Result.andThen_ok] using shiftA_ok h t c w
  · simp only [VR] at hx hy
    subst hx hy
    split at h
    · rename_i hk
      subst hk
      simpa only [Sem.run_bind, eqGuard_at_int, Sem.run_pure, Result.andThen_ok] using intBin_ok h t c w
    · cases h
  · simp only [VR] at hx hy
    subst hx hy
    simpa only [Sem.run_bind, eqGuard_at_string, Sem.run_pure, Result.andThen_ok] using strBin_ok h t c w
  · rename_i hni hns
    split at h
    · rename_i b hb
      simp only [Option.some.injEq] at h
      subst h
      exact ⟨.bool b, (eq_run (t := t) hb hx hy xo yo (fun k a j b e f => hni k a j b e f) (fun a b e f => hns a b e f) w).1, by simp [VR]⟩
    · cases h
  · rename_i hni hns
    split at h
    · rename_i b hb
      simp only [Option.some.injEq] at h
      subst h
      exact ⟨.bool !b, (eq_run (t := t) hb hx hy xo yo (fun k a j b e f => hni k a j b e f) (fun a b e f => hns a b e f) w).2, by simp [VR]⟩
    · cases h
  · cases h

end Go.Eng

namespace Go.Eng

/-! keys of maps -/
theorem sameNow_ok {P : Program} {kt : TypeId} {k k' : AV} {b : Bool} (h : eqA (tkOf P kt) k k' = some b) {c : Ctx} {vk vk' : Value} (hk : VR P k c vk) (hk' : VR P k' c vk')
    {d : TypeDesc} (hd : P.underlying kt = some d) : Instr.sameNow d vk vk' = some b ∨ Instr.sameNow d vk vk' = none := by
  cases hs : Instr.sameNow d vk vk' with
  | none => exact .inr rfl
  | some b' =>
    left
    have he := (eqA_ok h hk hk' 0 (default : World)).1
    unfold Instr.sameNow at hs
    split at hs
    · split at hs
      · rename_i hjk
        subst hjk
        simp only [Option.some.injEq] at hs
        rw [run_equalIn_int _ _ _ _ _ _ _ hd] at he
        simp only [Result.ok.injEq, and_true] at he
        rw [← hs, he]
      · cases hs
    · simp only [Option.some.injEq] at hs
      rw [run_equalIn_string _ _ _ _ _ hd] at he
      simp only [Result.ok.injEq, and_true] at he
      rw [← hs, beq_toListBytes, he]
    · simp only [Option.some.injEq] at hs
      rw [run_equalIn_bool _ _ _ _ _ hd] at he
      simp only [Result.ok.injEq, and_true] at he
      rw [← hs, he]
    · cases hs

/-- the answer of a search stands for the model's -/
def FR (P : Program) (c : Ctx) (r : Option (Nat × AV)) (r' : Option (Nat × Value)) : Prop := match r with
  | none => r' = none
  | some (i, v) => ∃ v', r' = some (i, v') ∧ VR P v c v'

theorem findAsking_ok {P : Program} {kt : TypeId} {k : AV} {c : Ctx} {vk : Value} (hk : VR P k c vk) (w : World) :
    ∀ {es : List (AV × AV × Nat)} {es' : List MapEntry} {i : Nat} {r : Option (Nat × AV)}, findA (tkOf P kt) k es i = some r → MR P es c es' →
      ∃ r', (Instr.findAsking kt vk es' i).run P w = .ok r' w ∧ FR P c r r'
  | [], es', i, r, h, hm => by
    simp only [findA, Option.some.injEq] at h
    subst h
    simp only [MR] at hm
    subst hm
    exact ⟨none, by simp [Instr.findAsking], rfl⟩
  | (k', v, n) :: es, es', i, r, h, hm => by
    simp only [MR] at hm
    obtain ⟨e, r', rfl, hk', hv, _, hr⟩ := hm
    simp only [findA] at h
    split at h
    · rename_i he
      simp only [Option.some.injEq] at h
      subst h
      refine ⟨some (i, e.val), ?_, e.val, rfl, hv⟩
      have := (eqA_ok he hk hk' 9998 w).1
      simp only [Instr.findAsking, Sem.run_bind, Op.equal, Op.maxDepth]
      rw [this]; rfl
    · rename_i he
      obtain ⟨r'', h1, h2⟩ := findAsking_ok hk w h hr
      refine ⟨r'', ?_, h2⟩
      have := (eqA_ok he hk hk' 9998 w).1
      simp only [Instr.findAsking, Sem.run_bind, Op.equal, Op.maxDepth]
      rw [this]
      simpa using h1
    · cases h
theorem findNow_ok {P : Program} {kt : TypeId} {d : TypeDesc} (hd : P.underlying kt = some d) {k : AV} {c : Ctx} {vk : Value} (hk : VR P k c vk) :
    ∀ {es : List (AV × AV × Nat)} {es' : List MapEntry} {i : Nat} {r : Option (Nat × AV)}, findA (tkOf P kt) k es i = some r → MR P es c es' →
      Instr.findNow d vk es' i = none ∨ ∃ r', Instr.findNow d vk es' i = some r' ∧ FR P c r r'
  | [], es', i, r, h, hm => by
    simp only [findA, Option.some.injEq] at h
    subst h
    simp only [MR] at hm
    subst hm
    exact .inr ⟨none, rfl, rfl⟩
  | (k', v, n) :: es, es', i, r, h, hm => by
    simp only [MR] at hm
    obtain ⟨e, r', rfl, hk', hv, _, hr⟩ := hm
    simp only [findA] at h
    simp only [Instr.findNow]
    split at h
    · rename_i he
      simp only [Option.some.injEq] at h
      subst h
      rcases sameNow_ok he hk hk' hd with e1 | e1
      · rw [e1]; exact .inr ⟨_, rfl, e.val, rfl, hv⟩
      · rw [e1]; exact .inl rfl
    · rename_i he
      rcases sameNow_ok he hk hk' hd with e1 | e1
      · rw [e1]; exact findNow_ok hd hk h hr
      · rw [e1]; exact .inl rfl
    · cases h

theorem tkOf_und {P : Program} {kt : TypeId} (hp : (tkOf P kt).plain = true) : ∃ d, P.underlying kt = some d := by
  cases h : P.underlying kt with
  | some d => exact ⟨d, rfl⟩
  | none => simp [tkOf, tkOne, h, TK.plain] at hp

theorem findKey_ok {P : Program} {kt : TypeId} (hp : (tkOf P kt).plain = true) {k : AV} {c : Ctx} {vk : Value} (hk : VR P k c vk) (w : World)
    {es : List (AV × AV × Nat)} {es' : List MapEntry} {r : Option (Nat × AV)} (h : findA (tkOf P kt) k es 0 = some r) (hm : MR P es c es') :
    ∃ r', (Instr.findKey kt vk es').run P w = .ok r' w ∧ FR P c r r' := by
  obtain ⟨d, hd⟩ := tkOf_und hp
  simp only [Instr.findKey, Sem.run_bind, run_underlying hd, Result.andThen_ok]
  rcases findNow_ok hd hk h hm with e | ⟨r', e, hr⟩
  · rw [e]; exact findAsking_ok hk w h hm
  · rw [e]; exact ⟨r', rfl, hr⟩

theorem checkOne {P : Program} {t : TypeId} {k : TK} (ht : tkOne P t = k) (h1 : k ≠ .no) (h2 : k ≠ .iface) (em : Bool) (n : Nat) (v : Value) (w : World) :
    (Instr.checkKey em (n + 1) t v).run P w = .ok () w := by
  unfold tkOne at ht
  split at ht <;> rename_i hu <;> subst ht <;> first | exact absurd rfl h1 | exact absurd rfl h2 | skip
  all_goals (simp only [Instr.checkKey, Sem.run_bind, run_underlying hu, Result.andThen_ok]; cases v <;> rfl)

theorem eqOne_self {k : TK} (hk : (match k with | .bool | .int | .str => true | _ => false) = true) {x : AV} {r : Bool} (h : eqOne k x x = some r) : r = true := by
  cases k <;> first | (cases hk; done) | skip
  all_goals (cases x <;> simp [eqOne] at h <;> exact h)
theorem eqCells_len : ∀ (ks : List TK) (xs : List AV) {r : Bool}, (ks.all fun | .bool | .int | .str => true | _ => false) = true → eqCells ks xs xs = some r → xs.length = ks.length
  | [], [], _, _, _ => rfl
  | [], _ :: _, _, _, h => by simp [eqCells] at h
  | _ :: _, [], _, _, h => by simp [eqCells] at h
  | k :: ks, x :: xs, r, hp, h => by
    simp only [List.all_cons, Bool.and_eq_true] at hp
    simp only [eqCells] at h
    split at h
    · simp [eqCells_len ks xs hp.2 h]
    · rename_i h1
      exact absurd (eqOne_self hp.1 h1) (by simp)
    · cases h
theorem tkFields_len {P : Program} : ∀ (fs : List Field) (i : Nat) {ks : List TK}, tkFields P i fs = some ks → ks.length = fs.length
  | [], _, ks, h => by simp only [tkFields, Option.some.injEq] at h; subst h; rfl
  | f :: fs, i, ks, h => by
    simp only [tkFields] at h
    split at h
    · split at h
      · cases h
      · cases h
      · rename_i ks' hsz hag hrest hno hni
        simp only [Option.some.injEq] at h
        subst h
        simp [tkFields_len fs (i + 1) hrest]
      · cases h
    · cases h

theorem checkFields {P : Program} {c : Ctx} {xs : List AV} {vx : List Value} (hx : VRl P xs c vx) (em : Bool) (n : Nat) (w : World) :
    ∀ (fs : List Field) (i : Nat) (ks : List TK), tkFields P i fs = some ks → xs.length = i + fs.length → ∀ (f : Field → PUnit → Sem (ForInStep PUnit)),
      (∀ x u, f x u = if x.name ≠ "_" then (do Instr.checkKey em (n + 1) x.type (← part x.type ⟨vx⟩ x.offset); pure (ForInStep.yield PUnit.unit)) else pure (ForInStep.yield PUnit.unit)) →
      (forIn fs PUnit.unit f).run P w = .ok PUnit.unit w
  | [], i, ks, hk, hl, g, hg => by simp
  | f :: fs, i, ks, hk, hl, g, hg => by
    simp only [tkFields] at hk
    split at hk
    · rename_i hof
      obtain ⟨hof, hnm⟩ := hof
      split at hk
      · cases hk
      · cases hk
      · rename_i ks' hsz hag hrest hno hni
        simp only [Option.some.injEq] at hk
        subst hk
        simp only [List.length_cons] at hl
        obtain ⟨x, xr, h1⟩ : ∃ x xr, xs.drop i = x :: xr := by
          cases h : xs.drop i with
          | nil => have := congrArg List.length h; simp at this; omega
          | cons x xr => exact ⟨x, xr, rfl⟩
        obtain ⟨cx', hpx, hvx⟩ := run_part hag hsz hx i (v := x) (by rw [h1]; rfl) w
        simp only [List.forIn_cons, Sem.run_bind, hg, hnm, ne_eq, not_false_eq_true, if_true, hof, hpx, Result.andThen_ok]
        rw [checkOne rfl (fun e => hno e) (fun e => hni e)]
        simp only [Result.andThen_ok, Sem.run_pure]
        exact checkFields hx em n w fs (i + 1) ks' hrest (by omega) g hg
      · cases hk
    · cases hk

theorem check_struct {P : Program} {c : Ctx} {xs : List AV} {vx : List Value} (hx : VRl P xs c vx) (em : Bool) (n : Nat) (w : World) {kt : TypeId} {fs : Array Field}
    (hu : P.underlying kt = some (.struct fs)) {ks : List TK} (hks : tkFields P 0 fs.toList = some ks) (hlen : xs.length = 0 + fs.toList.length) :
    (Instr.checkKey em (n + 1 + 1) kt (.agg ⟨vx⟩)).run P w = .ok () w := by
  rw [Instr.checkKey]
  simp only [Sem.run_bind, run_underlying hu, Result.andThen_ok]
  rw [← Array.forIn_toList, checkFields hx em n w fs.toList 0 ks hks hlen _ (fun x u => by first | rfl | (split <;> rfl))]
  rfl

theorem check_ok {P : Program} {kt : TypeId} (hp : (tkOf P kt).plain = true) {k : AV} {r : Bool} (h : eqA (tkOf P kt) k k = some r) {c : Ctx} {vk : Value} (hk : VR P k c vk) (em : Bool) (w : World) :
    (Instr.checkKey em 10000 kt vk).run P w = .ok () w := by
  cases hu : P.underlying kt with
  | none => simp [tkOf, tkOne, hu, TK.plain] at hp
  | some d =>
    by_cases hs : ∃ fs, d = .struct fs
    · obtain ⟨fs, rfl⟩ := hs
      unfold tkOf at h hp
      simp only [hu] at h hp
      split at h
      · rename_i h0; simp [h0, TK.plain] at hp
      · rename_i h0
        simp only [h0, if_false, Bool.false_eq_true] at hp
        split at h
        · rename_i ks hks
          rw [hks] at hp
          simp only [TK.plain] at hp
          cases k <;> first | (simp [eqA, eqOne] at h; done) | skip
          rename_i xs
          simp only [eqA] at h
          simp only [VR] at hk
          obtain ⟨vx, rfl, hx⟩ := hk
          have hlen : xs.length = 0 + fs.toList.length := by rw [eqCells_len ks xs hp h, tkFields_len fs.toList 0 hks]; omega
          exact check_struct hx em 9998 w hu hks hlen
        · rename_i hks; simp [hks, TK.plain] at hp
    · have hone : tkOf P kt = tkOne P kt := by
        unfold tkOf
        split
        · rename_i fs hf; rw [hu] at hf; exact absurd ⟨fs, Option.some.inj hf⟩ hs
        · rfl
      rw [hone] at hp
      exact checkOne rfl (fun e => by simp [e, TK.plain] at hp) (fun e => by simp [e, TK.plain] at hp) em 9999 vk w

end Go.Eng

namespace Go.Eng

theorem option_bytes {s : List UInt8} {i : Nat} : (⟨⟨s⟩⟩ : ByteArray)[i]? = s[i]? := by
  by_cases h : i < s.length
  · have h' : i < (⟨⟨s⟩⟩ : ByteArray).size := h
    rw [getElem?_pos (⟨⟨s⟩⟩ : ByteArray) i h', List.getElem?_eq_getElem h]; rfl
  · have h' : ¬ i < (⟨⟨s⟩⟩ : ByteArray).size := h
    rw [getElem?_neg (⟨⟨s⟩⟩ : ByteArray) i h', List.getElem?_eq_none (Nat.le_of_not_lt h)]

theorem bytesA_ok {P : Program} {c : Ctx} : ∀ {cs : List AV} {vs : List Value} {s : List UInt8}, VRl P cs c vs → bytesA cs = some s →
    ∃ ns : List Int, vs = ns.map (Value.int .u8) ∧ s = ns.map fun n => UInt8.ofNat n.toNat
  | [], vs, s, h, hb => by
    simp only [VRl] at h
    simp only [bytesA, Option.some.injEq] at hb
    subst h hb
    exact ⟨[], rfl, rfl⟩
  | x :: cs, vs, s, h, hb => by
    simp only [VRl] at h
    obtain ⟨v, r, rfl, hv, hr⟩ := h
    obtain ⟨n, rfl⟩ : ∃ n, x = .int .u8 n := by
      cases x <;> first | (simp [bytesA] at hb; done) | skip
      rename_i k n
      cases k <;> first | (simp [bytesA] at hb; done) | exact ⟨n, rfl⟩
    simp only [bytesA] at hb
    split at hb
    · rename_i s' hs'
      simp only [Option.some.injEq] at hb
      subst hb
      obtain ⟨ns, rfl, rfl⟩ := bytesA_ok hr hs'
      simp only [VR] at hv
      subst hv
      exact ⟨n :: ns, rfl, rfl⟩
    · cases hb
theorem push_fold : ∀ (ns : List Int) (s : List UInt8), ns.foldl (fun r n => r.push (UInt8.ofNat n.toNat)) (⟨⟨s⟩⟩ : ByteArray) = ⟨⟨s ++ ns.map fun n => UInt8.ofNat n.toNat⟩⟩
  | [], s => by simp
  | n :: ns, s => by
    simp only [List.foldl_cons, List.map_cons]
    have : (⟨⟨s⟩⟩ : ByteArray).push (UInt8.ofNat n.toNat) = ⟨⟨s ++ [UInt8.ofNat n.toNat]⟩⟩ := by
      show (⟨(⟨s⟩ : Array UInt8).push _⟩ : ByteArray) = _
      simp
    rw [this, push_fold ns]
    simp

theorem un_ok {P : Program} {op : UnOp} {x r : AV} (h : unA op x = some r) {c : Ctx} {vx : Value} (hx : VR P x c vx) (w : World) : ∃ cv, (Op.unary op vx).run P w = .ok cv w ∧ VR P r c cv := by
  unfold unA at h
  split at h <;> first | (cases h; done) | skip
  all_goals (
    simp only [VR] at hx
    subst hx
    simp only [Option.some.injEq] at h
    subst h)
  · exact ⟨_, rfl, vr_int⟩
  · exact ⟨_, rfl, vr_int⟩
  · exact ⟨_, rfl, vr_bool⟩

theorem minmaxA_ok {P : Program} {mx : Bool} {x y r : AV} (h : minmaxA mx x y = some r) {c : Ctx} {vx vy : Value} (hx : VR P x c vx) (hy : VR P y c vy) (w : World) :
    ∃ cv, (match mx with | true => Builtin.max2 vx vy | false => Builtin.min2 vx vy).run P w = .ok cv w ∧ VR P r c cv := by
  unfold minmaxA at h
  split at h
  · split at h
    · rename_i hk
      subst hk
      simp only [VR] at hx hy
      subst hx hy
      simp only [Option.some.injEq] at h
      subst h
      cases mx
      · exact ⟨_, rfl, vr_int⟩
      · exact ⟨_, rfl, vr_int⟩
    · cases h
  · cases h
theorem minmaxL_ok {P : Program} {mx : Bool} {c : Ctx} (w : World) : ∀ {xs : List AV} {x r : AV} {vx : Value} {vs : List Value}, minmaxL mx x xs = some r → VR P x c vx → VRl P xs c vs →
    ∃ cv, (match mx with | true => vs.foldlM Builtin.max2 vx | false => vs.foldlM Builtin.min2 vx).run P w = .ok cv w ∧ VR P r c cv
  | [], x, r, vx, vs, h, hx, hs => by
    simp only [minmaxL, Option.some.injEq] at h
    subst h
    simp only [VRl] at hs
    subst hs
    refine ⟨vx, ?_, hx⟩
    cases mx <;> rfl
  | y :: ys, x, r, vx, vs, h, hx, hs => by
    simp only [VRl] at hs
    obtain ⟨v, vr, rfl, hy, hys⟩ := hs
    simp only [minmaxL] at h
    split at h
    · rename_i u hu
      obtain ⟨cv, h1, h2⟩ := minmaxA_ok hu hx hy w
      obtain ⟨cv', h3, h4⟩ := minmaxL_ok w h h2 hys
      refine ⟨cv', ?_, h4⟩
      cases mx
      · simp only [List.foldlM_cons, Sem.run_bind] at h1 h3 ⊢
        rw [h1]; exact h3
      · simp only [List.foldlM_cons, Sem.run_bind] at h1 h3 ⊢
        rw [h1]; exact h3
    · cases h

theorem tk_slice {P : Program} {t : TypeId} (h : tkOne P t = .slice) : ∃ e, P.underlying t = some (.slice e) := by
  unfold tkOne at h
  split at h <;> first | (cases h; done) | exact ⟨_, by assumption⟩
theorem tk_str {P : Program} {t : TypeId} (h : tkOne P t = .str) : P.underlying t = some .string := by
  unfold tkOne at h
  split at h <;> first | (cases h; done) | assumption
theorem tk_map {P : Program} {t : TypeId} (h : tkOne P t = .map) : ∃ k e, P.underlying t = some (.map k e) := by
  unfold tkOne at h
  split at h <;> first | (cases h; done) | exact ⟨_, _, by assumption⟩
theorem MR.length {P : Program} {c : Ctx} : ∀ {es : List (AV × AV × Nat)} {es' : List MapEntry}, MR P es c es' → es'.length = es.length
  | [], _, h => by simp only [MR] at h; subst h; rfl
  | (k, v, n) :: es, _, h => by
    simp only [MR] at h
    obtain ⟨e, r', rfl, _, _, _, hr⟩ := h
    simp [hr.length]

theorem map_at {P : Program} {m : Gh} {h : AHeap} {w : World} (hH : HR P m h w) {ν : Nat} {es : List (AV × AV × Nat)} {clock : Nat} (hg : h.get ν = some (.amap es clock)) :
    ∃ es' : List MapEntry, w.heap[(m ν).1]? = some (.map ⟨es'⟩ clock) ∧ MR P es (cx m h w) es' := by
  obtain ⟨_, _, _, es', h1, h2⟩ := hH.blk _ _ hg
  exact ⟨es', h1, h2⟩
theorem run_getObj {P : Program} {w : World} {r : Nat} {o : Obj} (h : w.heap[r]? = some o) (hn : ∀ c e f, o ≠ .cells c e f) : (getObj r).run P w = .ok o w := by
  cases o <;> first | (exact absurd rfl (hn _ _ _)) | simp [getObj, Sem.run, h]

theorem len_ok {P : Program} {m : Gh} {h : AHeap} {w : World} (hH : HR P m h w) {t : TypeId} {lk : TK} (ht : tkOne P t = lk) {x : AV} {n : Nat} (hl : lenA h lk x = some n) {v : Value}
    (hv : VR P x (cx m h w) v) (ty : TypeId) : (Builtin.len_ #[t] ty #[v]).run P w = .ok (.int .i64 n) w := by
  cases lk <;> cases x <;> simp only [lenA, Option.some.injEq, reduceCtorEq] at hl
  case slice.nils => obtain ⟨e, hu⟩ := tk_slice ht; simp only [VR] at hv; subst hv hl; simp [Builtin.len_, run_underlying hu, goInt]
  case slice.isl => obtain ⟨e, hu⟩ := tk_slice ht; simp only [VR] at hv; obtain ⟨a, cap, rfl, _⟩ := hv; subst hl; simp [Builtin.len_, run_underlying hu, goInt]
  case slice.slc => obtain ⟨e, hu⟩ := tk_slice ht; simp only [VR] at hv; obtain ⟨_, _, cap, rfl, _⟩ := hv; subst hl; simp [Builtin.len_, run_underlying hu, goInt]
  case str.str s => have hu := tk_str ht; simp only [VR] at hv; subst hv hl; have e : (⟨⟨s⟩⟩ : ByteArray).size = s.length := rfl; simp [Builtin.len_, run_underlying hu, goInt, e]
  case map.nilm => obtain ⟨k, e, hu⟩ := tk_map ht; simp only [VR] at hv; subst hv hl; simp [Builtin.len_, run_underlying hu, goInt]
  case map.mp ν =>
    obtain ⟨k, e, hu⟩ := tk_map ht
    simp only [VR] at hv
    obtain ⟨_, rfl⟩ := hv
    split at hl
    · rename_i es clock hg
      simp only [Option.some.injEq] at hl
      subst hl
      obtain ⟨es', h1, h2⟩ := map_at hH hg
      simp [Builtin.len_, run_underlying hu, run_getObj h1 (by simp), cx, goInt, h2.length]
    · cases hl

theorem lookup_ok {P : Program} {m : Gh} {h : AHeap} {w : World} (hH : HR P m h w) {t kt el : TypeId} (hu : P.underlying t = some (.map kt el)) {zero : AV} (hz : zero? P el = some zero)
    {ok : Bool} {x k r : AV} (hl : lookupA h (tkOf P kt) zero ok x k = some r) {vx vk : Value} (hx : VR P x (cx m h w) vx) (hk : VR P k (cx m h w) vk) :
    ∃ cv, (Instr.lookup t vx vk ok).run P w = .ok cv w ∧ VR P r (cx m h w) cv := by
  obtain ⟨z, hz1, hz2⟩ := run_zero hz w
  have hzv := ofValue_ok (P := P) hz2 (cx m h w)
  have fin : ∀ (v : AV) (b : Bool) (cv : Value), VR P v (cx m h w) cv → VR P (if ok then AV.tup [v, .bool b] else v) (cx m h w) (if ok then Value.tuple #[cv, .bool b] else cv) := by
    intro v b cv hv
    cases ok
    · simpa using hv
    · simp only [if_true, VR, VRl]
      exact ⟨[cv, .bool b], rfl, cv, [.bool b], rfl, hv, .bool b, [], rfl, rfl, rfl⟩
  unfold lookupA at hl
  simp only at hl
  split at hl
  · rename_i hp
    split at hl
    · simp only [VR] at hx
      subst hx
      split at hl
      · rename_i r0 he
        simp only [Option.some.injEq] at hl
        subst hl
        refine ⟨_, ?_, fin zero false z hzv⟩
        simp only [Instr.lookup, Sem.run_bind, run_underlying hu, Result.andThen_ok, Sem.run_pure, check_ok hp he hk]
        have : (Instr.findKey kt vk []).run P w = .ok none w := by
          obtain ⟨r', h1, h2⟩ := findKey_ok (P := P) hp hk w (es := []) (es' := []) (r := none) rfl rfl
          simp only [FR] at h2; subst h2; exact h1
        simp [this, hz1]
      · cases hl
    · rename_i ν
      simp only [VR] at hx
      obtain ⟨_, rfl⟩ := hx
      split at hl
      · rename_i es clock hg
        obtain ⟨es', h1, h2⟩ := map_at hH hg
        split at hl
        · rename_i r0 i v he hf
          simp only [Option.some.injEq] at hl
          subst hl
          obtain ⟨r', h3, v', rfl, h4⟩ := findKey_ok hp hk w hf h2
          refine ⟨_, ?_, fin v true v' h4⟩
          simp only [Instr.lookup, Sem.run_bind, run_underlying hu, Result.andThen_ok, Sem.run_pure, cx, run_getObj h1 (by simp), check_ok hp he hk, h3]
        · rename_i r0 he hf
          simp only [Option.some.injEq] at hl
          subst hl
          obtain ⟨r', h3, h4⟩ := findKey_ok hp hk w hf h2
          simp only [FR] at h4
          subst h4
          refine ⟨_, ?_, fin zero false z hzv⟩
          simp only [Instr.lookup, Sem.run_bind, run_underlying hu, Result.andThen_ok, Sem.run_pure, cx, run_getObj h1 (by simp), check_ok hp he hk, h3, hz1]
        · cases hl
      · cases hl
    · cases hl
  · cases hl

end Go.Eng

namespace Go.Eng

/-- a bound of a slice expression, as it is given -/
def OV (P : Program) (c : Ctx) (o : Option AV) (o' : Option Value) : Prop := match o with
  | none => o' = none
  | some x => ∃ v, o' = some v ∧ VR P x c v

theorem bound_ok {P : Program} {c : Ctx} {k : IntKind} {n : Int} {v : Value} (hv : VR P (.int k n) c v) {y : Nat} (h0 : 0 ≤ n) (h1 : n ≤ y) (code : BoundsCode) (w : World) :
    (Instr.sliceBound v y code).run P w = .ok n.toNat w := by
  simp only [VR] at hv
  subst hv
  simp [Instr.sliceBound, asIntOf, h0, h1]

def numA (o : Option AV) (d : Nat) : Option Int := match o with
  | none => some d
  | some (.int _ n) => some n
  | _ => none

theorem sliceA_eq (h : AHeap) (sk : TK) (es : Nat) (x : AV) (lo hi mx : Option AV) : sliceA h sk es x lo hi mx = (match sk, x with
  | .str, .str s =>
    match numA lo 0, numA hi s.length, mx with
    | some l, some u, none => if 0 ≤ l ∧ l ≤ u ∧ u ≤ s.length then some (.str ((s.drop l.toNat).take (u.toNat - l.toNat))) else none
    | _, _, _ => none
  | .slice, .nils =>
    match numA lo 0, numA hi 0, numA mx 0 with
    | some l, some u, some m => if l = 0 ∧ u = 0 ∧ m = 0 ∧ hi.isSome = mx.isSome then some .nils else none
    | _, _, _ => none
  | .slice, .isl cells n c =>
    match numA lo 0, numA hi n, mx with
    | some l, some u, none =>
      if 0 ≤ l ∧ l ≤ u ∧ u ≤ n then
        (if l = u then some (.isl [] 0 .any)
        else some (.isl ((cells.drop (l.toNat * es)).take ((u.toNat - l.toNat) * es)) (u.toNat - l.toNat) (match c with | .ex k => .ex (k - l.toNat) | .any => .any)))
      else none
    | some l, some u, some (.int _ m) =>
      if l = 0 ∧ u = 0 ∧ m = 0 ∧ hi.isSome then some (.isl [] 0 (.ex 0)) else none
    | _, _, _ => none
  | .slice, .slc ν o n c =>
    match numA lo 0, numA hi n, mx with
    | some l, some u, none =>
      if 0 ≤ l ∧ l ≤ u ∧ u ≤ n then
        match c with
        | .ex k => some (.slc ν (if k = l.toNat then o else o + l.toNat * es) (u.toNat - l.toNat) (.ex (k - l.toNat)))
        | .any =>
          if l = u then (if l = 0 then some (.slc ν o 0 .any) else some (.isl [] 0 .any))
          else match h.get ν with
            | some (.vec _ q) => if q.es = es then some (.slc ν (o + l.toNat * es) (u.toNat - l.toNat) .any) else none
            | _ => none
      else if 0 ≤ l ∧ l < u then
        match c, h.get ν with
        | .ex k, _ => if u ≤ k then some (.slc ν (o + l.toNat * es) (u.toNat - l.toNat) (.ex (k - l.toNat))) else none
        | .any, some (.vec cells q) => if q.es = es ∧ 0 < es ∧ o + u.toNat * es ≤ cells.length then some (.slc ν (o + l.toNat * es) (u.toNat - l.toNat) .any) else none
        | _, _ => none
      else none
    | some l, some u, some (.int _ m) =>
      if l = 0 ∧ u = 0 ∧ m = 0 ∧ hi.isSome then some (.isl [] 0 (.ex 0))
      else if 0 ≤ l ∧ l < u ∧ u ≤ m ∧ m ≤ n ∧ hi.isSome then some (.slc ν (o + l.toNat * es) (u.toNat - l.toNat) (.ex (m.toNat - l.toNat)))
      else none
    | _, _, _ => none
  | _, _ => none) := rfl

/-- the lower bound that a slice expression comes to, and the rest -/
theorem lo_ok {P : Program} {c : Ctx} {o : Option AV} {o' : Option Value} (h : OV P c o o') {l : Int} (hn : numA o 0 = some l) {y : Nat} (h0 : 0 ≤ l) (h1 : l ≤ y) (w : World) :
    (o' = none ∧ l = 0) ∨ ∃ v, o' = some v ∧ ∀ code, (Instr.sliceBound v y code).run P w = .ok l.toNat w := by
  cases o with
  | none =>
    simp only [OV] at h; subst h
    simp only [numA, Option.some.injEq] at hn; subst hn
    exact .inl ⟨rfl, rfl⟩
  | some x =>
    simp only [OV] at h
    obtain ⟨v, rfl, hv⟩ := h
    cases x <;> simp only [numA, Option.some.injEq, reduceCtorEq] at hn
    subst hn
    exact .inr ⟨v, rfl, fun code => bound_ok hv h0 h1 code w⟩
theorem hi_ok {P : Program} {c : Ctx} {o : Option AV} {o' : Option Value} (h : OV P c o o') {d : Nat} {u : Int} (hn : numA o d = some u) {y : Nat} (h0 : 0 ≤ u) (h1 : u ≤ y) (w : World) :
    (o' = none ∧ u = d) ∨ ∃ v, o' = some v ∧ ∀ code, (Instr.sliceBound v y code).run P w = .ok u.toNat w := by
  cases o with
  | none =>
    simp only [OV] at h; subst h
    simp only [numA, Option.some.injEq] at hn; subst hn
    exact .inl ⟨rfl, rfl⟩
  | some x =>
    simp only [OV] at h
    obtain ⟨v, rfl, hv⟩ := h
    cases x <;> simp only [numA, Option.some.injEq, reduceCtorEq] at hn
    subst hn
    exact .inr ⟨v, rfl, fun code => bound_ok hv h0 h1 code w⟩

theorem bounds_ok {P : Program} {c : Ctx} {lo hi : Option AV} {lo' hi' : Option Value} (hl : OV P c lo lo') (hh : OV P c hi hi') {n cap : Nat} {l u : Int}
    (nl : numA lo 0 = some l) (nu : numA hi n = some u) (h0 : 0 ≤ l) (h1 : l ≤ u) (h2 : u ≤ cap) (isS : Bool) (w : World) :
    (Instr.sliceBounds isS n cap lo' hi' none).run P w = .ok (l.toNat, u.toNat, cap) w := by
  have e1 := hi_ok (P := P) hh nu (y := cap) (by omega) h2 w
  have e2 := lo_ok (P := P) hl nl (y := u.toNat) h0 (by omega) w
  rcases e1 with ⟨rfl, rfl⟩ | ⟨v, rfl, e1⟩ <;> rcases e2 with ⟨rfl, rfl⟩ | ⟨v', rfl, e2⟩
  · simp [Instr.sliceBounds]
  · simp only [Int.toNat_natCast] at e2
    simp [Instr.sliceBounds, e2]
  · simp [Instr.sliceBounds, e1]
  · simp [Instr.sliceBounds, e1, e2]

theorem bounds3_ok {P : Program} {c : Ctx} {lo hi : Option AV} {lo' hi' : Option Value} (hl : OV P c lo lo') (hh : OV P c hi hi') {n cap : Nat} {l u m : Int} {k : IntKind} {vm : Value}
    (hm : VR P (.int k m) c vm) (nl : numA lo 0 = some l) (hsome : hi ≠ none) (nu : numA hi n = some u) (h0 : 0 ≤ l) (h1 : l ≤ u) (h2 : u ≤ m) (h3 : m ≤ cap) (isS : Bool) (w : World) :
    (Instr.sliceBounds isS n cap lo' hi' (some vm)).run P w = .ok (l.toNat, u.toNat, m.toNat) w := by
  have e0 := fun code => bound_ok (P := P) hm (y := cap) (by omega) h3 code w
  have e1 := hi_ok (P := P) hh nu (y := m.toNat) (by omega) (by omega) w
  have e2 := lo_ok (P := P) hl nl (y := u.toNat) h0 (by omega) w
  rcases e1 with ⟨rfl, rfl⟩ | ⟨v, rfl, e1⟩
  · cases hi with
    | none => exact absurd rfl hsome
    | some x => simp only [OV] at hh; obtain ⟨_, h, _⟩ := hh; cases h
  · rcases e2 with ⟨rfl, rfl⟩ | ⟨v', rfl, e2⟩
    · simp [Instr.sliceBounds, e0, e1]
    · simp [Instr.sliceBounds, e0, e1, e2]

theorem extract_str (s : List UInt8) (a b : Nat) : (⟨⟨s⟩⟩ : ByteArray).extract a b = ⟨⟨(s.drop a).take (b - a)⟩⟩ := by
  apply ByteArray.ext
  apply Array.ext'
  rw [ByteArray.data_extract]
  simp

theorem slice_str_ok {P : Program} {m : Gh} {h : AHeap} {w : World} {t : TypeId} (hu : P.underlying t = some .string) {x r : AV} {lo hi mx : Option AV}
    (hs : sliceA h .str 1 x lo hi mx = some r) {vx : Value} {lo' hi' mx' : Option Value} (hx : VR P x (cx m h w) vx) (hl : OV P (cx m h w) lo lo') (hh : OV P (cx m h w) hi hi')
    (hm : OV P (cx m h w) mx mx') : ∃ cv, (Instr.sliceAt t vx lo' hi' mx').run P w = .ok cv w ∧ VR P r (cx m h w) cv := by
  rw [sliceA_eq] at hs
  cases x <;> simp only [reduceCtorEq] at hs
  rename_i s
  simp only [VR] at hx
  subst hx
  cases mx with
  | some y => split at hs <;> first | (cases hs; done) | (rename_i hq; cases hq)
  | none =>
    simp only [OV] at hm
    subst hm
    split at hs
    · rename_i l u _ nl nu _
      split at hs
      · rename_i hb
        simp only [Option.some.injEq] at hs
        subst hs
        have hb' := bounds_ok (P := P) hl hh nl nu hb.1 hb.2.1 hb.2.2 false w
        refine ⟨_, ?_, vr_str⟩
        have e : (⟨⟨s⟩⟩ : ByteArray).size = s.length := rfl
        simp only [Instr.sliceAt, Instr.slice, Sem.run_bind, run_underlying hu, Result.andThen_ok, Option.isSome_none, Bool.false_eq_true, if_false, Sem.run_pure, e, hb', extract_str]
      · cases hs
    · cases hs

/-- what a slice of a slice comes to, its bounds known -/
theorem slice_run {P : Program} {w : World} {t el : TypeId} (hu : P.underlying t = some (.slice el)) {es : Nat} (hes : sz? P el = some es) {a : Option Addr} {n cap : Nat} {lo' hi' mx' : Option Value} {l u m : Nat}
    (hb : (Instr.sliceBounds true n cap lo' hi' mx').run P w = .ok (l, u, m) w) :
    (Instr.sliceAt t (.slice a n cap) lo' hi' mx').run P w = .ok (.slice (if m = l then a else a.map (·.add (l * es))) (u - l) (m - l)) w := by
  simp [Instr.sliceAt, Instr.slice, run_underlying hu, hb, run_sizeOf hes]

theorem slice_sl_ok {P : Program} {m : Gh} {h : AHeap} {w : World} (hH : HR P m h w) {t el : TypeId} (hu : P.underlying t = some (.slice el)) {es : Nat} (hes : sz? P el = some es) {x r : AV}
    {lo hi mx : Option AV} (hs : sliceA h .slice es x lo hi mx = some r) {vx : Value} {lo' hi' mx' : Option Value} (hx : VR P x (cx m h w) vx) (hl : OV P (cx m h w) lo lo')
    (hh : OV P (cx m h w) hi hi') (hm : OV P (cx m h w) mx mx') : ∃ cv, (Instr.sliceAt t vx lo' hi' mx').run P w = .ok cv w ∧ VR P r (cx m h w) cv := by
  rw [sliceA_eq] at hs
  cases x <;> simp only [reduceCtorEq] at hs
  case nils =>
    simp only [VR] at hx
    subst hx
    split at hs
    · rename_i l u q nl nu nq
      split at hs
      · rename_i hb
        obtain ⟨rfl, rfl, rfl, hsm⟩ := hb
        simp only [Option.some.injEq] at hs
        subst hs
        cases mx with
        | none =>
          simp only [OV] at hm; subst hm
          have hb' := bounds_ok (P := P) hl hh nl nu (cap := 0) (by omega) (by omega) (by omega) true w
          exact ⟨_, slice_run hu hes hb', by simp [VR]⟩
        | some y =>
          simp only [OV] at hm
          obtain ⟨vm, rfl, hvm⟩ := hm
          cases y <;> simp only [numA, Option.some.injEq, reduceCtorEq] at nq
          subst nq
          have hb' := bounds3_ok (P := P) hl hh (cap := 0) hvm nl (by intro e; subst e; simp at hsm) nu (by omega) (by omega) (by omega) (by omega) true w
          exact ⟨_, slice_run hu hes hb', by simp [VR]⟩
      · cases hs
    · cases hs
  case isl cells n cp =>
    simp only [VR] at hx
    obtain ⟨a, cap, rfl, hcap, h0, hn⟩ := hx
    split at hs
    · -- two bounds
      rename_i l u nl nu
      simp only [OV] at hm; subst hm
      split at hs
      · rename_i hb
        have hb' := bounds_ok (P := P) hl hh nl nu (cap := cap) hb.1 hb.2.1 (by have := hcap.1; omega) true w
        refine ⟨_, slice_run hu hes hb', ?_⟩
        split at hs
        · rename_i he
          subst he
          simp only [Option.some.injEq] at hs
          subst hs
          simp only [VR]
          exact ⟨_, _, by rw [Nat.sub_self], ⟨Nat.zero_le _, trivial⟩, by simp, by simp⟩
        · rename_i hne
          simp only [Option.some.injEq] at hs
          subst hs
          obtain ⟨b, base, rfl, hi', hmm⟩ := hn (by omega)
          have hcl := hcap.1
          rw [if_neg (by omega)]
          simp only [VR, Option.map_some, addr_add]
          refine ⟨_, _, rfl, ?_, fun h => by omega, fun _ => ⟨b, base + l.toNat * es, rfl, hi', (hmm.drop _).take _⟩⟩
          refine ⟨by omega, ?_⟩
          cases cp with
          | ex k => have := hcap.2; simp only at this ⊢; omega
          | any => trivial
      · cases hs
    · rename_i l u k q nl nu
      simp only [OV] at hm
      obtain ⟨vm, rfl, hvm⟩ := hm
      split at hs
      · rename_i hb
        obtain ⟨rfl, rfl, rfl, hsm⟩ := hb
        simp only [Option.some.injEq] at hs
        subst hs
        have hb' := bounds3_ok (P := P) hl hh (cap := cap) hvm nl (by intro e; subst e; simp at hsm) nu (by omega) (by omega) (by omega) (by omega) true w
        refine ⟨_, slice_run hu hes hb', ?_⟩
        simp only [VR]
        exact ⟨_, _, rfl, ⟨Nat.zero_le _, rfl⟩, by simp, by simp⟩
      · cases hs
    · cases hs
  case slc ν o n cp =>
    simp only [VR] at hx
    obtain ⟨hk, hsz, cap, rfl, hcap, hany⟩ := hx
    have hcl := hcap.1
    -- the value behind a slice that is not empty
    have mk : ∀ (l u : Nat) (c' : Cap) (cap' : Nat), l < u → u - l ≤ cap' → (match c' with | .ex k => cap' = k | .any => True) →
        (c' = .any → ∀ el' s, w.shape? (m ν).1 = some (el', s) → (m ν).2 + (o + l * es) + cap' * P.cellsOf el' = s) →
        VR P (.slc ν (o + l * es) (u - l) c') (cx m h w) (.slice (some ⟨(m ν).1, (m ν).2 + o + l * es, none⟩) (u - l) cap') := by
      intro l u c' cap' h1 h2 h3 h4
      simp only [VR]
      exact ⟨hk, hsz, cap', by simp only [cx, Nat.add_assoc], ⟨h2, h3⟩, h4⟩
    have hcellsz : ∀ cells q, h.get ν = some (.vec cells q) → ∃ sz, w.shape? (m ν).1 = some (q.el, sz) ∧ (m ν).2 + cells.length ≤ sz ∧ P.cellsOf q.el = q.es := by
      intro cells q hg
      obtain ⟨_, _, arr, fz, h1, _, h3, _, h5⟩ := hH.blk ν _ hg
      have h1' : w.heap[(m ν).1]? = some (.cells arr q.el fz) := h1
      exact ⟨arr.size, by simp [World.shape?, h1'], h3, h5⟩
    split at hs
    · rename_i l u nl nu
      simp only [OV] at hm; subst hm
      split at hs
      · rename_i hb
        have hb' := bounds_ok (P := P) hl hh nl nu (cap := cap) hb.1 hb.2.1 (by omega) true w
        refine ⟨_, slice_run hu hes hb', ?_⟩
        split at hs
        · rename_i k
          simp only [Option.some.injEq] at hs
          subst hs
          have hck : cap = k := hcap.2
          subst hck
          by_cases hkl : cap = l.toNat
          · rw [if_pos hkl, if_pos hkl]
            simp only [VR]
            exact ⟨hk, hsz, _, rfl, ⟨by omega, rfl⟩, fun h => by cases h⟩
          · rw [if_neg hkl, if_neg hkl]
            simp only [VR, Option.map_some, addr_add]
            exact ⟨hk, hsz, _, by simp only [cx, Nat.add_assoc], ⟨by omega, rfl⟩, fun h => by cases h⟩
        · split at hs
          · rename_i he
            subst he
            split at hs
            · rename_i he0
              subst he0
              simp only [Option.some.injEq] at hs
              subst hs
              simp only [VR]
              refine ⟨hk, hsz, cap, ?_, ⟨Nat.zero_le _, trivial⟩, fun _ => hany rfl⟩
              by_cases hc0 : cap = 0
              · subst hc0; simp
              · simp [hc0, addr_add]
            · simp only [Option.some.injEq] at hs
              subst hs
              simp only [VR]
              exact ⟨_, _, by rw [Nat.sub_self], ⟨Nat.zero_le _, trivial⟩, by simp, by simp⟩
          · rename_i hne
            split at hs
            · rename_i cells q hg
              split at hs
              · rename_i hqe
                simp only [Option.some.injEq] at hs
                subst hs
                rw [if_neg (by omega)]
                simp only [Option.map_some, addr_add]
                refine mk l.toNat u.toNat .any (cap - l.toNat) (by omega) (by omega) trivial (fun _ el' s hsh => ?_)
                obtain ⟨sz, h1, h2, h3⟩ := hcellsz cells q hg
                have he := hany rfl el' s hsh
                rw [h1] at hsh
                simp only [Option.some.injEq, Prod.mk.injEq] at hsh
                obtain ⟨rfl, rfl⟩ := hsh
                rw [h3, hqe] at he ⊢
                have : l.toNat * es + (cap - l.toNat) * es = cap * es := by rw [← Nat.add_mul]; congr 1; omega
                have he' : (m ν).2 + o + cap * es = sz := he
                omega
              · cases hs
            · cases hs
      · split at hs
        · rename_i hb
          split at hs
          · rename_i k
            split at hs
            · rename_i huk
              simp only [Option.some.injEq] at hs
              subst hs
              have hck : cap = k := hcap.2
              subst hck
              have hb' := bounds_ok (P := P) hl hh nl nu (cap := cap) hb.1 (by omega) huk true w
              refine ⟨_, slice_run hu hes hb', ?_⟩
              rw [if_neg (by omega)]
              simp only [Option.map_some, addr_add]
              exact mk l.toNat u.toNat (.ex (cap - l.toNat)) (cap - l.toNat) (by omega) (by omega) rfl (fun h => by cases h)
            · cases hs
          · rename_i cells q hg
            split at hs
            · rename_i hq
              obtain ⟨hqe, hpos, hle⟩ := hq
              simp only [Option.some.injEq] at hs
              subst hs
              obtain ⟨sz, h1, h2, h3⟩ := hcellsz cells q hg
              have he := hany rfl _ _ h1
              have he' : (m ν).2 + o + cap * P.cellsOf q.el = sz := he
              rw [h3, hqe] at he'
              have hule : u.toNat ≤ cap := by
                have : u.toNat * es ≤ cap * es := by omega
                exact Nat.le_of_mul_le_mul_right this hpos
              have hb' := bounds_ok (P := P) hl hh nl nu (cap := cap) hb.1 (by omega) (by omega) true w
              refine ⟨_, slice_run hu hes hb', ?_⟩
              rw [if_neg (by omega)]
              simp only [Option.map_some, addr_add]
              refine mk l.toNat u.toNat .any (cap - l.toNat) (by omega) (by omega) trivial (fun _ el' s hsh => ?_)
              rw [h1] at hsh
              simp only [Option.some.injEq, Prod.mk.injEq] at hsh
              obtain ⟨rfl, rfl⟩ := hsh
              rw [h3, hqe]
              have : l.toNat * es + (cap - l.toNat) * es = cap * es := by rw [← Nat.add_mul]; congr 1; omega
              omega
            · cases hs
          · cases hs
        · cases hs
    · rename_i l u k q nl nu
      simp only [OV] at hm
      obtain ⟨vm, rfl, hvm⟩ := hm
      split at hs
      · rename_i hb
        obtain ⟨rfl, rfl, rfl, hsm⟩ := hb
        simp only [Option.some.injEq] at hs
        subst hs
        have hb' := bounds3_ok (P := P) hl hh (cap := cap) hvm nl (by intro e; subst e; simp at hsm) nu (by omega) (by omega) (by omega) (by omega) true w
        refine ⟨_, slice_run hu hes hb', ?_⟩
        simp only [VR]
        exact ⟨_, _, rfl, ⟨Nat.zero_le _, rfl⟩, by simp, by simp⟩
      · split at hs
        · rename_i hb
          obtain ⟨h0, h1, h2, h3, hsm⟩ := hb
          simp only [Option.some.injEq] at hs
          subst hs
          have hb' := bounds3_ok (P := P) hl hh (cap := cap) hvm nl (by intro e; subst e; simp at hsm) nu (by omega) (by omega) (by omega) (by omega) true w
          refine ⟨_, slice_run hu hes hb', ?_⟩
          rw [if_neg (by omega)]
          simp only [Option.map_some, addr_add]
          exact mk l.toNat u.toNat (.ex (q.toNat - l.toNat)) (q.toNat - l.toNat) (by omega) (by omega) rfl (fun h => by cases h)
        · cases hs
    · cases hs

end Go.Eng

namespace Go.Eng

section
variable {P : Program} {o : Oper} {a : Act} {w : World} {m : Gh} {h : AHeap} {tm : Tr}

def Keeps (P : Program) (o : Oper) (a : Act) (w : World) (m : Gh) (h : AHeap) (v : AV) : Prop :=
  ∃ cv, (execOp a.eval o).run P w = .ok (.value cv) w ∧ VR P v (cx m h w) cv

theorem Keeps.of {v : AV} {s : Sem Value} {cv : Value} (he : execOp a.eval o = (do pure (.value (← s)))) (hs : s.run P w = .ok cv w) (hv : VR P v (cx m h w) cv) : Keeps P o a w m h v :=
  ⟨cv, by rw [he]; simp [hs], hv⟩

theorem noH_some {x : Option AV} {v : AV} {h' : AHeap} (hx : noH h x = some (v, h')) : x = some v ∧ h' = h := by
  cases x with
  | none => cases hx
  | some y => simp only [noH, Option.some.injEq, Prod.mk.injEq] at hx; exact ⟨by rw [hx.1], hx.2.symm⟩

theorem keep_nilchk {x : Operand} (hop : o.op = .nilCheck x) {y : AX} (hy : trX x = some y) {at_ : Option Nat} {v : AV} {h' : AHeap}
    (hT : TR P tm (cx m h w) a) (ha : aop (.nilchk y) tm h at_ = some (v, h')) : h' = h ∧ Keeps P o a w m h v := by
  have hv := trX_ok hy hT
  simp only [aop] at ha
  split at ha
  · rename_i ν off he
    simp only [Option.some.injEq, Prod.mk.injEq] at ha
    obtain ⟨rfl, rfl⟩ := ha
    rw [he] at hv
    have hv' := hv
    simp only [VR] at hv
    obtain ⟨_, hv⟩ := hv
    exact ⟨rfl, _, by simp only [execOp, hop, hv]; rfl, by rw [← hv]; exact hv'⟩
  · rename_i cs he
    simp only [Option.some.injEq, Prod.mk.injEq] at ha
    obtain ⟨rfl, rfl⟩ := ha
    rw [he] at hv
    have hv' := hv
    simp only [VR] at hv
    obtain ⟨b, base, hv, _⟩ := hv
    exact ⟨rfl, _, by simp only [execOp, hop, hv]; rfl, by rw [← hv]; exact hv'⟩
  · rename_i f as bs he
    simp only [Option.some.injEq, Prod.mk.injEq] at ha
    obtain ⟨rfl, rfl⟩ := ha
    rw [he] at hv
    have hv' := hv
    simp only [VR] at hv
    obtain ⟨a', b', hv, _⟩ := hv
    exact ⟨rfl, _, by simp only [execOp, hop, hv]; rfl, by rw [← hv]; exact hv'⟩
  · cases ha

theorem keep_pick {c x y : Operand} (hop : o.op = .pick c x y) {c' x' y' : AX} (hc : trX c = some c') (hx : trX x = some x') (hy : trX y = some y') {at_ : Option Nat} {v : AV} {h' : AHeap}
    (hT : TR P tm (cx m h w) a) (ha : aop (.pick c' x' y') tm h at_ = some (v, h')) : h' = h ∧ Keeps P o a w m h v := by
  have hcv := trX_ok hc hT
  simp only [aop] at ha
  split at ha
  · rename_i b he
    simp only [Option.some.injEq, Prod.mk.injEq] at ha
    obtain ⟨rfl, rfl⟩ := ha
    rw [he] at hcv
    simp only [VR] at hcv
    refine ⟨rfl, (if b then a.eval x else a.eval y), by simp only [execOp, hop, hcv]; cases b <;> rfl, ?_⟩
    cases b
    · exact trX_ok hy hT
    · exact trX_ok hx hT
  · cases ha

theorem parts_of {fs : Array Field} : ∀ {parts : List (Nat × Operand)} {ps : List (Nat × Nat × AX)}, trParts P fs parts = some ps → True
  | _, _, _ => trivial

theorem splice_len {cs : List AV} {off : Nat} {xs z : List AV} (h : splice cs off xs = some z) : z.length = cs.length ∧ off + xs.length ≤ cs.length := by
  unfold splice at h
  split at h
  · rename_i hle
    simp only [Option.some.injEq] at h
    subst h
    refine ⟨?_, hle⟩
    simp only [List.length_append, List.length_take, List.length_drop]
    omega
  · cases h

theorem foldl_set (off : Nat) : ∀ (vs : List Value) (k : Nat) (arr : Array Value), off + k + vs.length ≤ arr.size →
    ((vs.zipIdx k).foldl (fun (cs : Array Value) (x : Value × Nat) => cs.setIfInBounds (off + x.2) x.1) arr).toList =
      arr.toList.take (off + k) ++ (vs ++ arr.toList.drop (off + k + vs.length))
  | [], k, arr, _ => by simp
  | v :: vs, k, arr, hle => by
    simp only [List.length_cons] at hle
    simp only [List.zipIdx_cons, List.foldl_cons]
    rw [foldl_set off vs (k + 1) _ (by simp; omega)]
    simp only [Array.toList_setIfInBounds]
    apply List.ext_getElem?
    intro i
    have hsz : arr.toList.length = arr.size := Array.length_toList
    have hlen1 : ((arr.toList.set (off + k) v).take (off + (k + 1))).length = off + (k + 1) := by simp; omega
    have hlen2 : (arr.toList.take (off + k)).length = off + k := by simp; omega
    by_cases h1 : i < off + k
    · rw [List.getElem?_append_left (by omega), List.getElem?_append_left (by omega)]
      rw [List.getElem?_take, List.getElem?_take, if_pos (by omega), if_pos h1, List.getElem?_set_ne (by omega)]
    · by_cases h2 : i = off + k
      · subst h2
        rw [List.getElem?_append_left (by omega), List.getElem?_append_right (by omega), hlen2]
        rw [List.getElem?_take, if_pos (by omega), List.getElem?_set_self (by omega)]
        simp
      · obtain ⟨j, rfl⟩ : ∃ j, i = off + k + 1 + j := ⟨i - (off + k + 1), by omega⟩
        have L : ∀ B : List Value, ((arr.toList.set (off + k) v).take (off + (k + 1)) ++ B)[off + k + 1 + j]? = B[j]? := fun B => by
          rw [List.getElem?_append_right (by rw [hlen1]; omega), hlen1]; congr 1; omega
        have R : ∀ B : List Value, (arr.toList.take (off + k) ++ (v :: B))[off + k + 1 + j]? = B[j]? := fun B => by
          rw [List.getElem?_append_right (by rw [hlen2]; omega), hlen2, show off + k + 1 + j - (off + k) = j + 1 by omega, List.getElem?_cons_succ]
        rw [L, List.cons_append, R, List.drop_set_of_lt (by omega)]
        congr 3
        simp only [List.length_cons]
        omega

theorem fill_one {c : Ctx} {cs xs z : List AV} {off : Nat} (h : splice cs off xs = some z) {arr : Array Value} {v : Value} (harr : VRl P cs c arr.toList) (hv : VRl P xs c v.cells.toList) :
    off + v.cells.size ≤ arr.size ∧ v.cells.size = xs.length ∧ VRl P z c (v.cells.zipIdx.foldl (fun (cs : Array Value) (x : Value × Nat) => cs.setIfInBounds (off + x.2) x.1) arr).toList := by
  have hl := harr.length
  have hx := hv.length
  rw [Array.length_toList] at hl hx
  obtain ⟨_, hle⟩ := splice_len h
  refine ⟨by omega, hx, ?_⟩
  unfold splice at h
  rw [if_pos hle] at h
  simp only [Option.some.injEq] at h
  subst h
  rw [← Array.foldl_toList, Array.toList_zipIdx]
  rw [foldl_set off v.cells.toList 0 arr (by rw [Array.length_toList]; omega)]
  have e : v.cells.toList.length = xs.length := by rw [Array.length_toList]; exact hx
  rw [e, Nat.add_zero]
  exact (harr.take _).append (hv.append (harr.drop _))

theorem build_ok {c : Ctx} {fs : Array Field} (hT : TR P tm c a) : ∀ {parts : List (Nat × Operand)} {ps : List (Nat × Nat × AX)} {z r : List AV} {arr : Array Value}, trParts P fs parts = some ps →
    buildA tm z ps = some r → VRl P z c arr.toList → ∀ (place : Nat → Option (Nat × Nat)), (∀ i f s, fs[i]? = some f → sz? P f.type = some s → place i = some (f.offset, s)) →
    ∃ arr', Instr.fill place arr (parts.map fun x => (x.1, a.eval x.2)) = some arr' ∧ VRl P r c arr'.toList
  | [], ps, z, r, arr, hp, hb, hz, place, hpl => by
    simp only [trParts, Option.some.injEq] at hp
    subst hp
    simp only [buildA, Option.some.injEq] at hb
    subst hb
    exact ⟨arr, rfl, hz⟩
  | (i, x) :: parts, ps, z, r, arr, hp, hb, hz, place, hpl => by
    simp only [trParts] at hp
    split at hp
    · rename_i f hf
      split at hp
      · rename_i s y ys hs hy hys
        simp only [Option.some.injEq] at hp
        subst hp
        simp only [buildA] at hb
        split at hb
        · rename_i cs hcs
          split at hb
          · rename_i hlen
            split at hb
            · rename_i z' hz'
              have hv := cells_ok hcs (trX_ok hy hT)
              obtain ⟨h1, h2, h3⟩ := fill_one hz' hz hv
              obtain ⟨arr', h4, h5⟩ := build_ok hT hys hb h3 place hpl
              refine ⟨arr', ?_, h5⟩
              simp only [List.map_cons, Instr.fill, hpl i f s hf hs]
              have hc : (decide ((a.eval x).cells.size ≠ s) || decide (f.offset + (a.eval x).cells.size > arr.size)) = false := by
                simp; omega
              rw [if_neg (by simpa using hc)]
              exact h4
            · cases hb
          · cases hb
        · cases hb
      · cases hp
    · cases hp

theorem zeros_ok {t : TypeId} {z : List AV} (hz : zeros? P t = some z) (c : Ctx) (w : World) : ∃ v, (zeroValue t).run P w = .ok v w ∧ VRl P z c v.cells.toList := by
  simp only [zeros?, Option.bind_eq_some_iff] at hz
  obtain ⟨x, h1, h2⟩ := hz
  obtain ⟨v, h3, h4⟩ := run_zero h1 w
  exact ⟨v, h3, cells_ok h2 (ofValue_ok h4 c)⟩

theorem run_mapM {α β : Type} (f : α → Sem β) (g : α → β) (w : World) : ∀ (l : List α), (∀ x ∈ l, (f x).run P w = .ok (g x) w) → (l.mapM f).run P w = .ok (l.map g) w
  | [], _ => by simp
  | x :: l, hx => by
    simp [List.mapM_cons, hx x (by simp), run_mapM f g w l (fun y hy => hx y (by simp [hy]))]

end

end Go.Eng

namespace Go.Eng

section
variable {P : Program} {o : Oper} {a : Act} {w : World} {m : Gh} {h : AHeap} {tm : Tr}

theorem run_v {s : Sem Value} {cv : Value} (hs : s.run P w = .ok cv w) : ((do pure (.value (← s))) : Sem Next).run P w = .ok (.value cv) w := by simp [hs]

theorem builtin_run {b : Builtin} {args : Array Operand} {ts : Array TypeId} (hop : o.op = .call { callee := .builtin b, args, argTypes := ts }) :
    execOp a.eval o = builtin b ts o.type (args.map fun | .const _ => true | _ => false) (args.map a.eval) := by
  simp only [execOp, hop, resolve, pure_bind, invoke]
  rfl

theorem keep_len {c : Call} {at_ : Option Nat} {v : AV} {h' : AHeap} (hop : o.op = .call c) (hc : c.callee = .builtin .len) {x : Operand} (hx : c.args.toList = [x]) {t : TypeId} (ht : c.argTypes.toList = [t])
    {lk : TK} (hlk : tkOne P t = lk) {y : AX} (hy : trX x = some y) (hT : TR P tm (cx m h w) a) (hH : HR P m h w) (ha : aop (.len lk y) tm h at_ = some (v, h')) : h' = h ∧ Keeps P o a w m h v := by
  have hv := trX_ok hy hT
  simp only [aop] at ha
  split at ha
  · rename_i n hn
    simp only [Option.some.injEq, Prod.mk.injEq] at ha
    obtain ⟨rfl, rfl⟩ := ha
    obtain ⟨callee, args, ts⟩ := c
    simp only at hc hx ht
    subst hc
    obtain rfl : args = #[x] := by cases args; simp at hx; subst hx; rfl
    obtain rfl : ts = #[t] := by cases ts; simp at ht; subst ht; rfl
    refine ⟨rfl, _, ?_, vr_int⟩
    rw [builtin_run hop]
    have := len_ok hH hlk hn hv o.type
    simp only [builtin, List.map_toArray, List.map_cons, List.map_nil]
    exact run_v this
  · cases ha

theorem keep_cap {c : Call} {at_ : Option Nat} {v : AV} {h' : AHeap} (hop : o.op = .call c) (hc : c.callee = .builtin .cap) {x : Operand} (hx : c.args.toList = [x]) {t : TypeId} (ht : c.argTypes.toList = [t])
    (hlk : tkOne P t = .slice) {y : AX} (hy : trX x = some y) (hT : TR P tm (cx m h w) a) (ha : aop (.cap y) tm h at_ = some (v, h')) : h' = h ∧ Keeps P o a w m h v := by
  have hv := trX_ok hy hT
  obtain ⟨e, hu⟩ := tk_slice hlk
  obtain ⟨callee, args, ts⟩ := c
  simp only at hc hx ht
  subst hc
  obtain rfl : args = #[x] := by cases args; simp at hx; subst hx; rfl
  obtain rfl : ts = #[t] := by cases ts; simp at ht; subst ht; rfl
  have hrun : ∀ (p : Option Addr) (n k : Nat), a.eval x = .slice p n k → (execOp a.eval o).run P w = .ok (.value (.int .i64 k)) w := fun p n k he => by
    rw [builtin_run hop]
    simp only [builtin, List.map_toArray, List.map_cons, List.map_nil]
    refine run_v ?_
    simp [Builtin.cap_, run_underlying hu, he, goInt]
  simp only [aop] at ha
  split at ha
  · rename_i hh
    rw [hh] at hv
    simp only [VR] at hv
    simp only [Option.some.injEq, Prod.mk.injEq] at ha
    obtain ⟨rfl, rfl⟩ := ha
    exact ⟨rfl, _, hrun _ _ _ hv, vr_int⟩
  · rename_i ν of n k hh
    rw [hh] at hv
    simp only [VR] at hv
    obtain ⟨_, _, cap, hv, hcap, _⟩ := hv
    have : cap = k := hcap.2
    subst this
    simp only [Option.some.injEq, Prod.mk.injEq] at ha
    obtain ⟨rfl, rfl⟩ := ha
    exact ⟨rfl, _, hrun _ _ _ hv, vr_int⟩
  · cases ha

theorem keep_minmax {c : Call} {at_ : Option Nat} {v : AV} {h' : AHeap} (hop : o.op = .call c) {mx : Bool} (hc : c.callee = .builtin (if mx then .max else .min)) {ys : List AX} (hy : trXs c.args.toList = some ys)
    (hT : TR P tm (cx m h w) a) (ha : aop (.minmax mx ys) tm h at_ = some (v, h')) : h' = h ∧ Keeps P o a w m h v := by
  have hv := trXs_ok hy hT
  obtain ⟨callee, args, ts⟩ := c
  simp only at hc hy hv
  subst hc
  simp only [aop] at ha
  split at ha
  · rename_i x xs hxs
    obtain ⟨h1, rfl⟩ := noH_some ha
    rw [hxs] at hv
    simp only [VRl] at hv
    obtain ⟨v0, vs, hvs, hv0, hvr⟩ := hv
    obtain ⟨cv, h2, h3⟩ := minmaxL_ok w h1 hv0 hvr
    refine ⟨rfl, cv, ?_, h3⟩
    rw [builtin_run hop]
    have hargs : (args.map a.eval).toList = v0 :: vs := by rw [Array.toList_map]; exact hvs
    cases mx
    · simp only [Bool.false_eq_true, if_false, builtin]
      refine run_v ?_
      simp only [Builtin.min_, hargs]
      exact h2
    · simp only [if_true, builtin]
      refine run_v ?_
      simp only [Builtin.max_, hargs]
      exact h2
  · cases ha

theorem extK_name {n : String} {k : Nat} (h : extK n = some k) : n = extName k ∧ (k = 0 ∨ k = 1 ∨ k = 2) := by
  unfold extK at h
  split at h
  · rename_i e
    simp only [Option.some.injEq] at h
    subst h
    exact ⟨eq_of_beq e, .inl rfl⟩
  · split at h
    · rename_i e
      simp only [Option.some.injEq] at h
      subst h
      exact ⟨eq_of_beq e, .inr (.inl rfl)⟩
    · split at h
      · rename_i e
        simp only [Option.some.injEq] at h
        subst h
        exact ⟨eq_of_beq e, .inr (.inr rfl)⟩
      · cases h
theorem look1 : ∀ k, k = 0 ∨ k = 1 ∨ k = 2 → Extern.allGenericRows.lookup (extName k) = none := by rintro k (rfl | rfl | rfl) <;> kernel_rfl
theorem look2 : ∀ k, k = 0 ∨ k = 1 ∨ k = 2 → Extern.allTypedRows.lookup (extName k) = none := by rintro k (rfl | rfl | rfl) <;> kernel_rfl
theorem look30 : Extern.allRows.lookup (extName 0) = some Extern.BytealgCompare.compare := by kernel_rfl
theorem look31 : Extern.allRows.lookup (extName 1) = some Extern.BytealgIndexByte.indexByte := by kernel_rfl
theorem look32 : Extern.allRows.lookup (extName 2) = some Extern.BytealgCount.count := by kernel_rfl
theorem find_ext {fn : Func} {k : Nat} (hk : k = 0 ∨ k = 1 ∨ k = 2) (h : fn.name = extName k) : Extern.find fn = Extern.allRows.lookup (extName k) := by
  simp only [Extern.find, h, look1 k hk, look2 k hk, Option.map_none]
  rcases hk with rfl | rfl | rfl
  · rw [look30]; rfl
  · rw [look31]; rfl
  · rw [look32]; rfl
theorem idxFrom_eq (c : UInt8) : ∀ (l : List UInt8) (i : Nat), idxFrom c i l = if Lib.indexByte l c == -1 then -1 else Lib.indexByte l c + i
  | [], i => rfl
  | b :: l, i => by
    simp only [idxFrom, Lib.indexByte]
    by_cases hb : (b == c) = true
    · simp [hb]
    · simp only [if_neg hb]
      rw [idxFrom_eq c l (i + 1)]
      have := Lib.indexByte_ge l c
      by_cases h : Lib.indexByte l c = -1
      · simp [h]
      · have h1 : ¬ (Lib.indexByte l c == -1) = true := by simpa using h
        have h2 : ¬ (Lib.indexByte l c + 1 == -1) = true := by
          simp only [beq_iff_eq]; omega
        rw [if_neg h1, if_neg h1, if_neg h2]
        omega
theorem cmpL_eq : ∀ (x y : List UInt8), cmpL x y = Lib.compareBytes x y
  | [], [] => rfl
  | [], _ :: _ => rfl
  | _ :: _, [] => rfl
  | a :: x, b :: y => by simp only [cmpL, Lib.compareBytes, cmpL_eq x y]

theorem keep_ext {c : Call} {at_ : Option Nat} {v : AV} {h' : AHeap} (hop : o.op = .call c) {g : FuncId} (hc : c.callee = .value (.func g)) {fn : Func} (hf : P.funcs[g]? = some fn) (hb : fn.body = none)
    {k : Nat} (hn : extK fn.name = some k) (hnx : (Extern.findNext fn).isNone = true) {ys : List AX} (hy : trXs c.args.toList = some ys) {x y : AX} (hxy : ys = [x, y])
    (hT : TR P tm (cx m h w) a) (ha : aop (.ext k x y) tm h at_ = some (v, h')) : h' = h ∧ Keeps P o a w m h v := by
  subst hxy
  have hv := trXs_ok hy hT
  obtain ⟨callee, args, ts⟩ := c
  simp only at hc hy hv
  subst hc
  obtain ⟨hname, hk⟩ := extK_name hn
  simp only [List.map_cons, List.map_nil, VRl] at hv
  obtain ⟨v1, r1, hv, hv1, v2, r2, rfl, hv2, rfl⟩ := hv
  simp only [aop] at ha
  obtain ⟨hx, rfl⟩ := noH_some ha
  have e0 : (fn.name == "runtime.NumGoroutine") = false := by rw [hname]; rcases hk with rfl | rfl | rfl <;> decide
  have e1 : Extern.findNext fn = none := by simpa using hnx
  have hargs : args.map a.eval = #[v1, v2] := by
    apply Array.ext'
    rw [Array.toList_map]; exact hv
  have hrun : ∀ (f : Array Value → Sem Value) (r : Value), Extern.allRows.lookup (extName k) = some f → (f #[v1, v2]).run P w = .ok r w → (execOp a.eval o).run P w = .ok (.value r) w := by
    intro f r hl hr
    simp only [execOp, hop, resolve, Deferred.ofValue, Act.eval, pure_bind, invoke, callFunc, Sem.run_bind, run_program, Result.andThen_ok, hf]
    simp only [e0, hb, e1, Option.isNone_none, Bool.false_eq_true, if_false, if_true, Sem.run_bind, run_mark, Result.andThen_ok, find_ext hk hname, hl]
    have hargs' : #[] ++ Array.map a.eval args ++ #[] = #[v1, v2] := by rw [hargs]; rfl
    rw [hargs']
    simp [hr]
  unfold extA at hx
  split at hx
  · rename_i s1 s2 h1 h2
    simp only [Option.some.injEq] at hx
    subst hx
    rw [h1] at hv1
    rw [h2] at hv2
    simp only [VR] at hv1 hv2
    subst hv1 hv2
    exact ⟨rfl, _, hrun _ _ look30 (Lib.run_compareString _ _ w), by rw [cmpL_eq]; exact vr_int⟩
  · rename_i s1 q h1 h2
    simp only [Option.some.injEq] at hx
    subst hx
    rw [h1] at hv1
    rw [h2] at hv2
    simp only [VR] at hv1 hv2
    subst hv1 hv2
    refine ⟨rfl, _, hrun _ _ look31 (Lib.run_indexByteString _ _ w), ?_⟩
    rw [idxFrom_eq]
    have : (if (Lib.indexByte s1 q.toNat.toUInt8 == -1) = true then -1 else Lib.indexByte s1 q.toNat.toUInt8 + ((0 : Nat) : Int)) = Lib.indexByte s1 q.toNat.toUInt8 := by
      split
      · rename_i e; exact (eq_of_beq e).symm
      · simp
    rw [this]; exact vr_int
  · rename_i s1 q h1 h2
    simp only [Option.some.injEq] at hx
    subst hx
    rw [h1] at hv1
    rw [h2] at hv2
    simp only [VR] at hv1 hv2
    subst hv1 hv2
    exact ⟨rfl, _, hrun _ _ look32 (Lib.run_countString _ _ w), vr_int⟩
  · cases hx

end
end Go.Eng

namespace Go.Eng

section
variable {P : Program} {o : Oper} {a : Act} {w : World} {m : Gh} {h : AHeap} {tm : Tr}

theorem keep_mov {x : Operand} (hop : o.op = .move x ∨ o.op = .assign x) {y : AX} (hy : trX x = some y) {at_ : Option Nat} {v : AV} {h' : AHeap}
    (hT : TR P tm (cx m h w) a) (ha : aop (.mov y) tm h at_ = some (v, h')) : h' = h ∧ Keeps P o a w m h v := by
  simp only [aop, Option.some.injEq, Prod.mk.injEq] at ha
  obtain ⟨rfl, rfl⟩ := ha
  refine ⟨rfl, _, ?_, trX_ok hy hT⟩
  rcases hop with hop | hop <;> simp [execOp, hop]

theorem keep_build {t : TypeId} {parts : Array (Nat × Operand)} (hop : o.op = .build t parts) {fs : Array Field} (hu : P.underlying t = some (.struct fs)) {z : List AV} (hz : zeros? P t = some z)
    {ps : List (Nat × Nat × AX)} (hp : trParts P fs parts.toList = some ps) (hsz : ∀ f ∈ fs, ∃ s, sz? P f.type = some s) {at_ : Option Nat} {v : AV} {h' : AHeap}
    (hT : TR P tm (cx m h w) a) (ha : aop (.build z ps) tm h at_ = some (v, h')) : h' = h ∧ Keeps P o a w m h v := by
  simp only [aop] at ha
  split at ha
  · rename_i cs hcs
    simp only [Option.some.injEq, Prod.mk.injEq] at ha
    obtain ⟨rfl, rfl⟩ := ha
    obtain ⟨vz, hz1, hz2⟩ := zeros_ok hz (cx m h w) w
    have hplaces : (fs.mapM fun f => (do pure (f.offset, ← sizeOf f.type) : Sem (Nat × Nat))).run P w = .ok (fs.map fun f => (f.offset, P.cellsOf f.type)) w := by
      rw [Array.mapM_eq_mapM_toList]
      simp only [Sem.run_map]
      rw [run_mapM _ (fun f => (f.offset, P.cellsOf f.type)) w fs.toList (fun f hf => by
        obtain ⟨s, hs⟩ := hsz f (by simpa using hf)
        simp [run_sizeOf hs, cellsOf_of hs])]
      simp only [Result.andThen_ok]
      congr 1
      apply Array.ext'
      simp
    obtain ⟨arr', h1, h2⟩ := build_ok (P := P) (c := cx m h w) hT hp hcs hz2 (fun i => (fs.map fun f => (f.offset, P.cellsOf f.type))[i]?) (fun i f s hf hs => by simp [hf, cellsOf_of hs])
    refine ⟨rfl, .agg arr', ?_, by simp only [VR]; exact ⟨arr'.toList, rfl, h2⟩⟩
    have hb : (Instr.build t (parts.map fun x => (x.1, a.eval x.2))).run P w = .ok (.agg arr') w := by
      simp only [Instr.build, Sem.run_bind, hz1, Result.andThen_ok, run_underlying hu]
      have hpl : (fs.mapM fun f => (do let a ← sizeOf f.type; pure (f.offset, a) : Sem (Nat × Nat))).run P w = .ok (fs.map fun f => (f.offset, P.cellsOf f.type)) w := hplaces
      rw [hpl]
      simp only [Result.andThen_ok]
      have h1' : Instr.fill (fun x => (fs.map fun f => (f.offset, P.cellsOf f.type))[x]?) vz.cells (parts.map fun x => (x.1, a.eval x.2)).toList = some arr' := by
        rw [Array.toList_map]; exact h1
      simp only [h1']
      rfl
    simp only [execOp, hop]
    exact run_v hb
  · cases ha

theorem keep_load {t : TypeId} {x : Operand} (hop : o.op = .load t x) {b : Bool} {s : Nat} (h1 : isagg? P t = some b) (h2 : sz? P t = some s) {y : AX} (hy : trX x = some y) {at_ : Option Nat} {v : AV} {h' : AHeap}
    (hT : TR P tm (cx m h w) a) (hH : HR P m h w) (ha : aop (.load b s y) tm h at_ = some (v, h')) : h' = h ∧ Keeps P o a w m h v := by
  simp only [aop] at ha
  split at ha
  · rename_i cs hcs
    obtain ⟨hl, rfl⟩ := noH_some ha
    obtain ⟨bb, base, hv, hm⟩ := cellsAt_ok hH hcs (trX_ok hy hT)
    obtain ⟨cv, h3, h4⟩ := load_ok h1 h2 hm hl
    refine ⟨rfl, cv, ?_, h4⟩
    simp only [execOp, hop]
    refine run_v ?_
    simp only [Instr.loadAt, hv, Instr.sureAddr, pure_bind]
    exact h3
  · cases ha

theorem keep_bin {op : BinOp} {t t2 : TypeId} {x y : Operand} (hop : o.op = .binOp op t x y t2) {x' y' : AX} (hx : trX x = some x') (hy : trX y = some y') {at_ : Option Nat} {v : AV} {h' : AHeap}
    (hT : TR P tm (cx m h w) a) (ha : aop (.bin op (tkFor P op t) x' y') tm h at_ = some (v, h')) : h' = h ∧ Keeps P o a w m h v := by
  simp only [aop] at ha
  obtain ⟨hb, rfl⟩ := noH_some ha
  obtain ⟨cv, h1, h2⟩ := bin_ok hb (trX_ok hx hT) (trX_ok hy hT) x y w
  exact ⟨rfl, cv, by simp only [execOp, hop]; exact run_v h1, h2⟩

theorem keep_un {op : UnOp} {t : TypeId} {x : Operand} (hop : o.op = .unOp op t x) {x' : AX} (hx : trX x = some x') {at_ : Option Nat} {v : AV} {h' : AHeap}
    (hT : TR P tm (cx m h w) a) (ha : aop (.un op x') tm h at_ = some (v, h')) : h' = h ∧ Keeps P o a w m h v := by
  simp only [aop] at ha
  obtain ⟨hb, rfl⟩ := noH_some ha
  obtain ⟨cv, h1, h2⟩ := un_ok hb (trX_ok hx hT) w
  exact ⟨rfl, cv, by simp only [execOp, hop]; exact run_v h1, h2⟩

theorem keep_convI {src dst : TypeId} {x : Operand} (hop : o.op = .convert src dst x) {k0 k : IntKind} (hs : P.underlying src = some (.int k0)) (hd : P.underlying dst = some (.int k)) {y : AX} (hy : trX x = some y)
    {at_ : Option Nat} {v : AV} {h' : AHeap} (hT : TR P tm (cx m h w) a) (ha : aop (.convI k y) tm h at_ = some (v, h')) : h' = h ∧ Keeps P o a w m h v := by
  have hv := trX_ok hy hT
  simp only [aop] at ha
  split at ha
  · rename_i k1 n he
    simp only [Option.some.injEq, Prod.mk.injEq] at ha
    obtain ⟨rfl, rfl⟩ := ha
    rw [he] at hv
    simp only [VR] at hv
    refine ⟨rfl, _, ?_, vr_int⟩
    simp only [execOp, hop]
    refine run_v ?_
    rw [hv]
    simp only [convert, Sem.run_bind, run_underlying hs, run_underlying hd, Result.andThen_ok]
    rfl
  · cases ha

theorem keep_convS {src dst : TypeId} {x : Operand} (hop : o.op = .convert src dst x) (hs : P.underlying src = some .string) (hd : P.underlying dst = some .string) {y : AX} (hy : trX x = some y)
    {at_ : Option Nat} {v : AV} {h' : AHeap} (hT : TR P tm (cx m h w) a) (ha : aop (.convS y) tm h at_ = some (v, h')) : h' = h ∧ Keeps P o a w m h v := by
  have hv := trX_ok hy hT
  simp only [aop] at ha
  split at ha
  · rename_i s he
    simp only [Option.some.injEq, Prod.mk.injEq] at ha
    obtain ⟨rfl, rfl⟩ := ha
    rw [he] at hv
    simp only [VR] at hv
    refine ⟨rfl, _, ?_, vr_str⟩
    simp only [execOp, hop]
    refine run_v ?_
    rw [hv]
    simp only [convert, Sem.run_bind, run_underlying hs, run_underlying hd, Result.andThen_ok]
    rfl
  · cases ha

theorem keep_convBS {src dst e : TypeId} {x : Operand} (hop : o.op = .convert src dst x) (hs : P.underlying src = some (.slice e)) (he : P.underlying e = some (.int .u8)) (hd : P.underlying dst = some .string) {y : AX}
    (hy : trX x = some y) {at_ : Option Nat} {v : AV} {h' : AHeap} (hT : TR P tm (cx m h w) a) (hH : HR P m h w) (ha : aop (.convBS y) tm h at_ = some (v, h')) : h' = h ∧ Keeps P o a w m h v := by
  have hv := trX_ok hy hT
  simp only [aop] at ha
  split at ha
  · rename_i n cs hsq
    obtain ⟨vs, h1, h2, h3, h4, _, h5, _⟩ := seq_ok hH hsq hv
    split at ha
    · cases ha
    · rename_i s hb hns
      simp only [Option.some.injEq, Prod.mk.injEq] at ha
      obtain ⟨rfl, rfl⟩ := ha
      obtain ⟨ns, rfl, rfl⟩ := bytesA_ok h1 hb
      refine ⟨rfl, _, ?_, vr_str⟩
      simp only [execOp, hop]
      refine run_v ?_
      rcases h5 with ⟨s', h5⟩ | ⟨p, cap, h5, h6⟩
      · exfalso
        rw [h5] at hv
        cases hy' : y.ev tm <;> rw [hy'] at hv hsq <;> simp only [seqOf, reduceCtorEq] at hsq
        case nils => simp [VR] at hv
        case slc => simp only [VR] at hv; obtain ⟨_, _, _, hv, _⟩ := hv; cases hv
        case isl => simp only [VR] at hv; obtain ⟨_, _, hv, _⟩ := hv; cases hv
        case str s0 => exact hns s0 hy'
      · rw [h5] at h4 ⊢
        rw [run_convert_bytes_string w src dst e p n cap hs he hd]
        cases p with
        | none =>
          have hl := h6 rfl
          simp only [Nat.mul_one] at hl
          subst hl
          have : ns = [] := by
            have := h1.length
            rw [h2] at this
            simpa using this
          subst this
          rfl
        | some adr =>
          simp only [Builtin.firstCells, Nat.mul_one] at h4
          rw [run_bytesToString w adr n cap ns (by rw [h4])]
          have := push_fold ns []
          simp only [List.nil_append] at this
          congr 2
    · cases ha
  · cases ha

theorem keep_mkiface {t : TypeId} {x : Operand} (hop : o.op = .makeInterface t x) {d : TypeDesc} (hu : P.underlying t = some d) (hd : ∀ ms, d ≠ .interface ms) {y : AX} (hy : trX x = some y) {at_ : Option Nat} {v : AV} {h' : AHeap}
    (hT : TR P tm (cx m h w) a) (ha : aop (.mkiface t y) tm h at_ = some (v, h')) : h' = h ∧ Keeps P o a w m h v := by
  have hv := trX_ok hy hT
  simp only [aop] at ha
  split at ha
  · cases ha
  · simp only [Option.some.injEq, Prod.mk.injEq] at ha
    obtain ⟨rfl, rfl⟩ := ha
    refine ⟨rfl, .iface t (a.eval x), ?_, by simp only [VR]; exact ⟨_, rfl, hv⟩⟩
    simp only [execOp, hop]
    refine run_v ?_
    simp only [Instr.makeInterface, Sem.run_bind, run_underlying hu, Result.andThen_ok]
    cases d <;> first | (exact absurd rfl (hd _)) | rfl

theorem keep_mkfn {f : Fn} {first captured : Array Operand} (hop : o.op = .makeFunc f first captured) {fs cs : List AX} (hf : trXs first.toList = some fs) (hc : trXs captured.toList = some cs) {at_ : Option Nat} {v : AV}
    {h' : AHeap} (hT : TR P tm (cx m h w) a) (ha : aop (.mkfn f fs cs) tm h at_ = some (v, h')) : h' = h ∧ Keeps P o a w m h v := by
  simp only [aop, Option.some.injEq, Prod.mk.injEq] at ha
  obtain ⟨rfl, rfl⟩ := ha
  refine ⟨rfl, .func f (first.map a.eval) (captured.map a.eval), ?_, ?_⟩
  · simp only [execOp, hop]
    exact run_v rfl
  · simp only [VR]
    refine ⟨(first.map a.eval).toList, (captured.map a.eval).toList, rfl, ?_, ?_⟩
    · rw [Array.toList_map]; exact trXs_ok hf hT
    · rw [Array.toList_map]; exact trXs_ok hc hT

theorem trO_ok {x : Option Operand} {y : Option AX} (hy : trO x = some y) (hT : TR P tm (cx m h w) a) : OV P (cx m h w) (y.map (AX.ev tm)) (x.map a.eval) := by
  cases x with
  | none => simp only [trO, Option.some.injEq] at hy; subst hy; rfl
  | some x =>
    simp only [trO, Option.map_eq_some_iff] at hy
    obtain ⟨z, hz, rfl⟩ := hy
    exact ⟨_, rfl, trX_ok hz hT⟩

theorem keep_slice {t : TypeId} {x : Operand} {lo hi mx : Option Operand} (hop : o.op = .slice t x lo hi mx) {y : AX} {lo' hi' mx' : Option AX} (hy : trX x = some y) (h1 : trO lo = some lo') (h2 : trO hi = some hi')
    (h3 : trO mx = some mx') {sk : TK} {es : Nat} (hk : (sk = .str ∧ es = 1 ∧ P.underlying t = some .string) ∨ (sk = .slice ∧ ∃ el, P.underlying t = some (.slice el) ∧ sz? P el = some es)) {at_ : Option Nat} {v : AV}
    {h' : AHeap} (hT : TR P tm (cx m h w) a) (hH : HR P m h w) (ha : aop (.slice sk es y lo' hi' mx') tm h at_ = some (v, h')) : h' = h ∧ Keeps P o a w m h v := by
  simp only [aop] at ha
  obtain ⟨hs, rfl⟩ := noH_some ha
  rcases hk with ⟨rfl, rfl, hu⟩ | ⟨rfl, el, hu, hes⟩
  · obtain ⟨cv, h4, h5⟩ := slice_str_ok hu hs (trX_ok hy hT) (trO_ok h1 hT) (trO_ok h2 hT) (trO_ok h3 hT)
    exact ⟨rfl, cv, by simp only [execOp, hop]; exact run_v h4, h5⟩
  · obtain ⟨cv, h4, h5⟩ := slice_sl_ok hH hu hes hs (trX_ok hy hT) (trO_ok h1 hT) (trO_ok h2 hT) (trO_ok h3 hT)
    exact ⟨rfl, cv, by simp only [execOp, hop]; exact run_v h4, h5⟩

theorem keep_addOff {s : TypeId} {x : Operand} {i : Nat} (hop : o.op = .fieldAddr s x i) {fs : Array Field} (hu : P.underlying s = some (.struct fs)) {f : Field} (hf : fs[i]? = some f) {n : Nat} (hn : sz? P f.type = some n) (hn0 : n ≠ 0)
    {y : AX} (hy : trX x = some y) {at_ : Option Nat} {v : AV} {h' : AHeap} (hT : TR P tm (cx m h w) a) (ha : aop (.addOff f.offset y) tm h at_ = some (v, h')) : h' = h ∧ Keeps P o a w m h v := by
  have hv := trX_ok hy hT
  have hrun : ∀ b off, a.eval x = .pointer (some ⟨b, off, none⟩) → (execOp a.eval o).run P w = .ok (.value (.pointer (some ⟨b, off + f.offset, none⟩))) w := fun b off he => by
    simp only [execOp, hop]
    refine run_v ?_
    simp only [Instr.fieldAt, Sem.run_bind, run_underlying hu, Result.andThen_ok, hf, he, Instr.sureAddr, Sem.run_pure, fieldPlace, run_sizeOf hn, if_neg hn0, addr_add]
  simp only [aop] at ha
  split at ha
  · rename_i ν off he
    simp only [Option.some.injEq, Prod.mk.injEq] at ha
    obtain ⟨rfl, rfl⟩ := ha
    rw [he] at hv
    simp only [VR] at hv
    refine ⟨rfl, _, hrun _ _ hv.2, ?_⟩
    simp only [VR]
    exact ⟨hv.1, by rw [Nat.add_assoc]⟩
  · rename_i cs he
    split at ha
    · simp only [Option.some.injEq, Prod.mk.injEq] at ha
      obtain ⟨rfl, rfl⟩ := ha
      rw [he] at hv
      simp only [VR] at hv
      obtain ⟨b, base, hv, hi, hm⟩ := hv
      refine ⟨rfl, _, hrun _ _ hv, ?_⟩
      simp only [VR]
      exact ⟨b, base + f.offset, rfl, hi, hm.drop _⟩
    · cases ha
  · cases ha

theorem keep_fld {t : TypeId} {x : Operand} {i : Nat} (hop : o.op = .field t x i) {fs : Array Field} (hu : P.underlying t = some (.struct fs)) {f : Field} (hf : fs[i]? = some f) {b : Bool} {n : Nat} (hb : isagg? P f.type = some b)
    (hn : sz? P f.type = some n) {y : AX} (hy : trX x = some y) {at_ : Option Nat} {v : AV} {h' : AHeap} (hT : TR P tm (cx m h w) a) (ha : aop (.fld b f.offset n y) tm h at_ = some (v, h')) : h' = h ∧ Keeps P o a w m h v := by
  have hv := trX_ok hy hT
  simp only [aop] at ha
  split at ha
  · rename_i cs he
    obtain ⟨hl, rfl⟩ := noH_some ha
    rw [he] at hv
    simp only [VR] at hv
    obtain ⟨cs', hv, hcs⟩ := hv
    obtain ⟨cv, h1, h2⟩ := run_part hb hn hcs f.offset hl w
    refine ⟨rfl, cv, ?_, h2⟩
    simp only [execOp, hop]
    refine run_v ?_
    simp only [Instr.field, Sem.run_bind, run_underlying hu, Result.andThen_ok, hf, hv, asAgg, Sem.run_pure]
    exact h1
  · cases ha

theorem keep_idxAddr {t el : TypeId} {x i : Operand} (hop : o.op = .indexAddr t x i) (hu : P.underlying t = some (.slice el)) {es : Nat} (hes : sz? P el = some es) {y j : AX} (hy : trX x = some y) (hj : trX i = some j)
    {at_ : Option Nat} {v : AV} {h' : AHeap} (hT : TR P tm (cx m h w) a) (ha : aop (.idxAddr none es y j) tm h at_ = some (v, h')) : h' = h ∧ Keeps P o a w m h v := by
  have hv := trX_ok hy hT
  have hi := trX_ok hj hT
  simp only [aop] at ha
  obtain ⟨hs, rfl⟩ := noH_some ha
  have hrun : ∀ b off n cap k q, a.eval x = .slice (some ⟨b, off, none⟩) n cap → a.eval i = .int k q → 0 ≤ q → q < n →
      (execOp a.eval o).run P w = .ok (.value (.pointer (some ⟨b, off + q.toNat * es, none⟩))) w := fun b off n cap k q he hq h0 h1 => by
    simp only [execOp, hop]
    refine run_v ?_
    simp only [Instr.indexAt, he, hq, asIntOf, Sem.run_bind, Sem.run_pure, run_underlying hu, Result.andThen_ok]
    rw [if_pos ⟨h0, h1⟩]
    simp [run_sizeOf hes, addr_add]
  unfold idxAddrA at hs
  split at hs
  · rename_i cells n cp k q he hq
    split at hs
    · rename_i hb
      simp only [Option.some.injEq] at hs
      subst hs
      rw [he] at hv
      rw [hq] at hi
      simp only [VR] at hv hi
      obtain ⟨p, cap, hv, _, _, hn⟩ := hv
      obtain ⟨b, base, rfl, him, hm⟩ := hn (by omega)
      refine ⟨rfl, _, hrun _ _ _ _ _ _ hv hi hb.1 hb.2, ?_⟩
      simp only [VR]
      exact ⟨b, base + q.toNat * es, rfl, him, hm.drop _⟩
    · cases hs
  · rename_i ν off n cp k q he hq
    split at hs
    · rename_i hb
      simp only [Option.some.injEq] at hs
      subst hs
      rw [he] at hv
      rw [hq] at hi
      simp only [VR] at hv hi
      obtain ⟨hk, _, cap, hv, _⟩ := hv
      refine ⟨rfl, _, hrun _ _ _ _ _ _ hv hi hb.1 hb.2, ?_⟩
      simp only [VR]
      exact ⟨hk, by simp only [Nat.add_assoc]⟩
    · cases hs
  · cases hs

theorem keep_idxStr {t : TypeId} {x i : Operand} (hop : o.op = .index t x i) (hu : P.underlying t = some .string) {y j : AX} (hy : trX x = some y) (hj : trX i = some j)
    {at_ : Option Nat} {v : AV} {h' : AHeap} (hT : TR P tm (cx m h w) a) (ha : aop (.idxStr y j) tm h at_ = some (v, h')) : h' = h ∧ Keeps P o a w m h v := by
  have hv := trX_ok hy hT
  have hi := trX_ok hj hT
  simp only [aop] at ha
  split at ha
  · rename_i s k q he hq
    split at ha
    · rename_i h0
      split at ha
      · rename_i b hb
        simp only [Option.some.injEq, Prod.mk.injEq] at ha
        obtain ⟨rfl, rfl⟩ := ha
        rw [he] at hv
        rw [hq] at hi
        simp only [VR] at hv hi
        refine ⟨rfl, _, ?_, vr_int⟩
        simp only [execOp, hop]
        refine run_v ?_
        simp only [Instr.index, hv, hi, asIntOf, Sem.run_bind, Sem.run_pure, run_underlying hu, Result.andThen_ok, if_pos h0, option_bytes, hb]
      · cases ha
    · cases ha
  · cases ha

theorem keep_lookup {t kt el : TypeId} {x k : Operand} {ok : Bool} (hop : o.op = .lookup t x k ok) (hu : P.underlying t = some (.map kt el)) {zero : AV} (hz : zero? P el = some zero) {y j : AX} (hy : trX x = some y) (hj : trX k = some j)
    {at_ : Option Nat} {v : AV} {h' : AHeap} (hT : TR P tm (cx m h w) a) (hH : HR P m h w) (ha : aop (.lookup (tkOf P kt) zero ok y j) tm h at_ = some (v, h')) : h' = h ∧ Keeps P o a w m h v := by
  simp only [aop] at ha
  obtain ⟨hs, rfl⟩ := noH_some ha
  obtain ⟨cv, h1, h2⟩ := lookup_ok hH hu hz hs (trX_ok hy hT) (trX_ok hj hT)
  exact ⟨rfl, cv, by simp only [execOp, hop]; exact run_v h1, h2⟩

theorem keep_extract {x : Operand} {i : Nat} (hop : o.op = .extract x i) {y : AX} (hy : trX x = some y) {at_ : Option Nat} {v : AV} {h' : AHeap}
    (hT : TR P tm (cx m h w) a) (ha : aop (.extract y i) tm h at_ = some (v, h')) : h' = h ∧ Keeps P o a w m h v := by
  have hv := trX_ok hy hT
  simp only [aop] at ha
  split at ha
  · rename_i vs he
    split at ha
    · rename_i u hu
      simp only [Option.some.injEq, Prod.mk.injEq] at ha
      obtain ⟨rfl, rfl⟩ := ha
      rw [he] at hv
      simp only [VR] at hv
      obtain ⟨cs, hv, hl⟩ := hv
      obtain ⟨cv, h1, h2⟩ := hl.get i hu
      refine ⟨rfl, cv, ?_, h2⟩
      simp only [execOp, hop]
      refine run_v ?_
      have h1' : (⟨cs⟩ : Array Value)[i]? = some cv := by simpa using h1
      simp only [Instr.extract, hv, h1', Sem.run_pure]
    · cases ha
  · cases ha

theorem MR.find {P : Program} {c : Ctx} {stamp : Nat} : ∀ {es : List (AV × AV × Nat)} {es' : List MapEntry} {e : AV × AV × Nat}, MR P es c es' → es.find? (fun e => Nat.beq e.2.2 stamp) = some e →
    ∃ e', es'.find? (fun e => e.born == stamp) = some e' ∧ VR P e.1 c e'.key ∧ VR P e.2.1 c e'.val
  | [], _, _, _, h => by simp at h
  | (k, v, n) :: es, _, e, hm, h => by
    simp only [MR] at hm
    obtain ⟨e', r', rfl, hk, hv, hn, hr⟩ := hm
    simp only [List.find?_cons] at h ⊢
    cases hb : Nat.beq n stamp with
    | true =>
      simp only [hb] at h
      simp only [Option.some.injEq] at h
      subst h
      have hb' : (e'.born == stamp) = true := by rw [hn]; exact beq_iff_eq.2 (beq_true.1 hb)
      rw [hb']
      exact ⟨e', rfl, hk, hv⟩
    | false =>
      simp only [hb] at h
      have hb' : (e'.born == stamp) = false := by rw [hn]; exact beq_eq_false_iff_ne.2 (beq_false.1 hb)
      rw [hb']
      exact MR.find hr h

theorem keep_entry {x : Operand} (hop : o.op = .entry x) {y : AX} (hy : trX x = some y) {at_ : Option Nat} {v : AV} {h' : AHeap}
    (hT : TR P tm (cx m h w) a) (hH : HR P m h w) (ha : aop (.entry y) tm h at_ = some (v, h')) : h' = h ∧ Keeps P o a w m h v := by
  have hv := trX_ok hy hT
  simp only [aop] at ha
  split at ha
  · rename_i ν he
    split at ha
    · rename_i μ since seen stepped hg
      split at ha
      · rename_i es clock stamp hg2 hlast
        split at ha
        · rename_i hclk
          subst hclk
          split at ha
          · rename_i e hfind
            simp only [Option.some.injEq, Prod.mk.injEq] at ha
            obtain ⟨rfl, rfl⟩ := ha
            rw [he] at hv
            simp only [VR] at hv
            obtain ⟨_, _, hb0, mo', h1, h2⟩ := hH.blk _ _ hg
            obtain ⟨hkμ, rfl⟩ := h2
            obtain ⟨es', h3, h4⟩ := map_at hH hg2
            obtain ⟨e', h5, h6, h7⟩ := h4.find hfind
            refine ⟨rfl, .tuple #[e'.key, e'.val], ?_, by simp only [VR, VRl]; exact ⟨[e'.key, e'.val], rfl, _, _, rfl, h6, _, _, rfl, h7, rfl⟩⟩
            simp only [execOp, hop]
            refine run_v ?_
            have hv' : a.eval x = .pointer (some ⟨(m ν).1, 0, none⟩) := by
              have : (m ν).2 = 0 := hb0
              rw [hv.2]; simp [cx, this]
            have h1' : w.heap[(m ν).1]? = some (.mapIter (some (m μ).1) since ⟨seen⟩ clock) := h1
            have hlast' : (⟨seen⟩ : Array Nat).back? = some stamp := by
              rw [Array.back?_eq_getElem?]; simpa [List.getLast?_eq_getElem?] using hlast
            have h5' : (⟨es'⟩ : Array MapEntry).find? (fun e => e.born == stamp) = some e' := by simpa using h5
            simp only [Instr.entry, hv', Sem.run_bind, run_getObj h1' (by simp), Result.andThen_ok, hlast', run_getObj h3 (by simp)]
            simp [h5']
          · cases ha
        · cases ha
      · cases ha
    · cases ha
  · cases ha

theorem keep_idxArr {t el : TypeId} {x i : Operand} {n : Nat} (hop : o.op = .indexAddr t x i) (hu : P.underlying t = some (.array n el)) {es : Nat} (hes : sz? P el = some es) {y j : AX} (hy : trX x = some y) (hj : trX i = some j)
    {at_ : Option Nat} {v : AV} {h' : AHeap} (hT : TR P tm (cx m h w) a) (ha : aop (.idxAddr (some n) es y j) tm h at_ = some (v, h')) : h' = h ∧ Keeps P o a w m h v := by
  have hv := trX_ok hy hT
  have hi := trX_ok hj hT
  simp only [aop] at ha
  obtain ⟨hs, rfl⟩ := noH_some ha
  have hrun : ∀ b off k q, a.eval x = .pointer (some ⟨b, off, none⟩) → a.eval i = .int k q → 0 ≤ q → q < n →
      (execOp a.eval o).run P w = .ok (.value (.pointer (some ⟨b, off + q.toNat * es, none⟩))) w := fun b off k q he hq h0 h1 => by
    simp only [execOp, hop]
    refine run_v ?_
    simp only [Instr.indexAt, he, hq, asIntOf, Sem.run_bind, Sem.run_pure, run_underlying hu, Result.andThen_ok, Instr.sureAddr]
    rw [if_pos ⟨h0, h1⟩]
    simp [run_sizeOf hes, addr_add]
  unfold idxArrA at hs
  split at hs
  · rename_i cells k q he hq
    split at hs
    · rename_i hb
      simp only [Option.some.injEq] at hs
      subst hs
      rw [he] at hv
      rw [hq] at hi
      simp only [VR] at hv hi
      obtain ⟨b, base, hv, him, hm⟩ := hv
      refine ⟨rfl, _, hrun _ _ _ _ hv hi hb.1 hb.2.1, ?_⟩
      simp only [VR]
      exact ⟨b, base + q.toNat * es, rfl, him, hm.drop _⟩
    · cases hs
  · rename_i ν off k q he hq
    split at hs
    · rename_i hb
      simp only [Option.some.injEq] at hs
      subst hs
      rw [he] at hv
      rw [hq] at hi
      simp only [VR] at hv hi
      obtain ⟨hk, hv⟩ := hv
      refine ⟨rfl, _, hrun _ _ _ _ hv hi hb.1 hb.2, ?_⟩
      simp only [VR]
      exact ⟨hk, by simp only [Nat.add_assoc]⟩
    · cases hs
  · cases hs

theorem keep_idxAgg {t el : TypeId} {x i : Operand} {n : Nat} (hop : o.op = .index t x i) (hu : P.underlying t = some (.array n el)) {b : Bool} (hb : isagg? P el = some b) {es : Nat} (hes : sz? P el = some es)
    {y j : AX} (hy : trX x = some y) (hj : trX i = some j) {at_ : Option Nat} {v : AV} {h' : AHeap} (hT : TR P tm (cx m h w) a) (ha : aop (.idxAgg b n es y j) tm h at_ = some (v, h')) : h' = h ∧ Keeps P o a w m h v := by
  have hv := trX_ok hy hT
  have hi := trX_ok hj hT
  simp only [aop] at ha
  split at ha
  · rename_i cs k q he hq
    split at ha
    · rename_i hlt
      obtain ⟨hl, rfl⟩ := noH_some ha
      rw [he] at hv
      rw [hq] at hi
      simp only [VR] at hv hi
      obtain ⟨cs', hv, hcs⟩ := hv
      obtain ⟨cv, h1, h2⟩ := run_part hb hes hcs (q.toNat * es) hl w
      refine ⟨rfl, cv, ?_, h2⟩
      simp only [execOp, hop]
      refine run_v ?_
      simp only [Instr.index, hv, hi, asIntOf, Sem.run_bind, Sem.run_pure, run_underlying hu, Result.andThen_ok]
      rw [if_pos hlt]
      simp only [Sem.run_bind, run_sizeOf hes, Result.andThen_ok]
      exact h1
    · cases ha
  · cases ha

end
end Go.Eng

namespace Go.Eng

section
variable {P : Program} {o : Oper} {a : Act} {w : World} {m : Gh} {h : AHeap} {tm : Tr}

theorem row_ok (hH : HR P m h w) {cs : List AV} {vs : List Value} (hv : VRl P cs (cx m h w) vs) {k : VK} (hk : P.cellsOf k.el = k.es) (hp : k.pur = true → VRl P cs (cx m h w).bare vs) {arr : Array Value}
    (harr : ∀ (j : Nat) (v : Value), vs[j]? = some v → arr[j]? = some v) (hlen : cs.length ≤ arr.size) {fz : Nat × Nat} (hfz : ∀ i, i < arr.size → ¬ (fz.1 ≤ i ∧ i < fz.2)) {at_ : Option Nat} {ν : Nat} {h' : AHeap}
    (ha : h.alloc at_ (.vec cs k) = some (ν, h')) {w' : World} (hw : w'.heap = w.heap.push (.cells arr k.el fz)) (os : w'.os = w.os) (tape : w'.tape = w.tape) (output : w'.output = w.output) :
    ∃ m', Fr m h w m' h' w' ∧ HR P m' h' w' ∧ Kn m' h' ν ∧ m' ν = (w.heap.size, 0) ∧ w.heap.size < w'.heap.size ∧ w'.shape? w.heap.size = some (k.el, arr.size) := by
  have hget : w'.heap[w.heap.size]? = some (.cells arr k.el fz) := by rw [hw]; simp
  obtain ⟨h1, h2, h3⟩ := alloc_ok hH ha hw os tape output (fun hl => by
    refine ⟨arr, fz, hget, ?_, by omega, fun i _ hi => hfz i hi, hk⟩
    have hv' : VRl P cs ((cx (upd m ν (w.heap.size, 0)) h' w').of k.pur) vs := by
      cases hpur : k.pur with
      | false => exact VRl.mono cs hl hv
      | true => exact VRl.mono cs hl.bare (hp hpur)
    refine VRm.of_vals hv' fun j v hj => ?_
    rw [Ctx.of_w]
    have := harr j v hj
    simp only [cx, World.cell?, hget, Nat.zero_add]
    simpa using this)
  refine ⟨_, h1, h2, h3, upd_same _ _ _, ?_, ?_⟩
  · rw [hw]; simp
  · simp [World.shape?, hget]

theorem mk_some {at_ : Option Nat} {b : ABlk} {f : Nat → AV} {v : AV} {h' : AHeap} (hm : mk h at_ b f = some (v, h')) : ∃ ν, h.alloc at_ b = some (ν, h') ∧ v = f ν := by
  unfold mk at hm
  split at hm
  · rename_i ν h1 he
    simp only [Option.some.injEq, Prod.mk.injEq] at hm
    obtain ⟨rfl, rfl⟩ := hm
    exact ⟨ν, he, rfl⟩
  · cases hm

theorem vr_ptr {m' : Gh} {h' : AHeap} {w' : World} {ν b : Nat} (hk : Kn m' h' ν) (hm : m' ν = (b, 0)) : VR P (.ptr ν 0) (cx m' h' w') (.pointer (some ⟨b, 0, none⟩)) := by
  simp only [VR, cx]
  exact ⟨hk, by rw [hm]⟩

theorem op_row (hH : HR P m h w) {cs : List AV} {vs : List Value} (hv : VRl P cs (cx m h w) vs) {k : VK} (hk : P.cellsOf k.el = k.es) (hp : k.pur = true → noNamesL cs = true) {arr : Array Value}
    (harr : arr.toList = vs) {at_ : Option Nat} {v : AV} {h' : AHeap}
    (ha : mk h at_ (.vec cs k) (fun ν => .ptr ν 0) = some (v, h'))
    (hr : (execOp a.eval o).run P w = .ok (.value (.pointer (some ⟨w.heap.size, 0, none⟩))) { w with heap := w.heap.push (.cells arr k.el) }) : OpOk P o a w m h v h' := by
  obtain ⟨ν, hal, rfl⟩ := mk_some ha
  obtain ⟨m', h1, h2, h3, h4, _, _⟩ := row_ok hH hv hk (fun e => VRl.bare cs (hp e) hv) (arr := arr) (fun j v hj => by rw [← harr] at hj; simpa using hj) (by rw [← hv.length, ← harr, Array.length_toList]; exact Nat.le_refl _)
    (fz := (0, 0)) (fun i _ h => by omega) hal (w' := { w with heap := w.heap.push (.cells arr k.el) }) rfl rfl rfl rfl
  exact OpOk.val hr (vr_ptr h3 h4) h1 h2

theorem op_new {el : TypeId} (hop : o.op = .alloc el) {z : List AV} {es : Nat} (hz : zeros? P el = some z) (hs : sz? P el = some es) (hl : z.length = es) {at_ : Option Nat} {v : AV} {h' : AHeap}
    (hH : HR P m h w) (ha : aop (.new z el) tm h at_ = some (v, h')) : OpOk P o a w m h v h' := by
  obtain ⟨vz, hz1, hz2⟩ := zeros_ok hz (cx m h w) w
  simp only [aop] at ha
  refine op_row hH hz2 (k := ⟨el, z.length, false, noNamesL z⟩) (by rw [hl]; exact cellsOf_of hs) (fun h => h) rfl ha ?_
  simp only [execOp, hop]
  simp [Instr.alloc, hz1, newVar, newRow]

theorem op_box {el : TypeId} {x : Operand} (hop : o.op = .box el x) {y : AX} (hy : trX x = some y) {es : Nat} (hs : sz? P el = some es) {at_ : Option Nat} {v : AV} {h' : AHeap}
    (hT : TR P tm (cx m h w) a) (hH : HR P m h w) (ha : aop (.box y el es) tm h at_ = some (v, h')) : OpOk P o a w m h v h' := by
  simp only [aop] at ha
  split at ha
  · rename_i cs hcs
    split at ha
    · refine op_row hH (cells_ok hcs (trX_ok hy hT)) (k := ⟨el, es, false, noNamesL cs⟩) (cellsOf_of hs) (fun h => h) rfl ha ?_
      simp only [execOp, hop]
      simp [Instr.box, newVar, newRow]
    · cases ha
  · cases ha

theorem repeatL_len (z : List AV) : ∀ n, (repeatL z n).length = n * z.length
  | 0 => by simp [repeatL]
  | n + 1 => by simp [repeatL, repeatL_len z n, Nat.add_mul, Nat.add_comm]
theorem noNamesL_append : ∀ (x y : List AV), noNamesL (x ++ y) = (noNamesL x && noNamesL y)
  | [], _ => by simp [noNamesL]
  | v :: x, y => by simp [noNamesL, noNamesL_append x y, Bool.and_assoc]
theorem noNamesL_repeat {z : List AV} (hz : noNamesL z = true) : ∀ n, noNamesL (repeatL z n) = true
  | 0 => rfl
  | n + 1 => by simp [repeatL, noNamesL_append, hz, noNamesL_repeat hz n]
theorem VRl.repeat {c : Ctx} {z : List AV} {vz : List Value} (hz : VRl P z c vz) : ∀ n, VRl P (repeatL z n) c ((List.range (n * vz.length)).map fun i => vz[i % vz.length]!)
  | 0 => by simp [repeatL, VRl]
  | n + 1 => by
    simp only [repeatL]
    have e : ((List.range ((n + 1) * vz.length)).map fun i => vz[i % vz.length]!) = vz ++ (List.range (n * vz.length)).map fun i => vz[i % vz.length]! := by
      rw [show (n + 1) * vz.length = vz.length + n * vz.length by rw [Nat.add_mul, Nat.one_mul, Nat.add_comm], List.range_add, List.map_append, List.map_map]
      congr 1
      · apply List.ext_getElem
        · simp
        · intro i h1 h2
          simp only [List.length_map, List.length_range] at h1
          simp only [List.getElem_map, List.getElem_range, Nat.mod_eq_of_lt h1]
          rw [getElem!_pos vz i h1]
      · apply List.map_congr_left
        intro i _
        simp only [Function.comp, Nat.add_mod_left]
    rw [e]
    exact hz.append (VRl.repeat hz n)

theorem zeroRow {zero : Array Value} (n : Nat) : ((Array.range n).map (fun i => zero[i % zero.size]!)).toList = (List.range n).map fun i => zero.toList[i % zero.toList.length]! := by
  simp only [Array.toList_map, Array.toList_range, Array.length_toList]
  apply List.map_congr_left
  intro i _
  rw [Array.getElem!_toList]

theorem buildS_ok {c : Ctx} {es : Nat} (hT : TR P tm c a) : ∀ {parts : List (Nat × Operand)} {ps : List (Nat × AX)} {z r : List AV} {arr : Array Value}, trPartsS parts = some ps →
    buildS tm es z ps = some r → VRl P z c arr.toList → ∃ arr', Instr.fill (fun i => some (i * es, es)) arr (parts.map fun x => (x.1, a.eval x.2)) = some arr' ∧ VRl P r c arr'.toList
  | [], ps, z, r, arr, hp, hb, hz => by
    simp only [trPartsS, Option.some.injEq] at hp
    subst hp
    simp only [buildS, Option.some.injEq] at hb
    subst hb
    exact ⟨arr, rfl, hz⟩
  | (i, x) :: parts, ps, z, r, arr, hp, hb, hz => by
    simp only [trPartsS] at hp
    split at hp
    · rename_i y ys hy hys
      simp only [Option.some.injEq] at hp
      subst hp
      simp only [buildS] at hb
      split at hb
      · rename_i cs hcs
        split at hb
        · rename_i hlen
          split at hb
          · rename_i z' hz'
            have hv := cells_ok hcs (trX_ok hy hT)
            obtain ⟨h1, h2, h3⟩ := fill_one hz' hz hv
            obtain ⟨arr', h4, h5⟩ := buildS_ok hT hys hb h3
            refine ⟨arr', ?_, h5⟩
            simp only [List.map_cons, Instr.fill]
            have hc : (decide ((a.eval x).cells.size ≠ es) || decide (i * es + (a.eval x).cells.size > arr.size)) = false := by
              simp; omega
            rw [if_neg (by simpa using hc)]
            exact h4
          · cases hb
        · cases hb
      · cases hb
    · cases hp

/-- a new slice: its value -/
theorem vr_slc {m' : Gh} {h' : AHeap} {w' : World} {ν b n cap : Nat} {cp : Cap} (hk : Kn m' h' ν) (hm : m' ν = (b, 0)) (hb : b < w'.heap.size) (hc : capOk cp n cap)
    (hany : cp = .any → ∀ el s, w'.shape? b = some (el, s) → cap * P.cellsOf el = s) : VR P (.slc ν 0 n cp) (cx m' h' w') (.slice (some ⟨b, 0, none⟩) n cap) := by
  simp only [VR, cx]
  rw [hm]
  exact ⟨hk, hb, cap, rfl, hc, fun hcp el s hs => by rw [← hany hcp el s hs]; simp⟩

theorem op_mkslice {t el : TypeId} {n : Nat} {parts : Array (Nat × Operand)} (hop : o.op = .buildSlice t n parts) (hu : P.underlying t = some (.slice el)) {es : Nat} (hes : sz? P el = some es) {z : List AV}
    (hz : zeros? P el = some z) (hzl : z.length = es) (hlim : n * es ≤ 16777216) {ps : List (Nat × AX)} (hps : trPartsS parts.toList = some ps) {at_ : Option Nat} {v : AV} {h' : AHeap}
    (hT : TR P tm (cx m h w) a) (hH : HR P m h w) (ha : aop (.mkslice n es el z ps) tm h at_ = some (v, h')) : OpOk P o a w m h v h' := by
  simp only [aop] at ha
  split at ha
  · rename_i cs hcs
    obtain ⟨ν, hal, rfl⟩ := mk_some ha
    obtain ⟨vz, hz1, hz2⟩ := zeros_ok hz (cx m h w) w
    have hvl : vz.cells.toList.length = es := by rw [hz2.length, hzl]
    have hrow : VRl P (repeatL z n) (cx m h w) ((Array.range (n * es)).map (fun i => (if n * es = 0 then (#[] : Array Value) else vz.cells)[i % (if n * es = 0 then (#[] : Array Value) else vz.cells).size]!)).toList := by
      by_cases h0 : n * es = 0
      · have : repeatL z n = [] := List.eq_nil_of_length_eq_zero (by rw [repeatL_len, hzl]; exact h0)
        rw [this, h0]
        simp [VRl]
      · rw [if_neg h0, zeroRow, ← hvl]
        exact hz2.repeat n
    obtain ⟨arr', h1, h2⟩ := buildS_ok hT hps hcs hrow
    have hsz : cs.length = n * es := by
      have hl := h2.length
      have hgen : ∀ (ps : List (Nat × AX)) (z r : List AV), buildS tm es z ps = some r → r.length = z.length := by
        intro ps
        induction ps with
        | nil => intro z r hb; simp only [buildS, Option.some.injEq] at hb; rw [hb]
        | cons p ps ih =>
          intro z r hb
          simp only [buildS] at hb
          split at hb
          · split at hb
            · split at hb
              · rename_i z' hz'
                rw [ih z' r hb, (splice_len hz').1]
              · cases hb
            · cases hb
          · cases hb
      rw [hgen ps _ _ hcs, repeatL_len, hzl]
    obtain ⟨m', h3, h4, h5, h6, h7, _⟩ := row_ok hH h2 (k := ⟨el, es, false, noNamesL cs⟩) (cellsOf_of hes) (fun e => VRl.bare cs e h2) (arr := arr') (fun j v hj => by simpa using hj)
      (by rw [← h2.length, Array.length_toList]; exact Nat.le_refl _) (fz := (0, 0)) (fun i _ h => by omega) hal (w' := { w with heap := w.heap.push (.cells arr' el) }) rfl rfl rfl rfl
    refine OpOk.val (cv := .slice (some ⟨w.heap.size, 0, none⟩) n n) ?_ (vr_slc h5 h6 h7 ⟨Nat.le_refl _, rfl⟩ (fun h => by cases h)) h3 h4
    simp only [execOp, hop]
    have hb : (Instr.buildSlice t n (parts.map fun x => (x.1, a.eval x.2))).run P w = .ok (.slice (some ⟨w.heap.size, 0, none⟩) n n) { w with heap := w.heap.push (.cells arr' el) } := by
      have h1' : Instr.fill (fun i => some (i * es, es)) ((Array.range (n * es)).map (fun i => (if n * es = 0 then (#[] : Array Value) else vz.cells)[i % (if n * es = 0 then (#[] : Array Value) else vz.cells).size]!))
          (parts.map fun x => (x.1, a.eval x.2)).toList = some arr' := by rw [Array.toList_map]; exact h1
      simp only [Instr.buildSlice, Sem.run_bind, run_underlying hu, Result.andThen_ok, run_sizeOf hes]
      rw [if_neg (by omega)]
      by_cases h0 : n * es = 0
      · simp only [h0, if_true, Sem.run_bind, Sem.run_pure, Result.andThen_ok]
        simp only [h0, if_true] at h1'
        simp only [h1', newRow, Sem.run_bind, run_newObj, Result.andThen_ok, Sem.run_pure]
      · simp only [h0, if_false, Sem.run_bind, Sem.run_pure, Result.andThen_ok, hz1]
        simp only [h0, if_false] at h1'
        simp only [h1', newRow, Sem.run_bind, run_newObj, Result.andThen_ok, Sem.run_pure]
    simp [hb]
  · cases ha

/-- a slice that stands written out and that nobody turns: its cells belong to nobody -/
theorem op_mkisl {t el : TypeId} {n : Nat} {parts : Array (Nat × Operand)} (hop : o.op = .buildSlice t n parts) (hu : P.underlying t = some (.slice el)) {es : Nat} (hes : sz? P el = some es) {z : List AV}
    (hz : zeros? P el = some z) (hzl : z.length = es) (hlim : n * es ≤ 16777216) {ps : List (Nat × AX)} (hps : trPartsS parts.toList = some ps) {at_ : Option Nat} {v : AV} {h' : AHeap}
    (hT : TR P tm (cx m h w) a) (hH : HR P m h w) (ha : aop (.mkisl n es z ps) tm h at_ = some (v, h')) : OpOk P o a w m h v h' := by
  simp only [aop] at ha
  split at ha
  · rename_i cs hcs
    split at ha
    · rename_i hnn
      simp only [Option.some.injEq, Prod.mk.injEq] at ha
      obtain ⟨rfl, rfl⟩ := ha
      obtain ⟨vz, hz1, hz2⟩ := zeros_ok hz (cx m h w) w
      have hvl : vz.cells.toList.length = es := by rw [hz2.length, hzl]
      have hrow : VRl P (repeatL z n) (cx m h w) ((Array.range (n * es)).map (fun i => (if n * es = 0 then (#[] : Array Value) else vz.cells)[i % (if n * es = 0 then (#[] : Array Value) else vz.cells).size]!)).toList := by
        by_cases h0 : n * es = 0
        · have : repeatL z n = [] := List.eq_nil_of_length_eq_zero (by rw [repeatL_len, hzl]; exact h0)
          rw [this, h0]
          simp [VRl]
        · rw [if_neg h0, zeroRow, ← hvl]
          exact hz2.repeat n
      obtain ⟨arr', h1, h2⟩ := buildS_ok hT hps hcs hrow
      have hsz : cs.length = n * es := by
        have hgen : ∀ (ps : List (Nat × AX)) (z r : List AV), buildS tm es z ps = some r → r.length = z.length := by
          intro ps
          induction ps with
          | nil => intro z r hb; simp only [buildS, Option.some.injEq] at hb; rw [hb]
          | cons p ps ih =>
            intro z r hb
            simp only [buildS] at hb
            split at hb
            · split at hb
              · split at hb
                · rename_i z' hz'
                  rw [ih z' r hb, (splice_len hz').1]
                · cases hb
              · cases hb
            · cases hb
        rw [hgen ps _ _ hcs, repeatL_len, hzl]
      obtain ⟨f1, f2⟩ := step_ok (w' := { w with heap := w.heap.push (.cells arr' el) }) hH (fun _ => False) (fun _ _ hf => hf.elim) rfl rfl rfl (by simp) (fun b hb _ => heap_push_lt hb) (fun b hb => shape_congr (heap_push_lt hb))
        rfl rfl (Nat.le_refl _) (fun _ hk => ⟨hk, rfl⟩) (fun _ _ ho => ho) (fun _ _ hg => .inl ⟨hg, fun hf => hf⟩) hH.inj hH.rsv
      have hvr : VR P (.isl cs n (.ex n)) (cx m h { w with heap := w.heap.push (.cells arr' el) }) (.slice (some ⟨w.heap.size, 0, none⟩) n n) := by
        simp only [VR]
        refine ⟨_, _, rfl, ⟨Nat.le_refl _, rfl⟩, fun h0 => List.eq_nil_of_length_eq_zero (by rw [hsz, h0, Nat.zero_mul]), fun _ => ⟨w.heap.size, 0, rfl, ⟨by simp [cx], fun ho => ?_, fun hx => absurd (hH.far _ hx) (Nat.lt_irrefl _)⟩, ?_⟩⟩
        · obtain ⟨ν, bk, hg, e⟩ := ho
          have := (hH.blk ν bk hg).2.1
          rw [e] at this
          exact absurd this (Nat.lt_irrefl _)
        · refine VRm.of_vals (VRl.mono cs f1.le.bare (VRl.bare cs hnn h2)) fun j v hj => ?_
          have hget : (w.heap.push (.cells arr' el))[w.heap.size]? = some (.cells arr' el) := by simp
          simp only [Ctx.bare, cx, World.cell?, hget, Nat.zero_add]
          simpa using hj
      refine OpOk.val (cv := .slice (some ⟨w.heap.size, 0, none⟩) n n) ?_ hvr f1 f2
      simp only [execOp, hop]
      have hb : (Instr.buildSlice t n (parts.map fun x => (x.1, a.eval x.2))).run P w = .ok (.slice (some ⟨w.heap.size, 0, none⟩) n n) { w with heap := w.heap.push (.cells arr' el) } := by
        have h1' : Instr.fill (fun i => some (i * es, es)) ((Array.range (n * es)).map (fun i => (if n * es = 0 then (#[] : Array Value) else vz.cells)[i % (if n * es = 0 then (#[] : Array Value) else vz.cells).size]!))
            (parts.map fun x => (x.1, a.eval x.2)).toList = some arr' := by rw [Array.toList_map]; exact h1
        simp only [Instr.buildSlice, Sem.run_bind, run_underlying hu, Result.andThen_ok, run_sizeOf hes]
        rw [if_neg (by omega)]
        by_cases h0 : n * es = 0
        · simp only [h0, if_true, Sem.run_bind, Sem.run_pure, Result.andThen_ok]
          simp only [h0, if_true] at h1'
          simp only [h1', newRow, Sem.run_bind, run_newObj, Result.andThen_ok, Sem.run_pure]
        · simp only [h0, if_false, Sem.run_bind, Sem.run_pure, Result.andThen_ok, hz1]
          simp only [h0, if_false] at h1'
          simp only [h1', newRow, Sem.run_bind, run_newObj, Result.andThen_ok, Sem.run_pure]
      simp [hb]
    · cases ha
  · cases ha

theorem op_mkmap {t : TypeId} {r : Option Operand} (hop : o.op = .makeMap t r) (hr : r = none ∨ ∃ k n, r = some (.const (.int k n)) ∧ ∃ kt el, P.underlying t = some (.map kt el)) {at_ : Option Nat} {v : AV} {h' : AHeap}
    (hH : HR P m h w) (ha : aop .mkmap tm h at_ = some (v, h')) : OpOk P o a w m h v h' := by
  simp only [aop] at ha
  obtain ⟨ν, hal, rfl⟩ := mk_some ha
  obtain ⟨h1, h2, h3⟩ := alloc_ok hH hal (w' := { w with heap := w.heap.push (.map #[] 0) }) (o := .map #[] 0) rfl rfl rfl rfl (fun hl => ⟨rfl, [], by show (w.heap.push (Obj.map #[] 0))[w.heap.size]? = _; simp, rfl⟩)
  refine OpOk.val (cv := .map (some w.heap.size)) ?_ (by simp only [VR, cx]; exact ⟨h3, by rw [upd_same]⟩) h1 h2
  simp only [execOp, hop]
  rcases hr with rfl | ⟨k, n, rfl, kt, el, hu⟩
  · simp [Instr.makeMap]
  · simp [Instr.makeMap, run_underlying hu, asInt, asIntOf, Act.eval]

theorem room_le {need bytes : Nat} (h : room need bytes = true) : (2 * need + 1024) * bytes ≤ 70368744177664 ∧ need ≤ 70368744177664 := by
  simp only [room, Bool.and_eq_true, Nat.ble_eq] at h
  exact ⟨h.2, h.1⟩

theorem op_make {t el : TypeId} {l c : Operand} (hop : o.op = .makeSlice t l c) (hu : P.underlying t = some (.slice el)) {es bytes : Nat} (hes : sz? P el = some es) (hby : bytes? P el = some bytes) {z : List AV}
    (hz : zeros? P el = some z) (hzl : z.length = es) {l' c' : AX} (hl : trX l = some l') (hc : trX c = some c') {at_ : Option Nat} {v : AV} {h' : AHeap}
    (hT : TR P tm (cx m h w) a) (hH : HR P m h w) (ha : aop (.make el es bytes z l' c') tm h at_ = some (v, h')) : OpOk P o a w m h v h' := by
  have hlv := trX_ok hl hT
  have hcv := trX_ok hc hT
  simp only [aop] at ha
  split at ha
  · rename_i k1 x k2 y hx hy
    split at ha
    · rename_i hb
      obtain ⟨hb0, hb1, hb2, hroom⟩ := hb
      have hroom' := (room_le hroom).1
      obtain ⟨ν, hal, rfl⟩ := mk_some ha
      rw [hx] at hlv
      rw [hy] at hcv
      simp only [VR] at hlv hcv
      obtain ⟨vz, hz1, hz2⟩ := zeros_ok hz (cx m h w) w
      have hvl : vz.cells.toList.length = es := by rw [hz2.length, hzl]
      obtain ⟨q, rfl⟩ := Int.eq_ofNat_of_zero_le (show 0 ≤ y by omega)
      obtain ⟨p, rfl⟩ := Int.eq_ofNat_of_zero_le hb0
      simp only [Int.toNat_natCast] at hroom' hal ⊢
      have hrow : VRl P (repeatL z q) (cx m h w) ((Array.range (q * es)).map (fun i => (if q * es = 0 then (#[] : Array Value) else vz.cells)[i % (if q * es = 0 then (#[] : Array Value) else vz.cells).size]!)).toList := by
        by_cases h0 : q * es = 0
        · have : repeatL z q = [] := List.eq_nil_of_length_eq_zero (by rw [repeatL_len, hzl]; exact h0)
          rw [this, h0]
          simp [VRl]
        · rw [if_neg h0, zeroRow, ← hvl]
          exact hz2.repeat q
      generalize harr : (Array.range (q * es)).map (fun i => (if q * es = 0 then (#[] : Array Value) else vz.cells)[i % (if q * es = 0 then (#[] : Array Value) else vz.cells).size]!) = arr at hrow
      obtain ⟨m', h3, h4, h5, h6, h7, _⟩ := row_ok hH hrow (k := ⟨el, es, false, noNamesL z⟩) (cellsOf_of hes) (fun e => VRl.bare _ (noNamesL_repeat e q) hrow) (arr := arr) (fun j v hj => by simpa using hj)
        (by rw [← hrow.length, Array.length_toList]; exact Nat.le_refl _) (fz := (0, 0)) (fun i _ h => by omega) hal (w' := { w with heap := w.heap.push (.cells arr el) }) rfl rfl rfl rfl
      refine OpOk.val (cv := .slice (some ⟨w.heap.size, 0, none⟩) p q) ?_ (vr_slc h5 h6 h7 ⟨by omega, rfl⟩ (fun h => by cases h)) h3 h4
      simp only [execOp, hop]
      have hinfo : ∃ i, P.info? el = some i ∧ i.bytes = bytes := by
        simp only [bytes?, Option.map_eq_some_iff] at hby
        exact hby
      obtain ⟨i, hi, rfl⟩ := hinfo
      have w1 : IntKind.i64.wrap (q : Int) = q := by rw [IntKind.wrap_i64]; omega
      have w2 : IntKind.i64.wrap (p : Int) = p := by rw [IntKind.wrap_i64]; omega
      have hmul : i.bytes * q ≤ 2 ^ 47 := by
        have : (2 * q + 1024) * i.bytes = 2 * (i.bytes * q) + 1024 * i.bytes := by rw [Nat.add_mul, Nat.mul_assoc, Nat.mul_comm q]
        omega
      have hm : (Instr.makeSlice t (a.eval l) (a.eval c)).run P w = .ok (.slice (some ⟨w.heap.size, 0, none⟩) p q) { w with heap := w.heap.push (.cells arr el) } := by
        simp only [Instr.makeSlice, Sem.run_bind, run_underlying hu, Result.andThen_ok, hlv, hcv, asInt, asIntOf, Sem.run_pure, typeInfo, run_program, hi, w1, w2]
        have hn : (decide ((q : Int) < 0) || decide ((i.bytes : Int) * q > 2 ^ 48) || decide ((p : Int) < 0) || decide ((p : Int) > q)) = false := by
          have hmul' : (i.bytes : Int) * q ≤ 2 ^ 47 := by exact_mod_cast hmul
          simp only [Bool.or_eq_false_iff, decide_eq_false_iff_not]
          refine ⟨⟨⟨by omega, by omega⟩, by omega⟩, by omega⟩
        simp only [hn, Bool.false_eq_true, if_false, Sem.run_bind, run_askRoom, Result.andThen_ok, Int.toNat_natCast, run_sizeOf hes]
        by_cases h0 : q * es = 0
        · simp only [h0, if_true, Sem.run_bind, Sem.run_pure, Result.andThen_ok]
          simp only [h0, if_true] at harr
          simp only [harr, newRow, Sem.run_bind, run_newObj, Result.andThen_ok, Sem.run_pure]
        · simp only [h0, if_false, Sem.run_bind, Sem.run_pure, Result.andThen_ok, hz1]
          simp only [h0, if_false] at harr
          simp only [harr, newRow, Sem.run_bind, run_newObj, Result.andThen_ok, Sem.run_pure]
      simp [hm]
    · cases ha
  · cases ha

end
end Go.Eng

namespace Go.Eng

theorem setCells_rest (b : Nat) : ∀ (vs : List Value) (off : Nat) (w : World), (w.setCells b off vs).os = w.os ∧ (w.setCells b off vs).tape = w.tape ∧ (w.setCells b off vs).output = w.output ∧
    (w.setCells b off vs).heap.size = w.heap.size ∧ ∀ b', b' ≠ b → (w.setCells b off vs).heap[b']? = w.heap[b']?
  | [], _, _ => ⟨rfl, rfl, rfl, rfl, fun _ _ => rfl⟩
  | v :: vs, off, w => by
    obtain ⟨h1, h2, h3, h4, h5⟩ := setCells_rest b vs (off + 1) (w.setCell ⟨b, off, none⟩ v)
    refine ⟨h1, h2, h3, by rw [World.setCells, h4]; simp, fun b' hb' => ?_⟩
    rw [World.setCells, h5 b' hb']
    simp [World.setCell, Array.getElem?_modify, Ne.symm hb']

theorem setCells_block (b : Nat) (el : TypeId) (fz : Nat × Nat) : ∀ (vs : List Value) (off : Nat) (w : World) (arr : Array Value), w.heap[b]? = some (.cells arr el fz) → off + vs.length ≤ arr.size →
    ∃ arr', (w.setCells b off vs).heap[b]? = some (.cells arr' el fz) ∧ arr'.size = arr.size ∧ (∀ i, i < off ∨ off + vs.length ≤ i → arr'[i]? = arr[i]?) ∧ ∀ j v, vs[j]? = some v → arr'[off + j]? = some v
  | [], off, w, arr, hw, _ => ⟨arr, hw, rfl, fun _ _ => rfl, by simp⟩
  | v :: vs, off, w, arr, hw, hle => by
    simp only [List.length_cons] at hle
    have h0 : (w.setCell ⟨b, off, none⟩ v).heap[b]? = some (.cells (arr.setIfInBounds off v) el fz) := by
      simp [World.setCell, Array.getElem?_modify, hw]
    obtain ⟨arr', h1, h2, h3, h4⟩ := setCells_block b el fz vs (off + 1) _ _ h0 (by simp; omega)
    refine ⟨arr', by rw [World.setCells]; exact h1, by rw [h2]; simp, fun i hi => ?_, fun j u hj => ?_⟩
    · rw [h3 i (by simp only [List.length_cons] at hi; omega)]
      simp only [List.length_cons] at hi
      rw [Array.getElem?_setIfInBounds_ne (by omega)]
    · cases j with
      | zero =>
        simp only [List.getElem?_cons_zero, Option.some.injEq] at hj
        subst hj
        rw [Nat.add_zero, h3 off (by omega), Array.getElem?_setIfInBounds_self_of_lt (by omega)]
      | succ j =>
        rw [show off + (j + 1) = off + 1 + j by omega]
        exact h4 j u (by simpa using hj)

section
variable {P : Program} {o : Oper} {a : Act} {w : World} {m : Gh} {h : AHeap} {tm : Tr}

theorem oneC_ok {x : AV} (hx : oneC x = true) {c : Ctx} {v : Value} (hv : VR P x c v) : v.oneCell' = true := by
  cases x <;> simp only [oneC, reduceCtorEq] at hx <;> simp only [VR] at hv
  all_goals first
    | (subst hv; rfl)
    | (obtain ⟨_, rfl⟩ := hv; rfl)
    | (obtain ⟨_, _, rfl, _⟩ := hv; rfl)
    | (obtain ⟨_, _, _, rfl, _⟩ := hv; rfl)
    | (obtain ⟨_, rfl, _⟩ := hv; rfl)
theorem allOne_ok : ∀ {xs : List AV}, allOne xs = true → ∀ {c : Ctx} {vs : List Value}, VRl P xs c vs → ∀ v ∈ vs, v.oneCell' = true
  | [], _, _, vs, hv, v, hm => by simp only [VRl] at hv; subst hv; cases hm
  | x :: xs, hx, c, vs, hv, v, hm => by
    simp only [allOne, Bool.and_eq_true] at hx
    simp only [VRl] at hv
    obtain ⟨v0, r, rfl, hv0, hr⟩ := hv
    cases hm with
    | head => exact oneC_ok hx.1 hv0
    | tail _ hm => exact allOne_ok hx.2 hr v hm

theorem getElem?_splice {α : Type} (A B C : List α) (n k : Nat) (hA : A.length = n) (hB : B.length = k) (j : Nat) :
    (A ++ (B ++ C))[j]? = if j < n then A[j]? else if j < n + k then B[j - n]? else C[j - n - k]? := by
  by_cases h1 : j < n
  · rw [if_pos h1, List.getElem?_append_left (by omega)]
  · rw [if_neg h1, List.getElem?_append_right (by omega), hA]
    by_cases h2 : j < n + k
    · rw [if_pos h2, List.getElem?_append_left (by omega)]
    · rw [if_neg h2, List.getElem?_append_right (by omega), hB]

theorem splice_vals {c : Ctx} {cells xs z : List AV} {off : Nat} (hs : splice cells off xs = some z) {vs0 vx : List Value} (h0 : VRl P cells c vs0) (hx : VRl P xs c vx) :
    VRl P z c (vs0.take off ++ (vx ++ vs0.drop (off + vx.length))) := by
  obtain ⟨_, hle⟩ := splice_len hs
  unfold splice at hs
  rw [if_pos hle] at hs
  simp only [Option.some.injEq] at hs
  subst hs
  rw [hx.length]
  exact (h0.take off).append (hx.append (h0.drop _))

/-- cells written into a block of one's own -/
theorem put_ok (hH : HR P m h w) {ν : Nat} {cells : List AV} {k : VK} (hg : h.get ν = some (.vec cells k)) {off : Nat} {xs : List AV} {vs : List Value} (hv : VRl P xs (cx m h w) vs) {cells' : List AV}
    (hs : splice cells off xs = some cells') :
    Fr m h w m (h.set ν (.vec cells' { k with pur := k.pur && noNamesL xs })) (w.setCells (m ν).1 ((m ν).2 + off) vs) ∧
    HR P m (h.set ν (.vec cells' { k with pur := k.pur && noNamesL xs })) (w.setCells (m ν).1 ((m ν).2 + off) vs) ∧
    (allOne xs = true → (storeCells ⟨(m ν).1, (m ν).2 + off, none⟩ vs).run P w = .ok () (w.setCells (m ν).1 ((m ν).2 + off) vs)) := by
  obtain ⟨hk, hsz, arr, fz, h1, h2, h3, h4, h5⟩ := hH.blk ν _ hg
  have h1' : w.heap[(m ν).1]? = some (.cells arr k.el fz) := h1
  obtain ⟨hlen, hle⟩ := splice_len hs
  have hvl := hv.length
  obtain ⟨e1, e2, e3, e4, e5⟩ := setCells_rest (m ν).1 vs ((m ν).2 + off) w
  obtain ⟨arr', b1, b2, b3, b4⟩ := setCells_block (m ν).1 k.el fz vs ((m ν).2 + off) w arr h1' (by omega)
  obtain ⟨f1, f2⟩ := write_ok (y := .vec cells' { k with pur := k.pur && noNamesL xs }) hH hg e1 e2 e3 e4 e5 (by simp [World.shape?, h1', b1, b2]) (fun hl => by
    refine ⟨arr', fz, b1, ?_, by omega, fun i hi hi2 => h4 i hi (by omega), h5⟩
    obtain ⟨vs0, c1, c2⟩ := h2.vals
    have hold : VRl P cells ((cx m h w).of (k.pur && noNamesL xs)) vs0 := by
      cases hp : k.pur with
      | false => rw [hp] at c1; simpa [Ctx.of] using c1
      | true =>
        rw [hp] at c1
        cases hn : noNamesL xs with
        | true => simpa [Ctx.of] using c1
        | false => exact VRl.mono cells (CLe.unbare _) c1
    have hnew : VRl P xs ((cx m h w).of (k.pur && noNamesL xs)) vs := by
      cases hp : k.pur with
      | false => simpa [Ctx.of] using hv
      | true =>
        cases hn : noNamesL xs with
        | true => exact VRl.bare xs hn hv
        | false => simpa [Ctx.of] using hv
    refine VRm.of_vals (VRl.mono cells' (hl.of _) (splice_vals hs hold hnew)) fun j v hj => ?_
    rw [Ctx.of_w]
    have c0 := c1.length
    rw [getElem?_splice _ _ _ off vs.length (by rw [List.length_take]; omega) rfl] at hj
    have hcell : ∀ i, (cx m (h.set ν (.vec cells' { k with pur := k.pur && noNamesL xs })) (w.setCells (m ν).1 ((m ν).2 + off) vs)).w.cell? ⟨(m ν).1, i, none⟩ = arr'[i]? := fun i => by
      simp [cx, World.cell?, b1]
    rw [hcell]
    have hcell0 : ∀ i, ((cx m h w).of k.pur).w.cell? ⟨(m ν).1, i, none⟩ = arr[i]? := fun i => by
      rw [Ctx.of_w]; simp [cx, World.cell?, h1']
    split at hj
    · rename_i hlt
      rw [List.getElem?_take, if_pos hlt] at hj
      rw [b3 _ (by omega), ← hcell0]
      exact c2 j v hj
    · split at hj
      · rename_i hge hlt
        have := b4 (j - off) v hj
        rwa [show (m ν).2 + off + (j - off) = (m ν).2 + j by omega] at this
      · rename_i hge hge2
        rw [List.getElem?_drop] at hj
        rw [b3 _ (by omega), ← hcell0]
        have := c2 (off + vs.length + (j - off - vs.length)) v hj
        rwa [show off + vs.length + (j - off - vs.length) = j by omega] at this)
  refine ⟨f1, f2, fun hone => ?_⟩
  have := run_storeCells_cells (P := P) (m ν).1 ((m ν).2 + off) vs 0 w (fun j hj => by
      have : (m ν).2 + off + j < arr.size := by omega
      simp [World.cell?, h1', this]) (fun j hj => by
      have := h4 ((m ν).2 + off + j) (by omega) (by omega)
      simp only [World.frozen?, h1', Nat.add_zero]
      rw [Bool.and_eq_false_iff]
      simp only [decide_eq_false_iff_not]
      omega) (fun v hm => allOne_ok hone hv v hm)
  simpa using this

theorem noV_some {x : Option AHeap} {v : AV} {h' : AHeap} (hx : noV x = some (v, h')) : x = some h' ∧ v = .tup [] := by
  cases x with
  | none => cases hx
  | some y => simp only [noV, Option.some.injEq, Prod.mk.injEq] at hx; exact ⟨by rw [hx.2], hx.1.symm⟩

theorem run_u {s : Sem Unit} {w' : World} (hs : s.run P w = .ok () w') : ((do s; pure .skip) : Sem Next).run P w = .ok .skip w' := by simp [hs]

theorem op_store {t : TypeId} {x y : Operand} (hop : o.op = .store t x y) {sz : Nat} (hsz : sz? P t = some sz) {x' y' : AX} (hx : trX x = some x') (hy : trX y = some y') {at_ : Option Nat} {v : AV} {h' : AHeap}
    (hT : TR P tm (cx m h w) a) (hH : HR P m h w) (ha : aop (.store sz x' y') tm h at_ = some (v, h')) : OpOk P o a w m h v h' := by
  have hxv := trX_ok hx hT
  have hyv := trX_ok hy hT
  simp only [aop] at ha
  obtain ⟨hs, rfl⟩ := noV_some ha
  unfold storeA at hs
  split at hs
  · rename_i ν off cs hp hc
    split at hs
    · rename_i cells k hg
      split at hs
      · rename_i hb
        split at hs
        · rename_i cells' hsp
          simp only [Option.some.injEq] at hs
          subst hs
          rw [hp] at hxv
          simp only [VR] at hxv
          have hcv := cells_ok hc hyv
          obtain ⟨h1, h2, h3⟩ := put_ok hH hg hcv hsp
          refine OpOk.skip ?_ h1 h2
          simp only [execOp, hop]
          refine run_u ?_
          have hcs : (a.eval y).cells.size = sz := by rw [← Array.length_toList, hcv.length]; exact hb.1
          have hxv' : a.eval x = .pointer (some ⟨(m ν).1, (m ν).2 + off, none⟩) := hxv.2
          simp only [Instr.storeAt, hxv', Instr.sureAddr, pure_bind, storeVar, Sem.run_bind, run_sizeOf hsz, Result.andThen_ok, hcs, ne_eq, not_true_eq_false, if_false]
          simpa using h3 hb.2
        · cases hs
      · cases hs
    · cases hs
  · cases hs

end
end Go.Eng

namespace Go.Eng

theorem nextslicecap_le {need old : Nat} (h : old < need) : Builtin.nextslicecap need old ≤ 2 * need + 1024 := by
  have grow : ∀ (r c : Nat), c ≤ need → Builtin.growBy need r c ≤ 2 * need + 1024 := by
    intro r
    induction r with
    | zero => intro c hc; simp only [Builtin.growBy]; omega
    | succ r ih =>
      intro c hc
      simp only [Builtin.growBy]
      split
      · omega
      · rename_i hlt
        by_cases h2 : c + (c + 768) / 4 ≤ need
        · exact ih _ h2
        · -- one step past 'need': it stops there
          have : ∀ r c', need ≤ c' → Builtin.growBy need r c' = c' := by
            intro r
            cases r with
            | zero => intro c' _; rfl
            | succ r => intro c' hc'; simp only [Builtin.growBy]; rw [if_pos (by omega)]
          rw [this r _ (by omega)]
          omega
  unfold Builtin.nextslicecap
  split
  · omega
  · split
    · omega
    · exact grow 4 old (by omega)

section
variable {P : Program} {o : Oper} {a : Act} {w : World} {m : Gh} {h : AHeap} {tm : Tr}

/-- append where there is room -/
theorem run_append_in {st xt el : TypeId} (ty : TypeId) (hu : P.underlying st = some (.slice el)) {xd : TypeDesc} (hxt : P.underlying xt = some xd) (hxd : ∀ k, xd ≠ .int k) {es : Nat} (hes : sz? P el = some es) {base : Option Addr} {n cap q : Nat}
    {vx : Value} (hl : (Builtin.lenOf vx).run P w = .ok q w) {vs : List Value} (hf : (Builtin.firstCells es q vx).run P w = .ok ⟨vs⟩ w) (hle : n + q ≤ cap) {w' : World}
    (hst : (match base with | some adr => storeCells (adr.add (n * es)) vs | none => pure ()).run P w = .ok () w') :
    (Builtin.append_ #[st, xt] ty #[.slice base n cap, vx]).run P w = .ok (.slice base (n + q) cap) w' := by
  simp only [Builtin.append_, List.getElem?_toArray, List.getElem?_cons_zero, List.getElem?_cons_succ, Sem.run_bind, run_underlying hu, run_underlying hxt, Result.andThen_ok, run_sizeOf hes, Sem.run_pure, Bool.false_eq_true,
    if_false, hl, Bool.not_false, if_true, if_pos hle, hf]
  cases base with
  | none => simp only [Sem.run_pure, Result.ok.injEq, true_and] at hst; subst hst; rfl
  | some adr =>
    simp only [Sem.run_bind]
    simp only at hst
    rw [hst]
    rfl

theorem arr_append3 (x y : List Value) (z : Array Value) : (⟨x⟩ : Array Value) ++ ⟨y⟩ ++ z = ⟨x ++ y ++ z.toList⟩ := by
  apply Array.ext'
  simp

/-- append where there is none: a new array, of whatever capacity -/
theorem run_append_new {st xt el : TypeId} (ty : TypeId) (hu : P.underlying st = some (.slice el)) {xd : TypeDesc} (hxt : P.underlying xt = some xd) (hxd : ∀ k, xd ≠ .int k) {es bytes : Nat} (hes : sz? P el = some es)
    (hby : bytes? P el = some bytes) {z : List AV} (hz : zeros? P el = some z) (hzl : z.length = es) {base : Option Addr} {n cap q : Nat}
    {vx : Value} (hl : (Builtin.lenOf vx).run P w = .ok q w) {vs : List Value} (hf : ∀ w', w'.heap = w.heap → (Builtin.firstCells es q vx).run P w' = .ok ⟨vs⟩ w') {vo : List Value}
    (ho : ∀ w', w'.heap = w.heap → (Builtin.firstCells es n (.slice base n cap)).run P w' = .ok ⟨vo⟩ w') (hlt : cap < n + q) (hroom : room (n + q) bytes = true) :
    ∃ newCap rest, n + q ≤ newCap ∧ rest.length = (newCap - (n + q)) * es ∧
      (Builtin.append_ #[st, xt] ty #[.slice base n cap, vx]).run P w = .ok (.slice (some ⟨w.heap.size, 0, none⟩) (n + q) newCap) { w with drawn := w.drawn + 1, heap := w.heap.push (.cells ⟨vo ++ vs ++ rest⟩ el) } := by
  obtain ⟨hr1, hr2⟩ := room_le hroom
  have hinfo : ∃ i, P.info? el = some i ∧ i.bytes = bytes := by
    simp only [bytes?, Option.map_eq_some_iff] at hby
    exact hby
  obtain ⟨i, hi, rfl⟩ := hinfo
  have hty : (typeInfo el).run P w = .ok i w := by simp [typeInfo, hi]
  let w1 : World := { w with drawn := w.drawn + 1 }
  have hty1 : (typeInfo el).run P w1 = .ok i w1 := by simp [typeInfo, hi]
  obtain ⟨vz, hz1, hz2⟩ := zeros_ok hz (⟨fun _ => False, fun _ => (0, 0), fun _ => False, fun _ => False, w⟩ : Ctx) w1
  have hzlen : vz.cells.size = es := by rw [← Array.length_toList, hz2.length, hzl]
  refine ⟨(n + q) + (w.tape w.drawn (.appendCap (n + q) cap el)) % (2 ^ 63 - (n + q)), (Builtin.zeroCells vz.cells ((n + q) + (w.tape w.drawn (.appendCap (n + q) cap el)) % (2 ^ 63 - (n + q)) - (n + q))).toList, by omega, ?_, ?_⟩
  · simp [Builtin.zeroCells, hzlen]
  · have hc1 : ¬ (((n + q : Nat) : Int) > IntKind.i64.max ∧ i.bytes = 0) := by
      rw [IntKind.max_i64]; omega
    have hc2 : ¬ (Builtin.nextslicecap (n + q) cap * i.bytes > 2 ^ 48) := by
      have := nextslicecap_le hlt
      have h2 : Builtin.nextslicecap (n + q) cap * i.bytes ≤ (2 * (n + q) + 1024) * i.bytes := Nat.mul_le_mul_right _ this
      omega
    simp only [Builtin.append_, List.getElem?_toArray, List.getElem?_cons_zero, List.getElem?_cons_succ, Sem.run_bind, run_underlying hu, run_underlying hxt, Result.andThen_ok, run_sizeOf hes, Sem.run_pure,
      Bool.false_eq_true, if_false, hl, Bool.not_false, if_true, if_neg (Nat.not_le.2 hlt), hty, false_or, hc1, hc2, run_choose, Question.forced, Question.cut, run_askRoom]
    change ((Sem.run P (typeInfo el) w1).andThen _) = _
    rw [hty1]
    simp only [Result.andThen_ok]
    rw [ho w1 rfl]
    simp only [Result.andThen_ok]
    rw [hf w1 rfl]
    simp only [Result.andThen_ok]
    rw [hz1]
    simp only [Result.andThen_ok, newRow, Sem.run_bind, run_newObj, Sem.run_pure]
    rw [arr_append3]

/-- the new array that append lays: its block -/
theorem grown_ok (hH : HR P m h w) {cs : List AV} {vs rest : List Value} (hv : VRl P cs (cx m h w) vs) {el : TypeId} {es : Nat} (hes : sz? P el = some es) {g p : Bool} (hp : p = true → VRl P cs (cx m h w).bare vs) {at_ : Option Nat} {ν : Nat} {h' : AHeap}
    (ha : h.alloc at_ (.vec cs ⟨el, es, g, p⟩) = some (ν, h')) {n newCap : Nat} (hn : cs.length = n * es) (hcap : n ≤ newCap) (hr : rest.length = (newCap - n) * es) {w' : World}
    (hw : w'.heap = w.heap.push (.cells ⟨vs ++ rest⟩ el)) (os : w'.os = w.os) (tape : w'.tape = w.tape) (output : w'.output = w.output) :
    ∃ m', Fr m h w m' h' w' ∧ HR P m' h' w' ∧ VR P (.slc ν 0 n .any) (cx m' h' w') (.slice (some ⟨w.heap.size, 0, none⟩) n newCap) := by
  have hl := hv.length
  obtain ⟨m', h1, h2, h3, h4, h5, h6⟩ := row_ok hH hv (k := ⟨el, es, g, p⟩) (cellsOf_of hes) hp (arr := ⟨vs ++ rest⟩) (fun j v hj => by
      obtain ⟨hj', _⟩ := List.getElem?_eq_some_iff.1 hj
      simp only [List.getElem?_toArray]
      rw [List.getElem?_append_left hj']
      exact hj) (by simp; omega) (fz := (0, 0)) (fun i _ h => by omega) ha hw os tape output
  refine ⟨m', h1, h2, vr_slc h3 h4 h5 ⟨hcap, trivial⟩ (fun _ el' s hs => ?_)⟩
  rw [h6] at hs
  simp only [Option.some.injEq, Prod.mk.injEq] at hs
  obtain ⟨rfl, rfl⟩ := hs
  rw [cellsOf_of hes]
  simp only [List.size_toArray, List.length_append, hl, hn, hr]
  rw [← Nat.add_mul]
  congr 1
  omega

theorem seq_at (hH : HR P m h w) {es : Nat} {x : AV} {n : Nat} {cs : List AV} (hs : seqOf h es x = some (n, cs)) {v : Value} (hv : VR P x (cx m h w) v) : ∃ vs : List Value, VRl P cs (cx m h w) vs ∧ cs.length = n * es ∧
    (Builtin.lenOf v).run P w = .ok n w ∧ (∀ w', w'.heap = w.heap → (Builtin.firstCells es n v).run P w' = .ok ⟨vs⟩ w') ∧
    (∀ ν o n c cells k, x = .slc ν o n c → h.get ν = some (.vec cells k) → k.pur = true → VRl P cs (cx m h w).bare vs) := by
  obtain ⟨vs, h1, h2, h3, _, h4, _, h5⟩ := seq_ok hH hs hv
  refine ⟨vs, h1, h2, h3, fun w' hw' => ?_, h5⟩
  have := h4 n (Nat.le_refl _) w' hw'
  rwa [List.take_of_length_le (by rw [h1.length, h2]; exact Nat.le_refl _)] at this

end
end Go.Eng

namespace Go.Eng

section
variable {P : Program} {o : Oper} {a : Act} {w : World} {m : Gh} {h : AHeap} {tm : Tr}

theorem kill_ok (hH : HR P m h w) (ν : Nat) : Fr m h w m (h.kill ν) w ∧ HR P m (h.kill ν) w := by
  have hsub : ∀ κ z, (h.kill ν).get κ = some z → h.get κ = some z := fun κ z hz => by
    rw [get_kill] at hz
    split at hz
    · cases hz
    · exact hz
  have hle : CLe (cx m h w) (cx m (h.kill ν) w) :=
    ⟨fun ν hk => ⟨hk, rfl⟩, Nat.le_refl _, fun b _ ho => ⟨rfl, fun ⟨κ, z, hz, he⟩ => ho ⟨κ, z, hsub κ z hz, he⟩⟩, fun _ _ => rfl, fun _ h => h⟩
  exact ⟨⟨rfl, rfl, rfl, hle, rfl, rfl⟩, fun κ z hz => by
    obtain ⟨k, s, r⟩ := hH.blk κ z (hsub κ z hz)
    exact ⟨k, s, r.mono hle rfl⟩, fun κ τ z u hz hu he => hH.inj κ τ z u (hsub κ z hz) (hsub τ u hu) he, hH.rsv, hH.lo, hH.far⟩

def Apx (P : Program) (w : World) (m : Gh) (h : AHeap) (s : Sem Value) (v : AV) (h' : AHeap) : Prop :=
  ∃ cv m' w', s.run P w = .ok cv w' ∧ VR P v (cx m' h' w') cv ∧ Fr m h w m' h' w' ∧ HR P m' h' w'

theorem append_ok (hH : HR P m h w) {st xt el : TypeId} (ty : TypeId) (hu : P.underlying st = some (.slice el)) {xd : TypeDesc} (hxt : P.underlying xt = some xd) (hxd : ∀ k, xd ≠ .int k) {es bytes : Nat} (hes : sz? P el = some es)
    (hby : bytes? P el = some bytes) {z : List AV} (hz : zeros? P el = some z) (hzl : z.length = es) {x y : AV} {vx vy : Value} (hx : VR P x (cx m h w) vx) (hy : VR P y (cx m h w) vy) {at_ : Option Nat} {v : AV} {h' : AHeap}
    (ha : appendA h at_ el es bytes x y = some (v, h')) : Apx P w m h (Builtin.append_ #[st, xt] ty #[vx, vy]) v h' := by
  unfold appendA at ha
  split at ha
  · cases ha
  · rename_i q new hsq
    obtain ⟨vs, hvs, hnl, hl, hf, _⟩ := seq_at hH hsq hy
    -- nothing to append
    have none0 : q = 0 → ∀ (p : Option Addr) (n cap : Nat), vx = .slice p n cap → n ≤ cap → (Builtin.append_ #[st, xt] ty #[vx, vy]).run P w = .ok vx w := fun hq p n cap hvx hle => by
      subst hq hvx
      have hv0 : vs = [] := by
        have := hvs.length
        rw [hnl] at this
        simpa using this
      subst hv0
      have := run_append_in (P := P) ty hu hxt hxd hes (base := p) (n := n) (cap := cap) hl (hf w rfl) (by omega) (w' := w) (by cases p <;> rfl)
      simpa using this
    -- a new array
    have fresh : ∀ (p : Option Addr) (n cap : Nat) (old : List AV) (vo : List Value) (h0 : AHeap) (g pp : Bool) (μ : Nat), vx = .slice p n cap → cap < n + q → room (n + q) bytes = true → HR P m h0 w → Fr m h w m h0 w →
        (∀ w', w'.heap = w.heap → (Builtin.firstCells es n (.slice p n cap)).run P w' = .ok ⟨vo⟩ w') → VRl P old (cx m h0 w) vo → old.length = n * es → (pp = true → VRl P old (cx m h0 w).bare vo ∧ noNamesL new = true) →
        h0.alloc at_ (.vec (old ++ new) ⟨el, es, g, pp⟩) = some (μ, h') → Apx P w m h (Builtin.append_ #[st, xt] ty #[vx, vy]) (.slc μ 0 (n + q) .any) h' := by
      intro p n cap old vo h0 g pp μ hvx hlt hroom hH0 hF0 ho hvo hol hpp hal
      subst hvx
      obtain ⟨newCap, rest, hc1, hc2, hrun⟩ := run_append_new (P := P) ty hu hxt hxd hes hby hz hzl hl hf ho hlt hroom
      obtain ⟨m', f1, f2, f3⟩ := grown_ok hH0 (cs := old ++ new) (vs := vo ++ vs) (rest := rest) (hvo.append (VRl.mono new hF0.le hvs)) hes (fun e => (hpp e).1.append (VRl.bare new (hpp e).2 (VRl.mono new hF0.le hvs))) hal (n := n + q) (newCap := newCap)
        (by rw [List.length_append, hol, hnl, Nat.add_mul]) hc1 hc2 (w' := { w with drawn := w.drawn + 1, heap := w.heap.push (.cells ⟨vo ++ vs ++ rest⟩ el) }) rfl rfl rfl rfl
      exact ⟨_, m', _, hrun, f3, hF0.trans f1, f2⟩
    split at ha
    · -- nil
      simp only [VR] at hx
      split at ha
      · rename_i hq
        simp only [Option.some.injEq, Prod.mk.injEq] at ha
        obtain ⟨rfl, rfl⟩ := ha
        exact ⟨vx, m, w, none0 hq none 0 0 hx (Nat.le_refl _), by simp only [VR]; exact hx, Fr.refl _ _ _, hH⟩
      · split at ha
        · rename_i hq hb
          simp only [Bool.and_eq_true] at hb
          split at ha
          · rename_i μ h1 hal
            simp only [Option.some.injEq, Prod.mk.injEq] at ha
            obtain ⟨rfl, rfl⟩ := ha
            have := fresh none 0 0 [] [] h true (noNamesL new) μ hx (by omega) (by rw [Nat.zero_add]; exact hb.1) hH (Fr.refl _ _ _) (fun w' _ => rfl) (by simp [VRl]) (by simp) (fun h => ⟨by simp [VRl], h⟩) (by simpa using hal)
            rwa [Nat.zero_add] at this
          · cases ha
        · cases ha
    · -- immutable
      rename_i cells n cp
      have hx' := hx
      simp only [VR] at hx
      obtain ⟨p, cap, hvx, hcap, h0, hn⟩ := hx
      split at ha
      · rename_i hq
        simp only [Option.some.injEq, Prod.mk.injEq] at ha
        obtain ⟨rfl, rfl⟩ := ha
        exact ⟨vx, m, w, none0 hq p n cap hvx hcap.1, hx', Fr.refl _ _ _, hH⟩
      · split at ha
        · rename_i k
          split at ha
          · rename_i hb
            obtain ⟨hb1, hb2, hb3, _, _⟩ := hb
            split at ha
            · rename_i μ h1 hal
              simp only [Option.some.injEq, Prod.mk.injEq] at ha
              obtain ⟨rfl, rfl⟩ := ha
              have hck : cap = k := hcap.2
              have hsx : seqOf h es (.isl cells n (.ex k)) = some (n, cells) := by simp [seqOf, hb2]
              obtain ⟨vo, ho1, ho2, _, ho4, _⟩ := seq_at hH hsx hx'
              rw [hvx] at ho4
              exact fresh p n cap cells vo h true _ μ hvx (by omega) hb3 hH (Fr.refl _ _ _) ho4 ho1 ho2 (fun hp => by
                simp only [Bool.and_eq_true] at hp; exact ⟨VRl.bare _ hp.2 ho1, hp.1⟩) hal
            · cases ha
          · cases ha
        · cases ha
    · -- a block of one's own
      rename_i ν off n cp
      have hx' := hx
      simp only [VR] at hx
      obtain ⟨hk, hsz, cap, hvx, hcap, hany⟩ := hx
      split at ha
      · rename_i hq
        simp only [Option.some.injEq, Prod.mk.injEq] at ha
        obtain ⟨rfl, rfl⟩ := ha
        exact ⟨vx, m, w, none0 hq _ n cap hvx hcap.1, hx', Fr.refl _ _ _, hH⟩
      · split at ha
        · rename_i cells k hg
          split at ha
          · rename_i hq hb
            obtain ⟨hb1, hb2, hb3, hone⟩ := hb
            -- written in place
            have inpl : ∀ cells', splice cells (off + n * es) new = some cells' → n + q ≤ cap → h' = h.set ν (.vec cells' { k with pur := k.pur && noNamesL new }) → v = .slc ν off (n + q) cp →
                Apx P w m h (Builtin.append_ #[st, xt] ty #[vx, vy]) v h' := by
              intro cells' hsp hle hh' hv'
              subst hh' hv'
              obtain ⟨f1, f2, f3⟩ := put_ok hH hg hvs hsp
              have hrun := run_append_in (P := P) ty hu hxt hxd hes (base := some ⟨(m ν).1, (m ν).2 + off, none⟩) (n := n) (cap := cap) hl (hf w rfl) hle
                (w' := w.setCells (m ν).1 ((m ν).2 + (off + n * es)) vs) (by simp only [addr_add, Nat.add_assoc]; simpa [Nat.add_assoc] using f3 hone)
              have hvx' : vx = .slice (some ⟨(m ν).1, (m ν).2 + off, none⟩) n cap := hvx
              rw [hvx']
              refine ⟨_, m, _, hrun, ?_, f1, f2⟩
              have hmono := VR.mono _ f1.le hx'
              rw [hvx'] at hmono
              simp only [VR] at hmono ⊢
              obtain ⟨g1, g2, cap', g3, g4, g5⟩ := hmono
              simp only [Value.slice.injEq, true_and] at g3
              obtain ⟨_, rfl⟩ := g3
              refine ⟨g1, g2, cap, rfl, ⟨hle, ?_⟩, g5⟩
              cases cp with
              | ex c => exact g4.2
              | any => trivial
            split at ha
            · rename_i c
              have hcc : cap = c := hcap.2
              split at ha
              · rename_i hle
                split at ha
                · rename_i cells' hsp
                  simp only [Option.some.injEq, Prod.mk.injEq] at ha
                  obtain ⟨rfl, rfl⟩ := ha
                  exact inpl cells' hsp (by omega) rfl rfl
                · cases ha
              · rename_i hle
                split at ha
                · rename_i hb
                  split at ha
                  · rename_i μ h1 hal
                    simp only [Option.some.injEq, Prod.mk.injEq] at ha
                    obtain ⟨rfl, rfl⟩ := ha
                    have hsx : seqOf h es (.slc ν off n (.ex c)) = some (n, (cells.drop off).take (n * es)) := by simp [seqOf, hg, hb.1]
                    obtain ⟨vo, ho1, ho2, _, ho4, ho5⟩ := seq_at hH hsx hx'
                    rw [hvx] at ho4
                    exact fresh _ n cap _ vo h true _ μ hvx (by omega) hb3 hH (Fr.refl _ _ _) ho4 ho1 ho2 (fun hp => by
                      simp only [Bool.and_eq_true] at hp; exact ⟨ho5 _ _ _ _ _ _ rfl hg hp.1, hp.2⟩) hal
                  · cases ha
                · cases ha
            · have hany' := hany rfl
              obtain ⟨_, _, arr, fz, b1, b2, b3, b4, b5⟩ := hH.blk ν _ hg
              have b1' : w.heap[(m ν).1]? = some (.cells arr k.el fz) := b1
              have hshape : w.shape? (m ν).1 = some (k.el, arr.size) := by simp [World.shape?, b1']
              have hcapeq : (m ν).2 + off + cap * es = arr.size := by
                have := hany' k.el arr.size hshape
                rw [b5, hb2] at this
                exact this
              split at ha
              · rename_i hb
                split at ha
                · rename_i cells' hsp
                  simp only [Option.some.injEq, Prod.mk.injEq] at ha
                  obtain ⟨rfl, rfl⟩ := ha
                  refine inpl cells' hsp ?_ rfl rfl
                  have : (n + q) * es ≤ cap * es := by omega
                  exact Nat.le_of_mul_le_mul_right this hb.2
                · cases ha
              · split at ha
                · rename_i hb
                  obtain ⟨hb4, hb5⟩ := hb
                  split at ha
                  · rename_i μ h1 hal
                    simp only [Option.some.injEq, Prod.mk.injEq] at ha
                    obtain ⟨rfl, rfl⟩ := ha
                    have hsx : seqOf h es (.slc ν off n .any) = some (n, (cells.drop off).take (n * es)) := by simp [seqOf, hg]; omega
                    have htk : (cells.drop off).take (n * es) = cells.drop off := List.take_of_length_le (by simp; omega)
                    rw [htk] at hsx
                    obtain ⟨vo, ho1, ho2, _, ho4, ho5⟩ := seq_at hH hsx hx'
                    by_cases hle : n + q ≤ cap
                    · -- in place: the block under a new name
                      have hvsl := hvs.length
                      obtain ⟨e1, e2, e3, e4, e5⟩ := setCells_rest (m ν).1 vs ((m ν).2 + off + n * es) w
                      have hsum : (n + q) * es = n * es + q * es := Nat.add_mul _ _ _
                      have hcap2 : (n + q) * es ≤ cap * es := Nat.mul_le_mul_right _ hle
                      obtain ⟨arr', c1, c2, c3, c4⟩ := setCells_block (m ν).1 k.el fz vs ((m ν).2 + off + n * es) w arr b1' (by omega)
                      have hlo : (cells.drop off).length = n * es := by simp; omega
                      obtain ⟨f1, f2, f3⟩ := take_ok hH ((m ν).2 + off) hg hal e1 e2 e3 e4 e5 (by simp [World.shape?, b1', c1, c2]) (fun hle' => by
                        refine ⟨arr', fz, hb1 ▸ c1, ?_, by simp only [List.length_append, hlo, hnl]; omega, fun i hi hi2 => b4 i (by omega) (by omega), cellsOf_of hes⟩
                        obtain ⟨vs0, d1, d2⟩ := (b2.drop off).vals
                        have hold : VRl P (cells.drop off) ((cx m h w).of (k.pur && noNamesL new)) vs0 := by
                          cases hp : k.pur with
                          | false => rw [hp] at d1; simpa [Ctx.of] using d1
                          | true =>
                            rw [hp] at d1
                            cases hn : noNamesL new with
                            | true => simpa [Ctx.of] using d1
                            | false => exact VRl.mono _ (CLe.unbare _) d1
                        have hnew : VRl P new ((cx m h w).of (k.pur && noNamesL new)) vs := by
                          cases hp : k.pur with
                          | false => simpa [Ctx.of] using hvs
                          | true =>
                            cases hn : noNamesL new with
                            | true => exact VRl.bare new hn hvs
                            | false => simpa [Ctx.of] using hvs
                        refine VRm.of_vals (VRl.mono _ (hle'.of _) (hold.append hnew)) fun j v hj => ?_
                        rw [Ctx.of_w]
                        have d0 := d1.length
                        rw [hlo] at d0
                        have hcell : ∀ i, (cx (upd m μ ((m ν).1, (m ν).2 + off)) h1 (w.setCells (m ν).1 ((m ν).2 + off + n * es) vs)).w.cell? ⟨(m ν).1, i, none⟩ = arr'[i]? := fun i => by
                          simp [cx, World.cell?, c1]
                        rw [hcell]
                        by_cases hj1 : j < n * es
                        · rw [List.getElem?_append_left (by omega)] at hj
                          rw [c3 _ (by omega)]
                          have := d2 j v hj
                          rw [Ctx.of_w] at this
                          simpa [cx, World.cell?, b1'] using this
                        · rw [List.getElem?_append_right (by omega), d0] at hj
                          have := c4 (j - n * es) v hj
                          rwa [show (m ν).2 + off + n * es + (j - n * es) = (m ν).2 + off + j by omega] at this)
                      have hst : (storeCells (⟨(m ν).1, (m ν).2 + off + n * es, none⟩ : Addr) vs).run P w = .ok () (w.setCells (m ν).1 ((m ν).2 + off + n * es) vs) := by
                        have := run_storeCells_cells (P := P) (m ν).1 ((m ν).2 + off + n * es) vs 0 w (fun j hj => by
                            have : (m ν).2 + off + n * es + j < arr.size := by omega
                            simp [World.cell?, b1', this]) (fun j hj => by
                            have := b4 ((m ν).2 + off + n * es + j) (by omega) (by omega)
                            simp only [World.frozen?, b1', Nat.add_zero]
                            rw [Bool.and_eq_false_iff]
                            simp only [decide_eq_false_iff_not]
                            omega) (fun v hm => allOne_ok hone hvs v hm)
                        simpa using this
                      have hrun := run_append_in (P := P) ty hu hxt hxd hes (base := some ⟨(m ν).1, (m ν).2 + off, none⟩) (n := n) (cap := cap) hl (hf w rfl) hle
                        (w' := w.setCells (m ν).1 ((m ν).2 + off + n * es) vs) (by simpa only [addr_add] using hst)
                      have hvx' : vx = .slice (some ⟨(m ν).1, (m ν).2 + off, none⟩) n cap := hvx
                      rw [hvx']
                      refine ⟨_, _, _, hrun, ?_, f1, f2⟩
                      simp only [VR, cx, upd_same]
                      refine ⟨f3, by rw [e4]; exact hsz, cap, by simp, ⟨hle, trivial⟩, fun _ el' s hs => ?_⟩
                      have hs' : w.shape? (m ν).1 = some (el', s) := by
                        rw [hshape]
                        have : (w.setCells (m ν).1 ((m ν).2 + off + n * es) vs).shape? (m ν).1 = some (k.el, arr'.size) := by simp [World.shape?, c1]
                        rw [this, c2] at hs
                        exact hs
                      have : (m ν).2 + off + cap * P.cellsOf el' = s := hany' el' s hs'
                      simpa using this
                    · obtain ⟨k1, k2⟩ := kill_ok hH ν
                      rw [hvx] at ho4
                      exact fresh _ n cap _ vo (h.kill ν) true _ μ hvx (by omega) hb3 k2 k1 ho4 (VRl.mono _ k1.le ho1) ho2 (fun hp => by
                        simp only [Bool.and_eq_true] at hp; exact ⟨VRl.mono _ k1.le.bare (ho5 _ _ _ _ _ _ rfl hg hp.1), hp.2⟩) hal
                  · cases ha
                · cases ha
          · cases ha
        · cases ha
    · cases ha

end
end Go.Eng

namespace Go.Eng

section
variable {P : Program} {o : Oper} {a : Act} {w : World} {m : Gh} {h : AHeap} {tm : Tr}

theorem OpOk.of_apx {s : Sem Value} {v : AV} {h' : AHeap} (he : execOp a.eval o = (do pure (.value (← s)))) (hs : Apx P w m h s v h') : OpOk P o a w m h v h' := by
  obtain ⟨cv, m', w', h1, h2, h3, h4⟩ := hs
  exact OpOk.val (by rw [he]; exact (by simp [h1])) h2 h3 h4

theorem op_append {c : Call} (hop : o.op = .call c) (hc : c.callee = .builtin .append) {s x : Operand} (hx : c.args.toList = [s, x]) {st xt el : TypeId} (ht : c.argTypes.toList = [st, xt])
    (hu : P.underlying st = some (.slice el)) {xd : TypeDesc} (hxt : P.underlying xt = some xd) (hxd : ∀ k, xd ≠ .int k) {es bytes : Nat} (hes : sz? P el = some es) (hby : bytes? P el = some bytes) {z : List AV}
    (hz : zeros? P el = some z) (hzl : z.length = es) {s' x' : AX} (hs' : trX s = some s') (hx' : trX x = some x') {at_ : Option Nat} {v : AV} {h' : AHeap}
    (hT : TR P tm (cx m h w) a) (hH : HR P m h w) (ha : aop (.append el es bytes s' x') tm h at_ = some (v, h')) : OpOk P o a w m h v h' := by
  obtain ⟨callee, args, ts⟩ := c
  simp only at hc hx ht
  subst hc
  obtain rfl : args = #[s, x] := by cases args; simp at hx; subst hx; rfl
  obtain rfl : ts = #[st, xt] := by cases ts; simp at ht; subst ht; rfl
  simp only [aop] at ha
  refine OpOk.of_apx ?_ (append_ok hH o.type hu hxt hxd hes hby hz hzl (trX_ok hs' hT) (trX_ok hx' hT) ha)
  rw [builtin_run hop]
  simp [builtin]

theorem copy_ok (hH : HR P m h w) {dt st el : TypeId} (ty : TypeId) (ts : Array TypeId) (hts : ts[0]? = some dt) (hu : P.underlying dt = some (.slice el)) {es : Nat} (hes : sz? P el = some es) {x y : AV} {vx vy : Value} (hx : VR P x (cx m h w) vx)
    (hy : VR P y (cx m h w) vy) {v : AV} {h' : AHeap} (ha : copyA h es x y = some (v, h')) (_ : st = st) : Apx P w m h (Builtin.copy_ ts ty #[vx, vy]) v h' := by
  unfold copyA at ha
  split at ha
  · rename_i q cs n hsq hln
    obtain ⟨vs, hvs, hnl, hl, _, hf, _, _⟩ := seq_ok hH hsq hy
    obtain ⟨p, cap, hvx⟩ : ∃ p cap, vx = .slice p n cap := by
      cases x <;> simp only [lenA, Option.some.injEq, reduceCtorEq] at hln <;> simp only [VR] at hx
      · subst hln; exact ⟨_, _, hx⟩
      · subst hln; obtain ⟨_, _, cap, hx, _⟩ := hx; exact ⟨_, _, hx⟩
      · subst hln; obtain ⟨p, cap, hx, _⟩ := hx; exact ⟨_, _, hx⟩
    have hrun : ∀ w', (match p with | some adr => storeCells adr (vs.take (min q n * es)) | none => pure ()).run P w = .ok () w' →
        (Builtin.copy_ ts ty #[vx, vy]).run P w = .ok (.int .i64 ((min q n : Nat) : Int)) w' := fun w' hst => by
      have hf' := hf (min q n) (Nat.min_le_left _ _) w rfl
      simp only [Builtin.copy_, hts, List.getElem?_toArray, List.getElem?_cons_zero, List.getElem?_cons_succ, Sem.run_bind, run_underlying hu, Result.andThen_ok, hvx, hl, run_sizeOf hes]
      have e : Nat.min q n = min q n := rfl
      rw [e, hf']
      simp only [Result.andThen_ok]
      cases p with
      | none => simp only [Sem.run_pure, Result.ok.injEq, true_and] at hst; subst hst; rfl
      | some adr => simp only [Sem.run_bind]; simp only at hst; rw [hst]; rfl
    simp only at ha
    split at ha
    · rename_i hk
      simp only [Option.some.injEq, Prod.mk.injEq] at ha
      obtain ⟨rfl, rfl⟩ := ha
      have hr := hrun w (by rw [hk]; simp only [Nat.zero_mul, List.take_zero]; cases p <;> rfl)
      rw [hk] at hr
      exact ⟨_, m, w, hr, vr_int, Fr.refl _ _ _, hH⟩
    · split at ha
      · rename_i hk ν off n' cp
        split at ha
        · rename_i cells k hg
          split at ha
          · rename_i hone
            split at ha
            · rename_i cells' hsp
              simp only [Option.some.injEq, Prod.mk.injEq] at ha
              obtain ⟨rfl, rfl⟩ := ha
              simp only [VR] at hx
              obtain ⟨_, _, cap', hx, _⟩ := hx
              rw [hvx] at hx
              simp only [Value.slice.injEq] at hx
              obtain ⟨hp, _, _⟩ := hx
              obtain ⟨f1, f2, f3⟩ := put_ok hH hg (hvs.take (min q n * es)) hsp
              refine ⟨_, m, _, hrun _ ?_, vr_int, f1, f2⟩
              rw [hp]
              exact f3 hone
            · cases ha
          · cases ha
        · cases ha
      · cases ha
  · cases ha

theorem op_copy {c : Call} (hop : o.op = .call c) (hc : c.callee = .builtin .copy) {d s : Operand} (hx : c.args.toList = [d, s]) {dt el : TypeId} {ts' : List TypeId} (ht : c.argTypes.toList = dt :: ts')
    (hu : P.underlying dt = some (.slice el)) {es : Nat} (hes : sz? P el = some es) {d' s' : AX} (hd' : trX d = some d') (hs' : trX s = some s') {at_ : Option Nat} {v : AV} {h' : AHeap}
    (hT : TR P tm (cx m h w) a) (hH : HR P m h w) (ha : aop (.copy es d' s') tm h at_ = some (v, h')) : OpOk P o a w m h v h' := by
  obtain ⟨callee, args, ts⟩ := c
  simp only at hc hx ht
  subst hc
  obtain rfl : args = #[d, s] := by cases args; simp at hx; subst hx; rfl
  simp only [aop] at ha
  refine OpOk.of_apx ?_ (copy_ok hH o.type ts (by rw [← Array.getElem?_toList, ht]; rfl) hu hes (trX_ok hd' hT) (trX_ok hs' hT) ha (rfl : dt = dt))
  rw [builtin_run hop]
  simp [builtin]

theorem zeroCells_repeat {c : Ctx} {z : List AV} {vz : Value} (hz : VRl P z c vz.cells.toList) (n : Nat) : VRl P (repeatL z n) c (Builtin.zeroCells vz.cells n).toList := by
  have := hz.repeat n
  simp only [Builtin.zeroCells, zeroRow]
  rwa [← Array.length_toList]

theorem clear_ok (hH : HR P m h w) {t : TypeId} (ty : TypeId) {sk : TK} {z : List AV} (hk : (sk = .slice ∧ ∃ el, P.underlying t = some (.slice el) ∧ zeros? P el = some z) ∨ (sk = .map ∧ ∃ kt el, P.underlying t = some (.map kt el)))
    {x : AV} {vx : Value} (hx : VR P x (cx m h w) vx) {h' : AHeap} (ha : clearA h sk z x = some h') : Apx P w m h (Builtin.clear_ #[t] ty #[vx]) (.tup []) h' := by
  have vr0 : ∀ c, VR P (.tup []) c (.tuple #[]) := fun c => by simp only [VR, VRl]; exact ⟨[], rfl, rfl⟩
  have triv : ∀ {hh : AHeap}, h = hh → (Builtin.clear_ #[t] ty #[vx]).run P w = .ok (.tuple #[]) w → Apx P w m h (Builtin.clear_ #[t] ty #[vx]) (.tup []) hh := fun e hr => by
    subst e; exact ⟨_, m, w, hr, vr0 _, Fr.refl _ _ _, hH⟩
  have hd : ∃ d, P.underlying t = some d := by
    rcases hk with ⟨_, el, hu, _⟩ | ⟨_, kt, el, hu⟩ <;> exact ⟨_, hu⟩
  obtain ⟨d, hd⟩ := hd
  unfold clearA at ha
  split at ha
  · simp only [Option.some.injEq] at ha
    simp only [VR] at hx; subst hx
    exact triv ha (by simp [Builtin.clear_, run_underlying hd])
  · simp only [Option.some.injEq] at ha
    simp only [VR] at hx; subst hx
    exact triv ha (by simp [Builtin.clear_, run_underlying hd])
  · split at ha
    · rename_i hn
      simp only [Option.some.injEq] at ha
      simp only [VR] at hx
      obtain ⟨p, cap, hx, _⟩ := hx
      subst hx hn
      exact triv ha (by cases p <;> cases d <;> simp [Builtin.clear_, run_underlying hd])
    · cases ha
  · rename_i ν off n cp
    have hx' := hx
    simp only [VR] at hx
    obtain ⟨_, _, cap, hx, _⟩ := hx
    split at ha
    · rename_i hn
      simp only [Option.some.injEq] at ha
      subst hx hn
      exact triv ha (by cases d <;> simp [Builtin.clear_, run_underlying hd])
    · rename_i hn
      split at ha
      · rename_i cells k hg
        simp only at ha
        split at ha
        · rename_i hone
          split at ha
          · rename_i cells' hsp
            simp only [Option.some.injEq] at ha
            subst ha
            rcases hk with ⟨_, el, hu, hz⟩ | ⟨hk, _⟩
            · obtain ⟨vz, hz1, hz2⟩ := zeros_ok hz (cx m h w) w
              obtain ⟨f1, f2, f3⟩ := put_ok hH hg (zeroCells_repeat hz2 n) hsp
              refine ⟨_, m, _, ?_, vr0 _, f1, f2⟩
              have hx'' : vx = .slice (some ⟨(m ν).1, (m ν).2 + off, none⟩) n cap := hx
              obtain ⟨j, rfl⟩ : ∃ j, n = j + 1 := ⟨n - 1, by omega⟩
              simp only [Builtin.clear_, List.getElem?_toArray, List.getElem?_cons_zero, Sem.run_bind, run_underlying hu, Result.andThen_ok, hx'', hz1]
              rw [f3 hone]
              rfl
            · cases hk
          · cases ha
        · cases ha
      · cases ha
  · rename_i ν
    simp only [VR] at hx
    obtain ⟨_, hx⟩ := hx
    split at ha
    · rename_i es clock hg
      simp only [Option.some.injEq] at ha
      subst ha
      obtain ⟨es', h1, h2⟩ := map_at hH hg
      obtain ⟨f1, f2⟩ := write_ok (y := .amap [] clock) hH hg (w' := { w with heap := w.heap.setIfInBounds (m ν).1 (.map #[] clock) }) rfl rfl rfl (by simp) (fun b hb => by simp [Ne.symm hb]) (by
        simp [World.shape?, h1]
        have := (hH.blk ν _ hg).2.1
        simp [this]) (fun hl => ⟨(hH.blk ν _ hg).2.2.1, [], by
          have := (hH.blk ν _ hg).2.1
          simp [cx, this], rfl⟩)
      refine ⟨_, m, _, ?_, vr0 _, f1, f2⟩
      have hx'' : vx = .map (some (m ν).1) := hx
      simp [Builtin.clear_, run_underlying hd, hx'', run_getObj h1 (by simp), setObj, Sem.run, h1]
    · cases ha
  · cases ha

end
end Go.Eng

namespace Go.Eng

section
variable {P : Program} {o : Oper} {a : Act} {w : World} {m : Gh} {h : AHeap} {tm : Tr}

theorem vr_tup0 {c : Ctx} : VR P (.tup []) c (.tuple #[]) := by simp only [VR, VRl]; exact ⟨[], rfl, rfl⟩

theorem op_clear {c : Call} (hop : o.op = .call c) (hc : c.callee = .builtin .clear) {x : Operand} (hx : c.args.toList = [x]) {t : TypeId} (ht : c.argTypes.toList = [t]) {sk : TK} {z : List AV}
    (hk : (sk = .slice ∧ ∃ el, P.underlying t = some (.slice el) ∧ zeros? P el = some z) ∨ (sk = .map ∧ ∃ kt el, P.underlying t = some (.map kt el))) {x' : AX} (hx' : trX x = some x') {at_ : Option Nat} {v : AV} {h' : AHeap}
    (hT : TR P tm (cx m h w) a) (hH : HR P m h w) (ha : aop (.clear sk z x') tm h at_ = some (v, h')) : OpOk P o a w m h v h' := by
  obtain ⟨callee, args, ts⟩ := c
  simp only at hc hx ht
  subst hc
  obtain rfl : args = #[x] := by cases args; simp at hx; subst hx; rfl
  obtain rfl : ts = #[t] := by cases ts; simp at ht; subst ht; rfl
  simp only [aop] at ha
  obtain ⟨hcl, rfl⟩ := noV_some ha
  refine OpOk.of_apx ?_ (clear_ok hH o.type hk (trX_ok hx' hT) hcl)
  rw [builtin_run hop]
  simp [builtin]

/-- a map's block, written -/
theorem map_write (hH : HR P m h w) {ν : Nat} {es : List (AV × AV × Nat)} {clock : Nat} (hg : h.get ν = some (.amap es clock)) {es2 : List (AV × AV × Nat)} {es2' : List MapEntry} {clock2 : Nat} (hm : MR P es2 (cx m h w) es2') :
    Fr m h w m (h.set ν (.amap es2 clock2)) { w with heap := w.heap.setIfInBounds (m ν).1 (.map ⟨es2'⟩ clock2) } ∧
    HR P m (h.set ν (.amap es2 clock2)) { w with heap := w.heap.setIfInBounds (m ν).1 (.map ⟨es2'⟩ clock2) } := by
  obtain ⟨es', h1, h2⟩ := map_at hH hg
  have hs := (hH.blk ν _ hg).2.1
  have e : w.heap[(m ν).1] = .map ⟨es'⟩ clock := by rw [Array.getElem?_eq_getElem hs] at h1; exact Option.some.inj h1
  exact write_ok (y := .amap es2 clock2) hH hg rfl rfl rfl (by simp) (fun b hb => by simp [Ne.symm hb]) (by simp [World.shape?, hs, e])
    (fun hl => ⟨(hH.blk ν _ hg).2.2.1, es2', by simp [cx, hs], hm.mono hl⟩)

theorem MR.append {c : Ctx} : ∀ {es : List (AV × AV × Nat)} {es' : List MapEntry} {e2 : List (AV × AV × Nat)} {e2' : List MapEntry}, MR P es c es' → MR P e2 c e2' → MR P (es ++ e2) c (es' ++ e2')
  | [], _, _, _, h, k => by simp only [MR] at h; subst h; simpa using k
  | (k, v, n) :: es, _, _, _, h, hk => by
    simp only [MR] at h
    obtain ⟨e, r', rfl, a1, a2, a3, hr⟩ := h
    simp only [List.cons_append, MR]
    exact ⟨e, _, rfl, a1, a2, a3, hr.append hk⟩
theorem MR.setEntry {c : Ctx} {k v : AV} {vk vv : Value} (hk : VR P k c vk) (hv : VR P v c vv) : ∀ {es : List (AV × AV × Nat)} {es' : List MapEntry} (i : Nat), MR P es c es' →
    MR P (setEntry k v es i) c (es'.modify i fun e => { e with key := vk, val := vv })
  | [], _, i, h => by simp only [MR] at h; subst h; simp [Go.Eng.setEntry, MR]
  | (k0, v0, n) :: es, _, 0, h => by
    simp only [MR] at h
    obtain ⟨e, r', rfl, a1, a2, a3, hr⟩ := h
    simp only [Go.Eng.setEntry, List.modify_zero_cons, MR]
    exact ⟨_, _, rfl, hk, hv, a3, hr⟩
  | (k0, v0, n) :: es, _, i + 1, h => by
    simp only [MR] at h
    obtain ⟨e, r', rfl, a1, a2, a3, hr⟩ := h
    simp only [Go.Eng.setEntry, List.modify_succ_cons, MR]
    exact ⟨_, _, rfl, a1, a2, a3, MR.setEntry hk hv i hr⟩
theorem MR.dropEntry {c : Ctx} : ∀ {es : List (AV × AV × Nat)} {es' : List MapEntry} (i : Nat), MR P es c es' → MR P (dropEntry es i) c (es'.eraseIdx i)
  | [], _, i, h => by simp only [MR] at h; subst h; simp [Go.Eng.dropEntry, MR]
  | (k0, v0, n) :: es, _, 0, h => by
    simp only [MR] at h
    obtain ⟨e, r', rfl, a1, a2, a3, hr⟩ := h
    simpa [Go.Eng.dropEntry] using hr
  | (k0, v0, n) :: es, _, i + 1, h => by
    simp only [MR] at h
    obtain ⟨e, r', rfl, a1, a2, a3, hr⟩ := h
    simp only [Go.Eng.dropEntry, List.eraseIdx_cons_succ, MR]
    exact ⟨_, _, rfl, a1, a2, a3, MR.dropEntry i hr⟩

theorem sameBits_scalar {x y : Value} (h : match x, y with | .bool a, .bool b => a = b | .int j a, .int k b => j = k ∧ a = b | .string a, .string b => a = b | _, _ => False) (n : Nat) :
    Instr.sameBits n x y = true ∧ Instr.sameBits n y x = true := by
  cases x <;> cases y <;> simp only at h
  · subst h; cases n <;> simp [Instr.sameBits]
  · obtain ⟨rfl, rfl⟩ := h; cases n <;> simp [Instr.sameBits]
  · subst h; cases n <;> simp [Instr.sameBits, beq_toListBytes]

/-- two keys that are equal are one value -/
theorem eqOne_same {k : TK} (hk : (match k with | .bool | .int | .str => true | _ => false) = true) {x y : AV} (h : eqOne k x y = some true) {c d : Ctx} {vx vy : Value} (hx : VR P x c vx) (hy : VR P y d vy) (n : Nat) :
    Instr.sameBits n vx vy = true ∧ Instr.sameBits n vy vx = true := by
  refine sameBits_scalar ?_ n
  cases k <;> first | (cases hk; done) | skip
  all_goals (cases x <;> cases y <;> simp only [eqOne, reduceCtorEq] at h)
  · simp only [VR] at hx hy; subst hx hy; simpa using h
  · simp only [VR] at hx hy; subst hx hy
    split at h
    · rename_i hjk; exact ⟨hjk, by simpa using h⟩
    · cases h
  · simp only [VR] at hx hy; subst hx hy; simp only [Option.some.injEq, beq_iff_eq] at h; subst h; rfl
theorem eqCells_same : ∀ {ks : List TK} (_ : (ks.all fun | .bool | .int | .str => true | _ => false) = true) {xs ys : List AV} (_ : eqCells ks xs ys = some true) {c d : Ctx} {vx vy : List Value} (_ : VRl P xs c vx)
    (_ : VRl P ys d vy) (n : Nat), vx.length = vy.length ∧ ((vx.zip vy).all fun (x, y) => Instr.sameBits n x y) = true ∧ ((vy.zip vx).all fun (x, y) => Instr.sameBits n x y) = true
  | [], _, [], [], _, _, _, _, _, hx, hy, n => by simp only [VRl] at hx hy; subst hx hy; exact ⟨rfl, rfl, rfl⟩
  | [], _, [], _ :: _, h, _, _, _, _, _, _, _ => by simp [eqCells] at h
  | [], _, _ :: _, _, h, _, _, _, _, _, _, _ => by simp [eqCells] at h
  | _ :: _, _, [], _, h, _, _, _, _, _, _, _ => by simp [eqCells] at h
  | _ :: _, _, _ :: _, [], h, _, _, _, _, _, _, _ => by simp [eqCells] at h
  | k :: ks, hp, x :: xs, y :: ys, h, c, d, vx, vy, hx, hy, n => by
    simp only [List.all_cons, Bool.and_eq_true] at hp
    simp only [VRl] at hx hy
    obtain ⟨v1, r1, rfl, hv1, hr1⟩ := hx
    obtain ⟨v2, r2, rfl, hv2, hr2⟩ := hy
    simp only [eqCells] at h
    split at h
    · rename_i he
      obtain ⟨e1, e2, e3⟩ := eqCells_same hp.2 h hr1 hr2 n
      obtain ⟨e4, e5⟩ := eqOne_same hp.1 he hv1 hv2 n
      refine ⟨by simp [e1], ?_, ?_⟩ <;> simp only [List.zip_cons_cons, List.all_cons, Bool.and_eq_true]
      · exact ⟨e4, e2⟩
      · exact ⟨e5, e3⟩
    · cases h
    · cases h
theorem eqA_same {k : TK} (hk : k.plain = true) {x y : AV} (h : eqA k x y = some true) {c d : Ctx} {vx vy : Value} (hx : VR P x c vx) (hy : VR P y d vy) (n : Nat) : Instr.sameBits (n + 1) vy vx = true := by
  unfold eqA at h
  split at h
  · simp only [TK.plain] at hk
    simp only [VR] at hx hy
    obtain ⟨vx', rfl, hx⟩ := hx
    obtain ⟨vy', rfl, hy⟩ := hy
    obtain ⟨e1, _, e2⟩ := eqCells_same hk h hx hy n
    simp only [Instr.sameBits, Bool.and_eq_true]
    refine ⟨by simpa using e1.symm, by simpa using e2⟩
  · rename_i hns
    refine (eqOne_same ?_ h hx hy (n + 1)).2
    cases k <;> simp only [TK.plain] at hk ⊢ <;> first | rfl | (cases hk; done) | skip
    -- structs that are no aggregates
    unfold eqOne at h
    split at h <;> first | (cases h; done) | (rename_i hq; cases hq)

/-- the entry that a search finds holds an equal key -/
theorem findA_at {tk : TK} {k : AV} {c : Ctx} : ∀ {es : List (AV × AV × Nat)} {es' : List MapEntry} {i j : Nat} {v : AV}, findA tk k es i = some (some (j, v)) → MR P es c es' →
    i ≤ j ∧ ∃ e', es'[j - i]? = some e' ∧ ∃ k', eqA tk k k' = some true ∧ VR P k' c e'.key
  | [], _, _, _, _, h, _ => by simp [findA] at h
  | (k0, v0, n) :: es, _, i, j, v, h, hm => by
    simp only [MR] at hm
    obtain ⟨e, r', rfl, a1, a2, a3, hr⟩ := hm
    simp only [findA] at h
    split at h
    · rename_i he
      simp only [Option.some.injEq, Prod.mk.injEq] at h
      obtain ⟨rfl, rfl⟩ := h
      exact ⟨Nat.le_refl _, e, by simp, k0, he, a1⟩
    · obtain ⟨h1, e', h2, h3⟩ := findA_at h hr
      refine ⟨by omega, e', ?_, h3⟩
      rw [show j - i = (j - (i + 1)) + 1 by omega]
      simpa using h2
    · cases h

theorem mapUpd_ok (hH : HR P m h w) {t kt el : TypeId} (hu : P.underlying t = some (.map kt el)) {x k v : AV} {vx vk vv : Value} (hx : VR P x (cx m h w) vx) (hk : VR P k (cx m h w) vk) (hv : VR P v (cx m h w) vv) {h' : AHeap}
    (ha : mapUpdA h (tkOf P kt) x k v = some h') : ∃ w', (Instr.mapUpdate t vx vk vv).run P w = .ok () w' ∧ Fr m h w m h' w' ∧ HR P m h' w' := by
  unfold mapUpdA at ha
  split at ha
  · rename_i hp
    split at ha
    · rename_i ν
      simp only [VR] at hx
      obtain ⟨_, rfl⟩ := hx
      split at ha
      · rename_i es clock hg
        obtain ⟨es', h1, h2⟩ := map_at hH hg
        split at ha
        · rename_i r0 i v0 he hf
          simp only [Option.some.injEq] at ha
          subst ha
          obtain ⟨r', h3, v', rfl, h4⟩ := findKey_ok hp hk w hf h2
          obtain ⟨_, e', h5, k', h6, h7⟩ := findA_at hf h2
          simp only [Nat.sub_zero] at h5
          have hsame : Instr.sameBits (9999 + 1) e'.key vk = true := eqA_same hp h6 hk h7 9999
          obtain ⟨f1, f2⟩ := map_write (clock2 := clock) hH hg (h2.setEntry hk hv i)
          refine ⟨_, ?_, f1, f2⟩
          simp only [Instr.mapUpdate, Sem.run_bind, run_underlying hu, Result.andThen_ok, cx, run_getObj h1 (by simp), check_ok hp he hk, h3]
          have h5' : (⟨es'⟩ : Array MapEntry)[i]? = some e' := by simpa using h5
          have hst : (Instr.keyThatStays e'.key vk).run P w = .ok vk w := by
            unfold Instr.keyThatStays
            rw [show Instr.sameBits 10000 e'.key vk = true from hsame]
            rfl
          simp only [h5', Option.map_some, Option.getD_some, hst, Result.andThen_ok, setObj, Sem.run, h1]
          congr 2
          congr 2
          apply Array.ext'
          simp
        · rename_i r0 he hf
          simp only [Option.some.injEq] at ha
          subst ha
          obtain ⟨r', h3, h4⟩ := findKey_ok hp hk w hf h2
          simp only [FR] at h4
          subst h4
          obtain ⟨f1, f2⟩ := map_write (clock2 := clock + 1) hH hg (h2.append (e2 := [(k, v, clock)]) (e2' := [⟨vk, vv, clock⟩]) (by simp only [MR]; exact ⟨_, _, rfl, hk, hv, rfl, rfl⟩))
          refine ⟨_, ?_, f1, f2⟩
          simp only [Instr.mapUpdate, Sem.run_bind, run_underlying hu, Result.andThen_ok, cx, run_getObj h1 (by simp), check_ok hp he hk, h3, setObj, Sem.run, h1]
          simp
        · cases ha
      · cases ha
    · cases ha
  · cases ha

end
end Go.Eng

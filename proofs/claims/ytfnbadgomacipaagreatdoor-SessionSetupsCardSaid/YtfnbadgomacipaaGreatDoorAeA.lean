/- An evaluator of the model by which a run is reckoned: part 1. -/
import GoSem.Step
import Derived.AtR
import Derived.Calls
import Derived.Laws.Sem
import Derived.Laws.World
import Derived.Laws.Strings
import Derived.Laws.BytesArg
import Derived.Laws.StructEq
/- A deterministic evaluator over an own heap: values, heap, code. -/
namespace Go.Ae
open Go

/-- Where a slice lies: nowhere (nil), nowhere that can be told (empty, not nil), in a block from a cell on. -/
inductive SA where
  | nil
  | emp
  | pos (b o : Nat)
  deriving Inhabited, DecidableEq

inductive AV where
  | bool (b : Bool)
  | int (k : IntKind) (n : Int)
  | flt (k : FloatKind) (bits : Nat)
  | str (s : List UInt8)
  | ptr (a : Option (Nat × Nat))
  | slc (a : SA) (n c es : Nat)
  | map (r : Option Nat)
  | fn (f : Fn) (first caps : List AV)
  | nilFn
  | ifc (t : TypeId) (v : AV)
  | nilIfc
  | agg (l : List AV)
  | tup (l : List AV)
  deriving Inhabited

abbrev und : AV := .tup []

inductive Opd where
  | t (n : Nat)
  | c (v : AV)
  | g (n : Nat)
  | f (n : Nat)
  deriving Inhabited

/-- Library functions without a body that are met. -/
inductive Xt where
  | ld (n : Nat)
  | st
  | add (k : IntKind)
  | cas
  | nop
  | nop1
  | cnt
  | add64
  | sub64
  | f32bits
  | f64bits
  | idxb
  | swap
  deriving Inhabited, DecidableEq

inductive IOp where
  | mv (x : Opd)
  | pick (c a b : Opd)
  | alloc (e : TypeId) (z : List AV)
  | box (e : TypeId) (n : Nat) (x : Opd)
  | build (z : List AV) (ps : List (Nat × Nat × Opd))
  | buildS (e : TypeId) (es len : Nat) (z : List AV) (ps : List (Nat × Nat × Opd))
  | ld (x : Opd)
  | ldN (n : Nat) (x : Opd)
  | st (n : Nat) (x v : Opd)
  | nilc (x : Opd)
  | bin (op : BinOp) (x y : Opd)
  | eqP (kk : Nat) (ne : Bool) (x y : Opd)
  | eqB (ne : Bool) (x y : Opd)
  | eqA (ne : Bool) (ks : List Nat) (x y : Opd)
  | un (op : UnOp) (x : Opd)
  | cvI (k : IntKind) (x : Opd)
  | cvF (k : FloatKind) (x : Opd)
  | cvSB (e : TypeId) (x : Opd)
  | cvBS (x : Opd)
  | cvIS (x : Opd)
  | cvSl (x : Opd)
  | cvPU (x : Opd)
  | cvUP (t : TypeId) (n : Nat) (x : Opd)
  | mkI (t : TypeId) (x : Opd)
  | mkF (fn : Fn) (first caps : List Opd)
  | mkMap
  | mkS (e : TypeId) (es bytes : Nat) (z : List AV) (n c : Opd)
  | slStr (x : Opd) (lo hi : Option Opd)
  | slSl (es : Nat) (x : Opd) (lo hi mx : Option Opd)
  | slArr (n es : Nat) (x : Opd) (lo hi : Option Opd)
  | off (o : Nat) (x : Opd)
  | fld (o : Nat) (x : Opd)
  | fldN (o n : Nat) (x : Opd)
  | ixS (es : Nat) (x i : Opd)
  | ixA (n es : Nat) (x i : Opd)
  | iaA (n es : Nat) (ag : Bool) (x i : Opd)
  | ixStr (x i : Opd)
  | lk (kk : Nat) (z : AV) (ok : Bool) (m k : Opd)
  | mup (kk : Nat) (m k v : Opd)
  | rngS (x : Opd)
  | nxtS (x : Opd)
  | ta (t : TypeId) (z : AV) (ok : Bool) (x : Opd)
  | ext (x : Opd) (i : Nat)
  | s2a (n : Nat) (x : Opd)
  | len (k : Nat) (x : Opd)
  | lenC (n : Nat) (x : Opd)
  | cap (x : Opd)
  | mx (l : List Opd)
  | mn (l : List Opd)
  | del (kk : Nat) (m k : Opd)
  | apd (e : TypeId) (es bytes : Nat) (s x : Opd)
  | cpy (es : Nat) (d s : Opd)
  | call (f : Nat) (args : List Opd)
  | callV (fn : Opd) (args : List Opd)
  | inv (m : Nat) (recv : Opd) (args : List Opd)
  | xt (x : Xt) (args : List Opd)
  | dfr (fn : Opd) (args : List Opd)
  | pan (x : Opd)
  | rcv
  | bad
  deriving Inhabited

structure IOper where
  d : Option Nat
  g : Option (Nat × Bool)
  o : IOp
  deriving Inhabited

/-- What an operation is in a region whose order is open: without memory; a reader (from which effect on, up to which); what lays new memory (its slot); an effect (the slots that it needs). -/
inductive DI where
  | p
  | r (lo hi : Nat)
  | al (slot : Nat)
  | ef (needs : List Nat)
  deriving Inhabited

inductive IC where
  | skip
  | ops (l : List IOper)
  | draw (n : Nat) (l : List (IOper × DI))
  | seq (a b : IC)
  | cond (c : Opd) (a b : IC)
  | block (id : Nat) (a : IC)
  | loop (a : IC)
  | rf (f : Opd) (ps : List Nat) (asg body : IC)
  | exit (id : Nat)
  | scope (a : IC)
  | label (l : Nat)
  | goto (l : Nat)
  | ret
  deriving Inhabited

inductive RV where
  | t (n : Nat)
  | c (a : Nat)
  | cN (n a : Nat)
  deriving Inhabited

structure IFun where
  nt : Nat
  res : List RV
  body : IC
  deriving Inhabited

/-- A jump out of a loop over a function. -/
inductive Jmp where
  | ret
  | exit (id : Nat)
  | goto (l : Nat)
  deriving Inhabited, DecidableEq

inductive ADef where
  | call (f : Nat) (args : List AV)
  | coll (r : Nat)
  deriving Inhabited

inductive AObj where
  | cells (cs : List AV) (e : TypeId) (ro : Bool)
  | map (es : List (AV × AV × Nat)) (clock : Nat)
  | loop (st : LoopState) (pend : Option Jmp) (fn : Nat) (env : List AV) (ps : List Nat) (asg body : IC) (dfd : Nat)
  | dfr (live : Bool)
  | iter (s : List UInt8) (pos : Nat)
  | dead
  deriving Inhabited

/-! ### The heap -/
inductive Tr (α : Type) where
  | nil
  | node (v : Option α) (l r : Tr α)
  deriving Inhabited

namespace Tr
def get {α : Type} : Tr α → Nat → Option α
  | nil, _ => none
  | node v l r, k => bif Nat.beq k 0 then v else bif Nat.beq (k % 2) 1 then l.get (k / 2) else r.get (k / 2 - 1)
def setF {α : Type} : Nat → Tr α → Nat → α → Tr α
  | 0, t, _, _ => t
  | n + 1, nil, k, x => bif Nat.beq k 0 then node (some x) nil nil else bif Nat.beq (k % 2) 1 then node none (setF n nil (k / 2) x) nil else node none nil (setF n nil (k / 2 - 1) x)
  | n + 1, node v l r, k, x => bif Nat.beq k 0 then node (some x) l r else bif Nat.beq (k % 2) 1 then node v (setF n l (k / 2) x) r else node v l (setF n r (k / 2 - 1) x)
def set {α : Type} (t : Tr α) (k : Nat) (x : α) : Tr α := setF (k + 1) t k x
end Tr

structure AW where
  nx : Nat
  tr : Tr AObj
  deriving Inhabited

namespace AW
def get (A : AW) (i : Nat) : Option AObj := A.tr.get i
def set (A : AW) (i : Nat) (o : AObj) : AW := ⟨A.nx, A.tr.set i o⟩
def new (A : AW) (o : AObj) : AW := ⟨A.nx + 1, A.tr.set A.nx o⟩
end AW

/-- Program tables. -/
structure Tab where
  fns : Tr IFun
  meth : TypeId → Nat → Option Nat

/-! ### One operation -/
def ev (env : List AV) : Opd → AV
  | .t n => env.getD n und
  | .c v => v
  | .g n => .ptr (some (n, 0))
  | .f n => .fn (.func n) [] []

inductive ORes where
  | val (v : AV) (A : AW)
  | call (f : Nat) (args : List AV)
  | rnd (l : Nat) (args : List AV)
  | dfr (d : ADef)
  | no
  deriving Inhabited

def cellsOf : AV → List AV
  | .agg l => l
  | v => [v]

def one : AV → Bool
  | .agg _ => false
  | .tup _ => false
  | _ => true

/-- the cells of a block from a place on, if so many are there -/
def rd (A : AW) (b o n : Nat) : Option (List AV) :=
  match A.get b with
  | some (.cells cs _ _) => bif Nat.ble (o + n) cs.length then some ((cs.drop o).take n) else none
  | _ => none

def rd1 (A : AW) (b o : Nat) : Option AV :=
  match A.get b with
  | some (.cells cs _ _) => cs[o]?
  | _ => none

def splice (cs : List AV) (o : Nat) (vs : List AV) : List AV := cs.take o ++ vs ++ cs.drop (o + vs.length)

def wr (A : AW) (b o : Nat) (vs : List AV) : Option AW :=
  match A.get b with
  | some (.cells cs e false) => bif Nat.ble (o + vs.length) cs.length && vs.all one then some (A.set b (.cells (splice cs o vs) e false)) else none
  | _ => none

/-- the parts of a struct or an array laid -/
def fillA : List AV → List (Nat × Nat × AV) → Option (List AV)
  | z, [] => some z
  | z, (o, n, v) :: rest =>
    bif Nat.beq (cellsOf v).length n && Nat.ble (o + n) z.length then fillA (splice z o (cellsOf v)) rest else none

def intArithA (op : BinOp) (k : IntKind) (x y : Int) : Option AV :=
  match op with
  | .add => some (.int k (k.wrap (x + y)))
  | .sub => some (.int k (k.wrap (x - y)))
  | .mul => some (.int k (k.wrap (x * y)))
  | .quo => bif y == 0 then none else some (.int k (k.wrap (x.tdiv y)))
  | .rem => bif y == 0 then none else some (.int k (x.tmod y))
  | .and => some (.int k (k.wrap (BitVec.ofInt k.bits x &&& BitVec.ofInt k.bits y).toNat))
  | .or => some (.int k (k.wrap (BitVec.ofInt k.bits x ||| BitVec.ofInt k.bits y).toNat))
  | .xor => some (.int k (k.wrap (BitVec.ofInt k.bits x ^^^ BitVec.ofInt k.bits y).toNat))
  | .andNot => some (.int k (k.wrap (BitVec.ofInt k.bits x &&& ~~~ (BitVec.ofInt k.bits y)).toNat))
  | .eql => some (.bool (x == y))
  | .neq => some (.bool (x != y))
  | .lss => some (.bool (decide (x < y)))
  | .leq => some (.bool (decide (x ≤ y)))
  | .gtr => some (.bool (decide (x > y)))
  | .geq => some (.bool (decide (x ≥ y)))
  | _ => none

def shiftA (op : BinOp) (k : IntKind) (x y : Int) : Option AV :=
  bif decide (y < 0) then none else
  match op with
  | .shl => some (.int k (k.wrap (x * 2 ^ (min y.toNat k.bits))))
  | .shr => some (.int k (x.fdiv (2 ^ (min y.toNat k.bits))))
  | _ => none

def fltA (op : BinOp) (k : FloatKind) (x y : Nat) : Option AV :=
  match op with
  | .add => (k.format.add x y).map (.flt k)
  | .sub => (k.format.sub x y).map (.flt k)
  | .mul => (k.format.mul x y).map (.flt k)
  | .quo => (k.format.div x y).map (.flt k)
  | .eql => some (.bool (k.format.order x y == some .eq))
  | .neq => some (.bool (k.format.order x y != some .eq))
  | .lss => some (.bool (k.format.order x y == some .lt))
  | .leq => some (.bool (k.format.order x y == some .lt || k.format.order x y == some .eq))
  | .gtr => some (.bool (k.format.order x y == some .gt))
  | .geq => some (.bool (k.format.order x y == some .gt || k.format.order x y == some .eq))
  | _ => none

def strA (op : BinOp) (x y : List UInt8) : Option AV :=
  match op with
  | .add => bif Nat.ble (x.length + y.length) 140737488355328 then some (.str (x ++ y)) else none
  | .eql => some (.bool (x == y))
  | .neq => some (.bool (!(x == y)))
  | .lss => some (.bool (Op.bytesLess x y))
  | .leq => some (.bool (Op.bytesLess x y || x == y))
  | .gtr => some (.bool (!(Op.bytesLess x y || x == y)))
  | .geq => some (.bool (!Op.bytesLess x y))
  | _ => none

def binA (op : BinOp) : AV → AV → Option AV
  | .int k a, .int k' b =>
    match op with
    | .shl => shiftA .shl k a b
    | .shr => shiftA .shr k a b
    | op => bif k == k' then intArithA op k a b else none
  | .flt k a, .flt k' b => bif k == k' then fltA op k a b else none
  | .str a, .str b => strA op a b
  | _, _ => none

/-- equality where nil is met: 0 pointers, 1 slices, 2 maps, 3 functions -/
def eqPA : Nat → AV → AV → Option Bool
  | 0, .ptr none, .ptr b => some b.isNone
  | 0, .ptr (some _), .ptr none => some false
  | 1, .slc .nil _ _ _, .slc a _ _ _ => some (a matches .nil)
  | 1, .slc a _ _ _, .slc .nil _ _ _ => some (a matches .nil)
  | 2, .map none, .map b => some b.isNone
  | 2, .map (some _), .map none => some false
  | 3, .nilFn, .nilFn => some true
  | 3, .nilFn, .fn .. => some false
  | 3, .fn .., .nilFn => some false
  | _, _, _ => none

/-- keys of one kind: 0 whole numbers, 1 texts, 2 bools -/
def keyEq : Nat → AV → AV → Option Bool
  | 0, .int k a, .int k' b => bif k == k' then some (a == b) else none
  | 1, .str a, .str b => some (a == b)
  | 2, .bool a, .bool b => some (a == b)
  | _, _, _ => none

/-- equality cell by cell, each of its kind -/
def eqCells : List Nat → List AV → List AV → Option Bool
  | [], [], [] => some true
  | k :: ks, x :: xs, y :: ys =>
    match keyEq k x y with
    | some true => eqCells ks xs ys
    | some false => some false
    | none => none
  | _, _, _ => none

def unA (op : UnOp) : AV → Option AV
  | .int k n => match op with
    | .neg => some (.int k (k.wrap (0 - n)))
    | .xor => some (.int k (k.wrap (BitVec.ofInt k.bits (bif k.signed then -1 else k.max) ^^^ BitVec.ofInt k.bits n).toNat))
    | _ => none
  | .flt k b => match op with
    | .neg => some (.flt k (Op.negFloat k b))
    | _ => none
  | .bool b => match op with
    | .not => some (.bool (!b))
    | _ => none
  | _ => none

/-- the bounds of a slice expression -/
def bnd (env : List AV) (x : Option Opd) (dflt most : Nat) : Option Nat :=
  match x with
  | none => bif Nat.ble dflt most then some dflt else none
  | some x => match ev env x with
    | .int _ i => bif decide (0 ≤ i) && decide (i ≤ (most : Int)) then some i.toNat else none
    | _ => none

def isU8 : AV → Option UInt8
  | .int .u8 n => some (UInt8.ofNat n.toNat)
  | _ => none

def bytesOfCells : List AV → Option (List UInt8)
  | [] => some []
  | v :: vs => match v with
    | .int .u8 n => match bytesOfCells vs with
      | some l => some (UInt8.ofNat n.toNat :: l)
      | none => none
    | _ => none

def cellsOfBytes (s : List UInt8) : List AV := s.map fun b => .int .u8 b.toNat

/-- what a slice or a string holds -/
def content (A : AW) (es : Nat) : AV → Option (List AV)
  | .str s => bif Nat.beq es 1 then some (cellsOfBytes s) else none
  | .slc .nil _ _ _ => some []
  | .slc .emp _ _ _ => some []
  | .slc (.pos b o) n _ es' => bif Nat.beq es es' then rd A b o (n * es) else none
  | _ => none

/-- where a key stands in a map, and what it holds -/
def findA (kk : Nat) (k : AV) : List (AV × AV × Nat) → Nat → Option (Option (Nat × AV))
  | [], _ => some none
  | (k', v, _) :: es, i =>
    match keyEq kk k k' with
    | some true => some (some (i, v))
    | some false => findA kk k es (i + 1)
    | none => none

def max2A : AV → AV → Option AV
  | .int k x, .int k' y => bif k == k' then some (.int k (bif decide (y > x) then y else x)) else none
  | _, _ => none

def min2A : AV → AV → Option AV
  | .int k x, .int k' y => bif k == k' then some (.int k (bif decide (y < x) then y else x)) else none
  | _, _ => none

def foldA (f : AV → AV → Option AV) : AV → List AV → Option AV
  | x, [] => some x
  | x, y :: ys => match f x y with
    | some z => foldA f z ys
    | none => none

def u64 (n : Nat) : AV := .int .u64 (n % 18446744073709551616 : Nat)

def big : Nat := 4294967296

end Go.Ae
/- The evaluator. -/
namespace Go.Ae
open Go

def oV (A : AW) : Option AV → ORes
  | some v => .val v A
  | none => .no

def oB (A : AW) (ne : Bool) : Option Bool → ORes
  | some b => .val (.bool (bif ne then !b else b)) A
  | none => .no

/-- new memory: what is laid, and the value that leads to it -/
def evNew (env : List AV) : IOp → Option (AObj × (Nat → AV))
  | .alloc e z => some (.cells z e false, fun i => .ptr (some (i, 0)))
  | .box e n x => bif Nat.beq (cellsOf (ev env x)).length n then some (.cells (cellsOf (ev env x)) e false, fun i => .ptr (some (i, 0))) else none
  | .buildS e es len z ps =>
    match fillA z (ps.map fun (o, n, x) => (o, n, ev env x)) with
    | some cs => some (.cells cs e false, fun i => .slc (.pos i 0) len len es)
    | none => none
  | .mkMap => some (.map [] 0, fun i => .map (some i))
  | .mkS e es bytes z n c =>
    match ev env n, ev env c with
    | .int .i64 n, .int .i64 c =>
      bif decide (0 ≤ n) && decide (n ≤ c) && Nat.ble c.toNat big && Nat.ble (c.toNat * bytes) big && Nat.ble (c.toNat * es) big then
        some (.cells ((List.replicate c.toNat z).flatten) e false, fun i => .slc (.pos i 0) n.toNat c.toNat es)
      else none
    | _, _ => none
  | .cvSB e x =>
    match ev env x with
    | .str s => some (.cells (cellsOfBytes s) e false, fun i => .slc (.pos i 0) s.length s.length 1)
    | _ => none
  | .rngS x =>
    match ev env x with
    | .str s => some (.iter s 0, fun i => .ptr (some (i, 0)))
    | _ => none
  | _ => none

def evCall (_T : Tab) (f : AV) (args : List AV) : ORes :=
  match f with
  | .fn (.func f) first caps => .call f (first ++ args ++ caps)
  | .fn (.yield l) first _ => .rnd l (first ++ args)
  | _ => .no

/-- the bytes of a text or of a slice of bytes -/
def txtA (A : AW) : AV → Option (List UInt8)
  | .str s => some s
  | x => match content A 1 x with
    | some cs => bytesOfCells cs
    | none => none

def evXt (A : AW) (x : Xt) (args : List AV) : ORes :=
  match x, args with
  | .f64bits, [.flt .f64 b] => .val (.int .u64 b) A
  | .idxb, [x, .int .u8 c] => match txtA A x with
    | some s => .val (.int .i64 (match (List.range s.length).find? (fun i => s.getD i 0 == UInt8.ofNat c.toNat) with | some i => (i : Int) | none => -1)) A
    | none => .no
  | _, _ => .no

def evOp (T : Tab) (env : List AV) (A : AW) (op : IOp) : ORes :=
  match op with
  | .mv x => .val (ev env x) A
  | .pick c a b => match ev env c with
    | .bool t => .val (bif t then ev env a else ev env b) A
    | _ => .no
  | .build z ps => match fillA z (ps.map fun (o, n, x) => (o, n, ev env x)) with
    | some cs => .val (.agg cs) A
    | none => .no
  | .ld x => match ev env x with
    | .ptr (some (b, o)) => oV A (rd1 A b o)
    | _ => .no
  | .ldN n x => match ev env x with
    | .ptr (some (b, o)) => match rd A b o n with
      | some l => .val (.agg l) A
      | none => .no
    | _ => .no
  | .st n x v => match ev env x with
    | .ptr (some (b, o)) =>
      bif Nat.beq (cellsOf (ev env v)).length n then
        match wr A b o (cellsOf (ev env v)) with
        | some A' => .val und A'
        | none => .no
      else .no
    | _ => .no
  | .nilc x => match ev env x with
    | .ptr (some a) => .val (.ptr (some a)) A
    | .fn (.func f) a b => .val (.fn (.func f) a b) A
    | .fn (.yield f) a b => .val (.fn (.yield f) a b) A
    | .ifc t v => .val (.ifc t v) A
    | _ => .no
  | .bin op x y => oV A (binA op (ev env x) (ev env y))
  | .eqP kk ne x y => oB A ne (eqPA kk (ev env x) (ev env y))
  | .eqB ne x y => match ev env x, ev env y with
    | .bool a, .bool b => .val (.bool (bif ne then !(a == b) else a == b)) A
    | _, _ => .no
  | .eqA ne ks x y => match ev env x, ev env y with
    | .agg xs, .agg ys => bif Nat.beq xs.length ks.length && Nat.beq ys.length ks.length then oB A ne (eqCells ks xs ys) else .no
    | _, _ => .no
  | .un op x => oV A (unA op (ev env x))
  | .cvI k x => match ev env x with
    | .int _ n => .val (.int k (k.wrap n)) A
    | _ => .no
  | .cvF k x => match ev env x with
    | .int _ n => .val (.flt k (k.nearest n)) A
    | _ => .no
  | .cvBS x => match content A 1 (ev env x) with
    | some cs => match bytesOfCells cs with
      | some s => .val (.str s) A
      | none => .no
    | none => .no
  | .cvIS x => match ev env x with
    | .str s => .val (.str s) A
    | _ => .no
  | .cvPU _ => .no
  | .cvUP .. => .no
  | .mkI t x => .val (.ifc t (ev env x)) A
  | .mkF fn first caps => .val (.fn fn (first.map (ev env)) (caps.map (ev env))) A
  | .slStr x lo hi => match ev env x with
    | .str s => match bnd env hi s.length s.length with
      | some h => match bnd env lo 0 h with
        | some l => .val (.str ((s.drop l).take (h - l))) A
        | none => .no
      | none => .no
    | _ => .no
  | .slSl es x lo hi mx => match ev env x with
    | .slc a n c es' => match bnd env mx c c with
      | some m => match bnd env hi n m with
        | some h => match bnd env lo 0 h with
          | some l =>
            match a with
            | .nil => .val (.slc .nil (h - l) (m - l) es) A
            | .emp => .val (.slc .emp (h - l) (m - l) es) A
            | .pos b o => bif Nat.beq es es' then .val (.slc (bif Nat.beq m l then (bif Nat.beq l 0 then .pos b o else .emp) else .pos b (o + l * es)) (h - l) (m - l) es) A else .no
          | none => .no
        | none => .no
      | none => .no
    | _ => .no
  | .slArr n es x lo hi => match ev env x with
    | .ptr (some (b, o)) => match bnd env hi n n with
      | some h => match bnd env lo 0 h with
        | some l => match A.get b with
          | some (.cells cs _ _) => bif Nat.ble (o + n * es) cs.length then .val (.slc (bif Nat.beq n l then .emp else .pos b (o + l * es)) (h - l) (n - l) es) A else .no
          | _ => .no
        | none => .no
      | none => .no
    | _ => .no
  | .off o x => match ev env x with
    | .ptr (some (b, p)) => .val (.ptr (some (b, p + o))) A
    | _ => .no
  | .fld o x => match ev env x with
    | .agg cs => oV A cs[o]?
    | _ => .no
  | .fldN o n x => match ev env x with
    | .agg cs => bif Nat.ble (o + n) cs.length then .val (.agg ((cs.drop o).take n)) A else .no
    | _ => .no
  | .ixS es x i => match ev env x, ev env i with
    | .slc (.pos b o) n _ es', .int _ i => bif Nat.beq es es' && decide (0 ≤ i) && decide (i < (n : Int)) then .val (.ptr (some (b, o + i.toNat * es))) A else .no
    | _, _ => .no
  | .ixA n es x i => match ev env x, ev env i with
    | .ptr (some (b, o)), .int _ i => bif decide (0 ≤ i) && decide (i < (n : Int)) then .val (.ptr (some (b, o + i.toNat * es))) A else .no
    | _, _ => .no
  | .iaA n es ag x i => match ev env x, ev env i with
    | .agg cs, .int _ i =>
      bif decide (0 ≤ i) && decide (i < (n : Int)) then
        bif ag then (bif Nat.ble (i.toNat * es + es) cs.length then .val (.agg ((cs.drop (i.toNat * es)).take es)) A else .no) else oV A cs[i.toNat * es]?
      else .no
    | _, _ => .no
  | .ixStr x i => match ev env x, ev env i with
    | .str s, .int _ i => bif decide (0 ≤ i) then (match s[i.toNat]? with
      | some b => .val (.int .u8 b.toNat) A
      | none => .no) else .no
    | _, _ => .no
  | .lk kk z ok m k => match ev env m with
    | .map none => .val (bif ok then .tup [z, .bool false] else z) A
    | .map (some r) => match A.get r with
      | some (.map es _) => match findA kk (ev env k) es 0 with
        | some (some (_, v)) => .val (bif ok then .tup [v, .bool true] else v) A
        | some none => .val (bif ok then .tup [z, .bool false] else z) A
        | none => .no
      | _ => .no
    | _ => .no
  | .mup kk m k v => match ev env m with
    | .map (some r) => match A.get r with
      | some (.map es c) => match findA kk (ev env k) es 0 with
        | some (some (i, _)) => .val und (A.set r (.map (es.modify i fun e => (ev env k, ev env v, e.2.2)) c))
        | some none => .val und (A.set r (.map (es ++ [(ev env k, ev env v, c)]) (c + 1)))
        | none => .no
      | _ => .no
    | _ => .no
  | .del kk m k => match ev env m with
    | .map none => .val und A
    | .map (some r) => match A.get r with
      | some (.map es c) => match findA kk (ev env k) es 0 with
        | some (some (i, _)) => .val und (A.set r (.map (es.eraseIdx i) c))
        | some none => .val und (A.set r (.map es c))
        | none => .no
      | _ => .no
    | _ => .no
  | .nxtS x => match ev env x with
    | .ptr (some (r, 0)) => match A.get r with
      | some (.iter s p) =>
        match s.drop p with
        | [] => .val (.tup [.bool false]) A
        | c :: _ => bif decide (c < 128) then .val (.tup [.bool true, .int .i64 p, .int .i32 c.toNat]) (A.set r (.iter s (p + 1))) else .no
      | _ => .no
    | _ => .no
  | .ta t z ok x => match ev env x with
    | .nilIfc => bif ok then .val (.tup [z, .bool false]) A else .no
    | .ifc t' v => bif Nat.beq t' t then .val (bif ok then .tup [v, .bool true] else v) A else (bif ok then .val (.tup [z, .bool false]) A else .no)
    | _ => .no
  | .ext x i => match ev env x with
    | .tup l => oV A l[i]?
    | _ => .no
  | .s2a n x => match ev env x with
    | .slc (.pos b o) l _ _ => bif Nat.ble n l then .val (.ptr (some (b, o))) A else .no
    | _ => .no
  | .len k x => match k, ev env x with
    | 0, .str s => .val (.int .i64 s.length) A
    | 1, .slc _ n _ _ => .val (.int .i64 n) A
    | 2, .map none => .val (.int .i64 0) A
    | 2, .map (some r) => match A.get r with
      | some (.map es _) => .val (.int .i64 es.length) A
      | _ => .no
    | _, _ => .no
  | .lenC .. => .no
  | .mx l => match l.map (ev env) with
    | [] => .no
    | x :: xs => oV A (foldA max2A x xs)
  | .mn l => match l.map (ev env) with
    | [] => .no
    | x :: xs => oV A (foldA min2A x xs)
  | .apd e es bytes s x => match ev env s with
    | .slc a n c es' => match content A es (ev env x) with
      | some new =>
        bif Nat.beq es 0 || !(new.all one) then .no else
        bif !(Nat.beq (new.length % es) 0) then .no else
        let need := n + new.length / es
        bif !(Nat.ble (need * bytes) big) || !(Nat.ble (need * es) big) then .no else
        match a with
        | .nil => bif Nat.beq new.length 0 then .val (.slc .nil 0 0 es) A else .val (.slc (.pos A.nx 0) need need es) (A.new (.cells new e false))
        | .emp => .no
        | .pos b o =>
          bif !(Nat.beq es es') then .no else
          bif Nat.ble need c then
            match wr A b (o + n * es) new with
            | some A' => .val (.slc (.pos b o) need c es) A'
            | none => .no
          else match A.get b with
            | some (.cells cs e' false) =>
              bif Nat.beq o 0 && Nat.beq cs.length (c * es) && Nat.beq e e' then
                .val (.slc (.pos A.nx 0) need need es) ((A.set b .dead).new (.cells (cs.take (n * es) ++ new) e false))
              else .no
            | _ => .no
      | none => .no
    | _ => .no
  | .cpy es d s => bif Nat.beq es 0 then .no else match ev env d with
    | .slc a n _ es' => match content A es (ev env s) with
      | some cs =>
        let m := min (cs.length / es) n
        match a with
        | .pos b o => bif Nat.beq es es' then
            match wr A b o (cs.take (m * es)) with
            | some A' => .val (.int .i64 m) A'
            | none => .no
          else .no
        | _ => bif Nat.beq n 0 then .val (.int .i64 0) A else .no
      | none => .no
    | _ => .no
  | .call f args => .call f (args.map (ev env))
  | .callV f args => evCall T (ev env f) (args.map (ev env))
  | .inv m r args => match ev env r with
    | .ifc t v => match T.meth t m with
      | some f => .call f (v :: args.map (ev env))
      | none => .no
    | _ => .no
  | .xt x args => evXt A x (args.map (ev env))
  | .dfr f args => match evCall T (ev env f) (args.map (ev env)) with
    | .call f l => .dfr (.call f l)
    | _ => .no
  | .pan _ => .no
  | .rcv => .no
  | .cap _ => .no
  | .cvSl x => match ev env x with
    | .slc (.pos b o) n c es => match A.get b with
      | some (.cells _ _ false) => .val (.slc (.pos b o) n c es) A
      | _ => .no
    | _ => .no
  | .bad => .no
  | op => match evNew env op with
    | some (o, f) => .val (f A.nx) (A.new o)
    | none => .no

/-! ### Code -/
inductive AEx where
  | norm
  | exit (id : Nat)
  | goto (l : Nat)
  | ret
  deriving Inhabited

/-- temporaries, deferred calls, the loop whose round this is, the heap -/
structure ASt where
  env : List AV
  dfs : List ADef
  rn : Option Nat
  A : AW
  deriving Inhabited

def ASt.put (s : ASt) (d : Option Nat) (v : AV) : ASt :=
  match d with
  | some d => { s with env := s.env.set d v }
  | none => s

/-- what calls do: of a function; of a round -/
structure Kont where
  call : Nat → List AV → AW → Option (AV × AW)
  rnd : Nat → List AV → AW → Option (AV × AW)

/-- is an operation wanted? -/
def want (env : List AV) : Option (Nat × Bool) → Bool
  | none => true
  | some (t, b) => match env[t]? with
    | some (.bool c) => c == b
    | _ => false

/-- one operation that is no deferring -/
def evStep (T : Tab) (K : Kont) (env : List AV) (A : AW) (o : IOp) : Option (AV × AW) :=
  match evOp T env A o with
  | .val v A => some (v, A)
  | .call f args => K.call f args A
  | .rnd l args => K.rnd l args A
  | _ => none

def evOps (T : Tab) (K : Kont) : List IOper → ASt → Option ASt
  | [], s => some s
  | x :: xs, s =>
    match want s.env x.g with
    | false => evOps T K xs (s.put x.d und)
    | true => match x.o with
      | .dfr f args => match evOp T s.env s.A (.dfr f args), s.rn with
        | .dfr d, none => evOps T K xs ({ s with dfs := d :: s.dfs }.put x.d und)
        | _, _ => none
      | o => match evStep T K s.env s.A o with
        | some (v, A) => evOps T K xs ({ s with A := A }.put x.d v)
        | none => none

/-- a region whose order is open: as the text has it; `hs`: the heaps behind the effects so far, the last one first; `ps`: new memory that is not laid yet; `cs`: readers to be asked again -/
structure DSt where
  env : List AV
  hs : List AW
  ps : List (Nat × AObj)
  cs : List (IOp × List AV × Nat × Nat × AV)

def AV.eqL (f : AV → AV → Bool) : List AV → List AV → Bool
  | [], [] => true
  | x :: xs, y :: ys => f x y && AV.eqL f xs ys
  | _, _ => false

def eqFlat : AV → AV → Bool
  | .bool a, .bool b => a == b
  | .int k a, .int k' b => k == k' && a == b
  | .flt k a, .flt k' b => k == k' && a == b
  | .str a, .str b => a == b
  | .ptr a, .ptr b => a == b
  | .slc a n c e, .slc a' n' c' e' => a == a' && n == n' && c == c' && e == e'
  | .map a, .map b => a == b
  | .nilFn, .nilFn => true
  | .nilIfc, .nilIfc => true
  | .fn f a b, .fn g c d => f == g && AV.eqL (fun x y => match x, y with
    | .ptr p, .ptr q => p == q
    | _, _ => false) a c && AV.eqL (fun x y => match x, y with
    | .ptr p, .ptr q => p == q
    | _, _ => false) b d
  | _, _ => false

def eqVal : AV → AV → Bool
  | .agg a, .agg b => AV.eqL eqFlat a b
  | .tup a, .tup b => AV.eqL eqFlat a b
  | a, b => eqFlat a b

def putE (env : List AV) (d : Option Nat) (v : AV) : List AV :=
  match d with
  | some d => env.set d v
  | none => env

def flush (base : Nat) (A : AW) : List (Nat × AObj) → AW
  | [] => A
  | (i, o) :: ps => flush base (A.set (base + i) o) ps

/-- one operation of such a region -/
def evD1 (T : Tab) (K : Kont) (base : Nat) (x : IOper) (i : DI) (s : DSt) : Option DSt :=
  match s.hs with
  | [] => none
  | A :: older =>
    match want s.env x.g with
    | false => match i with
      | .ef _ => some { s with env := putE s.env x.d und, hs := A :: A :: older }
      | _ => some { s with env := putE s.env x.d und }
    | true => match i with
      | .p => match evOp T s.env ⟨0, .nil⟩ x.o with
        | .val v _ => some { s with env := putE s.env x.d v }
        | _ => none
      | .r lo hi => match evOp T s.env A x.o with
        | .val v _ => some { s with env := putE s.env x.d v, cs := (x.o, s.env, lo, hi, v) :: s.cs }
        | _ => none
      | .al slot => match evNew s.env x.o with
        | some (o, f) => some { s with env := putE s.env x.d (f (base + slot)), ps := s.ps ++ [(slot, o)] }
        | none => none
      | .ef needs =>
        let A := flush base A (s.ps.filter fun p => needs.contains p.1)
        let ps := s.ps.filter fun p => !needs.contains p.1
        match evStep T K s.env A x.o with
        | some (v, A') => some { env := putE s.env x.d v, hs := A' :: s.hs, ps, cs := s.cs }
        | none => none

def evDs (T : Tab) (K : Kont) (base : Nat) : List (IOper × DI) → DSt → Option DSt
  | [], s => some s
  | (x, i) :: xs, s => match evD1 T K base x i s with
    | some s' => evDs T K base xs s'
    | none => none

/-- is a reader's value the same in all heaps from lo to hi? -/
def steady (T : Tab) (hs : List AW) (o : IOp) (env : List AV) (v : AV) : (n j : Nat) → Bool
  | 0, _ => true
  | n + 1, j => (match hs[j]? with
    | some A => (match evOp T env A o with
      | .val w _ => eqVal w v
      | _ => false)
    | none => false) && steady T hs o env v n (j + 1)

def evDraw (T : Tab) (K : Kont) (n : Nat) (l : List (IOper × DI)) (s : ASt) : Option ASt :=
  match evDs T K s.A.nx l { env := s.env, hs := [⟨s.A.nx + n, s.A.tr⟩], ps := [], cs := [] } with
  | some d =>
    match d.hs with
    | A :: _ =>
      bif d.cs.all fun (o, env, lo, hi, v) => steady T d.hs.reverse o env v (hi + 1 - lo) lo then
        some { s with env := d.env, A := flush s.A.nx A d.ps }
      else none
    | [] => none
  | none => none

/-- does a label stand in a row of code? -/
def hasL : IC → Nat → Bool
  | .seq a b, l => hasL a l || hasL b l
  | .label l', l => Nat.beq l' l
  | _, _ => false

/-- a scope: from its beginning or a label on, as often as a jump leads back into it -/
def scp (f : Option Nat → ASt → Option (AEx × ASt)) (has : Nat → Bool) : Nat → Option Nat → ASt → Option (AEx × ASt)
  | 0, _, _ => none
  | n + 1, m, s => match f m s with
    | some (.goto l, s') => bif has l then scp f has n (some l) s' else some (.goto l, s')
    | r => r

/-- rounds of a loop -/
def iter (f : ASt → Option (AEx × ASt)) : Nat → ASt → Option (AEx × ASt)
  | 0, _ => none
  | n + 1, s => match f s with
    | some (.norm, s') => iter f n s'
    | r => r

def jump : Jmp → AEx
  | .ret => .ret
  | .exit id => .exit id
  | .goto l => .goto l

def evRfGo (T : Tab) (K : Kont) (f : Opd) (l : Nat) (A : AW) (s : ASt) : Option (AEx × ASt) :=
  match evCall T (ev s.env f) [.fn (.yield l) [] []] with
  | .call g args => match K.call g args A with
    | some (_, A') => match A'.get l with
      | some (.loop st pend fn env ps asg body dfd) =>
        match st with
        | .busy => none
        | _ => some (match pend with | none => .norm | some j => jump j, { s with A := A'.set l (.loop .exhausted pend fn env ps asg body dfd) })
      | _ => none
    | _ => none
  | _ => none

def evRf (T : Tab) (K : Kont) (fn : Nat) (f : Opd) (ps : List Nat) (asg body : IC) (s : ASt) : Option (AEx × ASt) :=
  match s.rn with
  | some l =>
    match s.A.get l with
    | some (.loop _ _ _ _ _ _ _ dfd) => evRfGo T K f s.A.nx (s.A.new (.loop .ready none fn s.env ps asg body dfd)) s
    | _ => none
  | none => evRfGo T K f (s.A.nx + 1) ((s.A.new (.dfr true)).new (.loop .ready none fn s.env ps asg body s.A.nx)) { s with dfs := .coll s.A.nx :: s.dfs }

def evCode (T : Tab) (K : Kont) (n fn : Nat) : IC → Option Nat → ASt → Option (AEx × ASt)
  | .seq a b, none, s => match evCode T K n fn a none s with
    | some (.norm, s') => evCode T K n fn b none s'
    | r => r
  | .seq a b, some l, s => bif hasL a l then
      match evCode T K n fn a (some l) s with
      | some (.norm, s') => evCode T K n fn b none s'
      | r => r
    else evCode T K n fn b (some l) s
  | .label l', some l, s => bif Nat.beq l' l then some (.norm, s) else none
  | .skip, none, s => some (.norm, s)
  | .label _, none, s => some (.norm, s)
  | .ops l, none, s => match evOps T K l s with
    | some s' => some (.norm, s')
    | none => none
  | .draw m l, none, s => match evDraw T K m l s with
    | some s' => some (.norm, s')
    | none => none
  | .cond c a b, none, s => match ev s.env c with
    | .bool true => evCode T K n fn a none s
    | .bool false => evCode T K n fn b none s
    | _ => none
  | .block id a, none, s => match evCode T K n fn a none s with
    | some (.exit id', s') => bif Nat.beq id' id then some (.norm, s') else some (.exit id', s')
    | r => r
  | .loop a, none, s => iter (evCode T K n fn a none) n s
  | .rf f ps asg body, none, s => evRf T K fn f ps asg body s
  | .exit id, none, s => some (.exit id, s)
  | .goto l, none, s => some (.goto l, s)
  | .ret, none, s => some (.ret, s)
  | .scope a, none, s => scp (evCode T K n fn a) (hasL a) n none s
  | _, some _, _ => none

def resA (A : AW) (env : List AV) : List RV → Option (List AV)
  | [] => some []
  | r :: rs =>
    match (match r with
      | .t n => some (env.getD n und)
      | .c a => match env.getD a und with
        | .ptr (some (b, o)) => rd1 A b o
        | _ => none
      | .cN n a => match env.getD a und with
        | .ptr (some (b, o)) => (rd A b o n).map .agg
        | _ => none) with
    | some v => match resA A env rs with
      | some vs => some (v :: vs)
      | none => none
    | none => none

def packR : List AV → AV
  | [v] => v
  | vs => .tup vs

/-- the deferred calls of a frame that ends -/
def unw (K : Kont) : List ADef → AW → Option AW
  | [], A => some A
  | .coll r :: ds, A => match A.get r with
    | some (.dfr true) => unw K ds (A.set r (.dfr false))
    | _ => none
  | .call f args :: ds, A => match K.call f args A with
    | some (_, A') => unw K ds A'
    | none => none

def evFun (T : Tab) (K : Kont) (n f : Nat) (args : List AV) (A : AW) : Option (AV × AW) :=
  match T.fns.get f with
  | some F =>
    match evCode T K n f F.body none { env := args ++ List.replicate (F.nt - args.length) und, dfs := [], rn := none, A } with
    | some (ex, s) =>
      match (match ex with | .norm => true | .ret => true | _ => false) with
      | true => match unw K s.dfs s.A with
        | some A' => match resA A' s.env F.res with
          | some vs => some (packR vs, A')
          | none => none
        | none => none
      | false => none
    | none => none
  | none => none

def jumpOf : AEx → Option Jmp
  | .norm => none
  | .ret => some .ret
  | .exit id => some (.exit id)
  | .goto l => some (.goto l)

def evRnd (T : Tab) (K : Kont) (n l : Nat) (args : List AV) (A : AW) : Option (AV × AW) :=
  match A.get l with
  | some (.loop _ _ fn env ps asg body _) =>
    bif Nat.beq args.length ps.length then
      match evCode T K n fn asg none { env := (ps.zip args).foldl (fun e (t, a) => e.set t a) env, dfs := [], rn := some l, A } with
      | some (.norm, s) => match s.A.get l with
        | some (.loop .ready pend fn' env' ps' asg' body' dfd) =>
          match evCode T K n fn body none { s with A := s.A.set l (.loop .busy pend fn' env' ps' asg' body' dfd) } with
          | some (ex, s') =>
            match s'.A.get l with
            | some (.loop _ _ fn env ps asg body dfd) => some (.bool (jumpOf ex).isNone, s'.A.set l (.loop (bif (jumpOf ex).isNone then .ready else .done) (jumpOf ex) fn env ps asg body dfd))
            | _ => none
          | none => none
        | _ => none
      | _ => none
    else none
  | _ => none

/-- calls of a depth -/
def kont (T : Tab) : Nat → Kont
  | 0 => ⟨fun _ _ _ => none, fun _ _ _ => none⟩
  | n + 1 => ⟨evFun T (kont T n) n, evRnd T (kont T n) n⟩

end Go.Ae
/- From the model's code to the evaluator's. -/
namespace Go.Ae
open Go

def absB : Value → Option AV
  | .bool b => some (.bool b)
  | .int k n => some (.int k n)
  | .float k b => some (.flt k b)
  | .string s => some (.str s.data.toList)
  | .pointer none => some (.ptr none)
  | .slice none 0 0 => some (.slc .nil 0 0 0)
  | .map none => some (.map none)
  | .nilFunc => some .nilFn
  | .nilIface => some .nilIfc
  | _ => none

def absL : List Value → Option (List AV)
  | [] => some []
  | v :: vs => match absB v with
    | some x => match absL vs with
      | some xs => some (x :: xs)
      | none => none
    | none => none

def absC : Value → Option AV
  | .agg cs => (absL cs.toList).map .agg
  | .tuple cs => (absL cs.toList).map .tup
  | .iface t v => (absB v).map (.ifc t)
  | v => absB v

def opd (ng : Nat) : Operand → Option Opd
  | .tmp t => some (.t t)
  | .const v => (absC v).map .c
  | .global g => if g < ng then some (.g g) else none
  | .func f => some (.f f)

def opds (ng : Nat) : List Operand → Option (List Opd)
  | [] => some []
  | x :: xs => match opd ng x with
    | some y => match opds ng xs with
      | some ys => some (y :: ys)
      | none => none
    | none => none

def opdO (ng : Nat) : Option Operand → Option (Option Opd)
  | none => some none
  | some x => (opd ng x).map some

variable (P : Program)

def zeroC (t : TypeId) : Option (List AV) := do
  let i ← P.info? t
  let z ← i.zero
  absL z.cells.toList

def zeroV (t : TypeId) : Option AV := do
  let i ← P.info? t
  let z ← i.zero
  absC z

def szC (t : TypeId) : Option Nat := (P.info? t).map (·.size)

def aggC (t : TypeId) : Option Bool := (P.underlying t).map fun | .struct _ => true | .array _ _ => true | _ => false

def partsC (place : Nat → Option (Nat × Nat)) : List (Nat × Operand) → Option (List (Nat × Nat × Opd))
  | [] => some []
  | (i, x) :: ps => do
    let (o, n) ← place i
    let x ← opd P.globals.size x
    let ps ← partsC place ps
    some ((o, n, x) :: ps)

def keyK : TypeDesc → Option Nat
  | .int _ => some 0
  | .string => some 1
  | .bool => some 2
  | _ => none

/-- the kinds of the cells of fields that stand behind one another, without gaps, from a place on -/
def fieldsKs (f : TypeId → Option (List Nat)) : List Field → Nat → Option (List Nat)
  | [], _ => some []
  | x :: xs, n => bif x.name != "_" && x.offset == n then
      match f x.type with
      | some ks => match fieldsKs f xs (n + ks.length) with
        | some r => some (ks ++ r)
        | none => none
      | none => none
    else none

/-- the kinds of the cells of a type whose values can be compared cell by cell -/
def leafKs : Nat → TypeId → Option (List Nat)
  | 0, _ => none
  | d + 1, t => match P.underlying t, P.info? t with
    | some (.struct fs), some i => bif P.stoodInHeld t then none else
      match fieldsKs (leafKs d) fs.toList 0 with
      | some ks => bif i.size == ks.length then some ks else none
      | none => none
    | some u, some i => match keyK u with
      | some k => bif i.size == 1 then some [k] else none
      | none => none
    | _, _ => none

def binC (op : BinOp) (t : TypeId) (x y : Operand) : Option IOp := do
  let x ← opd P.globals.size x
  let y ← opd P.globals.size y
  let u ← P.underlying t
  match op, u with
  | .eql, .bool => some (.eqB false x y)
  | .neq, .bool => some (.eqB true x y)
  | .eql, .int _ | .neq, .int _ | .eql, .float _ | .neq, .float _ | .eql, .string | .neq, .string => some (.bin op x y)
  | .eql, .pointer _ => some (.eqP 0 false x y)
  | .neq, .pointer _ => some (.eqP 0 true x y)
  | .eql, .slice _ => some (.eqP 1 false x y)
  | .neq, .slice _ => some (.eqP 1 true x y)
  | .eql, .map _ _ => some (.eqP 2 false x y)
  | .neq, .map _ _ => some (.eqP 2 true x y)
  | .eql, .func _ _ _ => some (.eqP 3 false x y)
  | .neq, .func _ _ _ => some (.eqP 3 true x y)
  | .eql, .struct _ => if P.eqGuardType P.depth t then none else do some (.eqA false (← leafKs P 10 t) x y)
  | .neq, .struct _ => if P.eqGuardType P.depth t then none else do some (.eqA true (← leafKs P 10 t) x y)
  | .eql, _ | .neq, _ => none
  | op, .int _ | op, .float _ | op, .string => some (.bin op x y)
  | _, _ => none

def convC (s d : TypeId) (x : Operand) : Option IOp := do
  let x ← opd P.globals.size x
  let us ← P.underlying s
  let ud ← P.underlying d
  match us, ud with
  | .int _, .int k => some (.cvI k x)
  | .int _, .float k => some (.cvF k x)
  | .string, .string => some (.cvIS x)
  | .slice e, .string => match P.underlying e with
    | some (.int .u8) => some (.cvBS x)
    | _ => none
  | .string, .slice e => match P.underlying e with
    | some (.int .u8) => some (.cvSB e x)
    | _ => none
  | .pointer e, .unsafePointer => do
    let n ← szC P e
    if n == 0 then none else some (.cvPU x)
  | .unsafePointer, .pointer e => do
    let n ← szC P e
    if n == 0 then none else some (.cvUP e n x)
  | .slice _, .slice e => match s == d, P.underlying e with
    | true, some (.int .u8) => some (.cvSl x)
    | _, _ => none
  | _, _ => none

def xtC (fn : Func) : Option Xt :=
  if fn.origin == "" || fn.origin == fn.name then
    if fn.name == "math.Float64bits" then some .f64bits else
    if fn.name == "internal/bytealg.IndexByte" || fn.name == "internal/bytealg.IndexByteString" then some .idxb else none
  else none

def callC (mid : String → Option Nat) (c : Call) (_type : TypeId) : Option IOp := do
  let args ← opds P.globals.size c.args.toList
  match c.callee with
  | .value (.func f) => match P.funcs[f]? with
    | some fn => if fn.body.isSome then (if fn.name == "runtime.NumGoroutine" then none else some (.call f args)) else (xtC fn).map (.xt · args)
    | none => none
  | .value x => do some (.callV (← opd P.globals.size x) args)
  | .invoke r m => do some (.inv (← mid m) (← opd P.globals.size r) args)
  | .builtin b => match b, args with
    | .len, [x] => match (c.argTypes[0]?).bind P.underlying with
      | some (.array n _) => some (.lenC n x)
      | some .string => some (.len 0 x)
      | some (.slice _) => some (.len 1 x)
      | some (.map _ _) => some (.len 2 x)
      | _ => none
    | .cap, [x] => some (.cap x)
    | .append, [s, x] => match (c.argTypes[0]?).bind P.underlying, (c.argTypes[1]?).bind P.underlying with
      | some (.slice e), some (.slice _) | some (.slice e), some .string => do
        let i ← P.info? e
        let z ← i.zero
        if z.cells.size == i.size then some (.apd e i.size i.bytes s x) else none
      | _, _ => none
    | .copy, [d, s] => match (c.argTypes[0]?).bind P.underlying with
      | some (.slice e) => do some (.cpy (← szC P e) d s)
      | _ => none
    | .delete, [m, k] => match (c.argTypes[0]?).bind P.underlying with
      | some (.map kt _) => match P.underlying kt with
        | some u => do some (.del (← keyK u) m k)
        | none => none
      | _ => none
    | .max, l => some (.mx l)
    | .min, l => some (.mn l)
    | .panic, [x] => some (.pan x)
    | .recover, [] => some .rcv
    | _, _ => none

def opC (mid : String → Option Nat) (o : Oper) : Option IOp :=
  match o.op with
  | .move x | .assign x => (opd P.globals.size x).map .mv
  | .pick c a b => do some (.pick (← opd P.globals.size c) (← opd P.globals.size a) (← opd P.globals.size b))
  | .alloc e => do some (.alloc e (← zeroC P e))
  | .box e x => do some (.box e (← szC P e) (← opd P.globals.size x))
  | .build t parts => do
    let z ← zeroC P t
    match P.underlying t with
    | some (.struct fs) => do
      let pl ← fs.toList.mapM (fun f => (P.info? f.type).map fun i => (f.offset, i.size))
      some (.build z (← partsC P (fun i => pl.toArray[i]?) parts.toList))
    | some (.array _ e) => do let s ← szC P e; some (.build z (← partsC P (fun i => some (i * s, s)) parts.toList))
    | _ => none
  | .buildSlice t len parts => match P.underlying t with
    | some (.slice e) => do
      let s ← szC P e
      if len * s > 2 ^ 24 then none else
      let z ← zeroC P e
      if z.length != s then none else
      some (.buildS e s len (List.replicate len z).flatten (← partsC P (fun i => some (i * s, s)) parts.toList))
    | _ => none
  | .load t a => do let a ← opd P.globals.size a; if ← aggC P t then some (.ldN (← szC P t) a) else some (.ld a)
  | .store t a v => do some (.st (← szC P t) (← opd P.globals.size a) (← opd P.globals.size v))
  | .nilCheck x => do some (.nilc (← opd P.globals.size x))
  | .binOp op t x y _ => binC P op t x y
  | .unOp op _ x => do some (.un op (← opd P.globals.size x))
  | .convert s d x => convC P s d x
  | .sliceToArrayPointer t x => match P.underlying t with
    | some (.array n _) => do some (.s2a n (← opd P.globals.size x))
    | _ => none
  | .makeInterface t x => match P.underlying t with
    | some (.interface _) => none
    | some _ => do some (.mkI t (← opd P.globals.size x))
    | none => none
  | .makeFunc (.func f) first caps => do some (.mkF (.func f) (← opds P.globals.size first.toList) (← opds P.globals.size caps.toList))
  | .makeMap _ none => some .mkMap
  | .makeSlice t n c => match P.underlying t with
    | some (.slice e) => do
      let i ← P.info? e
      let z ← zeroC P e
      if z.length != i.size then none else
      some (.mkS e i.size i.bytes z (← opd P.globals.size n) (← opd P.globals.size c))
    | _ => none
  | .slice t x lo hi mx => do
    let x ← opd P.globals.size x
    let lo ← opdO P.globals.size lo
    let hi ← opdO P.globals.size hi
    let mx ← opdO P.globals.size mx
    match P.underlying t, mx with
    | some .string, none => some (.slStr x lo hi)
    | some (.slice e), mx => if mx.isSome && hi.isNone then none else do some (.slSl (← szC P e) x lo hi mx)
    | some (.array n e), none => do some (.slArr n (← szC P e) x lo hi)
    | _, _ => none
  | .fieldAddr s x f => match P.underlying s with
    | some (.struct fs) => do
      let f ← fs[f]?
      let n ← szC P f.type
      if n == 0 then none else some (.off f.offset (← opd P.globals.size x))
    | _ => none
  | .field t x f => match P.underlying t with
    | some (.struct fs) => do
      let f ← fs[f]?
      if ← aggC P f.type then some (.fldN f.offset (← szC P f.type) (← opd P.globals.size x)) else some (.fld f.offset (← opd P.globals.size x))
    | _ => none
  | .indexAddr t x i => match P.underlying t with
    | some (.slice e) => do some (.ixS (← szC P e) (← opd P.globals.size x) (← opd P.globals.size i))
    | some (.array n e) => do some (.ixA n (← szC P e) (← opd P.globals.size x) (← opd P.globals.size i))
    | _ => none
  | .index t x i => match P.underlying t with
    | some (.array n e) => do some (.iaA n (← szC P e) (← aggC P e) (← opd P.globals.size x) (← opd P.globals.size i))
    | some .string => do some (.ixStr (← opd P.globals.size x) (← opd P.globals.size i))
    | _ => none
  | .lookup t m k ok => match P.underlying t with
    | some (.map kt e) => match P.underlying kt with
      | some u => do some (.lk (← keyK u) (← zeroV P e) ok (← opd P.globals.size m) (← opd P.globals.size k))
      | none => none
    | _ => none
  | .mapUpdate t m k v | .insert t m k v => match P.underlying t with
    | some (.map kt _) => match P.underlying kt with
      | some u => do some (.mup (← keyK u) (← opd P.globals.size m) (← opd P.globals.size k) (← opd P.globals.size v))
      | none => none
    | _ => none
  | .range t x => match P.underlying t with
    | some .string => do some (.rngS (← opd P.globals.size x))
    | _ => none
  | .next it true => do some (.nxtS (← opd P.globals.size it))
  | .typeAssert x _ t ok => match P.underlying t with
    | some (.interface _) => none
    | some _ => do some (.ta t (← zeroV P t) ok (← opd P.globals.size x))
    | none => none
  | .extract x i => do some (.ext (← opd P.globals.size x) i)
  | .call c => callC P mid c o.type
  | .defer c => match c.callee with
    | .value x => do some (.dfr (← opd P.globals.size x) (← opds P.globals.size c.args.toList))
    | _ => none
  | .panic x => do some (.pan (← opd P.globals.size x))
  | _ => none

def guardC (ops : Array Oper) (o : Oper) : Option (Option (Nat × Bool)) :=
  match o.guard with
  | none => some none
  | some (j, b) => do
    let t ← (ops[j]?).bind (·.dst)
    some (some (t, b))

/-- 0: without memory; 1: a reader; 2: new memory; 3: an effect -/
def cls : IOp → Nat
  | .mv _ | .pick .. | .build .. | .nilc _ | .bin .. | .eqP .. | .eqB .. | .eqA .. | .un .. | .cvI .. | .cvF .. | .cvIS _ | .mkI .. | .mkF .. | .slStr .. | .slSl .. | .off .. | .fld .. | .fldN ..
  | .ixS .. | .ixA .. | .iaA .. | .ixStr .. | .ta .. | .ext .. | .s2a .. | .lenC .. | .mx _ | .mn _ => 0
  | .len .. => 1
  | .ld _ | .ldN .. | .cvBS _ | .lk .. | .slArr .. | .cvPU _ | .cvUP .. => 1
  | .alloc .. | .box .. | .buildS .. | .mkMap | .mkS .. | .rngS .. | .cvSB .. => 2
  | _ => 3

def operC (mid : String → Option Nat) (ops : Array Oper) (o : Oper) : Option IOper := do
  some ⟨o.dst, ← guardC ops o, (opC P mid o).getD .bad⟩

def opersC (mid : String → Option Nat) (ops : Array Oper) : List Oper → Option (List IOper)
  | [] => some []
  | o :: os => do
    let x ← operC P mid ops o
    let xs ← opersC mid ops os
    some (x :: xs)

/-- what stands ahead of an operation: as bits -/
def bitsOf (acc : Array Nat) (es : List Edge) : Nat :=
  match es with
  | [] => 0
  | e :: es => bif Region.binds .any e then 2 ^ e.on ||| acc.getD e.on 0 ||| bitsOf acc es else bitsOf acc es

def befL (acc : Array Nat) : List Oper → Array Nat
  | [] => acc
  | o :: os => befL (acc.push (bitsOf acc o.after.toList)) os

/-- the infos of a region whose order is open, out of what stands ahead of what -/
def posns (cs : List Nat) (k : Nat) : List Nat := (cs.zipIdx.filter (fun p => Nat.beq p.1 k)).map (·.2)

def infoOf (b : Array Nat) (effs als : List Nat) (c i : Nat) : DI :=
  match c with
  | 0 => .p
  | 1 => .r (effs.filter fun e => (b.getD i 0).testBit e).length (effs.takeWhile fun e => !(b.getD e 0).testBit i).length
  | 2 => .al (als.takeWhile (fun a => Nat.blt a i)).length
  | _ => .ef ((als.zipIdx.filter fun p => (b.getD i 0).testBit p.1).map (·.2))

def infos (b : Array Nat) (cs : List Nat) : List DI :=
  cs.zipIdx.map fun p => infoOf b (posns cs 3) (posns cs 2) p.1 p.2

/-- the temporaries that an operand names -/
def Opd.tmp : Opd → List Nat
  | .t n => [n]
  | _ => []

def tmpsO : Option Opd → List Nat
  | some x => x.tmp
  | none => []

def tmpsL (l : List Opd) : List Nat := l.flatMap Opd.tmp

/-- the temporaries that an operation names -/
def IOp.tmps : IOp → List Nat
  | .mv x | .box _ _ x | .ld x | .ldN _ x | .nilc x | .un _ x | .cvI _ x | .cvF _ x | .cvSB _ x | .cvBS x | .cvIS x | .cvSl x | .cvPU x | .cvUP _ _ x | .mkI _ x | .off _ x | .fld _ x | .fldN _ _ x
  | .rngS x | .nxtS x | .ta _ _ _ x | .ext x _ | .s2a _ x | .len _ x | .lenC _ x | .cap x | .pan x => x.tmp
  | .pick c a b => c.tmp ++ a.tmp ++ b.tmp
  | .build _ ps | .buildS _ _ _ _ ps => tmpsL (ps.map (·.2.2))
  | .st _ x y | .bin _ x y | .eqP _ _ x y | .eqB _ x y | .eqA _ _ x y | .ixS _ x y | .ixA _ _ x y | .iaA _ _ _ x y | .ixStr x y | .lk _ _ _ x y | .del _ x y | .apd _ _ _ x y | .cpy _ x y | .mkS _ _ _ _ x y => x.tmp ++ y.tmp
  | .mkF _ l r => tmpsL l ++ tmpsL r
  | .slStr x lo hi | .slArr _ _ x lo hi => x.tmp ++ tmpsO lo ++ tmpsO hi
  | .slSl _ x lo hi m3 => x.tmp ++ tmpsO lo ++ tmpsO hi ++ tmpsO m3
  | .mup _ x y z => x.tmp ++ y.tmp ++ z.tmp
  | .mx l | .mn l | .call _ l | .xt _ l => tmpsL l
  | .callV f l | .inv _ f l | .dfr f l => f.tmp ++ tmpsL l
  | .alloc .. | .mkMap | .rcv | .bad => []

/-- the temporaries that an operation reads or writes -/
def IOper.names (x : IOper) : List Nat := x.d.toList ++ (x.g.map (·.1)).toList ++ x.o.tmps

/-- who stands ahead of whom is told for all that name the same temporary, if one of them writes it -/
def namesOk (b : Array Nat) (l : List IOper) : Bool :=
  l.zipIdx.all fun (x, i) => x.names.all fun t => l.zipIdx.all fun (y, j) => y.d != some t || i == j || (b.getD (max i j) 0).testBit (min i j)

/-- effects stand in one row; names are well ordered; edges lead back -/
def drawOk (ops : Array Oper) (b : Array Nat) (l : List IOper) : Bool :=
  namesOk b l &&
  (ops.toList.zipIdx.all fun (o, i) => o.after.toList.all (fun e => !Region.binds .any e || Nat.blt e.on i)) &&
  ((posns (l.map (cls ·.o)) 3).all fun j => (posns (l.map (cls ·.o)) 3).all fun i => !(Nat.blt i j) || (b.getD j 0).testBit i)

/-- in each mode edges lead to what is ranked lower -/
def modesOk (ops : Array Oper) : Bool :=
  !Region.departs ops ||
  ((ops.toList.zipIdx.all fun p => p.1.after.toList.all (fun e => !Region.binds .text e || Nat.blt e.on p.2)) &&
   (ops.toList.zipIdx.all fun p => p.1.after.toList.all (fun e => !Region.binds .gc e || (Nat.blt ((Region.linearise .gc ops 0).idxOf e.on) ((Region.linearise .gc ops 0).idxOf p.2) && Nat.blt e.on ops.size))))

def codeC (mid : String → Option Nat) : Code → Option IC
  | .skip => some .skip
  | .region _ ops false => (opersC P mid ops ops.toList).map .ops
  | .region _ ops true => do
    let l ← opersC P mid ops ops.toList
    let cs := l.map (cls ·.o)
    let b := befL #[] ops.toList
    if drawOk ops b l && modesOk ops then some (.draw (posns cs 2).length (l.zip (infos b cs))) else none
  | .seq a b => do some (.seq (← codeC mid a) (← codeC mid b))
  | .cond c a b => do some (.cond (← opd P.globals.size c) (← codeC mid a) (← codeC mid b))
  | .block id a => do some (.block id (← codeC mid a))
  | .loop a => do some (.loop (← codeC mid a))
  | .rangeFunc f ps a b => do some (.rf (← opd P.globals.size f) ps.toList (← codeC mid a) (← codeC mid b))
  | .exit id => some (.exit id)
  | .scope a => do some (.scope (← codeC mid a))
  | .label l => some (.label l)
  | .goto l => some (.goto l)
  | .ret => some .ret
  | .refuse _ => some (.ops [⟨none, none, .bad⟩])

def resC : ResultVar → Option RV
  | .tmp t => some (.t t)
  | .cell a t => do if ← aggC P t then some (.cN (← szC P t) a) else some (.c a)

def resCs : List ResultVar → Option (List RV)
  | [] => some []
  | r :: rs => do some ((← resC P r) :: (← resCs rs))

def funC (mid : String → Option Nat) (fn : Func) : Option IFun := do
  let b ← fn.body
  some ⟨fn.ntmps, ← resCs P fn.results.toList, ← codeC P mid b⟩

end Go.Ae
/- How an own heap stands for the model's memory. -/
namespace Go.Ae
open Go

/-- Where blocks lie, and how many cells these have. -/
structure KW where
  ι : Nat → Option Nat
  σ : Nat → Nat

def KW.le (J J' : KW) : Prop := ∀ i b, J.ι i = some b → J'.ι i = some b ∧ J'.σ b = J.σ b
theorem KW.le_refl (J : KW) : KW.le J J := fun _ _ h => ⟨h, rfl⟩
theorem KW.le_trans {J J' J'' : KW} (h : KW.le J J') (h' : KW.le J' J'') : KW.le J J'' := fun i b hb =>
  have h1 := h i b hb
  have h2 := h' i b h1.1
  ⟨h2.1, h2.2.trans h1.2⟩

def FR (J : KW) : Fn → Fn → Prop
  | .yield l, f' => ∃ l', f' = .yield l' ∧ J.ι l = some l'
  | f, f' => f' = f

mutual
def VR (J : KW) : AV → Value → Prop
  | .bool b, v => v = .bool b
  | .int k n, v => v = .int k n
  | .flt k b, v => v = .float k b
  | .str s, v => ∃ t : ByteArray, v = .string t ∧ t.data.toList = s
  | .ptr none, v => v = .pointer none
  | .ptr (some (b, o)), v => ∃ b', v = .pointer (some ⟨b', o, none⟩) ∧ J.ι b = some b'
  | .slc .nil n c _, v => n = 0 ∧ c = 0 ∧ v = .slice none 0 0
  | .slc .emp n c _, v => n = 0 ∧ c = 0 ∧ ∃ a c', v = .slice (some a) 0 c'
  | .slc (.pos b o) n c es, v => ∃ b' c', v = .slice (some ⟨b', o, none⟩) n c' ∧ J.ι b = some b' ∧ n ≤ c ∧ c ≤ c' ∧ o + c' * es ≤ J.σ b'
  | .map none, v => v = .map none
  | .map (some r), v => ∃ r', v = .map (some r') ∧ J.ι r = some r'
  | .fn f fs cs, v => ∃ f' fs' cs', v = .func f' fs' cs' ∧ FR J f f' ∧ VRs J fs fs'.toList ∧ VRs J cs cs'.toList
  | .nilFn, v => v = .nilFunc
  | .ifc t x, v => ∃ x', v = .iface t x' ∧ VR J x x'
  | .nilIfc, v => v = .nilIface
  | .agg l, v => ∃ l', v = .agg l' ∧ VRs J l l'.toList
  | .tup l, v => ∃ l', v = .tuple l' ∧ VRs J l l'.toList
def VRs (J : KW) : List AV → List Value → Prop
  | [], vs => vs = []
  | x :: xs, vs => ∃ y ys, vs = y :: ys ∧ VR J x y ∧ VRs J xs ys
end

theorem FR.mono {J J' : KW} (h : KW.le J J') {f f' : Fn} (hf : FR J f f') : FR J' f f' := by
  cases f <;> simp only [FR] at hf ⊢ <;> first | exact hf | skip
  obtain ⟨l', e, hl⟩ := hf
  exact ⟨l', e, (h _ _ hl).1⟩

mutual
theorem VR.mono {J J' : KW} (h : KW.le J J') : ∀ (x : AV) (v : Value), VR J x v → VR J' x v
  | .bool b, v, hv => by simpa only [VR] using hv
  | .int k n, v, hv => by simpa only [VR] using hv
  | .flt k b, v, hv => by simpa only [VR] using hv
  | .str s, v, hv => by simpa only [VR] using hv
  | .ptr none, v, hv => by simpa only [VR] using hv
  | .ptr (some (b, o)), v, hv => by
    simp only [VR] at hv ⊢
    obtain ⟨b', e, hb⟩ := hv
    exact ⟨b', e, (h _ _ hb).1⟩
  | .slc .nil n c _, v, hv => by simpa only [VR] using hv
  | .slc .emp n c _, v, hv => by simpa only [VR] using hv
  | .slc (.pos b o) n c es, v, hv => by
    simp only [VR] at hv ⊢
    obtain ⟨b', c', e, hb, h1, h2, h3⟩ := hv
    exact ⟨b', c', e, (h _ _ hb).1, h1, h2, by rw [(h _ _ hb).2]; exact h3⟩
  | .map none, v, hv => by simpa only [VR] using hv
  | .map (some r), v, hv => by
    simp only [VR] at hv ⊢
    obtain ⟨b', e, hb⟩ := hv
    exact ⟨b', e, (h _ _ hb).1⟩
  | .fn f fs cs, v, hv => by
    simp only [VR] at hv ⊢
    obtain ⟨f', fs', cs', e, hf, h1, h2⟩ := hv
    exact ⟨f', fs', cs', e, hf.mono h, VRs.mono h _ _ h1, VRs.mono h _ _ h2⟩
  | .nilFn, v, hv => by simpa only [VR] using hv
  | .ifc t x, v, hv => by
    simp only [VR] at hv ⊢
    obtain ⟨x', e, hx⟩ := hv
    exact ⟨x', e, VR.mono h _ _ hx⟩
  | .nilIfc, v, hv => by simpa only [VR] using hv
  | .agg l, v, hv => by
    simp only [VR] at hv ⊢
    obtain ⟨l', e, hx⟩ := hv
    exact ⟨l', e, VRs.mono h _ _ hx⟩
  | .tup l, v, hv => by
    simp only [VR] at hv ⊢
    obtain ⟨l', e, hx⟩ := hv
    exact ⟨l', e, VRs.mono h _ _ hx⟩
theorem VRs.mono {J J' : KW} (h : KW.le J J') : ∀ (xs : List AV) (vs : List Value), VRs J xs vs → VRs J' xs vs
  | [], vs, hv => by simpa only [VRs] using hv
  | x :: xs, vs, hv => by
    simp only [VRs] at hv ⊢
    obtain ⟨y, ys, e, h1, h2⟩ := hv
    exact ⟨y, ys, e, VR.mono h _ _ h1, VRs.mono h _ _ h2⟩
end

section lists
variable {J : KW}
theorem VRs.nil : VRs J [] [] := by simp [VRs]
theorem VRs.cons {x : AV} {v : Value} {xs : List AV} {vs : List Value} (h : VR J x v) (hs : VRs J xs vs) : VRs J (x :: xs) (v :: vs) := by
  simp only [VRs]; exact ⟨v, vs, rfl, h, hs⟩
theorem VRs.of_cons {x : AV} {v : Value} {xs : List AV} {vs : List Value} (h : VRs J (x :: xs) (v :: vs)) : VR J x v ∧ VRs J xs vs := by
  simp only [VRs] at h
  obtain ⟨y, ys, e, h1, h2⟩ := h
  cases e; exact ⟨h1, h2⟩
theorem VRs.length {xs : List AV} : ∀ {vs : List Value}, VRs J xs vs → xs.length = vs.length := by
  induction xs with
  | nil => intro vs h; simp only [VRs] at h; subst h; rfl
  | cons x xs ih =>
    intro vs h; simp only [VRs] at h
    obtain ⟨y, ys, rfl, _, h2⟩ := h
    simp [ih h2]
theorem VRs.get {xs : List AV} : ∀ {vs : List Value} {i : Nat} {x : AV}, VRs J xs vs → xs[i]? = some x → ∃ v, vs[i]? = some v ∧ VR J x v := by
  induction xs with
  | nil => intro vs i x h hi; simp at hi
  | cons y ys ih =>
    intro vs i x h hi
    simp only [VRs] at h
    obtain ⟨z, zs, rfl, h1, h2⟩ := h
    cases i with
    | zero => simp at hi; subst hi; exact ⟨z, by simp, h1⟩
    | succ i => simp at hi; obtain ⟨v, hv, hr⟩ := ih h2 hi; exact ⟨v, by simpa using hv, hr⟩
theorem VRs.append {xs ys : List AV} : ∀ {vs us : List Value}, VRs J xs vs → VRs J ys us → VRs J (xs ++ ys) (vs ++ us) := by
  induction xs with
  | nil => intro vs us h h'; simp only [VRs] at h; subst h; simpa using h'
  | cons x xs ih =>
    intro vs us h h'
    simp only [VRs] at h
    obtain ⟨z, zs, rfl, h1, h2⟩ := h
    exact VRs.cons h1 (ih h2 h')
theorem VRs.take {xs : List AV} : ∀ {vs : List Value} (n : Nat), VRs J xs vs → VRs J (xs.take n) (vs.take n) := by
  induction xs with
  | nil => intro vs n h; simp only [VRs] at h; subst h; simp [VRs]
  | cons x xs ih =>
    intro vs n h
    simp only [VRs] at h
    obtain ⟨z, zs, rfl, h1, h2⟩ := h
    cases n with
    | zero => simp [VRs]
    | succ n => simp only [List.take_succ_cons]; exact VRs.cons h1 (ih n h2)
theorem VRs.drop {xs : List AV} : ∀ {vs : List Value} (n : Nat), VRs J xs vs → VRs J (xs.drop n) (vs.drop n) := by
  induction xs with
  | nil => intro vs n h; simp only [VRs] at h; subst h; simp [VRs]
  | cons x xs ih =>
    intro vs n h
    simp only [VRs] at h
    obtain ⟨z, zs, rfl, h1, h2⟩ := h
    cases n with
    | zero => exact VRs.cons h1 h2
    | succ n => simpa using ih n h2
theorem VRs.set {xs : List AV} : ∀ {vs : List Value} (i : Nat) {x : AV} {v : Value}, VRs J xs vs → VR J x v → VRs J (xs.set i x) (vs.set i v) := by
  induction xs with
  | nil => intro vs i x v h hx; simp only [VRs] at h; subst h; simp [VRs]
  | cons y ys ih =>
    intro vs i x v h hx
    simp only [VRs] at h
    obtain ⟨z, zs, rfl, h1, h2⟩ := h
    cases i with
    | zero => exact VRs.cons hx h2
    | succ i => exact VRs.cons h1 (ih i h2 hx)
theorem VRs.replicate {x : AV} {v : Value} (h : VR J x v) (n : Nat) : VRs J (List.replicate n x) (List.replicate n v) := by
  induction n with
  | zero => simp [VRs]
  | succ n ih => simp only [List.replicate_succ]; exact VRs.cons h ih
theorem VRs.map {α : Type} (l : List α) (f : α → AV) (g : α → Value) (h : ∀ x ∈ l, VR J (f x) (g x)) : VRs J (l.map f) (l.map g) := by
  induction l with
  | nil => simp [VRs]
  | cons x xs ih => exact VRs.cons (h x (by simp)) (ih fun y hy => h y (by simp [hy]))
end lists

theorem VR.und (J : KW) : VR J und Go.undef := by simp [VR, VRs, Go.undef]

/-- No cell of a block is one that may not be written. -/
def NF (fr : Nat × Nat) (n : Nat) : Prop := fr.1 = fr.2 ∨ n ≤ fr.1

def ERs (J : KW) : List (AV × AV × Nat) → List MapEntry → Prop
  | [], es => es = []
  | (k, v, n) :: xs, es => ∃ e rest, es = e :: rest ∧ VR J k e.key ∧ VR J v e.val ∧ e.born = n ∧ ERs J xs rest

def jcode : Jmp → Code
  | .ret => .ret
  | .exit id => .exit id
  | .goto l => .goto l

section
variable (P : Program) (mid : String → Option Nat)

def OR (J : KW) : AObj → Obj → Prop
  | .cells cs e ro, o => ∃ cs' fr, o = .cells cs' e fr ∧ VRs J cs (cs'.toList.take cs.length) ∧ (ro = false → NF fr cs'.size)
  | .map es clock, o => ∃ es', o = .map es' clock ∧ ERs J es es'.toList
  | .loop st pend fn env ps asg body dfd, o => ∃ r, o = .loop r ∧ r.state = st ∧ r.pending = pend.map jcode ∧ r.fn = fn ∧ VRs J env r.tmps.toList ∧ r.params.toList = ps ∧
      codeC P mid r.assign = some asg ∧ codeC P mid r.body = some body ∧ J.ι dfd = some r.defers
  | .dfr live, o => o = .deferred (if live then some [] else none)
  | .iter s p, o => ∃ t, o = .stringIter t p ∧ t.data.toList = s
  | .dead, _ => True

def live : AObj → Bool
  | .dead => false
  | _ => true
def muta : AObj → Bool
  | .dead => false
  | .cells _ _ true => false
  | _ => true

structure HR (J : KW) (A : AW) (w : World) : Prop where
  obj : ∀ i o, A.get i = some o → ∃ b c, J.ι i = some b ∧ w.heap[b]? = some c ∧ OR P mid J o c
  inj : ∀ i j o o', A.get i = some o → A.get j = some o' → live o = true → live o' = true → J.ι i = J.ι j → i = j
  dom : ∀ i b, J.ι i = some b → i < A.nx ∧ b < w.heap.size
  sig : ∀ i b cs e fr, J.ι i = some b → w.heap[b]? = some (.cells cs e fr) → J.σ b = cs.size
  fresh : ∀ i, A.nx ≤ i → A.get i = none
  gl : ∀ g, g < P.globals.size → J.ι g = some g

structure Post (J : KW) (A : AW) (w : World) (J' : KW) (A' : AW) (w' : World) : Prop where
  le : KW.le J J'
  hr : HR P mid J' A' w'
  sz : w.heap.size ≤ w'.heap.size
  os : w'.os = w.os
  tape : w'.tape = w.tape
  out : w'.output = w.output
  nx : A.nx ≤ A'.nx
  fr : ∀ b, b < w.heap.size → (∀ i o, A.get i = some o → muta o = true → J.ι i ≠ some b) → w'.heap[b]? = w.heap[b]?
  foot : ∀ i o b, A'.get i = some o → live o = true → J'.ι i = some b → w.heap.size ≤ b ∨ ∃ j o', A.get j = some o' ∧ live o' = true ∧ J.ι j = some b ∧ (muta o = true → muta o' = true)
  ro : ∀ i cs e, A'.get i = some (.cells cs e true) → A.get i = some (.cells cs e true)
  dm : ∀ i b, J'.ι i = some b → J.ι i = some b ∨ A.nx ≤ i
end

section
variable {P : Program} {mid : String → Option Nat}

theorem muta_live {o : AObj} (h : muta o = true) : live o = true := by
  cases o <;> simp_all [muta, live]

theorem Post.refl {J : KW} {A : AW} {w : World} (h : HR P mid J A w) : Post P mid J A w J A w where
  le := KW.le_refl J
  hr := h
  sz := Nat.le_refl _
  os := rfl
  tape := rfl
  out := rfl
  nx := Nat.le_refl _
  fr := fun _ _ _ => rfl
  foot := fun i o _ hi hl hb => .inr ⟨i, o, hi, hl, hb, id⟩
  ro := fun _ _ _ h => h
  dm := fun _ _ h => .inl h

theorem Post.trans {J J1 J2 : KW} {A A1 A2 : AW} {w w1 w2 : World} (h : Post P mid J A w J1 A1 w1) (h' : Post P mid J1 A1 w1 J2 A2 w2) : Post P mid J A w J2 A2 w2 where
  le := KW.le_trans h.le h'.le
  hr := h'.hr
  sz := Nat.le_trans h.sz h'.sz
  os := h'.os.trans h.os
  tape := h'.tape.trans h.tape
  out := h'.out.trans h.out
  nx := Nat.le_trans h.nx h'.nx
  fr := by
    intro b hb hno
    refine (h'.fr b (Nat.lt_of_lt_of_le hb h.sz) ?_).trans (h.fr b hb hno)
    intro i o hi hm hJ
    rcases h.foot i o b hi (muta_live hm) hJ with hlt | ⟨j, o', hj, _, hJj, hmm⟩
    · omega
    · exact hno j o' hj (hmm hm) hJj
  foot := by
    intro i o b hi hl hJ
    rcases h'.foot i o b hi hl hJ with hlt | ⟨j, o', hj, hlj, hJj, hm⟩
    · exact .inl (Nat.le_trans h.sz hlt)
    · rcases h.foot j o' b hj hlj hJj with hlt | ⟨k, o2, hk, hlk, hJk, hm'⟩
      · exact .inl hlt
      · exact .inr ⟨k, o2, hk, hlk, hJk, fun x => hm' (hm x)⟩
  ro := fun i cs e hi => h.ro i cs e (h'.ro i cs e hi)
  dm := fun i b hi => (h'.dm i b hi).elim (fun h1 => h.dm i b h1) fun h1 => .inr (Nat.le_trans h.nx h1)

/-- only the count of what was drawn has turned -/
theorem HR.drawn {J : KW} {A : AW} {w w' : World} (h : HR P mid J A w) (hh : w'.heap = w.heap) : HR P mid J A w' where
  obj := by rw [hh]; exact h.obj
  inj := h.inj
  dom := by rw [hh]; exact h.dom
  sig := by rw [hh]; exact h.sig
  fresh := h.fresh
  gl := h.gl
end

/-! ### The heap as a map -/
theorem cond_nbeq {α : Type} (a b : Nat) (x y : α) : (bif Nat.beq a b then x else y) = if a = b then x else y := by
  cases h : Nat.beq a b
  · rw [if_neg (Nat.ne_of_beq_eq_false h)]; rfl
  · rw [if_pos (Nat.eq_of_beq_eq_true h)]; rfl

theorem Tr.get_nil {α : Type} (j : Nat) : (Tr.nil : Tr α).get j = none := rfl
theorem Tr.get_node {α : Type} (v : Option α) (l r : Tr α) (j : Nat) : (Tr.node v l r).get j = if j = 0 then v else if j % 2 = 1 then l.get (j / 2) else r.get (j / 2 - 1) := by
  simp only [Tr.get, cond_nbeq]
theorem Tr.setF_nil {α : Type} (n : Nat) (k : Nat) (x : α) : Tr.setF (n + 1) nil k x = if k = 0 then node (some x) nil nil else if k % 2 = 1 then node none (setF n nil (k / 2) x) nil else node none nil (setF n nil (k / 2 - 1) x) := by
  simp only [Tr.setF, cond_nbeq]
theorem Tr.setF_node {α : Type} (n : Nat) (v : Option α) (l r : Tr α) (k : Nat) (x : α) : Tr.setF (n + 1) (node v l r) k x = if k = 0 then node (some x) l r else if k % 2 = 1 then node v (setF n l (k / 2) x) r else node v l (setF n r (k / 2 - 1) x) := by
  simp only [Tr.setF, cond_nbeq]

theorem Tr.get_setF {α : Type} (x : α) : ∀ (n : Nat) (t : Tr α) (k : Nat), k < n → ∀ j, (Tr.setF n t k x).get j = if j = k then some x else t.get j := by
  intro n
  induction n with
  | zero => intro t k h; omega
  | succ n ih =>
    intro t k hk j
    have key : ∀ (v : Option α) (l r : Tr α), (∀ j, (Tr.node v l r).get j = t.get j) →
        (if k = 0 then node (some x) l r else if k % 2 = 1 then node v (setF n l (k / 2) x) r else node v l (setF n r (k / 2 - 1) x)).get j = if j = k then some x else t.get j := by
      intro v l r ht
      rw [← ht j]
      by_cases h0 : k = 0
      · subst h0
        rw [if_pos rfl, Tr.get_node, Tr.get_node]
        by_cases hj : j = 0
        · simp [hj]
        · simp [hj]
      · rw [if_neg h0]
        by_cases h1 : k % 2 = 1
        · rw [if_pos h1, Tr.get_node, Tr.get_node, ih l (k / 2) (by omega)]
          by_cases hj : j = 0
          · subst hj; rw [if_pos rfl, if_pos rfl, if_neg (by omega)]
          · rw [if_neg hj, if_neg hj]
            by_cases e : j = k
            · subst e; rw [if_pos h1, if_pos rfl, if_pos rfl]
            · rw [if_neg e]
              by_cases hj1 : j % 2 = 1
              · rw [if_pos hj1, if_pos hj1, if_neg (by omega)]
              · rw [if_neg hj1, if_neg hj1]
        · rw [if_neg h1, Tr.get_node, Tr.get_node, ih r (k / 2 - 1) (by omega)]
          by_cases hj : j = 0
          · subst hj; rw [if_pos rfl, if_pos rfl, if_neg (by omega)]
          · rw [if_neg hj, if_neg hj]
            by_cases e : j = k
            · subst e; rw [if_neg h1, if_pos rfl, if_pos rfl]
            · rw [if_neg e]
              by_cases hj1 : j % 2 = 1
              · rw [if_pos hj1, if_pos hj1]
              · rw [if_neg hj1, if_neg hj1, if_neg (by omega)]
    cases t with
    | nil =>
      rw [Tr.setF_nil]
      exact key none nil nil fun j => by rw [Tr.get_node]; simp [Tr.get_nil]
    | node v l r =>
      rw [Tr.setF_node]
      exact key v l r fun j => rfl

theorem Tr.get_set {α : Type} (t : Tr α) (k : Nat) (x : α) (j : Nat) : (t.set k x).get j = if j = k then some x else t.get j :=
  Tr.get_setF x (k + 1) t k (by omega) j

theorem AW.get_set (A : AW) (k : Nat) (x : AObj) (j : Nat) : (A.set k x).get j = if j = k then some x else A.get j := Tr.get_set _ _ _ _
theorem AW.get_new (A : AW) (x : AObj) (j : Nat) : (A.new x).get j = if j = A.nx then some x else A.get j := Tr.get_set _ _ _ _
@[simp] theorem AW.nx_set (A : AW) (k : Nat) (x : AObj) : (A.set k x).nx = A.nx := rfl
@[simp] theorem AW.nx_new (A : AW) (x : AObj) : (A.new x).nx = A.nx + 1 := rfl
end Go.Ae
/- Reading, writing, laying: the own heap and the model's memory side by side. -/
namespace Go.Ae
open Go

def putB (w : World) (b : Nat) (c : Obj) : World := { w with heap := w.heap.setIfInBounds b c }
@[simp] theorem putB_size (w : World) (b : Nat) (c : Obj) : (putB w b c).heap.size = w.heap.size := by simp [putB]
theorem putB_get (w : World) (b : Nat) (c : Obj) (j : Nat) (hb : b < w.heap.size) : (putB w b c).heap[j]? = if j = b then some c else w.heap[j]? := by
  simp only [putB, Array.getElem?_setIfInBounds]
  by_cases h : b = j
  · subst h; simp [hb]
  · simp [h, Ne.symm h]
theorem putB_putB (w : World) (b : Nat) (c d : Obj) : putB (putB w b c) b d = putB w b d := by
  simp only [putB, Array.setIfInBounds_setIfInBounds]
theorem putB_same (w : World) (b : Nat) (c : Obj) (h : w.heap[b]? = some c) : putB w b c = w := by
  cases w with
  | mk heap tape drawn os output =>
    simp only [putB, World.mk.injEq, and_true]
    apply Array.ext_getElem?
    intro i
    rw [Array.getElem?_setIfInBounds]
    split
    · rename_i e; subst e
      split
      · exact h.symm
      · rename_i hn; exact absurd (by rcases Nat.lt_or_ge b heap.size with h' | h'; exact h'; simp only [] at h; rw [Array.getElem?_eq_none h'] at h; cases h) hn
    · rfl

theorem lt_of_get {w : World} {b : Nat} {c : Obj} (h : w.heap[b]? = some c) : b < w.heap.size := by
  rcases Nat.lt_or_ge b w.heap.size with h' | h'
  · exact h'
  · rw [Array.getElem?_eq_none h'] at h; cases h

theorem setCell_eq {w : World} {b o : Nat} {v : Value} {cs : Array Value} {e : TypeId} {fr : Nat × Nat} (h : w.heap[b]? = some (.cells cs e fr)) :
    w.setCell ⟨b, o, none⟩ v = putB w b (.cells (cs.setIfInBounds o v) e fr) := by
  simp only [World.setCell, putB, World.mk.injEq, and_true]
  apply Array.ext_getElem?
  intro i
  rw [Array.getElem?_modify, Array.getElem?_setIfInBounds]
  by_cases hi : b = i
  · subst hi
    rw [if_pos rfl, if_pos rfl, if_pos (lt_of_get h), h]; rfl
  · simp [hi]

theorem cell_eq {w : World} {b o : Nat} {cs : Array Value} {e : TypeId} {fr : Nat × Nat} (h : w.heap[b]? = some (.cells cs e fr)) :
    w.cell? ⟨b, o, none⟩ = cs[o]? := by
  simp [World.cell?, h]

theorem frozen_eq {w : World} {b o : Nat} {cs : Array Value} {e : TypeId} {fr : Nat × Nat} (h : w.heap[b]? = some (.cells cs e fr)) (hf : NF fr cs.size) (ho : o < cs.size) :
    w.frozen? ⟨b, o, none⟩ = false := by
  obtain ⟨lo, hi⟩ := fr
  simp only [World.frozen?, h]
  simp only [NF] at hf
  by_cases h1 : lo ≤ o
  · have h2 : ¬ o < hi := by omega
    simp [h2]
  · simp [h1]

/-- cells laid over cells -/
def over (cs : Array Value) (o : Nat) : List Value → Array Value
  | [] => cs
  | v :: vs => over (cs.setIfInBounds o v) (o + 1) vs
theorem over_size (vs : List Value) : ∀ (cs : Array Value) (o : Nat), (over cs o vs).size = cs.size := by
  induction vs with
  | nil => intros; rfl
  | cons v vs ih => intro cs o; simp [over, ih]
theorem over_toList (vs : List Value) : ∀ (cs : Array Value) (o : Nat), o + vs.length ≤ cs.size → (over cs o vs).toList = cs.toList.take o ++ vs ++ cs.toList.drop (o + vs.length) := by
  induction vs with
  | nil => intro cs o h; simp [over]
  | cons v vs ih =>
    intro cs o h
    simp only [List.length_cons] at h
    rw [over, ih _ _ (by simp; omega)]
    simp only [Array.toList_setIfInBounds, List.length_cons]
    have e1 : (cs.toList.set o v).take (o + 1) = cs.toList.take o ++ [v] := by
      rw [List.take_add_one, List.take_set_of_le (Nat.le_refl _)]
      simp [show o < cs.size by omega]
    have e2 : (cs.toList.set o v).drop (o + 1 + vs.length) = cs.toList.drop (o + (vs.length + 1)) := by
      rw [List.drop_set_of_lt (by omega)]
      congr 1; omega
    rw [e1, e2]; simp

theorem one_cell {J : KW} {x : AV} {v : Value} (h : VR J x v) (h1 : one x = true) : v.oneCell' = true := by
  cases x with
  | bool b => simp only [VR] at h; subst h; rfl
  | int k n => simp only [VR] at h; subst h; rfl
  | flt k b => simp only [VR] at h; subst h; rfl
  | str s => simp only [VR] at h; obtain ⟨t, rfl, _⟩ := h; rfl
  | ptr a => rcases a with _ | ⟨b, o⟩ <;> simp only [VR] at h
             · subst h; rfl
             · obtain ⟨b', rfl, _⟩ := h; rfl
  | slc a n c es =>
    cases a <;> simp only [VR] at h
    · obtain ⟨_, _, rfl⟩ := h; rfl
    · obtain ⟨_, _, _, _, rfl⟩ := h; rfl
    · obtain ⟨_, _, rfl, _⟩ := h; rfl
  | map r => rcases r with _ | r <;> simp only [VR] at h
             · subst h; rfl
             · obtain ⟨_, rfl, _⟩ := h; rfl
  | fn f a b => simp only [VR] at h; obtain ⟨_, _, _, rfl, _⟩ := h; rfl
  | nilFn => simp only [VR] at h; subst h; rfl
  | ifc t x => simp only [VR] at h; obtain ⟨_, rfl, _⟩ := h; rfl
  | nilIfc => simp only [VR] at h; subst h; rfl
  | agg l => simp [one] at h1
  | tup l => simp [one] at h1

theorem ones {J : KW} {xs : List AV} : ∀ {vs : List Value}, VRs J xs vs → xs.all one = true → ∀ v ∈ vs, v.oneCell' = true := by
  induction xs with
  | nil => intro vs h _ v hv; simp only [VRs] at h; subst h; simp at hv
  | cons x xs ih =>
    intro vs h h1 v hv
    simp only [VRs] at h
    obtain ⟨y, ys, rfl, hx, hxs⟩ := h
    simp only [List.all_cons, Bool.and_eq_true] at h1
    rcases List.mem_cons.1 hv with rfl | hv
    · exact one_cell hx h1.1
    · exact ih hxs h1.2 v hv

theorem add_none (b o i : Nat) : (⟨b, o, none⟩ : Addr).add i = ⟨b, o + i, none⟩ := by
  unfold Addr.add; split
  · rename_i h; subst h; rfl
  · rfl

theorem run_storeCells (P : Program) (b o : Nat) (e : TypeId) (fr : Nat × Nat) : ∀ (vs : List Value) (i : Nat) (cs : Array Value) (w : World), w.heap[b]? = some (.cells cs e fr) → NF fr cs.size → o + i + vs.length ≤ cs.size →
    (∀ v ∈ vs, v.oneCell' = true) → (storeCells ⟨b, o, none⟩ vs i).run P w = .ok () (putB w b (.cells (over cs (o + i) vs) e fr)) := by
  intro vs
  induction vs with
  | nil => intro i cs w h _ _ _; simp [storeCells, over, putB_same w b _ h]
  | cons v vs ih =>
    intro i cs w h hf hl hv
    simp only [List.length_cons] at hl
    have hlt : o + i < cs.size := by omega
    have hb := lt_of_get h
    simp only [storeCells, Sem.run_bind, add_none]
    rw [run_store P w _ v .plain (hv v (by simp)), cell_eq h, frozen_eq h hf hlt]
    simp only [Array.getElem?_eq_getElem hlt, Bool.false_eq_true, if_false]
    rw [setCell_eq h]
    simp only [Result.andThen]
    have hg : (putB w b (.cells (cs.setIfInBounds (o + i) v) e fr)).heap[b]? = some (.cells (cs.setIfInBounds (o + i) v) e fr) := by rw [putB_get _ _ _ _ hb]; simp
    rw [ih (i + 1) _ _ hg (by simpa using hf) (by simp; omega) (fun u hu => hv u (by simp [hu]))]
    rw [putB_putB, over, Nat.add_assoc o i 1]

theorem run_loadCellsFrom (P : Program) (w : World) (b o : Nat) (cs : Array Value) (e : TypeId) (fr : Nat × Nat) (h : w.heap[b]? = some (.cells cs e fr)) :
    ∀ (n i : Nat) (acc : Array Value), o + i + n ≤ cs.size → (loadCellsFrom ⟨b, o, none⟩ i n acc).run P w = .ok (acc ++ ((cs.toList.drop (o + i)).take n).toArray) w := by
  intro n
  induction n with
  | zero => intro i acc _; simp [loadCellsFrom]
  | succ n ih =>
    intro i acc hl
    have hlt : o + i < cs.size := by omega
    simp only [loadCellsFrom, Sem.run_bind, add_none, run_load, cell_eq h, Array.getElem?_eq_getElem hlt, Result.andThen]
    rw [ih (i + 1) _ (by omega)]
    congr 1
    apply Array.toList_inj.1
    have : cs.toList.drop (o + i) = cs[o + i] :: cs.toList.drop (o + i + 1) := by
      rw [List.drop_eq_getElem_cons (by simpa using hlt)]; simp
    simp [this, Nat.add_assoc]

section
variable {P : Program} {mid : String → Option Nat} {J : KW} {A : AW} {w : World}

/-- a live block of cells -/
theorem HR.cells (h : HR P mid J A w) {i : Nat} {cs : List AV} {e : TypeId} {ro : Bool} (hi : A.get i = some (.cells cs e ro)) :
    ∃ b cs' fr, J.ι i = some b ∧ w.heap[b]? = some (.cells cs' e fr) ∧ VRs J cs (cs'.toList.take cs.length) ∧ (ro = false → NF fr cs'.size) ∧ cs.length ≤ cs'.size ∧ J.σ b = cs'.size := by
  obtain ⟨b, c, hb, hc, hor⟩ := h.obj i _ hi
  simp only [OR] at hor
  obtain ⟨cs', fr, rfl, hv, hf⟩ := hor
  refine ⟨b, cs', fr, hb, hc, hv, hf, ?_, h.sig i b _ _ _ hb hc⟩
  have := hv.length
  simp at this; omega

theorem rd1_sim (h : HR P mid J A w) {i o : Nat} {x : AV} (hr : rd1 A i o = some x) {b : Nat} (hb : J.ι i = some b) : ∃ v, w.cell? ⟨b, o, none⟩ = some v ∧ VR J x v := by
  unfold rd1 at hr
  split at hr
  · rename_i cs e ro hi
    obtain ⟨b', cs', fr, hb', hc, hv, _, hle, _⟩ := h.cells hi
    rw [hb] at hb'; cases hb'
    obtain ⟨v, hv1, hv2⟩ := hv.get hr
    refine ⟨v, ?_, hv2⟩
    rw [cell_eq hc]
    have : o < cs.length := by
      rcases Nat.lt_or_ge o cs.length with h' | h'
      · exact h'
      · rw [List.getElem?_eq_none h'] at hr; cases hr
    rw [List.getElem?_take_of_lt this] at hv1
    simpa using hv1
  · cases hr

theorem rd_sim (h : HR P mid J A w) {i o n : Nat} {xs : List AV} (hr : rd A i o n = some xs) {b : Nat} (hb : J.ι i = some b) :
    ∃ vs : List Value, VRs J xs vs ∧ xs.length = n ∧ (loadCells ⟨b, o, none⟩ n).run P w = .ok vs.toArray w ∧ ∃ cs' e fr, w.heap[b]? = some (.cells cs' e fr) ∧ o + n ≤ cs'.size ∧ vs = (cs'.toList.drop o).take n := by
  unfold rd at hr
  split at hr
  · rename_i cs e ro hi
    obtain ⟨b', cs', fr, hb', hc, hv, _, hle, _⟩ := h.cells hi
    rw [hb] at hb'; cases hb'
    cases hle2 : Nat.ble (o + n) cs.length
    · rw [hle2] at hr; cases hr
    · rw [hle2] at hr
      have hon : o + n ≤ cs.length := Nat.le_of_ble_eq_true hle2
      simp only [cond_true, Option.some.injEq] at hr
      subst hr
      have hl := run_loadCellsFrom P w b o cs' e fr hc n 0 #[] (by omega)
      refine ⟨(cs'.toList.drop o).take n, ?_, by simp; omega, by simpa [loadCells] using hl, cs', e, fr, hc, by omega, rfl⟩
      have h2 := (hv.drop o).take n
      have e2 : ((cs'.toList.take cs.length).drop o).take n = (cs'.toList.drop o).take n := by
        rw [List.drop_take, List.take_take]; congr 1; omega
      rw [e2] at h2; exact h2
  · cases hr

/-- one live object turns into another one -/
theorem post_updG (h : HR P mid J A w) {A' : AW} {i b : Nat} {o o1 : AObj} {c1 : Obj} (hg : ∀ j, A'.get j = if j = i then some o1 else A.get j) (hnx : A'.nx = A.nx) (hi : A.get i = some o) (hl : muta o = true) (hb : J.ι i = some b) (hor : OR P mid J o1 c1)
    (hsz : ∀ cs e fr, c1 = .cells cs e fr → J.σ b = cs.size) (hro : ∀ cs e, o1 ≠ .cells cs e true) : Post P mid J A w J A' (putB w b c1) := by
  have hbl : b < w.heap.size := (h.dom i b hb).2
  refine ⟨KW.le_refl J, ⟨?_, ?_, ?_, ?_, ?_, h.gl⟩, by simp, rfl, rfl, rfl, Nat.le_of_eq hnx.symm, ?_, ?_, ?_, fun _ _ h => .inl h⟩
  · intro j oj hj
    rw [hg] at hj
    split at hj
    · rename_i e; subst e; cases hj
      exact ⟨b, c1, hb, by rw [putB_get _ _ _ _ hbl]; simp, hor⟩
    · rename_i hne
      obtain ⟨b2, c2, hb2, hc2, hor2⟩ := h.obj j oj hj
      by_cases e2 : b2 = b
      · subst e2
        cases hlj : live oj with
        | true => exact absurd (h.inj j i _ _ hj hi hlj (muta_live hl) (hb2.trans hb.symm)) hne
        | false =>
          have : oj = .dead := by cases oj <;> simp_all [live]
          subst this
          exact ⟨b2, c1, hb2, by rw [putB_get _ _ _ _ hbl]; simp, trivial⟩
      · exact ⟨b2, c2, hb2, by rw [putB_get _ _ _ _ hbl, if_neg e2]; exact hc2, hor2⟩
  · intro j k oj ok hj hk hlj hlk e
    rw [hg] at hj hk
    split at hj <;> split at hk
    · rename_i e1 e2; rw [e1, e2]
    · rename_i e1 hne; subst e1
      exact h.inj j k o ok hi hk (muta_live hl) hlk e
    · rename_i hne e1; subst e1
      exact h.inj j k oj o hj hi hlj (muta_live hl) e
    · exact h.inj j k oj ok hj hk hlj hlk e
  · intro j b2 hj
    exact ⟨by rw [hnx]; exact (h.dom j b2 hj).1, by simpa using (h.dom j b2 hj).2⟩
  · intro j b2 cs e fr hj hc
    rw [putB_get _ _ _ _ hbl] at hc
    split at hc
    · rename_i e2; subst e2; cases hc; exact hsz _ _ _ rfl
    · exact h.sig j b2 cs e fr hj hc
  · intro j hj
    rw [hg]
    split
    · rename_i e; subst e
      have := (h.dom j b hb).1
      rw [hnx] at hj; omega
    · exact h.fresh j (by rw [hnx] at hj; exact hj)
  · intro b2 hb2 hno
    rw [putB_get _ _ _ _ hbl]
    split
    · rename_i e; subst e
      exact absurd hb (hno i o hi hl)
    · rfl
  · intro j oj b2 hj hlj hb2
    rw [hg] at hj
    right
    split at hj
    · rename_i e; subst e
      exact ⟨j, o, hi, muta_live hl, hb2, fun _ => hl⟩
    · exact ⟨j, oj, hj, hlj, hb2, id⟩
  · intro j cs e hj
    rw [hg] at hj
    split at hj
    · cases hj; exact absurd rfl (hro cs e)
    · exact hj

theorem post_upd (h : HR P mid J A w) {i b : Nat} {o o1 : AObj} {c1 : Obj} (hi : A.get i = some o) (hl : muta o = true) (hb : J.ι i = some b) (hor : OR P mid J o1 c1)
    (hsz : ∀ cs e fr, c1 = .cells cs e fr → J.σ b = cs.size) (hro : ∀ cs e, o1 ≠ .cells cs e true) : Post P mid J A w J (A.set i o1) (putB w b c1) :=
  post_updG h (AW.get_set A i o1) rfl hi hl hb hor hsz hro

def KW.ext (J : KW) (i b n : Nat) : KW := ⟨fun j => if j = i then some b else J.ι j, fun c => if c = b then n else J.σ c⟩

theorem KW.le_ext {J : KW} {i b n : Nat} (hi : J.ι i = none) (hb : ∀ j c, J.ι j = some c → c ≠ b) : KW.le J (J.ext i b n) := by
  intro j c hj
  constructor
  · simp only [KW.ext]; split
    · rename_i e; subst e; rw [hi] at hj; cases hj
    · exact hj
  · simp only [KW.ext, if_neg (hb j c hj)]

def sizeOf' : Obj → Nat
  | .cells cs _ _ => cs.size
  | _ => 0

/-- a new object, under a name that was not used -/
theorem post_alloc (h : HR P mid J A w) {A' : AW} {i : Nat} {o : AObj} {c : Obj} (hg : ∀ j, A'.get j = if j = i then some o else A.get j) (hnx : A.nx ≤ A'.nx) (hin : A.nx ≤ i) (hi : i < A'.nx) (hf : ∀ j, A'.nx ≤ j → A.get j = none)
    (hn : J.ι i = none) (hro : ∀ cs e, o ≠ .cells cs e true) (hor : OR P mid (J.ext i w.heap.size (sizeOf' c)) o c) :
    Post P mid J A w (J.ext i w.heap.size (sizeOf' c)) A' { w with heap := w.heap.push c } := by
  have hle : KW.le J (J.ext i w.heap.size (sizeOf' c)) := KW.le_ext hn fun j d hj => by have := (h.dom j d hj).2; omega
  have hgi : A.get i = none := by
    cases hgi : A.get i with
    | none => rfl
    | some o => obtain ⟨b, _, hb, _⟩ := h.obj i o hgi; rw [hn] at hb; cases hb
  refine ⟨hle, ⟨?_, ?_, ?_, ?_, ?_, ?_⟩, by simp, rfl, rfl, rfl, hnx, ?_, ?_, ?_, ?_⟩
  · intro j oj hj
    rw [hg] at hj
    split at hj
    · rename_i e; subst e; cases hj
      exact ⟨w.heap.size, c, by simp [KW.ext], by simp, hor⟩
    · obtain ⟨b2, c2, hb2, hc2, hor2⟩ := h.obj j oj hj
      refine ⟨b2, c2, (hle j b2 hb2).1, ?_, ?_⟩
      · rw [Array.getElem?_push]; rw [if_neg (by have := lt_of_get hc2; omega)]; exact hc2
      · cases oj with
        | cells cs e ro =>
          simp only [OR] at hor2 ⊢
          obtain ⟨cs', fr, e1, e2, e3⟩ := hor2
          exact ⟨cs', fr, e1, VRs.mono hle _ _ e2, e3⟩
        | map es ck =>
          simp only [OR] at hor2 ⊢
          obtain ⟨es', e1, e2⟩ := hor2
          refine ⟨es', e1, ?_⟩
          clear e1 hj hc2
          generalize es'.toList = l at e2
          induction es generalizing l with
          | nil => simpa only [ERs] using e2
          | cons x xs ih =>
            obtain ⟨k, v, n⟩ := x
            simp only [ERs] at e2 ⊢
            obtain ⟨e, rest, e1, h1, h2, h3, h4⟩ := e2
            exact ⟨e, rest, e1, VR.mono hle _ _ h1, VR.mono hle _ _ h2, h3, ih _ h4⟩
        | loop st pend fn env ps asg body dfd =>
          simp only [OR] at hor2 ⊢
          obtain ⟨r, e1, e2, e3, e4, e5, e6, e7, e8, e9⟩ := hor2
          exact ⟨r, e1, e2, e3, e4, VRs.mono hle _ _ e5, e6, e7, e8, (hle _ _ e9).1⟩
        | dfr l => simpa only [OR] using hor2
        | iter s p => simpa only [OR] using hor2
        | dead => trivial
  · intro j k oj ok hj hk hlj hlk e
    rw [hg] at hj hk
    have hold : ∀ j oj, A.get j = some oj → j ≠ i → (J.ext i w.heap.size (sizeOf' c)).ι j = J.ι j ∧ ∀ d, J.ι j = some d → d < w.heap.size := fun j oj hj hne =>
      ⟨by simp [KW.ext, hne], fun d hd => (h.dom j d hd).2⟩
    split at hj <;> split at hk
    · rename_i e1 e2; rw [e1, e2]
    · rename_i e1 hne; subst e1
      have h2 := hold k ok hk hne
      obtain ⟨b2, _, hb2, _⟩ := h.obj k ok hk
      rw [h2.1, hb2] at e
      simp only [KW.ext, if_true, Option.some.injEq] at e
      have := h2.2 b2 hb2; omega
    · rename_i hne e1; subst e1
      have h2 := hold j oj hj hne
      obtain ⟨b2, _, hb2, _⟩ := h.obj j oj hj
      rw [h2.1, hb2] at e
      simp only [KW.ext, if_true, Option.some.injEq] at e
      have := h2.2 b2 hb2; omega
    · rename_i h1 h2
      rw [(hold j oj hj h1).1, (hold k ok hk h2).1] at e
      exact h.inj j k oj ok hj hk hlj hlk e
  · intro j b2 hj
    simp only [KW.ext] at hj
    split at hj
    · rename_i e; subst e; cases hj; exact ⟨hi, by simp⟩
    · have := h.dom j b2 hj; exact ⟨Nat.lt_of_lt_of_le this.1 hnx, by simp; omega⟩
  · intro j b2 cs e fr hj hc
    simp only [KW.ext] at hj ⊢
    split at hj
    · rename_i e; subst e; cases hj
      simp at hc; subst hc; simp [sizeOf']
    · have := h.dom j b2 hj
      rw [if_neg (by omega)]
      rw [Array.getElem?_push, if_neg (by omega)] at hc
      exact h.sig j b2 cs e fr hj hc
  · intro j hj
    rw [hg]
    split
    · rename_i e; subst e; omega
    · exact hf j hj
  · intro g hgl
    have := h.gl g hgl
    exact (hle g g this).1
  · intro b2 hb2 _
    simp only [Array.getElem?_push]
    rw [if_neg (by omega)]
  · intro j oj b2 hj hlj hb2
    rw [hg] at hj
    split at hj
    · rename_i e; subst e
      simp only [KW.ext, if_true, Option.some.injEq] at hb2
      left; omega
    · rename_i hne
      simp only [KW.ext, if_neg hne] at hb2
      exact .inr ⟨j, oj, hj, hlj, hb2, id⟩
  · intro j cs e hj
    rw [hg] at hj
    split at hj
    · cases hj; exact absurd rfl (hro cs e)
    · exact hj
  · intro j b2 hj
    simp only [KW.ext] at hj
    split at hj
    · rename_i e; subst e; exact .inr hin
    · exact .inl hj

/-- a new object behind all names -/
theorem post_new (h : HR P mid J A w) {o : AObj} {c : Obj} (hro : ∀ cs e, o ≠ .cells cs e true) (hor : OR P mid (J.ext A.nx w.heap.size (sizeOf' c)) o c) :
    Post P mid J A w (J.ext A.nx w.heap.size (sizeOf' c)) (A.new o) { w with heap := w.heap.push c } ∧ KW.le J (J.ext A.nx w.heap.size (sizeOf' c)) := by
  have hn : J.ι A.nx = none := by
    cases hj : J.ι A.nx with
    | none => rfl
    | some b => have := (h.dom _ _ hj).1; omega
  have := post_alloc h (A' := A.new o) (i := A.nx) (AW.get_new A o) (by simp) (Nat.le_refl _) (by simp) (fun j hj => h.fresh j (by simp at hj; omega)) hn hro hor
  exact ⟨this, this.le⟩

theorem wr_sim (h : HR P mid J A w) {i o : Nat} {xs : List AV} {A' : AW} (hw : wr A i o xs = some A') {b : Nat} (hb : J.ι i = some b) {vs : List Value} (hv : VRs J xs vs) :
    ∃ w', (storeCells ⟨b, o, none⟩ vs).run P w = .ok () w' ∧ Post P mid J A w J A' w' := by
  unfold wr at hw
  split at hw
  · rename_i cs e hi
    obtain ⟨b', cs', fr, hb', hc, hvs, hf, hle, hs⟩ := h.cells hi
    rw [hb] at hb'; cases hb'
    cases hcond : (Nat.ble (o + xs.length) cs.length && xs.all one)
    · rw [hcond] at hw; cases hw
    · rw [hcond] at hw
      simp only [cond_true, Option.some.injEq] at hw
      subst hw
      simp only [Bool.and_eq_true] at hcond
      have hon : o + xs.length ≤ cs.length := Nat.le_of_ble_eq_true hcond.1
      have hlen := hv.length
      have hrun := run_storeCells P b o e fr vs 0 cs' w hc (hf rfl) (by omega) (ones hv hcond.2)
      refine ⟨_, hrun, post_upd h hi rfl hb ?_ ?_ ?_⟩
      · refine ⟨_, fr, rfl, ?_, fun _ => by rw [over_size]; exact hf rfl⟩
        rw [over_toList _ _ _ (by omega)]
        have hsl : (splice cs o xs).length = cs.length := by simp [splice]; omega
        rw [hsl]
        have h1 : VRs J (cs.take o) (cs'.toList.take o) := by
          have := hvs.take o; rwa [List.take_take, Nat.min_eq_left (by omega)] at this
        have h3 : VRs J (cs.drop (o + xs.length)) ((cs'.toList.take cs.length).drop (o + xs.length)) := hvs.drop _
        have hthis := (h1.append hv).append h3
        unfold splice
        have e1 : (cs'.toList.take o).take cs.length = cs'.toList.take o := by rw [List.take_take, Nat.min_eq_right (by omega)]
        have e2 : vs.take (cs.length - (cs'.toList.take o).length) = vs := by
          rw [List.take_of_length_le]; simp; omega
        have e3 : (cs'.toList.take o ++ vs ++ cs'.toList.drop (0 + o + vs.length)).take cs.length = cs'.toList.take o ++ vs ++ (cs'.toList.take cs.length).drop (o + xs.length) := by
          rw [List.take_append, List.take_append, e1, e2, List.drop_take, hlen]
          congr 1
          · simp
            omega
        simp only [Nat.add_zero, Nat.zero_add] at e3 ⊢
        rw [e3]; exact hthis
      · intro cs2 e2 fr2 e3; cases e3; rw [over_size]; exact hs
      · intro cs2 e2 e3; cases e3
  · cases hw
end
end Go.Ae
/- One operation: what the evaluator answers, the model does. -/
namespace Go.Ae
open Go

theorem absB_VR (J : KW) {v : Value} {x : AV} (h : absB v = some x) : VR J x v := by
  unfold absB at h
  split at h <;> first | (simp only [Option.some.injEq] at h; subst h; simp [VR]; done) | cases h

theorem absL_VRs (J : KW) : ∀ {vs : List Value} {xs : List AV}, absL vs = some xs → VRs J xs vs := by
  intro vs
  induction vs with
  | nil => intro xs h; simp only [absL, Option.some.injEq] at h; subst h; simp [VRs]
  | cons v vs ih =>
    intro xs h
    simp only [absL] at h
    split at h
    · rename_i x hx
      split at h
      · rename_i ys hy
        simp only [Option.some.injEq] at h; subst h
        exact VRs.cons (absB_VR J hx) (ih hy)
      · cases h
    · cases h

theorem absC_VR (J : KW) {v : Value} {x : AV} (h : absC v = some x) : VR J x v := by
  unfold absC at h
  split at h
  · simp only [Option.map_eq_some_iff] at h
    obtain ⟨l, hl, rfl⟩ := h
    simp only [VR]; exact ⟨_, rfl, absL_VRs J hl⟩
  · simp only [Option.map_eq_some_iff] at h
    obtain ⟨l, hl, rfl⟩ := h
    simp only [VR]; exact ⟨_, rfl, absL_VRs J hl⟩
  · simp only [Option.map_eq_some_iff] at h
    obtain ⟨l, hl, rfl⟩ := h
    simp only [VR]; exact ⟨_, rfl, absB_VR J hl⟩
  · exact absB_VR J h

def DR (J : KW) : ADef → Deferred → Prop
  | .call f args, d => ∃ caps args' : Array Value, d = { target := .fn (.func f) caps, args := args' } ∧ VRs J args (args' ++ caps).toList
  | .coll r, d => ∃ r', d = { target := .collected r', args := #[] } ∧ J.ι r = some r'

def MethOk (P : Program) (t : TypeId) (name : String) (f : Nat) : Prop :=
  ∃ (i : TypeInfo) (m : Method) (pr : Bool) (d : TypeDesc), P.info? t = some i ∧ i.methods.find? (·.name == name) = some m ∧ m.path = #[] ∧ m.func = some (f, pr) ∧ P.underlying t = some d ∧
    ((∃ e, d = .pointer e) ↔ pr = true) ∧ (∃ fn, P.funcs[f]? = some fn ∧ fn.body.isSome = true ∧ (fn.name == "runtime.NumGoroutine") = false)

structure TOK (P : Program) (mid : String → Option Nat) (T : Tab) : Prop where
  fns : ∀ f F, T.fns.get f = some F → ∃ fn, P.funcs[f]? = some fn ∧ (fn.name == "runtime.NumGoroutine") = false ∧ funC P mid fn = some F
  meth : ∀ t name m f, mid name = some m → T.meth t m = some f → MethOk P t name f

def OpOk (P : Program) (mid : String → Option Nat) (T : Tab) (J : KW) (A : AW) (w : World) (r : ORes) (res : Result Next) : Prop :=
  match r with
  | .no => True
  | .val v A' => ∃ J' w', Post P mid J A w J' A' w' ∧ ((∃ v', res = .ok (.value v') w' ∧ VR J' v v') ∨ (res = .ok .skip w' ∧ v = und))
  | .call f args => ∀ F, T.fns.get f = some F → ∃ args', res = .ok (.enter f args') w ∧ VRs J args args'.toList
  | .rnd l args => ∃ l' args', J.ι l = some l' ∧ VRs J args args'.toList ∧ res = (Instr.yield l' args').run P w
  | .dfr d => ∃ d', res = .ok (.defer d') w ∧ DR J d d'

section
variable {P : Program} {mid : String → Option Nat} {T : Tab} {J : KW} {A : AW} {w : World} {env : List AV} {a : Act}

theorem ok_val (h : HR P mid J A w) {v : AV} {v' : Value} {res : Result Next} (e : res = .ok (.value v') w) (hv : VR J v v') : OpOk P mid T J A w (.val v A) res :=
  ⟨J, w, Post.refl h, .inl ⟨v', e, hv⟩⟩

theorem ok_oV (h : HR P mid J A w) {r : Option AV} {res : Result Next} (e : ∀ v, r = some v → ∃ v', res = .ok (.value v') w ∧ VR J v v') : OpOk P mid T J A w (oV A r) res := by
  cases r with
  | none => trivial
  | some v => obtain ⟨v', e1, e2⟩ := e v rfl; exact ok_val h e1 e2

theorem ev_sim (hE : VRs J env a.tmps.toList) (h : HR P mid J A w) {x : Operand} {y : Opd} (hx : opd P.globals.size x = some y) : VR J (ev env y) (a.eval x) := by
  cases x with
  | tmp t =>
    simp only [opd, Option.some.injEq] at hx; subst hx
    simp only [ev, Act.eval]
    rw [List.getD_eq_getElem?_getD]
    cases ht : env[t]? with
    | some v =>
      obtain ⟨v', e1, e2⟩ := hE.get ht
      have : a.tmps[t]? = some v' := by simpa using e1
      rw [Array.getD_eq_getD_getElem?, this]; exact e2
    | none =>
      have hl := hE.length
      have : a.tmps[t]? = none := by
        rw [List.getElem?_eq_none_iff] at ht
        simp at hl ⊢; omega
      rw [Array.getD_eq_getD_getElem?, this]; exact VR.und J
  | const v =>
    simp only [opd, Option.map_eq_some_iff] at hx
    obtain ⟨z, hz, rfl⟩ := hx
    exact absC_VR J hz
  | global g =>
    simp only [opd] at hx
    split at hx
    · rename_i hg
      simp only [Option.some.injEq] at hx; subst hx
      simp only [ev, VR, Act.eval]
      exact ⟨g, rfl, h.gl g hg⟩
    · cases hx
  | func f =>
    simp only [opd, Option.some.injEq] at hx; subst hx
    simp only [ev, VR, Act.eval]
    exact ⟨_, _, _, rfl, rfl, by simp [VRs], by simp [VRs]⟩

theorem evs_sim (hE : VRs J env a.tmps.toList) (h : HR P mid J A w) : ∀ {xs : List Operand} {ys : List Opd}, opds P.globals.size xs = some ys → VRs J (ys.map (ev env)) (xs.map a.eval) := by
  intro xs
  induction xs with
  | nil => intro ys hx; simp only [opds, Option.some.injEq] at hx; subst hx; simp [VRs]
  | cons x xs ih =>
    intro ys hx
    simp only [opds] at hx
    split at hx
    · rename_i y hy
      split at hx
      · rename_i zs hz
        simp only [Option.some.injEq] at hx; subst hx
        exact VRs.cons (ev_sim hE h hy) (ih hz)
      · cases hx
    · cases hx

/-! ### without memory -/
theorem sim_move (hE : VRs J env a.tmps.toList) (h : HR P mid J A w) {x : Operand} {y : Opd} (hx : opd P.globals.size x = some y) (ty : TypeId) (pos : String) (d af g) :
    OpOk P mid T J A w (evOp T env A (.mv y)) ((execOp a.eval ⟨d, .move x, ty, pos, af, g⟩).run P w) := by
  simp only [evOp, execOp]
  exact ok_val h rfl (ev_sim hE h hx)

theorem sim_pick (hE : VRs J env a.tmps.toList) (h : HR P mid J A w) {c x y : Operand} {c' x' y' : Opd} (hc : opd P.globals.size c = some c') (hx : opd P.globals.size x = some x') (hy : opd P.globals.size y = some y') (ty : TypeId) (pos : String) (d af g) :
    OpOk P mid T J A w (evOp T env A (.pick c' x' y')) ((execOp a.eval ⟨d, .pick c x y, ty, pos, af, g⟩).run P w) := by
  simp only [evOp, execOp]
  have h1 := ev_sim hE h hc
  split
  · rename_i t ht
    rw [ht] at h1
    simp only [VR] at h1
    refine ok_val h (by rw [h1]; simp [asBool]; rfl) ?_
    cases t
    · simpa using ev_sim hE h hy
    · simpa using ev_sim hE h hx
  · trivial

theorem intArith_sim (op : BinOp) (k : IntKind) (x y : Int) (v : AV) (hv : intArithA op k x y = some v) (xt : TypeId) :
    ∃ v', (binOp op xt (.int k x) (.int k y)).run P w = .ok v' w ∧ VR J v v' := by
  cases op <;> simp only [intArithA] at hv <;> (try cases hv) <;>
    first
    | exact ⟨_, by simp [binOp, Op.intArith, Op.intBits, Op.intCmp]; rfl, by simp [VR]⟩
    | (cases hy : (y == 0)
       · rw [hy] at hv; simp only [cond_false, Option.some.injEq] at hv; subst hv
         have : y ≠ 0 := by simpa using hy
         exact ⟨_, by simp [binOp, Op.intDiv, this]; rfl, by simp [VR]⟩
       · rw [hy] at hv; cases hv)
end
end Go.Ae
/- One operation: what the evaluator answers, the model does: numbers, texts, comparisons. -/
namespace Go.Ae
open Go
section
variable {P : Program} {mid : String → Option Nat} {T : Tab} {J : KW} {A : AW} {w : World} {env : List AV} {a : Act}

theorem shift_sim (op : BinOp) (k k' : IntKind) (x y : Int) (v : AV) (hop : op = .shl ∨ op = .shr) (hv : shiftA op k x y = some v) (xt : TypeId) :
    ∃ v', (binOp op xt (.int k x) (.int k' y)).run P w = .ok v' w ∧ VR J v v' := by
  unfold shiftA at hv
  cases hy : decide (y < 0)
  · have hy' : ¬ y < 0 := by simpa using hy
    rw [hy] at hv
    rcases hop with rfl | rfl <;> simp only [cond_false, Option.some.injEq] at hv <;> subst hv
    · exact ⟨_, by simp [binOp, Op.shift, hy']; rfl, by simp [VR]⟩
    · exact ⟨_, by simp [binOp, Op.shift, hy']; rfl, by simp [VR]⟩
  · rw [hy] at hv; cases hv

theorem flt_sim (op : BinOp) (k : FloatKind) (x y : Nat) (v : AV) (hv : fltA op k x y = some v) (xt : TypeId) :
    ∃ v', (binOp op xt (.float k x) (.float k y)).run P w = .ok v' w ∧ VR J v v' := by
  have ar : ∀ (r : Option Nat), (op = .add ∧ r = k.format.add x y) ∨ (op = .sub ∧ r = k.format.sub x y) ∨ (op = .mul ∧ r = k.format.mul x y) ∨ (op = .quo ∧ r = k.format.div x y) →
      r.map (.flt k) = some v → ∃ v', (binOp op xt (.float k x) (.float k y)).run P w = .ok v' w ∧ VR J v v' := by
    intro r hr hm
    rw [Option.map_eq_some_iff] at hm
    obtain ⟨q, hq, rfl⟩ := hm
    refine ⟨.float k q, ?_, by simp [VR]⟩
    rcases hr with ⟨rfl, rfl⟩ | ⟨rfl, rfl⟩ | ⟨rfl, rfl⟩ | ⟨rfl, rfl⟩ <;> simp [binOp, Op.floatArith, hq]
  cases op <;> simp only [fltA] at hv <;> (try cases hv; done) <;>
    first
    | (simp only [Option.some.injEq] at hv; subst hv
       exact ⟨_, by simp [binOp, Op.floatCmp]; rfl, by simp [VR]⟩)
    | exact ar _ (by simp) hv

theorem str_sim (op : BinOp) (x y : List UInt8) (s t : ByteArray) (hs : s.data.toList = x) (ht : t.data.toList = y) (v : AV) (hv : strA op x y = some v) (xt : TypeId) :
    ∃ v', (binOp op xt (.string s) (.string t)).run P w = .ok v' w ∧ VR J v v' := by
  subst hs ht
  have key : ∀ op, (binOp op xt (.string s) (.string t)).run P w = (Op.stringOp op s t).run P w := by intro op; cases op <;> rfl
  rw [key]
  cases op <;> simp only [strA] at hv <;> (try cases hv; done) <;>
    first
    | (simp only [Option.some.injEq] at hv; subst hv
       exact ⟨_, by simp [Op.stringOp, ByteArray.toList_eq]; rfl, by simp [VR]⟩)
    | (cases hl : Nat.ble (s.data.toList.length + t.data.toList.length) 140737488355328
       · rw [hl] at hv; cases hv
       · rw [hl] at hv; simp only [cond_true, Option.some.injEq] at hv; subst hv
         have hle := Nat.le_of_ble_eq_true hl
         have hsz : ¬ (((s.size + t.size : Nat) : Int) > IntKind.i64.max) := by
           have e1 : s.data.toList.length = s.size := rfl
           have e2 : t.data.toList.length = t.size := rfl
           have e3 : IntKind.max .i64 = 9223372036854775807 := by decide
           rw [e3]; omega
         refine ⟨.string (s ++ t), ?_, ?_⟩
         · simp only [Op.stringOp]; rw [if_neg hsz]; rfl
         · simp only [VR]; exact ⟨_, rfl, by simp⟩)

theorem eqGuard_plain (op : BinOp) (t : TypeId) (x y : Operand) (u v : Value) (h1 : ∀ cs, u ≠ .agg cs) (h2 : u ≠ .nilIface) : (eqGuard op t x y u v).run P w = .ok () w := by
  cases op <;> first
    | rfl
    | (cases u <;> first
        | rfl
        | exact absurd rfl h2
        | exact absurd rfl (h1 _))

theorem equal_step (t : TypeId) (x y : Value) : Op.equal t x y = Op.equalIn (9999 + 1) t x y := rfl

theorem sim_bin (hE : VRs J env a.tmps.toList) (h : HR P mid J A w) {x y : Operand} {x' y' : Opd} (hx : opd P.globals.size x = some x') (hy : opd P.globals.size y = some y') (op : BinOp) (xt yt : TypeId) (ty : TypeId) (pos : String) (d af g) :
    OpOk P mid T J A w (evOp T env A (.bin op x' y')) ((execOp a.eval ⟨d, .binOp op xt x y yt, ty, pos, af, g⟩).run P w) := by
  simp only [evOp]
  refine ok_oV h ?_
  intro v hv
  have h1 := ev_sim hE h hx
  have h2 := ev_sim hE h hy
  have fin : ∀ v', (binOp op xt (a.eval x) (a.eval y)).run P w = .ok v' w → (∀ cs, a.eval x ≠ .agg cs) → a.eval x ≠ .nilIface →
      (execOp a.eval ⟨d, .binOp op xt x y yt, ty, pos, af, g⟩).run P w = .ok (.value v') w := by
    intro v' e n1 n2
    simp only [execOp]
    simp [eqGuard_plain (P := P) (w := w) op xt x y _ (a.eval y) n1 n2, e]
  unfold binA at hv
  split at hv
  · rename_i k m k' n hx1 hy1
    rw [hx1] at h1; rw [hy1] at h2
    simp only [VR] at h1 h2
    have step : ∃ v', (binOp op xt (.int k m) (.int k' n)).run P w = .ok v' w ∧ VR J v v' := by
      split at hv
      · exact shift_sim _ _ _ _ _ _ (.inl rfl) hv xt
      · exact shift_sim _ _ _ _ _ _ (.inr rfl) hv xt
      · cases hk : (k == k')
        · rw [hk] at hv; cases hv
        · have : k = k' := by simpa using hk
          subst this
          rw [hk] at hv
          exact intArith_sim _ _ _ _ _ hv xt
    obtain ⟨v', e1, e2⟩ := step
    exact ⟨v', fin v' (by rw [h1, h2]; exact e1) (by rw [h1]; simp) (by rw [h1]; simp), e2⟩
  · rename_i k m k' n hx1 hy1
    rw [hx1] at h1; rw [hy1] at h2
    simp only [VR] at h1 h2
    cases hk : (k == k')
    · rw [hk] at hv; cases hv
    · have : k = k' := by simpa using hk
      subst this
      rw [hk] at hv
      obtain ⟨v', e1, e2⟩ := flt_sim (P := P) (J := J) (w := w) _ _ _ _ _ hv xt
      exact ⟨v', fin v' (by rw [h1, h2]; exact e1) (by rw [h1]; simp) (by rw [h1]; simp), e2⟩
  · rename_i m n hx1 hy1
    rw [hx1] at h1; rw [hy1] at h2
    simp only [VR] at h1 h2
    obtain ⟨s, h1, hs⟩ := h1
    obtain ⟨t, h2, ht⟩ := h2
    obtain ⟨v', e1, e2⟩ := str_sim (P := P) (J := J) (w := w) _ _ _ s t hs ht _ hv xt
    exact ⟨v', fin v' (by rw [h1, h2]; exact e1) (by rw [h1]; simp) (by rw [h1]; simp), e2⟩
  · cases hv

theorem sim_eqB (hE : VRs J env a.tmps.toList) (h : HR P mid J A w) {x y : Operand} {x' y' : Opd} (hx : opd P.globals.size x = some x') (hy : opd P.globals.size y = some y') (ne : Bool) (xt yt : TypeId)
    (hu : P.underlying xt = some .bool) (ty : TypeId) (pos : String) (d af g) :
    OpOk P mid T J A w (evOp T env A (.eqB ne x' y')) ((execOp a.eval ⟨d, .binOp (if ne then .neq else .eql) xt x y yt, ty, pos, af, g⟩).run P w) := by
  simp only [evOp]
  have h1 := ev_sim hE h hx
  have h2 := ev_sim hE h hy
  split
  · rename_i m n hx1 hy1
    rw [hx1] at h1; rw [hy1] at h2
    simp only [VR] at h1 h2
    refine ok_val h (v' := .bool (bif ne then !(m == n) else m == n)) ?_ (by simp [VR])
    simp only [execOp]
    have eg := fun op => eqGuard_plain (P := P) (w := w) op xt x y (a.eval x) (a.eval y) (by rw [h1]; simp) (by rw [h1]; simp)
    have eq1 : (Op.equal xt (.bool m) (.bool n)).run P w = .ok (m == n) w := by
      rw [equal_step, Op.equalIn]; simp [underlying, hu]
    rw [h1, h2] at eg ⊢
    cases ne
    · simp [eg, binOp, eq1]
    · simp [eg, binOp, eq1]
  · trivial

theorem sim_un (hE : VRs J env a.tmps.toList) (h : HR P mid J A w) {x : Operand} {x' : Opd} (hx : opd P.globals.size x = some x') (op : UnOp) (xt : TypeId) (ty : TypeId) (pos : String) (d af g) :
    OpOk P mid T J A w (evOp T env A (.un op x')) ((execOp a.eval ⟨d, .unOp op xt x, ty, pos, af, g⟩).run P w) := by
  simp only [evOp]
  refine ok_oV h ?_
  intro v hv
  have h1 := ev_sim hE h hx
  simp only [execOp]
  unfold unA at hv
  split at hv
  · rename_i k n hx1
    rw [hx1] at h1; simp only [VR] at h1
    rw [h1]
    split at hv <;> (try cases hv; done) <;> simp only [Option.some.injEq] at hv <;> subst hv
    · exact ⟨_, by simp [Op.unary, Op.intArith]; rfl, by simp [VR]⟩
    · refine ⟨_, by simp [Op.unary, Op.intBits]; rfl, ?_⟩
      cases hk : k.signed <;> simp [VR]
  · rename_i k n hx1
    rw [hx1] at h1; simp only [VR] at h1
    rw [h1]
    split at hv <;> (try cases hv; done) <;> simp only [Option.some.injEq] at hv <;> subst hv
    exact ⟨_, by simp [Op.unary]; rfl, by simp [VR]⟩
  · rename_i n hx1
    rw [hx1] at h1; simp only [VR] at h1
    rw [h1]
    split at hv <;> (try cases hv; done) <;> simp only [Option.some.injEq] at hv <;> subst hv
    exact ⟨_, by simp [Op.unary]; rfl, by simp [VR]⟩
  · cases hv

theorem sim_cvI (hE : VRs J env a.tmps.toList) (h : HR P mid J A w) {x : Operand} {x' : Opd} (hx : opd P.globals.size x = some x') (k k0 : IntKind) (s t : TypeId) (hs : P.underlying s = some (.int k0)) (ht : P.underlying t = some (.int k)) (ty : TypeId) (pos : String) (d af g) :
    OpOk P mid T J A w (evOp T env A (.cvI k x')) ((execOp a.eval ⟨d, .convert s t x, ty, pos, af, g⟩).run P w) := by
  simp only [evOp]
  have h1 := ev_sim hE h hx
  simp only [execOp]
  split
  · rename_i k1 n hx1
    rw [hx1] at h1; simp only [VR] at h1
    rw [h1]
    exact ok_val h (by simp [convert, underlying, hs, ht, Conv.intToInt]; rfl) (by simp [VR])
  · trivial

theorem sim_cvF (hE : VRs J env a.tmps.toList) (h : HR P mid J A w) {x : Operand} {x' : Opd} (hx : opd P.globals.size x = some x') (k : FloatKind) (k0 : IntKind) (s t : TypeId) (hs : P.underlying s = some (.int k0)) (ht : P.underlying t = some (.float k)) (ty : TypeId) (pos : String) (d af g) :
    OpOk P mid T J A w (evOp T env A (.cvF k x')) ((execOp a.eval ⟨d, .convert s t x, ty, pos, af, g⟩).run P w) := by
  simp only [evOp]
  have h1 := ev_sim hE h hx
  simp only [execOp]
  split
  · rename_i k1 n hx1
    rw [hx1] at h1; simp only [VR] at h1
    rw [h1]
    exact ok_val h (by simp [convert, underlying, hs, ht, Conv.intToFloat]; rfl) (by simp [VR])
  · trivial

theorem sim_cvIS (hE : VRs J env a.tmps.toList) (h : HR P mid J A w) {x : Operand} {x' : Opd} (hx : opd P.globals.size x = some x') (s t : TypeId) (hs : P.underlying s = some .string) (ht : P.underlying t = some .string) (ty : TypeId) (pos : String) (d af g) :
    OpOk P mid T J A w (evOp T env A (.cvIS x')) ((execOp a.eval ⟨d, .convert s t x, ty, pos, af, g⟩).run P w) := by
  simp only [evOp]
  have h1 := ev_sim hE h hx
  simp only [execOp]
  split
  · rename_i s1 hx1
    rw [hx1] at h1
    have h1' := h1
    simp only [VR] at h1
    obtain ⟨u, h1, hu⟩ := h1
    rw [h1] at h1' ⊢
    exact ok_val h (by simp [convert, underlying, hs, ht]) h1'
  · trivial
end
end Go.Ae
/- One operation: what the evaluator answers, the model does: places, parts, slices. -/
namespace Go.Ae
open Go
section
variable {P : Program} {mid : String → Option Nat} {T : Tab} {J : KW} {A : AW} {w : World} {env : List AV} {a : Act}

theorem szC_run {t : TypeId} {n : Nat} (h : szC P t = some n) : (sizeOf t).run P w = .ok n w := by
  simp only [szC, Option.map_eq_some_iff] at h
  obtain ⟨i, hi, rfl⟩ := h
  simp [sizeOf, typeInfo, hi]

theorem aggC_run {t : TypeId} {b : Bool} (h : aggC P t = some b) : (isAgg t).run P w = .ok b w := by
  simp only [aggC, Option.map_eq_some_iff] at h
  obtain ⟨d, hd, rfl⟩ := h
  simp only [isAgg, underlying, Sem.run_bind, run_program, Result.andThen_ok, hd, Sem.run_pure]
  cases d <;> simp

theorem und_run {t : TypeId} {d : TypeDesc} (h : P.underlying t = some d) : (underlying t).run P w = .ok d w := by
  simp [underlying, h]

theorem sim_nilc (hE : VRs J env a.tmps.toList) (h : HR P mid J A w) {x : Operand} {x' : Opd} (hx : opd P.globals.size x = some x') (ty : TypeId) (pos : String) (d af g) :
    OpOk P mid T J A w (evOp T env A (.nilc x')) ((execOp a.eval ⟨d, .nilCheck x, ty, pos, af, g⟩).run P w) := by
  simp only [evOp]
  have h1 := ev_sim hE h hx
  simp only [execOp]
  split <;> try trivial
  · rename_i q hx1
    rw [hx1] at h1
    have h1' := h1
    obtain ⟨b, o⟩ := q
    simp only [VR] at h1
    obtain ⟨b', e, _⟩ := h1
    rw [e] at h1' ⊢
    exact ok_val h rfl h1'
  · rename_i f p q hx1
    rw [hx1] at h1
    have h1' := h1
    simp only [VR, FR] at h1
    obtain ⟨f', fs', cs', e, rfl, _⟩ := h1
    rw [e] at h1' ⊢
    exact ok_val h rfl h1'
  · rename_i f p q hx1
    rw [hx1] at h1
    have h1' := h1
    simp only [VR, FR] at h1
    obtain ⟨f', fs', cs', e, ⟨l', rfl, _⟩, _⟩ := h1
    rw [e] at h1' ⊢
    exact ok_val h rfl h1'
  · rename_i t v hx1
    rw [hx1] at h1
    have h1' := h1
    simp only [VR] at h1
    obtain ⟨v', e, _⟩ := h1
    rw [e] at h1' ⊢
    exact ok_val h rfl h1'

theorem sim_mkI (hE : VRs J env a.tmps.toList) (h : HR P mid J A w) {x : Operand} {x' : Opd} (hx : opd P.globals.size x = some x') (t : TypeId) (dd : TypeDesc) (ht : P.underlying t = some dd) (hn : ∀ ms, dd ≠ .interface ms) (ty : TypeId) (pos : String) (d af g) :
    OpOk P mid T J A w (evOp T env A (.mkI t x')) ((execOp a.eval ⟨d, .makeInterface t x, ty, pos, af, g⟩).run P w) := by
  simp only [evOp]
  have h1 := ev_sim hE h hx
  refine ok_val h (v' := .iface t (a.eval x)) ?_ (by simp only [VR]; exact ⟨_, rfl, h1⟩)
  simp only [execOp, Instr.makeInterface, Sem.run_bind, und_run ht, Result.andThen_ok]
  cases dd <;> first | rfl | exact absurd rfl (hn _)

theorem sim_mkF (hE : VRs J env a.tmps.toList) (h : HR P mid J A w) {xs ys : Array Operand} {xs' ys' : List Opd} (hx : opds P.globals.size xs.toList = some xs') (hy : opds P.globals.size ys.toList = some ys') (fn : Fn) (hf : ∀ l, fn ≠ .yield l) (ty : TypeId) (pos : String) (d af g) :
    OpOk P mid T J A w (evOp T env A (.mkF fn xs' ys')) ((execOp a.eval ⟨d, .makeFunc fn xs ys, ty, pos, af, g⟩).run P w) := by
  simp only [evOp]
  refine ok_val h (v' := .func fn (xs.map a.eval) (ys.map a.eval)) (by simp [execOp, Instr.makeFunc]) ?_
  simp only [VR]
  refine ⟨_, _, _, rfl, ?_, ?_, ?_⟩
  · cases fn <;> first | rfl | exact absurd rfl (hf _)
  · simpa using evs_sim hE h hx
  · simpa using evs_sim hE h hy

theorem sim_off (hE : VRs J env a.tmps.toList) (h : HR P mid J A w) {x : Operand} {x' : Opd} (hx : opd P.globals.size x = some x') (s : TypeId) (f : Nat) (fs : Array Field) (fd : Field) (n : Nat) (hs : P.underlying s = some (.struct fs)) (hf : fs[f]? = some fd)
    (hn : szC P fd.type = some n) (hn0 : n ≠ 0) (ty : TypeId) (pos : String) (d af g) :
    OpOk P mid T J A w (evOp T env A (.off fd.offset x')) ((execOp a.eval ⟨d, .fieldAddr s x f, ty, pos, af, g⟩).run P w) := by
  simp only [evOp]
  have h1 := ev_sim hE h hx
  simp only [execOp]
  split
  · rename_i b p hx1
    rw [hx1] at h1; simp only [VR] at h1
    obtain ⟨b', e, hb⟩ := h1
    rw [e]
    refine ok_val h (v' := .pointer (some ⟨b', p + fd.offset, none⟩)) ?_ (by simp only [VR]; exact ⟨b', rfl, hb⟩)
    simp [Instr.fieldAt, und_run hs, hf, Instr.sureAddr, fieldPlace, szC_run hn, hn0, add_none]
  · trivial

theorem part_run {t : TypeId} {cs : Array Value} {o : Nat} (h : aggC P t = some false) {v : Value} (hv : cs[o]? = some v) : (part t cs o).run P w = .ok v w := by
  simp [part, aggC_run h, hv]
theorem part_run_agg {t : TypeId} {cs : Array Value} {o n : Nat} (h : aggC P t = some true) (hn : szC P t = some n) : (part t cs o).run P w = .ok (.agg (cs.extract o (o + n))) w := by
  simp [part, aggC_run h, szC_run hn]

theorem sim_fld (hE : VRs J env a.tmps.toList) (h : HR P mid J A w) {x : Operand} {x' : Opd} (hx : opd P.globals.size x = some x') (s : TypeId) (f : Nat) (fs : Array Field) (fd : Field) (hs : P.underlying s = some (.struct fs)) (hf : fs[f]? = some fd)
    (hn : aggC P fd.type = some false) (ty : TypeId) (pos : String) (d af g) :
    OpOk P mid T J A w (evOp T env A (.fld fd.offset x')) ((execOp a.eval ⟨d, .field s x f, ty, pos, af, g⟩).run P w) := by
  simp only [evOp]
  have h1 := ev_sim hE h hx
  simp only [execOp]
  split
  · rename_i cs hx1
    rw [hx1] at h1; simp only [VR] at h1
    obtain ⟨l', e, hl⟩ := h1
    rw [e]
    refine ok_oV h ?_
    intro v hv
    obtain ⟨v', e1, e2⟩ := hl.get hv
    refine ⟨v', ?_, e2⟩
    have := part_run (w := w) hn (show l'[fd.offset]? = some v' by simpa using e1)
    simp [Instr.field, und_run hs, hf, asAgg, this]
  · trivial

theorem VRs.sub {J : KW} {cs : List AV} {l' : Array Value} (hl : VRs J cs l'.toList) (o n : Nat) (_hle : o + n ≤ cs.length) : VRs J ((cs.drop o).take n) (l'.extract o (o + n)).toList := by
  have := (hl.drop o).take n
  rw [Array.toList_extract]
  have e : (l'.toList.extract o (o + n)) = (l'.toList.drop o).take n := by simp [List.extract_eq_take_drop]
  rw [e]; exact this

theorem sim_fldN (hE : VRs J env a.tmps.toList) (h : HR P mid J A w) {x : Operand} {x' : Opd} (hx : opd P.globals.size x = some x') (s : TypeId) (f : Nat) (fs : Array Field) (fd : Field) (n : Nat) (hs : P.underlying s = some (.struct fs)) (hf : fs[f]? = some fd)
    (hg : aggC P fd.type = some true) (hn : szC P fd.type = some n) (ty : TypeId) (pos : String) (d af g) :
    OpOk P mid T J A w (evOp T env A (.fldN fd.offset n x')) ((execOp a.eval ⟨d, .field s x f, ty, pos, af, g⟩).run P w) := by
  simp only [evOp]
  have h1 := ev_sim hE h hx
  simp only [execOp]
  split
  · rename_i cs hx1
    rw [hx1] at h1; simp only [VR] at h1
    obtain ⟨l', e, hl⟩ := h1
    rw [e]
    cases hb : Nat.ble (fd.offset + n) cs.length
    · trivial
    · have hle := Nat.le_of_ble_eq_true hb
      refine ok_val h (v' := .agg (l'.extract fd.offset (fd.offset + n))) ?_ (by simp only [VR]; exact ⟨_, rfl, hl.sub _ _ hle⟩)
      simp [Instr.field, und_run hs, hf, asAgg, part_run_agg hg hn]
  · trivial

theorem sim_ixS (hE : VRs J env a.tmps.toList) (h : HR P mid J A w) {x i : Operand} {x' i' : Opd} (hx : opd P.globals.size x = some x') (hi : opd P.globals.size i = some i') (t e : TypeId) (es : Nat) (ht : P.underlying t = some (.slice e)) (hs : szC P e = some es)
    (ty : TypeId) (pos : String) (d af g) :
    OpOk P mid T J A w (evOp T env A (.ixS es x' i')) ((execOp a.eval ⟨d, .indexAddr t x i, ty, pos, af, g⟩).run P w) := by
  simp only [evOp]
  have h1 := ev_sim hE h hx
  have h2 := ev_sim hE h hi
  simp only [execOp]
  split
  · rename_i b o n c es' k m hx1 hi1
    rw [hx1] at h1; rw [hi1] at h2
    simp only [VR] at h1 h2
    obtain ⟨b', c', e1, hb, _, _, _⟩ := h1
    rw [e1, h2]
    cases hc : (Nat.beq es es' && decide (0 ≤ m) && decide (m < (n : Int)))
    · trivial
    · simp only [Bool.and_eq_true, decide_eq_true_eq] at hc
      refine ok_val h (v' := .pointer (some ⟨b', o + m.toNat * es, none⟩)) ?_ (by simp only [VR]; exact ⟨b', rfl, hb⟩)
      simp [Instr.indexAt, asIntOf, und_run ht, szC_run hs, hc.1.2, hc.2, add_none]
  · trivial

theorem sim_ixA (hE : VRs J env a.tmps.toList) (h : HR P mid J A w) {x i : Operand} {x' i' : Opd} (hx : opd P.globals.size x = some x') (hi : opd P.globals.size i = some i') (t e : TypeId) (n es : Nat) (ht : P.underlying t = some (.array n e)) (hs : szC P e = some es)
    (ty : TypeId) (pos : String) (d af g) :
    OpOk P mid T J A w (evOp T env A (.ixA n es x' i')) ((execOp a.eval ⟨d, .indexAddr t x i, ty, pos, af, g⟩).run P w) := by
  simp only [evOp]
  have h1 := ev_sim hE h hx
  have h2 := ev_sim hE h hi
  simp only [execOp]
  split
  · rename_i b o k m hx1 hi1
    rw [hx1] at h1; rw [hi1] at h2
    simp only [VR] at h1 h2
    obtain ⟨b', e1, hb⟩ := h1
    rw [e1, h2]
    cases hc : (decide (0 ≤ m) && decide (m < (n : Int)))
    · trivial
    · simp only [Bool.and_eq_true, decide_eq_true_eq] at hc
      refine ok_val h (v' := .pointer (some ⟨b', o + m.toNat * es, none⟩)) ?_ (by simp only [VR]; exact ⟨b', rfl, hb⟩)
      simp [Instr.indexAt, asIntOf, und_run ht, szC_run hs, Instr.sureAddr, hc.1, hc.2, add_none]
  · trivial

theorem sim_iaA (hE : VRs J env a.tmps.toList) (h : HR P mid J A w) {x i : Operand} {x' i' : Opd} (hx : opd P.globals.size x = some x') (hi : opd P.globals.size i = some i') (t e : TypeId) (n es : Nat) (ag : Bool) (ht : P.underlying t = some (.array n e)) (hs : szC P e = some es)
    (hg : aggC P e = some ag) (ty : TypeId) (pos : String) (d af g) :
    OpOk P mid T J A w (evOp T env A (.iaA n es ag x' i')) ((execOp a.eval ⟨d, .index t x i, ty, pos, af, g⟩).run P w) := by
  simp only [evOp]
  have h1 := ev_sim hE h hx
  have h2 := ev_sim hE h hi
  simp only [execOp]
  split
  · rename_i cs k m hx1 hi1
    rw [hx1] at h1; rw [hi1] at h2
    simp only [VR] at h1 h2
    obtain ⟨l', e1, hl⟩ := h1
    rw [e1, h2]
    cases hc : (decide (0 ≤ m) && decide (m < (n : Int)))
    · trivial
    · simp only [Bool.and_eq_true, decide_eq_true_eq] at hc
      cases ag
      · refine ok_oV h ?_
        intro v hv
        obtain ⟨v', e3, e4⟩ := hl.get hv
        have := part_run (w := w) hg (show l'[m.toNat * es]? = some v' by simpa using e3)
        exact ⟨v', by simp [Instr.index, asIntOf, und_run ht, szC_run hs, hc.1, hc.2, this], e4⟩
      · simp only [cond_true]
        cases hb : Nat.ble (m.toNat * es + es) cs.length
        · trivial
        · have hle := Nat.le_of_ble_eq_true hb
          refine ok_val h (v' := .agg (l'.extract (m.toNat * es) (m.toNat * es + es))) ?_ (by simp only [VR]; exact ⟨_, rfl, hl.sub _ _ hle⟩)
          simp [Instr.index, asIntOf, und_run ht, szC_run hs, hc.1, hc.2, part_run_agg hg hs]
  · trivial

theorem sim_ixStr (hE : VRs J env a.tmps.toList) (h : HR P mid J A w) {x i : Operand} {x' i' : Opd} (hx : opd P.globals.size x = some x') (hi : opd P.globals.size i = some i') (t : TypeId) (ht : P.underlying t = some .string)
    (ty : TypeId) (pos : String) (d af g) :
    OpOk P mid T J A w (evOp T env A (.ixStr x' i')) ((execOp a.eval ⟨d, .index t x i, ty, pos, af, g⟩).run P w) := by
  simp only [evOp]
  have h1 := ev_sim hE h hx
  have h2 := ev_sim hE h hi
  simp only [execOp]
  split
  · rename_i s k m hx1 hi1
    rw [hx1] at h1; rw [hi1] at h2
    simp only [VR] at h1 h2
    obtain ⟨u, e1, hu⟩ := h1
    rw [e1, h2]
    cases hc : decide (0 ≤ m)
    · trivial
    · simp only [decide_eq_true_eq] at hc
      simp only [cond_true]
      split
      · rename_i b hb
        refine ok_val h (v' := .int .u8 b.toNat) ?_ (by simp [VR])
        have hg : u[m.toNat]? = some b := by
          subst hu
          have hlt : m.toNat < u.data.toList.length := by
            rcases Nat.lt_or_ge m.toNat u.data.toList.length with h' | h'
            · exact h'
            · rw [List.getElem?_eq_none h'] at hb; cases hb
          have hlt' : m.toNat < u.size := hlt
          rw [getElem?_pos u m.toNat hlt']
          rw [List.getElem?_eq_getElem hlt] at hb
          simp only [Option.some.injEq] at hb ⊢
          rw [← hb]; rfl
        simp [Instr.index, asIntOf, und_run ht, hc, hg]
      · trivial
  · trivial

theorem sim_ext (hE : VRs J env a.tmps.toList) (h : HR P mid J A w) {x : Operand} {x' : Opd} (hx : opd P.globals.size x = some x') (i : Nat) (ty : TypeId) (pos : String) (d af g) :
    OpOk P mid T J A w (evOp T env A (.ext x' i)) ((execOp a.eval ⟨d, .extract x i, ty, pos, af, g⟩).run P w) := by
  simp only [evOp]
  have h1 := ev_sim hE h hx
  simp only [execOp]
  split
  · rename_i l hx1
    rw [hx1] at h1; simp only [VR] at h1
    obtain ⟨l', e, hl⟩ := h1
    rw [e]
    refine ok_oV h ?_
    intro v hv
    obtain ⟨v', e1, e2⟩ := hl.get hv
    exact ⟨v', by simp [Instr.extract, show l'[i]? = some v' by simpa using e1], e2⟩
  · trivial

theorem sim_s2a (hE : VRs J env a.tmps.toList) (h : HR P mid J A w) {x : Operand} {x' : Opd} (hx : opd P.globals.size x = some x') (t e : TypeId) (n : Nat) (ht : P.underlying t = some (.array n e)) (ty : TypeId) (pos : String) (d af g) :
    OpOk P mid T J A w (evOp T env A (.s2a n x')) ((execOp a.eval ⟨d, .sliceToArrayPointer t x, ty, pos, af, g⟩).run P w) := by
  simp only [evOp]
  have h1 := ev_sim hE h hx
  simp only [execOp]
  split
  · rename_i b o l c es hx1
    rw [hx1] at h1; simp only [VR] at h1
    obtain ⟨b', c', e1, hb, _⟩ := h1
    rw [e1]
    cases hc : Nat.ble n l
    · trivial
    · have hle := Nat.le_of_ble_eq_true hc
      refine ok_val h (v' := .pointer (some ⟨b', o, none⟩)) ?_ (by simp only [VR]; exact ⟨b', rfl, hb⟩)
      simp [Instr.arrayAt, und_run ht, show ¬ l < n by omega]
  · trivial

/-! ### slice expressions -/
theorem bnd_sim (hE : VRs J env a.tmps.toList) (h : HR P mid J A w) {x : Option Operand} {x' : Option Opd} (hx : opdO P.globals.size x = some x') {dflt most r : Nat} (hb : bnd env x' dflt most = some r) :
    r ≤ most ∧ ((x = none ∧ r = dflt) ∨ ∃ (v : Operand) (k : IntKind) (i : Int), x = some v ∧ a.eval v = .int k i ∧ 0 ≤ i ∧ i ≤ most ∧ r = i.toNat) := by
  cases x with
  | none =>
    simp only [opdO, Option.some.injEq] at hx; subst hx
    simp only [bnd] at hb
    cases hc : Nat.ble dflt most
    · rw [hc] at hb; cases hb
    · rw [hc] at hb
      have := Nat.le_of_ble_eq_true hc
      simp only [cond_true, Option.some.injEq] at hb; subst hb
      exact ⟨this, .inl ⟨rfl, rfl⟩⟩
  | some v =>
    simp only [opdO, Option.map_eq_some_iff] at hx
    obtain ⟨y, hy, rfl⟩ := hx
    have h1 := ev_sim hE h hy
    simp only [bnd] at hb
    split at hb
    · rename_i k i hi
      rw [hi] at h1; simp only [VR] at h1
      cases hc : (decide (0 ≤ i) && decide (i ≤ (most : Int)))
      · rw [hc] at hb; cases hb
      · rw [hc] at hb
        simp only [Bool.and_eq_true, decide_eq_true_eq] at hc
        simp only [cond_true, Option.some.injEq] at hb; subst hb
        exact ⟨by omega, .inr ⟨v, k, i, rfl, h1, hc.1, hc.2, rfl⟩⟩
    · cases hb

theorem sliceBound_run {k : IntKind} {i : Int} {y : Nat} {code : BoundsCode} (h0 : 0 ≤ i) (h1 : i ≤ y) : (Instr.sliceBound (.int k i) y code).run P w = .ok i.toNat w := by
  simp [Instr.sliceBound, asIntOf, h0, h1]

theorem sliceBounds_run (hE : VRs J env a.tmps.toList) (h : HR P mid J A w) {lo hi mx : Option Operand} {lo' hi' mx' : Option Opd} (hlo : opdO P.globals.size lo = some lo') (hhi : opdO P.globals.size hi = some hi') (hmx : opdO P.globals.size mx = some mx')
    {n c c' m hh l : Nat} (b3 : bnd env mx' c c = some m) (b2 : bnd env hi' n m = some hh) (b1 : bnd env lo' 0 hh = some l) (hcc : c ≤ c') (hmh : mx = none ∨ hi.isSome = true) (isS : Bool) :
    (Instr.sliceBounds isS n c' (lo.map a.eval) (hi.map a.eval) (mx.map a.eval)).run P w = .ok (l, hh, if mx = none then c' else m) w := by
  obtain ⟨l3, r3⟩ := bnd_sim hE h hmx b3
  obtain ⟨l2, r2⟩ := bnd_sim hE h hhi b2
  obtain ⟨l1, r1⟩ := bnd_sim hE h hlo b1
  rcases r3 with ⟨rfl, rfl⟩ | ⟨v3, k3, i3, rfl, e3, p3, q3, rfl⟩
  · rcases r2 with ⟨rfl, rfl⟩ | ⟨v2, k2, i2, rfl, e2, p2, q2, rfl⟩
    · rcases r1 with ⟨rfl, rfl⟩ | ⟨v1, k1, i1, rfl, e1, p1, q1, rfl⟩
      · simp [Instr.sliceBounds]
      · simp [Instr.sliceBounds, e1, sliceBound_run p1 q1]
    · have q2' : i2 ≤ (c' : Int) := by omega
      rcases r1 with ⟨rfl, rfl⟩ | ⟨v1, k1, i1, rfl, e1, p1, q1, rfl⟩
      · simp [Instr.sliceBounds, e2, sliceBound_run p2 q2']
      · simp [Instr.sliceBounds, e2, sliceBound_run p2 q2', e1, sliceBound_run p1 q1]
  · have q3' : i3 ≤ (c' : Int) := by omega
    rcases r2 with ⟨rfl, rfl⟩ | ⟨v2, k2, i2, rfl, e2, p2, q2, rfl⟩
    · rcases hmh with hm | hm
      · cases hm
      · cases hm
    · rcases r1 with ⟨rfl, rfl⟩ | ⟨v1, k1, i1, rfl, e1, p1, q1, rfl⟩
      · simp [Instr.sliceBounds, e3, sliceBound_run p3 q3', e2, sliceBound_run p2 q2]
      · simp [Instr.sliceBounds, e3, sliceBound_run p3 q3', e2, sliceBound_run p2 q2, e1, sliceBound_run p1 q1]
end
end Go.Ae
/- One operation: what the evaluator answers, the model does: slices, readers, comparisons. -/
namespace Go.Ae
open Go
section
variable {P : Program} {mid : String → Option Nat} {T : Tab} {J : KW} {A : AW} {w : World} {env : List AV} {a : Act}

theorem bnd_none (env : List AV) (n : Nat) : bnd env none n n = some n := by
  unfold bnd; rw [Nat.ble_eq_true_of_le (Nat.le_refl _)]; rfl

theorem sim_slStr (hE : VRs J env a.tmps.toList) (h : HR P mid J A w) {x : Operand} {x' : Opd} (hx : opd P.globals.size x = some x') {lo hi : Option Operand} {lo' hi' : Option Opd} (hlo : opdO P.globals.size lo = some lo') (hhi : opdO P.globals.size hi = some hi')
    (t : TypeId) (ht : P.underlying t = some .string) (ty : TypeId) (pos : String) (d af g) :
    OpOk P mid T J A w (evOp T env A (.slStr x' lo' hi')) ((execOp a.eval ⟨d, .slice t x lo hi none, ty, pos, af, g⟩).run P w) := by
  simp only [evOp]
  have h1 := ev_sim hE h hx
  simp only [execOp]
  split
  · rename_i s hx1
    rw [hx1] at h1; simp only [VR] at h1
    obtain ⟨u, e1, hu⟩ := h1
    rw [e1]
    split
    · rename_i hh b2
      split
      · rename_i l b1
        have hlen : s.length = u.size := by rw [← hu]; rfl
        have b3 := bnd_none env s.length
        have := sliceBounds_run (w := w) hE h hlo hhi (mx := none) (mx' := none) rfl b3 b2 b1 (Nat.le_refl _) (.inl rfl) false
        simp only [if_true, Option.map_none, hlen] at this
        refine ok_val h (v' := .string (u.extract l hh)) ?_ ?_
        · simp [Instr.sliceAt, Instr.slice, und_run ht, this]
        · simp only [VR]
          refine ⟨_, rfl, ?_⟩
          rw [← hu]
          simp [ByteArray.data_extract, List.extract_eq_take_drop]
      · trivial
    · trivial
  · trivial

theorem sim_slSl (hE : VRs J env a.tmps.toList) (h : HR P mid J A w) {x : Operand} {x' : Opd} (hx : opd P.globals.size x = some x') {lo hi mx : Option Operand} {lo' hi' mx' : Option Opd} (hlo : opdO P.globals.size lo = some lo') (hhi : opdO P.globals.size hi = some hi')
    (hmx : opdO P.globals.size mx = some mx') (hmh : mx = none ∨ hi.isSome = true)
    (t e : TypeId) (es : Nat) (ht : P.underlying t = some (.slice e)) (hs : szC P e = some es) (ty : TypeId) (pos : String) (d af g) :
    OpOk P mid T J A w (evOp T env A (.slSl es x' lo' hi' mx')) ((execOp a.eval ⟨d, .slice t x lo hi mx, ty, pos, af, g⟩).run P w) := by
  simp only [evOp]
  have h1 := ev_sim hE h hx
  simp only [execOp]
  split
  · rename_i q n c es' hx1
    split
    · rename_i m b3
      split
      · rename_i hh b2
        split
        · rename_i l b1
          have lm := (bnd_sim hE h hmx b3).1
          have lh := (bnd_sim hE h hhi b2).1
          have ll := (bnd_sim hE h hlo b1).1
          cases q with
          | nil =>
            rw [hx1] at h1; simp only [VR] at h1
            obtain ⟨rfl, rfl, e1⟩ := h1
            rw [e1]
            have := sliceBounds_run (w := w) hE h hlo hhi hmx b3 b2 b1 (Nat.le_refl _) hmh true
            have em : (if mx = none then 0 else m) = 0 := by split <;> omega
            rw [em] at this
            obtain rfl : l = 0 := by omega
            obtain rfl : hh = 0 := by omega
            obtain rfl : m = 0 := by omega
            refine ok_val h (v' := .slice none 0 0) ?_ (by simp [VR])
            simp [Instr.sliceAt, Instr.slice, und_run ht, szC_run hs, this]
          | emp =>
            rw [hx1] at h1; simp only [VR] at h1
            obtain ⟨rfl, rfl, ad, c', e1⟩ := h1
            rw [e1]
            have := sliceBounds_run (w := w) hE h hlo hhi hmx b3 b2 b1 (Nat.zero_le c') hmh true
            obtain rfl : l = 0 := by omega
            obtain rfl : hh = 0 := by omega
            obtain rfl : m = 0 := by omega
            refine ok_val h (v' := .slice (some (if (if mx = none then c' else 0) = 0 then ad else ad.add 0)) 0 (if mx = none then c' else 0)) ?_ (by simp [VR])
            simp [Instr.sliceAt, Instr.slice, und_run ht, szC_run hs, this]
            split <;> rfl
          | pos b o =>
            rw [hx1] at h1; simp only [VR] at h1
            obtain ⟨b', c', e1, hb, hn, hc, hsz⟩ := h1
            rw [e1]
            cases hes : Nat.beq es es'
            · trivial
            · have hes' := Nat.eq_of_beq_eq_true hes
              subst hes'
              simp only [cond_true]
              have := sliceBounds_run (w := w) hE h hlo hhi hmx b3 b2 b1 hc hmh true
              obtain ⟨M, hM⟩ : ∃ M, (if mx = none then c' else m) = M := ⟨_, rfl⟩
              rw [hM] at this
              have hmM : m ≤ M ∧ M ≤ c' := by
                rw [← hM]; split
                · exact ⟨by omega, Nat.le_refl _⟩
                · exact ⟨Nat.le_refl _, by omega⟩
              refine ok_val h (v' := .slice (some (if M = l then ⟨b', o, none⟩ else ⟨b', o + l * es, none⟩)) (hh - l) (M - l)) ?_ ?_
              · simp [Instr.sliceAt, Instr.slice, und_run ht, szC_run hs, this, add_none]
                split <;> rfl
              · have hmul : l * es + (M - l) * es = M * es := by rw [← Nat.add_mul]; congr 1; omega
                have hMs : M * es ≤ c' * es := Nat.mul_le_mul_right _ hmM.2
                rw [cond_nbeq, cond_nbeq]
                by_cases hml : m = l
                · rw [if_pos hml]
                  by_cases hl0 : l = 0
                  · rw [if_pos hl0]
                    subst hl0
                    simp only [VR]
                    refine ⟨b', M - 0, ?_, hb, by omega, by omega, by simpa using by omega⟩
                    simp
                  · rw [if_neg hl0]
                    simp only [VR]
                    exact ⟨by omega, by omega, _, _, by rw [show hh - l = 0 by omega]⟩
                · rw [if_neg hml]
                  have : M ≠ l := by omega
                  rw [if_neg this]
                  simp only [VR]
                  exact ⟨b', M - l, rfl, hb, by omega, by omega, by omega⟩
        · trivial
      · trivial
    · trivial
  · trivial

theorem sim_slArr (hE : VRs J env a.tmps.toList) (h : HR P mid J A w) {x : Operand} {x' : Opd} (hx : opd P.globals.size x = some x') {lo hi : Option Operand} {lo' hi' : Option Opd} (hlo : opdO P.globals.size lo = some lo') (hhi : opdO P.globals.size hi = some hi')
    (t e : TypeId) (n es : Nat) (ht : P.underlying t = some (.array n e)) (hs : szC P e = some es) (ty : TypeId) (pos : String) (d af g) :
    OpOk P mid T J A w (evOp T env A (.slArr n es x' lo' hi')) ((execOp a.eval ⟨d, .slice t x lo hi none, ty, pos, af, g⟩).run P w) := by
  simp only [evOp]
  have h1 := ev_sim hE h hx
  simp only [execOp]
  split
  · rename_i b o hx1
    rw [hx1] at h1; simp only [VR] at h1
    obtain ⟨b', e1, hb⟩ := h1
    rw [e1]
    split
    · rename_i hh b2
      split
      · rename_i l b1
        split
        · rename_i cs e' ro hA
          cases hc : Nat.ble (o + n * es) cs.length
          · trivial
          · have hle := Nat.le_of_ble_eq_true hc
            simp only [cond_true]
            obtain ⟨b2', cs', fr, hb2, _, _, _, hle2, hsg⟩ := h.cells hA
            rw [hb] at hb2; cases hb2
            have lh := (bnd_sim hE h hhi b2).1
            have ll := (bnd_sim hE h hlo b1).1
            have b3 := bnd_none env n
            have := sliceBounds_run (w := w) hE h hlo hhi (mx := none) (mx' := none) rfl b3 b2 b1 (Nat.le_refl _) (.inl rfl) false
            simp only [if_true, Option.map_none] at this
            refine ok_val h (v' := .slice (some (if n = l then ⟨b', o, none⟩ else ⟨b', o + l * es, none⟩)) (hh - l) (n - l)) ?_ ?_
            · simp [Instr.sliceAt, und_run ht, szC_run hs, Instr.sureAddr, this, add_none]
            · rw [cond_nbeq]
              by_cases hnl : n = l
              · rw [if_pos hnl]; simp only [VR]
                exact ⟨by omega, by omega, _, _, by rw [show hh - l = 0 by omega]⟩
              · rw [if_neg hnl, if_neg hnl]
                simp only [VR]
                have hmul : l * es + (n - l) * es = n * es := by rw [← Nat.add_mul]; congr 1; omega
                exact ⟨b', n - l, rfl, hb, by omega, by omega, by omega⟩
        · trivial
      · trivial
    · trivial
  · trivial

theorem sim_ta (hE : VRs J env a.tmps.toList) (h : HR P mid J A w) {x : Operand} {x' : Opd} (hx : opd P.globals.size x = some x') (t xt : TypeId) (dd : TypeDesc) (z : AV) (ok : Bool) (ht : P.underlying t = some dd) (hn : ∀ ms, dd ≠ .interface ms) (hz : zeroV P t = some z)
    (ty : TypeId) (pos : String) (d af g) :
    OpOk P mid T J A w (evOp T env A (.ta t z ok x')) ((execOp a.eval ⟨d, .typeAssert x xt t ok, ty, pos, af, g⟩).run P w) := by
  simp only [evOp]
  have h1 := ev_sim hE h hx
  simp only [execOp]
  simp only [zeroV, bind, Option.bind_eq_some_iff] at hz
  obtain ⟨i, hi, zv, hzv, hzz⟩ := hz
  have hzr : (zeroValue t).run P w = .ok zv w := by simp [zeroValue, typeInfo, hi, hzv]
  have hzVR := absC_VR J hzz
  split
  · rename_i hx1
    rw [hx1] at h1; simp only [VR] at h1
    rw [h1]
    cases ok
    · trivial
    · refine ok_val h (v' := .tuple #[zv, .bool false]) ?_ (by simp only [VR]; exact ⟨_, rfl, VRs.cons hzVR (VRs.cons (by simp [VR]) VRs.nil)⟩)
      cases dd <;> first | exact absurd rfl (hn _) | simp [Instr.typeAssert, und_run ht, hzr]
  · rename_i t' v hx1
    rw [hx1] at h1; simp only [VR] at h1
    obtain ⟨v', e1, hv⟩ := h1
    rw [e1, cond_nbeq]
    by_cases htt : t' = t
    · rw [if_pos htt]
      cases ok
      · refine ok_val h (v' := v') ?_ (by simpa using hv)
        cases dd <;> first | exact absurd rfl (hn _) | simp [Instr.typeAssert, und_run ht, htt]
      · refine ok_val h (v' := .tuple #[v', .bool true]) ?_ (by simp only [cond_true, VR]; exact ⟨_, rfl, VRs.cons hv (VRs.cons (by simp [VR]) VRs.nil)⟩)
        cases dd <;> first | exact absurd rfl (hn _) | simp [Instr.typeAssert, und_run ht, htt]
    · rw [if_neg htt]
      cases ok
      · trivial
      · refine ok_val h (v' := .tuple #[zv, .bool false]) ?_ (by simp only [VR]; exact ⟨_, rfl, VRs.cons hzVR (VRs.cons (by simp [VR]) VRs.nil)⟩)
        cases dd <;> first | exact absurd rfl (hn _) | simp [Instr.typeAssert, und_run ht, htt, hzr]
  · trivial

/-! ### readers -/
theorem sim_ld (hE : VRs J env a.tmps.toList) (h : HR P mid J A w) {x : Operand} {x' : Opd} (hx : opd P.globals.size x = some x') (t : TypeId) (hg : aggC P t = some false) (ty : TypeId) (pos : String) (d af g) :
    OpOk P mid T J A w (evOp T env A (.ld x')) ((execOp a.eval ⟨d, .load t x, ty, pos, af, g⟩).run P w) := by
  simp only [evOp]
  have h1 := ev_sim hE h hx
  simp only [execOp]
  split
  · rename_i b o hx1
    rw [hx1] at h1; simp only [VR] at h1
    obtain ⟨b', e1, hb⟩ := h1
    rw [e1]
    refine ok_oV h ?_
    intro v hv
    obtain ⟨v', e2, e3⟩ := rd1_sim h hv hb
    exact ⟨v', by simp [Instr.loadAt, Instr.sureAddr, loadVar, aggC_run hg, e2], e3⟩
  · trivial

theorem sim_ldN (hE : VRs J env a.tmps.toList) (h : HR P mid J A w) {x : Operand} {x' : Opd} (hx : opd P.globals.size x = some x') (t : TypeId) (n : Nat) (hg : aggC P t = some true) (hn : szC P t = some n) (ty : TypeId) (pos : String) (d af g) :
    OpOk P mid T J A w (evOp T env A (.ldN n x')) ((execOp a.eval ⟨d, .load t x, ty, pos, af, g⟩).run P w) := by
  simp only [evOp]
  have h1 := ev_sim hE h hx
  simp only [execOp]
  split
  · rename_i b o hx1
    rw [hx1] at h1; simp only [VR] at h1
    obtain ⟨b', e1, hb⟩ := h1
    rw [e1]
    split
    · rename_i l hl
      obtain ⟨vs, e2, _, e3, _⟩ := rd_sim h hl hb
      refine ok_val h (v' := .agg vs.toArray) ?_ (by simp only [VR]; exact ⟨_, rfl, by simpa using e2⟩)
      simp [Instr.loadAt, Instr.sureAddr, loadVar, aggC_run hg, szC_run hn, e3]
    · trivial
  · trivial

/-- what a slice or a string holds, on both sides -/
theorem content_sim (h : HR P mid J A w) {es : Nat} {x : AV} {v : Value} (hv : VR J x v) {cs : List AV} (hc : content A es x = some cs) :
    (∃ u : ByteArray, es = 1 ∧ v = .string u ∧ x = .str u.data.toList ∧ cs = cellsOfBytes u.data.toList) ∨
    (∃ c, v = .slice none 0 c ∧ cs = []) ∨ (∃ ad c, v = .slice (some ad) 0 c ∧ cs = []) ∨
    (∃ (b o n c es' : Nat) (b' c' : Nat) (vs : List Value), x = .slc (.pos b o) n c es' ∧ es = es' ∧ v = .slice (some ⟨b', o, none⟩) n c' ∧ J.ι b = some b' ∧ VRs J cs vs ∧ cs.length = n * es ∧ (loadCells ⟨b', o, none⟩ (n * es)).run P w = .ok vs.toArray w ∧
      ∃ cs' e fr, w.heap[b']? = some (.cells cs' e fr) ∧ o + n * es ≤ cs'.size ∧ vs = (cs'.toList.drop o).take (n * es)) := by
  unfold content at hc
  split at hc
  · rename_i s
    rw [cond_nbeq] at hc
    split at hc
    · rename_i hes
      simp only [Option.some.injEq] at hc; subst hc
      simp only [VR] at hv
      obtain ⟨u, rfl, rfl⟩ := hv
      exact .inl ⟨u, hes, rfl, rfl, rfl⟩
    · cases hc
  · rename_i n c e
    simp only [Option.some.injEq] at hc; subst hc
    simp only [VR] at hv
    obtain ⟨rfl, rfl, rfl⟩ := hv
    exact .inr (.inl ⟨0, rfl, rfl⟩)
  · rename_i n c e
    simp only [Option.some.injEq] at hc; subst hc
    simp only [VR] at hv
    obtain ⟨rfl, rfl, ad, c', rfl⟩ := hv
    exact .inr (.inr (.inl ⟨ad, c', rfl, rfl⟩))
  · rename_i b o n c es'
    simp only [VR] at hv
    obtain ⟨b', c', rfl, hb, hn, hc', hs⟩ := hv
    rw [cond_nbeq] at hc
    split at hc
    · rename_i he
      obtain ⟨vs, e1, e2, e3, e4⟩ := rd_sim (P := P) h hc hb
      exact .inr (.inr (.inr ⟨b, o, n, c, es', b', c', vs, rfl, he, rfl, hb, e1, e2, e3, e4⟩))
    · cases hc
  · cases hc

theorem bytesOfCells_VRs {cs : List AV} : ∀ {s : List UInt8} {vs : List Value}, bytesOfCells cs = some s → VRs J cs vs → ∃ ns : List Int, vs = ns.map (fun n => .int .u8 n) ∧ s = ns.map fun n => UInt8.ofNat n.toNat := by
  induction cs with
  | nil => intro s vs h hv; simp only [bytesOfCells, Option.some.injEq] at h; subst h; simp only [VRs] at hv; subst hv; exact ⟨[], rfl, rfl⟩
  | cons c cs ih =>
    intro s vs h hv
    simp only [bytesOfCells] at h
    split at h
    · rename_i n
      split at h
      · rename_i l hl
        simp only [Option.some.injEq] at h; subst h
        simp only [VRs] at hv
        obtain ⟨y, ys, rfl, h1, h2⟩ := hv
        simp only [VR] at h1; subst h1
        obtain ⟨ns, rfl, rfl⟩ := ih hl h2
        exact ⟨n :: ns, rfl, rfl⟩
      · cases h
    · cases h

theorem bytesOfCells_bytes (l : List UInt8) : bytesOfCells (cellsOfBytes l) = some l := by
  induction l with
  | nil => rfl
  | cons b l ih =>
    simp only [cellsOfBytes, List.map_cons, bytesOfCells] at ih ⊢
    rw [ih]
    simp
end
end Go.Ae
/- One operation: what the evaluator answers, the model does: texts out of bytes, maps that are asked, comparisons of structs. -/
namespace Go.Ae
open Go
section
variable {P : Program} {mid : String → Option Nat} {T : Tab} {J : KW} {A : AW} {w : World} {env : List AV} {a : Act}

theorem sim_cvBS (hE : VRs J env a.tmps.toList) (h : HR P mid J A w) {x : Operand} {x' : Opd} (hx : opd P.globals.size x = some x') (s t e : TypeId) (hs : P.underlying s = some (.slice e)) (he : P.underlying e = some (.int .u8)) (ht : P.underlying t = some .string) (ty : TypeId) (pos : String) (d af g) :
    OpOk P mid T J A w (evOp T env A (.cvBS x')) ((execOp a.eval ⟨d, .convert s t x, ty, pos, af, g⟩).run P w) := by
  simp only [evOp]
  have h1 := ev_sim hE h hx
  simp only [execOp]
  split
  · rename_i cs hc
    split
    · rename_i bs hb
      rcases content_sim h h1 hc with ⟨u, _, e1, _, e3⟩ | ⟨c, e1, e3⟩ | ⟨ad, c, e1, e3⟩ | ⟨b, o, n, c, es', b', c', vs, _, he', e1, hJ, hv, hlen, hl, cs', e', fr, hhp, hsz, hvs⟩
      · -- a string that is turned into a string
        rw [e3, bytesOfCells_bytes] at hb
        simp only [Option.some.injEq] at hb; subst hb
        rw [e1]
        refine ok_val h (v' := .string u) ?_ (by simp [VR])
        simp [convert, und_run hs, und_run ht]
      · rw [e3] at hb
        simp only [bytesOfCells, Option.some.injEq] at hb; subst hb
        rw [e1]
        refine ok_val h (v' := .string ByteArray.empty) ?_ (by simp only [VR]; exact ⟨_, rfl, rfl⟩)
        simp [run_convert_bytes_nil w s e hs he 0 c t ht]
      · rw [e3] at hb
        simp only [bytesOfCells, Option.some.injEq] at hb; subst hb
        rw [e1]
        refine ok_val h (v' := .string ByteArray.empty) ?_ (by simp only [VR]; exact ⟨_, rfl, rfl⟩)
        simp [convert, und_run hs, und_run ht, und_run he, Conv.bytesToString, loadCells, loadCellsFrom]
      · obtain ⟨ns, hns, rfl⟩ := bytesOfCells_VRs hb hv
        subst he'
        have hn : ns.length = n := by
          have := hv.length
          rw [hns] at this; simp at this; omega
        rw [e1]
        refine ok_val h (v' := .string (strOfNums ns)) ?_ (by simp only [VR]; exact ⟨_, rfl, strOfNums_data ns⟩)
        have := run_convert_bytes_arg (P := P) w s e hs he b' o n c' ns hn (fun i hi => by
          rw [cell_eq hhp]
          have e5 : vs[i]? = some (.int .u8 (ns.getD i 0)) := by
            rw [hns, List.getElem?_map, List.getD_eq_getElem?_getD]
            rw [List.getElem?_eq_getElem (by omega)]; rfl
          rw [hvs, List.getElem?_take_of_lt (by omega), List.getElem?_drop] at e5
          simpa using e5) t ht
        simp [this]
    · trivial
  · trivial

theorem run_getObj' {r : Nat} {o : Obj} (h : w.heap[r]? = some o) (hn : ∀ cs e fr, o ≠ .cells cs e fr) : (getObj r).run P w = .ok o w := by
  simp only [getObj, Sem.run]
  rw [h]
  cases o <;> first | rfl | exact absurd rfl (hn _ _ _)

theorem run_setObj' {r : Nat} {o o' : Obj} (h : w.heap[r]? = some o) (hn : ∀ cs e fr, o ≠ .cells cs e fr) : (setObj r o').run P w = .ok () (putB w r o') := by
  simp only [setObj, Sem.run]
  rw [h]
  cases o <;> first | rfl | exact absurd rfl (hn _ _ _)

theorem ERs.length {J : KW} : ∀ {xs : List (AV × AV × Nat)} {l : List MapEntry}, ERs J xs l → xs.length = l.length := by
  intro xs
  induction xs with
  | nil => intro l hl; simp only [ERs] at hl; subst hl; rfl
  | cons y ys ih =>
    obtain ⟨k, v, n⟩ := y
    intro l hl
    simp only [ERs] at hl
    obtain ⟨e, rest, rfl, _, _, _, hr⟩ := hl
    simp [ih hr]

theorem HR.map (h : HR P mid J A w) {r : Nat} {es : List (AV × AV × Nat)} {ck : Nat} (hA : A.get r = some (.map es ck)) {r' : Nat} (hr : J.ι r = some r') :
    ∃ es' : Array MapEntry, w.heap[r']? = some (.map es' ck) ∧ ERs J es es'.toList := by
  obtain ⟨b, c, hb, hc, hor⟩ := h.obj r _ hA
  simp only [OR] at hor
  obtain ⟨es', rfl, hes⟩ := hor
  rw [hr] at hb; cases hb
  exact ⟨es', hc, hes⟩

theorem sim_len (hE : VRs J env a.tmps.toList) (h : HR P mid J A w) {x : Operand} {x' : Opd} (hx : opd P.globals.size x = some x') (at_ : Array TypeId) (t : TypeId) (dd : TypeDesc) (hat : at_[0]? = some t) (ht : P.underlying t = some dd)
    (k : Nat) (hd : (k = 0 ∧ dd = .string) ∨ (k = 1 ∧ ∃ e, dd = .slice e) ∨ (k = 2 ∧ ∃ k e, dd = .map k e))
    (ty : TypeId) (pos : String) (d af g) :
    OpOk P mid T J A w (evOp T env A (.len k x')) ((execOp a.eval ⟨d, .call { callee := .builtin .len, args := #[x], argTypes := at_ }, ty, pos, af, g⟩).run P w) := by
  simp only [evOp]
  have h1 := ev_sim hE h hx
  simp only [execOp]
  have step : ∀ v', (Builtin.len_ at_ ty #[a.eval x]).run P w = .ok v' w → ((resolve a.eval { callee := .builtin .len, args := #[x], argTypes := at_ } ty >>= fun d => invoke d.target d.args).run P w) = .ok (.value v') w := by
    intro v' e
    simp [resolve, invoke, builtin, e]
  rcases hd with ⟨rfl, rfl⟩ | ⟨rfl, e, rfl⟩ | ⟨rfl, k, e, rfl⟩
  · cases hs : ev env x' with
    | str s =>
      rw [hs] at h1
      simp only [VR] at h1
      obtain ⟨u, e1, hu⟩ := h1
      refine ok_val h (v' := .int .i64 s.length) (step _ ?_) (by simp [VR])
      rw [e1, ← hu]
      simp [Builtin.len_, hat, und_run ht, goInt]
    | _ => exact True.intro
  · cases hs : ev env x' with
    | slc q n c es =>
      rw [hs] at h1
      have hv : ∃ ad c', a.eval x = .slice ad n c' := by
        cases q <;> simp only [VR] at h1
        · obtain ⟨rfl, _, e1⟩ := h1; exact ⟨_, _, e1⟩
        · obtain ⟨rfl, _, ad, c', e1⟩ := h1; exact ⟨_, _, e1⟩
        · obtain ⟨_, c', e1, _⟩ := h1; exact ⟨_, _, e1⟩
      obtain ⟨ad, c', e1⟩ := hv
      refine ok_val h (v' := .int .i64 n) (step _ ?_) (by simp [VR])
      rw [e1]
      simp [Builtin.len_, hat, und_run ht, goInt]
    | _ => exact True.intro
  · cases hs : ev env x' with
    | map r =>
      rw [hs] at h1
      cases r with
      | none =>
        simp only [VR] at h1
        refine ok_val h (v' := .int .i64 0) (step _ ?_) (by simp [VR])
        rw [h1]
        simp [Builtin.len_, hat, und_run ht, goInt]
      | some r =>
        simp only [VR] at h1
        obtain ⟨r', e1, hr⟩ := h1
        cases hA : A.get r with
        | none => simp only [hA]; exact True.intro
        | some o =>
          simp only [hA]
          cases o with
          | map es ck =>
            obtain ⟨es', hc, hes⟩ := h.map hA hr
            refine ok_val h (v' := .int .i64 es.length) (step _ ?_) (by simp [VR])
            have hl : es.length = es'.size := by simpa using hes.length
            rw [e1, hl]
            simp [Builtin.len_, hat, und_run ht, goInt, run_getObj' hc (by intros; simp)]
          | _ => exact True.intro
    | _ => exact True.intro
end
end Go.Ae
/- One operation: what the evaluator answers, the model does: maps, comparisons, struct values. -/
namespace Go.Ae
open Go
section
variable {P : Program} {mid : String → Option Nat} {T : Tab} {J : KW} {A : AW} {w : World} {env : List AV} {a : Act}

theorem keyEq_sim {kk : Nat} {u : TypeDesc} (hk : keyK u = some kk) {x y : AV} {b : Bool} (he : keyEq kk x y = some b) {v v' : Value} (hx : VR J x v) (hy : VR J y v') : Instr.sameNow u v v' = some b := by
  cases u <;> simp only [keyK, Option.some.injEq] at hk <;> (try cases hk; done) <;> subst hk <;> cases x <;> cases y <;> simp only [keyEq] at he <;> (try cases he; done)
  · simp only [Option.some.injEq] at he; subst he
    simp only [VR] at hx hy; subst hx hy; rfl
  · rename_i k1 k a k' c
    simp only [VR] at hx hy; subst hx hy
    cases hkk : (k == k')
    · rw [hkk] at he; cases he
    · have : k = k' := by simpa using hkk
      rw [hkk] at he; simp only [cond_true, Option.some.injEq] at he; subst he
      simp [Instr.sameNow, this]
  · simp only [Option.some.injEq] at he; subst he
    simp only [VR] at hx hy
    obtain ⟨t, rfl, rfl⟩ := hx
    obtain ⟨t', rfl, rfl⟩ := hy
    simp only [Instr.sameNow, Option.some.injEq]
    rw [beq_toListBytes, ByteArray.toList_eq, ByteArray.toList_eq]

theorem findA_sim {kk : Nat} {u : TypeDesc} (hk : keyK u = some kk) {x : AV} {v : Value} (hx : VR J x v) : ∀ {es : List (AV × AV × Nat)} {es' : List MapEntry} {i : Nat} {r : Option (Nat × AV)}, ERs J es es' → findA kk x es i = some r →
    (r = none ∧ Instr.findNow u v es' i = some none) ∨ (∃ j y v', r = some (j, y) ∧ Instr.findNow u v es' i = some (some (j, v')) ∧ VR J y v' ∧ i ≤ j ∧ ∃ k0 n e, es[j - i]? = some (k0, y, n) ∧ es'[j - i]? = some e ∧ VR J k0 e.key ∧ keyEq kk x k0 = some true ∧ e.born = n) := by
  intro es
  induction es with
  | nil =>
    intro es' i r he hf
    simp only [ERs] at he; subst he
    simp only [findA, Option.some.injEq] at hf; subst hf
    exact .inl ⟨rfl, rfl⟩
  | cons e es ih =>
    obtain ⟨k, y, n⟩ := e
    intro es' i r he hf
    simp only [ERs] at he
    obtain ⟨e, rest, rfl, h1, h2, h3, h4⟩ := he
    simp only [findA] at hf
    split at hf
    · rename_i hkt
      simp only [Option.some.injEq] at hf; subst hf
      right
      refine ⟨i, y, e.val, rfl, ?_, h2, Nat.le_refl _, k, n, e, by simp, by simp, h1, hkt, h3⟩
      simp [Instr.findNow, keyEq_sim hk hkt hx h1]
    · rename_i hkf
      have e1 := keyEq_sim hk hkf hx h1
      rcases ih h4 hf with ⟨rfl, h5⟩ | ⟨j, z, v', rfl, h5, h6, h7, k0, n0, e0, q1, q2, q3⟩
      · exact .inl ⟨rfl, by simp [Instr.findNow, e1, h5]⟩
      · right
        refine ⟨j, z, v', rfl, by simp [Instr.findNow, e1, h5], h6, by omega, k0, n0, e0, ?_, ?_, q3⟩
        · rw [show j - i = (j - (i + 1)) + 1 by omega]; simpa using q1
        · rw [show j - i = (j - (i + 1)) + 1 by omega]; simpa using q2
    · cases hf

theorem checkKey_run {kk : Nat} {kt : TypeId} {u : TypeDesc} (hu : P.underlying kt = some u) (hk : keyK u = some kk) (b : Bool) (v : Value) : (Instr.checkKey b 10000 kt v).run P w = .ok () w := by
  rw [show (10000 : Nat) = 9999 + 1 from rfl, Instr.checkKey]
  simp only [Sem.run_bind, und_run hu, Result.andThen_ok]
  cases u <;> simp only [keyK] at hk <;> (try cases hk; done) <;> cases v <;> rfl

theorem findKey_run {kt : TypeId} {u : TypeDesc} (hu : P.underlying kt = some u) {v : Value} {l : List MapEntry} {r : Option (Nat × Value)} (hf : Instr.findNow u v l 0 = some r) : (Instr.findKey kt v l).run P w = .ok r w := by
  simp [Instr.findKey, und_run hu, hf]

theorem sim_lk (hE : VRs J env a.tmps.toList) (h : HR P mid J A w) {m k : Operand} {m' k' : Opd} (hm : opd P.globals.size m = some m') (hkk : opd P.globals.size k = some k') (t kt e : TypeId) (u : TypeDesc) (kk : Nat) (z : AV) (ok : Bool)
    (ht : P.underlying t = some (.map kt e)) (hu : P.underlying kt = some u) (hk : keyK u = some kk) (hz : zeroV P e = some z) (ty : TypeId) (pos : String) (d af g) :
    OpOk P mid T J A w (evOp T env A (.lk kk z ok m' k')) ((execOp a.eval ⟨d, .lookup t m k ok, ty, pos, af, g⟩).run P w) := by
  simp only [evOp]
  have h1 := ev_sim hE h hm
  have h2 := ev_sim hE h hkk
  simp only [execOp]
  simp only [zeroV, bind, Option.bind_eq_some_iff] at hz
  obtain ⟨i, hi, zv, hzv, hzz⟩ := hz
  have hzr : ∀ w, (zeroValue e).run P w = .ok zv w := fun w => by simp [zeroValue, typeInfo, hi, hzv]
  have hzVR := absC_VR J hzz
  have fin : ∀ (v : AV) (v' : Value) (b : Bool), VR J v v' → VR J (bif ok then .tup [v, .bool b] else v) (if ok then .tuple #[v', .bool b] else v') := by
    intro v v' b hv
    cases ok
    · simpa using hv
    · simp only [cond_true, if_true, VR]; exact ⟨_, rfl, VRs.cons hv (VRs.cons (by simp [VR]) VRs.nil)⟩
  split
  · rename_i hs
    rw [hs] at h1; simp only [VR] at h1
    rw [h1]
    refine ok_val h (v' := if ok then .tuple #[zv, .bool false] else zv) ?_ (fin _ _ _ hzVR)
    simp [Instr.lookup, und_run ht, checkKey_run hu hk, findKey_run hu (v := a.eval k) (l := []) (r := none) rfl, hzr]
  · rename_i r hs
    rw [hs] at h1; simp only [VR] at h1
    obtain ⟨r', e1, hr⟩ := h1
    rw [e1]
    split
    · rename_i es ck hA
      obtain ⟨es', hc, hes⟩ := h.map hA hr
      split
      · rename_i j v hf
        rcases findA_sim hk h2 hes hf with ⟨hn, _⟩ | ⟨j2, y, v', hj, h5, h6, _⟩
        · cases hn
        · cases hj
          refine ok_val h (v' := if ok then .tuple #[v', .bool true] else v') ?_ (fin _ _ _ h6)
          simp [Instr.lookup, und_run ht, run_getObj' hc (by intros; simp), checkKey_run hu hk, findKey_run hu h5]
      · rename_i hf
        rcases findA_sim hk h2 hes hf with ⟨_, h5⟩ | ⟨j2, y, v', hj, _⟩
        · refine ok_val h (v' := if ok then .tuple #[zv, .bool false] else zv) ?_ (fin _ _ _ hzVR)
          simp [Instr.lookup, und_run ht, run_getObj' hc (by intros; simp), checkKey_run hu hk, findKey_run hu h5, hzr]
        · cases hj
      · trivial
    · trivial
  · trivial

theorem ERs.append {J : KW} : ∀ {xs : List (AV × AV × Nat)} {l : List MapEntry} {ys : List (AV × AV × Nat)} {l' : List MapEntry}, ERs J xs l → ERs J ys l' → ERs J (xs ++ ys) (l ++ l') := by
  intro xs
  induction xs with
  | nil => intro l ys l' h h'; simp only [ERs] at h; subst h; exact h'
  | cons x xs ih =>
    obtain ⟨k, v, n⟩ := x
    intro l ys l' h h'
    simp only [ERs] at h
    obtain ⟨e, rest, rfl, h1, h2, h3, h4⟩ := h
    simp only [List.cons_append, ERs]
    exact ⟨e, rest ++ l', rfl, h1, h2, h3, ih h4 h'⟩

theorem ERs.modify {J : KW} {k v : AV} {k' v' : Value} (hk : VR J k k') (hv : VR J v v') : ∀ {xs : List (AV × AV × Nat)} {l : List MapEntry} (i : Nat), ERs J xs l →
    ERs J (xs.modify i fun e => (k, v, e.2.2)) (l.modify i fun e => { e with key := k', val := v' }) := by
  intro xs
  induction xs with
  | nil => intro l i h; simp only [ERs] at h; subst h; simp [ERs]
  | cons x xs ih =>
    obtain ⟨k0, v0, n⟩ := x
    intro l i h
    simp only [ERs] at h
    obtain ⟨e, rest, rfl, h1, h2, h3, h4⟩ := h
    cases i with
    | zero => simp only [List.modify_zero_cons, ERs]; exact ⟨_, rest, rfl, hk, hv, h3, h4⟩
    | succ i => simp only [List.modify_succ_cons, ERs]; exact ⟨e, _, rfl, h1, h2, h3, ih i h4⟩

theorem ERs.eraseIdx {J : KW} : ∀ {xs : List (AV × AV × Nat)} {l : List MapEntry} (i : Nat), ERs J xs l → ERs J (xs.eraseIdx i) (l.eraseIdx i) := by
  intro xs
  induction xs with
  | nil => intro l i h; simp only [ERs] at h; subst h; simp [ERs]
  | cons x xs ih =>
    obtain ⟨k0, v0, n⟩ := x
    intro l i h
    simp only [ERs] at h
    obtain ⟨e, rest, rfl, h1, h2, h3, h4⟩ := h
    cases i with
    | zero => simpa using h4
    | succ i => simp only [List.eraseIdx_cons_succ, ERs]; exact ⟨e, _, rfl, h1, h2, h3, ih i h4⟩

theorem keyEq_same {kk : Nat} {x y : AV} (he : keyEq kk x y = some true) {v v' : Value} (hx : VR J x v) (hy : VR J y v') : Instr.sameBits 10000 v' v = true := by
  cases kk with
  | zero =>
    cases x <;> cases y <;> simp only [keyEq] at he <;> (try cases he; done)
    rename_i k a k' c
    simp only [VR] at hx hy; subst hx hy
    cases hkk : (k == k')
    · rw [hkk] at he; cases he
    · have : k = k' := by simpa using hkk
      rw [hkk] at he; simp only [cond_true, Option.some.injEq, beq_iff_eq] at he
      subst this he
      simp [Instr.sameBits]
  | succ kk =>
    cases kk with
    | zero =>
      cases x <;> cases y <;> simp only [keyEq] at he <;> (try cases he; done)
      simp only [VR] at hx hy
      obtain ⟨t, rfl, rfl⟩ := hx
      obtain ⟨t', rfl, rfl⟩ := hy
      simp only [Option.some.injEq] at he
      simp only [Instr.sameBits]
      rw [beq_toListBytes, ByteArray.toList_eq, ByteArray.toList_eq]
      simp at he ⊢; exact he.symm
    | succ kk =>
      cases kk with
      | zero =>
        cases x <;> cases y <;> simp only [keyEq] at he <;> (try cases he; done)
        simp only [VR] at hx hy; subst hx hy
        simp only [Option.some.injEq, beq_iff_eq] at he
        subst he
        simp [Instr.sameBits]
      | succ kk => cases x <;> cases y <;> simp [keyEq] at he

theorem sim_mup (hE : VRs J env a.tmps.toList) (h : HR P mid J A w) {m k v : Operand} {m' k' v' : Opd} (hm : opd P.globals.size m = some m') (hkk : opd P.globals.size k = some k') (hvv : opd P.globals.size v = some v') (t kt e : TypeId) (u : TypeDesc) (kk : Nat)
    (ht : P.underlying t = some (.map kt e)) (hu : P.underlying kt = some u) (hk : keyK u = some kk) (o : Oper) (ho : o.op = .mapUpdate t m k v ∨ o.op = .insert t m k v) :
    OpOk P mid T J A w (evOp T env A (.mup kk m' k' v')) ((execOp a.eval o).run P w) := by
  have hex : execOp a.eval o = (do Instr.mapUpdate t (a.eval m) (a.eval k) (a.eval v); pure Next.skip) := by
    obtain ⟨d, op, ty, pos, af, g⟩ := o
    rcases ho with ho | ho <;> simp only at ho <;> subst ho <;> rfl
  rw [hex]
  simp only [evOp]
  have h1 := ev_sim hE h hm
  have h2 := ev_sim hE h hkk
  have h3 := ev_sim hE h hvv
  split
  · rename_i r hs
    rw [hs] at h1; simp only [VR] at h1
    obtain ⟨r', e1, hr⟩ := h1
    rw [e1]
    split
    · rename_i es ck hA
      obtain ⟨es', hc, hes⟩ := h.map hA hr
      split
      · rename_i j y hf
        rcases findA_sim hk h2 hes hf with ⟨hn, _⟩ | ⟨j2, y, w', hj, h5, h6, _, k0, n0, e0, q1, q2, q3, q4, q5⟩
        · cases hn
        · cases hj
          have hsame : ∀ w, (Instr.keyThatStays e0.key (a.eval k)).run P w = .ok (a.eval k) w := fun w => by simp [Instr.keyThatStays, keyEq_same q4 h2 q3]
          have q2' : es'[j]? = some e0 := by simpa using q2
          have hrun : (Instr.mapUpdate t (.map (some r')) (a.eval k) (a.eval v)).run P w = .ok () (putB w r' (.map (es'.modify j fun e => { e with key := a.eval k, val := a.eval v }) ck)) := by
            simp [Instr.mapUpdate, und_run ht, run_getObj' hc (by intros; simp), checkKey_run hu hk, findKey_run hu h5, q2', hsame]
            exact run_setObj' hc (by intros; simp)
          refine ⟨J, _, post_upd h hA rfl hr (o1 := .map (es.modify j fun e => (ev env k', ev env v', e.2.2)) ck) (c1 := .map (es'.modify j fun e => { e with key := a.eval k, val := a.eval v }) ck) ?_ (by intros; simp_all) (by intros; simp), .inr ⟨?_, rfl⟩⟩
          · simp only [OR]; exact ⟨_, rfl, by simpa using ERs.modify h2 h3 j hes⟩
          · simp [hrun]
      · rename_i hf
        rcases findA_sim hk h2 hes hf with ⟨_, h5⟩ | ⟨j2, y, w', hj, _⟩
        · have hrun : (Instr.mapUpdate t (.map (some r')) (a.eval k) (a.eval v)).run P w = .ok () (putB w r' (.map (es'.push { key := a.eval k, val := a.eval v, born := ck }) (ck + 1))) := by
            simp [Instr.mapUpdate, und_run ht, run_getObj' hc (by intros; simp), checkKey_run hu hk, findKey_run hu h5]
            exact run_setObj' hc (by intros; simp)
          refine ⟨J, _, post_upd h hA rfl hr (o1 := .map (es ++ [(ev env k', ev env v', ck)]) (ck + 1)) (c1 := .map (es'.push { key := a.eval k, val := a.eval v, born := ck }) (ck + 1)) ?_ (by intros; simp_all) (by intros; simp), .inr ⟨?_, rfl⟩⟩
          · simp only [OR]; refine ⟨_, rfl, ?_⟩
            rw [Array.toList_push]
            exact hes.append (by simp only [ERs]; exact ⟨_, [], rfl, h2, h3, rfl, rfl⟩)
          · simp [hrun]
        · cases hj
      · trivial
    · trivial
  · trivial

theorem sim_del (hE : VRs J env a.tmps.toList) (h : HR P mid J A w) {m k : Operand} {m' k' : Opd} (hm : opd P.globals.size m = some m') (hkk : opd P.globals.size k = some k') (at_ : Array TypeId) (t kt e : TypeId) (u : TypeDesc) (kk : Nat) (hat : at_[0]? = some t)
    (ht : P.underlying t = some (.map kt e)) (hu : P.underlying kt = some u) (hk : keyK u = some kk) (ty : TypeId) (pos : String) (d af g) :
    OpOk P mid T J A w (evOp T env A (.del kk m' k')) ((execOp a.eval ⟨d, .call { callee := .builtin .delete, args := #[m, k], argTypes := at_ }, ty, pos, af, g⟩).run P w) := by
  simp only [evOp]
  have h1 := ev_sim hE h hm
  have h2 := ev_sim hE h hkk
  simp only [execOp]
  have step : ∀ v' w', (Builtin.delete_ at_ ty #[a.eval m, a.eval k]).run P w = .ok v' w' → ((resolve a.eval { callee := .builtin .delete, args := #[m, k], argTypes := at_ } ty >>= fun d => invoke d.target d.args).run P w) = .ok (.value v') w' := by
    intro v' w' e
    simp [resolve, invoke, builtin, e]
  split
  · rename_i hs
    rw [hs] at h1; simp only [VR] at h1
    refine ok_val h (v' := .tuple #[]) (step _ _ ?_) (VR.und J)
    rw [h1]
    simp [Builtin.delete_, hat, und_run ht, checkKey_run hu hk]
  · rename_i r hs
    rw [hs] at h1; simp only [VR] at h1
    obtain ⟨r', e1, hr⟩ := h1
    rw [e1] at step
    split
    · rename_i es ck hA
      obtain ⟨es', hc, hes⟩ := h.map hA hr
      split
      · rename_i j y hf
        rcases findA_sim hk h2 hes hf with ⟨hn, _⟩ | ⟨j2, y, w', hj, h5, h6, _⟩
        · cases hn
        · cases hj
          have hrun : (Builtin.delete_ at_ ty #[.map (some r'), a.eval k]).run P w = .ok (.tuple #[]) (putB w r' (.map (es'.eraseIdxIfInBounds j) ck)) := by
            simp [Builtin.delete_, hat, und_run ht, run_getObj' hc (by intros; simp), checkKey_run hu hk, findKey_run hu h5, run_setObj' hc (by intros; simp)]
          refine ⟨J, _, post_upd h hA rfl hr (o1 := .map (es.eraseIdx j) ck) (c1 := .map (es'.eraseIdxIfInBounds j) ck) ?_ (by intros; simp_all) (by intros; simp), .inl ⟨_, ?_, VR.und J⟩⟩
          · simp only [OR]; exact ⟨_, rfl, by simpa using hes.eraseIdx j⟩
          · exact step _ _ hrun
      · rename_i hf
        rcases findA_sim hk h2 hes hf with ⟨_, h5⟩ | ⟨j2, y, w', hj, _⟩
        · have hrun : (Builtin.delete_ at_ ty #[.map (some r'), a.eval k]).run P w = .ok (.tuple #[]) (putB w r' (.map es' ck)) := by
            simp [Builtin.delete_, hat, und_run ht, run_getObj' hc (by intros; simp), checkKey_run hu hk, findKey_run hu h5, run_setObj' hc (by intros; simp)]
          refine ⟨J, _, post_upd h hA rfl hr (o1 := .map es ck) (c1 := .map es' ck) ?_ (by intros; simp_all) (by intros; simp), .inl ⟨_, ?_, VR.und J⟩⟩
          · simp only [OR]; exact ⟨_, rfl, hes⟩
          · exact step _ _ hrun
        · cases hj
      · trivial
    · trivial
  · trivial
end
end Go.Ae
/- One operation: what the evaluator answers, the model does: equality, the greatest one, struct values, unsafe pointers. -/
namespace Go.Ae
open Go
section
variable {P : Program} {mid : String → Option Nat} {T : Tab} {J : KW} {A : AW} {w : World} {env : List AV} {a : Act}

def kindOf : TypeDesc → Option Nat
  | .pointer _ => some 0
  | .slice _ => some 1
  | .map _ _ => some 2
  | .func _ _ _ => some 3
  | _ => none

def EqPat (kk : Nat) (v v' : Value) (b : Bool) : Prop :=
  (kk = 0 ∧ ((∃ q, v = .pointer none ∧ v' = .pointer q ∧ b = q.isNone) ∨ (∃ p, v = .pointer (some p) ∧ v' = .pointer none ∧ b = false))) ∨
  (kk = 1 ∧ ((∃ n c p m k, v = .slice none n c ∧ v' = .slice p m k ∧ b = p.isNone) ∨ (∃ p n c m k, v = .slice (some p) n c ∧ v' = .slice none m k ∧ b = false))) ∨
  (kk = 2 ∧ ((∃ q, v = .map none ∧ v' = .map q ∧ b = q.isNone) ∨ (∃ p, v = .map (some p) ∧ v' = .map none ∧ b = false))) ∨
  (kk = 3 ∧ ((v = .nilFunc ∧ v' = .nilFunc ∧ b = true) ∨ (∃ f p q, v = .nilFunc ∧ v' = .func f p q ∧ b = false) ∨ (∃ f p q, v = .func f p q ∧ v' = .nilFunc ∧ b = false)))

theorem eqPA_pat {kk : Nat} {x y : AV} {b : Bool} (he : eqPA kk x y = some b) {v v' : Value} (hx : VR J x v) (hy : VR J y v') : EqPat kk v v' b := by
  have sl : ∀ {a : SA} {n c es : Nat} {v : Value}, VR J (.slc a n c es) v → ∃ p c', v = .slice p n c' ∧ (a matches .nil) = p.isNone := by
    intro a n c es v h
    cases a <;> simp only [VR] at h
    · obtain ⟨rfl, _, rfl⟩ := h; exact ⟨_, _, rfl, rfl⟩
    · obtain ⟨rfl, _, _, _, rfl⟩ := h; exact ⟨_, _, rfl, rfl⟩
    · obtain ⟨_, _, rfl, _⟩ := h; exact ⟨_, _, rfl, rfl⟩
  unfold eqPA at he
  split at he <;> (try cases he; done) <;> simp only [Option.some.injEq] at he <;> subst he
  · rename_i q
    simp only [VR] at hx; subst hx
    rcases q with _ | ⟨b, o⟩ <;> simp only [VR] at hy
    · subst hy; exact .inl ⟨rfl, .inl ⟨_, rfl, rfl, rfl⟩⟩
    · obtain ⟨b', rfl, _⟩ := hy; exact .inl ⟨rfl, .inl ⟨_, rfl, rfl, rfl⟩⟩
  · rename_i q
    obtain ⟨b, o⟩ := q
    simp only [VR] at hx hy; obtain ⟨b', rfl, _⟩ := hx; subst hy
    exact .inl ⟨rfl, .inr ⟨_, rfl, rfl, rfl⟩⟩
  · obtain ⟨p, c', rfl, hp⟩ := sl hx
    obtain ⟨q, c'', rfl, hq⟩ := sl hy
    cases p with
    | some p => cases hp
    | none => exact .inr (.inl ⟨rfl, .inl ⟨_, _, _, _, _, rfl, rfl, hq⟩⟩)
  · obtain ⟨p, c', rfl, hp⟩ := sl hx
    obtain ⟨q, c'', rfl, hq⟩ := sl hy
    cases q with
    | some q => cases hq
    | none =>
      cases p with
      | some p => exact .inr (.inl ⟨rfl, .inr ⟨_, _, _, _, _, rfl, rfl, by simp⟩⟩)
      | none => exact .inr (.inl ⟨rfl, .inl ⟨_, _, _, _, _, rfl, rfl, by simp at hp⟩⟩)
  · rename_i q
    simp only [VR] at hx; subst hx
    rcases q with _ | q <;> simp only [VR] at hy
    · subst hy; exact .inr (.inr (.inl ⟨rfl, .inl ⟨_, rfl, rfl, rfl⟩⟩))
    · obtain ⟨b', rfl, _⟩ := hy; exact .inr (.inr (.inl ⟨rfl, .inl ⟨_, rfl, rfl, rfl⟩⟩))
  · simp only [VR] at hx hy; obtain ⟨b', rfl, _⟩ := hx; subst hy
    exact .inr (.inr (.inl ⟨rfl, .inr ⟨_, rfl, rfl, rfl⟩⟩))
  · simp only [VR] at hx hy; subst hx hy
    exact .inr (.inr (.inr ⟨rfl, .inl ⟨rfl, rfl, rfl⟩⟩))
  · simp only [VR] at hx hy; subst hx; obtain ⟨_, _, _, rfl, _⟩ := hy
    exact .inr (.inr (.inr ⟨rfl, .inr (.inl ⟨_, _, _, rfl, rfl, rfl⟩)⟩))
  · simp only [VR] at hx hy; subst hy; obtain ⟨_, _, _, rfl, _⟩ := hx
    exact .inr (.inr (.inr ⟨rfl, .inr (.inr ⟨_, _, _, rfl, rfl, rfl⟩)⟩))

theorem eqPat_run {kk : Nat} {v v' : Value} {b : Bool} (h : EqPat kk v v' b) {t : TypeId} {dd : TypeDesc} (ht : P.underlying t = some dd) (hd : kindOf dd = some kk) (ne : Bool) (x y : Operand) :
    (do eqGuard (if ne then .neq else .eql) t x y v v'; binOp (if ne then .neq else .eql) t v v' : Sem Value).run P w = .ok (.bool (bif ne then !b else b)) w := by
  have he : (Op.equal t v v').run P w = .ok b w := by
    rw [equal_step, Op.equalIn]
    rcases h with ⟨rfl, h⟩ | ⟨rfl, h⟩ | ⟨rfl, h⟩ | ⟨rfl, h⟩ <;> cases dd <;> simp only [kindOf, Option.some.injEq] at hd <;> (try cases hd; done) <;> (try (exfalso; revert hd; decide))
    · rcases h with ⟨q, rfl, rfl, rfl⟩ | ⟨p, rfl, rfl, rfl⟩
      · cases q <;> simp [und_run ht]
      · simp [und_run ht]
    · rcases h with ⟨n, c, p, m, k, rfl, rfl, rfl⟩ | ⟨p, n, c, m, k, rfl, rfl, rfl⟩
      · cases p <;> simp [und_run ht]
      · simp [und_run ht]
    · rcases h with ⟨q, rfl, rfl, rfl⟩ | ⟨p, rfl, rfl, rfl⟩
      · cases q <;> simp [und_run ht]
      · simp [und_run ht]
    · rcases h with ⟨rfl, rfl, rfl⟩ | ⟨f, p, q, rfl, rfl, rfl⟩ | ⟨f, p, q, rfl, rfl, rfl⟩ <;> simp [und_run ht]
  rcases h with ⟨rfl, h⟩ | ⟨rfl, h⟩ | ⟨rfl, h⟩ | ⟨rfl, h⟩
  · rcases h with ⟨q, rfl, rfl, rfl⟩ | ⟨p, rfl, rfl, rfl⟩ <;> cases ne <;> simp [eqGuard_plain, binOp, he]
  · rcases h with ⟨n, c, p, m, k, rfl, rfl, rfl⟩ | ⟨p, n, c, m, k, rfl, rfl, rfl⟩ <;> cases ne <;> simp [eqGuard_plain, binOp, he]
  · rcases h with ⟨q, rfl, rfl, rfl⟩ | ⟨p, rfl, rfl, rfl⟩ <;> cases ne <;> simp [eqGuard_plain, binOp, he]
  · rcases h with ⟨rfl, rfl, rfl⟩ | ⟨f, p, q, rfl, rfl, rfl⟩ | ⟨f, p, q, rfl, rfl, rfl⟩ <;> cases ne <;> simp [eqGuard_plain, binOp, he]

theorem sim_eqP (hE : VRs J env a.tmps.toList) (h : HR P mid J A w) {x y : Operand} {x' y' : Opd} (hx : opd P.globals.size x = some x') (hy : opd P.globals.size y = some y') (ne : Bool) (xt yt : TypeId) (kk : Nat) (dd : TypeDesc)
    (hu : P.underlying xt = some dd) (hd : kindOf dd = some kk) (ty : TypeId) (pos : String) (d af g) :
    OpOk P mid T J A w (evOp T env A (.eqP kk ne x' y')) ((execOp a.eval ⟨d, .binOp (if ne then .neq else .eql) xt x y yt, ty, pos, af, g⟩).run P w) := by
  simp only [evOp]
  have h1 := ev_sim hE h hx
  have h2 := ev_sim hE h hy
  cases he : eqPA kk (ev env x') (ev env y') with
  | none => exact True.intro
  | some b =>
    refine ok_val h (v' := .bool (bif ne then !b else b)) ?_ (by simp [VR])
    have := eqPat_run (P := P) (w := w) (eqPA_pat he h1 h2) hu hd ne x y
    simp only [execOp]
    rw [Sem.run_bind, this]; rfl

/-! ### comparing structs -/
theorem eqCells_append : ∀ {ks ls : List Nat} {a b c d : List AV}, ks.length = a.length → a.length = b.length → eqCells (ks ++ ls) (a ++ c) (b ++ d) = (match eqCells ks a b with
    | some true => eqCells ls c d
    | r => r) := by
  intro ks
  induction ks with
  | nil =>
    intro ls a b c d h1 h2
    cases a with
    | cons x xs => simp at h1
    | nil => cases b with
      | nil => simp [eqCells]
      | cons y ys => simp at h2
  | cons k ks ih =>
    intro ls a b c d h1 h2
    cases a with
    | nil => simp at h1
    | cons x xs => cases b with
      | nil => simp at h2
      | cons y ys =>
        simp only [List.length_cons, Nat.add_right_cancel_iff] at h1 h2
        simp only [List.cons_append, eqCells]
        cases keyEq k x y with
        | none => rfl
        | some r => cases r
                    · rfl
                    · exact ih h1 h2

theorem eqCells_length : ∀ {ks : List Nat} {a b : List AV} {r : Bool}, eqCells ks a b = some r → (r = true → ks.length = a.length ∧ ks.length = b.length) := by
  intro ks
  induction ks with
  | nil => intro a b r h _; cases a <;> cases b <;> simp [eqCells] at h; simp
  | cons k ks ih =>
    intro a b r h hr
    cases a <;> cases b <;> simp only [eqCells] at h <;> (try cases h; done)
    split at h
    · have := ih h hr; simp [this.1, ← this.2]
    · simp only [Option.some.injEq] at h; subst h; cases hr
    · cases h

/-- the value of a type whose cells are these -/
def valOf (P : Program) (t : TypeId) (us : List Value) : Value :=
  match P.underlying t with
  | some (.struct _) => .agg us.toArray
  | _ => us.headD undef

theorem leaf_cases {d : Nat} {t : TypeId} {ks : List Nat} (hl : leafKs P d t = some ks) : ∃ (i : TypeInfo) (u : TypeDesc) (d' : Nat), d = d' + 1 ∧ P.info? t = some i ∧ P.underlying t = some u ∧ i.size = ks.length ∧
    ((∃ fs, u = .struct fs ∧ P.stoodInHeld t = false ∧ fieldsKs (leafKs P d') fs.toList 0 = some ks) ∨ (∃ k, keyK u = some k ∧ ks = [k])) := by
  cases d with
  | zero => simp [leafKs] at hl
  | succ d =>
    simp only [leafKs] at hl
    split at hl
    · rename_i fs i hu hi
      cases hs : P.stoodInHeld t with
      | true => rw [hs] at hl; cases hl
      | false =>
        rw [hs] at hl
        simp only [cond_false] at hl
        split at hl
        · rename_i ks' hk
          cases he : (i.size == ks'.length)
          · rw [he] at hl; cases hl
          · rw [he] at hl; simp only [cond_true, Option.some.injEq] at hl; subst hl
            exact ⟨i, _, d, rfl, hi, hu, by simpa using he, .inl ⟨fs, rfl, rfl, hk⟩⟩
        · cases hl
    · rename_i u i hn hu hi
      split at hl
      · rename_i k hk
        cases he : (i.size == 1)
        · rw [he] at hl; cases hl
        · rw [he] at hl; simp only [cond_true, Option.some.injEq] at hl; subst hl
          exact ⟨i, u, d, rfl, hi, hu, by simpa using he, .inr ⟨k, hk, rfl⟩⟩
      · cases hl
    · cases hl

theorem part_valOf {d : Nat} {t : TypeId} {ks : List Nat} (hl : leafKs P d t = some ks) (l : Array Value) (o : Nat) (hle : o + ks.length ≤ l.size) :
    (part t l o).run P w = .ok (valOf P t ((l.toList.drop o).take ks.length)) w := by
  obtain ⟨i, u, d', rfl, hi, hu, hsz, ⟨fs, rfl, _, _⟩ | ⟨k, hk, rfl⟩⟩ := leaf_cases hl
  · rw [part_run_agg (n := ks.length) (by simp [aggC, hu]) (by simp [szC, hi, hsz])]
    congr 1
    simp only [valOf, hu]
    congr 1
    apply Array.toList_inj.1
    simp [List.extract_eq_take_drop]
  · simp only [List.length_singleton] at hle ⊢
    have hlt : o < l.size := by omega
    have hns : ∀ fs, u ≠ .struct fs := by intro fs e; subst e; simp [keyK] at hk
    have hna : ∀ n e, u ≠ .array n e := by intro n e e'; subst e'; simp [keyK] at hk
    have hag : aggC P t = some false := by
      simp only [aggC, hu, Option.map_some]
      all_goals (cases u <;> first | rfl | exact absurd rfl (hns _) | exact absurd rfl (hna _ _))
    rw [part_run (v := l[o]) hag (by simp [hlt])]
    congr 1
    simp only [valOf, hu]
    rw [List.drop_eq_getElem_cons (by simpa using hlt)]
    cases u <;> first | rfl | exact absurd rfl (hns _)

theorem eqL_sim : ∀ (d : Nat) (t : TypeId) (ks : List Nat), leafKs P d t = some ks → ∀ (D : Nat), d ≤ D → ∀ (xs ys : List AV) (us vs : List Value) (b : Bool), xs.length = ks.length → ys.length = ks.length →
    eqCells ks xs ys = some b → VRs J xs us → VRs J ys vs → (Op.equalIn D t (valOf P t us) (valOf P t vs)).run P w = .ok b w := by
  intro d
  induction d with
  | zero => intro t ks hl; simp [leafKs] at hl
  | succ d ih =>
    intro t ks hl D hD xs ys us vs b hx hy he hu hv
    obtain ⟨D, rfl⟩ : ∃ D', D = D' + 1 := ⟨D - 1, by omega⟩
    obtain ⟨i, u, d', hd', hi, hut, hsz, ⟨fs, rfl, hst, hfs⟩ | ⟨k, hk, rfl⟩⟩ := leaf_cases hl
    · obtain rfl : d' = d := by omega
      have hfo : P.fieldsOf t = fs := by simp [Program.fieldsOf, hut]
      have key : ∀ (l : List Field) (n : Nat) (ks : List Nat), fieldsKs (leafKs P d') l n = some ks → ∀ (xs ys : List AV) (b : Bool), n + ks.length = xs.length → n + ks.length = ys.length → ∀ us vs : Array Value, VRs J xs us.toList → VRs J ys vs.toList →
          eqCells ks (xs.drop n) (ys.drop n) = some b → (Op.eqFields D us vs l).run P w = .ok b w := by
        intro l
        induction l with
        | nil =>
          intro n ks hk xs ys b h1 h2 us vs hu hv he
          simp only [fieldsKs, Option.some.injEq] at hk; subst hk
          simp only [List.length_nil, Nat.add_zero] at h1 h2
          rw [List.drop_of_length_le (by omega), List.drop_of_length_le (by omega)] at he
          simp only [eqCells, Option.some.injEq] at he; subst he
          simp [Op.eqFields]
        | cons f l ihl =>
          intro n ks hk xs ys b h1 h2 us vs hu hv he
          simp only [fieldsKs] at hk
          cases hc : (f.name != "_" && f.offset == n)
          · rw [hc] at hk; cases hk
          · rw [hc] at hk
            simp only [Bool.and_eq_true, bne_iff_ne, ne_eq, beq_iff_eq] at hc
            simp only [cond_true] at hk
            split at hk
            · rename_i k1 hk1
              split at hk
              · rename_i k2 hk2
                simp only [Option.some.injEq] at hk; subst hk
                simp only [List.length_append] at h1 h2
                have hul := hu.length
                have hvl := hv.length
                simp only [Array.length_toList] at hul hvl
                have ex : xs.drop n = (xs.drop n).take k1.length ++ xs.drop (n + k1.length) := by
                  rw [← List.drop_drop, List.take_append_drop]
                have ey : ys.drop n = (ys.drop n).take k1.length ++ ys.drop (n + k1.length) := by
                  rw [← List.drop_drop, List.take_append_drop]
                rw [ex, ey, eqCells_append (by simp; omega) (by simp; omega)] at he
                have hp1 := fun w => part_valOf (P := P) (w := w) hk1 us n (by omega)
                have hp2 := fun w => part_valOf (P := P) (w := w) hk1 vs n (by omega)
                have hstep : ∀ r, eqCells k1 ((xs.drop n).take k1.length) ((ys.drop n).take k1.length) = some r → (Op.equalIn D f.type (valOf P f.type ((us.toList.drop n).take k1.length)) (valOf P f.type ((vs.toList.drop n).take k1.length))).run P w = .ok r w :=
                  fun r hr => ih f.type k1 hk1 D (by omega) _ _ _ _ r (by simp; omega) (by simp; omega) hr ((hu.drop n).take _) ((hv.drop n).take _)
                simp only [Op.eqFields, ne_eq, hc.1, not_false_eq_true, if_true, hc.2]
                cases hr : eqCells k1 ((xs.drop n).take k1.length) ((ys.drop n).take k1.length) with
                | none => rw [hr] at he; cases he
                | some r =>
                  rw [hr] at he
                  have := hstep r hr
                  cases r
                  · simp only [Option.some.injEq] at he; subst he
                    simp [hp1, hp2, this]
                  · have h5 := ihl (n + k1.length) k2 hk2 xs ys b (by omega) (by omega) us vs hu hv he
                    simp [hp1, hp2, this, h5]
              · cases hk
            · cases hk
      simp only [valOf, hut]
      rw [run_equalIn_struct w D t us.toArray vs.toArray (by rw [hfo]; exact hut) hst, hfo]
      exact key fs.toList 0 ks hfs xs ys b (by omega) (by omega) us.toArray vs.toArray (by simpa using hu) (by simpa using hv) (by simpa using he)
    · match xs, ys, hx, hy with
      | [x], [y], _, _ =>
        simp only [VRs] at hu hv
        obtain ⟨u1, us', rfl, hu1, rfl⟩ := hu
        obtain ⟨v1, vs', rfl, hv1, rfl⟩ := hv
        have hb : keyEq k x y = some b := by
          simp only [eqCells] at he
          cases hb : keyEq k x y with
          | none => rw [hb] at he; cases he
          | some r => rw [hb] at he; cases r <;> simpa using he
        have hs := keyEq_sim hk hb hu1 hv1
        cases u <;> simp only [keyK] at hk <;> (try cases hk; done) <;> simp only [valOf, hut, List.headD_cons]
        · cases u1 <;> cases v1 <;> simp only [Instr.sameNow] at hs <;> (try cases hs; done)
          simp only [Option.some.injEq] at hs; subst hs
          exact run_equalIn_bool' w D t _ _ hut
        · cases u1 <;> cases v1 <;> simp only [Instr.sameNow] at hs <;> (try cases hs; done)
          split at hs
          · rename_i hkk
            simp only [Option.some.injEq] at hs; subst hs hkk
            exact run_equalIn_int w D t _ _ _ _ hut
          · cases hs
        · cases u1 <;> cases v1 <;> simp only [Instr.sameNow] at hs <;> (try cases hs; done)
          simp only [Option.some.injEq] at hs; subst hs
          rw [run_equalIn_string w D t _ _ hut, beq_toListBytes]

theorem sim_eqA (hE : VRs J env a.tmps.toList) (h : HR P mid J A w) {x y : Operand} {x' y' : Opd} (hx : opd P.globals.size x = some x') (hy : opd P.globals.size y = some y') (ne : Bool) (xt yt : TypeId) (ks : List Nat) (fs : Array Field)
    (hu : P.underlying xt = some (.struct fs)) (hg : P.eqGuardType P.depth xt = false) (hl : leafKs P 10 xt = some ks) (ty : TypeId) (pos : String) (d af g) :
    OpOk P mid T J A w (evOp T env A (.eqA ne ks x' y')) ((execOp a.eval ⟨d, .binOp (if ne then .neq else .eql) xt x y yt, ty, pos, af, g⟩).run P w) := by
  simp only [evOp]
  have h1 := ev_sim hE h hx
  have h2 := ev_sim hE h hy
  split
  · rename_i xs ys hx1 hy1
    rw [hx1] at h1; rw [hy1] at h2
    simp only [VR] at h1 h2
    obtain ⟨us, e1, hus⟩ := h1
    obtain ⟨vs, e2, hvs⟩ := h2
    cases hc : (Nat.beq xs.length ks.length && Nat.beq ys.length ks.length)
    · exact True.intro
    · simp only [Bool.and_eq_true] at hc
      have l1 := Nat.eq_of_beq_eq_true hc.1
      have l2 := Nat.eq_of_beq_eq_true hc.2
      simp only [cond_true]
      cases he : eqCells ks xs ys with
      | none => exact True.intro
      | some b =>
        have e3 := eqL_sim (P := P) (w := w) 10 xt ks hl 10000 (by omega) xs ys us.toList vs.toList b l1 l2 he hus hvs
        simp only [valOf, hu] at e3
        refine ok_val h (v' := .bool (bif ne then !b else b)) ?_ (by simp [VR])
        simp only [execOp]
        rw [e1, e2]
        cases ne
        · simp [run_eqGuard_agg _ _ _ _ _ _ _ hg, run_eql_struct, e3]
        · simp [run_eqGuard_agg _ _ _ _ _ _ _ hg, run_neq_struct, e3]
  · trivial
end
end Go.Ae

/- A part of the proof of a law: an evaluator of the code, proved sound against the model, and contracts of functions over it. No condition. -/
import Derived.RangeFuncLeaves
import Derived.Wp
import GoSem.Core.Utf8
import Derived.Below
import Derived.Laws.Sem
import Derived.Laws.World
import Derived.Laws.Cells
import Derived.Laws.StructEq
import Derived.ChangeKeysEq
import Derived.Laws.CopyRow
import Derived.Laws.BytesString
import GoSem.Dispatch
import Derived.MapKept
set_option linter.unusedSimpArgs false
set_option linter.unusedVariables false
/- An evaluator for the model's code over an abstract heap: definitions only. -/
namespace Go.Ab
universe u
noncomputable section

/-! ### The code that is evaluated -/
/-- The place of a slot in a tree of slots. -/
inductive Pa where
  | z
  | l (p : Pa)
  | r (p : Pa)
  deriving DecidableEq
inductive Opd where
  | t (n : Pa)
  | c (v : Value)
inductive ST where
  | lf
  | nd (v : Value) (l r : ST)

inductive CK where
  | int | bool | str
inductive EqK where
  | cells (ts : List CK)
  | bool | slice | ptr | func

inductive AOp where
  | mov (x : Opd)
  | pick (c a b : Opd)
  | box (x : Opd)
  | zero (z : List Value)
  | build (z : List Value) (ps : List (Nat × Nat × Opd))
  | bslice (len size : Nat) (z : List Value) (ps : List (Nat × Nat × Opd))
  | ld (n : Option Nat) (a : Opd)
  | st (n : Nat) (a x : Opd)
  | nilchk (x : Opd)
  | bin (op : BinOp) (x y : Opd)
  | eqs (k : EqK) (neg : Bool) (x y : Opd)
  | un (op : UnOp) (x : Opd)
  | cvt (k : IntKind) (x : Opd)
  | str (x : Opd)
  | b2s (x : Opd)
  | clos (fn : Fn) (first cap : List Opd)
  | mkmap
  | mks (size bytes : Nat) (z : List Value) (l c : Opd)
  | slstr (x : Opd) (lo hi : Option Opd)
  | slsl (size : Nat) (x : Opd) (lo hi mx : Option Opd)
  | slarr (n size : Nat) (x : Opd) (lo hi mx : Option Opd)
  | fad (off : Nat) (x : Opd)
  | iad (len size : Nat) (x i : Opd)
  | ias (size : Nat) (x i : Opd)
  | fld (n : Option Nat) (off : Nat) (x : Opd)
  | idx (len size : Nat) (n : Option Nat) (x i : Opd)
  | idxs (x i : Opd)
  | look (ok : Bool) (ts : List CK) (z : Value) (m k : Opd)
  | mset (ts : List CK) (m k v : Opd)
  | rstr (x : Opd)
  | rmap (x : Opd)
  | nexts (x : Opd)
  | nextm (x : Opd)
  | entry (x : Opd)
  | ext (i : Nat) (x : Opd)
  | call (f : Opd) (args : List Opd)
  | app (size : Nat) (s x : Opd)
  | cpy (size : Nat) (d s : Opd)
  | len (k : Nat) (x : Opd)
  | min (x : Opd) (r : List Opd)
  | max (x : Opd) (r : List Opd)
  | clr (z : List Value) (x : Opd)
  | bad

structure AOper where
  dst : Option Pa
  guard : Option (Pa × Bool)
  op : AOp

inductive ACode where
  | skip
  | reg (ops : List AOper) (plan : List (Nat × List Nat))
  | kill (l : List Pa) (c : ACode)
  | seq (a b : ACode)
  | cond (c : Opd) (x y : ACode)
  | block (id : Nat) (b : ACode)
  | loop (b : ACode)
  | rangeF (f : Opd) (ps : List Pa) (asg body : ACode)
  | exit (id : Nat)
  | ret
  | bad

inductive ARes where
  | tmp (t : Pa)
  | cell (n : Option Nat) (t : Pa)

structure AFunc where
  params : List Pa
  init : ST
  results : List ARes
  body : ACode

/-! ### The heap -/
inductive AObj where
  | cells (c : List Value)
  | map (es : List (Value × Value))
  | siter (s : ByteArray) (pos : Nat)
  | miter (m : Nat) (left : List (Value × Value)) (now : Option (Value × Value))
  | loop (st : LoopState) (pend : Option ACode) (tmps : ST) (ps : List Pa) (asg body : ACode)

/-! Forcing: each of these is 'k x' (whatever the flag); with the flag the kernel evaluates what it is handed before it goes on. -/
section
variable {β : Sort u}
def frcN (n : Nat) (k : Nat → β) : β := Nat.casesOn n (k 0) fun m => k (Nat.succ m)
def frcI (n : Int) (k : Int → β) : β := Int.casesOn n (fun m => frcN m fun m => k (.ofNat m)) fun m => frcN m fun m => k (.negSucc m)
def frcB (b : Bool) (k : Bool → β) : β := Bool.casesOn b (k false) (k true)
def frcA (a : Option Addr) (k : Option Addr → β) : β := match a with
  | none => k none
  | some ⟨b, o, s⟩ => frcN b fun b => frcN o fun o => k (some ⟨b, o, s⟩)
def frc1 (v : Value) : (Value → β) → β :=
  Value.casesOn v (fun b k => frcB b fun b => k (.bool b)) (fun i n k => frcI n fun n => k (.int i n)) (fun a b k => k (.float a b)) (fun a b c k => k (.complex a b c))
    (fun s k => k (.string s)) (fun a k => frcA a fun a => k (.pointer a)) (fun a l c k => frcA a fun a => frcN l fun l => frcN c fun c => k (.slice a l c))
    (fun r k => k (.map r)) (fun r k => k (.chan r)) (fun a b c k => k (.func a b c)) (fun k => k .nilFunc) (fun a b k => k (.iface a b)) (fun k => k .nilIface)
    (fun a k => k (.agg a)) (fun a k => k (.tuple a))
def frcL (l : List Value) : (List Value → β) → β :=
  List.rec (fun k => k []) (fun v _ ih k => frc1 v fun v => ih fun r => k (v :: r)) l
def frcV1 (v : Value) : (Value → β) → β :=
  Value.casesOn v (fun b k => frcB b fun b => k (.bool b)) (fun i n k => frcI n fun n => k (.int i n)) (fun a b k => k (.float a b)) (fun a b c k => k (.complex a b c))
    (fun s k => k (.string s)) (fun a k => frcA a fun a => k (.pointer a)) (fun a l c k => frcA a fun a => frcN l fun l => frcN c fun c => k (.slice a l c))
    (fun r k => k (.map r)) (fun r k => k (.chan r)) (fun a b c k => k (.func a b c)) (fun k => k .nilFunc) (fun a b k => k (.iface a b)) (fun k => k .nilIface)
    (fun cs k => frcL cs.toList fun l => k (.agg l.toArray)) (fun cs k => frcL cs.toList fun l => k (.tuple l.toArray))
def frcV (b : Bool) (v : Value) (k : Value → β) : β := Bool.casesOn b (k v) (frcV1 v k)
def frcVL (l : List Value) : (List Value → β) → β :=
  List.rec (fun k => k []) (fun v _ ih k => frcV1 v fun v => ih fun r => k (v :: r)) l
def frcS (b : Bool) (l : List Value) (k : List Value → β) : β := Bool.casesOn b (k l) (frcVL l k)
def frcE (l : List (Value × Value)) : (List (Value × Value) → β) → β :=
  List.rec (fun k => k []) (fun e _ ih k => Prod.casesOn e fun x y => frcV1 x fun x => frcV1 y fun y => ih fun r => k ((x, y) :: r)) l
def frcO (b : Bool) (o : AObj) (k : AObj → β) : β :=
  Bool.casesOn b (k o) <| match o with
    | .cells c => frcL c fun c => k (.cells c)
    | .map es => frcE es fun es => k (.map es)
    | o => k o
end

inductive Tr (α : Type) where
  | lf
  | nd (v : Option α) (l r : Tr α)

namespace Tr
variable {α : Type}
def get (t : Tr α) : Nat → Option α :=
  Tr.rec (fun _ => none) (fun v _ _ gl gr n => bif Nat.beq n 0 then v else bif Nat.beq (Nat.mod n 2) 1 then gl (Nat.div n 2) else gr (Nat.sub (Nat.div n 2) 1)) t
def setK {β : Sort u} (f : Nat) : Tr α → Nat → Option α → (Tr α → β) → β :=
  Nat.rec (fun t _ _ k => k t)
    (fun _ ih t n o k => Tr.casesOn t
      (bif Nat.beq n 0 then k (.nd o .lf .lf)
        else bif Nat.beq (Nat.mod n 2) 1 then ih .lf (Nat.div n 2) o fun t => k (.nd none t .lf)
        else ih .lf (Nat.sub (Nat.div n 2) 1) o fun t => k (.nd none .lf t))
      (fun v l r => bif Nat.beq n 0 then k (.nd o l r)
        else bif Nat.beq (Nat.mod n 2) 1 then ih l (Nat.div n 2) o fun t => k (.nd v t r)
        else ih r (Nat.sub (Nat.div n 2) 1) o fun t => k (.nd v l t))) f
def set (t : Tr α) (n : Nat) (o : Option α) : Tr α := setK (n + 1) t n o fun t => t
end Tr

/-- The abstract heap: 'base' is what was there before (read alone); 'tr' holds the new blocks. -/
structure AHeap where
  base : Nat → Option (List Value)
  tr : Tr AObj
  next : Nat
  dr : Nat

def frcH {β : Sort u} (b : Bool) (h : AHeap) (k : AHeap → β) : β :=
  Bool.casesOn b (k h) <| match h with
    | ⟨b, .lf, n, d⟩ => frcN n fun n => k ⟨b, .lf, n, d⟩
    | ⟨b, .nd v l r, n, d⟩ => frcN n fun n => k ⟨b, .nd v l r, n, d⟩

namespace AHeap
def get (h : AHeap) (k : Nat) : Option AObj := h.tr.get k
def put (b : Bool) (h : AHeap) (k : Nat) (o : AObj) : AHeap := AHeap.casesOn h fun base t n d => frcO b o fun o => ⟨base, t.set k (some o), n, d⟩
def del (h : AHeap) (k : Nat) : AHeap := AHeap.casesOn h fun base t n d => ⟨base, t.set k none, n, d⟩
def add (b : Bool) (h : AHeap) (o : AObj) : AHeap := AHeap.casesOn h fun base t n d => frcO b o fun o => ⟨base, t.set n (some o), Nat.succ n, d⟩
def drew (h : AHeap) : AHeap := AHeap.casesOn h fun base t n d => ⟨base, t, n, d + 1⟩
def row (h : AHeap) (a : Addr) : Option (List Value) :=
  match a.spot with
  | none => h.base a.block
  | some _ => match h.get a.block with
    | some (.cells c) => some c
    | _ => none
end AHeap

/-- What an operation that was passed over leaves. -/
def skipV : Value := .chan none
def okCell : Value → Bool
  | .agg _ | .tuple _ | .chan _ => false
  | _ => true
/-- The address of cell o of the new block k. -/
def nb (k o : Nat) : Addr := ⟨k, o, some 0⟩
def plus (a : Addr) (n : Nat) : Addr := { a with off := a.off + n }

/-- awk: a closed function whose answer is known; glob: blocks that hold what the program's text lays. -/
structure Cfg where
  fn : Nat → Option AFunc
  pick : Nat → Nat
  awk : Option (Nat × Value) := none
  glob : List (Nat × List (IntKind × Int)) := []
def rowI (r : List (IntKind × Int)) : List Value := r.map fun q => .int q.1 q.2
def eqInts : List Value → List (IntKind × Int) → Bool
  | [], [] => true
  | .int k n :: vs, (k', n') :: r => decide (k = k') && decide (n = n') && eqInts vs r
  | _, _ => false
def globB (g : List (Nat × List (IntKind × Int))) (base : Nat → Option (List Value)) : Bool := g.all fun e => match base e.1 with
  | some row => eqInts row e.2
  | none => false
def Cfg.orc (C : Cfg) (f : Nat) (args : List Value) (base : Nat → Option (List Value)) : Option Value := match C.awk with
  | some (g, v) => bif Nat.beq g f && args.isEmpty && globB C.glob base then some v else none
  | none => none

/-! ### Operations -/
def partA (n : Option Nat) (cs : List Value) (off : Nat) : Option Value :=
  match n with
  | some n => if off + n ≤ cs.length then some (.agg ((cs.drop off).take n).toArray) else none
  | none => cs[off]?
def ldA (n : Option Nat) (a : Addr) (h : AHeap) : Option Value :=
  match h.row a with
  | some c => partA n c a.off
  | none => none
def stCells (b : Bool) (a : Addr) (vs : List Value) (h : AHeap) : Option AHeap :=
  match a.spot, h.get a.block with
  | some _, some (.cells c) =>
    if a.off + vs.length ≤ c.length ∧ vs.all okCell then
      some (h.put b a.block (.cells (c.take a.off ++ (vs ++ c.drop (a.off + vs.length)))))
    else none
  | _, _ => none
def stA (b : Bool) (n : Nat) (a : Addr) (v : Value) (h : AHeap) : Option AHeap :=
  if v.cells.size = n then stCells b a v.cells.toList h else none

def cellEq : CK → Value → Value → Option Bool
  | .int, .int k a, .int k' b => if k = k' then some (a == b) else none
  | .bool, .bool a, .bool b => some (a == b)
  | .str, .string a, .string b => some (a.data.toList == b.data.toList)
  | _, _, _ => none
def cellsEq : List CK → List Value → List Value → Option Bool
  | [], [], [] => some true
  | t :: ts, x :: xs, y :: ys => match cellEq t x y, cellsEq ts xs ys with
    | some a, some b => some (a && b)
    | _, _ => none
  | _, _, _ => none

def eqA (k : EqK) (x y : Value) : Option Bool :=
  match k, x, y with
  | .cells ts, .agg xs, .agg ys => cellsEq ts xs.toList ys.toList
  | .bool, .bool a, .bool b => some (a == b)
  | .slice, .slice none _ _, .slice b _ _ => some b.isNone
  | .slice, .slice (some _) _ _, .slice none _ _ => some false
  | .ptr, .pointer none, .pointer b => some b.isNone
  | .ptr, .pointer (some _), .pointer none => some false
  | .func, .func .., .nilFunc => some false
  | _, _, _ => none

def intBin (op : BinOp) (k : IntKind) (a b : Int) : Option Value :=
  match op with
  | .add => some (.int k (k.wrap (a + b)))
  | .sub => some (.int k (k.wrap (a - b)))
  | .mul => some (.int k (k.wrap (a * b)))
  | .quo => if b = 0 then none else some (.int k (k.wrap (a.tdiv b)))
  | .rem => if b = 0 then none else some (.int k (a.tmod b))
  | .and => some (.int k (k.wrap (BitVec.ofInt k.bits a &&& BitVec.ofInt k.bits b).toNat))
  | .or => some (.int k (k.wrap (BitVec.ofInt k.bits a ||| BitVec.ofInt k.bits b).toNat))
  | .xor => some (.int k (k.wrap (BitVec.ofInt k.bits a ^^^ BitVec.ofInt k.bits b).toNat))
  | .andNot => some (.int k (k.wrap (BitVec.ofInt k.bits a &&& ~~~BitVec.ofInt k.bits b).toNat))
  | .eql => some (.bool (a == b))
  | .neq => some (.bool (a != b))
  | .lss => some (.bool (a < b))
  | .leq => some (.bool (a ≤ b))
  | .gtr => some (.bool (a > b))
  | .geq => some (.bool (a ≥ b))
  | .shl | .shr => none

def strBin (op : BinOp) (x y : ByteArray) : Option Value :=
  match op with
  | .add => if x.size + y.size ≤ 4294967296 then some (.string (x ++ y)) else none
  | .eql => some (.bool (x.toList == y.toList))
  | .neq => some (.bool !(x.toList == y.toList))
  | .lss => some (.bool (Op.bytesLess x.toList y.toList))
  | _ => none

def shlA (k : IntKind) (a b : Int) : Option Value := if b < 0 then none else some (.int k (k.wrap (a * 2 ^ (min b.toNat k.bits))))
def shrA (k : IntKind) (a b : Int) : Option Value := if b < 0 then none else some (.int k (a.fdiv (2 ^ (min b.toNat k.bits))))
def intOps (op : BinOp) (k : IntKind) (a : Int) (k' : IntKind) (b : Int) : Option Value :=
  match op with
  | .shl => shlA k a b
  | .shr => shrA k a b
  | op => if k = k' then intBin op k a b else none
def bin (op : BinOp) (x y : Value) : Option Value :=
  match x, y with
  | .int k a, .int k' b => intOps op k a k' b
  | .string a, .string b => strBin op a b
  | _, _ => none

def un (op : UnOp) (x : Value) : Option Value :=
  match op, x with
  | .neg, .int k n => some (.int k (k.wrap (0 - n)))
  | .xor, .int k n => some (.int k (k.wrap (BitVec.ofInt k.bits (if k.signed then -1 else k.max) ^^^ BitVec.ofInt k.bits n).toNat))
  | .not, .bool b => some (.bool !b)
  | _, _ => none

def cvt (k : IntKind) (x : Value) : Option Value :=
  match x with
  | .int _ n => some (.int k (k.wrap n))
  | _ => none

def bytesOf : List Value → ByteArray → Option ByteArray
  | [], s => some s
  | .int .u8 m :: r, s => bytesOf r (s.push (UInt8.ofNat m.toNat))
  | _, _ => none
def b2s (x : Value) (h : AHeap) : Option Value :=
  match x with
  | .slice none _ _ => some (.string .empty)
  | .slice (some a) n _ => match h.row a with
    | some c => if a.off + n ≤ c.length then (bytesOf ((c.drop a.off).take n) .empty).map .string else none
    | none => none
  | _ => none

def isU : Value → Bool
  | .tuple a => a.size == 0
  | _ => false
/-- Parts laid into cells. -/
def fillL (cells : List Value) : List (Nat × Nat × Value) → Option (List Value)
  | [] => some cells
  | (off, size, v) :: rest =>
    if isU v = false ∧ v.cells.size = size ∧ off + size ≤ cells.length then fillL (cells.take off ++ (v.cells.toList ++ cells.drop (off + size))) rest else none
def reps (z : List Value) : Nat → List Value
  | 0 => []
  | n + 1 => z ++ reps z n

def mks (b : Bool) (size bytes : Nat) (z : List Value) (l c : Value) (h : AHeap) : Option (Value × AHeap) :=
  match l, c with
  | .int _ l, .int _ c =>
    if z.length = size ∧ size ≠ 0 ∧ bytes ≤ 4096 ∧ 0 ≤ l ∧ l ≤ c ∧ c ≤ 2147483648 then
      some (.slice (some (nb h.next 0)) l.toNat c.toNat, h.add b (.cells (reps z c.toNat)))
    else none
  | _, _ => none

def fad (off : Nat) (x : Value) : Option Value :=
  match x with
  | .pointer (some a) => some (.pointer (some (plus a off)))
  | _ => none
def iad (len size : Nat) (x i : Value) : Option Value :=
  match x, i with
  | .pointer (some a), .int _ i => if 0 ≤ i ∧ i < len then some (.pointer (some (plus a (i.toNat * size)))) else none
  | _, _ => none
def ias (size : Nat) (x i : Value) : Option Value :=
  match x, i with
  | .slice (some a) len _, .int _ i => if 0 ≤ i ∧ i < len then some (.pointer (some (plus a (i.toNat * size)))) else none
  | _, _ => none
def fld (n : Option Nat) (off : Nat) (x : Value) : Option Value :=
  match x with
  | .agg cs => partA n cs.toList off
  | _ => none
def idxA (len size : Nat) (n : Option Nat) (x i : Value) : Option Value :=
  match x, i with
  | .agg cs, .int _ i => if 0 ≤ i ∧ i < len then partA n cs.toList (i.toNat * size) else none
  | _, _ => none
def idxs (x i : Value) : Option Value :=
  match x, i with
  | .string s, .int _ i =>
    if 0 ≤ i then match s.data.toList[i.toNat]? with
      | some b => some (.int .u8 b.toNat)
      | none => none
    else none
  | _, _ => none

def bnd (x : Option Value) (dflt y : Nat) : Option Nat :=
  match x with
  | none => some dflt
  | some (.int _ i) => if 0 ≤ i ∧ i ≤ y then some i.toNat else none
  | _ => none
def bnds (len cap : Nat) (lo hi mx : Option Value) : Option (Nat × Nat × Nat) :=
  match bnd mx cap cap with
  | some m => match (if mx.isSome && hi.isNone then none else bnd hi len m) with
    | some h => match bnd lo 0 h with
      | some l => some (l, h, m)
      | none => none
    | none => none
  | none => none
def slstr (x : Value) (lo hi : Option Value) : Option Value :=
  match x with
  | .string s => match bnds s.size s.size lo hi none with
    | some (l, h, _) => some (.string (s.extract l h))
    | none => none
  | _ => none
/-- Does a slice of such elements fit the row that it leads into? (A row that an append has made bears its elements' size as the address's mark.) -/
def tagOk (t : Option Nat) (size : Nat) : Bool := match t with
  | none => true
  | some u => u == 0 || u == size
/-- A slice with a third index has just the capacity that it is told. -/
def xct (mx : Option Value) (a : Addr) : Addr := match mx, a.spot with
  | some _, some _ => { a with spot := some 0 }
  | _, _ => a
def slsl (size : Nat) (x : Value) (lo hi mx : Option Value) : Option Value :=
  match x with
  | .slice none len cap => if len ≤ cap then match bnds len cap lo hi mx with
      | some (l, h, m) => some (.slice none (h - l) (m - l))
      | none => none
    else none
  | .slice (some a) len cap => if tagOk a.spot size then match bnds len cap lo hi mx with
      | some (l, h, m) => some (.slice (some (xct mx (plus a (l * size)))) (h - l) (m - l))
      | none => none
    else none
  | _ => none
def slarr (n size : Nat) (x : Value) (lo hi mx : Option Value) : Option Value :=
  match x with
  | .pointer (some a) => if tagOk a.spot size then match bnds n n lo hi mx with
      | some (l, h, m) => some (.slice (some (plus a (l * size))) (h - l) (m - l))
      | none => none
    else none
  | _ => none

/-- The cells of the first n elements of a slice or string. -/
def firsts (size n : Nat) (x : Value) (h : AHeap) : Option (List Value) :=
  match x with
  | .slice none _ _ => some []
  | .slice (some a) _ _ => match h.row a with
    | some c => if a.off + n * size ≤ c.length then some ((c.drop a.off).take (n * size)) else none
    | none => none
  | .string s => some ((s.data.toList.take n).map fun b => Value.int .u8 b.toNat)
  | _ => none
/-- The same; of no elements at all no row is wanted. -/
def firsts0 (size n : Nat) (x : Value) (h : AHeap) : Option (List Value) := if n = 0 then some [] else firsts size n x h
def lenA : Value → Option Nat
  | .slice _ n _ => some n
  | .string s => some s.size
  | _ => none

def growOld (size len : Nat) (s : Value) (h : AHeap) (a : Addr) : Option (List Value) := match a.spot with
  | none => firsts0 size len s h
  | some u => if u = 0 then firsts0 size len s h else firsts size len s h
/-- The new block behind an append that may or may not find room. -/
def grow (b : Bool) (size need : Nat) (base : Option Addr) (len : Nat) (s : Value) (new : List Value) (h : AHeap) : Option (Value × AHeap) :=
  match base with
  | none => if len = 0 then some (.slice (some ⟨h.next, 0, some size⟩) need need, h.add b (.cells new)) else none
  | some a => match growOld size len s h a with
    | some old => match a.spot with
      | none => some (.slice (some ⟨h.next, 0, some size⟩) need need, h.add b (.cells (old ++ new)))
      | some u => if u = 0 then some (.slice (some ⟨h.next, 0, some size⟩) need need, h.add b (.cells (old ++ new))) else if tagOk (some u) size && (h.get a.block).isSome then some (.slice (some ⟨h.next, 0, some size⟩) need need, (h.del a.block).add b (.cells (old ++ new))) else none
    | none => none
def app (b : Bool) (size : Nat) (s x : Value) (h : AHeap) : Option (Value × AHeap) :=
  match s, lenA x with
  | .slice base len cap, some n => match firsts0 size n x h with
    | some new =>
      if size ≠ 0 ∧ size ≤ 4096 ∧ len ≤ cap ∧ len + n ≤ 2147483648 ∧ new.length = n * size ∧ new.all okCell then
        if len + n ≤ cap then
          if n = 0 then some (.slice base (len + n) cap, h)
          else match base with
          | none => some (.slice none (len + n) cap, h)
          | some a => match stCells b (plus a (len * size)) new h with
            | some h' => some (.slice base (len + n) cap, h')
            | none => none
        else grow b size (len + n) base len s new h
      else none
    | none => none
  | _, _ => none
def cpy (b : Bool) (size : Nat) (d s : Value) (h : AHeap) : Option (Value × AHeap) :=
  match d, lenA s with
  | .slice base len _, some m => match firsts0 size (Nat.min m len) s h with
    | some cs => if Nat.min m len = 0 then some (goInt (Nat.min m len), h)
      else match base with
      | none => some (goInt (Nat.min m len), h)
      | some a => match stCells b a cs h with
        | some h' => some (goInt (Nat.min m len), h')
        | none => none
    | none => none
  | _, _ => none
def lenS : Value → Option Value
  | .string s => some (goInt s.size)
  | _ => none
def lenL : Value → Option Value
  | .slice _ n _ => some (goInt n)
  | _ => none
def lenM (x : Value) (h : AHeap) : Option Value :=
  match x with
  | .map none => some (goInt 0)
  | .map (some r) => match h.get r with
    | some (.map es) => some (goInt es.length)
    | _ => none
  | _ => none
def lenV (k : Nat) (x : Value) (h : AHeap) : Option Value :=
  match k with
  | 0 => lenS x
  | 1 => lenL x
  | 2 => lenM x h
  | _ => none
def clr (b : Bool) (z : List Value) (x : Value) (h : AHeap) : Option AHeap :=
  match x with
  | .slice none _ _ => some h
  | .slice (some a) n _ => if n = 0 then some h else stCells b a (reps z n) h
  | _ => none

def min2 : Value → Value → Option Value
  | .int k x, .int k' y => if k = k' then some (.int k (if y < x then y else x)) else none
  | _, _ => none
def max2 : Value → Value → Option Value
  | .int k x, .int k' y => if k = k' then some (.int k (if y > x then y else x)) else none
  | _, _ => none
def foldV (f : Value → Value → Option Value) : Value → List Value → Option Value
  | x, [] => some x
  | x, y :: r => match f x y with
    | some z => foldV f z r
    | none => none

def keyEq (ts : List CK) (x y : Value) : Option Bool :=
  match ts with
  | [c] => cellEq c x y
  | ts => match x, y with
    | .agg xs, .agg ys => cellsEq ts xs.toList ys.toList
    | _, _ => none
def findE (ts : List CK) (k : Value) : List (Value × Value) → Option (Option Value)
  | [] => some none
  | (k', v) :: r => match keyEq ts k k' with
    | some true => some (some v)
    | some false => findE ts k r
    | none => none
def setE (ts : List CK) (k v : Value) : List (Value × Value) → List (Value × Value)
  | [] => [(k, v)]
  | (k', v') :: r => match keyEq ts k k' with
    | some true => (k, v) :: r
    | _ => (k', v') :: setE ts k v r
def look (ok : Bool) (ts : List CK) (z : Value) (m k : Value) (h : AHeap) : Option Value :=
  match m with
  | .map (some r) => match h.get r with
    | some (.map es) => if (keyEq ts k k).isSome then
        match findE ts k es with
        | some v => some (if ok then .tuple #[v.getD z, .bool v.isSome] else v.getD z)
        | none => none
      else none
    | _ => none
  | _ => none
def mset (b : Bool) (ts : List CK) (m k v : Value) (h : AHeap) : Option AHeap :=
  match m with
  | .map (some r) => match h.get r with
    | some (.map es) => if (keyEq ts k k).isSome && (findE ts k es).isSome && !isU v then some (h.put b r (.map (setE ts k v es))) else none
    | _ => none
  | _ => none
def rstr (b : Bool) (x : Value) (h : AHeap) : Option (Value × AHeap) :=
  match x with
  | .string s => some (.pointer (some (nb h.next 0)), h.add b (.siter s 0))
  | _ => none
def rmap (b : Bool) (x : Value) (h : AHeap) : Option (Value × AHeap) :=
  match x with
  | .map (some m) => match h.get m with
    | some (.map es) => some (.pointer (some (nb h.next 0)), h.add b (.miter m es none))
    | _ => none
  | _ => none
def nexts (b : Bool) (x : Value) (h : AHeap) : Option (Value × AHeap) :=
  match x with
  | .pointer (some ⟨r, 0, some _⟩) => match h.get r with
    | some (.siter s pos) =>
      if pos < s.size then some (.tuple #[.bool true, goInt pos, .int .i32 (Utf8.decode s pos).1], h.put b r (.siter s (pos + (Utf8.decode s pos).2)))
      else some (.tuple #[.bool false], h)
    | _ => none
  | _ => none
def nextm (b : Bool) (pick : Nat → Nat) (x : Value) (h : AHeap) : Option (Value × AHeap) :=
  match x with
  | .pointer (some ⟨r, 0, some _⟩) => match h.get r with
    | some (.miter m left _) =>
      match left with
      | [] => some (.tuple #[.bool false], h)
      | _ :: _ => match left[pick h.dr % left.length]? with
        | some e => some (.tuple #[.bool true, e.1, e.2], (h.put b r (.miter m (left.eraseIdx (pick h.dr % left.length)) (some e))).drew)
        | none => none
    | _ => none
  | _ => none
def entryA (x : Value) (h : AHeap) : Option Value :=
  match x with
  | .pointer (some ⟨r, 0, some _⟩) => match h.get r with
    | some (.miter _ _ (some e)) => some (.tuple #[e.1, e.2])
    | _ => none
  | _ => none

/-! ### Code -/
inductive Ex where
  | normal
  | exit (id : Nat)
  | ret

abbrev Slots := ST
abbrev Res := Ex × Slots × AHeap

inductive Task where
  | code (c : ACode) (s : Slots) (h : AHeap)
  | call (f : Nat) (args : List Value) (h : AHeap)

def getS (p : Pa) : Slots → Value :=
  Pa.rec (fun t => ST.casesOn t undef fun v _ _ => v) (fun _ ih t => ST.casesOn t undef fun _ l _ => ih l) (fun _ ih t => ST.casesOn t undef fun _ _ r => ih r) p
def setK {β : Sort u} (p : Pa) : Slots → Value → (Slots → β) → β :=
  Pa.rec (fun t v k => ST.casesOn t (k (.nd v .lf .lf)) fun _ l r => k (.nd v l r))
    (fun _ ih t v k => ST.casesOn t (ih .lf v fun l => k (.nd undef l .lf)) fun x l r => ih l v fun l => k (.nd x l r))
    (fun _ ih t v k => ST.casesOn t (ih .lf v fun r => k (.nd undef .lf r)) fun x l r => ih r v fun r => k (.nd x l r)) p
def setO {β : Sort u} (d : Option Pa) (s : Slots) (v : Value) (k : Slots → β) : β := Option.casesOn d (k s) fun p => setK p s v k
def evA (s : Slots) (x : Opd) : Value := Opd.casesOn x (fun t => getS t s) fun v => v
def setS (p : Pa) (s : Slots) (v : Value) : Slots := setK p s v fun s => s
def putL {β : Sort u} (ps : List Pa) : List Value → Slots → (Slots → β) → β :=
  List.rec (fun _ s k => k s) (fun p _ ih vs s k => List.casesOn vs (k s) fun v vs => setK p s v fun s => ih vs s k) ps
def killL (s : Slots) : List Pa → Slots
  | [] => s
  | t :: r => killL (setS t s undef) r

section
variable (b : Bool) (C : Cfg) (self : Task → Option Res)

def callF (f : Nat) (args : List Value) (h : AHeap) : Option (Value × AHeap) :=
  match C.orc f args h.base with
  | some v => some (v, h)
  | none => frcS b args fun args => match self (.call f args h) with
    | some (_, .nd v _ _, h') => some (v, h')
    | _ => none

/-- One round of a range over a function. -/
def roundA (l : Nat) (args : List Value) (h : AHeap) : Option (Value × AHeap) :=
  match h.get l with
  | some (.loop .ready pend tmps ps asg body) =>
    if args.length = ps.length then
      match (frcS b args fun args => putL ps args tmps fun s => self (.code asg s h)) with
      | some (.normal, s, h1) =>
        match h1.get l with
        | some (.loop .ready pend1 tmps1 ps1 asg1 body1) =>
          match self (.code body s (h1.put b l (.loop .busy pend1 tmps1 ps1 asg1 body1))) with
          | some (e, _, h2) =>
            match h2.get l with
            | some (.loop _ _ tmps2 ps2 asg2 body2) =>
              match e with
              | .normal => some (.bool true, h2.put b l (.loop .ready none tmps2 ps2 asg2 body2))
              | .ret => some (.bool false, h2.put b l (.loop .done (some .ret) tmps2 ps2 asg2 body2))
              | .exit id => some (.bool false, h2.put b l (.loop .done (some (.exit id)) tmps2 ps2 asg2 body2))
            | _ => none
          | none => none
        | _ => none
      | _ => none
    else none
  | _ => none

def callV (fv : Value) (args : List Value) (h : AHeap) : Option (Value × AHeap) :=
  match fv with
  | .func fn first captured => match fn with
    | .func f => callF b C self f (first.toList ++ args ++ captured.toList) h
    | .yield l => roundA b self l args h
    | _ => none
  | _ => none

def ret1 (v : Option Value) (h : AHeap) : Option (Value × AHeap) := match v with
  | some v => some (v, h)
  | none => none
def retU (h : Option AHeap) : Option (Value × AHeap) := match h with
  | some h => some (undef, h)
  | none => none
def pEv (s : Slots) : List (Nat × Nat × Opd) → List (Nat × Nat × Value)
  | [] => []
  | (o, n, x) :: r => (o, n, evA s x) :: pEv s r
def ldP (n : Option Nat) (a : Value) (h : AHeap) : Option Value := match a with
  | .pointer (some a) => ldA n a h
  | _ => none
def stP (n : Nat) (a x : Value) (h : AHeap) : Option (Value × AHeap) := match a with
  | .pointer (some a) => retU (stA b n a x h)
  | _ => none
def aggO (l : Option (List Value)) : Option Value := match l with
  | some cs => some (.agg cs.toArray)
  | none => none
def bslice (len size : Nat) (z : List Value) (ps : List (Nat × Nat × Value)) (h : AHeap) : Option (Value × AHeap) :=
  if z.length = size ∧ size ≠ 0 ∧ len * size ≤ 16777216 then
    match fillL (reps z len) ps with
    | some cs => some (.slice (some (nb h.next 0)) len len, h.add b (.cells cs))
    | none => none
  else none
def pickA (c a b : Value) : Option Value := match c with
  | .bool t => some (if t then a else b)
  | _ => none
def nilA (x : Value) : Option Value := match x with
  | .pointer (some a) => some (.pointer (some a))
  | _ => none
def strA (x : Value) : Option Value := match x with
  | .string s => some (.string s)
  | _ => none
def extA (i : Nat) (x : Value) : Option Value := match x with
  | .tuple vs => vs.toList[i]?
  | _ => none
def eqsA (k : EqK) (neg : Bool) (x y : Value) : Option Value := match eqA k x y with
  | some r => some (.bool (r != neg))
  | none => none

end
abbrev OpF := Bool → Cfg → (Task → Option Res) → Slots → AHeap → Option (Value × AHeap)
def o_mov (x : Opd) : OpF := fun _ _ _ s h => some (evA s x, h)
def o_pick (c : Opd) (x : Opd) (y : Opd) : OpF := fun _ _ _ s h => ret1 (pickA (evA s c) (evA s x) (evA s y)) h
def o_box (x : Opd) : OpF := fun b _ _ s h => Bool.casesOn (isU (evA s x)) (some (.pointer (some (nb h.next 0)), h.add b (.cells (evA s x).cells.toList))) none
def o_zero (z : List Value) : OpF := fun b _ _ _ h => some (.pointer (some (nb h.next 0)), h.add b (.cells z))
def o_ld (n : Option Nat) (a : Opd) : OpF := fun _ _ _ s h => ret1 (ldP n (evA s a) h) h
def o_st (n : Nat) (a : Opd) (x : Opd) : OpF := fun b _ _ s h => stP b n (evA s a) (evA s x) h
def o_nilchk (x : Opd) : OpF := fun _ _ _ s h => ret1 (nilA (evA s x)) h
def o_bin (op : BinOp) (x : Opd) (y : Opd) : OpF := fun _ _ _ s h => ret1 (bin op (evA s x) (evA s y)) h
def o_eqs (k : EqK) (neg : Bool) (x : Opd) (y : Opd) : OpF := fun _ _ _ s h => ret1 (eqsA k neg (evA s x) (evA s y)) h
def o_un (op : UnOp) (x : Opd) : OpF := fun _ _ _ s h => ret1 (un op (evA s x)) h
def o_cvt (k : IntKind) (x : Opd) : OpF := fun _ _ _ s h => ret1 (cvt k (evA s x)) h
def o_str (x : Opd) : OpF := fun _ _ _ s h => ret1 (strA (evA s x)) h
def o_b2s (x : Opd) : OpF := fun _ _ _ s h => ret1 (b2s (evA s x) h) h
def o_clos (fn : Fn) (first : List Opd) (cap : List Opd) : OpF := fun _ _ _ s h => some (.func fn (first.map (evA s)).toArray (cap.map (evA s)).toArray, h)
def o_mkmap  : OpF := fun b _ _ _ h => some (.map (some h.next), h.add b (.map []))
def o_mks (size : Nat) (bytes : Nat) (z : List Value) (l : Opd) (c : Opd) : OpF := fun b _ _ s h => mks b size bytes z (evA s l) (evA s c) h
def o_slstr (x : Opd) (lo : Option Opd) (hi : Option Opd) : OpF := fun _ _ _ s h => ret1 (slstr (evA s x) (lo.map (evA s)) (hi.map (evA s))) h
def o_slsl (size : Nat) (x : Opd) (lo : Option Opd) (hi : Option Opd) (mx : Option Opd) : OpF := fun _ _ _ s h => ret1 (slsl size (evA s x) (lo.map (evA s)) (hi.map (evA s)) (mx.map (evA s))) h
def o_slarr (n : Nat) (size : Nat) (x : Opd) (lo : Option Opd) (hi : Option Opd) (mx : Option Opd) : OpF := fun _ _ _ s h => ret1 (slarr n size (evA s x) (lo.map (evA s)) (hi.map (evA s)) (mx.map (evA s))) h
def o_fad (off : Nat) (x : Opd) : OpF := fun _ _ _ s h => ret1 (fad off (evA s x)) h
def o_iad (len : Nat) (size : Nat) (x : Opd) (i : Opd) : OpF := fun _ _ _ s h => ret1 (iad len size (evA s x) (evA s i)) h
def o_ias (size : Nat) (x : Opd) (i : Opd) : OpF := fun _ _ _ s h => ret1 (ias size (evA s x) (evA s i)) h
def o_fld (n : Option Nat) (off : Nat) (x : Opd) : OpF := fun _ _ _ s h => ret1 (fld n off (evA s x)) h
def o_idx (len : Nat) (size : Nat) (n : Option Nat) (x : Opd) (i : Opd) : OpF := fun _ _ _ s h => ret1 (idxA len size n (evA s x) (evA s i)) h
def o_idxs (x : Opd) (i : Opd) : OpF := fun _ _ _ s h => ret1 (idxs (evA s x) (evA s i)) h
def o_look (ok : Bool) (ts : List CK) (z : Value) (m : Opd) (k : Opd) : OpF := fun _ _ _ s h => ret1 (look ok ts z (evA s m) (evA s k) h) h
def o_mset (ts : List CK) (m : Opd) (k : Opd) (v : Opd) : OpF := fun b _ _ s h => retU (mset b ts (evA s m) (evA s k) (evA s v) h)
def o_rstr (x : Opd) : OpF := fun b _ _ s h => rstr b (evA s x) h
def o_rmap (x : Opd) : OpF := fun b _ _ s h => rmap b (evA s x) h
def o_nexts (x : Opd) : OpF := fun b _ _ s h => nexts b (evA s x) h
def o_nextm (x : Opd) : OpF := fun b C _ s h => nextm b C.pick (evA s x) h
def o_entry (x : Opd) : OpF := fun _ _ _ s h => ret1 (entryA (evA s x) h) h
def o_ext (i : Nat) (x : Opd) : OpF := fun _ _ _ s h => ret1 (extA i (evA s x)) h
def o_call (f : Opd) (args : List Opd) : OpF := fun b C self s h => callV b C self (evA s f) (args.map (evA s)) h
def o_app (size : Nat) (s' : Opd) (x : Opd) : OpF := fun b _ _ s h => app b size (evA s s') (evA s x) h
def o_cpy (size : Nat) (d : Opd) (x : Opd) : OpF := fun b _ _ s h => cpy b size (evA s d) (evA s x) h
def o_len (k : Nat) (x : Opd) : OpF := fun _ _ _ s h => ret1 (lenV k (evA s x) h) h
def o_min (x : Opd) (r : List Opd) : OpF := fun _ _ _ s h => ret1 (foldV min2 (evA s x) (r.map (evA s))) h
def o_max (x : Opd) (r : List Opd) : OpF := fun _ _ _ s h => ret1 (foldV max2 (evA s x) (r.map (evA s))) h
def o_clr (z : List Value) (x : Opd) : OpF := fun b _ _ s h => match clr b z (evA s x) h with
    | some h => some (.tuple #[], h)
    | none => none
def o_bad  : OpF := fun _ _ _ _ _ => none
def o_build (z : List Value) (ps : List (Nat × Nat × Opd)) : OpF := fun _ _ _ s h => ret1 (aggO (fillL z (pEv s ps))) h
def o_bslice (len size : Nat) (z : List Value) (ps : List (Nat × Nat × Opd)) : OpF := fun b _ _ s h => bslice b len size z (pEv s ps) h
def aev (o : AOp) : OpF :=
  AOp.casesOn o o_mov o_pick o_box o_zero o_build o_bslice o_ld o_st o_nilchk o_bin o_eqs o_un o_cvt o_str o_b2s o_clos o_mkmap o_mks o_slstr o_slsl o_slarr o_fad o_iad o_ias o_fld o_idx o_idxs o_look o_mset o_rstr o_rmap o_nexts o_nextm o_entry o_ext o_call o_app o_cpy o_len o_min o_max o_clr o_bad

section
variable (b : Bool) (C : Cfg) (self : Task → Option Res)
def wantedA (s : Slots) (g : Option (Pa × Bool)) : Option Bool :=
  match g with
  | none => some true
  | some (d, want) => match getS d s with
    | .bool x => some (x == want)
    | .chan none => some false
    | _ => none

def runOps (ops : List AOper) : Slots → AHeap → Option (Slots × AHeap) :=
  List.rec (fun s h => some (s, h))
    (fun o _ ih s h =>
      match wantedA s o.guard with
      | none => none
      | some t => Bool.casesOn t (setO o.dst s skipV fun s => ih s h)
        (match aev o.op b C self s h with
          | some (v, h') => frcV b v fun v => frcH b h' fun h' => setO o.dst s v fun s => ih s h'
          | none => none)) ops

/-- The states ahead of each operation of a region. -/
def states : List AOper → Slots → AHeap → List (Slots × AHeap)
  | [], s, h => [(s, h)]
  | o :: r, s, h =>
    (s, h) :: (match wantedA s o.guard with
      | none => []
      | some true => match aev o.op b C self s h with
        | some (v, h') => states r (setO o.dst s v fun s => s) h'
        | none => []
      | some false => states r (setO o.dst s skipV fun s => s) h)
def veq1 : Value → Value → Bool
  | .int k a, .int k' b => k = k' && a == b
  | .bool a, .bool b => a == b
  | .string a, .string b => a.data.toList == b.data.toList
  | .pointer a, .pointer b => a == b
  | .slice a l c, .slice a' l' c' => a == a' && l == l' && c == c'
  | .map a, .map b => a == b
  | _, _ => false
def veqL : List Value → List Value → Bool
  | [], [] => true
  | x :: xs, y :: ys => veq1 x y && veqL xs ys
  | _, _ => false
def veq : Value → Value → Bool
  | .agg xs, .agg ys => veqL xs.toList ys.toList
  | .tuple xs, .tuple ys => veqL xs.toList ys.toList
  | x, y => veq1 x y
def planOk1 (ops : List AOper) (sts : List (Slots × AHeap)) (j : Nat) (p : Nat) : Bool :=
  match ops[j]?, sts[j]?, sts[p]? with
  | some o, some (s, h), some (_, h') =>
    match wantedA s o.guard with
    | some true => match aev o.op b C self s h, aev o.op b C self s h' with
      | some (v, _), some (v', _) => veq v v'
      | _, _ => false
    | _ => true
  | _, _, _ => false
def regA (ops : List AOper) (plan : List (Nat × List Nat)) (s : Slots) (h : AHeap) : Option (Slots × AHeap) :=
  match plan with
  | [] => runOps b C self ops s h
  | _ => let sts := states b C self ops s h
    if plan.all fun q => q.2.all fun p => planOk1 b C self ops sts q.1 p then runOps b C self ops s h else none

def loopEnd (s : Slots) (l : Nat) (r : Option (Value × AHeap)) : Option Res :=
  match r with
  | some (_, h1) => match h1.get l with
    | some (.loop .busy ..) => none
    | some (.loop _ pend tmps ps asg body) =>
      match pend with
      | none => some (.normal, s, h1.put b l (.loop .exhausted pend tmps ps asg body))
      | some .ret => some (.ret, s, h1.put b l (.loop .exhausted pend tmps ps asg body))
      | some (.exit id) => some (.exit id, s, h1.put b l (.loop .exhausted pend tmps ps asg body))
      | _ => none
    | _ => none
  | none => none

def codeS (c : ACode) : Slots → AHeap → Option Res :=
  ACode.rec (motive := fun _ => Slots → AHeap → Option Res)
    (fun s h => some (.normal, s, h))
    (fun ops plan s h => match regA b C self ops plan s h with
      | some (s, h) => some (.normal, s, h)
      | none => none)
    (fun l _ ih s h => ih (killL s l) h)
    (fun _ _ ia ib s h => match ia s h with
      | some (e, s1, h1) => match e with
        | .normal => ib s1 h1
        | e => some (e, s1, h1)
      | none => none)
    (fun c _ _ ix iy s h => match evA s c with
      | .bool t => Bool.casesOn t (iy s h) (ix s h)
      | _ => none)
    (fun id _ ib s h => match ib s h with
      | some (e, s1, h1) => match e with
        | .exit i => bif i.beq id then some (.normal, s1, h1) else some (.exit i, s1, h1)
        | e => some (e, s1, h1)
      | none => none)
    (fun body ib s h => match ib s h with
      | some (e, s1, h1) => match e with
        | .normal => self (.code (.loop body) s1 h1)
        | e => some (e, s1, h1)
      | none => none)
    (fun g ps asg body _ _ s h => match evA s g with
      | .func (.func f) first captured =>
        loopEnd b s h.next (callF b C self f (first.toList ++ [.func (.yield h.next) #[] #[]] ++ captured.toList) (h.add b (.loop .ready none s ps asg body)))
      | _ => none)
    (fun id s h => some (.exit id, s, h))
    (fun s h => some (.ret, s, h)) (fun _ _ => none) c

def resOf (s : Slots) (h : AHeap) : List ARes → Option (List Value)
  | [] => some []
  | .tmp t :: r => match resOf s h r with
    | some l => some (getS t s :: l)
    | none => none
  | .cell n t :: r => match ldP n (getS t s) h, resOf s h r with
    | some v, some l => some (v :: l)
    | _, _ => none
def resV : List Value → Value
  | [v] => v
  | vs => .tuple vs.toArray
def finish (fn : AFunc) (r : Option Res) : Option Res :=
  match r with
  | some (e, s, h) => match e with
    | .exit _ => none
    | _ => match resOf s h fn.results with
      | some vs => some (.ret, .nd (resV vs) .lf .lf, h)
      | none => none
  | none => none
def step (t : Task) : Option Res :=
  match t with
  | .code c s h => codeS b C self c s h
  | .call f args h => match C.fn f with
    | some fn => if args.length = fn.params.length then finish fn (putL fn.params args fn.init fun s => codeS b C self fn.body s h) else none
    | none => none
end

def run (b : Bool) (C : Cfg) (n : Nat) : Task → Option Res :=
  Nat.rec (fun _ => none) (fun _ ih t => step b C ih t) n

end
end Go.Ab

/- The evaluator's heap against the model's world: relations and their laws. -/
namespace Go.Ab
universe u

/-! ### Forcing changes nothing -/
section
variable {β : Sort u}
theorem frcN_eq (n : Nat) (k : Nat → β) : frcN n k = k n := by cases n <;> rfl
theorem frcI_eq (n : Int) (k : Int → β) : frcI n k = k n := by
  cases n with
  | ofNat m => exact frcN_eq m fun m => k (.ofNat m)
  | negSucc m => exact frcN_eq m fun m => k (.negSucc m)
theorem frcB_eq (b : Bool) (k : Bool → β) : frcB b k = k b := by cases b <;> rfl
theorem frcA_eq (a : Option Addr) (k : Option Addr → β) : frcA a k = k a := by
  rcases a with _ | ⟨b, o, s⟩
  · rfl
  · simp only [frcA, frcN_eq]
theorem frc1_eq (v : Value) (k : Value → β) : frc1 v k = k v := by
  cases v <;> simp only [frc1, frcB_eq, frcI_eq, frcA_eq, frcN_eq]
theorem frcL_eq (l : List Value) (k : List Value → β) : frcL l k = k l := by
  induction l generalizing k with
  | nil => rfl
  | cons v r ih =>
    show frc1 v (fun v => frcL r fun r => k (v :: r)) = _
    rw [frc1_eq, ih]
theorem frcV1_eq (v : Value) (k : Value → β) : frcV1 v k = k v := by
  cases v <;> simp only [frcV1, frcB_eq, frcI_eq, frcA_eq, frcN_eq, frcL_eq]
@[simp] theorem frcV_eq (b : Bool) (v : Value) (k : Value → β) : frcV b v k = k v := by
  cases b
  · rfl
  · exact frcV1_eq v k
theorem frcVL_eq (l : List Value) (k : List Value → β) : frcVL l k = k l := by
  induction l generalizing k with
  | nil => rfl
  | cons v r ih =>
    show frcV1 v (fun v => frcVL r fun r => k (v :: r)) = _
    rw [frcV1_eq, ih]
@[simp] theorem frcS_eq (b : Bool) (l : List Value) (k : List Value → β) : frcS b l k = k l := by
  cases b
  · rfl
  · exact frcVL_eq l k
theorem frcE_eq (l : List (Value × Value)) (k : List (Value × Value) → β) : frcE l k = k l := by
  induction l generalizing k with
  | nil => rfl
  | cons e r ih =>
    obtain ⟨x, y⟩ := e
    show frcV1 x (fun x => frcV1 y fun y => frcE r fun r => k ((x, y) :: r)) = _
    rw [frcV1_eq, frcV1_eq, ih]
@[simp] theorem frcO_eq (b : Bool) (o : AObj) (k : AObj → β) : frcO b o k = k o := by
  cases b
  · rfl
  · cases o <;> simp only [frcO, frcL_eq, frcE_eq]
@[simp] theorem frcH_eq (b : Bool) (h : AHeap) (k : AHeap → β) : frcH b h k = k h := by
  cases b
  · rfl
  · obtain ⟨bs, t, n, d⟩ := h
    cases t <;> simp only [frcH, frcN_eq]
end

/-! ### Tries -/
namespace Tr
variable {α : Type}
theorem get_lf (n : Nat) : (lf : Tr α).get n = none := rfl
theorem get_nd (v : Option α) (l r : Tr α) (n : Nat) :
    (nd v l r).get n = bif Nat.beq n 0 then v else bif Nat.beq (Nat.mod n 2) 1 then l.get (Nat.div n 2) else r.get (Nat.sub (Nat.div n 2) 1) := rfl
def set0 : Nat → Tr α → Nat → Option α → Tr α
  | 0, t, _, _ => t
  | _ + 1, .lf, 0, o => .nd o .lf .lf
  | f + 1, .lf, n + 1, o => bif Nat.beq (Nat.mod (n + 1) 2) 1 then .nd none (set0 f .lf (Nat.div (n + 1) 2) o) .lf else .nd none .lf (set0 f .lf (Nat.sub (Nat.div (n + 1) 2) 1) o)
  | _ + 1, .nd _ l r, 0, o => .nd o l r
  | f + 1, .nd v l r, n + 1, o => bif Nat.beq (Nat.mod (n + 1) 2) 1 then .nd v (set0 f l (Nat.div (n + 1) 2) o) r else .nd v l (set0 f r (Nat.sub (Nat.div (n + 1) 2) 1) o)
theorem setK_eq0 {β : Sort u} (f : Nat) : ∀ (t : Tr α) (n : Nat) (o : Option α) (k : Tr α → β), setK f t n o k = k (set0 f t n o) := by
  induction f with
  | zero => intros; rfl
  | succ f ih =>
    intro t n o k
    cases t with
    | lf =>
      cases n with
      | zero => rfl
      | succ n =>
        show (bif Nat.beq (Nat.mod (n + 1) 2) 1 then setK f .lf _ o _ else setK f .lf _ o _) = k (bif Nat.beq (Nat.mod (n + 1) 2) 1 then _ else _)
        cases Nat.beq (Nat.mod (n + 1) 2) 1
        · simp only [cond_false]; rw [ih]
        · simp only [cond_true]; rw [ih]
    | nd v l r =>
      cases n with
      | zero => rfl
      | succ n =>
        show (bif Nat.beq (Nat.mod (n + 1) 2) 1 then setK f l _ o _ else setK f r _ o _) = k (bif Nat.beq (Nat.mod (n + 1) 2) 1 then _ else _)
        cases Nat.beq (Nat.mod (n + 1) 2) 1
        · simp only [cond_false]; rw [ih]
        · simp only [cond_true]; rw [ih]
theorem setK_eq {β : Sort u} (f : Nat) (t : Tr α) (n : Nat) (o : Option α) (k : Tr α → β) : setK f t n o k = k (setK f t n o fun t => t) := by
  rw [setK_eq0, setK_eq0]
theorem get_setK (f : Nat) : ∀ (t : Tr α) (n : Nat) (o : Option α) (m : Nat), n < f → (setK f t n o fun t => t).get m = if m = n then o else t.get m := by
  induction f with
  | zero => intro t n o m h; omega
  | succ f ih =>
    intro t n o m h
    have hb : ∀ k, Nat.beq k 0 = decide (k = 0) := fun k => by
      cases hk : Nat.beq k 0
      · exact (decide_eq_false (fun e => by subst e; cases hk)).symm
      · exact (decide_eq_true (Nat.eq_of_beq_eq_true hk)).symm
    have hm : ∀ k, Nat.beq (Nat.mod k 2) 1 = decide (k % 2 = 1) := fun k => by
      show Nat.beq (k % 2) 1 = _
      cases hk : Nat.beq (k % 2) 1
      · exact (decide_eq_false (fun e => by rw [e] at hk; cases hk)).symm
      · exact (decide_eq_true (Nat.eq_of_beq_eq_true hk)).symm
    have key : ∀ (v : Option α) (l r : Tr α),
        (bif Nat.beq n 0 then nd o l r else bif Nat.beq (Nat.mod n 2) 1 then setK f l (Nat.div n 2) o (fun t => nd v t r) else setK f r (Nat.sub (Nat.div n 2) 1) o (fun t => nd v l t)).get m
          = if m = n then o else (nd v l r).get m := by
      intro v l r
      rw [hb, hm]
      by_cases h0 : n = 0
      · subst h0
        simp only [decide_true, cond_true, get_nd, hb]
        by_cases hm0 : m = 0 <;> simp [hm0]
      · rw [decide_eq_false h0]
        simp only [cond_false]
        by_cases h1 : n % 2 = 1
        · rw [decide_eq_true h1]
          simp only [cond_true]
          rw [setK_eq, get_nd, get_nd, hb, hm]
          by_cases hm0 : m = 0
          · subst hm0; simp; intro e; omega
          · rw [decide_eq_false hm0]
            simp only [cond_false]
            by_cases hm1 : m % 2 = 1
            · rw [decide_eq_true hm1]
              simp only [cond_true]
              rw [ih _ _ _ _ (by show n / 2 < f; omega)]
              show (if m / 2 = n / 2 then _ else _) = _
              by_cases e : m = n
              · simp [e]
              · rw [if_neg e, if_neg (by omega)]
            · rw [decide_eq_false hm1]
              simp only [cond_false]
              rw [if_neg (by intro e; subst e; exact hm1 h1)]
        · rw [decide_eq_false h1]
          simp only [cond_false]
          rw [setK_eq, get_nd, get_nd, hb, hm]
          by_cases hm0 : m = 0
          · subst hm0; simp; intro e; omega
          · rw [decide_eq_false hm0]
            simp only [cond_false]
            by_cases hm1 : m % 2 = 1
            · rw [decide_eq_true hm1]
              simp only [cond_true]
              rw [if_neg (by intro e; subst e; exact h1 hm1)]
            · rw [decide_eq_false hm1]
              simp only [cond_false]
              rw [ih _ _ _ _ (by show n / 2 - 1 < f; omega)]
              show (if m / 2 - 1 = n / 2 - 1 then _ else _) = _
              by_cases e : m = n
              · simp [e]
              · rw [if_neg e, if_neg (by omega)]
    cases t with
    | lf =>
      have := key none lf lf
      rw [show (nd (none : Option α) lf lf).get m = (lf : Tr α).get m from by simp only [get_nd, get_lf]; cases Nat.beq m 0 <;> cases Nat.beq (Nat.mod m 2) 1 <;> rfl] at this
      exact this
    | nd v l r => exact key v l r
@[simp] theorem get_set (t : Tr α) (n : Nat) (o : Option α) (m : Nat) : (t.set n o).get m = if m = n then o else t.get m :=
  get_setK _ t n o m (by omega)
end Tr

/-! ### The heap's own laws -/
namespace AHeap
@[simp] theorem get_put (b : Bool) (h : AHeap) (k : Nat) (o : AObj) (m : Nat) : (h.put b k o).get m = if m = k then some o else h.get m := by
  obtain ⟨bs, t, n, d⟩ := h
  simp [put, get]
@[simp] theorem get_del (h : AHeap) (k m : Nat) : (h.del k).get m = if m = k then none else h.get m := by
  obtain ⟨bs, t, n, d⟩ := h
  simp [del, get]
@[simp] theorem get_add (b : Bool) (h : AHeap) (o : AObj) (m : Nat) : (h.add b o).get m = if m = h.next then some o else h.get m := by
  obtain ⟨bs, t, n, d⟩ := h
  simp [add, get]
@[simp] theorem get_drew (h : AHeap) (m : Nat) : h.drew.get m = h.get m := rfl
@[simp] theorem next_put (b : Bool) (h : AHeap) (k : Nat) (o : AObj) : (h.put b k o).next = h.next := by obtain ⟨bs, t, n, d⟩ := h; simp [put]
@[simp] theorem next_del (h : AHeap) (k : Nat) : (h.del k).next = h.next := rfl
@[simp] theorem next_add (b : Bool) (h : AHeap) (o : AObj) : (h.add b o).next = h.next + 1 := by obtain ⟨bs, t, n, d⟩ := h; simp [add]
@[simp] theorem next_drew (h : AHeap) : h.drew.next = h.next := rfl
@[simp] theorem base_put (b : Bool) (h : AHeap) (k : Nat) (o : AObj) : (h.put b k o).base = h.base := by obtain ⟨bs, t, n, d⟩ := h; simp [put]
@[simp] theorem base_del (h : AHeap) (k : Nat) : (h.del k).base = h.base := rfl
@[simp] theorem base_add (b : Bool) (h : AHeap) (o : AObj) : (h.add b o).base = h.base := by obtain ⟨bs, t, n, d⟩ := h; simp [add]
@[simp] theorem base_drew (h : AHeap) : h.drew.base = h.base := rfl
end AHeap

/-! ### Slots -/
def ix : Pa → Nat
  | .z => 0
  | .l p => 2 * ix p + 1
  | .r p => 2 * ix p + 2
theorem ix_inj : ∀ {p q : Pa}, ix p = ix q → p = q
  | .z, .z, _ => rfl
  | .z, .l q, h => by simp [ix] at h
  | .z, .r q, h => by simp [ix] at h
  | .l p, .z, h => by simp [ix] at h
  | .l p, .l q, h => by simp only [ix] at h; rw [ix_inj (show ix p = ix q by omega)]
  | .l p, .r q, h => by simp only [ix] at h; omega
  | .r p, .z, h => by simp [ix] at h
  | .r p, .l q, h => by simp only [ix] at h; omega
  | .r p, .r q, h => by simp only [ix] at h; rw [ix_inj (show ix p = ix q by omega)]
def setS0 : Pa → Slots → Value → Slots
  | .z, .nd _ l r, v => .nd v l r
  | .l p, .nd x l r, v => .nd x (setS0 p l v) r
  | .r p, .nd x l r, v => .nd x l (setS0 p r v)
  | .z, .lf, v => .nd v .lf .lf
  | .l p, .lf, v => .nd undef (setS0 p .lf v) .lf
  | .r p, .lf, v => .nd undef .lf (setS0 p .lf v)
theorem setK_eq0 {β : Sort u} (p : Pa) : ∀ (s : Slots) (v : Value) (k : Slots → β), setK p s v k = k (setS0 p s v) := by
  induction p with
  | z => intro s v k; cases s <;> rfl
  | l p ih =>
    intro s v k
    cases s with
    | lf => exact ih .lf v fun l => k (.nd undef l .lf)
    | nd x l r => exact ih l v fun l => k (.nd x l r)
  | r p ih =>
    intro s v k
    cases s with
    | lf => exact ih .lf v fun r => k (.nd undef .lf r)
    | nd x l r => exact ih r v fun r => k (.nd x l r)
theorem setS_eq0 (p : Pa) (s : Slots) (v : Value) : setS p s v = setS0 p s v := setK_eq0 p s v fun s => s
theorem setK_eq {β : Sort u} (p : Pa) (s : Slots) (v : Value) (k : Slots → β) : setK p s v k = k (setS p s v) := by rw [setK_eq0, setS_eq0]
theorem setS_l (p : Pa) (x : Value) (l r : ST) (v : Value) : setS (.l p) (.nd x l r) v = .nd x (setS p l v) r := by
  show setK p l v (fun l => ST.nd x l r) = _; rw [setK_eq]
theorem setS_r (p : Pa) (x : Value) (l r : ST) (v : Value) : setS (.r p) (.nd x l r) v = .nd x l (setS p r v) := by
  show setK p r v (fun r => ST.nd x l r) = _; rw [setK_eq]
theorem setS_l0 (p : Pa) (v : Value) : setS (.l p) .lf v = .nd undef (setS p .lf v) .lf := by
  show setK p .lf v (fun l => ST.nd undef l .lf) = _; rw [setK_eq]
theorem setS_r0 (p : Pa) (v : Value) : setS (.r p) .lf v = .nd undef .lf (setS p .lf v) := by
  show setK p .lf v (fun r => ST.nd undef .lf r) = _; rw [setK_eq]
theorem getS_lf (p : Pa) : getS p .lf = undef := by cases p <;> rfl
theorem getS_setS (p : Pa) : ∀ (s : Slots) (v : Value) (q : Pa), getS q (setS p s v) = if q = p then v else getS q s := by
  induction p with
  | z =>
    intro s v q
    cases s <;> cases q <;> simp [setS, setK, getS] <;> (try rfl)
    all_goals first | exact getS_lf _ | rfl
  | l p ih =>
    intro s v q
    cases s with
    | lf =>
      rw [setS_l0]
      cases q with
      | z => simp; rfl
      | l q => show getS q (setS p .lf v) = _; rw [ih]; simp [getS_lf]
      | r q => show getS q .lf = _; simp [getS_lf]
    | nd x l r =>
      rw [setS_l]
      cases q with
      | z => simp; rfl
      | l q => show getS q (setS p l v) = _; rw [ih]; simp; rfl
      | r q => show getS q r = _; simp; rfl
  | r p ih =>
    intro s v q
    cases s with
    | lf =>
      rw [setS_r0]
      cases q with
      | z => simp; rfl
      | l q => show getS q .lf = _; simp [getS_lf]
      | r q => show getS q (setS p .lf v) = _; rw [ih]; simp [getS_lf]
    | nd x l r =>
      rw [setS_r]
      cases q with
      | z => simp; rfl
      | l q => show getS q l = _; simp; rfl
      | r q => show getS q (setS p r v) = _; rw [ih]; simp; rfl
theorem setO_eq {β : Sort u} (d : Option Pa) (s : Slots) (v : Value) (k : Slots → β) : setO d s v k = k (setO d s v fun s => s) := by
  cases d with
  | none => rfl
  | some p => exact setK_eq p s v k

/-! ### Values -/
structure Place where
  b : Nat
  off : Nat
  ext : Nat
abbrev Inj := Nat → Option Place

def AddrR (J : Inj) (a a' : Addr) : Prop :=
  match a.spot with
  | none => a' = a
  | some _ => ∃ pl, J a.block = some pl ∧ a' = ⟨pl.b, pl.off + a.off, none⟩
def SlR (J : Inj) (a : Addr) (c : Nat) (a' : Addr) (c' : Nat) : Prop :=
  match a.spot with
  | none => c' = c ∧ (c = 0 ∨ a' = a)
  | some u => ∃ pl, J a.block = some pl ∧ c ≤ c' ∧ (c' = 0 ∨ a' = ⟨pl.b, pl.off + a.off, none⟩) ∧ (c' = c ∨ (u ≠ 0 ∧ a.off + c' * u ≤ pl.ext))

inductive VR (J : Inj) : Value → Value → Prop
  | undef (v : Value) : VR J undef v
  | skip : VR J skipV undef
  | bool (b : Bool) : VR J (.bool b) (.bool b)
  | int (k : IntKind) (n : Int) : VR J (.int k n) (.int k n)
  | string (s : ByteArray) : VR J (.string s) (.string s)
  | ptrN : VR J (.pointer none) (.pointer none)
  | ptr {a a' : Addr} : AddrR J a a' → VR J (.pointer (some a)) (.pointer (some a'))
  | slN (l c : Nat) : VR J (.slice none l c) (.slice none l c)
  | sl {a a' : Addr} {c c' : Nat} (l : Nat) : l ≤ c → SlR J a c a' c' → VR J (.slice (some a) l c) (.slice (some a') l c')
  | mapN : VR J (.map none) (.map none)
  | map {r : Nat} {pl : Place} : J r = some pl → VR J (.map (some r)) (.map (some pl.b))
  | nilFunc : VR J .nilFunc .nilFunc
  | nilIface : VR J .nilIface .nilIface
  | agg {xs ys : List Value} : xs.length = ys.length → (∀ (i : Nat) x y, xs[i]? = some x → ys[i]? = some y → VR J x y) → VR J (.agg xs.toArray) (.agg ys.toArray)
  | tuple {xs ys : List Value} : xs.length = ys.length → (∀ (i : Nat) x y, xs[i]? = some x → ys[i]? = some y → VR J x y) → VR J (.tuple xs.toArray) (.tuple ys.toArray)
  | func (f : FuncId) {xs ys xs' ys' : List Value} : xs.length = xs'.length → (∀ (i : Nat) x y, xs[i]? = some x → xs'[i]? = some y → VR J x y) →
      ys.length = ys'.length → (∀ (i : Nat) x y, ys[i]? = some x → ys'[i]? = some y → VR J x y) → VR J (.func (.func f) xs.toArray ys.toArray) (.func (.func f) xs'.toArray ys'.toArray)
  | yield {l : Nat} {pl : Place} : J l = some pl → VR J (.func (.yield l) #[] #[]) (.func (.yield pl.b) #[] #[])

def Inj.le (J J' : Inj) : Prop := ∀ k pl, J k = some pl → J' k = some pl
theorem Inj.le_refl (J : Inj) : J.le J := fun _ _ h => h
theorem Inj.le_trans {J J' J'' : Inj} (h : J.le J') (h' : J'.le J'') : J.le J'' := fun k pl hk => h' k pl (h k pl hk)
theorem AddrR.mono {J J' : Inj} (h : J.le J') {a a' : Addr} (r : AddrR J a a') : AddrR J' a a' := by
  unfold AddrR at *
  cases hs : a.spot with
  | none => simpa [hs] using r
  | some t => simp only [hs] at r ⊢; obtain ⟨pl, hp, e⟩ := r; exact ⟨pl, h _ _ hp, e⟩
theorem SlR.mono {J J' : Inj} (h : J.le J') {a a' : Addr} {c c' : Nat} (r : SlR J a c a' c') : SlR J' a c a' c' := by
  unfold SlR at *
  cases hs : a.spot with
  | none => simpa [hs] using r
  | some t => simp only [hs] at r ⊢; obtain ⟨pl, hp, e⟩ := r; exact ⟨pl, h _ _ hp, e⟩
theorem VR.mono {J J' : Inj} (h : J.le J') {v v' : Value} (r : VR J v v') : VR J' v v' := by
  induction r with
  | undef v => exact .undef v
  | skip => exact .skip
  | bool b => exact .bool b
  | int k n => exact .int k n
  | string s => exact .string s
  | ptrN => exact .ptrN
  | ptr r => exact .ptr (r.mono h)
  | slN l c => exact .slN l c
  | sl l hl r => exact .sl l hl (r.mono h)
  | mapN => exact .mapN
  | map hr => exact .map (h _ _ hr)
  | nilFunc => exact .nilFunc
  | nilIface => exact .nilIface
  | agg hl _ ih => exact .agg hl ih
  | tuple hl _ ih => exact .tuple hl ih
  | func f h1 _ h2 _ i1 i2 => exact .func f h1 i1 h2 i2
  | yield hr => exact .yield (h _ _ hr)

/-- Lists of values, element by element. -/
def LR (J : Inj) (xs ys : List Value) : Prop := xs.length = ys.length ∧ ∀ (i : Nat) x y, xs[i]? = some x → ys[i]? = some y → VR J x y
theorem LR.mono {J J' : Inj} (h : J.le J') {xs ys : List Value} (r : LR J xs ys) : LR J' xs ys := ⟨r.1, fun i x y hx hy => (r.2 i x y hx hy).mono h⟩
theorem LR.nil (J : Inj) : LR J [] [] := ⟨rfl, fun i x y hx => by simp at hx⟩
theorem LR.cons {J : Inj} {x y : Value} {xs ys : List Value} (h : VR J x y) (r : LR J xs ys) : LR J (x :: xs) (y :: ys) :=
  ⟨by simp [r.1], fun i a b ha hb => by
    cases i with
    | zero => simp at ha hb; subst ha hb; exact h
    | succ i => exact r.2 i a b (by simpa using ha) (by simpa using hb)⟩
theorem LR.head {J : Inj} {x y : Value} {xs ys : List Value} (r : LR J (x :: xs) (y :: ys)) : VR J x y := r.2 0 x y rfl rfl
theorem LR.tail {J : Inj} {x y : Value} {xs ys : List Value} (r : LR J (x :: xs) (y :: ys)) : LR J xs ys :=
  ⟨by have := r.1; simpa using this, fun i a b ha hb => r.2 (i + 1) a b (by simpa using ha) (by simpa using hb)⟩
theorem LR.append {J : Inj} {xs ys xs' ys' : List Value} (r : LR J xs ys) (r' : LR J xs' ys') : LR J (xs ++ xs') (ys ++ ys') := by
  induction xs generalizing ys with
  | nil =>
    have : ys = [] := by have := r.1; simp at this; simpa using this.symm
    subst this; exact r'
  | cons x xs ih =>
    cases ys with
    | nil => have := r.1; simp at this
    | cons y ys => exact .cons r.head (ih r.tail)
theorem LR.take {J : Inj} {xs ys : List Value} (r : LR J xs ys) (n : Nat) : LR J (xs.take n) (ys.take n) :=
  ⟨by simp [r.1], fun i a b ha hb => by
    rw [List.getElem?_take] at ha hb
    split at ha
    · rename_i h; rw [if_pos h] at hb; exact r.2 i a b ha hb
    · cases ha⟩
theorem LR.drop {J : Inj} {xs ys : List Value} (r : LR J xs ys) (n : Nat) : LR J (xs.drop n) (ys.drop n) :=
  ⟨by simp [r.1], fun i a b ha hb => by rw [List.getElem?_drop] at ha hb; exact r.2 _ a b ha hb⟩
theorem LR.get {J : Inj} {xs ys : List Value} (r : LR J xs ys) {i : Nat} {x : Value} (h : xs[i]? = some x) : ∃ y, ys[i]? = some y ∧ VR J x y := by
  have hi : i < ys.length := by rw [← r.1]; exact (List.getElem?_eq_some_iff.1 h).1
  exact ⟨ys[i], List.getElem?_eq_getElem hi, r.2 i _ _ h (List.getElem?_eq_getElem hi)⟩
theorem VR.aggL {J : Inj} {xs ys : List Value} (r : LR J xs ys) : VR J (.agg xs.toArray) (.agg ys.toArray) := .agg r.1 r.2
theorem VR.tupleL {J : Inj} {xs ys : List Value} (r : LR J xs ys) : VR J (.tuple xs.toArray) (.tuple ys.toArray) := .tuple r.1 r.2
end Go.Ab

/- The evaluator's heap against the model's world: what a step may change. -/
namespace Go.Ab
universe u

/-! ### What the text says, against what is evaluated: data -/
def bytesEq (a b : ByteArray) : Bool := a.data.toList == b.data.toList
def plain1 : Value → Value → Bool
  | .bool a, .bool b => a == b
  | .int k a, .int k' b => k == k' && a == b
  | .string a, .string b => bytesEq a b
  | .pointer none, .pointer none => true
  | .slice none l c, .slice none l' c' => l == l' && c == c'
  | .map none, .map none => true
  | .nilFunc, .nilFunc => true
  | .nilIface, .nilIface => true
  | _, _ => false
def plainL : List Value → List Value → Bool
  | [], [] => true
  | x :: xs, y :: ys => plain1 x y && plainL xs ys
  | _, _ => false
/-- A constant of the text (first) is the evaluator's (second). -/
def plain : Value → Value → Bool
  | .agg xs, .agg ys => plainL xs.toList ys.toList
  | .tuple xs, .tuple ys => plainL xs.toList ys.toList
  | x, y => plain1 x y
theorem bytesEq_sound {a b : ByteArray} (h : bytesEq a b = true) : a = b := by
  simp only [bytesEq, beq_iff_eq] at h
  obtain ⟨a⟩ := a
  obtain ⟨b⟩ := b
  simp only at h
  have : a = b := by rw [← Array.toArray_toList (xs := a), h, Array.toArray_toList]
  rw [this]
theorem plain1_sound {x y : Value} (h : plain1 x y = true) (J : Inj) : x = y ∧ VR J y x := by
  unfold plain1 at h
  split at h
  · have := eq_of_beq h; subst this; exact ⟨rfl, .bool _⟩
  · rw [Bool.and_eq_true] at h; have h1 := eq_of_beq h.1; have h2 := eq_of_beq h.2; subst h1; subst h2; exact ⟨rfl, .int _ _⟩
  · have := bytesEq_sound h; subst this; exact ⟨rfl, .string _⟩
  · exact ⟨rfl, .ptrN⟩
  · rw [Bool.and_eq_true] at h; have h1 := eq_of_beq h.1; have h2 := eq_of_beq h.2; subst h1; subst h2; exact ⟨rfl, .slN _ _⟩
  · exact ⟨rfl, .mapN⟩
  · exact ⟨rfl, .nilFunc⟩
  · exact ⟨rfl, .nilIface⟩
  · cases h
theorem plainL_sound : ∀ {xs ys : List Value}, plainL xs ys = true → ∀ J : Inj, xs = ys ∧ LR J ys xs
  | [], [], _, J => ⟨rfl, .nil J⟩
  | [], _ :: _, h, _ => by simp [plainL] at h
  | _ :: _, [], h, _ => by simp [plainL] at h
  | x :: xs, y :: ys, h, J => by
    simp only [plainL, Bool.and_eq_true] at h
    obtain ⟨e1, r1⟩ := plain1_sound h.1 J
    obtain ⟨e2, r2⟩ := plainL_sound h.2 J
    exact ⟨by rw [e1, e2], .cons r1 r2⟩
theorem plain_sound {x y : Value} (h : plain x y = true) (J : Inj) : VR J y x := by
  unfold plain at h
  split at h
  · rename_i xs ys
    have := (plainL_sound h J).2
    have h1 : VR J (.agg ys.toList.toArray) (.agg xs.toList.toArray) := .aggL this
    simpa using h1
  · rename_i xs ys
    have := (plainL_sound h J).2
    have h1 : VR J (.tuple ys.toList.toArray) (.tuple xs.toList.toArray) := .tupleL this
    simpa using h1
  · exact (plain1_sound h J).2

/-! ### Slots -/
def SR (J : Inj) (nt : Nat) (s : Slots) (tmps : Array Value) : Prop :=
  tmps.size = nt ∧ ∀ p, ix p < nt → VR J (getS p s) (tmps.getD (ix p) undef)
theorem SR.mono {J J' : Inj} (h : J.le J') {nt : Nat} {s : Slots} {t : Array Value} (r : SR J nt s t) : SR J' nt s t := ⟨r.1, fun p hp => (r.2 p hp).mono h⟩
theorem SR.set {J : Inj} {nt : Nat} {s : Slots} {t : Array Value} (r : SR J nt s t) {v v' : Value} (h : VR J v v') (p : Pa) :
    SR J nt (setS p s v) (t.setIfInBounds (ix p) v') := by
  refine ⟨by simp [r.1], fun q hq => ?_⟩
  rw [getS_setS]
  by_cases e : q = p
  · subst e
    rw [if_pos rfl]
    have : (t.setIfInBounds (ix q) v').getD (ix q) undef = v' := by
      simp only [Array.getD_eq_getD_getElem?, Array.getElem?_setIfInBounds]
      simp [r.1, hq]
    rw [this]; exact h
  · rw [if_neg e]
    have hne : ix q ≠ ix p := fun e' => e (ix_inj e')
    have : (t.setIfInBounds (ix p) v').getD (ix q) undef = t.getD (ix q) undef := by
      simp only [Array.getD_eq_getD_getElem?, Array.getElem?_setIfInBounds]
      rw [if_neg (fun e' => hne e'.symm)]
    rw [this]; exact r.2 q hq
theorem SR.kill {J : Inj} {nt : Nat} {s : Slots} {t : Array Value} (r : SR J nt s t) (p : Pa) : SR J nt (setS p s undef) t := by
  refine ⟨r.1, fun q hq => ?_⟩
  rw [getS_setS]
  split
  · exact .undef _
  · exact r.2 q hq

/-! ### The heap -/
section
variable (OK : Nat → Code → ACode → Prop)
def PendR : Option Code → Option ACode → Prop
  | none, none => True
  | some .ret, some .ret => True
  | some (.exit i), some (.exit j) => i = j
  | _, _ => False
def ObjR (J : Inj) : AObj → Place → Obj → Prop
  | .cells c, pl, .cells arr _ fz => fz = (0, 0) ∧ c.length ≤ pl.ext ∧ pl.off + pl.ext ≤ arr.size ∧
      ∀ (i : Nat) v, c[i]? = some v → ∃ v', arr[pl.off + i]? = some v' ∧ VR J v v'
  | .map es, pl, .map ents clock => pl.off = 0 ∧ es.length = ents.size ∧ (∀ (i : Nat) k v, es[i]? = some (k, v) → ∃ e, ents[i]? = some e ∧ VR J k e.key ∧ VR J v e.val) ∧
      (∀ (i : Nat) e, ents[i]? = some e → e.born < clock)
  | .siter s pos, pl, .stringIter s' pos' => pl.off = 0 ∧ s = s' ∧ pos = pos'
  | .loop st pend tmps ps asg body, pl, .loop L => pl.off = 0 ∧ L.state = st ∧ PendR L.pending pend ∧ ps.map ix = L.params.toList ∧
      ∃ nt, SR J nt tmps L.tmps ∧ OK nt L.assign asg ∧ OK nt L.body body ∧ (∀ p ∈ ps, ix p < nt)
  | _, _, _ => False
theorem ObjR.mono {J J' : Inj} (h : J.le J') {o : AObj} {pl : Place} {ob : Obj} (r : ObjR OK J o pl ob) : ObjR OK J' o pl ob := by
  cases o <;> cases ob <;> simp only [ObjR] at r ⊢
  · obtain ⟨h1, h3, h4, h5⟩ := r
    exact ⟨h1, h3, h4, fun i v hv => let ⟨v', a, b⟩ := h5 i v hv; ⟨v', a, b.mono h⟩⟩
  · obtain ⟨h1, h2, h3, h4⟩ := r
    exact ⟨h1, h2, fun i k v hv => let ⟨e, a, b, c⟩ := h3 i k v hv; ⟨e, a, b.mono h, c.mono h⟩, h4⟩
  · exact r
  · obtain ⟨h1, h2, h3, h4, nt, h5, h6⟩ := r
    exact ⟨h1, h2, h3, h4, nt, h5.mono h, h6⟩

structure Sim (J : Inj) (h : AHeap) (w : World) : Prop where
  base : ∀ b c, h.base b = some c → ∃ arr e fz, w.heap[b]? = some (.cells arr e fz) ∧ ∀ (i : Nat) v, c[i]? = some v → ∃ v', arr[i]? = some v' ∧ VR J v v'
  obj : ∀ k o, h.get k = some o → k < h.next ∧ ∃ pl ob, J k = some pl ∧ w.heap[pl.b]? = some ob ∧ ObjR OK J o pl ob
  inj : ∀ k k' o o' pl pl', h.get k = some o → h.get k' = some o' → J k = some pl → J k' = some pl' → pl.b = pl'.b → k = k'
  apart : ∀ k o pl, h.get k = some o → J k = some pl → h.base pl.b = none

def Live (J : Inj) (h : AHeap) (b : Nat) : Prop := ∃ k o pl, h.get k = some o ∧ J k = some pl ∧ pl.b = b
def Free (J : Inj) (a b : Nat) : Prop := ∀ k, a ≤ k → k < b → J k = none

structure Next (J : Inj) (h : AHeap) (w : World) (J' : Inj) (h' : AHeap) (w' : World) : Prop where
  sim : Sim OK J' h' w'
  le : J.le J'
  base : h'.base = h.base
  next : h.next ≤ h'.next
  same : ∀ k, h'.next ≤ k → J' k = J k
  os : w'.os = w.os
  tape : w'.tape = w.tape
  output : w'.output = w.output
  size : w.heap.size ≤ w'.heap.size
  keep : ∀ b, b < w.heap.size → ¬Live J h b → w'.heap[b]? = w.heap[b]?
  came : ∀ b, Live J' h' b → w.heap.size ≤ b ∨ Live J h b

variable {OK}
theorem Sim.live_lt {J : Inj} {h : AHeap} {w : World} (s : Sim OK J h w) {b : Nat} (l : Live J h b) : b < w.heap.size := by
  obtain ⟨k, o, pl, hk, hj, rfl⟩ := l
  obtain ⟨_, pl', ob, hj', hb, _⟩ := s.obj k o hk
  rw [hj] at hj'; cases hj'
  exact (Array.getElem?_eq_some_iff.1 hb).1
theorem Next.refl {J : Inj} {h : AHeap} {w : World} (s : Sim OK J h w) : Next OK J h w J h w :=
  ⟨s, J.le_refl, rfl, Nat.le_refl _, fun _ _ => rfl, rfl, rfl, rfl, Nat.le_refl _, fun _ _ _ => rfl, fun _ l => .inr l⟩
theorem Next.trans {J J1 J2 : Inj} {h h1 h2 : AHeap} {w w1 w2 : World} (a : Next OK J h w J1 h1 w1) (b : Next OK J1 h1 w1 J2 h2 w2) : Next OK J h w J2 h2 w2 :=
  ⟨b.sim, Inj.le_trans a.le b.le, b.base.trans a.base, Nat.le_trans a.next b.next, fun k hk => (b.same k hk).trans (a.same k (Nat.le_trans b.next hk)),
    b.os.trans a.os, b.tape.trans a.tape, b.output.trans a.output, Nat.le_trans a.size b.size,
    fun k hk hl => (b.keep k (Nat.lt_of_lt_of_le hk a.size) (fun l => by
      rcases a.came k l with h | h
      · omega
      · exact hl h)).trans (a.keep k hk hl),
    fun k l => by
      rcases b.came k l with h | h
      · exact .inl (Nat.le_trans a.size h)
      · exact a.came k h⟩
theorem Free.mono {J : Inj} {a b a' b' : Nat} (f : Free J a b) (h : a ≤ a') (h' : b' ≤ b) : Free J a' b' := fun k h1 h2 => f k (Nat.le_trans h h1) (Nat.lt_of_lt_of_le h2 h')
theorem Next.free {J J1 : Inj} {h h1 : AHeap} {w w1 : World} (a : Next OK J h w J1 h1 w1) {n : Nat} (f : Free J h.next n) : Free J1 h1.next n :=
  fun k h1 h2 => (a.same k h1).trans (f k (Nat.le_trans a.next h1) h2)

def Fresh (J : Inj) (h : AHeap) : Prop := ∀ k, h.next ≤ k → J k = none
theorem Next.fresh {J J1 : Inj} {h h1 : AHeap} {w w1 : World} (a : Next OK J h w J1 h1 w1) (f : Fresh J h) : Fresh J1 h1 :=
  fun k hk => (a.same k hk).trans (f k (Nat.le_trans a.next hk))
def Inj.upd (J : Inj) (k : Nat) (pl : Place) : Inj := fun m => if m = k then some pl else J m
theorem Inj.le_upd {J : Inj} {k : Nat} {pl : Place} (h : J k = none) : J.le (J.upd k pl) := fun m p hm => by
  unfold Inj.upd
  by_cases e : m = k
  · subst e; rw [h] at hm; cases hm
  · rw [if_neg e]; exact hm
theorem Inj.upd_same (J : Inj) (k : Nat) (pl : Place) : (J.upd k pl) k = some pl := by simp [Inj.upd]
theorem Inj.upd_ne (J : Inj) {k m : Nat} (pl : Place) (h : m ≠ k) : (J.upd k pl) m = J m := by simp [Inj.upd, h]

/-- A new object. -/
theorem Next.alloc {J : Inj} {h : AHeap} {w : World} (s : Sim OK J h w) (b : Bool) (o : AObj) (ob : Obj) (pl : Place) (hb : pl.b = w.heap.size) (f : J h.next = none)
    (hr : ObjR OK (J.upd h.next pl) o pl ob) : Next OK J h w (J.upd h.next pl) (h.add b o) (w.alloc ob) := by
  have hle : J.le (J.upd h.next pl) := Inj.le_upd f
  have hold : ∀ k, k < w.heap.size → (w.alloc ob).heap[k]? = w.heap[k]? := fun k hk => RowKit.Below.heap_alloc w ob k hk
  have hnew : (w.alloc ob).heap[w.heap.size]? = some ob := by show (w.heap.push ob)[w.heap.size]? = _; simp
  have hlt : ∀ k o', h.get k = some o' → k ≠ h.next := fun k o' hk e => by have := (s.obj k o' hk).1; omega
  refine ⟨⟨?_, ?_, ?_, ?_⟩, hle, by simp, by simp, fun k hk => ?_, rfl, rfl, rfl, by simp, fun k hk _ => hold k hk, ?_⟩
  · intro k c hc
    obtain ⟨arr, e, fz, h1, h2⟩ := s.base k c (by simpa using hc)
    exact ⟨arr, e, fz, (hold k (Array.getElem?_eq_some_iff.1 h1).1).trans h1, fun i v hv => let ⟨v', a, b⟩ := h2 i v hv; ⟨v', a, b.mono hle⟩⟩
  · intro k o' hk
    rw [AHeap.get_add] at hk
    by_cases e : k = h.next
    · rw [if_pos e] at hk; cases hk; subst e
      exact ⟨by simp, pl, ob, Inj.upd_same _ _ _, by rw [hb]; exact hnew, hr⟩
    · rw [if_neg e] at hk
      obtain ⟨h1, pl', ob', h2, h3, h4⟩ := s.obj k o' hk
      exact ⟨by simp; omega, pl', ob', (Inj.upd_ne _ _ e).trans h2, (hold _ (Array.getElem?_eq_some_iff.1 h3).1).trans h3, ObjR.mono OK hle h4⟩
  · intro k k' o1 o2 p1 p2 h1 h2 j1 j2 hp
    rw [AHeap.get_add] at h1 h2
    by_cases e1 : k = h.next
    · by_cases e2 : k' = h.next
      · rw [e1, e2]
      · exfalso
        rw [if_neg e2] at h2
        rw [e1, Inj.upd_same] at j1; cases j1
        rw [Inj.upd_ne _ _ e2] at j2
        have := s.live_lt (b := p2.b) ⟨k', o2, p2, h2, j2, rfl⟩
        omega
    · rw [if_neg e1] at h1
      rw [Inj.upd_ne _ _ e1] at j1
      by_cases e2 : k' = h.next
      · exfalso
        rw [e2, Inj.upd_same] at j2; cases j2
        have := s.live_lt (b := p1.b) ⟨k, o1, p1, h1, j1, rfl⟩
        omega
      · rw [if_neg e2] at h2
        rw [Inj.upd_ne _ _ e2] at j2
        exact s.inj k k' o1 o2 p1 p2 h1 h2 j1 j2 hp
  · intro k o' p h1 j1
    rw [AHeap.get_add] at h1
    rw [AHeap.base_add]
    by_cases e : k = h.next
    · rw [e, Inj.upd_same] at j1; cases j1
      cases hc : h.base pl.b with
      | none => rfl
      | some c =>
        obtain ⟨arr, e', fz, h3, _⟩ := s.base _ c hc
        have := (Array.getElem?_eq_some_iff.1 h3).1
        omega
    · rw [if_neg e] at h1
      rw [Inj.upd_ne _ _ e] at j1
      exact s.apart k o' p h1 j1
  · simp at hk; exact Inj.upd_ne _ _ (by omega)
  · rintro k ⟨m, o', p, h1, j1, rfl⟩
    rw [AHeap.get_add] at h1
    by_cases e : m = h.next
    · rw [e, Inj.upd_same] at j1; cases j1
      exact .inl (by omega)
    · rw [if_neg e] at h1
      rw [Inj.upd_ne _ _ e] at j1
      exact .inr ⟨m, o', p, h1, j1, rfl⟩

def setBlk (w : World) (b : Nat) (o : Obj) : World := { w with heap := w.heap.setIfInBounds b o }
theorem setBlk_same {w : World} {b : Nat} {o : Obj} (h : b < w.heap.size) : (setBlk w b o).heap[b]? = some o := by simp [setBlk, h]
theorem setBlk_ne {w : World} {b k : Nat} {o : Obj} (h : k ≠ b) : (setBlk w b o).heap[k]? = w.heap[k]? := by
  simp only [setBlk]
  exact Array.getElem?_setIfInBounds_ne (fun e => h e.symm)

/-- An object is written anew. -/
theorem Next.put {J : Inj} {h : AHeap} {w : World} (s : Sim OK J h w) (b : Bool) {k : Nat} {o o' : AObj} {ob' : Obj} {pl : Place} (hk : h.get k = some o) (hj : J k = some pl)
    (hr : ObjR OK J o' pl ob') : Next OK J h w J (h.put b k o') (setBlk w pl.b ob') := by
  have hlt : pl.b < w.heap.size := s.live_lt ⟨k, o, pl, hk, hj, rfl⟩
  have hlive : ∀ m, Live J (h.put b k o') m → Live J h m := by
    rintro m ⟨k', o1, p1, h1, j1, rfl⟩
    rw [AHeap.get_put] at h1
    by_cases e : k' = k
    · subst e; exact ⟨k', o, p1, hk, j1, rfl⟩
    · rw [if_neg e] at h1; exact ⟨k', o1, p1, h1, j1, rfl⟩
  have old : ∀ k' o1, (h.put b k o').get k' = some o1 → ∃ o2, h.get k' = some o2 := by
    intro k' o1 h1
    rw [AHeap.get_put] at h1
    by_cases e : k' = k
    · subst e; exact ⟨o, hk⟩
    · rw [if_neg e] at h1; exact ⟨o1, h1⟩
  refine ⟨⟨?_, ?_, ?_, ?_⟩, J.le_refl, by simp, by simp, fun _ _ => rfl, rfl, rfl, rfl, by simp [setBlk], ?_, fun m l => .inr (hlive m l)⟩
  · intro m c hc
    rw [AHeap.base_put] at hc
    obtain ⟨arr, e, fz, h1, h2⟩ := s.base m c hc
    have hne : m ≠ pl.b := fun e => by have := s.apart k o pl hk hj; rw [← e, hc] at this; cases this
    exact ⟨arr, e, fz, (setBlk_ne hne).trans h1, h2⟩
  · intro k' o1 h1
    rw [AHeap.get_put] at h1
    by_cases e : k' = k
    · subst e
      rw [if_pos rfl] at h1; cases h1
      exact ⟨by simpa using (s.obj k' o hk).1, pl, ob', hj, setBlk_same hlt, hr⟩
    · rw [if_neg e] at h1
      obtain ⟨a1, p1, ob1, a2, a3, a4⟩ := s.obj k' o1 h1
      have hne : p1.b ≠ pl.b := fun e' => e (s.inj k' k o1 o p1 pl h1 hk a2 hj e')
      exact ⟨by simpa using a1, p1, ob1, a2, (setBlk_ne hne).trans a3, a4⟩
  · intro k1 k2 o1 o2 p1 p2 h1 h2 j1 j2 e
    obtain ⟨o1', h1'⟩ := old k1 o1 h1
    obtain ⟨o2', h2'⟩ := old k2 o2 h2
    exact s.inj k1 k2 o1' o2' p1 p2 h1' h2' j1 j2 e
  · intro k1 o1 p1 h1 j1
    obtain ⟨o1', h1'⟩ := old k1 o1 h1
    rw [AHeap.base_put]
    exact s.apart k1 o1' p1 h1' j1
  · intro m hm hl
    exact setBlk_ne (fun e => hl ⟨k, o, pl, hk, hj, e.symm⟩)

/-- An object is given up. -/
theorem Sim.del {J : Inj} {h : AHeap} {w : World} (s : Sim OK J h w) (k : Nat) : Sim OK J (h.del k) w := by
  have old : ∀ k' o1, (h.del k).get k' = some o1 → h.get k' = some o1 := by
    intro k' o1 h1
    rw [AHeap.get_del] at h1
    split at h1
    · cases h1
    · exact h1
  exact ⟨s.base, fun k' o1 h1 => s.obj k' o1 (old k' o1 h1), fun k1 k2 o1 o2 p1 p2 h1 h2 => s.inj k1 k2 o1 o2 p1 p2 (old _ _ h1) (old _ _ h2), fun k1 o1 p1 h1 => s.apart k1 o1 p1 (old _ _ h1)⟩
theorem Next.del {J : Inj} {h : AHeap} {w : World} (s : Sim OK J h w) (k : Nat) : Next OK J h w J (h.del k) w :=
  ⟨s.del k, J.le_refl, rfl, Nat.le_refl _, fun _ _ => rfl, rfl, rfl, rfl, Nat.le_refl _, fun _ _ _ => rfl, fun b l => .inr (by
    obtain ⟨k', o1, p1, h1, j1, e⟩ := l
    rw [AHeap.get_del] at h1
    split at h1
    · cases h1
    · exact ⟨k', o1, p1, h1, j1, e⟩)⟩
/-- Draws are no change. -/
theorem Sim.drewN {J : Inj} {h : AHeap} {w w' : World} (s : Sim OK J h w) (e : w'.heap = w.heap) : Sim OK J h w' :=
  ⟨fun b c hc => by rw [e]; exact s.base b c hc, fun k o hk => by rw [e]; exact s.obj k o hk, s.inj, s.apart⟩
theorem Next.drew {J : Inj} {h : AHeap} {w w' : World} (s : Sim OK J h w) (e : w'.heap = w.heap) (e1 : w'.os = w.os) (e2 : w'.tape = w.tape) (e3 : w'.output = w.output) : Next OK J h w J h w' :=
  ⟨s.drewN e, J.le_refl, rfl, Nat.le_refl _, fun _ _ => rfl, e1, e2, e3, by rw [e]; exact Nat.le_refl _, fun b _ _ => by rw [e], fun _ l => .inr l⟩
end
end Go.Ab

/- Is the evaluator's form that of the model's code? A test, decided by the kernel. -/
namespace Go.Ab

section
variable (P : Program) (nt : Nat)
def opd : Operand → Opd → Bool
  | .tmp n, .t p => n == ix p && Nat.blt n nt
  | .const v, .c v' => plain v v'
  | .func f, .c (.func (.func g) a b) => f == g && a.size == 0 && b.size == 0
  | .global g, .c (.pointer (some ⟨g', 0, none⟩)) => g == g'
  | _, _ => false
def opdL : List Operand → List Opd → Bool
  | [], [] => true
  | x :: xs, y :: ys => opd nt x y && opdL xs ys
  | _, _ => false
def opdO : Option Operand → Option Opd → Bool
  | none, none => true
  | some x, some y => opd nt x y
  | _, _ => false

def isAggB (t : TypeId) : Bool := match P.underlying t with
  | some (.struct _) => true
  | some (.array _ _) => true
  | _ => false
def notAggB (t : TypeId) : Bool := match P.underlying t with
  | none => false
  | some (.struct _) => false
  | some (.array _ _) => false
  | _ => true
def sizeB (t : TypeId) (n : Nat) : Bool := match P.info? t with
  | some i => i.size == n
  | none => false
def nB (t : TypeId) : Option Nat → Bool
  | some n => isAggB P t && sizeB P t n
  | none => notAggB P t
def zeroB (t : TypeId) (z : List Value) : Bool := match P.info? t with
  | some i => match i.zero with
    | some v => plainL v.cells.toList z
    | none => false
  | none => false
def zeroVB (t : TypeId) (z : Value) : Bool := match P.info? t with
  | some i => match i.zero with
    | some v => plain v z
    | none => false
  | none => false
def ckB (t : TypeId) : CK → Bool
  | .int => match P.underlying t with | some (.int _) => true | _ => false
  | .bool => match P.underlying t with | some .bool => true | _ => false
  | .str => match P.underlying t with | some .string => true | _ => false
def fieldsB : Nat → List Field → List CK → Bool
  | _, [], [] => true
  | i, f :: fs, t :: ts => f.name != "_" && f.offset == i && ckB P f.type t && fieldsB (i + 1) fs ts
  | _, _, _ => false
def cksB (t : TypeId) (ts : List CK) : Bool := match P.underlying t with
  | some (.array n e) => ts.length == n && sizeB P e 1 && ts.all (ckB P e) && !P.eqGuardType P.depth t
  | some (.struct fs) => fieldsB P 0 fs.toList ts && !P.stoodInHeld t && !P.eqGuardType P.depth t
  | _ => false
def eqkB (t : TypeId) : EqK → Bool
  | .cells ts => cksB P t ts
  | .bool => match P.underlying t with | some .bool => true | _ => false
  | .slice => match P.underlying t with | some (.slice _) => true | _ => false
  | .ptr => match P.underlying t with | some (.pointer _) => true | _ => false
  | .func => match P.underlying t with | some (.func ..) => true | _ => false
def opB (op : BinOp) (neg : Bool) : Bool := match op with
  | .eql => !neg
  | .neq => neg
  | _ => false
def partsB (place : Nat → Option (Nat × Nat)) : List (Nat × Operand) → List (Nat × Nat × Opd) → Bool
  | [], [] => true
  | (i, x) :: ps, (o, n, y) :: qs => (match place i with | some (o', n') => o == o' && n == n' | none => false) && opd nt x y && partsB place ps qs
  | _, _ => false
def sizeO (t : TypeId) : Option Nat := (P.info? t).map (·.size)
def fieldPlaces (fs : Array Field) (i : Nat) : Option (Nat × Nat) := match fs[i]? with
  | some f => match sizeO P f.type with
    | some n => some (f.offset, n)
    | none => none
  | none => none
def buildB (t : TypeId) (ps : List (Nat × Operand)) (qs : List (Nat × Nat × Opd)) : Bool := match P.underlying t with
  | some (.struct fs) => fs.all (fun f => (P.info? f.type).isSome) && partsB nt (fieldPlaces P fs) ps qs
  | some (.array _ e) => match sizeO P e with
    | some n => partsB nt (fun i => some (i * n, n)) ps qs
    | none => false
  | _ => false
def sliceB (t : TypeId) (size : Nat) : Bool := match P.underlying t with
  | some (.slice e) => sizeB P e size
  | _ => false
def arrB (t : TypeId) (n size : Nat) : Bool := match P.underlying t with
  | some (.array n' e) => n == n' && sizeB P e size
  | _ => false
def strB (t : TypeId) : Bool := match P.underlying t with
  | some .string => true
  | _ => false
def someB (t : TypeId) : Bool := (P.underlying t).isSome
def intB (t : TypeId) (k : IntKind) : Bool := match P.underlying t with
  | some (.int k') => k == k'
  | _ => false
def keyB (t : TypeId) (ts : List CK) : Bool := match ts with
  | [c] => ckB P t c
  | _ => cksB P t ts

def lenB (t : TypeId) (k : Nat) : Bool := match P.underlying t with | some .string => k == 0 | some (.slice _) => k == 1 | some (.map _ _) => k == 2 | _ => false
def callB (c : Call) (o : AOp) : Bool :=
  match c.callee, o with
  | .value f, .call g args => opd nt f g && opdL nt c.args.toList args
  | .builtin .append, .app size s x => match c.args.toList, c.argTypes.toList with
    | [s', x'], [t, t'] => opd nt s' s && opd nt x' x && (match P.underlying t with
        | some (.slice e) => (match P.info? e with | some i => i.size == size && Nat.ble i.bytes 4096 && (match i.zero with | some z => z.cells.size == size | none => false) | none => false)
        | _ => false) && (match P.underlying t' with | some (.slice _) => true | some .string => true | _ => false)
    | _, _ => false
  | .builtin .copy, .cpy size d x => match c.args.toList, c.argTypes.toList with
    | [d', x'], t :: _ => opd nt d' d && opd nt x' x && sliceB P t size
    | _, _ => false
  | .builtin .len, .len k x => match c.args.toList, c.argTypes.toList with
    | [x'], t :: _ => opd nt x' x && lenB P t k
    | _, _ => false
  | .builtin .len, .mov (.c (.int .i64 m)) => match c.args.toList, c.argTypes.toList with
    | [_], t :: _ => (match P.underlying t with
      | some (.array n _) => m == n
      | some (.pointer a) => (match P.underlying a with | some (.array n _) => m == n | _ => false)
      | _ => false)
    | _, _ => false
  | .builtin .min, .min x r => match c.args.toList with
    | x' :: r' => opd nt x' x && opdL nt r' r
    | _ => false
  | .builtin .max, .max x r => match c.args.toList with
    | x' :: r' => opd nt x' x && opdL nt r' r
    | _ => false
  | .builtin .clear, .clr z x => match c.args.toList, c.argTypes.toList with
    | [x'], t :: _ => opd nt x' x && (match P.underlying t with | some (.slice e) => zeroB P e z | _ => false)
    | _, _ => false
  | _, _ => false

def chkOp (op : Op) (o : AOp) : Bool :=
  match op, o with
  | _, .bad => true
  | .move x, .mov y => opd nt x y
  | .assign x, .mov y => opd nt x y
  | .pick a b c, .pick a' b' c' => opd nt a a' && opd nt b b' && opd nt c c'
  | .box _ x, .box y => opd nt x y
  | .alloc e, .zero z => zeroB P e z
  | .build t ps, .build z qs => zeroB P t z && buildB P nt t ps.toList qs
  | .buildSlice t n ps, .bslice n' size z qs => n == n' && (match P.underlying t with
      | some (.slice e) => sizeB P e size && zeroB P e z && partsB nt (fun i => some (i * size, size)) ps.toList qs
      | _ => false)
  | .load t a, .ld n b => nB P t n && opd nt a b
  | .store t a x, .st n b y => sizeB P t n && opd nt a b && opd nt x y
  | .nilCheck x, .nilchk y => opd nt x y
  | .binOp op _ x y _, .bin op' x' y' => decide (op = op') && opd nt x x' && opd nt y y'
  | .binOp op t x y _, .eqs k neg x' y' => opB op neg && eqkB P t k && opd nt x x' && opd nt y y'
  | .unOp op _ x, .un op' y => decide (op = op') && opd nt x y
  | .convert s d x, .cvt k y => someB P s && intB P d k && opd nt x y
  | .convert s d x, .str y => someB P s && strB P d && opd nt x y
  | .convert s d x, .b2s y => (match P.underlying s with | some (.slice e) => intB P e .u8 | _ => false) && strB P d && opd nt x y
  | .makeFunc (.func f) a b, .clos (.func g) a' b' => f == g && opdL nt a.toList a' && opdL nt b.toList b'
  | .makeMap _ none, .mkmap => true
  | .makeSlice t l c, .mks size bytes z l' c' => (match P.underlying t with
      | some (.slice e) => (match P.info? e with | some i => i.size == size && i.bytes == bytes | none => false) && zeroB P e z
      | _ => false) && opd nt l l' && opd nt c c'
  | .slice t x lo hi none, .slstr x' lo' hi' => strB P t && opd nt x x' && opdO nt lo lo' && opdO nt hi hi'
  | .slice t x lo hi mx, .slsl size x' lo' hi' mx' => sliceB P t size && opd nt x x' && opdO nt lo lo' && opdO nt hi hi' && opdO nt mx mx'
  | .slice t x lo hi mx, .slarr n size x' lo' hi' mx' => (arrB P t n size || (match P.underlying t with | some (.pointer a) => arrB P a n size | _ => false)) && opd nt x x' && opdO nt lo lo' && opdO nt hi hi' && opdO nt mx mx'
  | .fieldAddr t x f, .fad off y => (match P.underlying t with
      | some (.struct fs) => (match fs[f]? with | some fd => fd.offset == off && (match P.info? fd.type with | some i => i.size != 0 | none => false) | none => false)
      | _ => false) && opd nt x y
  | .indexAddr t x i, .iad n size x' i' => arrB P t n size && opd nt x x' && opd nt i i'
  | .indexAddr t x i, .ias size x' i' => sliceB P t size && opd nt x x' && opd nt i i'
  | .field t x f, .fld n off y => (match P.underlying t with
      | some (.struct fs) => (match fs[f]? with | some fd => fd.offset == off && nB P fd.type n | none => false)
      | _ => false) && opd nt x y
  | .index t x i, .idx len size n x' i' => arrB P t len size && (match P.underlying t with | some (.array _ e) => nB P e n | _ => false) && opd nt x x' && opd nt i i'
  | .index t x i, .idxs x' i' => strB P t && opd nt x x' && opd nt i i'
  | .lookup t m k ok, .look ok' ts z m' k' => ok == ok' && (match P.underlying t with | some (.map kt e) => keyB P kt ts && zeroVB P e z | _ => false) && opd nt m m' && opd nt k k'
  | .mapUpdate t m k v, .mset ts m' k' v' => (match P.underlying t with | some (.map kt _) => keyB P kt ts | _ => false) && opd nt m m' && opd nt k k' && opd nt v v'
  | .insert t m k v, .mset ts m' k' v' => (match P.underlying t with | some (.map kt _) => keyB P kt ts | _ => false) && opd nt m m' && opd nt k k' && opd nt v v'
  | .range t x, .rstr y => strB P t && opd nt x y
  | .next x true, .nexts y => opd nt x y
  | .extract x i, .ext i' y => i == i' && opd nt x y
  | .call c, o => callB P nt c o
  | _, _ => false
end

/-! ### What the tests say -/
section
variable {P : Program} {nt : Nat} {J : Inj} {s : Slots} {a : Act}
theorem opd_sound (hr : SR J nt s a.tmps) : ∀ {x : Operand} {y : Opd}, opd nt x y = true → VR J (evA s y) (a.eval x) := by
  intro x y h
  unfold opd at h
  split at h
  · rename_i n p
    simp only [Bool.and_eq_true, beq_iff_eq] at h
    obtain ⟨rfl, h2⟩ := h
    exact hr.2 p (by rw [Nat.blt_eq] at h2; exact h2)
  · exact plain_sound h J
  · rename_i f g a' b'
    simp only [Bool.and_eq_true, beq_iff_eq] at h
    obtain ⟨⟨rfl, h2⟩, h3⟩ := h
    obtain rfl : a' = #[] := Array.eq_empty_of_size_eq_zero h2
    obtain rfl : b' = #[] := Array.eq_empty_of_size_eq_zero h3
    exact VR.func (J := J) f (xs := []) (ys := []) (xs' := []) (ys' := []) rfl (fun i x y hx => by simp at hx) rfl (fun i x y hx => by simp at hx)
  · simp only [beq_iff_eq] at h
    subst h
    exact .ptr rfl
  · cases h
theorem opdL_sound (hr : SR J nt s a.tmps) : ∀ {xs : List Operand} {ys : List Opd}, opdL nt xs ys = true → LR J (ys.map (evA s)) (xs.map a.eval)
  | [], [], _ => .nil J
  | [], _ :: _, h => by simp [opdL] at h
  | _ :: _, [], h => by simp [opdL] at h
  | x :: xs, y :: ys, h => by
    simp only [opdL, Bool.and_eq_true] at h
    exact .cons (opd_sound hr h.1) (opdL_sound hr h.2)
def OR (J : Inj) : Option Value → Option Value → Prop
  | none, none => True
  | some x, some y => VR J x y
  | _, _ => False
theorem opdO_sound (hr : SR J nt s a.tmps) {x : Option Operand} {y : Option Opd} (h : opdO nt x y = true) : OR J (y.map (evA s)) (x.map a.eval) := by
  unfold opdO at h
  split at h
  · trivial
  · exact opd_sound hr h
  · cases h
end

section
variable {P : Program} (w : World)
theorem und_run {t : TypeId} {d : TypeDesc} (h : P.underlying t = some d) : (underlying t).run P w = .ok d w := by simp [underlying, h]
theorem info_run {t : TypeId} {i : TypeInfo} (h : P.info? t = some i) : (typeInfo t).run P w = .ok i w := by simp [typeInfo, h]
theorem sizeB_run {t : TypeId} {n : Nat} (h : sizeB P t n = true) : (sizeOf t).run P w = .ok n w := by
  unfold sizeB at h
  split at h
  · rename_i i hi
    have := eq_of_beq h
    simp [sizeOf, info_run w hi, this]
  · cases h
theorem isAgg_run {t : TypeId} {n : Option Nat} (h : nB P t n = true) : (isAgg t).run P w = .ok n.isSome w := by
  unfold nB at h
  cases n with
  | some n =>
    simp only [Bool.and_eq_true, isAggB] at h
    obtain ⟨h, _⟩ := h
    split at h
    · rename_i d hd; simp [isAgg, und_run w hd]
    · rename_i d hd; simp [isAgg, und_run w hd]
    · cases h
  | none =>
    simp only [notAggB] at h
    split at h
    · cases h
    · cases h
    · cases h
    · rename_i d h1 h2 h3
      cases hd : P.underlying t with
      | none => exact absurd hd h1
      | some d =>
        cases d <;> first
          | (simp [isAgg, und_run w hd]; done)
          | exact absurd hd (h2 _)
          | exact absurd hd (h3 _ _)
theorem nB_size {t : TypeId} {n : Nat} (h : nB P t (some n) = true) : sizeB P t n = true := by
  simp only [nB, Bool.and_eq_true] at h; exact h.2
theorem zeroB_run {t : TypeId} {z : List Value} (h : zeroB P t z = true) (J : Inj) : ∃ v, (zeroValue t).run P w = .ok v w ∧ v.cells.toList = z ∧ LR J z v.cells.toList := by
  unfold zeroB at h
  split at h
  · rename_i i hi
    split at h
    · rename_i v hv
      have := plainL_sound h J
      exact ⟨v, by simp [zeroValue, info_run w hi, hv], this.1, this.2⟩
    · cases h
  · cases h
end
end Go.Ab

/- Operations that make no change: what is evaluated is what the model's operation does. -/
namespace Go.Ab

section
variable {OK : Nat → Code → ACode → Prop} {P : Program} {J : Inj} {h : AHeap} {w : World}

/-! ### Memory that is read -/
theorem cell_heap {b o : Nat} {arr : Array Value} {e : TypeId} {fz : Nat × Nat} (hh : w.heap[b]? = some (.cells arr e fz)) : w.cell? ⟨b, o, none⟩ = arr[o]? := by
  simp [World.cell?, hh]
theorem add_none {a : Addr} (hs : a.spot = none) (i : Nat) : a.add i = ⟨a.block, a.off + i, none⟩ := by
  obtain ⟨b, o, s⟩ := a
  simp only at hs
  subst hs
  unfold Addr.add
  split
  · rename_i e; simp [e]
  · rfl
theorem row_sound (s : Sim OK J h w) {a a' : Addr} {c : List Value} (hr : h.row a = some c) (ha : AddrR J a a') :
    a'.spot = none ∧ ∃ arr e fz, w.heap[a'.block]? = some (.cells arr e fz) ∧ ∀ (i : Nat) v, c[a.off + i]? = some v → ∃ v', arr[a'.off + i]? = some v' ∧ VR J v v' := by
  unfold AHeap.row at hr
  unfold AddrR at ha
  cases hs : a.spot with
  | none =>
    simp only [hs] at hr ha
    subst ha
    obtain ⟨arr, e, fz, h1, h2⟩ := s.base _ _ hr
    exact ⟨hs, arr, e, fz, h1, fun i v hv => h2 _ v hv⟩
  | some t =>
    simp only [hs] at hr ha
    obtain ⟨pl, hj, rfl⟩ := ha
    refine ⟨rfl, ?_⟩
    cases hg : h.get a.block with
    | none => simp [hg] at hr
    | some o =>
      cases o with
      | cells c' =>
        simp [hg] at hr
        subst hr
        obtain ⟨_, pl', ob, hj', hb, ho⟩ := s.obj _ _ hg
        rw [hj] at hj'; cases hj'
        cases ob <;> simp only [ObjR] at ho
        rename_i arr e fz
        obtain ⟨_, _, _, h5⟩ := ho
        refine ⟨arr, e, fz, hb, fun i v hv => ?_⟩
        obtain ⟨v', h6, h7⟩ := h5 _ v hv
        exact ⟨v', by rw [Nat.add_assoc]; exact h6, h7⟩
      | _ => simp [hg] at hr
/-- The first n cells from an address on. -/
theorem cells_sound (s : Sim OK J h w) {a a' : Addr} {c : List Value} {n : Nat} (hr : h.row a = some c) (ha : AddrR J a a') (hn : a.off + n ≤ c.length) :
    ∃ cs : List Value, LR J ((c.drop a.off).take n) cs ∧ cs.length = n ∧ (∀ (j : Nat) v, cs[j]? = some v → w.cell? (a'.add j) = some v) ∧ (loadCells a' n).run P w = .ok cs.toArray w := by
  obtain ⟨hs, arr, e, fz, hb, h5⟩ := row_sound s hr ha
  have hcs : ∀ j, j < n → ∃ v v', c[a.off + j]? = some v ∧ arr[a'.off + j]? = some v' ∧ VR J v v' := fun j hj => by
    have hlt : a.off + j < c.length := by omega
    obtain ⟨v', h6, h7⟩ := h5 j _ (List.getElem?_eq_getElem hlt)
    exact ⟨_, v', List.getElem?_eq_getElem hlt, h6, h7⟩
  have hl : ((arr.toList.drop a'.off).take n).length = n := by
    rcases Nat.eq_zero_or_pos n with rfl | hp
    · simp
    · obtain ⟨_, v', _, h6, _⟩ := hcs (n - 1) (by omega)
      have := (Array.getElem?_eq_some_iff.1 h6).1
      simp; omega
  have hc : ∀ (j : Nat) v, ((arr.toList.drop a'.off).take n)[j]? = some v → w.cell? (a'.add j) = some v := fun j v hv => by
    rw [List.getElem?_take] at hv
    split at hv
    · rw [List.getElem?_drop, Array.getElem?_toList] at hv
      rw [add_none hs, cell_heap hb]; exact hv
    · cases hv
  refine ⟨(arr.toList.drop a'.off).take n, ⟨?_, fun j x y hx hy => ?_⟩, hl, hc, ?_⟩
  · rw [hl]; simp; omega
  · rw [List.getElem?_take] at hx hy
    split at hx
    · rename_i hj
      rw [if_pos hj, List.getElem?_drop, Array.getElem?_toList] at hy
      rw [List.getElem?_drop] at hx
      obtain ⟨v', h6, h7⟩ := h5 j x hx
      rw [hy] at h6; cases h6; exact h7
    · cases hx
  · have := run_loadCells_list (P := P) w a' _ hc
    rwa [hl] at this
theorem cell_sound (s : Sim OK J h w) {a a' : Addr} {c : List Value} {v : Value} (hr : h.row a = some c) (ha : AddrR J a a') (hv : c[a.off]? = some v) :
    ∃ v', w.cell? a' = some v' ∧ VR J v v' := by
  obtain ⟨hs, arr, e, fz, hb, h5⟩ := row_sound s hr ha
  obtain ⟨v', h6, h7⟩ := h5 0 v hv
  refine ⟨v', ?_, h7⟩
  obtain ⟨b, o, sp⟩ := a'
  simp only at hs
  subst hs
  rw [cell_heap hb]; exact h6
theorem ld_sound (s : Sim OK J h w) {t : TypeId} {n : Option Nat} {a a' : Addr} {v : Value} (hn : nB P t n = true) (hl : ldA n a h = some v) (ha : AddrR J a a') :
    ∃ v', (loadVar t a').run P w = .ok v' w ∧ VR J v v' := by
  unfold ldA at hl
  cases hr : h.row a with
  | none => simp [hr] at hl
  | some c =>
    simp only [hr, partA] at hl
    cases n with
    | some n =>
      simp only at hl
      split at hl
      · rename_i hb
        cases hl
        obtain ⟨cs, h1, h2, h3, h4⟩ := cells_sound (P := P) s hr ha hb
        exact ⟨.agg cs.toArray, by simp [loadVar, isAgg_run w hn, sizeB_run w (nB_size hn), h4], .aggL h1⟩
      · cases hl
    | none =>
      simp only at hl
      obtain ⟨v', h1, h2⟩ := cell_sound s hr ha hl
      exact ⟨v', by simp [loadVar, isAgg_run w hn, run_load, h1], h2⟩

/-! ### Values taken apart -/
theorem vr_int {k : IntKind} {n : Int} {v : Value} (r : VR J (.int k n) v) : v = .int k n := by cases r; rfl
theorem vr_bool {b : Bool} {v : Value} (r : VR J (.bool b) v) : v = .bool b := by cases r; rfl
theorem vr_string {b : ByteArray} {v : Value} (r : VR J (.string b) v) : v = .string b := by cases r; rfl
theorem vr_ptr {a : Addr} {v : Value} (r : VR J (.pointer (some a)) v) : ∃ a', v = .pointer (some a') ∧ AddrR J a a' := by cases r with | ptr h => exact ⟨_, rfl, h⟩
theorem vr_ptrN {v : Value} (r : VR J (.pointer none) v) : v = .pointer none := by cases r; rfl
theorem vr_slN {l c : Nat} {v : Value} (r : VR J (.slice none l c) v) : v = .slice none l c := by cases r; rfl
theorem vr_sl {a : Addr} {l c : Nat} {v : Value} (r : VR J (.slice (some a) l c) v) : ∃ a' c', v = .slice (some a') l c' ∧ SlR J a c a' c' ∧ l ≤ c := by cases r with | sl _ hl h => exact ⟨_, _, rfl, h, hl⟩
theorem vr_agg {xs : Array Value} {v : Value} (r : VR J (.agg xs) v) : ∃ ys : Array Value, v = .agg ys ∧ LR J xs.toList ys.toList := by
  generalize e : Value.agg xs = x at r
  cases r with
  | agg h1 h2 => cases e; exact ⟨_, rfl, h1, h2⟩
  | undef => cases e
  | _ => cases e
theorem vr_tuple {xs : Array Value} {v : Value} (r : VR J (.tuple xs) v) (hne : xs.toList ≠ []) : ∃ ys : Array Value, v = .tuple ys ∧ LR J xs.toList ys.toList := by
  generalize e : Value.tuple xs = x at r
  cases r with
  | tuple h1 h2 => cases e; exact ⟨_, rfl, h1, h2⟩
  | undef => cases e; exact absurd rfl hne
  | _ => cases e
theorem vr_map {r : Nat} {v : Value} (hr : VR J (.map (some r)) v) : ∃ pl, v = .map (some pl.b) ∧ J r = some pl := by cases hr with | map h => exact ⟨_, rfl, h⟩
theorem AddrR.plus {a a' : Addr} (r : AddrR J a a') (n : Nat) : AddrR J (plus a n) (a'.add n) := by
  unfold AddrR at *
  cases hs : a.spot with
  | none =>
    simp only [hs] at r
    subst r
    simp only [Ab.plus, hs]
    rw [add_none hs]
  | some t =>
    simp only [hs] at r
    obtain ⟨pl, hj, rfl⟩ := r
    simp only [Ab.plus, hs]
    exact ⟨pl, hj, by rw [add_none rfl, Nat.add_assoc]⟩
theorem SlR.addr {a a' : Addr} {c c' : Nat} (r : SlR J a c a' c') (h0 : c ≠ 0) : AddrR J a a' := by
  unfold SlR at r
  unfold AddrR
  cases hs : a.spot with
  | none => simp only [hs] at r ⊢; exact r.2.resolve_left h0
  | some t =>
    simp only [hs] at r ⊢
    obtain ⟨pl, h1, h2, h3, _⟩ := r
    exact ⟨pl, h1, h3.resolve_left (by omega)⟩

/-! ### Results -/
def Done (OK : Nat → Code → ACode → Prop) (J : Inj) (h : AHeap) (w : World) (r : Result Go.Next) (v : Value) (h' : AHeap) : Prop :=
  ∃ v' w' J', (r = .ok (.value v') w' ∨ (r = .ok .skip w' ∧ v = undef)) ∧ VR J' v v' ∧ Next OK J h w J' h' w'
theorem Done.same (s : Sim OK J h w) {r : Result Go.Next} {v v' : Value} (hr : r = .ok (.value v') w) (hv : VR J v v') : Done OK J h w r v h :=
  ⟨v', w, J, .inl hr, hv, .refl s⟩
theorem ret1_some {v : Option Value} {h h' : AHeap} {x : Value} (e : ret1 v h = some (x, h')) : v = some x ∧ h' = h := by
  cases v with
  | none => cases e
  | some y => simp only [ret1, Option.some.injEq, Prod.mk.injEq] at e; exact ⟨by rw [e.1], e.2.symm⟩
end
end Go.Ab

/- Operations that make no change, one by one. -/
namespace Go.Ab

section
variable {OK : Nat → Code → ACode → Prop} {P : Program} {J : Inj} {h h' : AHeap} {w : World} {nt : Nat} {sl : Slots} {a : Act} {o : Oper} {v : Value}
  {b : Bool} {C : Cfg} {self : Task → Option Res}

theorem val_run {s : Sem Value} {v : Value} (hs : s.run P w = .ok v w) : (do pure (Go.Next.value (← s)) : Sem Go.Next).run P w = .ok (.value v) w := by simp [hs]
theorem Done.val (sm : Sim OK J h w) {s : Sem Value} {v' : Value} (hs : s.run P w = .ok v' w) (hv : VR J v v') :
    Done OK J h w ((do pure (Go.Next.value (← s)) : Sem Go.Next).run P w) v h := Done.same sm (val_run hs) hv

theorem cast_op {x y : Result Go.Next} (e : x = y) (r : Done OK J h w y v h') : Done OK J h w x v h' := e ▸ r

theorem op_mov (sm : Sim OK J h w) (hr : SR J nt sl a.tmps) {x : Operand} {y : Opd} (ho : o.op = .move x ∨ o.op = .assign x) (hx : opd nt x y = true)
    (he : o_mov y b C self sl h = some (v, h')) : Done OK J h w ((execOp a.eval o).run P w) v h' := by
  simp only [o_mov, Option.some.injEq, Prod.mk.injEq] at he
  obtain ⟨rfl, rfl⟩ := he
  refine Done.same sm ?_ (opd_sound hr hx)
  rcases ho with ho | ho <;> simp [execOp, ho]
theorem op_pick (sm : Sim OK J h w) (hr : SR J nt sl a.tmps) {x y z : Operand} {x' y' z' : Opd} (ho : o.op = .pick x y z) (hx : opd nt x x' = true) (hy : opd nt y y' = true) (hz : opd nt z z' = true)
    (he : o_pick x' y' z' b C self sl h = some (v, h')) : Done OK J h w ((execOp a.eval o).run P w) v h' := by
  replace he := ret1_some he
  obtain ⟨he, he2⟩ := he
  subst he2
  have rx := opd_sound hr hx
  unfold pickA at he
  split at he
  · rename_i t ht
    cases he
    rw [ht] at rx
    have := vr_bool rx
    cases t
    · exact Done.same sm (by simp [execOp, ho, this, asBool]) (opd_sound hr hz)
    · exact Done.same sm (by simp [execOp, ho, this, asBool]) (opd_sound hr hy)
  · cases he
theorem op_nilchk (sm : Sim OK J h w) (hr : SR J nt sl a.tmps) {x : Operand} {y : Opd} (ho : o.op = .nilCheck x) (hx : opd nt x y = true)
    (he : o_nilchk y b C self sl h = some (v, h')) : Done OK J h w ((execOp a.eval o).run P w) v h' := by
  replace he := ret1_some he
  obtain ⟨he, he2⟩ := he
  subst he2
  have rx := opd_sound hr hx
  unfold nilA at he
  split at he
  · rename_i t ht
    cases he
    rw [ht] at rx
    obtain ⟨t', e, r⟩ := vr_ptr rx
    exact Done.same sm (by simp [execOp, ho, e]) (.ptr r)
  · cases he

theorem intBin_sound {op : BinOp} {k : IntKind} {x y : Int} (he : intBin op k x y = some v) (t : TypeId) : (binOp op t (.int k x) (.int k y)).run P w = .ok v w ∧ VR J v v := by
  cases op <;> simp only [intBin] at he <;> first
    | (cases he; exact ⟨by simp [binOp, Op.intArith, Op.intBits, Op.intCmp], by constructor⟩)
    | (split at he
       · cases he
       · rename_i hy; cases he; exact ⟨by simp [binOp, Op.intDiv, hy], by constructor⟩)
    | cases he
theorem strBin_sound {op : BinOp} {p q : ByteArray} (he : strBin op p q = some v) (t : TypeId) : (binOp op t (.string p) (.string q)).run P w = .ok v w ∧ VR J v v := by
  have h64 : IntKind.i64.max = 9223372036854775807 := by decide
  unfold strBin at he
  split at he
  · split at he
    · cases he
      refine ⟨?_, .string _⟩
      simp [binOp, Op.stringOp, h64]
      omega
    · cases he
  · cases he; exact ⟨by simp [binOp, Op.stringOp], .bool _⟩
  · cases he; exact ⟨by simp [binOp, Op.stringOp], .bool _⟩
  · cases he; exact ⟨by simp [binOp, Op.stringOp], .bool _⟩
  · cases he
theorem eqGuard_run (op : BinOp) (t : TypeId) (x y : Operand) {p q : Value} (hp : ∀ xs, p ≠ .agg xs) (hq : p ≠ .nilIface) : (eqGuard op t x y p q).run P w = .ok () w := by
  unfold eqGuard
  cases op <;> (try (simp; done))
  all_goals
    cases p <;> cases q <;> first
      | (simp; done)
      | exact absurd rfl (hp _)
      | exact absurd rfl hq
theorem op_bin (sm : Sim OK J h w) (hr : SR J nt sl a.tmps) {op : BinOp} {t t' : TypeId} {x y : Operand} {x' y' : Opd} (ho : o.op = .binOp op t x y t') (hx : opd nt x x' = true) (hy : opd nt y y' = true)
    (he : o_bin op x' y' b C self sl h = some (v, h')) : Done OK J h w ((execOp a.eval o).run P w) v h' := by
  replace he := ret1_some he
  obtain ⟨he, he2⟩ := he
  subst he2
  have rx := opd_sound hr hx
  have ry := opd_sound hr hy
  unfold bin at he
  split at he
  · rename_i k p k' q h1 h2
    rw [h1] at rx; rw [h2] at ry
    have ex := vr_int rx
    have ey := vr_int ry
    have key : (binOp op t (.int k p) (.int k' q)).run P w = .ok v w ∧ VR J v v := by
      unfold intOps at he
      split at he
      · unfold shlA at he
        split at he
        · cases he
        · rename_i hq; cases he; exact ⟨by simp [binOp, Op.shift, hq], .int _ _⟩
      · unfold shrA at he
        split at he
        · cases he
        · rename_i hq; cases he; exact ⟨by simp [binOp, Op.shift, hq], .int _ _⟩
      · split at he
        · rename_i hk; subst hk; exact intBin_sound he t
        · cases he
    refine cast_op (by simp only [execOp, ho]) (Done.val (P := P) (v' := v) sm (s := do eqGuard op t x y (a.eval x) (a.eval y); binOp op t (a.eval x) (a.eval y)) ?_ key.2)
    rw [ex, ey]
    simp [eqGuard_run (P := P) (w := w) op t x y (p := .int k p) (q := .int k' q) (fun _ e => by cases e) (fun e => by cases e), key.1]
  · rename_i p q h1 h2
    rw [h1] at rx; rw [h2] at ry
    have ex := vr_string rx
    have ey := vr_string ry
    have key := strBin_sound (P := P) (w := w) (J := J) he t
    refine cast_op (by simp only [execOp, ho]) (Done.val (P := P) (v' := v) sm (s := do eqGuard op t x y (a.eval x) (a.eval y); binOp op t (a.eval x) (a.eval y)) ?_ key.2)
    rw [ex, ey]
    simp [eqGuard_run (P := P) (w := w) op t x y (p := .string p) (q := .string q) (fun _ e => by cases e) (fun e => by cases e), key.1]
  · cases he
theorem op_un (sm : Sim OK J h w) (hr : SR J nt sl a.tmps) {op : UnOp} {t : TypeId} {x : Operand} {x' : Opd} (ho : o.op = .unOp op t x) (hx : opd nt x x' = true)
    (he : o_un op x' b C self sl h = some (v, h')) : Done OK J h w ((execOp a.eval o).run P w) v h' := by
  replace he := ret1_some he
  obtain ⟨he, he2⟩ := he
  subst he2
  have rx := opd_sound hr hx
  unfold un at he
  split at he
  · rename_i k n h1; rw [h1] at rx; cases he
    refine cast_op (by simp only [execOp, ho]) (Done.val (P := P) (v' := _) sm (s := Op.unary .neg (a.eval x)) ?_ (.int _ _))
    rw [vr_int rx]; simp [Op.unary, Op.intArith]
  · rename_i k n h1; rw [h1] at rx; cases he
    refine cast_op (by simp only [execOp, ho]) (Done.val (P := P) (v' := _) sm (s := Op.unary .xor (a.eval x)) ?_ (.int _ _))
    rw [vr_int rx]; simp [Op.unary, Op.intBits]
  · rename_i n h1; rw [h1] at rx; cases he
    refine cast_op (by simp only [execOp, ho]) (Done.val (P := P) (v' := _) sm (s := Op.unary .not (a.eval x)) ?_ (.bool _))
    rw [vr_bool rx]; simp [Op.unary]
  · cases he
theorem intB_und {t : TypeId} {k : IntKind} (hk : intB P t k = true) : P.underlying t = some (.int k) := by
  unfold intB at hk
  split at hk
  · rename_i k' e; rw [e, eq_of_beq hk]
  · cases hk
theorem strB_und {t : TypeId} (hk : strB P t = true) : P.underlying t = some .string := by
  unfold strB at hk
  split at hk
  · assumption
  · cases hk
theorem someB_und {t : TypeId} (hk : someB P t = true) : ∃ d, P.underlying t = some d := Option.isSome_iff_exists.1 hk
theorem op_cvt (sm : Sim OK J h w) (hr : SR J nt sl a.tmps) {s d : TypeId} {k : IntKind} {x : Operand} {x' : Opd} (ho : o.op = .convert s d x) (hs : someB P s = true) (hd : intB P d k = true) (hx : opd nt x x' = true)
    (he : o_cvt k x' b C self sl h = some (v, h')) : Done OK J h w ((execOp a.eval o).run P w) v h' := by
  replace he := ret1_some he
  obtain ⟨he, he2⟩ := he
  subst he2
  have rx := opd_sound hr hx
  obtain ⟨ds, hs⟩ := someB_und hs
  unfold cvt at he
  split at he
  · rename_i k' n h1; rw [h1] at rx; cases he
    refine cast_op (by simp only [execOp, ho]) (Done.val (P := P) (v' := _) sm (s := convert s d (a.eval x)) ?_ (.int _ _))
    rw [vr_int rx]
    simp only [convert, Sem.run_bind, und_run w hs, und_run w (intB_und hd), Result.andThen_ok]
    cases ds <;> simp [Conv.intToInt]
  · cases he
theorem op_str (sm : Sim OK J h w) (hr : SR J nt sl a.tmps) {s d : TypeId} {x : Operand} {x' : Opd} (ho : o.op = .convert s d x) (hs : someB P s = true) (hd : strB P d = true) (hx : opd nt x x' = true)
    (he : o_str x' b C self sl h = some (v, h')) : Done OK J h w ((execOp a.eval o).run P w) v h' := by
  replace he := ret1_some he
  obtain ⟨he, he2⟩ := he
  subst he2
  have rx := opd_sound hr hx
  obtain ⟨ds, hs⟩ := someB_und hs
  unfold strA at he
  split at he
  · rename_i n h1; rw [h1] at rx; cases he
    refine cast_op (by simp only [execOp, ho]) (Done.val (P := P) (v' := _) sm (s := convert s d (a.eval x)) ?_ (.string _))
    rw [vr_string rx]
    simp only [convert, Sem.run_bind, und_run w hs, und_run w (strB_und hd), Result.andThen_ok]
    cases ds <;> simp
  · cases he
theorem op_clos (sm : Sim OK J h w) (hr : SR J nt sl a.tmps) {f : FuncId} {xs ys : Array Operand} {xs' ys' : List Opd} (ho : o.op = .makeFunc (.func f) xs ys) (hx : opdL nt xs.toList xs' = true) (hy : opdL nt ys.toList ys' = true)
    (he : o_clos (.func f) xs' ys' b C self sl h = some (v, h')) : Done OK J h w ((execOp a.eval o).run P w) v h' := by
  simp only [o_clos, Option.some.injEq, Prod.mk.injEq] at he
  obtain ⟨rfl, rfl⟩ := he
  have rx := opdL_sound hr hx
  have ry := opdL_sound hr hy
  refine cast_op (by simp only [execOp, ho]) (Done.val (P := P) (v' := .func (.func f) (xs.toList.map a.eval).toArray (ys.toList.map a.eval).toArray) sm (s := Instr.makeFunc (.func f) (xs.map a.eval) (ys.map a.eval)) ?_ (.func f rx.1 rx.2 ry.1 ry.2))
  simp only [Instr.makeFunc, ← List.map_toArray, Array.toArray_toList, Sem.run_pure]
theorem op_ext (sm : Sim OK J h w) (hr : SR J nt sl a.tmps) {i : Nat} {x : Operand} {x' : Opd} (ho : o.op = .extract x i) (hx : opd nt x x' = true)
    (he : o_ext i x' b C self sl h = some (v, h')) : Done OK J h w ((execOp a.eval o).run P w) v h' := by
  replace he := ret1_some he
  obtain ⟨he, he2⟩ := he
  subst he2
  have rx := opd_sound hr hx
  unfold extA at he
  split at he
  · rename_i vs h1; rw [h1] at rx
    obtain ⟨ys, e, r⟩ := vr_tuple rx (fun e => by simp [e] at he)
    obtain ⟨y, hy, ry⟩ := r.get he
    refine cast_op (by simp only [execOp, ho]) (Done.val (P := P) (v' := y) sm (s := Instr.extract (a.eval x) i) ?_ ry)
    rw [e]
    have : ys[i]? = some y := by rw [← Array.getElem?_toList]; exact hy
    simp [Instr.extract, this]
  · cases he
end
end Go.Ab

/- Operations that read, and that reckon with addresses. -/
namespace Go.Ab

section
variable {OK : Nat → Code → ACode → Prop} {P : Program} {J : Inj} {h h' : AHeap} {w : World} {nt : Nat} {sl : Slots} {a : Act} {o : Oper} {v : Value}
  {b : Bool} {C : Cfg} {self : Task → Option Res}

theorem op_ld (sm : Sim OK J h w) (hr : SR J nt sl a.tmps) {t : TypeId} {n : Option Nat} {x : Operand} {x' : Opd} (ho : o.op = .load t x) (hn : nB P t n = true) (hx : opd nt x x' = true)
    (he : o_ld n x' b C self sl h = some (v, h')) : Done OK J h w ((execOp a.eval o).run P w) v h' := by
  replace he := ret1_some he
  obtain ⟨he, he2⟩ := he
  subst he2
  have rx := opd_sound hr hx
  unfold ldP at he
  split at he
  · rename_i p h1; rw [h1] at rx
    obtain ⟨p', e, r⟩ := vr_ptr rx
    obtain ⟨v', h2, h3⟩ := ld_sound (P := P) sm hn he r
    refine cast_op (by simp only [execOp, ho]) (Done.val (P := P) (v' := v') sm (s := Instr.loadAt t (a.eval x)) ?_ h3)
    rw [e]; simp [Instr.loadAt, Instr.sureAddr, h2]
  · cases he

theorem part_sound {e : TypeId} {n : Option Nat} {cs : List Value} {ys : Array Value} {off : Nat} (hn : nB P e n = true) (hp : partA n cs off = some v) (r : LR J cs ys.toList) :
    ∃ v', (part e ys off).run P w = .ok v' w ∧ VR J v v' := by
  unfold partA at hp
  cases n with
  | some n =>
    simp only at hp
    split at hp
    · rename_i hb
      cases hp
      refine ⟨.agg (ys.extract off (off + n)), by simp [part, isAgg_run w hn, sizeB_run w (nB_size hn)], ?_⟩
      have : VR J (.agg ((cs.drop off).take n).toArray) (.agg ((ys.toList.drop off).take n).toArray) := .aggL ((r.drop off).take n)
      have e2 : ((ys.toList.drop off).take n).toArray = ys.extract off (off + n) := by
        apply Array.ext'
        simp
      rwa [e2] at this
    · cases hp
  | none =>
    simp only at hp
    obtain ⟨y, hy, ry⟩ := r.get hp
    have : ys[off]? = some y := by rw [← Array.getElem?_toList]; exact hy
    exact ⟨y, by simp [part, isAgg_run w hn, this], ry⟩
theorem op_fld (sm : Sim OK J h w) (hr : SR J nt sl a.tmps) {t : TypeId} {n : Option Nat} {off f : Nat} {x : Operand} {x' : Opd} (ho : o.op = .field t x f)
    (ht : (match P.underlying t with
      | some (.struct fs) => (match fs[f]? with | some fd => fd.offset == off && nB P fd.type n | none => false)
      | _ => false) = true) (hx : opd nt x x' = true)
    (he : o_fld n off x' b C self sl h = some (v, h')) : Done OK J h w ((execOp a.eval o).run P w) v h' := by
  replace he := ret1_some he
  obtain ⟨he, he2⟩ := he
  subst he2
  have rx := opd_sound hr hx
  unfold fld at he
  split at he
  · rename_i cs h1; rw [h1] at rx
    obtain ⟨ys, e, r⟩ := vr_agg rx
    split at ht
    · rename_i fs hd
      split at ht
      · rename_i fd hf
        simp only [Bool.and_eq_true, beq_iff_eq] at ht
        obtain ⟨rfl, hn⟩ := ht
        obtain ⟨v', h2, h3⟩ := part_sound (P := P) (w := w) hn he r
        refine cast_op (by simp only [execOp, ho]) (Done.val (P := P) (v' := v') sm (s := Instr.field t (a.eval x) f) ?_ h3)
        rw [e]; simp [Instr.field, und_run w hd, hf, asAgg, h2]
      · cases ht
    · cases ht
  · cases he
theorem arrB_und {t : TypeId} {n size : Nat} (ha : arrB P t n size = true) : ∃ e, P.underlying t = some (.array n e) ∧ sizeB P e size = true := by
  unfold arrB at ha
  split at ha
  · rename_i n' e hd
    simp only [Bool.and_eq_true, beq_iff_eq] at ha
    obtain ⟨rfl, h2⟩ := ha
    exact ⟨e, hd, h2⟩
  · cases ha
theorem sliceB_und {t : TypeId} {size : Nat} (ha : sliceB P t size = true) : ∃ e, P.underlying t = some (.slice e) ∧ sizeB P e size = true := by
  unfold sliceB at ha
  split at ha
  · rename_i e hd; exact ⟨e, hd, ha⟩
  · cases ha
theorem op_idx (sm : Sim OK J h w) (hr : SR J nt sl a.tmps) {t : TypeId} {n : Option Nat} {len size : Nat} {x i : Operand} {x' i' : Opd} (ho : o.op = .index t x i) (ha : arrB P t len size = true)
    (hn : (match P.underlying t with | some (.array _ e) => nB P e n | _ => false) = true) (hx : opd nt x x' = true) (hi : opd nt i i' = true)
    (he : o_idx len size n x' i' b C self sl h = some (v, h')) : Done OK J h w ((execOp a.eval o).run P w) v h' := by
  replace he := ret1_some he
  obtain ⟨he, he2⟩ := he
  subst he2
  have rx := opd_sound hr hx
  have ri := opd_sound hr hi
  obtain ⟨e, hd, hs⟩ := arrB_und ha
  simp only [hd] at hn
  unfold idxA at he
  split at he
  · rename_i cs k m h1 h2; rw [h1] at rx; rw [h2] at ri
    obtain ⟨ys, ex, r⟩ := vr_agg rx
    have ei := vr_int ri
    split at he
    · rename_i hb
      obtain ⟨v', h3, h4⟩ := part_sound (P := P) (w := w) hn he r
      refine cast_op (by simp only [execOp, ho]) (Done.val (P := P) (v' := v') sm (s := Instr.index t (a.eval x) (a.eval i)) ?_ h4)
      rw [ex, ei]; simp [Instr.index, asIntOf, und_run w hd, hb, sizeB_run w hs, h3]
    · cases he
  · cases he
theorem op_idxs (sm : Sim OK J h w) (hr : SR J nt sl a.tmps) {t : TypeId} {x i : Operand} {x' i' : Opd} (ho : o.op = .index t x i) (hs : strB P t = true) (hx : opd nt x x' = true) (hi : opd nt i i' = true)
    (he : o_idxs x' i' b C self sl h = some (v, h')) : Done OK J h w ((execOp a.eval o).run P w) v h' := by
  replace he := ret1_some he
  obtain ⟨he, he2⟩ := he
  subst he2
  have rx := opd_sound hr hx
  have ri := opd_sound hr hi
  unfold idxs at he
  split at he
  · rename_i cs k m h1 h2; rw [h1] at rx; rw [h2] at ri
    have ex := vr_string rx
    have ei := vr_int ri
    split at he
    · rename_i hb
      split at he
      · rename_i c hc
        cases he
        have hlt : m.toNat < cs.size := by
          have := (List.getElem?_eq_some_iff.1 hc).1
          simpa using this
        have hc' : cs[m.toNat]? = some c := by
          rw [ByteArray.getElem?_lt' _ _ hlt]
          have := (List.getElem?_eq_some_iff.1 hc).2
          rw [← this]; simp; rfl
        refine cast_op (by simp only [execOp, ho]) (Done.val (P := P) (v' := .int .u8 c.toNat) sm (s := Instr.index t (a.eval x) (a.eval i)) ?_ (.int _ _))
        rw [ex, ei]; simp [Instr.index, asIntOf, und_run w (strB_und hs), hb, hc']
      · cases he
    · cases he
  · cases he
theorem op_fad (sm : Sim OK J h w) (hr : SR J nt sl a.tmps) {t : TypeId} {f off : Nat} {x : Operand} {x' : Opd} (ho : o.op = .fieldAddr t x f)
    (ht : (match P.underlying t with
      | some (.struct fs) => (match fs[f]? with | some fd => fd.offset == off && (match P.info? fd.type with | some i => i.size != 0 | none => false) | none => false)
      | _ => false) = true) (hx : opd nt x x' = true)
    (he : o_fad off x' b C self sl h = some (v, h')) : Done OK J h w ((execOp a.eval o).run P w) v h' := by
  replace he := ret1_some he
  obtain ⟨he, he2⟩ := he
  subst he2
  have rx := opd_sound hr hx
  unfold fad at he
  split at he
  · rename_i p h1; rw [h1] at rx
    obtain ⟨p', e, r⟩ := vr_ptr rx
    cases he
    split at ht
    · rename_i fs hd
      split at ht
      · rename_i fd hf
        simp only [Bool.and_eq_true, beq_iff_eq] at ht
        obtain ⟨rfl, hn⟩ := ht
        split at hn
        · rename_i i hi
          have hn' : i.size ≠ 0 := by simpa using hn
          refine cast_op (by simp only [execOp, ho]) (Done.val (P := P) (v' := .pointer (some (p'.add fd.offset))) sm (s := Instr.fieldAt t (a.eval x) f) ?_ (.ptr (r.plus _)))
          rw [e]; simp [Instr.fieldAt, und_run w hd, hf, Instr.sureAddr, fieldPlace, sizeOf, info_run w hi, hn']
        · cases hn
      · cases ht
    · cases ht
  · cases he
theorem op_iad (sm : Sim OK J h w) (hr : SR J nt sl a.tmps) {t : TypeId} {len size : Nat} {x i : Operand} {x' i' : Opd} (ho : o.op = .indexAddr t x i) (ha : arrB P t len size = true) (hx : opd nt x x' = true) (hi : opd nt i i' = true)
    (he : o_iad len size x' i' b C self sl h = some (v, h')) : Done OK J h w ((execOp a.eval o).run P w) v h' := by
  replace he := ret1_some he
  obtain ⟨he, he2⟩ := he
  subst he2
  have rx := opd_sound hr hx
  have ri := opd_sound hr hi
  obtain ⟨e, hd, hs⟩ := arrB_und ha
  unfold iad at he
  split at he
  · rename_i p k m h1 h2; rw [h1] at rx; rw [h2] at ri
    obtain ⟨p', ex, r⟩ := vr_ptr rx
    have ei := vr_int ri
    split at he
    · rename_i hb
      cases he
      refine cast_op (by simp only [execOp, ho]) (Done.val (P := P) (v' := .pointer (some (p'.add (m.toNat * size)))) sm (s := Instr.indexAt t (a.eval x) (a.eval i)) ?_ (.ptr (r.plus _)))
      rw [ex, ei]; simp [Instr.indexAt, asIntOf, und_run w hd, Instr.sureAddr, hb, sizeB_run w hs]
    · cases he
  · cases he
theorem op_ias (sm : Sim OK J h w) (hr : SR J nt sl a.tmps) {t : TypeId} {size : Nat} {x i : Operand} {x' i' : Opd} (ho : o.op = .indexAddr t x i) (ha : sliceB P t size = true) (hx : opd nt x x' = true) (hi : opd nt i i' = true)
    (he : o_ias size x' i' b C self sl h = some (v, h')) : Done OK J h w ((execOp a.eval o).run P w) v h' := by
  replace he := ret1_some he
  obtain ⟨he, he2⟩ := he
  subst he2
  have rx := opd_sound hr hx
  have ri := opd_sound hr hi
  obtain ⟨e, hd, hs⟩ := sliceB_und ha
  unfold ias at he
  split at he
  · rename_i p len cap k m h1 h2; rw [h1] at rx; rw [h2] at ri
    obtain ⟨p', cap', ex, r, hlc⟩ := vr_sl rx
    have ei := vr_int ri
    split at he
    · rename_i hb
      simp only [Option.some.injEq] at he
      subst he
      refine cast_op (by simp only [execOp, ho]) (Done.val (P := P) (v' := .pointer (some (p'.add (m.toNat * size)))) sm (s := Instr.indexAt t (a.eval x) (a.eval i)) ?_ (.ptr ((r.addr ?_).plus _)))
      · rw [ex, ei]; simp [Instr.indexAt, asIntOf, und_run w hd, hb, sizeB_run w hs]
      · omega
    · cases he
  · cases he
end
end Go.Ab

/- Slicing, lengths, comparisons, maps read. -/
namespace Go.Ab

section
variable {OK : Nat → Code → ACode → Prop} {P : Program} {J : Inj} {h h' : AHeap} {w : World} {nt : Nat} {sl : Slots} {a : Act} {o : Oper} {v : Value}
  {b : Bool} {C : Cfg} {self : Task → Option Res}

theorem bnd_int {x x' : Option Value} {d y n : Nat} (hb : bnd x d y = some n) (r : OR J x x') :
    (x = none ∧ x' = none ∧ n = d) ∨ ∃ k i, x = some (.int k i) ∧ x' = some (.int k i) ∧ 0 ≤ i ∧ i ≤ y ∧ n = i.toNat := by
  unfold bnd at hb
  split at hb
  · cases hb
    cases x' with
    | none => exact .inl ⟨rfl, rfl, rfl⟩
    | some x' => exact r.elim
  · rename_i k i
    split at hb
    · rename_i hi
      cases hb
      cases x' with
      | none => exact r.elim
      | some x' =>
        have := vr_int (show VR J _ _ from r)
        exact .inr ⟨k, i, rfl, by rw [this], hi.1, hi.2, rfl⟩
    · cases hb
  · cases hb
theorem bound_run {k : IntKind} {i : Int} {y : Nat} (c : BoundsCode) (h0 : 0 ≤ i) (h1 : i ≤ y) : (Instr.sliceBound (.int k i) y c).run P w = .ok i.toNat w := by
  simp [Instr.sliceBound, asIntOf, h0, h1]
theorem low_run {lo lo' : Option Value} {h0 l0 : Nat} (c : BoundsCode) (e3 : bnd lo 0 h0 = some l0) (rl : OR J lo lo') :
    (match (generalizing := false) lo' with | some v => Instr.sliceBound v h0 c | none => pure 0 : Sem Nat).run P w = .ok l0 w ∧ l0 ≤ h0 := by
  rcases bnd_int e3 rl with ⟨_, r2, r3⟩ | ⟨k, i, _, r2, r3, r4, r5⟩
  · subst r3; subst r2; exact ⟨rfl, Nat.zero_le _⟩
  · subst r5; subst r2; exact ⟨bound_run c r3 r4, by omega⟩
theorem low_bind {lo' : Option Value} {h0 l0 m : Nat} {c : BoundsCode}
    (e : (match lo' with | some v => Instr.sliceBound v h0 c | none => pure 0 : Sem Nat).run P w = .ok l0 w) :
    Sem.run P (match lo' with | some v => do let l ← Instr.sliceBound v h0 c; pure (l, h0, m) | none => do let l ← pure 0; pure (l, h0, m)) w = .ok (l0, h0, m) w := by
  cases lo' with
  | none => simp at e; subst e; rfl
  | some v => simp only at e; simp [e]
theorem bnds_sound {isS : Bool} {len cap cap' l hh m : Nat} {lo hi mx lo' hi' mx' : Option Value} (hc : cap ≤ cap') (hb : bnds len cap lo hi mx = some (l, hh, m)) (hlen : len ≤ cap)
    (rl : OR J lo lo') (rh : OR J hi hi') (rm : OR J mx mx') :
    ∃ m', (Instr.sliceBounds isS len cap' lo' hi' mx').run P w = .ok (l, hh, m') w ∧ l ≤ hh ∧ hh ≤ m ∧ m ≤ cap ∧ m ≤ m' ∧ ((m = cap ∧ m' = cap') ∨ m' = m) ∧ (mx.isSome = true → m' = m) := by
  unfold bnds at hb
  cases e1 : bnd mx cap cap with
  | none => simp [e1] at hb
  | some m0 =>
    simp only [e1] at hb
    cases e2 : (if mx.isSome && hi.isNone then none else bnd hi len m0) with
    | none => rw [e2] at hb; cases hb
    | some h0 =>
      simp only [e2] at hb
      cases e3 : bnd lo 0 h0 with
      | none => simp [e3] at hb
      | some l0 =>
        simp only [e3, Option.some.injEq, Prod.mk.injEq] at hb
        obtain ⟨rfl, rfl, rfl⟩ := hb
        have low := fun c => low_run (P := P) (w := w) (J := J) c e3 rl
        rcases bnd_int e1 rm with ⟨r1, r2, r3⟩ | ⟨k, i, r1, r2, r3, r4, r5⟩
        · subst r3
          rw [r1] at e2
          simp only [Option.isSome_none, Bool.false_and, Bool.false_eq_true, if_false] at e2
          rcases bnd_int e2 rh with ⟨_, s2, s3⟩ | ⟨k', i', _, s2, s3, s4, s5⟩
          · subst s3
            refine ⟨cap', ?_, (low .sliceB).2, hlen, Nat.le_refl _, hc, .inl ⟨rfl, rfl⟩, fun h => by rw [r1] at h; cases h⟩
            simp only [Instr.sliceBounds, r2, s2, Sem.run_bind, Sem.run_pure, Result.andThen_ok, Option.isSome_none, Bool.false_eq_true, if_false]
            exact low_bind (low .sliceB).1
          · subst s5
            refine ⟨cap', ?_, (low .sliceB).2, by omega, Nat.le_refl _, hc, .inl ⟨rfl, rfl⟩, fun h => by rw [r1] at h; cases h⟩
            have hb1 := fun c => bound_run (P := P) (w := w) (k := k') (y := cap') c s3 (by omega)
            simp only [Instr.sliceBounds, r2, s2, Sem.run_bind, Sem.run_pure, Result.andThen_ok, Option.isSome_none, Bool.false_eq_true, if_false, hb1]
            exact low_bind (low .sliceB).1
        · subst r5
          rw [r1] at e2
          cases hi with
          | none => simp at e2
          | some hv =>
            simp only [Option.isSome_some, Option.isNone_some, Bool.and_false, Bool.false_eq_true, if_false] at e2
            rcases bnd_int e2 rh with ⟨s1, _, _⟩ | ⟨k', i', _, s2, s3, s4, s5⟩
            · cases s1
            · subst s5
              refine ⟨i.toNat, ?_, (low .slice3C).2, by omega, by omega, Nat.le_refl _, .inr rfl, fun _ => rfl⟩
              have hb0 := fun c => bound_run (P := P) (w := w) (k := k) (y := cap') c r3 (by omega)
              have hb1 := fun c => bound_run (P := P) (w := w) (k := k') (y := i.toNat) c s3 (by omega)
              simp only [Instr.sliceBounds, r2, s2, Sem.run_bind, Sem.run_pure, Result.andThen_ok, Option.isSome_some, if_true, hb0, hb1]
              exact low_bind (low .slice3C).1
theorem op_slstr (sm : Sim OK J h w) (hr : SR J nt sl a.tmps) {t : TypeId} {x : Operand} {lo hi : Option Operand} {x' : Opd} {lo' hi' : Option Opd} (ho : o.op = .slice t x lo hi none) (hs : strB P t = true)
    (hx : opd nt x x' = true) (hl : opdO nt lo lo' = true) (hh : opdO nt hi hi' = true)
    (he : o_slstr x' lo' hi' b C self sl h = some (v, h')) : Done OK J h w ((execOp a.eval o).run P w) v h' := by
  replace he := ret1_some he
  obtain ⟨he, he2⟩ := he
  subst he2
  have rx := opd_sound hr hx
  have rl := opdO_sound hr hl
  have rh := opdO_sound hr hh
  unfold slstr at he
  split at he
  · rename_i s h1; rw [h1] at rx
    have ex := vr_string rx
    split at he
    · rename_i l hh m hb
      cases he
      obtain ⟨m', h2, _⟩ := bnds_sound (P := P) (w := w) (isS := false) (Nat.le_refl _) hb (Nat.le_refl _) rl rh (show OR J none none from trivial)
      refine cast_op (by simp only [execOp, ho]) (Done.val (P := P) (v' := .string (s.extract l hh)) sm (s := Instr.sliceAt t (a.eval x) (lo.map a.eval) (hi.map a.eval) (Option.map a.eval none)) ?_ (.string _))
      rw [ex]; simp [Instr.sliceAt, Instr.slice, und_run w (strB_und hs), h2]
    · cases he
  · cases he
theorem tag_some {u : Nat} {size : Nat} (ht : tagOk (some u) size = true) (hu : u ≠ 0) : u = size := by
  simp only [tagOk, Bool.or_eq_true, beq_iff_eq] at ht
  exact ht.resolve_left hu
theorem SlR.slice {p p' : Addr} {c c' l m m' size : Nat} (r : SlR J p c p' c') (ht : tagOk p.spot size = true) (hm : m ≤ c) (hmm : m ≤ m') (hcase : (m = c ∧ m' = c') ∨ m' = m) (hl : l ≤ m) :
    SlR J (Ab.plus p (l * size)) (m - l) (if m' = l then p' else p'.add (l * size)) (m' - l) := by
  unfold SlR at *
  cases hs : p.spot with
  | none =>
    simp only [hs, Ab.plus] at r ⊢
    obtain ⟨rfl, r2⟩ := r
    have : m' = m := by rcases hcase with ⟨h1, h2⟩ | h1 <;> omega
    subst this
    refine ⟨rfl, ?_⟩
    by_cases e : m' = l
    · exact .inl (by omega)
    · right
      rw [if_neg e]
      have : p' = p := r2.resolve_left (by omega)
      subst this
      rw [add_none hs]
  | some u =>
    simp only [hs, Ab.plus] at r ⊢
    obtain ⟨pl, hj, h1, h2, h3⟩ := r
    refine ⟨pl, hj, by omega, ?_, ?_⟩
    · by_cases e : m' = l
      · exact .inl (by omega)
      · right
        rw [if_neg e]
        have : p' = ⟨pl.b, pl.off + p.off, none⟩ := h2.resolve_left (by rcases hcase with ⟨_, e2⟩ | e2 <;> omega)
        subst this
        rw [add_none rfl, Nat.add_assoc]
    · rcases hcase with ⟨e1, e2⟩ | e2
      · subst e1; subst e2
        rcases h3 with h3 | ⟨h3, h4⟩
        · exact .inl (by omega)
        · right
          refine ⟨h3, ?_⟩
          have hu : u = size := tag_some (by rw [← hs]; exact ht) h3
          subst hu
          have : l * u + (m' - l) * u = m' * u := by rw [← Nat.add_mul]; congr 1; omega
          omega
      · exact .inl (by omega)
theorem SlR.xct {p p' : Addr} {c c' : Nat} {mx : Option Value} (r : SlR J p c p' c') (hm : mx.isSome = true → c' = c) : SlR J (Ab.xct mx p) c p' c' := by
  unfold Ab.xct
  split
  · rename_i v u e
    have hc := hm rfl
    unfold SlR at *
    simp only [e] at r ⊢
    obtain ⟨pl, hj, h1, h2, _⟩ := r
    exact ⟨pl, hj, h1, h2, .inl hc⟩
  · exact r
theorem op_slsl (sm : Sim OK J h w) (hr : SR J nt sl a.tmps) {t : TypeId} {size : Nat} {x : Operand} {lo hi mx : Option Operand} {x' : Opd} {lo' hi' mx' : Option Opd} (ho : o.op = .slice t x lo hi mx) (hs : sliceB P t size = true)
    (hx : opd nt x x' = true) (hl : opdO nt lo lo' = true) (hh : opdO nt hi hi' = true) (hm : opdO nt mx mx' = true)
    (he : o_slsl size x' lo' hi' mx' b C self sl h = some (v, h')) : Done OK J h w ((execOp a.eval o).run P w) v h' := by
  replace he := ret1_some he
  obtain ⟨he, he2⟩ := he
  subst he2
  have rx := opd_sound hr hx
  have rl := opdO_sound hr hl
  have rh := opdO_sound hr hh
  have rm := opdO_sound hr hm
  obtain ⟨e, hd, hsz⟩ := sliceB_und hs
  unfold slsl at he
  split at he
  · rename_i len cap h1; rw [h1] at rx
    have ex := vr_slN rx
    split at he
    · rename_i hlc
      split at he
      · rename_i l hh m hb
        cases he
        obtain ⟨m', h2, _, _, _, _, h3, _⟩ := bnds_sound (P := P) (w := w) (isS := true) (Nat.le_refl _) hb hlc rl rh rm
        have : m' = m := by omega
        subst this
        refine cast_op (by simp only [execOp, ho]) (Done.val (P := P) (v' := .slice none (hh - l) (m' - l)) sm (s := Instr.sliceAt t (a.eval x) (lo.map a.eval) (hi.map a.eval) (mx.map a.eval)) ?_ (.slN _ _))
        rw [ex]; simp [Instr.sliceAt, Instr.slice, und_run w hd, h2, sizeB_run w hsz]
      · cases he
    · cases he
  · rename_i p len cap h1; rw [h1] at rx
    obtain ⟨p', cap', ex, r, hlc⟩ := vr_sl rx
    split at he
    · rename_i htag
      split at he
      · rename_i l hh m hb
        cases he
        have hcc : cap ≤ cap' := by
          unfold SlR at r
          cases hsp : p.spot with
          | none => simp only [hsp] at r; omega
          | some u => simp only [hsp] at r; obtain ⟨_, _, h, _⟩ := r; exact h
        obtain ⟨m', h2, h3, h4, h5, h6, h7, h8⟩ := bnds_sound (P := P) (w := w) (isS := true) hcc hb hlc rl rh rm
        refine cast_op (by simp only [execOp, ho]) (Done.val (P := P) (v' := .slice (some (if m' = l then p' else p'.add (l * size))) (hh - l) (m' - l)) sm
          (s := Instr.sliceAt t (a.eval x) (lo.map a.eval) (hi.map a.eval) (mx.map a.eval)) ?_ (.sl _ (by omega) (SlR.xct (r.slice htag h5 h6 h7 (by omega)) (fun h => by rw [h8 h]))))
        rw [ex]; simp [Instr.sliceAt, Instr.slice, und_run w hd, h2, sizeB_run w hsz]
        split <;> simp
      · cases he
    · cases he
  · cases he
end
end Go.Ab

/- Operations that make new memory, and that write. -/
namespace Go.Ab

section
variable {OK : Nat → Code → ACode → Prop} {P : Program} {J : Inj} {h h' : AHeap} {w : World} {nt : Nat} {sl : Slots} {a : Act} {o : Oper} {v : Value}
  {b : Bool} {C : Cfg} {self : Task → Option Res}

theorem setRow_setBlk {w : World} {g : Nat} {cur : Array Value} {t : TypeId} {fr : Nat × Nat} (hg : w.heap[g]? = some (.cells cur t fr)) (cs : Array Value) : w.setRow g cs = setBlk w g (.cells cs t fr) := by
  have hlt : g < w.heap.size := (Array.getElem?_eq_some_iff.1 hg).1
  have hv : w.heap[g] = .cells cur t fr := (Array.getElem?_eq_some_iff.1 hg).2
  unfold World.setRow setBlk
  congr 1
  apply Array.ext
  · simp
  · intro i h1 h2
    by_cases e : i = g
    · subst e; simp [Array.getElem_modify, hv]
    · rw [Array.getElem_modify, if_neg (Ne.symm e), Array.getElem_setIfInBounds_ne _ (Ne.symm e)]
theorem vr_oneCell {x y : Value} (r : VR J x y) (h : okCell x = true) : y.oneCell' = true := by
  cases r <;> first
    | rfl
    | (simp [okCell, undef, skipV] at h; done)
theorem lr_oneCell {xs ys : List Value} (r : LR J xs ys) (h : xs.all okCell = true) : ∀ y ∈ ys, y.oneCell' = true := by
  intro y hy
  obtain ⟨i, hi⟩ := List.getElem?_of_mem hy
  have hlt : i < xs.length := by rw [r.1]; exact (List.getElem?_eq_some_iff.1 hi).1
  exact vr_oneCell (r.2 i _ y (List.getElem?_eq_getElem hlt) hi) (List.all_eq_true.1 h _ (List.getElem_mem hlt))
theorem LR.getD {xs ys : List Value} (r : LR J xs ys) : xs.length = ys.length := r.1

theorem stCells_sound (sm : Sim OK J h w) {p p' : Addr} {vs vs' : List Value} (he : stCells b p vs h = some h') (ha : AddrR J p p') (r : LR J vs vs') :
    ∃ w', (storeCells p' vs').run P w = .ok () w' ∧ Next OK J h w J h' w' := by
  unfold stCells at he
  unfold AddrR at ha
  cases hs : p.spot with
  | none => simp [hs] at he
  | some u =>
    simp only [hs] at he ha
    obtain ⟨pl, hj, rfl⟩ := ha
    cases hg : h.get p.block with
    | none => simp [hg] at he
    | some ob =>
      cases ob with
      | cells c =>
        simp only [hg] at he
        split at he
        · rename_i hc
          obtain ⟨hc1, hc2⟩ := hc
          cases he
          obtain ⟨_, pl', ob, hj', hb, ho⟩ := sm.obj _ _ hg
          rw [hj] at hj'; cases hj'
          cases ob <;> simp only [ObjR] at ho
          rename_i arr e fz
          obtain ⟨rfl, h3, h4, h5⟩ := ho
          have hlen := r.1
          have hst := run_storeCells_at P pl.b (pl.off + p.off) e vs' 0 arr w hb (by omega) (lr_oneCell r hc2)
          refine ⟨_, hst, ?_⟩
          rw [setRow_setBlk hb]
          refine Next.put sm b hg hj ?_
          simp only [ObjR]
          have hsz : (arr.toList.take (pl.off + p.off + 0) ++ vs' ++ arr.toList.drop (pl.off + p.off + 0 + vs'.length)).length = arr.size := by
            simp; omega
          refine ⟨trivial, ?_, ?_, ?_⟩
          · simp; omega
          · simp at hsz ⊢; omega
          · intro i x hx
            rw [List.getElem?_append] at hx
            by_cases hi : i < p.off
            · rw [if_pos (by simp; omega), List.getElem?_take, if_pos hi] at hx
              obtain ⟨v', e1, e2⟩ := h5 i x hx
              refine ⟨v', ?_, e2⟩
              rw [List.getElem?_toArray, List.append_assoc, List.getElem?_append, if_pos (by simp; omega), List.getElem?_take, if_pos (by omega), Array.getElem?_toList]
              exact e1
            · have hm : Nat.min p.off c.length = p.off := Nat.min_eq_left (by omega)
              rw [if_neg (by simp; omega)] at hx
              simp only [List.length_take, show min p.off c.length = p.off from hm] at hx
              rw [List.getElem?_append] at hx
              by_cases hi2 : i - p.off < vs.length
              · rw [if_pos hi2] at hx
                obtain ⟨v', e1, e2⟩ := r.get hx
                refine ⟨v', ?_, e2⟩
                rw [List.getElem?_toArray, List.append_assoc, List.getElem?_append, if_neg (by simp; omega), List.getElem?_append, if_pos (by simp; omega)]
                rw [← e1]; congr 1; simp; omega
              · rw [if_neg hi2, List.getElem?_drop] at hx
                have : p.off + vs.length + (i - p.off - vs.length) = i := by omega
                rw [this] at hx
                obtain ⟨v', e1, e2⟩ := h5 i x hx
                refine ⟨v', ?_, e2⟩
                rw [List.getElem?_toArray, List.append_assoc, List.getElem?_append, if_neg (by simp; omega), List.getElem?_append, if_neg (by simp; omega), List.getElem?_drop, Array.getElem?_toList]
                rw [← e1]; congr 1; simp; omega
        · cases he
      | _ => simp [hg] at he

theorem Done.unit {w' : World} {s : Sem Unit} (hs : s.run P w = .ok () w') (hn : Next OK J h w J h' w') :
    Done OK J h w ((do s; pure .skip : Sem Go.Next).run P w) undef h' :=
  ⟨undef, w', J, .inr ⟨by simp [hs], rfl⟩, .undef _, hn⟩

theorem vr_cells {x y : Value} (r : VR J x y) (hx : x ≠ undef) : LR J x.cells.toList y.cells.toList := by
  cases r with
  | undef => exact absurd rfl hx
  | skip => exact .cons .skip (.nil J)
  | agg h1 h2 => exact ⟨by simpa [Value.cells] using h1, fun i x y hx hy => h2 i x y (by simpa [Value.cells] using hx) (by simpa [Value.cells] using hy)⟩
  | tuple h1 h2 => exact .cons (.tuple h1 h2) (.nil J)
  | bool => exact .cons (.bool _) (.nil J)
  | int => exact .cons (.int _ _) (.nil J)
  | string => exact .cons (.string _) (.nil J)
  | ptrN => exact .cons .ptrN (.nil J)
  | ptr r => exact .cons (.ptr r) (.nil J)
  | slN => exact .cons (.slN _ _) (.nil J)
  | sl l h r => exact .cons (.sl l h r) (.nil J)
  | mapN => exact .cons .mapN (.nil J)
  | map r => exact .cons (.map r) (.nil J)
  | nilFunc => exact .cons .nilFunc (.nil J)
  | nilIface => exact .cons .nilIface (.nil J)
  | func f h1 h2 h3 h4 => exact .cons (.func f h1 h2 h3 h4) (.nil J)
  | yield r => exact .cons (.yield r) (.nil J)
theorem op_st (sm : Sim OK J h w) (hr : SR J nt sl a.tmps) {t : TypeId} {n : Nat} {x y : Operand} {x' y' : Opd} (ho : o.op = .store t x y) (hn : sizeB P t n = true) (hx : opd nt x x' = true) (hy : opd nt y y' = true)
    (he : o_st n x' y' b C self sl h = some (v, h')) : Done OK J h w ((execOp a.eval o).run P w) v h' := by
  have rx := opd_sound hr hx
  have ry := opd_sound hr hy
  simp only [o_st, stP] at he
  split at he
  · rename_i p h1; rw [h1] at rx
    obtain ⟨p', e, r⟩ := vr_ptr rx
    unfold stA at he
    split at he
    · rename_i hsz
      cases hst : stCells b p (evA sl y').cells.toList h with
      | none => simp [hst, retU] at he
      | some h2 =>
        simp only [hst, retU, Option.some.injEq, Prod.mk.injEq] at he
        obtain ⟨rfl, rfl⟩ := he
        have hne : evA sl y' ≠ undef := fun e => by
          rw [e] at hst
          unfold stCells at hst
          split at hst
          · split at hst
            · rename_i hc; simp [undef, Value.cells, okCell] at hc
            · cases hst
          · cases hst
        have lr := vr_cells ry hne
        obtain ⟨w', hw, hnx⟩ := stCells_sound (P := P) sm hst r lr
        refine cast_op (by simp only [execOp, ho]) (Done.unit (P := P) (s := Instr.storeAt t (a.eval x) (a.eval y)) ?_ hnx)
        have hsz' : (a.eval y).cells.size = n := by
          have := lr.1; simp only [Array.length_toList] at this; omega
        rw [e]; simp [Instr.storeAt, Instr.sureAddr, storeVar, hsz', sizeB_run w hn, hw]
    · simp [retU] at he
  · cases he

/-! ### New memory -/
theorem alloc_cells (sm : Sim OK J h w) (f : J h.next = none) {c : List Value} {arr : Array Value} {e : TypeId} (hr : LR (J.upd h.next ⟨w.heap.size, 0, arr.size⟩) c arr.toList) :
    Next OK J h w (J.upd h.next ⟨w.heap.size, 0, arr.size⟩) (h.add b (.cells c)) (w.alloc (.cells arr e)) := by
  refine Next.alloc sm b _ _ _ rfl f ?_
  simp only [ObjR]
  have hl := hr.1
  simp only [Array.length_toList] at hl
  refine ⟨trivial, by omega, by omega, fun i v hv => ?_⟩
  obtain ⟨y, hy, ry⟩ := hr.get hv
  exact ⟨y, by rw [Nat.zero_add, ← Array.getElem?_toList]; exact hy, ry⟩
theorem run_newRow (e : TypeId) (cs : Array Value) : (newRow e cs).run P w = .ok ⟨w.heap.size, 0, none⟩ (w.alloc (.cells cs e)) := rfl
theorem Done.new (sm : Sim OK J h w) (f : J h.next = none) {s : Sem Value} {c : List Value} {arr : Array Value} {e : TypeId} {v' : Value}
    (hs : s.run P w = .ok v' (w.alloc (.cells arr e))) (hr : LR J c arr.toList) (hv : VR (J.upd h.next ⟨w.heap.size, 0, arr.size⟩) v v') :
    Done OK J h w ((do pure (Go.Next.value (← s)) : Sem Go.Next).run P w) v (h.add b (.cells c)) :=
  ⟨v', w.alloc (.cells arr e), _, .inl (by simp [hs]), hv, alloc_cells sm f (hr.mono (Inj.le_upd f))⟩
theorem vr_new (k : Nat) (pl : Place) (h0 : pl.off = 0) : VR (J.upd k pl) (.pointer (some (nb k 0))) (.pointer (some ⟨pl.b, 0, none⟩)) :=
  .ptr ⟨pl, Inj.upd_same _ _ _, by simp [nb, h0]⟩
theorem vr_newSl (k : Nat) (pl : Place) (h0 : pl.off = 0) {l c : Nat} (hl : l ≤ c) : VR (J.upd k pl) (.slice (some (nb k 0)) l c) (.slice (some ⟨pl.b, 0, none⟩) l c) :=
  .sl l hl ⟨pl, Inj.upd_same _ _ _, Nat.le_refl _, .inr (by simp [nb, h0]), .inl rfl⟩

theorem op_box (sm : Sim OK J h w) (f : J h.next = none) (hr : SR J nt sl a.tmps) {t : TypeId} {x : Operand} {x' : Opd} (ho : o.op = .box t x) (hx : opd nt x x' = true)
    (he : o_box x' b C self sl h = some (v, h')) : Done OK J h w ((execOp a.eval o).run P w) v h' := by
  have rx := opd_sound hr hx
  simp only [o_box] at he
  have hu : evA sl x' ≠ undef := fun e => by rw [e] at he; cases he
  have hu' : isU (evA sl x') = false := by
    cases hv : isU (evA sl x') with
    | false => rfl
    | true => rw [hv] at he; cases he
  rw [hu'] at he
  simp only [Option.some.injEq, Prod.mk.injEq] at he
  obtain ⟨rfl, rfl⟩ := he
  refine cast_op (by simp only [execOp, ho]) (Done.new (P := P) (e := t) sm f (s := Instr.box t (a.eval x)) (v' := .pointer (some ⟨w.heap.size, 0, none⟩)) ?_ (vr_cells rx hu) (vr_new _ _ rfl))
  simp [Instr.box, newVar, run_newRow]
theorem op_zero (sm : Sim OK J h w) (f : J h.next = none) {e : TypeId} {z : List Value} (ho : o.op = .alloc e) (hz : zeroB P e z = true)
    (he : o_zero z b C self sl h = some (v, h')) : Done OK J h w ((execOp a.eval o).run P w) v h' := by
  simp only [o_zero, Option.some.injEq, Prod.mk.injEq] at he
  obtain ⟨rfl, rfl⟩ := he
  obtain ⟨zv, h1, h2, h3⟩ := zeroB_run (P := P) w hz J
  refine cast_op (by simp only [execOp, ho]) (Done.new (P := P) (e := e) sm f (s := Instr.alloc e true (.tuple #[])) (v' := .pointer (some ⟨w.heap.size, 0, none⟩)) ?_ h3 (vr_new _ _ rfl))
  simp [Instr.alloc, h1, newVar, run_newRow]
theorem op_mkmap (sm : Sim OK J h w) (f : J h.next = none) {t : TypeId} (ho : o.op = .makeMap t none)
    (he : o_mkmap b C self sl h = some (v, h')) : Done OK J h w ((execOp a.eval o).run P w) v h' := by
  simp only [o_mkmap, Option.some.injEq, Prod.mk.injEq] at he
  obtain ⟨rfl, rfl⟩ := he
  refine ⟨.map (some w.heap.size), w.alloc (.map #[] 0), J.upd h.next ⟨w.heap.size, 0, 0⟩, .inl ?_, .map (Inj.upd_same _ _ _), Next.alloc sm b _ _ _ rfl f ?_⟩
  · simp only [execOp, ho]; simp [Instr.makeMap]
  · simp only [ObjR]; exact ⟨trivial, rfl, fun i k v hv => by simp at hv, fun i e he => by simp at he⟩
theorem op_rstr (sm : Sim OK J h w) (f : J h.next = none) (hr : SR J nt sl a.tmps) {t : TypeId} {x : Operand} {x' : Opd} (ho : o.op = .range t x) (ht : strB P t = true) (hx : opd nt x x' = true)
    (he : o_rstr x' b C self sl h = some (v, h')) : Done OK J h w ((execOp a.eval o).run P w) v h' := by
  have rx := opd_sound hr hx
  simp only [o_rstr, rstr] at he
  split at he
  · rename_i s h1
    rw [h1] at rx
    have ex := vr_string rx
    simp only [Option.some.injEq, Prod.mk.injEq] at he
    obtain ⟨rfl, rfl⟩ := he
    refine ⟨.pointer (some ⟨w.heap.size, 0, none⟩), w.alloc (.stringIter s 0), J.upd h.next ⟨w.heap.size, 0, 0⟩, .inl ?_, vr_new _ _ rfl, Next.alloc sm b _ _ _ rfl f ?_⟩
    · simp only [execOp, ho]; rw [ex]; simp [Instr.range, und_run w (strB_und ht)]
    · simp only [ObjR]; exact ⟨trivial, trivial, trivial⟩
  · cases he
theorem op_nexts (sm : Sim OK J h w) (hr : SR J nt sl a.tmps) {x : Operand} {x' : Opd} (ho : o.op = .next x true) (hx : opd nt x x' = true)
    (he : o_nexts x' b C self sl h = some (v, h')) : Done OK J h w ((execOp a.eval o).run P w) v h' := by
  have rx := opd_sound hr hx
  simp only [o_nexts, nexts] at he
  split at he
  · rename_i r u h1
    rw [h1] at rx
    obtain ⟨p', e, hp⟩ := vr_ptr rx
    obtain ⟨pl, hj, hp⟩ : ∃ pl, J r = some pl ∧ p' = ⟨pl.b, pl.off + 0, none⟩ := hp
    split at he
    · rename_i s pos hg
      obtain ⟨_, pl', ob, hj', hb, hob⟩ := sm.obj _ _ hg
      rw [hj] at hj'; cases hj'
      cases ob <;> simp only [ObjR] at hob
      obtain ⟨h0, rfl, rfl⟩ := hob
      have hp : p' = ⟨pl.b, 0, none⟩ := by rw [hp, h0]
      split at he
      · rename_i hlt
        simp only [Option.some.injEq, Prod.mk.injEq] at he
        obtain ⟨rfl, rfl⟩ := he
        refine ⟨.tuple #[.bool true, goInt pos, .int .i32 (Utf8.decode s pos).1], _, J, .inl ?_, ?_, Next.put sm b hg hj (ob' := .stringIter s (pos + (Utf8.decode s pos).2)) ?_⟩
        · simp only [execOp, ho]; rw [e, hp]
          simp [Instr.next, getObj, setObj, Sem.run, hb, hlt, setBlk]
        · exact .tupleL (xs := [_, _, _]) (ys := [_, _, _]) (.cons (.bool _) (.cons (.int _ _) (.cons (.int _ _) (.nil J))))
        · simp only [ObjR]; exact ⟨h0, trivial, trivial⟩
      · rename_i hlt
        simp only [Option.some.injEq, Prod.mk.injEq] at he
        obtain ⟨rfl, rfl⟩ := he
        refine ⟨.tuple #[.bool false], w, J, .inl ?_, ?_, .refl sm⟩
        · simp only [execOp, ho]; rw [e, hp]
          simp [Instr.next, getObj, Sem.run, hb, hlt]
        · exact .tupleL (xs := [_]) (ys := [_]) (.cons (.bool _) (.nil J))
    · cases he
  · cases he
end
end Go.Ab

/- Building, making rows, lengths, least and greatest, bytes to strings. -/
namespace Go.Ab

section
variable {OK : Nat → Code → ACode → Prop} {P : Program} {J : Inj} {h h' : AHeap} {w : World} {nt : Nat} {sl : Slots} {a : Act} {o : Oper} {v : Value}
  {b : Bool} {C : Cfg} {self : Task → Option Res}

/-! ### Parts laid into cells -/
theorem foldl_lay (off : Nat) : ∀ (l : List Value) (k : Nat) (cs : Array Value), off + k + l.length ≤ cs.size →
    ((l.zipIdx k).foldl (fun (cs : Array Value) (x : Value × Nat) => cs.setIfInBounds (off + x.2) x.1) cs).toList = cs.toList.take (off + k) ++ (l ++ cs.toList.drop (off + k + l.length))
  | [], k, cs, _ => by simp
  | x :: l, k, cs, h => by
    simp only [List.length_cons] at h
    simp only [List.zipIdx_cons, List.foldl_cons]
    rw [foldl_lay off l (k + 1) (cs.setIfInBounds (off + k) x) (by simp; omega)]
    apply List.ext_getElem?
    intro i
    simp only [Array.toList_setIfInBounds, List.getElem?_append, List.length_take, List.length_set, Array.length_toList, List.getElem?_take, List.getElem?_drop, List.getElem?_cons, List.getElem?_set, List.length_cons]
    by_cases h1 : i < off + k
    · rw [if_pos (by omega), if_pos (by omega), if_neg (by omega), if_pos (by omega), if_pos h1]
    · by_cases h2 : i = off + k
      · subst h2
        rw [if_pos (by omega), if_pos (by omega), if_pos rfl, if_pos (by omega), if_neg (by omega), if_pos (by omega)]
        have : off + k - min (off + k) cs.size = 0 := by omega
        simp [this]
      · rw [if_neg (by omega)]
        rw [show min (off + (k + 1)) cs.size = off + (k + 1) by omega]
        rw [if_neg (show ¬ i < min (off + k) cs.size by omega), show min (off + k) cs.size = off + k by omega]
        by_cases h3 : i - (off + (k + 1)) < l.length
        · rw [if_pos h3, if_pos (by omega), if_neg (by omega)]
          congr 1; try omega
        · rw [if_neg h3, if_neg (show ¬ i - (off + k) < l.length + 1 by omega), if_neg (by omega)]
          congr 1; try omega
theorem lay_eq (off : Nat) (vs cs : Array Value) (h : off + vs.size ≤ cs.size) :
    (vs.zipIdx.foldl (fun (cs : Array Value) (x : Value × Nat) => cs.setIfInBounds (off + x.2) x.1) cs).toList = cs.toList.take off ++ (vs.toList ++ cs.toList.drop (off + vs.size)) := by
  rw [← Array.foldl_toList, Array.toList_zipIdx]
  simpa using foldl_lay off vs.toList 0 cs (by simpa using h)
theorem vr_cells_size {x y : Value} (r : VR J x y) (hx : isU x = false) : LR J x.cells.toList y.cells.toList := vr_cells r (fun e => by rw [e] at hx; cases hx)
theorem fill_sound {place : Nat → Option (Nat × Nat)} (hr : SR J nt sl a.tmps) : ∀ {ps : List (Nat × Operand)} {qs : List (Nat × Nat × Opd)} {cells cells' : List Value} {arr : Array Value},
    partsB nt place ps qs = true → fillL cells (pEv sl qs) = some cells' → LR J cells arr.toList →
    ∃ arr', Instr.fill place arr (ps.map fun x => (x.1, a.eval x.2)) = some arr' ∧ LR J cells' arr'.toList
  | [], [], cells, cells', arr, _, hf, r => by
    simp only [pEv, fillL, Option.some.injEq] at hf; subst hf
    exact ⟨arr, rfl, r⟩
  | [], _ :: _, _, _, _, hp, _, _ => by simp [partsB] at hp
  | _ :: _, [], _, _, _, hp, _, _ => by simp [partsB] at hp
  | (i, x) :: ps, (o, n, y) :: qs, cells, cells', arr, hp, hf, r => by
    simp only [partsB, Bool.and_eq_true] at hp
    obtain ⟨⟨h1, h2⟩, h3⟩ := hp
    simp only [pEv, fillL] at hf
    split at hf
    · rename_i hc
      obtain ⟨hc0, hc1, hc2⟩ := hc
      have rv := vr_cells_size (opd_sound hr h2) hc0
      have hsz : (a.eval x).cells.size = n := by have := rv.1; simp only [Array.length_toList] at this; omega
      have hlen := r.1
      simp only [Array.length_toList] at hlen
      split at h1
      · rename_i o' n' hpl
        simp only [Bool.and_eq_true, beq_iff_eq] at h1
        obtain ⟨rfl, rfl⟩ := h1
        have hlay := lay_eq o (a.eval x).cells arr (by omega)
        obtain ⟨arr', h4, h5⟩ := fill_sound (place := place) hr (arr := (a.eval x).cells.zipIdx.foldl (fun cs (c, j) => cs.setIfInBounds (o + j) c) arr) h3 hf (by
          have e : ((a.eval x).cells.zipIdx.foldl (fun cs (c, j) => cs.setIfInBounds (o + j) c) arr).toList = _ := hlay
          rw [e, hsz]
          exact (r.take o).append (rv.append (r.drop (o + n))))
        refine ⟨arr', ?_, h5⟩
        simp only [List.map_cons, Instr.fill, hpl]
        rw [if_neg (by simp [hsz]; omega)]
        exact h4
      · cases h1
    · cases hf
theorem reps_len (z : List Value) : ∀ m, (reps z m).length = m * z.length
  | 0 => by simp [reps]
  | m + 1 => by simp [reps, reps_len z m, Nat.add_mul]; omega
theorem reps_get (z : List Value) : ∀ m i, i < m * z.length → (reps z m)[i]? = z[i % z.length]?
  | 0, i, h => by omega
  | m + 1, i, h => by
    simp only [reps, List.getElem?_append]
    split
    · rename_i hi; rw [Nat.mod_eq_of_lt hi]
    · rename_i hi
      rw [Nat.add_mul] at h
      rw [reps_get z m _ (by omega)]
      congr 1
      exact (Nat.mod_eq_sub_mod (by omega)).symm
theorem reps_range (z : Array Value) (n m : Nat) (hn : n = m * z.size) : ((Array.range n).map (z[· % z.size]!)).toList = reps z.toList m := by
  apply List.ext_getElem?
  intro i
  by_cases hi : i < n
  · have h0 : 0 < z.size := Nat.pos_of_ne_zero (fun e => by rw [e] at hn; omega)
    rw [reps_get _ _ _ (by simpa [← hn] using hi)]
    have hm := Nat.mod_lt i h0
    simp [hi, List.getElem?_range, getElem!_pos, hm]
  · rw [List.getElem?_eq_none (by simp; omega), List.getElem?_eq_none (by rw [reps_len]; simp; omega)]
theorem reps_LR {z : List Value} {z' : Array Value} (r : LR J z z'.toList) (m : Nat) : LR J (reps z m) (reps z'.toList m) := by
  induction m with
  | zero => exact .nil J
  | succ m ih => exact r.append ih
theorem op_bslice (sm : Sim OK J h w) (f : J h.next = none) (hr : SR J nt sl a.tmps) {t : TypeId} {len size : Nat} {z : List Value} {ps : Array (Nat × Operand)} {qs : List (Nat × Nat × Opd)} (ho : o.op = .buildSlice t len ps)
    (ht : (match P.underlying t with
      | some (.slice e) => sizeB P e size && zeroB P e z && partsB nt (fun i => some (i * size, size)) ps.toList qs
      | _ => false) = true)
    (he : o_bslice len size z qs b C self sl h = some (v, h')) : Done OK J h w ((execOp a.eval o).run P w) v h' := by
  split at ht
  · rename_i e hd
    simp only [Bool.and_eq_true] at ht
    obtain ⟨⟨h1, h2⟩, h3⟩ := ht
    simp only [o_bslice, bslice] at he
    split at he
    · rename_i hc
      obtain ⟨c1, c2, c3⟩ := hc
      split at he
      · rename_i cs hf
        simp only [Option.some.injEq, Prod.mk.injEq] at he
        obtain ⟨rfl, rfl⟩ := he
        obtain ⟨zv, z1, z2, z3⟩ := zeroB_run (P := P) w h2 J
        have hzs : zv.cells.size = size := by rw [← Array.length_toList, z2, c1]
        have hfill := fill_sound (place := fun i => some (i * size, size)) (arr := (Array.range (len * size)).map (zv.cells[· % zv.cells.size]!)) hr h3 hf (by
          rw [reps_range _ _ len (by rw [hzs])]
          exact reps_LR z3 len)
        obtain ⟨arr', h4, h5⟩ := hfill
        refine cast_op (by simp only [execOp, ho]) (Done.new (P := P) (e := e) sm f (s := Instr.buildSlice t len (ps.map fun (i, x) => (i, a.eval x))) (v' := .slice (some ⟨w.heap.size, 0, none⟩) len len) ?_ h5 (vr_newSl _ _ rfl (Nat.le_refl _)))
        have h4' : Instr.fill (fun i => some (i * size, size)) ((Array.range (len * size)).map (zv.cells[· % zv.cells.size]!)) (ps.map fun x => (x.1, a.eval x.2)).toList = some arr' := by rw [← h4]; simp
        rcases Nat.eq_zero_or_pos (len * size) with h0 | h0
        · have hl : len = 0 := by rcases Nat.mul_eq_zero.1 h0 with h | h; exact h; exact absurd h c2
          subst hl
          have hem : ∀ g : Nat → Value, (Array.range 0).map g = #[] := fun g => by simp
          simp only [Nat.zero_mul, hem] at h4'
          have h4'' : Instr.fill (fun i => some (i * size, size)) #[] (List.map (fun x => (x.1, a.eval x.2)) ps.toList) = some arr' := by rw [← h4']; simp
          simp [Instr.buildSlice, und_run w hd, sizeB_run w h1, hem, h4'', run_newRow]
        · have hl : len ≠ 0 := by rintro rfl; simp at h0
          have h4'' : Instr.fill (fun i => some (i * size, size)) ((Array.range (len * size)).map (zv.cells[· % zv.cells.size]!)) (List.map (fun x => (x.1, a.eval x.2)) ps.toList) = some arr' := by rw [← h4']; simp
          simp [Instr.buildSlice, und_run w hd, sizeB_run w h1, show ¬ 16777216 < len * size by omega, show ¬ len * size = 0 by omega, z1, h4'', run_newRow]
      · cases he
    · cases he
  · cases ht

theorem wrap_small {n : Int} (h0 : -9223372036854775808 ≤ n) (h1 : n < 9223372036854775808) : IntKind.i64.wrap n = n := by
  simp only [IntKind.wrap, IntKind.bits, IntKind.signed, Bool.true_and]
  split
  · rename_i hh; simp at hh ⊢; omega
  · rename_i hh; simp at hh ⊢; omega
theorem op_mks (sm : Sim OK J h w) (f : J h.next = none) (hr : SR J nt sl a.tmps) {t : TypeId} {size bytes : Nat} {z : List Value} {x y : Operand} {x' y' : Opd} (ho : o.op = .makeSlice t x y)
    (ht : (match P.underlying t with
      | some (.slice e) => (match P.info? e with | some i => i.size == size && i.bytes == bytes | none => false) && zeroB P e z
      | _ => false) = true) (hx : opd nt x x' = true) (hy : opd nt y y' = true)
    (he : o_mks size bytes z x' y' b C self sl h = some (v, h')) : Done OK J h w ((execOp a.eval o).run P w) v h' := by
  have rx := opd_sound hr hx
  have ry := opd_sound hr hy
  split at ht
  · rename_i e hd
    simp only [Bool.and_eq_true] at ht
    obtain ⟨h1, h2⟩ := ht
    split at h1
    · rename_i ti hi
      simp only [Bool.and_eq_true, beq_iff_eq] at h1
      obtain ⟨rfl, rfl⟩ := h1
      simp only [o_mks, mks] at he
      split at he
      · rename_i k l k' c e1 e2
        rw [e1] at rx; rw [e2] at ry
        have ex := vr_int rx
        have ey := vr_int ry
        split at he
        · rename_i hc
          obtain ⟨c1, c2, c3, c4, c5, c6⟩ := hc
          simp only [Option.some.injEq, Prod.mk.injEq] at he
          obtain ⟨rfl, rfl⟩ := he
          obtain ⟨zv, z1, z2, z3⟩ := zeroB_run (P := P) w h2 J
          have hzs : zv.cells.size = ti.size := by rw [← Array.length_toList, z2, c1]
          have hrow : LR J (reps z c.toNat) ((Array.range (c.toNat * ti.size)).map (zv.cells[· % zv.cells.size]!)).toList := by
            rw [reps_range _ _ c.toNat (by rw [hzs])]; exact reps_LR z3 _
          have wl : IntKind.i64.wrap l = l := wrap_small (by omega) (by omega)
          have wc : IntKind.i64.wrap c = c := wrap_small (by omega) (by omega)
          have hb1 : (ti.bytes : Int) * c ≤ 4096 * 2147483648 := Int.mul_le_mul (by omega) c6 (by omega) (by omega)
          have hb2 : c.toNat * ti.bytes ≤ 2147483648 * 4096 := Nat.mul_le_mul (by omega) c3
          refine cast_op (by simp only [execOp, ho]) (Done.new (P := P) (e := e) sm f (s := Instr.makeSlice t (a.eval x) (a.eval y)) (v' := .slice (some ⟨w.heap.size, 0, none⟩) l.toNat c.toNat) ?_ hrow (vr_newSl _ _ rfl (by omega)))
          rw [ex, ey]
          have g1 : (decide (c < 0) || decide (2 ^ 48 < (ti.bytes : Int) * c)) = false := by simp; omega
          have g2 : ¬ roomBytes < c.toNat * ti.bytes := by unfold roomBytes; omega
          have g3 : ¬ l < 0 := by omega
          have g4 : ¬ c < l := by omega
          have g5 : ¬ c < 0 := by omega
          have g6 : ¬ 281474976710656 < (ti.bytes : Int) * c := by omega
          by_cases h0 : c.toNat * ti.size = 0
          · have hc0 : c.toNat = 0 := by rcases Nat.mul_eq_zero.1 h0 with h | h; exact h; exact absurd h c2
            simp [Instr.makeSlice, und_run w hd, asInt, asIntOf, info_run w hi, wl, wc, askRoom, g2, g3, g4, g5, g6, sizeOf, run_newRow, hc0]
            have hem : ∀ g : Nat → Value, (Array.range 0).map g = #[] := fun g => by simp
            rw [hem, hem]
          · have hc0 : c.toNat ≠ 0 := fun e => h0 (by rw [e, Nat.zero_mul])
            simp [Instr.makeSlice, und_run w hd, asInt, asIntOf, info_run w hi, wl, wc, askRoom, g2, g3, g4, g5, g6, sizeOf, run_newRow, h0, z1]
        · cases he
      · cases he
    · cases h1
  · cases ht

theorem sizeO_some {t : TypeId} {n : Nat} (hn : sizeO P t = some n) : sizeB P t n = true := by
  unfold sizeO at hn
  unfold sizeB
  cases hi : P.info? t with
  | none => simp [hi] at hn
  | some i => simp [hi] at hn; simp [hn]
theorem partsB_congr {p q : Nat → Option (Nat × Nat)} (hpq : ∀ i x, p i = some x → q i = some x) : ∀ {ps : List (Nat × Operand)} {qs : List (Nat × Nat × Opd)}, partsB nt p ps qs = true → partsB nt q ps qs = true
  | [], [], _ => rfl
  | [], _ :: _, hp => by simp [partsB] at hp
  | _ :: _, [], hp => by simp [partsB] at hp
  | (i, x) :: ps, (o, n, y) :: qs, hp => by
    simp only [partsB, Bool.and_eq_true] at hp ⊢
    obtain ⟨⟨h1, h2⟩, h3⟩ := hp
    refine ⟨⟨?_, h2⟩, partsB_congr hpq h3⟩
    split at h1
    · rename_i o' n' e
      rw [hpq _ _ e]; exact h1
    · cases h1
theorem mapM_places (w : World) : ∀ (fs : List Field), (∀ f ∈ fs, (P.info? f.type).isSome = true) →
    ∃ l : List (Nat × Nat), (fs.mapM fun f => do pure (f.offset, ← sizeOf f.type) : Sem (List (Nat × Nat))).run P w = .ok l w ∧ l = fs.map fun f => (f.offset, ((P.info? f.type).map (·.size)).getD 0)
  | [], _ => ⟨[], rfl, rfl⟩
  | f :: fs, hh => by
    obtain ⟨l, h1, h2⟩ := mapM_places w fs (fun g hg => hh g (by simp [hg]))
    obtain ⟨i, hi⟩ := Option.isSome_iff_exists.1 (hh f (by simp))
    refine ⟨(f.offset, i.size) :: l, ?_, by simp [h2, hi]⟩
    simp [List.mapM_cons, sizeOf, info_run w hi]
    simp only [sizeOf] at h1
    simp at h1
    simp [h1]
theorem op_build (sm : Sim OK J h w) (hr : SR J nt sl a.tmps) {t : TypeId} {z : List Value} {ps : Array (Nat × Operand)} {qs : List (Nat × Nat × Opd)} (ho : o.op = .build t ps)
    (hz : zeroB P t z = true) (hb : buildB P nt t ps.toList qs = true)
    (he : o_build z qs b C self sl h = some (v, h')) : Done OK J h w ((execOp a.eval o).run P w) v h' := by
  replace he := ret1_some he
  obtain ⟨he, he2⟩ := he
  subst he2
  unfold aggO at he
  split at he
  · rename_i cs hf
    cases he
    obtain ⟨zv, z1, z2, z3⟩ := zeroB_run (P := P) w hz J
    unfold buildB at hb
    split at hb
    · rename_i fs hd
      simp only [Bool.and_eq_true, Array.all_eq_true] at hb
      obtain ⟨h1, h2⟩ := hb
      obtain ⟨l, m1, m2⟩ := mapM_places (P := P) w fs.toList (fun f hf => by
        obtain ⟨i, hi, rfl⟩ := List.getElem_of_mem hf
        have := h1 i (by simpa using hi)
        simpa using this)
      have hpl : ∀ i x, fieldPlaces P fs i = some x → l.toArray[i]? = some x := fun i x hx => by
        unfold fieldPlaces at hx
        split at hx
        · rename_i f hf
          split at hx
          · rename_i n hn
            cases hx
            unfold sizeO at hn
            rw [m2]
            simp [hf, hn]
          · cases hx
        · cases hx
      obtain ⟨arr', f1, f2⟩ := fill_sound hr (partsB_congr hpl h2) hf z3
      refine cast_op (by simp only [execOp, ho]) (Done.val (P := P) (v' := .agg arr') sm (s := Instr.build t (ps.map fun (i, x) => (i, a.eval x))) ?_ (VR.aggL (xs := cs) (ys := arr'.toList) f2))
      have f1' : Instr.fill (fun i => l[i]?) zv.cells (List.map (fun x => (x.1, a.eval x.2)) ps.toList) = some arr' := by
        rw [← f1]; congr 1; funext i; simp
      have m1' : (Array.mapM (fun f => do pure (f.offset, ← sizeOf f.type)) fs : Sem (Array (Nat × Nat))).run P w = .ok l.toArray w := by
        rw [Array.mapM_eq_mapM_toList]
        simp only [bind_pure_comp] at m1
        simp [m1]
      simp only [Instr.build, Sem.run_bind, z1, und_run w hd, Result.andThen_ok, m1']
      simp [f1']
    · rename_i n e hd
      split at hb
      · rename_i m hm
        obtain ⟨arr', f1, f2⟩ := fill_sound hr hb hf z3
        refine cast_op (by simp only [execOp, ho]) (Done.val (P := P) (v' := .agg arr') sm (s := Instr.build t (ps.map fun (i, x) => (i, a.eval x))) ?_ (VR.aggL (xs := cs) (ys := arr'.toList) f2))
        simp only [Instr.build, Sem.run_bind, z1, und_run w hd, Result.andThen_ok, sizeB_run w (sizeO_some hm)]
        simp [f1]
      · cases hb
    · cases hb
  · cases he
theorem op_slarr (sm : Sim OK J h w) (hr : SR J nt sl a.tmps) {t : TypeId} {n size : Nat} {x : Operand} {lo hi mx : Option Operand} {x' : Opd} {lo' hi' mx' : Option Opd} (ho : o.op = .slice t x lo hi mx)
    (hs : (arrB P t n size || (match P.underlying t with | some (.pointer a) => arrB P a n size | _ => false)) = true)
    (hx : opd nt x x' = true) (hl : opdO nt lo lo' = true) (hh : opdO nt hi hi' = true) (hm : opdO nt mx mx' = true)
    (he : o_slarr n size x' lo' hi' mx' b C self sl h = some (v, h')) : Done OK J h w ((execOp a.eval o).run P w) v h' := by
  replace he := ret1_some he
  obtain ⟨he, he2⟩ := he
  subst he2
  have rx := opd_sound hr hx
  have rl := opdO_sound hr hl
  have rh := opdO_sound hr hh
  have rm := opdO_sound hr hm
  have hrun : ∃ e, sizeB P e size = true ∧ ∀ p' : Addr, a.eval x = .pointer (some p') → (Instr.sliceAt t (a.eval x) (lo.map a.eval) (hi.map a.eval) (mx.map a.eval)).run P w =
      (do
        let (l, h, m) ← Instr.sliceBounds false n n (lo.map a.eval) (hi.map a.eval) (mx.map a.eval)
        let size ← sizeOf e
        pure (.slice (some (if m = l then p' else p'.add (l * size))) (h - l) (m - l)) : Sem Value).run P w := by
    rw [Bool.or_eq_true] at hs
    rcases hs with hs | hs
    · obtain ⟨e, hd, hsz⟩ := arrB_und hs
      refine ⟨e, hsz, fun p' ex => ?_⟩
      rw [ex]
      simp only [Instr.sliceAt, Instr.sureAddr, Sem.run_bind, und_run w hd, Sem.run_pure, Result.andThen_ok]
    · split at hs
      · rename_i arr hdp
        obtain ⟨e, hd, hsz⟩ := arrB_und hs
        refine ⟨e, hsz, fun p' ex => ?_⟩
        rw [ex]
        simp only [Instr.sliceAt, Instr.slice, asAddr, Sem.run_bind, und_run w hdp, und_run w hd, Sem.run_pure, Result.andThen_ok]
      · cases hs
  obtain ⟨e, hsz, hrun⟩ := hrun
  unfold slarr at he
  split at he
  · rename_i p h1; rw [h1] at rx
    obtain ⟨p', ex, r⟩ := vr_ptr rx
    split at he
    · rename_i htag
      split at he
      · rename_i l hh m hb
        cases he
        obtain ⟨m', h2, h3, h4, h5, h6, h7⟩ := bnds_sound (P := P) (w := w) (isS := false) (Nat.le_refl _) hb (Nat.le_refl _) rl rh rm
        have hmm : m' = m := by omega
        subst hmm
        refine cast_op (by simp only [execOp, ho]) (Done.val (P := P) (v' := .slice (some (if m' = l then p' else p'.add (l * size))) (hh - l) (m' - l)) sm
          (s := Instr.sliceAt t (a.eval x) (lo.map a.eval) (hi.map a.eval) (mx.map a.eval)) ?_ (.sl _ (by omega) ?_))
        · rw [hrun p' ex]; simp [h2, sizeB_run w hsz]
        · have hr0 : SlR J p n p' n := by
            unfold AddrR at r
            unfold SlR
            cases hsp : p.spot with
            | none => simp only [hsp] at r ⊢; exact ⟨trivial, .inr r⟩
            | some u => simp only [hsp] at r ⊢; obtain ⟨pl, h1, h2⟩ := r; exact ⟨pl, h1, Nat.le_refl _, .inr h2, .inl trivial⟩
          exact hr0.slice htag h5 (Nat.le_refl _) (.inr rfl) (by omega)
      · cases he
    · cases he
  · cases he
end
end Go.Ab

/- Calls of builtins. -/
namespace Go.Ab

section
variable {OK : Nat → Code → ACode → Prop} {P : Program} {J : Inj} {h h' : AHeap} {w : World} {nt : Nat} {sl : Slots} {a : Act} {o : Oper} {v : Value}
  {b : Bool} {C : Cfg} {self : Task → Option Res}

theorem Done.bi (bi : Builtin) {c : Call} (ho : o.op = .call c) (hc : c.callee = .builtin bi) {r : Result Go.Next}
    (hb : ∀ cs, (builtin bi c.argTypes o.type cs (c.args.map a.eval)).run P w = r) (hd : Done OK J h w r v h') : Done OK J h w ((execOp a.eval o).run P w) v h' := by
  refine cast_op ?_ hd
  simp only [execOp, ho, resolve, hc]
  simp [invoke, hb]
theorem args2 {c : Call} {x y : Operand} (hl : c.args.toList = [x, y]) (ρ : Operand → Value) : c.args.map ρ = #[ρ x, ρ y] := by
  have : c.args = #[x, y] := by rw [← Array.toArray_toList (xs := c.args), hl]
  rw [this]; simp
theorem args1 {c : Call} {x : Operand} (hl : c.args.toList = [x]) (ρ : Operand → Value) : c.args.map ρ = #[ρ x] := by
  have : c.args = #[x] := by rw [← Array.toArray_toList (xs := c.args), hl]
  rw [this]; simp

theorem vr_mapN {v : Value} (r : VR J (.map none) v) : v = .map none := by cases r; rfl
theorem lenB_und {t : TypeId} {k : Nat} (h : lenB P t k = true) : (k = 0 ∧ P.underlying t = some .string) ∨ (k = 1 ∧ ∃ e, P.underlying t = some (.slice e)) ∨ (k = 2 ∧ ∃ a e, P.underlying t = some (.map a e)) := by
  unfold lenB at h
  split at h
  · rename_i hd; exact .inl ⟨eq_of_beq h, hd⟩
  · rename_i hd; exact .inr (.inl ⟨eq_of_beq h, _, hd⟩)
  · rename_i hd; exact .inr (.inr ⟨eq_of_beq h, _, _, hd⟩)
  · cases h
theorem op_len (sm : Sim OK J h w) (hr : SR J nt sl a.tmps) {c : Call} {k : Nat} {x : Operand} {x' : Opd} {t : TypeId} {ts : List TypeId} (ho : o.op = .call c) (hc : c.callee = .builtin .len) (hl : c.args.toList = [x]) (hts : c.argTypes.toList = t :: ts)
    (hx : opd nt x x' = true) (ht : lenB P t k = true)
    (he : o_len k x' b C self sl h = some (v, h')) : Done OK J h w ((execOp a.eval o).run P w) v h' := by
  replace he := ret1_some he
  obtain ⟨he, he2⟩ := he
  subst he2
  have rx := opd_sound hr hx
  have h0 : c.argTypes[0]? = some t := by rw [← Array.getElem?_toList, hts]; rfl
  have key : ∃ v', (Builtin.len_ c.argTypes o.type #[a.eval x]).run P w = .ok v' w ∧ VR J v v' := by
    rcases lenB_und ht with ⟨rfl, hd⟩ | ⟨rfl, e, hd⟩ | ⟨rfl, k', e, hd⟩
    · simp only [lenV, lenS] at he
      split at he
      · rename_i s e; rw [e] at rx; rw [vr_string rx]; cases he
        exact ⟨goInt s.size, by simp [Builtin.len_, h0, und_run w hd], .int _ _⟩
      · cases he
    · simp only [lenV, lenL] at he
      split at he
      · rename_i p n cp e; rw [e] at rx; cases he
        refine ⟨goInt n, ?_, .int _ _⟩
        cases p with
        | none => rw [vr_slN rx]; simp [Builtin.len_, h0, und_run w hd]
        | some p => obtain ⟨p', c', e', _⟩ := vr_sl rx; rw [e']; simp [Builtin.len_, h0, und_run w hd]
      · cases he
    · simp only [lenV, lenM] at he
      split at he
      · rename_i e
        rw [e] at rx; cases he
        rw [vr_mapN rx]
        exact ⟨goInt 0, by simp [Builtin.len_, h0, und_run w hd], .int _ _⟩
      · rename_i r e
        rw [e] at rx
        obtain ⟨pl, e', hj⟩ := vr_map rx
        split at he
        · rename_i es hg
          cases he
          obtain ⟨_, pl', ob, hj', hb, hob⟩ := sm.obj _ _ hg
          rw [hj] at hj'; cases hj'
          cases ob <;> simp only [ObjR] at hob
          obtain ⟨_, hl, _⟩ := hob
          refine ⟨goInt es.length, ?_, .int _ _⟩
          rw [e']
          simp [Builtin.len_, h0, und_run w hd, getObj, Sem.run, hb, hl]
        · cases he
      · cases he
  obtain ⟨v', h1, h2⟩ := key
  exact Done.bi .len ho hc (fun cs => by simp only [builtin, args1 hl]) (Done.val (P := P) sm h1 h2)
theorem op_lenc (sm : Sim OK J h w) {c : Call} {m : Int} {x : Operand} {t : TypeId} {ts : List TypeId} (ho : o.op = .call c) (hc : c.callee = .builtin .len) (hl : c.args.toList = [x]) (hts : c.argTypes.toList = t :: ts)
    (ht : (match P.underlying t with
      | some (.array n _) => m == n
      | some (.pointer a) => (match P.underlying a with | some (.array n _) => m == n | _ => false)
      | _ => false) = true)
    (he : o_mov (.c (.int .i64 m)) b C self sl h = some (v, h')) : Done OK J h w ((execOp a.eval o).run P w) v h' := by
  simp only [o_mov, Option.some.injEq, Prod.mk.injEq] at he
  obtain ⟨rfl, rfl⟩ := he
  have h0 : c.argTypes[0]? = some t := by rw [← Array.getElem?_toList, hts]; rfl
  have key : (Builtin.len_ c.argTypes o.type #[a.eval x]).run P w = .ok (goInt m) w := by
    split at ht
    · rename_i n e hd
      have hm : m = n := by simpa using ht
      subst hm
      generalize a.eval x = y
      simp only [Builtin.len_, h0, Sem.run_bind, und_run w hd, Result.andThen_ok, List.getElem?_toArray, List.getElem?_cons_zero]
      cases y <;> simp
    · rename_i e hd
      split at ht
      · rename_i n e' hd'
        have hm : m = n := by simpa using ht
        subst hm
        generalize a.eval x = y
        simp only [Builtin.len_, h0, Sem.run_bind, und_run w hd, Result.andThen_ok, List.getElem?_toArray, List.getElem?_cons_zero]
        cases y <;> simp [und_run w hd']
      · cases ht
    · cases ht
  exact Done.bi .len ho hc (fun cs => by simp only [builtin, args1 hl]) (Done.val (P := P) sm key (.int _ _))

theorem min_sound (x : Value) : ∀ (r : List Value) {v y : Value} {r' : List Value}, foldV min2 x r = some v → VR J x y → LR J r r' →
    ∃ v', (r'.foldlM Builtin.min2 y).run P w = .ok v' w ∧ VR J v v' := by
  intro r
  induction r generalizing x with
  | nil =>
    intro v y r' he rx rr
    have : r' = [] := by have := rr.1; simp at this; first | exact List.eq_nil_of_length_eq_zero this.symm | exact List.eq_nil_of_length_eq_zero this | exact this | exact this.symm
    subst this
    simp only [foldV, Option.some.injEq] at he; subst he
    exact ⟨y, rfl, rx⟩
  | cons z r ih =>
    intro v y r' he rx rr
    cases r' with
    | nil => have := rr.1; simp at this
    | cons z' r' =>
      simp only [foldV] at he
      split at he
      · rename_i u hu
        unfold min2 at hu
        split at hu
        · rename_i k i k' j
          split at hu
          · rename_i hk; subst hk; cases hu
            have e1 := vr_int rx
            have e2 := vr_int rr.head
            subst e1; subst e2
            obtain ⟨v', h1, h2⟩ := ih _ he (.int _ _) rr.tail
            exact ⟨v', by simp [List.foldlM_cons, Builtin.min2, h1], h2⟩
          · cases hu
        · cases hu
      · cases he
theorem max_sound (x : Value) : ∀ (r : List Value) {v y : Value} {r' : List Value}, foldV max2 x r = some v → VR J x y → LR J r r' →
    ∃ v', (r'.foldlM Builtin.max2 y).run P w = .ok v' w ∧ VR J v v' := by
  intro r
  induction r generalizing x with
  | nil =>
    intro v y r' he rx rr
    have : r' = [] := by have := rr.1; simp at this; first | exact List.eq_nil_of_length_eq_zero this.symm | exact List.eq_nil_of_length_eq_zero this | exact this | exact this.symm
    subst this
    simp only [foldV, Option.some.injEq] at he; subst he
    exact ⟨y, rfl, rx⟩
  | cons z r ih =>
    intro v y r' he rx rr
    cases r' with
    | nil => have := rr.1; simp at this
    | cons z' r' =>
      simp only [foldV] at he
      split at he
      · rename_i u hu
        unfold max2 at hu
        split at hu
        · rename_i k i k' j
          split at hu
          · rename_i hk; subst hk; cases hu
            have e1 := vr_int rx
            have e2 := vr_int rr.head
            subst e1; subst e2
            obtain ⟨v', h1, h2⟩ := ih _ he (.int _ _) rr.tail
            exact ⟨v', by simp [List.foldlM_cons, Builtin.max2, h1], h2⟩
          · cases hu
        · cases hu
      · cases he
theorem op_min (sm : Sim OK J h w) (hr : SR J nt sl a.tmps) {c : Call} {x : Operand} {r : List Operand} {x' : Opd} {r' : List Opd} (ho : o.op = .call c) (hc : c.callee = .builtin .min) (hl : c.args.toList = x :: r)
    (hx : opd nt x x' = true) (hr' : opdL nt r r' = true)
    (he : o_min x' r' b C self sl h = some (v, h')) : Done OK J h w ((execOp a.eval o).run P w) v h' := by
  replace he := ret1_some he
  obtain ⟨he, he2⟩ := he
  subst he2
  obtain ⟨v', h1, h2⟩ := min_sound (P := P) (w := w) _ _ he (opd_sound hr hx) (opdL_sound hr hr')
  exact Done.bi .min ho hc (fun cs => by simp only [builtin, Builtin.min_, Array.toList_map, hl, List.map_cons]) (Done.val (P := P) sm h1 h2)
theorem op_max (sm : Sim OK J h w) (hr : SR J nt sl a.tmps) {c : Call} {x : Operand} {r : List Operand} {x' : Opd} {r' : List Opd} (ho : o.op = .call c) (hc : c.callee = .builtin .max) (hl : c.args.toList = x :: r)
    (hx : opd nt x x' = true) (hr' : opdL nt r r' = true)
    (he : o_max x' r' b C self sl h = some (v, h')) : Done OK J h w ((execOp a.eval o).run P w) v h' := by
  replace he := ret1_some he
  obtain ⟨he, he2⟩ := he
  subst he2
  obtain ⟨v', h1, h2⟩ := max_sound (P := P) (w := w) _ _ he (opd_sound hr hx) (opdL_sound hr hr')
  exact Done.bi .max ho hc (fun cs => by simp only [builtin, Builtin.max_, Array.toList_map, hl, List.map_cons]) (Done.val (P := P) sm h1 h2)
end
end Go.Ab

/- copy, clear, append, bytes to strings. -/
namespace Go.Ab

section
variable {OK : Nat → Code → ACode → Prop} {P : Program} {J : Inj} {h h' : AHeap} {w : World} {nt : Nat} {sl : Slots} {a : Act} {o : Oper} {v : Value}
  {b : Bool} {C : Cfg} {self : Task → Option Res}

theorem Done.next {s : Sem Value} {v' : Value} {w' : World} (hs : s.run P w = .ok v' w') (hv : VR J v v') (hn : Next OK J h w J h' w') :
    Done OK J h w ((do pure (Go.Next.value (← s)) : Sem Go.Next).run P w) v h' := ⟨v', w', J, .inl (by simp [hs]), hv, hn⟩
theorem lr_u8 : ∀ (l : List UInt8), LR J (l.map fun b => Value.int .u8 b.toNat) (l.map fun b => Value.int .u8 b.toNat)
  | [] => .nil J
  | _ :: r => .cons (.int _ _) (lr_u8 r)
theorem lenA_sound {x x' : Value} {n : Nat} (hn : lenA x = some n) (r : VR J x x') : (Builtin.lenOf x').run P w = .ok n w := by
  unfold lenA at hn
  split at hn
  · rename_i p n' cp
    cases hn
    cases p with
    | none => rw [vr_slN r]; rfl
    | some p => obtain ⟨p', c', e, _⟩ := vr_sl r; rw [e]; rfl
  · cases hn; rw [vr_string r]; rfl
  · cases hn
theorem firsts_sound (sm : Sim OK J h w) {x x' : Value} {size n m : Nat} {cs : List Value} (hf : firsts size n x h = some cs) (hm : lenA x = some m) (hnm : n ≤ m) (r : VR J x x') :
    ∃ cs' : List Value, (Builtin.firstCells size n x').run P w = .ok cs'.toArray w ∧ LR J cs cs' := by
  unfold firsts at hf
  split at hf
  · cases hf; rw [vr_slN r]; exact ⟨[], rfl, .nil J⟩
  · rename_i p l cp
    obtain ⟨p', c', e, hs, hl⟩ := vr_sl r
    simp only [lenA, Option.some.injEq] at hm
    subst hm
    split at hf
    · rename_i c hrow
      split at hf
      · rename_i hb
        cases hf
        rw [e]
        by_cases h0 : cp = 0
        · have : n = 0 := by omega
          subst this
          exact ⟨[], by simp [Builtin.firstCells, loadCells, loadCellsFrom], by simpa using LR.nil J⟩
        · obtain ⟨cs', h1, h2, h3, h4⟩ := cells_sound (P := P) sm hrow (hs.addr h0) hb
          exact ⟨cs', by simpa [Builtin.firstCells] using h4, h1⟩
      · cases hf
    · cases hf
  · rename_i s
    cases hf
    rw [vr_string r]
    refine ⟨(s.data.toList.take n).map fun b => Value.int .u8 b.toNat, ?_, lr_u8 _⟩
    simp only [Builtin.firstCells, Sem.run_pure]
    congr 1
    apply Array.ext'
    simp [ByteArray.data_extract]
  · cases hf
theorem first0_run (size : Nat) (x' : Value) (hx : ∃ n, lenA x' = some n) : (Builtin.firstCells size 0 x').run P w = .ok #[] w := by
  obtain ⟨n, hn⟩ := hx
  unfold lenA at hn
  split at hn
  · rename_i a _ _
    cases a <;> simp [Builtin.firstCells, loadCells, loadCellsFrom]
  · simp [Builtin.firstCells, ByteArray.data_extract]
  · cases hn
theorem firsts0_sound (sm : Sim OK J h w) {x x' : Value} {size n m : Nat} {cs : List Value} (hf : firsts0 size n x h = some cs) (hm : lenA x = some m) (hnm : n ≤ m) (r : VR J x x') :
    ∃ cs' : List Value, (Builtin.firstCells size n x').run P w = .ok cs'.toArray w ∧ LR J cs cs' := by
  unfold firsts0 at hf
  split at hf
  · rename_i h0
    cases hf; subst h0
    refine ⟨[], first0_run size x' ?_, .nil J⟩
    unfold lenA at hm
    split at hm
    · rename_i p l cp
      cases p with
      | none => rw [vr_slN r]; exact ⟨_, rfl⟩
      | some p => obtain ⟨p', c', e, _⟩ := vr_sl r; rw [e]; exact ⟨_, rfl⟩
    · rw [vr_string r]; exact ⟨_, rfl⟩
    · cases hm
  · exact firsts_sound sm hf hm hnm r
theorem vr_slice {base : Option Addr} {l c : Nat} {v : Value} (r : VR J (.slice base l c) v) : ∃ base' c', v = .slice base' l c' ∧ (base = none → base' = none ∧ c' = c) ∧
    ∀ p, base = some p → ∃ p', base' = some p' ∧ SlR J p c p' c' ∧ l ≤ c := by
  cases base with
  | none => exact ⟨none, c, vr_slN r, fun _ => ⟨rfl, rfl⟩, fun p hp => by cases hp⟩
  | some p =>
    obtain ⟨p', c', e', hs, hl⟩ := vr_sl r
    refine ⟨some p', c', e', fun hp => (by cases hp), fun q hq => ?_⟩
    cases hq
    exact ⟨p', rfl, hs, hl⟩

theorem op_cpy (sm : Sim OK J h w) (hr : SR J nt sl a.tmps) {c : Call} {size : Nat} {x y : Operand} {x' y' : Opd} {t : TypeId} {ts : List TypeId} (ho : o.op = .call c) (hc : c.callee = .builtin .copy) (hl : c.args.toList = [x, y]) (hts : c.argTypes.toList = t :: ts)
    (hx : opd nt x x' = true) (hy : opd nt y y' = true) (ht : sliceB P t size = true)
    (he : o_cpy size x' y' b C self sl h = some (v, h')) : Done OK J h w ((execOp a.eval o).run P w) v h' := by
  have rx := opd_sound hr hx
  have ry := opd_sound hr hy
  have h0 : c.argTypes[0]? = some t := by rw [← Array.getElem?_toList, hts]; rfl
  obtain ⟨e, hd, hsz⟩ := sliceB_und ht
  simp only [o_cpy, cpy] at he
  split at he
  · rename_i base len cap m ex em
    rw [ex] at rx
    split at he
    · rename_i cs hf
      obtain ⟨cs', f1, f2⟩ := firsts0_sound (P := P) sm hf em (Nat.min_le_left _ _) ry
      have hlen := lenA_sound (P := P) (w := w) em ry
      obtain ⟨base', cap', e', hbn, hbs⟩ := vr_slice rx
      have run1 : ∀ w', (match base' with | some a => storeCells a cs'.toArray.toList | none => pure ()).run P w = .ok () w' →
          (Builtin.copy_ c.argTypes o.type #[a.eval x, a.eval y]).run P w = .ok (goInt (Nat.min m len)) w' := by
        intro w' hw'
        simp only [Builtin.copy_, h0, e', List.getElem?_toArray, List.getElem?_cons_zero, List.getElem?_cons_succ, Sem.run_bind, und_run w hd, Result.andThen_ok, hlen, sizeB_run w hsz, f1]
        cases base' with
        | none => simp at hw' ⊢; exact hw'
        | some p' => simp at hw' ⊢; simp [hw']
      split at he
      · rename_i hz
        cases he
        have hcs : cs' = [] := by
          have hl' : cs.length = 0 := by
            unfold firsts0 at hf
            rw [if_pos hz] at hf
            cases hf; rfl
          have := f2.1
          exact List.eq_nil_of_length_eq_zero (by omega)
        subst hcs
        refine Done.bi .copy ho hc (fun cs => by simp only [builtin, args2 hl]) (Done.val (P := P) sm (run1 w ?_) (.int _ _))
        cases base' <;> rfl
      · rename_i hz
        split at he
        · cases he
          obtain ⟨hbn, _⟩ := hbn rfl
          subst hbn
          exact Done.bi .copy ho hc (fun cs => by simp only [builtin, args2 hl]) (Done.val (P := P) sm (run1 w rfl) (.int _ _))
        · rename_i p
          obtain ⟨p', hp', hs, hlc⟩ := hbs p rfl
          subst hp'
          split at he
          · rename_i h2 hst
            cases he
            have hmin : Nat.min m len ≤ len := Nat.min_le_right _ _
            obtain ⟨w', hw, hnx⟩ := stCells_sound (P := P) sm hst (hs.addr (by omega)) f2
            exact Done.bi .copy ho hc (fun cs => by simp only [builtin, args2 hl]) (Done.next (P := P) (run1 w' (by simpa using hw)) (.int _ _) hnx)
          · cases he
    · cases he
  · cases he

theorem zeroCells_reps (z : Array Value) (n : Nat) : (Builtin.zeroCells z n).toList = reps z.toList n := by
  unfold Builtin.zeroCells
  exact reps_range z (n * z.size) n rfl
theorem op_clr (sm : Sim OK J h w) (hr : SR J nt sl a.tmps) {c : Call} {z : List Value} {x : Operand} {x' : Opd} {t : TypeId} {ts : List TypeId} (ho : o.op = .call c) (hc : c.callee = .builtin .clear) (hl : c.args.toList = [x]) (hts : c.argTypes.toList = t :: ts)
    (hx : opd nt x x' = true) (ht : (match P.underlying t with | some (.slice e) => zeroB P e z | _ => false) = true)
    (he : o_clr z x' b C self sl h = some (v, h')) : Done OK J h w ((execOp a.eval o).run P w) v h' := by
  have rx := opd_sound hr hx
  have h0 : c.argTypes[0]? = some t := by rw [← Array.getElem?_toList, hts]; rfl
  split at ht
  · rename_i e hd
    obtain ⟨zv, z1, z2, z3⟩ := zeroB_run (P := P) w ht J
    simp only [o_clr] at he
    split at he
    · rename_i h2 hcl
      cases he
      have fin : ∀ w', Next OK J h w J h' w' → (Builtin.clear_ c.argTypes o.type #[a.eval x]).run P w = .ok (.tuple #[]) w' → Done OK J h w ((execOp a.eval o).run P w) (.tuple #[]) h' :=
        fun w' hn hw => Done.bi .clear ho hc (fun cs => by simp only [builtin, args1 hl]) (Done.next (P := P) hw (.undef _) hn)
      unfold clr at hcl
      split at hcl
      · rename_i l cp ex
        cases hcl
        rw [ex] at rx
        refine fin w (.refl sm) ?_
        rw [vr_slN rx]
        simp [Builtin.clear_, h0, und_run w hd]
      · rename_i p n cp ex
        rw [ex] at rx
        obtain ⟨p', c', e', hs, hlc⟩ := vr_sl rx
        split at hcl
        · rename_i hn
          cases hcl
          subst hn
          refine fin w (.refl sm) ?_
          rw [e']
          simp [Builtin.clear_, h0, und_run w hd]
        · rename_i hn
          obtain ⟨w', hw, hnx⟩ := stCells_sound (P := P) sm hcl (hs.addr (by omega)) (reps_LR z3 n)
          refine fin w' hnx ?_
          rw [e']
          cases n with
          | zero => exact absurd rfl hn
          | succ n =>
            rw [← zeroCells_reps] at hw
            simp [Builtin.clear_, h0, und_run w hd, z1]
            rw [hw]; rfl
      · cases hcl
    · cases he
  · cases ht

theorem bytesOf_sound : ∀ {cs : List Value} {s s' : ByteArray}, bytesOf cs s = some s' → ∃ ns : List Int, cs = ns.map (Value.int .u8) ∧ s' = ns.foldl (fun r n => r.push (UInt8.ofNat n.toNat)) s
  | [], s, s', h => by simp only [bytesOf, Option.some.injEq] at h; exact ⟨[], rfl, h.symm⟩
  | x :: r, s, s', h => by
    unfold bytesOf at h
    split at h
    · rename_i e; cases e
    · rename_i q m r' e
      cases e
      obtain ⟨ns, e1, e2⟩ := bytesOf_sound h
      exact ⟨m :: ns, by simp [e1], by simpa using e2⟩
    · cases h
theorem lr_ints : ∀ {ns : List Int} {cs : List Value}, LR J (ns.map (Value.int .u8)) cs → cs = ns.map (Value.int .u8)
  | [], [], r => rfl
  | [], _ :: _, r => by have := r.1; simp at this
  | n :: ns, [], r => by have := r.1; simp at this
  | n :: ns, c :: cs, r => by
    have h1 := vr_int r.head
    have h2 := lr_ints (ns := ns) (cs := cs) r.tail
    rw [h1, h2]; rfl
theorem op_b2s (sm : Sim OK J h w) (hr : SR J nt sl a.tmps) {s d : TypeId} {x : Operand} {x' : Opd} (ho : o.op = .convert s d x)
    (hs : (match P.underlying s with | some (.slice e) => intB P e .u8 | _ => false) = true) (hd : strB P d = true) (hx : opd nt x x' = true)
    (he : o_b2s x' b C self sl h = some (v, h')) : Done OK J h w ((execOp a.eval o).run P w) v h' := by
  replace he := ret1_some he
  obtain ⟨he, he2⟩ := he
  subst he2
  have rx := opd_sound hr hx
  split at hs
  · rename_i e hds
    have hde := intB_und hs
    unfold b2s at he
    split at he
    · rename_i l cp ex
      rw [ex] at rx; cases he
      refine cast_op (by simp only [execOp, ho]) (Done.val (P := P) (v' := .string .empty) sm (s := convert s d (a.eval x)) ?_ (.string _))
      rw [vr_slN rx]
      simp [convert, und_run w hds, und_run w (strB_und hd), und_run w hde, Conv.bytesToString]
    · rename_i p n cp ex
      rw [ex] at rx
      obtain ⟨p', c', e', hsl, hlc⟩ := vr_sl rx
      split at he
      · rename_i c hrow
        split at he
        · rename_i hb
          cases hbs : bytesOf ((c.drop p.off).take n) .empty with
          | none => simp [hbs] at he
          | some st =>
            simp only [hbs, Option.map_some, Option.some.injEq] at he
            subst he
            obtain ⟨ns, e1, e2⟩ := bytesOf_sound hbs
            have hload : (loadCells p' n).run P w = .ok (ns.map (Value.int .u8)).toArray w := by
              by_cases h0 : cp = 0
              · have : n = 0 := by omega
                subst this
                simp at e1
                subst e1
                rfl
              · obtain ⟨cs', h1, h2, h3, h4⟩ := cells_sound (P := P) sm hrow (hsl.addr h0) hb
                rw [e1] at h1
                rw [lr_ints h1] at h4
                exact h4
            refine cast_op (by simp only [execOp, ho]) (Done.val (P := P) (v' := .string st) sm (s := convert s d (a.eval x)) ?_ (.string _))
            rw [e']
            simp [convert, und_run w hds, und_run w (strB_und hd), und_run w hde, run_bytesToString w p' n c' ns hload, e2]
        · cases he
      · cases he
    · cases he
  · cases hs
end
end Go.Ab

/- append. -/
namespace Go.Ab

section
variable {OK : Nat → Code → ACode → Prop} {P : Program} {J : Inj} {h h' : AHeap} {w : World} {nt : Nat} {sl : Slots} {a : Act} {o : Oper} {v : Value}
  {b : Bool} {C : Cfg} {self : Task → Option Res}

theorem nextcap_le (need cap : Nat) (hc : cap < need) : Builtin.nextslicecap need cap ≤ 5 * need + 5000 := by
  have grow : ∀ r c, Builtin.growBy need r c ≤ max c (need + (need + 768) / 4) := by
    intro r
    induction r with
    | zero => intro c; simp [Builtin.growBy]; omega
    | succ r ih =>
      intro c
      simp only [Builtin.growBy]
      split
      · omega
      · have := ih (c + (c + 768) / 4); omega
  unfold Builtin.nextslicecap
  split
  · omega
  · split
    · omega
    · have := grow 4 cap; omega

/-- What append does where there is no room. -/
theorem run_append_grow {c : Call} {s x : Value} {t t' e : TypeId} {ti : TypeInfo} {base : Option Addr} {len cap n : Nat} {zv : Value} {old new : List Value}
    (hts : c.argTypes.toList = [t, t']) (hd : P.underlying t = some (.slice e)) (hi : P.info? e = some ti) (hz : ti.zero = some zv)
    (hd' : ∃ d, P.underlying t' = some d ∧ ∀ k, d ≠ .int k) (hs : s = .slice base len cap) (hn : (Builtin.lenOf x).run P w = .ok n w)
    (hno : cap < len + n) (hsmall : len + n ≤ 2147483648) (hby : ti.bytes ≤ 4096)
    (hold : (Builtin.firstCells ti.size len s).run P { w with drawn := w.drawn + 1 } = .ok old.toArray { w with drawn := w.drawn + 1 })
    (hnew : (Builtin.firstCells ti.size n x).run P { w with drawn := w.drawn + 1 } = .ok new.toArray { w with drawn := w.drawn + 1 }) :
    ∃ m, len + n ≤ m ∧ (Builtin.append_ c.argTypes o.type #[s, x]).run P w =
      .ok (.slice (some ⟨w.heap.size, 0, none⟩) (len + n) m) (World.alloc { w with drawn := w.drawn + 1 } (.cells (old.toArray ++ new.toArray ++ Builtin.zeroCells zv.cells (m - (len + n))) e)) := by
  obtain ⟨d, hd1, hd2⟩ := hd'
  have h0 : c.argTypes[0]? = some t := by rw [← Array.getElem?_toList, hts]; rfl
  have h1 : c.argTypes[1]? = some t' := by rw [← Array.getElem?_toList, hts]; rfl
  have hzs : (match (generalizing := false) d with | .int _ => true | _ => false) = false := by
    cases d <;> first | rfl | exact absurd rfl (hd2 _)
  have hmax : IntKind.i64.max = 9223372036854775807 := by decide
  have hcap := nextcap_le (len + n) cap hno
  have hmul : Builtin.nextslicecap (len + n) cap * ti.bytes ≤ (5 * (len + n) + 5000) * 4096 := Nat.mul_le_mul hcap hby
  have g1 : ¬ ((len + n : Nat) : Int) > IntKind.i64.max := by rw [hmax]; omega
  have g2 : ¬ Builtin.nextslicecap (len + n) cap * ti.bytes > 2 ^ 48 := by omega
  refine ⟨(Question.appendCap (len + n) cap e).cut (w.tape w.drawn (.appendCap (len + n) cap e)), by simp [Question.cut], ?_⟩
  subst hs
  generalize hm : (Question.appendCap (len + n) cap e).cut (w.tape w.drawn (.appendCap (len + n) cap e)) = m
  have hch : (choose (.appendCap (len + n) cap e)).run P w = .ok m { w with drawn := w.drawn + 1 } := by
    rw [run_choose]
    simp [Question.forced, hm]
  have hroom : ∀ w', (askRoom (m * ti.bytes)).run P w' = .ok () w' := by
    intro w'; unfold askRoom; split <;> rfl
  have hz1 : ∀ w', (zeroValue e).run P w' = .ok zv w' := by intro w'; simp [zeroValue, info_run w' hi, hz]
  simp only [Builtin.append_, h0, h1, List.getElem?_toArray, List.getElem?_cons_zero, List.getElem?_cons_succ, Sem.run_bind, und_run _ hd, und_run _ hd1, Result.andThen_ok, sizeOf, info_run _ hi, Sem.run_pure, hn]
  have hzs' : (match (generalizing := false) d with | TypeDesc.int kind => true | x => false) = false := hzs
  simp only [hzs', Bool.false_eq_true, if_false, Sem.run_bind, hn, Result.andThen_ok, Bool.not_false, if_true, false_or, if_neg (show ¬ len + n ≤ cap by omega), info_run _ hi]
  rw [if_neg (show ¬ (((len + n : Nat) : Int) > IntKind.i64.max ∧ ti.bytes = 0) from fun hh => g1 hh.1)]
  simp only [Sem.run_bind, Sem.run_pure, Result.andThen_ok, info_run _ hi, if_neg g2, hch, hroom, hold, hnew, hz1, run_newRow]

theorem run_append_room {c : Call} {s x : Value} {t t' e : TypeId} {ti : TypeInfo} {base : Option Addr} {len cap n : Nat} {new : List Value} {w' : World}
    (hts : c.argTypes.toList = [t, t']) (hd : P.underlying t = some (.slice e)) (hi : P.info? e = some ti)
    (hd' : ∃ d, P.underlying t' = some d ∧ ∀ k, d ≠ .int k) (hs : s = .slice base len cap) (hn : (Builtin.lenOf x).run P w = .ok n w)
    (hroom : len + n ≤ cap)
    (hnew : (Builtin.firstCells ti.size n x).run P w = .ok new.toArray w)
    (hst : (match (generalizing := false) base with | some a => storeCells (a.add (len * ti.size)) new | none => pure ()).run P w = .ok () w') :
    (Builtin.append_ c.argTypes o.type #[s, x]).run P w = .ok (.slice base (len + n) cap) w' := by
  obtain ⟨d, hd1, hd2⟩ := hd'
  have h0 : c.argTypes[0]? = some t := by rw [← Array.getElem?_toList, hts]; rfl
  have h1 : c.argTypes[1]? = some t' := by rw [← Array.getElem?_toList, hts]; rfl
  have hzs' : (match (generalizing := false) d with | TypeDesc.int kind => true | x => false) = false := by
    cases d <;> first | rfl | exact absurd rfl (hd2 _)
  subst hs
  simp only [Builtin.append_, h0, h1, List.getElem?_toArray, List.getElem?_cons_zero, List.getElem?_cons_succ, Sem.run_bind, und_run _ hd, und_run _ hd1, Result.andThen_ok, sizeOf, info_run _ hi, Sem.run_pure]
  simp only [hzs', Bool.false_eq_true, if_false, Sem.run_bind, hn, Result.andThen_ok, Bool.not_false, if_true, if_pos hroom, hnew]
  cases base with
  | none => simp at hst ⊢; exact hst
  | some p => simp at hst ⊢; simp [hst]

/-- A row grows in its place: the old block is given up, a new one stands at the same place. -/
theorem Next.grow (sm : Sim OK J h w) (b : Bool) {k : Nat} {o o' : AObj} {ob' : Obj} {pl pl' : Place} (hk : h.get k = some o) (hj : J k = some pl) (f : J h.next = none) (hb : pl'.b = pl.b)
    (hr : ObjR OK (J.upd h.next pl') o' pl' ob') : Next OK J h w (J.upd h.next pl') ((h.del k).add b o') (setBlk w pl.b ob') := by
  have hlt : pl.b < w.heap.size := sm.live_lt ⟨k, o, pl, hk, hj, rfl⟩
  have hle : J.le (J.upd h.next pl') := Inj.le_upd f
  have hnx : (h.del k).next = h.next := AHeap.next_del h k
  have get : ∀ m o1, ((h.del k).add b o').get m = some o1 → (m = h.next ∧ o1 = o') ∨ (m ≠ h.next ∧ m ≠ k ∧ h.get m = some o1) := by
    intro m o1 h1
    rw [AHeap.get_add, hnx] at h1
    by_cases e : m = h.next
    · rw [if_pos e] at h1; cases h1; exact .inl ⟨e, rfl⟩
    · rw [if_neg e, AHeap.get_del] at h1
      by_cases e2 : m = k
      · rw [if_pos e2] at h1; cases h1
      · rw [if_neg e2] at h1; exact .inr ⟨e, e2, h1⟩
  refine ⟨⟨?_, ?_, ?_, ?_⟩, hle, by simp, by simp, ?_, rfl, rfl, rfl, by simp [setBlk], ?_, ?_⟩
  · intro m c hc
    rw [AHeap.base_add, AHeap.base_del] at hc
    obtain ⟨arr, e, fz, h1, h2⟩ := sm.base m c hc
    have hne : m ≠ pl.b := fun e => by have := sm.apart k o pl hk hj; rw [← e, hc] at this; cases this
    exact ⟨arr, e, fz, (setBlk_ne hne).trans h1, fun i v hv => let ⟨v', a, b⟩ := h2 i v hv; ⟨v', a, b.mono hle⟩⟩
  · intro m o1 h1
    rcases get m o1 h1 with ⟨rfl, rfl⟩ | ⟨e1, e2, h1⟩
    · exact ⟨by simp, pl', ob', Inj.upd_same _ _ _, by rw [hb]; exact setBlk_same hlt, hr⟩
    · obtain ⟨a1, p1, ob1, a2, a3, a4⟩ := sm.obj m o1 h1
      have hne : p1.b ≠ pl.b := fun e' => e2 (sm.inj m k o1 o p1 pl h1 hk a2 hj e')
      exact ⟨by simp; omega, p1, ob1, (Inj.upd_ne _ _ e1).trans a2, (setBlk_ne hne).trans a3, ObjR.mono OK hle a4⟩
  · intro k1 k2 o1 o2 p1 p2 h1 h2 j1 j2 e
    rcases get k1 o1 h1 with ⟨r1, _⟩ | ⟨e1, n1, g1⟩
    · rcases get k2 o2 h2 with ⟨r2, _⟩ | ⟨e2, n2, g2⟩
      · rw [r1, r2]
      · exfalso
        rw [r1, Inj.upd_same] at j1; cases j1
        rw [Inj.upd_ne _ _ e2] at j2
        exact n2 (sm.inj k2 k o2 o p2 pl g2 hk j2 hj (by rw [← e, hb]))
    · rw [Inj.upd_ne _ _ e1] at j1
      rcases get k2 o2 h2 with ⟨r2, _⟩ | ⟨e2, n2, g2⟩
      · exfalso
        rw [r2, Inj.upd_same] at j2; cases j2
        exact n1 (sm.inj k1 k o1 o p1 pl g1 hk j1 hj (by rw [e, hb]))
      · rw [Inj.upd_ne _ _ e2] at j2
        exact sm.inj k1 k2 o1 o2 p1 p2 g1 g2 j1 j2 e
  · intro k1 o1 p1 h1 j1
    rw [AHeap.base_add, AHeap.base_del]
    rcases get k1 o1 h1 with ⟨r1, _⟩ | ⟨e1, n1, g1⟩
    · rw [r1, Inj.upd_same] at j1; cases j1
      rw [hb]; exact sm.apart k o pl hk hj
    · rw [Inj.upd_ne _ _ e1] at j1
      exact sm.apart k1 o1 p1 g1 j1
  · intro m hm
    rw [AHeap.next_add, hnx] at hm
    exact Inj.upd_ne _ _ (by omega)
  · intro m hm hl
    exact setBlk_ne (fun e => hl ⟨k, o, pl, hk, hj, e.symm⟩)
  · rintro m ⟨k1, o1, p1, h1, j1, rfl⟩
    right
    rcases get k1 o1 h1 with ⟨r1, _⟩ | ⟨e1, n1, g1⟩
    · rw [r1, Inj.upd_same] at j1; cases j1
      exact ⟨k, o, pl, hk, hj, hb.symm⟩
    · rw [Inj.upd_ne _ _ e1] at j1
      exact ⟨k1, o1, p1, g1, j1, rfl⟩
end
end Go.Ab

/- append, the whole. -/
namespace Go.Ab

section
variable {OK : Nat → Code → ACode → Prop} {P : Program} {J : Inj} {h h' : AHeap} {w : World} {nt : Nat} {sl : Slots} {a : Act} {o : Oper} {v : Value}
  {b : Bool} {C : Cfg} {self : Task → Option Res}

theorem grow_row {c : List Value} {arr : Array Value} {cs : List Value} (r : LR J c cs) (hp : ∀ (i : Nat) v, cs[i]? = some v → arr[i]? = some v) {e : TypeId} {b0 : Nat} :
    ObjR OK J (.cells c) ⟨b0, 0, arr.size⟩ (.cells arr e (0, 0)) := by
  simp only [ObjR]
  refine ⟨trivial, ?_, by omega, fun i v hv => ?_⟩
  · rcases Nat.eq_zero_or_pos c.length with h | h
    · omega
    · have hl := r.1
      have := hp (cs.length - 1) (cs[cs.length - 1]'(by omega)) (List.getElem?_eq_getElem (by omega))
      have := (Array.getElem?_eq_some_iff.1 this).1
      omega
  · obtain ⟨y, hy, ry⟩ := r.get hv
    exact ⟨y, by rw [Nat.zero_add]; exact hp i y hy, ry⟩

theorem growOld_sound (sm : Sim OK J h w) {x x' : Value} {size n : Nat} {a : Addr} {cs : List Value} (hf : growOld size n x h a = some cs) (hm : lenA x = some n) (r : VR J x x') :
    ∃ cs' : List Value, (Builtin.firstCells size n x').run P w = .ok cs'.toArray w ∧ LR J cs cs' := by
  unfold growOld at hf
  split at hf
  · exact firsts0_sound sm hf hm (Nat.le_refl _) r
  · split at hf
    · exact firsts0_sound sm hf hm (Nat.le_refl _) r
    · exact firsts_sound sm hf hm (Nat.le_refl _) r
theorem firsts_len {size n l c : Nat} {p : Addr} {cs : List Value} (hold : firsts size n (.slice (some p) l c) h = some cs) : cs.length = n * size := by
  simp only [firsts] at hold
  split at hold
  · split at hold
    · cases hold; simp; omega
    · cases hold
  · cases hold
theorem growOld_len {size n l c : Nat} {p a : Addr} {cs : List Value} (hold : growOld size n (.slice (some p) l c) h a = some cs) : cs.length = n * size := by
  have h0 : ∀ {cs : List Value}, firsts0 size n (.slice (some p) l c) h = some cs → cs.length = n * size := by
    intro cs hf
    unfold firsts0 at hf
    split at hf
    · rename_i e; cases hf; subst e; simp
    · exact firsts_len hf
  unfold growOld at hold
  split at hold
  · exact h0 hold
  · split at hold
    · exact h0 hold
    · exact firsts_len hold
theorem op_app (sm : Sim OK J h w) (f : J h.next = none) (hr : SR J nt sl a.tmps) {c : Call} {size : Nat} {x y : Operand} {x' y' : Opd} {t t' : TypeId} (ho : o.op = .call c) (hc : c.callee = .builtin .append) (hl : c.args.toList = [x, y])
    (hts : c.argTypes.toList = [t, t']) (hx : opd nt x x' = true) (hy : opd nt y y' = true)
    (ht : (match P.underlying t with
        | some (.slice e) => (match P.info? e with | some i => i.size == size && Nat.ble i.bytes 4096 && (match i.zero with | some z => z.cells.size == size | none => false) | none => false)
        | _ => false) = true)
    (ht' : (match P.underlying t' with | some (.slice _) => true | some .string => true | _ => false) = true)
    (he : o_app size x' y' b C self sl h = some (v, h')) : Done OK J h w ((execOp a.eval o).run P w) v h' := by
  have rx := opd_sound hr hx
  have ry := opd_sound hr hy
  split at ht
  rotate_left
  · cases ht
  rename_i e hd
  split at ht
  rotate_left
  · cases ht
  rename_i ti hi
  simp only [Bool.and_eq_true, beq_iff_eq] at ht
  obtain ⟨⟨rfl, hby⟩, hz⟩ := ht
  have hby : ti.bytes ≤ 4096 := Nat.le_of_ble_eq_true hby
  split at hz
  rotate_left
  · cases hz
  rename_i zv hzv
  have hzs := eq_of_beq hz
  have hd' : ∃ d, P.underlying t' = some d ∧ ∀ k, d ≠ .int k := by
    split at ht'
    · rename_i e' hd'; exact ⟨_, hd', fun k hk => by cases hk⟩
    · rename_i hd'; exact ⟨_, hd', fun k hk => by cases hk⟩
    · cases ht'
  simp only [o_app, app] at he
  split at he
  rotate_left
  · cases he
  rename_i base len cap n ex en
  rw [ex] at rx
  obtain ⟨base', cap', es, hbn, hbs⟩ := vr_slice rx
  have hn := lenA_sound (P := P) (w := w) en ry
  split at he
  rotate_left
  · cases he
  rename_i new hf
  split at he
  rotate_left
  · cases he
  rename_i hcond
  obtain ⟨c1, c2, c3, c4, c5, c6⟩ := hcond
  obtain ⟨new', f1, f2⟩ := firsts0_sound (P := P) sm hf en (Nat.le_refl _) ry
  have hcc : cap ≤ cap' := by
    cases base with
    | none => have := (hbn rfl).2; omega
    | some p =>
      obtain ⟨p', _, r, _⟩ := hbs p rfl
      unfold SlR at r
      cases hsp : p.spot with
      | none => simp only [hsp] at r; omega
      | some u => simp only [hsp] at r; obtain ⟨_, _, h, _⟩ := r; exact h
  have fin : ∀ {J' : Inj} {v' : Value} {w' : World} {h1 : AHeap}, (Builtin.append_ c.argTypes o.type #[a.eval x, a.eval y]).run P w = .ok v' w' → VR J' v v' → Next OK J h w J' h1 w' → h1 = h' → Done OK J h w ((execOp a.eval o).run P w) v h' :=
    fun {J' v' w' h1} hw hv hnx hh => by
      subst hh
      exact Done.bi .append ho hc (fun cs => by simp only [builtin, args2 hl]; rfl) ⟨v', w', J', .inl (by simp [hw]), hv, hnx⟩
  split at he
  · rename_i hroom
    split at he
    · rename_i hn0
      cases he
      subst hn0
      have hnil : new' = [] := List.eq_nil_of_length_eq_zero (by have := f2.1; omega)
      subst hnil
      have hrun := run_append_room (o := o) (w' := w) hts hd hi hd' es hn (show len + 0 ≤ cap' by omega) f1 (by cases base' <;> rfl)
      refine fin hrun ?_ (.refl sm) rfl
      simp only [Nat.add_zero]; rw [← es]; exact rx
    · rename_i hn0
      split at he
      · cases he
        obtain ⟨hb', hc'⟩ := hbn rfl
        subst hb'; subst hc'
        exact fin (run_append_room (o := o) (w' := w) hts hd hi hd' es hn (show len + n ≤ cap' by omega) f1 rfl) (.slN _ _) (.refl sm) rfl
      · rename_i p
        obtain ⟨p', hp', hs, _⟩ := hbs p rfl
        subst hp'
        split at he
        · rename_i h2 hst
          cases he
          obtain ⟨w', hw, hnx⟩ := stCells_sound (P := P) sm hst ((hs.addr (by omega)).plus _) f2
          exact fin (run_append_room (o := o) (w' := w') hts hd hi hd' es hn (show len + n ≤ cap' by omega) f1 hw) (.sl _ (by omega) hs) hnx rfl
        · cases he
  · rename_i hroom
    -- where a new block is needed
    have fresh : cap' < len + n → ∀ {h1 : AHeap} {old old' : List Value}, Next OK J h w J h1 { w with drawn := w.drawn + 1 } → h1.next = h.next → LR J old old' → old.length = len * ti.size →
        (Builtin.firstCells ti.size len (a.eval x)).run P { w with drawn := w.drawn + 1 } = .ok old'.toArray { w with drawn := w.drawn + 1 } →
        v = .slice (some ⟨h.next, 0, some ti.size⟩) (len + n) (len + n) → h' = h1.add b (.cells (old ++ new)) → Done OK J h w ((execOp a.eval o).run P w) v h' := by
      intro hno h1 old old' hnx hnext ro hol hold hv hh
      obtain ⟨new2, f3, f4⟩ := firsts0_sound (P := P) (sm.drewN (w' := { w with drawn := w.drawn + 1 }) rfl) hf en (Nat.le_refl _) ry
      obtain ⟨m, hm, hrun⟩ := run_append_grow (o := o) hts hd hi hzv hd' es hn hno c4 hby hold f3
      subst hv
      have hn2 := f4.1
      have ho2 := ro.1
      have hsz : (old'.toArray ++ new2.toArray ++ Builtin.zeroCells zv.cells (m - (len + n))).size = m * ti.size := by
        have : (Builtin.zeroCells zv.cells (m - (len + n))).size = (m - (len + n)) * ti.size := by
          rw [← Array.length_toList, zeroCells_reps, reps_len, Array.length_toList, hzs]
        simp only [Array.size_append, List.size_toArray, this]
        rw [← ho2, hol, ← hn2, c5, ← Nat.add_mul, ← Nat.add_mul]
        congr 1; omega
      have hrow : ObjR OK (J.upd h.next ⟨w.heap.size, 0, m * ti.size⟩) (.cells (old ++ new)) ⟨w.heap.size, 0, m * ti.size⟩ (.cells (old'.toArray ++ new2.toArray ++ Builtin.zeroCells zv.cells (m - (len + n))) e (0, 0)) := by
        rw [← hsz]
        refine grow_row (cs := old' ++ new2) ((ro.append f4).mono (Inj.le_upd f)) (fun i v hv => ?_)
        rw [Array.getElem?_append_left (by have := (List.getElem?_eq_some_iff.1 hv).1; simpa using this)]
        simpa using hv
      have hal := Next.alloc hnx.sim b (.cells (old ++ new)) (.cells (old'.toArray ++ new2.toArray ++ Builtin.zeroCells zv.cells (m - (len + n))) e (0, 0)) ⟨w.heap.size, 0, m * ti.size⟩ rfl (by rw [hnext]; exact f) (by rw [hnext]; exact hrow)
      rw [hnext] at hal
      refine fin hrun (.sl _ (Nat.le_refl _) ?_) (hnx.trans hal) hh.symm
      refine ⟨_, Inj.upd_same _ _ _, hm, .inr rfl, .inr ⟨c1, ?_⟩⟩
      show 0 + m * ti.size ≤ m * ti.size
      omega
    have hdrew : Next OK J h w J h { w with drawn := w.drawn + 1 } := Next.drew sm rfl rfl rfl rfl
    unfold grow at he
    split at he
    · split at he
      · rename_i hl0
        cases he
        obtain ⟨hb', hc'⟩ := hbn rfl
        subst hb'; subst hl0
        refine fresh (by omega) (old := []) (old' := []) hdrew rfl (.nil J) (by simp) ?_ rfl rfl
        rw [es]; rfl
      · cases he
    · rename_i p
      obtain ⟨p', hp', hs, hlc⟩ := hbs p rfl
      subst hp'
      split at he
      rotate_left
      · cases he
      rename_i old hold
      have hlx : lenA (evA sl x') = some len := by rw [ex]; rfl
      obtain ⟨old', g1, g2⟩ := growOld_sound (P := P) (sm.drewN (w' := { w with drawn := w.drawn + 1 }) rfl) hold hlx (by rw [ex]; exact rx)
      have hol : old.length = len * ti.size := by
        rw [ex] at hold
        exact growOld_len hold
      split at he
      · rename_i hsp
        cases he
        have : cap' = cap := by unfold SlR at hs; simp only [hsp] at hs; exact hs.1
        exact fresh (by omega) hdrew rfl g2 hol g1 rfl rfl
      · rename_i u hsp
        split at he
        · rename_i hu0
          cases he
          have : cap' = cap := by unfold SlR at hs; simp only [hsp] at hs; obtain ⟨_, _, _, _, h3⟩ := hs; exact h3.resolve_right (fun h => h.1 hu0)
          exact fresh (by omega) hdrew rfl g2 hol g1 rfl rfl
        split at he
        rotate_left
        · cases he
        rename_i hu0 htag
        simp only [Bool.and_eq_true] at htag
        cases he
        by_cases hno : cap' < len + n
        · exact fresh hno (hdrew.trans (Next.del hdrew.sim p.block)) (by simp) g2 hol g1 rfl rfl
        · -- the row has room
          unfold SlR at hs
          simp only [hsp] at hs
          obtain ⟨pl, hj, h1, h2, h3⟩ := hs
          obtain ⟨hu, hext⟩ := h3.resolve_left (by omega)
          have hu' : u = ti.size := tag_some htag.1 hu
          subst hu'
          have hp' : p' = ⟨pl.b, pl.off + p.off, none⟩ := h2.resolve_left (by omega)
          cases hg : h.get p.block with
          | none => rw [hg] at htag; simp at htag
          | some ob =>
            rw [ex] at hold
            simp only [growOld, hsp, if_neg hu0, firsts, AHeap.row, hg] at hold
            cases ob with
            | cells cs =>
              simp only at hold
              split at hold
              rotate_left
              · cases hold
              rename_i hb
              cases hold
              obtain ⟨_, pl', ob, hj', hblk, hob⟩ := sm.obj _ _ hg
              rw [hj] at hj'; cases hj'
              cases ob <;> simp only [ObjR] at hob
              rename_i arr e' fz
              obtain ⟨rfl, h4, h5, h6⟩ := hob
              have hmul : (len + n) * ti.size ≤ cap' * ti.size := Nat.mul_le_mul_right _ (by omega)
              have hadd : (len + n) * ti.size = len * ti.size + n * ti.size := Nat.add_mul _ _ _
              have hnl := f2.1
              have hst := run_storeCells_at P pl.b (pl.off + p.off + len * ti.size) e' new' 0 arr w hblk (by omega) (lr_oneCell f2 c6)
              have hst' := hst
              rw [show (⟨pl.b, pl.off + p.off + len * ti.size, none⟩ : Addr) = p'.add (len * ti.size) by rw [hp', add_none rfl]] at hst'
              refine fin (J' := J.upd h.next ⟨pl.b, pl.off + p.off, pl.ext - p.off⟩) (run_append_room (o := o) hts hd hi hd' es hn (show len + n ≤ cap' by omega) f1 hst') (.sl (len + n) (Nat.le_refl _) ?_) ?_ rfl
              · exact ⟨_, Inj.upd_same _ _ _, by omega, .inr (by rw [hp']; rfl), .inr ⟨c1, by show 0 + cap' * ti.size ≤ pl.ext - p.off; omega⟩⟩
              · rw [setRow_setBlk hblk]
                refine Next.grow sm b hg hj f rfl ?_
                simp only [ObjR]
                refine ⟨trivial, ?_, ?_, ?_⟩
                · simp only [List.length_append, hol]; omega
                · simp; omega
                · intro i v hv
                  rw [List.getElem?_append, hol] at hv
                  split at hv
                  · rename_i hi'
                    rw [List.getElem?_take, if_pos hi', List.getElem?_drop] at hv
                    obtain ⟨v', e1, e2⟩ := h6 _ _ hv
                    refine ⟨v', ?_, e2.mono (Inj.le_upd f)⟩
                    rw [List.getElem?_toArray, List.append_assoc, List.getElem?_append, if_pos (by simp; omega), List.getElem?_take, if_pos (by omega), Array.getElem?_toList, ← e1]
                    congr 1; omega
                  · rename_i hi'
                    obtain ⟨v', e1, e2⟩ := f2.get hv
                    have := (List.getElem?_eq_some_iff.1 hv).1
                    refine ⟨v', ?_, e2.mono (Inj.le_upd f)⟩
                    rw [List.getElem?_toArray, List.append_assoc, List.getElem?_append, if_neg (by simp; omega), List.getElem?_append, if_pos (by simp; omega), ← e1]
                    congr 1; simp; omega
            | _ => simp at hold
end
end Go.Ab

/- Comparisons; maps. -/
namespace Go.Ab

section
variable {OK : Nat → Code → ACode → Prop} {P : Program} {J : Inj} {h h' : AHeap} {w : World} {nt : Nat} {sl : Slots} {a : Act} {o : Oper} {v : Value}
  {b : Bool} {C : Cfg} {self : Task → Option Res}

/-! ### Cells -/
theorem cellEq_conc {c : CK} {x y x' y' : Value} {r : Bool} (h : cellEq c x y = some r) (rx : VR J x x') (ry : VR J y y') : x' = x ∧ y' = y := by
  unfold cellEq at h
  split at h
  · exact ⟨vr_int rx, vr_int ry⟩
  · exact ⟨vr_bool rx, vr_bool ry⟩
  · exact ⟨vr_string rx, vr_string ry⟩
  · cases h
theorem cellsEq_conc : ∀ {ts : List CK} {xs ys xs' ys' : List Value} {r : Bool}, cellsEq ts xs ys = some r → LR J xs xs' → LR J ys ys' → xs' = xs ∧ ys' = ys
  | [], [], [], xs', ys', r, _, rx, ry => by
    have h1 := rx.1; have h2 := ry.1
    simp at h1 h2
    first
      | exact ⟨List.eq_nil_of_length_eq_zero h1.symm, List.eq_nil_of_length_eq_zero h2.symm⟩
      | exact ⟨h1, h2⟩
      | exact ⟨h1.symm, h2.symm⟩
      | exact ⟨by simp [h1], by simp [h2]⟩
  | t :: ts, x :: xs, y :: ys, [], ys', r, _, rx, _ => by have := rx.1; simp at this
  | t :: ts, x :: xs, y :: ys, _ :: _, [], r, _, _, ry => by have := ry.1; simp at this
  | t :: ts, x :: xs, y :: ys, x' :: xs', y' :: ys', r, h, rx, ry => by
    simp only [cellsEq] at h
    split at h
    · rename_i p q h1 h2
      obtain ⟨e1, e2⟩ := cellEq_conc h1 rx.head ry.head
      obtain ⟨e3, e4⟩ := cellsEq_conc h2 rx.tail ry.tail
      exact ⟨by rw [e1, e3], by rw [e2, e4]⟩
    · cases h
  | [], _ :: _, _, _, _, _, h, _, _ => by simp [cellsEq] at h
  | [], [], _ :: _, _, _, _, h, _, _ => by simp [cellsEq] at h
  | _ :: _, [], _, _, _, _, h, _, _ => by simp [cellsEq] at h
  | _ :: _, _ :: _, [], _, _, _, h, _, _ => by simp [cellsEq] at h

theorem ckB_notAgg {t : TypeId} {c : CK} (h : ckB P t c = true) : notAggB P t = true ∧ ∃ d, P.underlying t = some d := by
  cases c <;> simp only [ckB] at h <;> split at h <;> (try cases h) <;> (rename_i hd; exact ⟨by simp [notAggB, hd], _, hd⟩)
theorem run_cell {t : TypeId} {c : CK} {x y : Value} {r : Bool} (ht : ckB P t c = true) (h : cellEq c x y = some r) (d : Nat) : (Op.equalIn (d + 1) t x y).run P w = .ok r w := by
  unfold cellEq at h
  split at h
  · simp only [ckB] at ht
    split at ht
    · rename_i hd
      split at h
      · rename_i hk; subst hk; cases h; exact run_equalIn_int w d t _ _ _ _ hd
      · cases h
    · cases ht
  · simp only [ckB] at ht
    split at ht
    · rename_i hd; cases h; exact run_equalIn_bool' w d t _ _ hd
    · cases ht
  · simp only [ckB] at ht
    split at ht
    · rename_i hd; cases h; rw [run_equalIn_string w d t _ _ hd, ByteArray.toList_eq, ByteArray.toList_eq]
    · cases ht
  · cases h
theorem run_partC {t : TypeId} {c : CK} {xs : Array Value} {x : Value} {i : Nat} (ht : ckB P t c = true) (hx : xs[i]? = some x) : (part t xs i).run P w = .ok x w := by
  have hn : nB P t none = true := (ckB_notAgg ht).1
  simp [part, isAgg_run w hn, hx]
theorem drop_cons {xs : List Value} {i : Nat} {x : Value} {r : List Value} (h : xs.drop i = x :: r) : xs[i]? = some x ∧ xs.drop (i + 1) = r := by
  constructor
  · have : (xs.drop i)[0]? = some x := by rw [h]; rfl
    rw [List.getElem?_drop] at this; simpa using this
  · rw [← List.drop_drop, h]; rfl
theorem cellsEq_cons {t : CK} {ts : List CK} {l m : List Value} {r : Bool} (h : cellsEq (t :: ts) l m = some r) :
    ∃ x y xs ys p q, l = x :: xs ∧ m = y :: ys ∧ cellEq t x y = some p ∧ cellsEq ts xs ys = some q ∧ r = (p && q) := by
  cases l with
  | nil => simp [cellsEq] at h
  | cons x xs =>
    cases m with
    | nil => simp [cellsEq] at h
    | cons y ys =>
      simp only [cellsEq] at h
      split at h
      · rename_i p q h1 h2
        cases h
        exact ⟨x, y, xs, ys, p, q, rfl, rfl, h1, h2, rfl⟩
      · cases h
theorem run_fields (xs ys : Array Value) (d : Nat) : ∀ {fs : List Field} {ts : List CK} {i : Nat} {r : Bool}, fieldsB P i fs ts = true → cellsEq ts (xs.toList.drop i) (ys.toList.drop i) = some r →
    (Op.eqFields (d + 1) xs ys fs).run P w = .ok r w
  | [], [], i, r, _, h => by
    unfold cellsEq at h
    split at h
    · cases h; simp [Op.eqFields]
    · rename_i h1 _ _; cases h1
    · cases h
  | [], _ :: _, _, _, hf, _ => by simp [fieldsB] at hf
  | _ :: _, [], _, _, hf, _ => by simp [fieldsB] at hf
  | f :: fs, t :: ts, i, r, hf, h => by
    simp only [fieldsB, Bool.and_eq_true, bne_iff_ne, ne_eq, beq_iff_eq] at hf
    obtain ⟨⟨⟨h1, h2⟩, h3⟩, h4⟩ := hf
    obtain ⟨x, y, xs', ys', p, q, e1, e2, e3, e4, rfl⟩ := cellsEq_cons h
    obtain ⟨a1, a2⟩ := drop_cons e1
    obtain ⟨b1, b2⟩ := drop_cons e2
    have ih := run_fields xs ys d (i := i + 1) h4 (by rw [a2, b2]; exact e4)
    have p1 := run_partC (P := P) (w := w) (xs := xs) (i := i) h3 (by rw [← Array.getElem?_toList]; exact a1)
    have p2 := run_partC (P := P) (w := w) (xs := ys) (i := i) h3 (by rw [← Array.getElem?_toList]; exact b1)
    simp only [Op.eqFields, h1, ne_eq, not_false_eq_true, if_true, Sem.run_bind, h2, p1, p2, run_cell h3 e3, Result.andThen_ok]
    cases p
    · simp
    · simp [ih]
theorem run_items (xs ys : Array Value) (d : Nat) {e : TypeId} : ∀ {ts : List CK} {i : Nat} {r : Bool}, (∀ t ∈ ts, ckB P e t = true) → cellsEq ts (xs.toList.drop i) (ys.toList.drop i) = some r →
    (Op.eqItems (d + 1) e 1 xs ys (List.range' i ts.length)).run P w = .ok r w
  | [], i, r, _, h => by
    unfold cellsEq at h
    split at h
    · cases h; simp [Op.eqItems]
    · rename_i h1 _ _; cases h1
    · cases h
  | t :: ts, i, r, hf, h => by
    obtain ⟨x, y, xs', ys', p, q, e1, e2, e3, e4, rfl⟩ := cellsEq_cons h
    obtain ⟨a1, a2⟩ := drop_cons e1
    obtain ⟨b1, b2⟩ := drop_cons e2
    have ih := run_items xs ys d (ts := ts) (i := i + 1) (fun u hu => hf u (.tail _ hu)) (by rw [a2, b2]; exact e4)
    have h3 := hf t (by simp)
    have p1 := run_partC (P := P) (w := w) (xs := xs) (i := i) h3 (by rw [← Array.getElem?_toList]; exact a1)
    have p2 := run_partC (P := P) (w := w) (xs := ys) (i := i) h3 (by rw [← Array.getElem?_toList]; exact b1)
    simp only [List.length_cons, List.range'_succ, Op.eqItems, Nat.mul_one, Sem.run_bind, p1, p2, run_cell h3 e3, Result.andThen_ok]
    cases p
    · simp
    · simp [ih]
theorem fieldsOf_eq {t : TypeId} {fs : Array Field} (hd : P.underlying t = some (.struct fs)) : P.fieldsOf t = fs := by simp [Program.fieldsOf, hd]
theorem run_aggEq {t : TypeId} {ts : List CK} {xs ys : Array Value} {r : Bool} (ht : cksB P t ts = true) (h : cellsEq ts xs.toList ys.toList = some r) (d : Nat) : (Op.equalIn (d + 2) t (.agg xs) (.agg ys)).run P w = .ok r w := by
  unfold cksB at ht
  split at ht
  · rename_i n e hd
    simp only [Bool.and_eq_true, beq_iff_eq] at ht
    obtain ⟨⟨⟨h1, h2⟩, h3⟩, _⟩ := ht
    unfold sizeB at h2
    split at h2
    · rename_i i hi
      have hc : P.cellsOf e = 1 := by simp [Program.cellsOf, hi, eq_of_beq h2]
      rw [run_equalIn_array w (d + 1) xs ys hd hi, hc, List.range_eq_range', ← h1]
      exact run_items xs ys d (i := 0) (fun t ht => List.all_eq_true.1 h3 t ht) (by simpa using h)
    · cases h2
  · rename_i fs hd
    simp only [Bool.and_eq_true, Bool.not_eq_true'] at ht
    obtain ⟨⟨h1, h2⟩, _⟩ := ht
    rw [run_equalIn_struct w (d + 1) t xs ys (by rw [fieldsOf_eq hd]; exact hd) h2, fieldsOf_eq hd]
    exact run_fields xs ys d (i := 0) h1 (by simpa using h)
  · cases ht
theorem cksB_guard {t : TypeId} {ts : List CK} (ht : cksB P t ts = true) : P.eqGuardType P.depth t = false := by
  unfold cksB at ht
  split at ht
  · simp only [Bool.and_eq_true, Bool.not_eq_true'] at ht; exact ht.2
  · simp only [Bool.and_eq_true, Bool.not_eq_true'] at ht; exact ht.2
  · cases ht

theorem run_eq_slN (d : Nat) {t e : TypeId} (hd : P.underlying t = some (.slice e)) (l c : Nat) (q : Option Addr) (l' c' : Nat) :
    (Op.equalIn (d + 1) t (.slice none l c) (.slice q l' c')).run P w = .ok q.isNone w := by
  simp only [Op.equalIn, Sem.run_bind, und_run w hd, Result.andThen_ok, Sem.run_pure]
theorem run_eq_slS (d : Nat) {t e : TypeId} (hd : P.underlying t = some (.slice e)) (p : Addr) (l c : Nat) (l' c' : Nat) :
    (Op.equalIn (d + 1) t (.slice (some p) l c) (.slice none l' c')).run P w = .ok false w := by
  simp only [Op.equalIn, Sem.run_bind, und_run w hd, Result.andThen_ok, Sem.run_pure]
theorem run_eq_ptN (d : Nat) {t e : TypeId} (hd : P.underlying t = some (.pointer e)) (q : Option Addr) :
    (Op.equalIn (d + 1) t (.pointer none) (.pointer q)).run P w = .ok q.isNone w := by
  simp only [Op.equalIn, Sem.run_bind, und_run w hd, Result.andThen_ok, Sem.run_pure]
theorem run_eq_ptS (d : Nat) {t e : TypeId} (hd : P.underlying t = some (.pointer e)) (p : Addr) :
    (Op.equalIn (d + 1) t (.pointer (some p)) (.pointer none)).run P w = .ok false w := by
  simp only [Op.equalIn, Sem.run_bind, und_run w hd, Result.andThen_ok, Sem.run_pure]
theorem run_eq_fn (d : Nat) {t : TypeId} {x y z} (hd : P.underlying t = some (.func x y z)) (f : Fn) (p q : Array Value) :
    (Op.equalIn (d + 1) t (.func f p q) .nilFunc).run P w = .ok false w := by
  simp only [Op.equalIn, Sem.run_bind, und_run w hd, Result.andThen_ok, Sem.run_pure]
theorem op_eqs (sm : Sim OK J h w) (hr : SR J nt sl a.tmps) {op : BinOp} {k : EqK} {neg : Bool} {t t' : TypeId} {x y : Operand} {x' y' : Opd} (ho : o.op = .binOp op t x y t') (hop : opB op neg = true) (hk : eqkB P t k = true)
    (hx : opd nt x x' = true) (hy : opd nt y y' = true)
    (he : o_eqs k neg x' y' b C self sl h = some (v, h')) : Done OK J h w ((execOp a.eval o).run P w) v h' := by
  replace he := ret1_some he
  obtain ⟨he, he2⟩ := he
  subst he2
  have rx := opd_sound hr hx
  have ry := opd_sound hr hy
  unfold eqsA at he
  split at he
  rotate_left
  · cases he
  rename_i r hr0
  simp only [Option.some.injEq] at he
  subst he
  have key : (eqGuard op t x y (a.eval x) (a.eval y)).run P w = .ok () w ∧ (Op.equalIn 10000 t (a.eval x) (a.eval y)).run P w = .ok r w ∧ (∀ k n, a.eval x ≠ .int k n) ∧ (∀ s, a.eval x ≠ .string s) ∧ (∀ k n, a.eval x ≠ .float k n) ∧ (∀ k n m, a.eval x ≠ .complex k n m) := by
    unfold eqA at hr0
    split at hr0
    · rename_i ts xs ys e1 e2
      rw [e1] at rx; rw [e2] at ry
      obtain ⟨xs', f1, r1⟩ := vr_agg rx
      obtain ⟨ys', f2, r2⟩ := vr_agg ry
      obtain ⟨g1, g2⟩ := cellsEq_conc hr0 r1 r2
      rw [f1, f2]
      simp only [eqkB] at hk
      refine ⟨run_eqGuard_agg w op t x y xs' ys' (cksB_guard hk), run_aggEq hk (by rw [g1, g2]; exact hr0) 9998, ?_, ?_, ?_, ?_⟩ <;> intros <;> simp
    · rename_i p q e1 e2
      rw [e1] at rx; rw [e2] at ry
      rw [vr_bool rx, vr_bool ry]
      simp only [eqkB] at hk
      split at hk
      · rename_i hd
        cases hr0
        refine ⟨eqGuard_run op t x y (fun _ e => by cases e) (fun e => by cases e), run_equalIn_bool' w 9999 t p q hd, ?_, ?_, ?_, ?_⟩ <;> intros <;> simp
      · cases hk
    · rename_i l c q l' c' e1 e2
      rw [e1] at rx; rw [e2] at ry
      obtain ⟨q', c2, f2, h1, h2⟩ := vr_slice ry
      rw [vr_slN rx, f2]
      simp only [eqkB] at hk
      split at hk
      · rename_i hd
        cases hr0
        refine ⟨eqGuard_run op t x y (fun _ e => by cases e) (fun e => by cases e), ?_, ?_, ?_, ?_, ?_⟩
        · rw [run_eq_slN 9999 hd]
          cases q with
          | none => rw [(h1 rfl).1]
          | some q => obtain ⟨p', hp', _⟩ := h2 q rfl; rw [hp']; try rfl
        all_goals intros; simp
      · cases hk
    · rename_i p l c l' c' e1 e2
      rw [e1] at rx; rw [e2] at ry
      obtain ⟨p', c2, f1, _⟩ := vr_sl rx
      rw [vr_slN ry, f1]
      simp only [eqkB] at hk
      split at hk
      · rename_i hd
        cases hr0
        refine ⟨eqGuard_run op t x y (fun _ e => by cases e) (fun e => by cases e), ?_, ?_, ?_, ?_, ?_⟩
        · exact run_eq_slS 9999 hd _ _ _ _ _
        all_goals intros; simp
      · cases hk
    · rename_i q e1 e2
      rw [e1] at rx; rw [e2] at ry
      rw [vr_ptrN rx]
      simp only [eqkB] at hk
      split at hk
      · rename_i hd
        cases hr0
        refine ⟨eqGuard_run op t x y (fun _ e => by cases e) (fun e => by cases e), ?_, ?_, ?_, ?_, ?_⟩
        · cases q with
          | none => rw [vr_ptrN ry]; exact run_eq_ptN 9999 hd none
          | some q => obtain ⟨q', e', _⟩ := vr_ptr ry; rw [e']; exact run_eq_ptN 9999 hd (some q')
        all_goals intros; simp
      · cases hk
    · rename_i q e1 e2
      rw [e1] at rx; rw [e2] at ry
      obtain ⟨q', e', _⟩ := vr_ptr rx
      rw [vr_ptrN ry, e']
      simp only [eqkB] at hk
      split at hk
      · rename_i hd
        cases hr0
        refine ⟨eqGuard_run op t x y (fun _ e => by cases e) (fun e => by cases e), ?_, ?_, ?_, ?_, ?_⟩
        · exact run_eq_ptS 9999 hd _
        all_goals intros; simp
      · cases hk
    · rename_i fn f1 f2 e1 e2
      rw [e1] at rx; rw [e2] at ry
      have ey : a.eval y = .nilFunc := by generalize a.eval y = z at ry; cases ry; rfl
      have ex : ∃ fn' g1 g2, a.eval x = .func fn' g1 g2 := by
        generalize a.eval x = z at rx
        generalize e3 : Value.func fn f1 f2 = u at rx
        cases rx <;> first | exact ⟨_, _, _, rfl⟩ | cases e3
      obtain ⟨fn', g1, g2, ex⟩ := ex
      rw [ex, ey]
      simp only [eqkB] at hk
      split at hk
      · rename_i hd
        cases hr0
        refine ⟨eqGuard_run op t x y (fun _ e => by cases e) (fun e => by cases e), ?_, ?_, ?_, ?_, ?_⟩
        · exact run_eq_fn 9999 hd _ _ _
        all_goals intros; simp
      · cases hk
    · cases hr0
  obtain ⟨k1, k2, n1, n2, n3, n4⟩ := key
  have hbin : (binOp op t (a.eval x) (a.eval y)).run P w = .ok (.bool (r != neg)) w := by
    revert k2 n1 n2 n3 n4
    generalize a.eval x = p
    generalize a.eval y = q
    intro k2 n1 n2 n3 n4
    cases op <;> simp only [opB] at hop <;> (try cases hop)
    · have hn : neg = false := by simpa using hop
      subst hn
      cases p <;> first
        | exact absurd rfl (n1 _ _)
        | exact absurd rfl (n2 _)
        | exact absurd rfl (n3 _ _)
        | exact absurd rfl (n4 _ _ _)
        | simp [binOp, Op.equal, Op.maxDepth, k2]
    · cases p <;> first
        | exact absurd rfl (n1 _ _)
        | exact absurd rfl (n2 _)
        | exact absurd rfl (n3 _ _)
        | exact absurd rfl (n4 _ _ _)
        | simp [binOp, Op.equal, Op.maxDepth, k2]
  refine cast_op (by simp only [execOp, ho]) (Done.val (P := P) (v' := .bool (r != neg)) sm (s := do eqGuard op t x y (a.eval x) (a.eval y); binOp op t (a.eval x) (a.eval y)) ?_ (.bool _))
  simp [k1, hbin]
end
end Go.Ab

/- Maps. -/
namespace Go.Ab

section
variable {OK : Nat → Code → ACode → Prop} {P : Program} {J : Inj} {h h' : AHeap} {w : World} {nt : Nat} {sl : Slots} {a : Act} {o : Oper} {v : Value}
  {b : Bool} {C : Cfg} {self : Task → Option Res}

theorem cellsEq_nil {l m : List Value} {r : Bool} (h : cellsEq [] l m = some r) : l = [] ∧ m = [] ∧ r = true := by
  cases l with
  | nil => cases m with
    | nil => simp [cellsEq] at h; exact ⟨rfl, rfl, h⟩
    | cons => simp [cellsEq] at h
  | cons => simp [cellsEq] at h
theorem cellEq_cases {c : CK} {x y : Value} {r : Bool} (h : cellEq c x y = some r) :
    (c = .int ∧ ∃ k p q, x = .int k p ∧ y = .int k q ∧ r = (p == q)) ∨ (c = .bool ∧ ∃ p q, x = .bool p ∧ y = .bool q ∧ r = (p == q)) ∨
    (c = .str ∧ ∃ p q : ByteArray, x = .string p ∧ y = .string q ∧ r = (p.data.toList == q.data.toList)) := by
  unfold cellEq at h
  split at h
  · split at h
    · rename_i hk; subst hk; simp only [Option.some.injEq] at h; exact .inl ⟨rfl, _, _, _, rfl, rfl, h.symm⟩
    · cases h
  · simp only [Option.some.injEq] at h; exact .inr (.inl ⟨rfl, _, _, rfl, rfl, h.symm⟩)
  · simp only [Option.some.injEq] at h; exact .inr (.inr ⟨rfl, _, _, rfl, rfl, h.symm⟩)
  · cases h
theorem keyEq_conc {ts : List CK} {x y x' y' : Value} {r : Bool} (h : keyEq ts x y = some r) (rx : VR J x x') (ry : VR J y y') : x' = x ∧ y' = y := by
  unfold keyEq at h
  split at h
  · exact cellEq_conc h rx ry
  · split at h
    · rename_i xs ys
      obtain ⟨xs', f1, r1⟩ := vr_agg rx
      obtain ⟨ys', f2, r2⟩ := vr_agg ry
      obtain ⟨g1, g2⟩ := cellsEq_conc h r1 r2
      rw [f1, f2, Array.toList_inj.1 g1, Array.toList_inj.1 g2]; exact ⟨rfl, rfl⟩
    · cases h
theorem keyEq_run {t : TypeId} {ts : List CK} {x y : Value} {r : Bool} (ht : keyB P t ts = true) (h : keyEq ts x y = some r) : (Op.equal t x y).run P w = .ok r w := by
  unfold keyEq at h
  split at h
  · exact run_cell ht h 9999
  · rename_i hne
    have ht' : cksB P t ts = true := by
      unfold keyB at ht
      split at ht
      · rename_i c; exact absurd rfl (hne c)
      · exact ht
    split at h
    · exact run_aggEq ht' h 9998
    · cases h
theorem cellEq_true {c : CK} {x y : Value} (h : cellEq c x y = some true) : x = y := by
  rcases cellEq_cases h with ⟨_, k, p, q, rfl, rfl, e⟩ | ⟨_, p, q, rfl, rfl, e⟩ | ⟨_, p, q, rfl, rfl, e⟩
  · rw [eq_of_beq e.symm]
  · rw [eq_of_beq e.symm]
  · rw [show p = q from ByteArray.ext (Array.toList_inj.1 (eq_of_beq e.symm))]
theorem cellsEq_true : ∀ {ts : List CK} {xs ys : List Value}, cellsEq ts xs ys = some true → xs = ys
  | [], l, m, h => by obtain ⟨e1, e2, _⟩ := cellsEq_nil h; rw [e1, e2]
  | t :: ts, l, m, h => by
    obtain ⟨x, y, xs, ys, p, q, rfl, rfl, h1, h2, h3⟩ := cellsEq_cons h
    have hpq := (Bool.and_eq_true_iff).1 h3.symm
    rw [hpq.1] at h1; rw [hpq.2] at h2
    rw [cellEq_true h1, cellsEq_true h2]
theorem keyEq_true {ts : List CK} {x y : Value} (h : keyEq ts x y = some true) : x = y := by
  unfold keyEq at h
  split at h
  · exact cellEq_true h
  · split at h
    · rename_i xs ys; rw [Array.toList_inj.1 (cellsEq_true h)]
    · cases h
theorem cell_bits {c : CK} {x : Value} {r : Bool} (h : cellEq c x x = some r) (n : Nat) : Instr.sameBits n x x = true := by
  rcases cellEq_cases h with ⟨_, k, p, q, rfl, _, e⟩ | ⟨_, p, q, rfl, _, e⟩ | ⟨_, p, q, rfl, _, e⟩
  · simp [Instr.sameBits]
  · simp [Instr.sameBits]
  · simp [Instr.sameBits, MapKept.bytes_beq]
theorem cells_bits : ∀ {ts : List CK} {xs : List Value} {r : Bool}, cellsEq ts xs xs = some r → ∀ n, (xs.zip xs).all (fun (x, y) => Instr.sameBits n x y) = true
  | [], l, r, h, n => by obtain ⟨e1, _, _⟩ := cellsEq_nil h; rw [e1]; rfl
  | t :: ts, l, r, h, n => by
    obtain ⟨x, y, xs, ys, p, q, e1, e2, h1, h2, h3⟩ := cellsEq_cons h
    subst e1; cases e2
    simp only [List.zip_cons_cons, List.all_cons, cell_bits h1, cells_bits h2 n, Bool.and_true]
theorem keyEq_self {ts : List CK} {x : Value} {r : Bool} (hne : ∀ c, ts ≠ [c]) (h : keyEq ts x x = some r) : ∃ xs : Array Value, x = .agg xs ∧ cellsEq ts xs.toList xs.toList = some r := by
  unfold keyEq at h
  split at h
  · rename_i c; exact absurd rfl (hne c)
  · cases x <;> first
      | exact ⟨_, rfl, h⟩
      | cases h
theorem key_bits {ts : List CK} {x : Value} {r : Bool} (h : keyEq ts x x = some r) : Instr.sameBits 10000 x x = true := by
  by_cases hc : ∃ c, ts = [c]
  · obtain ⟨c, rfl⟩ := hc
    exact cell_bits h _
  · obtain ⟨xs, rfl, h'⟩ := keyEq_self (fun c e => hc ⟨c, e⟩) h
    simp only [Instr.sameBits, beq_self_eq_true, Bool.true_and]
    exact cells_bits h' 9999
theorem cell_check {t : TypeId} {c : CK} {x : Value} {r : Bool} (ht : ckB P t c = true) (h : cellEq c x x = some r) (em : Bool) (n : Nat) : (Instr.checkKey em (n + 1) t x).run P w = .ok () w := by
  rcases cellEq_cases h with ⟨rfl, k, p, q, rfl, _, e⟩ | ⟨rfl, p, q, rfl, _, e⟩ | ⟨rfl, p, q, rfl, _, e⟩ <;> simp only [ckB] at ht <;> split at ht <;> (try cases ht) <;> (rename_i hd; simp [Instr.checkKey, und_run w hd])
theorem items_check (xs : Array Value) (em : Bool) (d : Nat) {e : TypeId} (hs : sizeB P e 1 = true) : ∀ {ts : List CK} {i : Nat} {r : Bool}, (∀ t ∈ ts, ckB P e t = true) → cellsEq ts (xs.toList.drop i) (xs.toList.drop i) = some r →
    (forIn (List.range' i ts.length) PUnit.unit (fun i _ => do
      let s ← sizeOf e
      let p ← part e xs (i * s)
      Instr.checkKey em (d + 1) e p
      pure (ForInStep.yield PUnit.unit)) : Sem PUnit).run P w = .ok PUnit.unit w
  | [], i, r, _, h => by simp
  | t :: ts, i, r, hf, h => by
    obtain ⟨x, y, xs', ys', p, q, e1, e2, e3, e4, rfl⟩ := cellsEq_cons h
    obtain ⟨a1, a2⟩ := drop_cons e1
    obtain ⟨b1, b2⟩ := drop_cons e2
    have hxy : x = y := by rw [e1] at e2; cases e2; rfl
    subst hxy
    have hl : xs' = ys' := by rw [e1] at e2; cases e2; rfl
    subst hl
    have ih := items_check xs em d hs (ts := ts) (i := i + 1) (fun u hu => hf u (.tail _ hu)) (by rw [a2]; exact e4)
    have h3 := hf t (.head _)
    have p1 := run_partC (P := P) (w := w) (xs := xs) (i := i) h3 (by rw [← Array.getElem?_toList]; exact a1)
    simp only [List.length_cons, List.range'_succ, List.forIn_cons, Sem.run_bind, sizeB_run w hs, Nat.mul_one, p1, cell_check h3 e3, Result.andThen_ok, Sem.run_pure]
    exact ih
theorem fields_check (xs : Array Value) (em : Bool) (d : Nat) : ∀ {fs : List Field} {ts : List CK} {i : Nat} {r : Bool}, fieldsB P i fs ts = true → cellsEq ts (xs.toList.drop i) (xs.toList.drop i) = some r →
    (forIn fs PUnit.unit (fun f _ =>
      if f.name ≠ "_" then do
        let p ← part f.type xs f.offset
        Instr.checkKey em (d + 1) f.type p
        pure (ForInStep.yield PUnit.unit)
      else pure (ForInStep.yield PUnit.unit)) : Sem PUnit).run P w = .ok PUnit.unit w
  | [], _, i, r, _, h => by simp
  | _ :: _, [], _, _, hf, _ => by simp [fieldsB] at hf
  | f :: fs, t :: ts, i, r, hf, h => by
    simp only [fieldsB, Bool.and_eq_true, bne_iff_ne, ne_eq, beq_iff_eq] at hf
    obtain ⟨⟨⟨h1, h2⟩, h3⟩, h4⟩ := hf
    obtain ⟨x, y, xs', ys', p, q, e1, e2, e3, e4, rfl⟩ := cellsEq_cons h
    obtain ⟨a1, a2⟩ := drop_cons e1
    have hxy : x = y := by rw [e1] at e2; cases e2; rfl
    subst hxy
    have hl : xs' = ys' := by rw [e1] at e2; cases e2; rfl
    subst hl
    have ih := fields_check xs em d (fs := fs) (ts := ts) (i := i + 1) h4 (by rw [a2]; exact e4)
    have p1 := run_partC (P := P) (w := w) (xs := xs) (i := i) h3 (by rw [← Array.getElem?_toList]; exact a1)
    simp only [List.forIn_cons, Sem.run_bind, h1, ne_eq, not_false_eq_true, if_true, h2, p1, cell_check h3 e3, Result.andThen_ok, Sem.run_pure]
    exact ih
theorem key_check {t : TypeId} {ts : List CK} {x : Value} {r : Bool} (ht : keyB P t ts = true) (h : keyEq ts x x = some r) (em : Bool) : (Instr.checkKey em 10000 t x).run P w = .ok () w := by
  by_cases hc : ∃ c, ts = [c]
  · obtain ⟨c, rfl⟩ := hc
    exact cell_check ht h em 9999
  · have ht' : cksB P t ts = true := by
      unfold keyB at ht
      split at ht
      · rename_i c; exact absurd ⟨c, rfl⟩ hc
      · exact ht
    obtain ⟨xs, rfl, h'⟩ := keyEq_self (fun c e => hc ⟨c, e⟩) h
    · unfold cksB at ht'
      have gen : ∀ n, (Instr.checkKey em (n + 2) t (.agg xs)).run P w = .ok () w := by
        intro n
        split at ht'
        · rename_i m e hd
          simp only [Bool.and_eq_true, beq_iff_eq] at ht'
          obtain ⟨⟨⟨h1, h2⟩, h3⟩, _⟩ := ht'
          rw [Instr.checkKey]
          simp only [Sem.run_bind, und_run w hd, Result.andThen_ok]
          simp only [Std.Legacy.Range.forIn_eq_forIn_range', Std.Legacy.Range.size, Nat.sub_zero, Nat.add_one_sub_one, Nat.div_one]
          have := items_check (P := P) (w := w) xs em n h2 (ts := ts) (i := 0) (fun t ht => List.all_eq_true.1 h3 t ht) (by simpa using h')
          rw [h1] at this
          rw [this]; rfl
        · rename_i fs hd
          simp only [Bool.and_eq_true, Bool.not_eq_true'] at ht'
          obtain ⟨⟨h1, h2⟩, _⟩ := ht'
          rw [Instr.checkKey]
          simp only [Sem.run_bind, und_run w hd, Result.andThen_ok]
          rw [← Array.forIn_toList]
          have := fields_check (P := P) (w := w) xs em n (fs := fs.toList) (ts := ts) (i := 0) h1 (by simpa using h')
          rw [this]; rfl
        · cases ht'
      exact gen 9998

/-! ### Entries -/
def EntR (J : Inj) (es : List (Value × Value)) (ents : List MapEntry) : Prop :=
  es.length = ents.length ∧ ∀ (i : Nat) k v, es[i]? = some (k, v) → ∃ e, ents[i]? = some e ∧ VR J k e.key ∧ VR J v e.val
theorem EntR.tail {k v : Value} {e : MapEntry} {es : List (Value × Value)} {ents : List MapEntry} (r : EntR J ((k, v) :: es) (e :: ents)) : VR J k e.key ∧ VR J v e.val ∧ EntR J es ents := by
  obtain ⟨h1, h2⟩ := r
  obtain ⟨e', g1, g2, g3⟩ := h2 0 k v rfl
  simp at g1
  subst g1
  exact ⟨g2, g3, by simpa using h1, fun i k v hi => by simpa using h2 (i + 1) k v (by simpa using hi)⟩
theorem asking_sound {t : TypeId} {ts : List CK} {k k' : Value} (ht : keyB P t ts = true) (rk : VR J k k') : ∀ {es : List (Value × Value)} {ents : List MapEntry} {r : Option Value} (i : Nat), EntR J es ents → findE ts k es = some r →
    (r = none ∧ (Instr.findAsking t k' ents i).run P w = .ok none w ∧ ∀ v, setE ts k v es = es ++ [(k, v)]) ∨
    ∃ j u e, r = some u ∧ (Instr.findAsking t k' ents i).run P w = .ok (some (i + j, e.val)) w ∧ ents[j]? = some e ∧ VR J u e.val ∧ e.key = k' ∧ ∀ v, setE ts k v es = es.set j (k, v)
  | [], ents, r, i, re, hf => by
    have : ents = [] := List.eq_nil_of_length_eq_zero re.1.symm
    subst this
    simp only [findE, Option.some.injEq] at hf
    subst hf
    exact .inl ⟨rfl, by simp [Instr.findAsking], fun v => rfl⟩
  | (k0, v0) :: es, [], r, i, re, hf => by have := re.1; simp at this
  | (k0, v0) :: es, e :: ents, r, i, re, hf => by
    obtain ⟨r1, r2, r3⟩ := re.tail
    simp only [findE] at hf
    split at hf
    · rename_i he
      cases hf
      obtain ⟨c1, c2⟩ := keyEq_conc he rk r1
      right
      refine ⟨0, v0, e, rfl, ?_, rfl, r2, ?_, fun v => by simp [setE, he]⟩
      · rw [c1]
        have := keyEq_run (P := P) (w := w) ht he
        rw [← c2] at this
        simp [Instr.findAsking, this]
      · rw [c1, c2, keyEq_true he]
    · rename_i he
      obtain ⟨c1, c2⟩ := keyEq_conc he rk r1
      have hrun := keyEq_run (P := P) (w := w) ht he
      rw [← c2, ← c1] at hrun
      rcases asking_sound ht rk (i + 1) r3 hf with ⟨g1, g2, g3⟩ | ⟨j, u, e', g1, g2, g3, g4, g5, g6⟩
      · left
        exact ⟨g1, by simp [Instr.findAsking, hrun, g2], fun v => by simp [setE, he, g3]⟩
      · right
        exact ⟨j + 1, u, e', g1, by simp [Instr.findAsking, hrun, g2]; omega, by simpa using g3, g4, g5, fun v => by simp [setE, he, g6]⟩
    · cases hf
theorem sameNow_run {t : TypeId} {d : TypeDesc} {x y : Value} {r : Bool} (hd : P.underlying t = some d) (h : Instr.sameNow d x y = some r) : (Op.equal t x y).run P w = .ok r w := by
  unfold Instr.sameNow at h
  have gen : ∀ n, (Op.equalIn (n + 1) t x y).run P w = .ok r w := by
    intro n
    split at h
    · split at h
      · rename_i hk; subst hk; cases h; exact run_equalIn_int w n t _ _ _ _ hd
      · cases h
    · cases h; rw [run_equalIn_string w n t _ _ hd, ← beq_toListBytes]
    · cases h; exact run_equalIn_bool' w n t _ _ hd
    · cases h
  exact gen 9999
theorem findNow_asking {t : TypeId} {d : TypeDesc} {k : Value} (hd : P.underlying t = some d) : ∀ (ents : List MapEntry) (i : Nat) {r : Option (Nat × Value)}, Instr.findNow d k ents i = some r → (Instr.findAsking t k ents i).run P w = .ok r w
  | [], i, r, h => by simp only [Instr.findNow, Option.some.injEq] at h; subst h; simp [Instr.findAsking]
  | e :: es, i, r, h => by
    simp only [Instr.findNow] at h
    split at h
    · rename_i hs
      cases h
      simp [Instr.findAsking, sameNow_run (w := w) hd hs]
    · rename_i hs
      simp [Instr.findAsking, sameNow_run (w := w) hd hs, findNow_asking hd es (i + 1) h]
    · cases h
theorem findKey_asking {t : TypeId} {d : TypeDesc} {k : Value} (hd : P.underlying t = some d) (ents : List MapEntry) : (Instr.findKey t k ents).run P w = (Instr.findAsking t k ents).run P w := by
  simp only [Instr.findKey, Sem.run_bind, und_run w hd, Result.andThen_ok]
  cases hn : Instr.findNow d k ents 0 with
  | none => rfl
  | some r => exact (findNow_asking hd ents 0 hn).symm
theorem keyB_und {t : TypeId} {ts : List CK} (ht : keyB P t ts = true) : ∃ d, P.underlying t = some d := by
  unfold keyB at ht
  split at ht
  · exact (ckB_notAgg ht).2
  · unfold cksB at ht
    split at ht
    · rename_i hd; exact ⟨_, hd⟩
    · rename_i hd; exact ⟨_, hd⟩
    · cases ht
theorem map_obj (sm : Sim OK J h w) {r : Nat} {es : List (Value × Value)} {v' : Value} (hg : h.get r = some (.map es)) (rm : VR J (.map (some r)) v') :
    ∃ pl ents clock, J r = some pl ∧ v' = .map (some pl.b) ∧ w.heap[pl.b]? = some (.map ents clock) ∧ pl.off = 0 ∧ EntR J es ents.toList ∧ ∀ (i : Nat) e, ents[i]? = some e → e.born < clock := by
  obtain ⟨pl, e', hj⟩ := vr_map rm
  obtain ⟨_, pl', ob, hj', hb, hob⟩ := sm.obj _ _ hg
  rw [hj] at hj'; cases hj'
  cases ob <;> simp only [ObjR] at hob
  rename_i ents clock
  obtain ⟨h0, h1, h2, h3⟩ := hob
  exact ⟨pl, ents, clock, hj, e', hb, h0, ⟨by simpa using h1, fun i k v hi => by simpa using h2 i k v hi⟩, h3⟩

theorem op_look (sm : Sim OK J h w) (hr : SR J nt sl a.tmps) {ok : Bool} {ts : List CK} {z : Value} {t : TypeId} {m k : Operand} {m' k' : Opd} (ho : o.op = .lookup t m k ok)
    (ht : (match P.underlying t with | some (.map kt e) => keyB P kt ts && zeroVB P e z | _ => false) = true) (hm : opd nt m m' = true) (hk : opd nt k k' = true)
    (he : o_look ok ts z m' k' b C self sl h = some (v, h')) : Done OK J h w ((execOp a.eval o).run P w) v h' := by
  replace he := ret1_some he
  obtain ⟨he, he2⟩ := he
  subst he2
  have rm := opd_sound hr hm
  have rk := opd_sound hr hk
  split at ht
  rotate_left
  · cases ht
  rename_i kt e hd
  simp only [Bool.and_eq_true] at ht
  obtain ⟨h1, h2⟩ := ht
  obtain ⟨kd, hkd⟩ := keyB_und h1
  unfold look at he
  split at he
  rotate_left
  · cases he
  rename_i r em
  rw [em] at rm
  split at he
  rotate_left
  · cases he
  rename_i es hg
  obtain ⟨pl, ents, clock, hj, ev, hb, h0, re, hborn⟩ := map_obj sm hg rm
  split at he
  rotate_left
  · cases he
  rename_i hke
  obtain ⟨r0, hke⟩ := Option.isSome_iff_exists.1 hke
  obtain ⟨c1, _⟩ := keyEq_conc hke rk rk
  split at he
  rotate_left
  · cases he
  rename_i u hf
  cases he
  have hzero : ∃ zv, (zeroValue e).run P w = .ok zv w ∧ VR J z zv := by
    unfold zeroVB at h2
    split at h2
    · rename_i i hi
      split at h2
      · rename_i zv hz; exact ⟨zv, by simp [zeroValue, info_run w hi, hz], plain_sound h2 J⟩
      · cases h2
    · cases h2
  obtain ⟨zv, z1, z2⟩ := hzero
  have hck := key_check (P := P) (w := w) h1 hke ents.isEmpty
  rw [← c1] at hck
  have hget : (getObj pl.b).run P w = .ok (.map ents clock) w := by simp [getObj, Sem.run, hb]
  rcases asking_sound (P := P) (w := w) h1 rk 0 re hf with ⟨g1, g2, g3⟩ | ⟨j, u', e', g1, g2, g3, g4, g5, g6⟩
  · subst g1
    have hfk : (Instr.findKey kt (a.eval k) ents.toList).run P w = .ok none w := by rw [findKey_asking hkd]; exact g2
    cases ok with
    | true =>
      refine cast_op (by simp only [execOp, ho]) (Done.val (P := P) (v' := .tuple #[zv, .bool false]) sm (s := Instr.lookup t (a.eval m) (a.eval k) true) ?_ (.tupleL (xs := [_, _]) (ys := [_, _]) (.cons z2 (.cons (.bool _) (.nil J)))))
      rw [ev]
      simp only [Instr.lookup, Sem.run_bind, und_run w hd, Result.andThen_ok, hget, Sem.run_pure, hck, hfk, z1, if_true]
    | false =>
      refine cast_op (by simp only [execOp, ho]) (Done.val (P := P) (v' := zv) sm (s := Instr.lookup t (a.eval m) (a.eval k) false) ?_ z2)
      rw [ev]
      simp only [Instr.lookup, Sem.run_bind, und_run w hd, Result.andThen_ok, hget, Sem.run_pure, hck, hfk, z1, Bool.false_eq_true, if_false]
  · subst g1
    have hfk : (Instr.findKey kt (a.eval k) ents.toList).run P w = .ok (some (0 + j, e'.val)) w := by rw [findKey_asking hkd]; exact g2
    cases ok with
    | true =>
      refine cast_op (by simp only [execOp, ho]) (Done.val (P := P) (v' := .tuple #[e'.val, .bool true]) sm (s := Instr.lookup t (a.eval m) (a.eval k) true) ?_ (.tupleL (xs := [_, _]) (ys := [_, _]) (.cons g4 (.cons (.bool _) (.nil J)))))
      rw [ev]
      simp only [Instr.lookup, Sem.run_bind, und_run w hd, Result.andThen_ok, hget, Sem.run_pure, hck, hfk, if_true]
    | false =>
      refine cast_op (by simp only [execOp, ho]) (Done.val (P := P) (v' := e'.val) sm (s := Instr.lookup t (a.eval m) (a.eval k) false) ?_ g4)
      rw [ev]
      simp only [Instr.lookup, Sem.run_bind, und_run w hd, Result.andThen_ok, hget, Sem.run_pure, hck, hfk, Bool.false_eq_true, if_false]

theorem op_mset (sm : Sim OK J h w) (hr : SR J nt sl a.tmps) {ts : List CK} {t : TypeId} {m k x : Operand} {m' k' x' : Opd} (ho : o.op = .mapUpdate t m k x ∨ o.op = .insert t m k x)
    (ht : (match P.underlying t with | some (.map kt _) => keyB P kt ts | _ => false) = true) (hm : opd nt m m' = true) (hk : opd nt k k' = true) (hx : opd nt x x' = true)
    (he : o_mset ts m' k' x' b C self sl h = some (v, h')) : Done OK J h w ((execOp a.eval o).run P w) v h' := by
  have rm := opd_sound hr hm
  have rk := opd_sound hr hk
  have rx := opd_sound hr hx
  split at ht
  rotate_left
  · cases ht
  rename_i kt e hd
  obtain ⟨kd, hkd⟩ := keyB_und ht
  simp only [o_mset, retU] at he
  split at he
  rotate_left
  · cases he
  rename_i h2 hms
  cases he
  unfold mset at hms
  split at hms
  rotate_left
  · cases hms
  rename_i r em
  rw [em] at rm
  split at hms
  rotate_left
  · cases hms
  rename_i es hg
  obtain ⟨pl, ents, clock, hj, ev, hb, h0, re, hborn⟩ := map_obj sm hg rm
  split at hms
  rotate_left
  · cases hms
  rename_i hcond
  simp only [Bool.and_eq_true] at hcond
  obtain ⟨⟨hke, hfe⟩, _⟩ := hcond
  cases hms
  obtain ⟨r0, hke⟩ := Option.isSome_iff_exists.1 hke
  obtain ⟨u, hf⟩ := Option.isSome_iff_exists.1 hfe
  obtain ⟨c1, _⟩ := keyEq_conc hke rk rk
  have hck := key_check (P := P) (w := w) ht hke false
  rw [← c1] at hck
  have hget : (getObj pl.b).run P w = .ok (.map ents clock) w := by simp [getObj, Sem.run, hb]
  have hset : ∀ ob, (setObj pl.b ob).run P w = .ok () (setBlk w pl.b ob) := fun ob => by simp [setObj, Sem.run, hb, setBlk]
  have fin : ∀ w', (Instr.mapUpdate t (a.eval m) (a.eval k) (a.eval x)).run P w = .ok () w' → Next OK J h w J (h.put b r (.map (setE ts (evA sl k') (evA sl x') es))) w' →
      Done OK J h w ((execOp a.eval o).run P w) undef (h.put b r (.map (setE ts (evA sl k') (evA sl x') es))) := by
    intro w' hw hn
    rcases ho with ho | ho
    · exact cast_op (by simp only [execOp, ho]) (Done.unit (P := P) (s := Instr.mapUpdate t (a.eval m) (a.eval k) (a.eval x)) hw hn)
    · exact cast_op (by simp only [execOp, ho]) (Done.unit (P := P) (s := Instr.mapUpdate t (a.eval m) (a.eval k) (a.eval x)) hw hn)
  rcases asking_sound (P := P) (w := w) ht rk 0 re hf with ⟨g1, g2, g3⟩ | ⟨j, u', e', g1, g2, g3, g4, g5, g6⟩
  · subst g1
    have hfk : (Instr.findKey kt (a.eval k) ents.toList).run P w = .ok none w := by rw [findKey_asking hkd]; exact g2
    refine fin (setBlk w pl.b (.map (ents.push ⟨a.eval k, a.eval x, clock⟩) (clock + 1))) ?_ ?_
    · rw [ev]
      simp only [Instr.mapUpdate, Sem.run_bind, und_run w hd, Result.andThen_ok, hget, hck, hfk, hset]
    · refine Next.put sm b hg hj ?_
      rw [g3]
      simp only [ObjR]
      have hlen := re.1
      simp only [Array.length_toList] at hlen
      refine ⟨h0, by simp [hlen], ?_, ?_⟩
      · intro i k0 v0 hi
        rw [List.getElem?_append] at hi
        split at hi
        · obtain ⟨e1, q1, q2, q3⟩ := re.2 i k0 v0 hi
          refine ⟨e1, ?_, q2, q3⟩
          rw [Array.getElem?_push, if_neg (by omega), ← Array.getElem?_toList]; exact q1
        · rename_i hni
          have : i = es.length := by
            have := (List.getElem?_eq_some_iff.1 hi).1
            simp at this; omega
          subst this
          simp at hi
          obtain ⟨rfl, rfl⟩ := hi
          refine ⟨⟨a.eval k, a.eval x, clock⟩, ?_, rk, rx⟩
          rw [hlen, Array.getElem?_push, if_pos rfl]
      · intro i e1 hi
        rw [Array.getElem?_push] at hi
        split at hi
        · cases hi; simp
        · have := hborn i e1 hi; omega
  · subst g1
    have hfk : (Instr.findKey kt (a.eval k) ents.toList).run P w = .ok (some (0 + j, e'.val)) w := by rw [findKey_asking hkd]; exact g2
    have hej : ents[j]? = some e' := by rw [← Array.getElem?_toList]; exact g3
    have hjl : j < ents.size := (Array.getElem?_eq_some_iff.1 hej).1
    have hkts : ∀ w', (Instr.keyThatStays (a.eval k) (a.eval k)).run P w' = .ok (a.eval k) w' := fun w' => by
      have := key_bits hke
      rw [← c1] at this
      simp [Instr.keyThatStays, this]
    refine fin (setBlk w pl.b (.map (ents.modify j fun e => { e with key := a.eval k, val := a.eval x }) clock)) ?_ ?_
    · rw [ev]
      simp only [Instr.mapUpdate, Sem.run_bind, und_run w hd, Result.andThen_ok, hget, hck, hfk, Nat.zero_add, hej, Option.map_some, Option.getD_some, g5, hkts, hset]
    · refine Next.put sm b hg hj ?_
      rw [g6]
      simp only [ObjR]
      have hlen := re.1
      simp only [Array.length_toList] at hlen
      refine ⟨h0, by simp [hlen], ?_, ?_⟩
      · intro i k0 v0 hi
        rw [List.getElem?_set] at hi
        by_cases e : j = i
        · subst e
          rw [if_pos rfl, if_pos (by omega)] at hi
          cases hi
          exact ⟨{ e' with key := a.eval k, val := a.eval x }, by simp [Array.getElem?_modify, hej], rk, rx⟩
        · rw [if_neg e] at hi
          obtain ⟨e1, q1, q2, q3⟩ := re.2 i k0 v0 hi
          refine ⟨e1, ?_, q2, q3⟩
          rw [Array.getElem?_modify, if_neg e, ← Array.getElem?_toList]; exact q1
      · intro i e1 hi
        rw [Array.getElem?_modify] at hi
        split at hi
        · rename_i e
          rw [Option.map_eq_some_iff] at hi
          obtain ⟨e2, q1, rfl⟩ := hi
          exact hborn i e2 q1
        · exact hborn i e1 hi
end
end Go.Ab

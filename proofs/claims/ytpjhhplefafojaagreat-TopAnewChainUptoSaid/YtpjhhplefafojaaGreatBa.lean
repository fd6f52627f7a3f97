/- The abstract machine: a deterministic interpreter of the translated code over abstract values, whose runs every real run follows. Definitions. -/
import GoSem.Step
import Derived.Laws.Sem
import Derived.Laws.Entries
import Derived.Laws.Cells
import Derived.Laws.CopyRow
import Derived.Laws.Append
import Derived.Laws.AppendOwn
import Derived.Laws.Rows
import Derived.ChangeKeysEq
import Derived.Laws.MakeOwn
set_option linter.unusedVariables false
set_option linter.unusedSimpArgs false
namespace Go.Abs

inductive V where
  | bool (b : Bool)
  | int (k : IntKind) (n : Int)
  | str (s : ByteArray)
  | nilp
  | loc (t off : Nat)
  | cell (id off : Nat)
  | rop (row : List V) (off : Nat)
  | nils
  | sro (row : List V) (off len : Nat) (full : Bool)
  | sbuf (id off len sz : Nat) (full : Bool)
  | nilm
  | mp (id : Nat)
  | fn (f : Fn) (first cap : List V)
  | nilf
  | iface (t : TypeId) (v : V)
  | nili
  | agg (cs : List V)
  | tup (vs : List V)
  | junk
  deriving Inhabited

def V.cells : V → List V
  | .agg cs => cs
  | v => [v]

def V.isLoc : V → Bool
  | .loc .. => true
  | _ => false
def V.isAgg : V → Bool
  | .agg _ => true
  | _ => false
def V.flat : V → Bool
  | .loc .. | .agg _ | .tup _ | .junk => false
  | _ => true
def flats (vs : List V) : Bool := vs.all V.flat
def V.whole (v : V) : Bool := flats v.cells

mutual
def V.same : V → V → Bool
  | .bool a, .bool b => a == b
  | .int j a, .int k b => j == k && a == b
  | .str a, .str b => a == b
  | .nilp, .nilp => true
  | .loc a b, .loc c d => a == c && b == d
  | .cell a b, .cell c d => a == c && b == d
  | .rop a b, .rop c d => V.sames a c && b == d
  | .nils, .nils => true
  | .sro a b c d, .sro e f g h => V.sames a e && b == f && c == g && d == h
  | .sbuf a b c d e, .sbuf f g h i j => a == f && b == g && c == h && d == i && e == j
  | .nilm, .nilm => true
  | .mp a, .mp b => a == b
  | .fn f a b, .fn g c d => f == g && V.sames a c && V.sames b d
  | .nilf, .nilf => true
  | .iface t v, .iface u w => t == u && V.same v w
  | .nili, .nili => true
  | .agg a, .agg b => V.sames a b
  | .tup a, .tup b => V.sames a b
  | .junk, .junk => false
  | _, _ => false
def V.sames : List V → List V → Bool
  | [], [] => true
  | a :: x, b :: y => V.same a b && V.sames x y
  | _, _ => false
end

abbrev Al (α : Type) := List (Nat × α)
def Al.get {α : Type} : Al α → Nat → Option α
  | [], _ => none
  | (k, v) :: r, i => if k = i then some v else Al.get r i
def Al.put {α : Type} : Al α → Nat → α → Al α
  | [], i, v => [(i, v)]
  | (k, u) :: r, i, v => if k = i then (i, v) :: r else if i < k then (i, v) :: (k, u) :: r else (k, u) :: Al.put r i v

inductive Rc where
  | no | av (v : V) | taken | ban (l : Nat)
  deriving Inhabited

structure Fr where
  vals : Al V
  boxes : Al (List V)
  defers : List (V × List V)
  rc : Rc
  deriving Inhabited

structure ALoop where
  state : LoopState
  pending : Option Code
  fn : FuncId
  vals : Al V
  params : Array Tmp
  assign : Code
  body : Code
  deriving Inhabited

inductive AObj where
  | row (cs : List V)
  | dead
  | mapo (es : List (V × V × Nat)) (clock : Nat)
  | loop (l : ALoop)
  | siter (s : ByteArray) (pos : Nat)
  deriving Inhabited

inductive Trie where
  | lf
  | nd (o : Option AObj) (l r : Trie)
  deriving Inhabited
def Trie.get : Trie → Nat → Option AObj
  | .lf, _ => none
  | .nd o l r, n => if n = 0 then o else if n % 2 = 1 then l.get (n / 2) else r.get (n / 2 - 1)
def Trie.setF : Nat → Trie → Nat → AObj → Trie
  | 0, t, _, _ => t
  | f + 1, .lf, n, x => if n = 0 then .nd (some x) .lf .lf else if n % 2 = 1 then .nd none (Trie.setF f .lf (n / 2) x) .lf else .nd none .lf (Trie.setF f .lf (n / 2 - 1) x)
  | f + 1, .nd o l r, n, x => if n = 0 then .nd (some x) l r else if n % 2 = 1 then .nd o (Trie.setF f l (n / 2) x) r else .nd o l (Trie.setF f r (n / 2 - 1) x)

structure Heap where
  next : Nat
  objs : Trie
  deriving Inhabited
def Heap.empty : Heap := ⟨0, .lf⟩
def Heap.get (h : Heap) (id : Nat) : Option AObj := if id < h.next then h.objs.get id else none
def Heap.set (h : Heap) (id : Nat) (o : AObj) : Heap := { h with objs := h.objs.setF (id + 1) id o }
def Heap.alloc (h : Heap) (o : AObj) : Heap := ⟨h.next + 1, h.objs.setF (h.next + 1) h.next o⟩

structure TInfo where
  desc : TypeDesc
  size : Nat
  bytes : Nat
  zero : V
  deriving Inhabited

def TInfo.isAgg (i : TInfo) : Bool :=
  match i.desc with
  | .struct _ | .array _ _ => true
  | _ => false

inductive Kd where
  | b | i | s
  deriving DecidableEq, Inhabited
structure Env where
  fn : FuncId → Option Func
  ti : TypeId → Option TInfo
  plain : TypeId → Option (List Kd)
  isLocal : FuncId → Tmp → Bool
  isBuf : FuncId → Tmp → Bool
  keep : FuncId → Tmp → Bool

def ofScalar : Value → Option V
  | .bool b => some (.bool b)
  | .int k n => some (.int k n)
  | .string s => some (.str s)
  | .pointer none => some .nilp
  | .slice none 0 0 => some .nils
  | .map none => some .nilm
  | .nilFunc => some .nilf
  | .nilIface => some .nili
  | _ => none
def ofScalars : List Value → Option (List V)
  | [] => some []
  | v :: r => match ofScalar v, ofScalars r with
    | some a, some b => some (a :: b)
    | _, _ => none
def ofValue : Value → Option V
  | .agg cs => (ofScalars cs.toList).map .agg
  | v => ofScalar v

def Fr.eval (fr : Fr) : Operand → Option V
  | .tmp t => fr.vals.get t
  | .const v => ofValue v
  | .global _ => none
  | .func f => some (.fn (.func f) [] [])
def Fr.evals (fr : Fr) : List Operand → Option (List V)
  | [] => some []
  | x :: r => match fr.eval x, fr.evals r with
    | some v, some vs => some (v :: vs)
    | _, _ => none
def Fr.put (fr : Fr) (d : Option Tmp) (v : V) : Fr :=
  match d with
  | none => fr
  | some t => { fr with vals := fr.vals.put t v }
def noLoc (vs : List V) : Bool := vs.all fun v => !v.isLoc

def sub (cs : List V) (off n : Nat) : Option (List V) :=
  if off + n ≤ cs.length then some ((cs.drop off).take n) else none
def patch (cs : List V) (off : Nat) (new : List V) : Option (List V) :=
  if off + new.length ≤ cs.length then some (cs.take off ++ new ++ cs.drop (off + new.length)) else none

def readCells (fr : Fr) (h : Heap) (p : V) (n : Nat) : Option (List V) :=
  match p with
  | .loc t off => (fr.boxes.get t).bind (sub · off n)
  | .cell id off => match h.get id with
    | some (.row cs) => sub cs off n
    | _ => none
  | .rop row off => sub row off n
  | _ => none
def oneOf : List V → Option V
  | [v] => some v
  | _ => none
def asType (i : TInfo) (cs : List V) : Option V :=
  if i.isAgg then some (.agg cs) else oneOf cs
def readAt (fr : Fr) (h : Heap) (i : TInfo) (p : V) : Option V :=
  (readCells fr h p (if i.isAgg then i.size else 1)).bind (asType i)
def writeAt (fr : Fr) (h : Heap) (p : V) (cs : List V) : Option (Fr × Heap) :=
  match p with
  | .loc t off => match fr.boxes.get t with
    | some old => (patch old off cs).map fun new => ({ fr with boxes := fr.boxes.put t new }, h)
    | none => none
  | .cell id off => match h.get id with
    | some (.row old) => (patch old off cs).map fun new => (fr, h.set id (.row new))
    | _ => none
  | _ => none

def addOff (p : V) (n : Nat) : Option V :=
  match p with
  | .loc t off => some (.loc t (off + n))
  | .cell id off => some (.cell id (off + n))
  | .rop row off => some (.rop row (off + n))
  | _ => none

def sliceCells (h : Heap) (sz : Nat) : V → Option (List V)
  | .nils => some []
  | .sro row off len _ => sub row off (len * sz)
  | .sbuf id off len sz' _ => if sz' = sz then (match h.get id with | some (.row cs) => sub cs off (len * sz) | _ => none) else none
  | _ => none
def sliceLen : V → Option Nat
  | .nils => some 0
  | .sro _ _ len _ => some len
  | .sbuf _ _ len _ _ => some len
  | _ => none

def fillCells (place : Nat → Option (Nat × Nat)) (cells : List V) : List (Nat × V) → Option (List V)
  | [] => some cells
  | (i, v) :: rest =>
    match place i with
    | none => none
    | some (off, size) =>
      if v.cells.length = size then
        match patch cells off v.cells with
        | some cs => fillCells place cs rest
        | none => none
      else none

def intBin (op : BinOp) (k : IntKind) (x y : Int) : Option V :=
  match op with
  | .add => some (.int k (k.wrap (x + y)))
  | .sub => some (.int k (k.wrap (x - y)))
  | .mul => some (.int k (k.wrap (x * y)))
  | .quo => if y = 0 then none else some (.int k (k.wrap (x.tdiv y)))
  | .rem => if y = 0 then none else some (.int k (x.tmod y))
  | .and => some (.int k (k.wrap ((BitVec.ofInt k.bits x &&& BitVec.ofInt k.bits y).toNat)))
  | .or => some (.int k (k.wrap ((BitVec.ofInt k.bits x ||| BitVec.ofInt k.bits y).toNat)))
  | .xor => some (.int k (k.wrap ((BitVec.ofInt k.bits x ^^^ BitVec.ofInt k.bits y).toNat)))
  | .andNot => some (.int k (k.wrap ((BitVec.ofInt k.bits x &&& ~~~ BitVec.ofInt k.bits y).toNat)))
  | .eql => some (.bool (x == y))
  | .neq => some (.bool (x != y))
  | .lss => some (.bool (decide (x < y)))
  | .leq => some (.bool (decide (x ≤ y)))
  | .gtr => some (.bool (decide (x > y)))
  | .geq => some (.bool (decide (x ≥ y)))
  | _ => none
def shiftBin (op : BinOp) (k : IntKind) (x y : Int) : Option V :=
  if y < 0 then none else
  match op with
  | .shl => some (.int k (k.wrap (x * 2 ^ (min y.toNat k.bits))))
  | .shr => some (.int k (x.fdiv (2 ^ (min y.toNat k.bits))))
  | _ => none
def strBin (op : BinOp) (x y : ByteArray) : Option V :=
  match op with
  | .add => if x.size + y.size ≤ 9223372036854775807 then some (.str (x ++ y)) else none
  | .eql => some (.bool (x.toList == y.toList))
  | .neq => some (.bool !(x.toList == y.toList))
  | .lss => some (.bool (Op.bytesLess x.toList y.toList))
  | .leq => some (.bool (Op.bytesLess x.toList y.toList || x.toList == y.toList))
  | .gtr => some (.bool !(Op.bytesLess x.toList y.toList || x.toList == y.toList))
  | .geq => some (.bool !(Op.bytesLess x.toList y.toList))
  | _ => none

def eqScalar : Kd → V → V → Option Bool
  | .b, .bool a, .bool b => some (a == b)
  | .i, .int j a, .int k b => if j = k then some (a == b) else none
  | .s, .str a, .str b => some (a == b)
  | _, _, _ => none
def eqCells : List Kd → List V → List V → Option Bool
  | [], [], [] => some true
  | k :: ks, a :: x, b :: y => match eqScalar k a b, eqCells ks x y with
    | some p, some q => some (p && q)
    | _, _ => none
  | _, _, _ => none
def eqPlain (E : Env) (t : TypeId) (a b : V) : Option Bool :=
  match E.plain t, E.ti t with
  | some ks, some i => match a, b with
    | .agg x, .agg y => if i.isAgg then eqCells ks x y else none
    | _, _ => if i.isAgg then none else eqCells ks [a] [b]
  | _, _ => none
def eqNil : V → V → Option Bool
  | .nilp, .nilp => some true
  | .nilp, .cell .. | .cell .., .nilp => some false
  | .nils, .nils => some true
  | .nils, .sro .. | .sro .., .nils | .nils, .sbuf .. | .sbuf .., .nils => some false
  | .nilm, .nilm => some true
  | .nilm, .mp _ | .mp _, .nilm => some false
  | .nilf, .nilf => some true
  | .nilf, .fn .. | .fn .., .nilf => some false
  | .nili, .iface .. | .iface .., .nili => some false
  | _, _ => none
def nilT (d : TypeDesc) (a b : V) : Bool :=
  match d, a, b with
  | .pointer _, .nilp, _ | .pointer _, _, .nilp => true
  | .slice _, .nils, _ | .slice _, _, .nils => true
  | .map _ _, .nilm, _ | .map _ _, _, .nilm => true
  | .func _ _ _, .nilf, _ | .func _ _ _, _, .nilf => true
  | .interface _, .nili, _ | .interface _, _, .nili => true
  | _, _, _ => false
def eqVal (E : Env) (t : TypeId) (a b : V) : Option Bool :=
  match eqPlain E t a b with
  | some r => some r
  | none => match E.ti t with
    | some i => if nilT i.desc a b then eqNil a b else none
    | none => none

def binVal (E : Env) (op : BinOp) (t : TypeId) (x y : V) : Option V :=
  match op, x, y with
  | .shl, .int k a, .int _ b => shiftBin .shl k a b
  | .shr, .int k a, .int _ b => shiftBin .shr k a b
  | op, .int k a, .int k' b => if k = k' then intBin op k a b else none
  | op, .str a, .str b => strBin op a b
  | .eql, x, y => (eqVal E t x y).map .bool
  | .neq, x, y => (eqVal E t x y).map fun b => .bool !b
  | _, _, _ => none

def unVal (op : UnOp) (x : V) : Option V :=
  match op, x with
  | .neg, .int k n => some (.int k (k.wrap (0 - n)))
  | .xor, .int k n => intBin .xor k (if k.signed then -1 else k.max) n
  | .not, .bool b => some (.bool !b)
  | _, _ => none

def toIdx : V → Option Nat
  | .int _ n => if 0 ≤ n then some n.toNat else none
  | _ => none

def sliceStr (s : ByteArray) (lo hi : Option V) : Option V :=
  match (match hi with | some v => toIdx v | none => some s.size) with
  | none => none
  | some h => if h ≤ s.size then
      match (match lo with | some v => toIdx v | none => some 0) with
      | none => none
      | some l => if l ≤ h then some (.str (s.extract l h)) else none
    else none

def sliceSl (sz : Nat) (x : V) (lo hi : Option V) : Option V :=
  match sliceLen x with
  | none => none
  | some n =>
    match (match hi with | some v => toIdx v | none => some n) with
    | none => none
    | some h => if h ≤ n then
        match (match lo with | some v => toIdx v | none => some 0) with
        | none => none
        | some l => if l ≤ h then
            match x with
            | .nils => some .nils
            | .sro row off _ full => some (.sro row (off + l * sz) (h - l) (full && h == n))
            | .sbuf id off _ sz' full => if sz' = sz then some (.sbuf id (off + l * sz) (h - l) sz (full && h == n)) else none
            | _ => none
          else none
      else none
def sliceSl3 (sz : Nat) (x : V) (lo hi mx : Option V) : Option V :=
  match hi, mx with
  | some a, some b => match toIdx a, toIdx b with
    | some i, some j => if i = j then
        match sliceSl sz x lo hi with
        | some (.sro row off len _) => some (.sro row off len true)
        | some (.sbuf id off len sz _) => some (.sbuf id off len sz true)
        | r => r
      else none
    | _, _ => none
  | _, _ => none

def findE (E : Env) (t : TypeId) (k : V) : List (V × V × Nat) → Nat → Option (Option (Nat × V))
  | [], _ => some none
  | e :: es, i => match eqPlain E t k e.1 with
    | some true => some (some (i, e.2.1))
    | some false => findE E t k es (i + 1)
    | none => none

def maxInt (f : Int → Int → Int) : List V → Option V
  | [] => none
  | .int k a :: r => (r.foldlM (m := Option) (fun x v => match v with | .int k' b => if k = k' then some (f x b) else none | _ => none) a).map (.int k ·)
  | _ => none

inductive OR where
  | val (v : V) (fr : Fr) (h : Heap)
  | pan (v : V)
  | go (f : V) (args : List V)

end Go.Abs
namespace Go.Abs

def Env.desc (E : Env) (t : TypeId) : Option TypeDesc := (E.ti t).map (·.desc)
def fieldAt (E : Env) (t : TypeId) (f : Nat) : Option Field :=
  match E.desc t with
  | some (.struct fields) => fields[f]?
  | _ => none
def elemAt (E : Env) (t : TypeId) : Option (TypeId × TInfo) :=
  match E.desc t with
  | some (.slice e) => (E.ti e).map (e, ·)
  | _ => none

def staleLoc (t : Nat) (v : V) : V :=
  match v with
  | .loc u o => if u = t then .junk else .loc u o
  | v => v
def dropLoc (v : V) : V :=
  match v with
  | .loc _ _ => .junk
  | v => v
def newBox (E : Env) (fid : FuncId) (fr : Fr) (h : Heap) (d : Option Tmp) (cs : List V) : Option OR :=
  if flats cs then
    match d with
    | some t =>
      if E.isLocal fid t then
        some (.val (.loc t 0) { fr with boxes := fr.boxes.put t cs, vals := fr.vals.map fun p => (p.1, staleLoc t p.2) } h)
      else some (.val (.cell h.next 0) fr (h.alloc (.row cs)))
    | none => none
  else none

def place (E : Env) (t : TypeId) (i : Nat) : Option (Nat × Nat) :=
  match E.desc t with
  | some (.struct fields) => match fields[i]? with
    | some f => (E.ti f.type).map fun j => (f.offset, j.size)
    | none => none
  | some (.array _ e) => (E.ti e).map fun j => (i * j.size, j.size)
  | _ => none

def evalParts (fr : Fr) : List (Nat × Operand) → Option (List (Nat × V))
  | [] => some []
  | (i, x) :: r => match fr.eval x, evalParts fr r with
    | some v, some vs => some ((i, v) :: vs)
    | _, _ => none

def rep (n : Nat) (zs : List V) : List V :=
  match n with
  | 0 => []
  | n + 1 => zs ++ rep n zs

def opt (fr : Fr) : Option Operand → Option (Option V)
  | none => some none
  | some x => (fr.eval x).map some

def wholes (vs : List (Nat × V)) : Bool := vs.all fun p => p.2.whole
def buildV (E : Env) (t : TypeId) (vs : List (Nat × V)) : Option V :=
  if wholes vs then
    match E.ti t with
    | some i => if i.isAgg then (fillCells (place E t) i.zero.cells vs).map .agg else none
    | none => none
  else none

def indexV (E : Env) (t : TypeId) (x i : V) : Option V :=
  match E.desc t, x, i with
  | some (.array len e), .agg cs, .int _ n =>
    if 0 ≤ n ∧ n < len then
      match E.ti e with
      | some j => (sub cs (n.toNat * j.size) (if j.isAgg then j.size else 1)).bind (asType j)
      | none => none
    else none
  | some .string, .str s, .int _ n =>
    if 0 ≤ n then (s[n.toNat]?).map fun b => .int .u8 b.toNat else none
  | _, _, _ => none

def indexAddrV (E : Env) (t : TypeId) (x i : V) : Option V :=
  match E.desc t, i with
  | some (.array len e), .int _ n =>
    if 0 ≤ n ∧ n < len then
      match E.ti e with
      | some j => addOff x (n.toNat * j.size)
      | none => none
    else none
  | some (.slice e), .int _ n =>
    match E.ti e, x with
    | some j, .sro row off len _ => if 0 ≤ n ∧ n < len then some (.rop row (off + n.toNat * j.size)) else none
    | some j, .sbuf id off len sz _ => if sz = j.size ∧ 0 ≤ n ∧ n < len then some (.cell id (off + n.toNat * j.size)) else none
    | _, _ => none
  | _, _ => none

def rowAtLeast (h : Heap) (id n : Nat) : Bool :=
  match h.get id with
  | some (.row cs) => n ≤ cs.length
  | _ => false
def sliceV (E : Env) (h : Heap) (t : TypeId) (x : V) (lo hi mx : Option V) : Option V :=
  match E.desc t with
  | some .string => match x, mx with
    | .str s, none => sliceStr s lo hi
    | _, _ => none
  | some (.slice e) => match E.ti e with
    | some j => match mx with
      | none => sliceSl j.size x lo hi
      | some m => sliceSl3 j.size x lo hi (some m)
    | none => none
  | some (.array n e) => match E.ti e, mx with
    | some j, none =>
      if n ≤ 1099511627776 then
        match x with
        | .cell id off => if rowAtLeast h id (off + n * j.size) then sliceSl j.size (.sbuf id off n j.size true) lo hi else none
        | .rop row off => sliceSl j.size (.sro row off n true) lo hi
        | _ => none
      else none
    | _, _ => none
  | _ => none

def convV (E : Env) (src dst : TypeId) (x : V) : Option V :=
  match E.desc src, E.desc dst, x with
  | some (.int _), some (.int k), .int _ n => some (.int k (k.wrap n))
  | some (.int _), some .string, .int _ n => some (.str (Utf8.encode n))
  | some .string, some .string, .str s => some (.str s)
  | _, _, _ => none

def lenV (E : Env) (h : Heap) (t : TypeId) (x : V) : Option V :=
  match E.desc t, x with
  | some .string, .str s => some (.int .i64 s.size)
  | some (.array n _), _ => some (.int .i64 n)
  | some (.slice _), x => (sliceLen x).map fun (n : Nat) => .int .i64 n
  | some (.map _ _), .nilm => some (.int .i64 0)
  | some (.map _ _), .mp id => match h.get id with
    | some (.mapo es _) => some (.int .i64 es.length)
    | _ => none
  | _, _ => none

def appendV (h : Heap) (sz bytes : Nat) (s : V) (x : V) : Option (V × Heap) :=
  match sliceLen s, (match x with | .str _ => none | x => sliceLen x) with
  | some n, some m =>
    if m = 0 then some (s, h) else
    if (n + m) * bytes ≤ 140737488355328 ∧ n + m ≤ 9223372036854775807 then
      match sliceCells h sz s, sliceCells h sz x with
      | some a, some b =>
        match s with
        | .nils => some (.sbuf h.next 0 m sz false, h.alloc (.row b))
        | .sro _ _ _ true => some (.sbuf h.next 0 (n + m) sz false, h.alloc (.row (a ++ b)))
        | .sbuf _ _ _ _ true => some (.sbuf h.next 0 (n + m) sz false, h.alloc (.row (a ++ b)))
        | .sbuf id _ _ _ false => some (.sbuf h.next 0 (n + m) sz false, (h.set id .dead).alloc (.row (a ++ b)))
        | _ => none
      | _, _ => none
    else none
  | _, _ => none

def copyV (fr : Fr) (h : Heap) (sz : Nat) (d s : V) : Option (V × Heap) :=
  match sliceLen d, sliceLen s with
  | some n, some m =>
    match sliceCells h sz s with
    | some b =>
      if min m n = 0 then some (.int .i64 0, h) else
      match d with
      | .sbuf id off _ sz' _ => if sz' = sz then (writeAt fr h (.cell id off) (b.take (min m n * sz))).map fun r => (.int .i64 (min m n : Nat), r.2) else none
      | _ => none
    | none => none
  | _, _ => none

def mapGet (E : Env) (t : TypeId) (h : Heap) (m k : V) : Option (Option V) :=
  match m with
  | .nilm => some none
  | .mp id => match h.get id with
    | some (.mapo es _) => (findE E t k es 0).map fun r => r.map (·.2)
    | _ => none
  | _ => none
def modifyAt (es : List (V × V × Nat)) (i : Nat) (v : V) : List (V × V × Nat) := es.modify i fun e => (e.1, v, e.2.2)
def mapSet (E : Env) (t : TypeId) (h : Heap) (m k v : V) : Option Heap :=
  match m with
  | .mp id => match h.get id with
    | some (.mapo es c) => match findE E t k es 0 with
      | some (some (i, _)) => some (h.set id (.mapo (modifyAt es i v) c))
      | some none => some (h.set id (.mapo (es ++ [(k, v, c)]) (c + 1)))
      | none => none
    | _ => none
  | _ => none
def mapEnt (E : Env) (t : TypeId) (h : Heap) (m k zero : V) : Option (V × Heap) :=
  match m with
  | .mp id => match h.get id with
    | some (.mapo es c) => match findE E t k es 0 with
      | some (some (i, v)) => match es[i]? with
        | some e => some (.tup [v, .int .i64 e.2.2], h)
        | none => none
      | some none => some (.tup [zero, .int .i64 c], h.set id (.mapo (es ++ [(k, zero, c)]) (c + 1)))
      | none => none
    | _ => none
  | _ => none
def entSet (h : Heap) (m st v : V) : Option Heap :=
  match m, st with
  | .mp id, .int _ n => match h.get id with
    | some (.mapo es c) => match es.findIdx? (fun e => decide ((e.2.2 : Int) = n)) with
      | some i => some (h.set id (.mapo (modifyAt es i v) c))
      | none => none
    | _ => none
  | _, _ => none
def mapDel (E : Env) (t : TypeId) (h : Heap) (m k : V) : Option Heap :=
  match m with
  | .nilm => some h
  | .mp id => match h.get id with
    | some (.mapo es c) => match findE E t k es 0 with
      | some (some (i, _)) => some (h.set id (.mapo (es.eraseIdx i) c))
      | some none => some h
      | none => none
    | _ => none
  | _ => none
def keyOk (E : Env) (t : TypeId) (k : V) : Bool := (eqPlain E t k k).isSome
def notBan : Rc → Bool
  | .ban _ => false
  | _ => true
def builtinV (E : Env) (fr : Fr) (h : Heap) (b : Builtin) (ts : List TypeId) (vs : List V) : Option OR :=
  match b, ts, vs with
  | .len, [t], [x] => (lenV E h t x).map fun v => .val v fr h
  | .cap, [t], [x] => match E.desc t with
    | some (.array n _) => some (.val (.int .i64 n) fr h)
    | some (.slice _) => match x with
      | .nils => some (.val (.int .i64 0) fr h)
      | .sro _ _ n true => some (.val (.int .i64 n) fr h)
      | .sbuf _ _ n _ true => some (.val (.int .i64 n) fr h)
      | _ => none
    | _ => none
  | .max, _, vs => (maxInt (fun x y => if y > x then y else x) vs).map fun v => .val v fr h
  | .min, _, vs => (maxInt (fun x y => if y < x then y else x) vs).map fun v => .val v fr h
  | .append, [t, u], [s, x] => match elemAt E t, elemAt E u with
    | some (_, j), some _ => (appendV h j.size j.bytes s x).map fun r => .val r.1 fr r.2
    | _, _ => none
  | .copy, [t, _], [d, s] => match elemAt E t with
    | some (_, j) => (copyV fr h j.size d s).map fun r => .val r.1 fr r.2
    | none => none
  | .clear, [t], [x] => match E.desc t, x with
    | some (.map _ _), .nilm => some (.val (.tup []) fr h)
    | some (.map _ _), .mp id => match h.get id with
      | some (.mapo _ c) => some (.val (.tup []) fr (h.set id (.mapo [] c)))
      | _ => none
    | some (.slice e), x => match sliceLen x with
      | some n => if n = 0 then some (.val (.tup []) fr h) else
        match E.ti e, x with
        | some j, .sbuf id off _ sz _ => if sz = j.size then (writeAt fr h (.cell id off) (rep n j.zero.cells)).map fun r => .val (.tup []) fr r.2 else none
        | _, _ => none
      | none => none
    | _, _ => none
  | .delete, [t, _], [m, k] => match E.desc t with
    | some (.map kt _) => if keyOk E kt k then (mapDel E kt h m k).map fun h' => .val (.tup []) fr h' else none
    | _ => none
  | .panic, _, [.iface t v] => some (.pan (.iface t v))
  | .recover, _, [] => match fr.rc with
    | .av v => some (.val v { fr with rc := .taken } h)
    | .ban _ => none
    | _ => some (.val .nili fr h)
  | _, _, _ => none

def optLoc : Option V → Bool
  | some v => v.isLoc
  | none => false
def isItf : TypeDesc → Bool
  | .interface _ => true
  | _ => false
def isYield : Fn → Bool
  | .yield _ => true
  | _ => false
def notNil : V → Bool
  | .loc .. | .cell .. | .rop .. | .iface .. | .fn (.func _) .. => true
  | _ => false
def stepOp (E : Env) (fid : FuncId) (fr : Fr) (h : Heap) (o : Oper) : Option OR :=
  match o.op with
  | .move x | .assign x => (fr.eval x).map fun v => .val v fr h
  | .pick c a b => match fr.eval c with
    | some (.bool true) => (fr.eval a).map fun v => .val v fr h
    | some (.bool false) => (fr.eval b).map fun v => .val v fr h
    | _ => none
  | .alloc t => match E.ti t with
    | some i => newBox E fid fr h o.dst i.zero.cells
    | none => none
  | .box _ x => match fr.eval x with
    | some v => newBox E fid fr h o.dst v.cells
    | none => none
  | .build t parts => match evalParts fr parts.toList with
    | some vs => (buildV E t vs).map fun v => .val v fr h
    | none => none
  | .buildSlice t len parts => match elemAt E t, evalParts fr parts.toList with
    | some (_, j), some vs =>
      if len ≤ 16777216 ∧ len * j.size ≤ 16777216 ∧ wholes vs then
        match fillCells (fun i => some (i * j.size, j.size)) (rep len j.zero.cells) vs with
        | some cs =>
          match o.dst with
          | some d => if E.isBuf fid d then some (.val (.sbuf h.next 0 len j.size true) fr (h.alloc (.row cs))) else some (.val (.sro cs 0 len true) fr h)
          | none => none
        | none => none
      else none
    | _, _ => none
  | .load t a => match E.ti t, fr.eval a with
    | some i, some p => (readAt fr h i p).map fun v => .val v fr h
    | _, _ => none
  | .store t a x => match E.ti t, fr.eval a, fr.eval x with
    | some i, some p, some v =>
      if v.cells.length = i.size ∧ v.whole then (writeAt fr h p v.cells).map fun r => .val (.tup []) r.1 r.2 else none
    | _, _, _ => none
  | .nilCheck x => match fr.eval x with
    | some v => if notNil v then some (.val v fr h) else none
    | none => none
  | .binOp op t x y _ => match fr.eval x, fr.eval y with
    | some a, some b => if a.isLoc || b.isLoc then none else (binVal E op t a b).map fun v => .val v fr h
    | _, _ => none
  | .unOp op _ x => match fr.eval x with
    | some a => (unVal op a).map fun v => .val v fr h
    | none => none
  | .convert s d x => match fr.eval x with
    | some a => (convV E s d a).map fun v => .val v fr h
    | none => none
  | .makeInterface t x => match fr.eval x, E.desc t with
    | some v, some d => if v.isLoc || isItf d then none else some (.val (.iface t v) fr h)
    | _, _ => none
  | .makeFunc f a b => match fr.evals a.toList, fr.evals b.toList with
    | some x, some y => if noLoc x && noLoc y && !isYield f then some (.val (.fn f x y) fr h) else none
    | _, _ => none
  | .makeMap _ none => some (.val (.mp h.next) fr (h.alloc (.mapo [] 0)))
  | .makeMap t (some r) => match E.desc t, fr.eval r with
    | some (.map _ _), some (.int _ _) => some (.val (.mp h.next) fr (h.alloc (.mapo [] 0)))
    | _, _ => none
  | .makeSlice t l c => match elemAt E t, fr.eval l, fr.eval c with
    | some (_, j), some (.int .i64 n), some (.int .i64 m) =>
      if 0 ≤ n ∧ n ≤ m ∧ (m : Int) * j.bytes ≤ 140737488355328 ∧ m ≤ 9223372036854775807 then
        some (.val (.sbuf h.next 0 n.toNat j.size (n == m)) fr (h.alloc (.row (rep n.toNat j.zero.cells))))
      else none
    | _, _, _ => none
  | .slice t x lo hi mx => match fr.eval x, opt fr lo, opt fr hi, opt fr mx with
    | some v, some l, some u, some m => if optLoc l || optLoc u || optLoc m then none else (sliceV E h t v l u m).map fun r => .val r fr h
    | _, _, _, _ => none
  | .fieldAddr t x f => match fr.eval x, fieldAt E t f with
    | some p, some fd => match E.ti fd.type with
      | some j => if j.size = 0 then none else (addOff p fd.offset).map fun v => .val v fr h
      | none => none
    | _, _ => none
  | .field t x f => match fr.eval x, fieldAt E t f with
    | some (.agg cs), some fd => match E.ti fd.type with
      | some j => ((sub cs fd.offset (if j.isAgg then j.size else 1)).bind (asType j)).map fun v => .val v fr h
      | none => none
    | _, _ => none
  | .indexAddr t x i => match fr.eval x, fr.eval i with
    | some a, some b => (indexAddrV E t a b).map fun v => .val v fr h
    | _, _ => none
  | .index t x i => match fr.eval x, fr.eval i with
    | some a, some b => (indexV E t a b).map fun v => .val v fr h
    | _, _ => none
  | .lookup t m k ok => match E.desc t, fr.eval m, fr.eval k with
    | some (.map kt e), some mv, some kv =>
      if keyOk E kt kv && !kv.isLoc then
        match mapGet E kt h mv kv, E.ti e with
        | some (some v), _ => some (.val (if ok then .tup [v, .bool true] else v) fr h)
        | some none, some j => some (.val (if ok then .tup [j.zero, .bool false] else j.zero) fr h)
        | _, _ => none
      else none
    | _, _, _ => none
  | .mapUpdate t m k x | .insert t m k x => match E.desc t, fr.eval m, fr.eval k, fr.eval x with
    | some (.map kt _), some mv, some kv, some v =>
      if keyOk E kt kv && v.whole && kv.whole then (mapSet E kt h mv kv v).map fun h' => .val (.tup []) fr h' else none
    | _, _, _, _ => none
  | .mapEntry t m k => match E.desc t, fr.eval m, fr.eval k with
    | some (.map kt e), some mv, some kv => match E.ti e with
      | some j => if keyOk E kt kv && kv.whole then (mapEnt E kt h mv kv j.zero).map fun r => .val r.1 fr r.2 else none
      | none => none
    | _, _, _ => none
  | .entryStore _ m st x => match fr.eval m, fr.eval st, fr.eval x with
    | some mv, some s, some v => if !v.whole then none else (entSet h mv s v).map fun h' => .val (.tup []) fr h'
    | _, _, _ => none
  | .range t x => match E.desc t, fr.eval x with
    | some .string, some (.str s) => some (.val (.cell h.next 0) fr (h.alloc (.siter s 0)))
    | _, _ => none
  | .next it true => match fr.eval it with
    | some (.cell id 0) => match h.get id with
      | some (.siter s pos) =>
        if pos < s.size then
          some (.val (.tup [.bool true, .int .i64 pos, .int .i32 (Utf8.decode s pos).1]) fr (h.set id (.siter s (pos + (Utf8.decode s pos).2))))
        else some (.val (.tup [.bool false]) fr h)
      | _ => none
    | _ => none
  | .extract x i => match fr.eval x with
    | some (.tup vs) => (vs[i]?).map fun v => .val v fr h
    | _ => none
  | .typeAssert x _ a ok => match E.ti a, fr.eval x with
    | some j, some xv =>
      match j.desc with
      | .interface _ => none
      | _ => match xv with
        | .nili => if ok then some (.val (.tup [j.zero, .bool false]) fr h) else none
        | .iface t v => if t = a then some (.val (if ok then .tup [v, .bool true] else v) fr h) else if ok then some (.val (.tup [j.zero, .bool false]) fr h) else none
        | _ => none
    | _, _ => none
  | .panic x => match fr.eval x with
    | some (.iface t v) => some (.pan (.iface t v))
    | _ => none
  | .call c => match c.callee with
    | .builtin b => match fr.evals c.args.toList with
      | some vs => if noLoc vs then builtinV E fr h b c.argTypes.toList vs else none
      | none => none
    | .value f => match fr.eval f, fr.evals c.args.toList with
      | some g, some vs => if noLoc vs then some (.go g vs) else none
      | _, _ => none
    | .invoke r m => match fr.eval r, fr.evals c.args.toList with
      | some (.iface t v), some vs => if noLoc vs then some (.go (.fn (.method m) [] []) (.iface t v :: vs)) else none
      | _, _ => none
  | .defer c => match c.callee with
    | .value f => match fr.eval f, fr.evals c.args.toList with
      | some (.fn (.func g) a b), some vs => if noLoc vs && notBan fr.rc then some (.val (.tup []) { fr with defers := (.fn (.func g) a b, vs) :: fr.defers } h) else none
      | _, _ => none
    | _ => none
  | _ => none

def wants (all : Array Oper) (fr : Fr) (o : Oper) : Option Bool :=
  match o.guard with
  | none => some true
  | some (j, w) => match (all[j]?).bind (·.dst) with
    | some t => match fr.vals.get t with
      | some (.bool b) => some (b == w)
      | some (.tup []) => some false
      | _ => none
    | none => none

inductive AItem where
  | code (c : Code)
  | inBlock (id : Nat)
  | inLoop (c : Code)
  | inScope (c : Code)
  | ops (all : Array Oper) (rest : List Oper)
  | round (l : Nat)

def aExit (id : Nat) : List AItem → Option (List AItem)
  | .inBlock i :: k => if i = id then some k else aExit id k
  | _ :: k => aExit id k
  | [] => none

inductive Ex where
  | fall
  | jump (c : Code)
  | pan (v : V)
inductive FRes where
  | ret (v : V)
  | pan (v : V)

structure Ev where
  call : V → List V → Rc → Heap → Option (FRes × Bool × Heap)
  items : FuncId → List AItem → Fr → Heap → Option (Ex × Fr × Heap)

def acts (buf : Tmp → Bool) (o : Oper) : Bool :=
  match o.op with
  | .alloc _ | .box .. | .store .. | .makeMap .. | .makeSlice .. | .mapUpdate .. | .insert .. | .mapEntry .. | .entryStore .. | .range .. | .next .. | .panic _ | .defer _ | .go _ | .send .. | .recv .. | .select .. | .makeChan .. => true
  | .buildSlice .. => match o.dst with | some d => buf d | none => true
  | .call c => match c.callee with
    | .builtin .len | .builtin .cap | .builtin .max | .builtin .min => false
    | _ => true
  | _ => false
def reads (o : Oper) : Bool :=
  match o.op with
  | .load .. | .lookup .. | .slice .. => true
  | .call c => match c.callee with
    | .builtin .len | .builtin .cap => true
    | _ => false
  | _ => false
def lowOf (acc : List (Bool × Nat)) (o : Oper) : Nat :=
  o.after.foldl (fun m e => if Region.binds .any e then max m (match acc[e.on]? with | some (true, k) => k + 1 | some (false, k) => k | none => 0) else m) 0
def lows (buf : Tmp → Bool) : List Oper → List (Bool × Nat) → List (Bool × Nat)
  | [], acc => acc
  | o :: r, acc => lows buf r (acc ++ [(acts buf o, lowOf acc o)])
def highOf (j : Nat) (m : Nat) : Nat → List Oper → List (Bool × Nat) → List Nat → Nat
  | i, o :: r, a :: acc, h :: hs =>
    let rest := highOf j m (i + 1) r acc hs
    if o.after.any (fun e => Region.binds .any e && e.on == j) then min rest (if a.1 then a.2 else h) else rest
  | _, _, _, _ => m
def highs (m : Nat) : Nat → List Oper → List (Bool × Nat) → List Nat
  | _, [], _ => []
  | j, _ :: r, as =>
    let hs := highs m (j + 1) r as.tail
    highOf j m (j + 1) r as.tail hs :: hs
structure POp where
  o : Oper
  act : Bool
  lo : Nat
  hi : Nat
def zipPlan : List Oper → List (Bool × Nat) → List Nat → List POp
  | o :: r, a :: as, h :: hs => ⟨o, a.1, a.2, h⟩ :: zipPlan r as hs
  | _, _, _ => []
def plan (buf : Tmp → Bool) (ops : Array Oper) : List POp :=
  let as := lows buf ops.toList []
  zipPlan ops.toList as (highs (as.filter (·.1)).length 0 ops.toList as)

structure DRead where
  o : Oper
  fr : Fr
  v : V
  lo : Nat
  hi : Nat
def stageOk (E : Env) (fid : FuncId) (d : DRead) (k : Nat) (st : Al (List V) × Heap) : Bool :=
  k < d.lo || d.hi < k || (match stepOp E fid { d.fr with boxes := st.1 } st.2 d.o with | some (.val v _ _) => V.same v d.v | _ => false)
def stagesOk (E : Env) (fid : FuncId) (d : DRead) : Nat → List (Al (List V) × Heap) → Bool
  | _, [] => true
  | k, st :: r => stageOk E fid d k st && stagesOk E fid d (k + 1) r

def drawRun (E : Env) (r : Ev) (fid : FuncId) (all : Array Oper) (fr0 : Fr) : List POp → Fr → Heap → List (Al (List V) × Heap) → List DRead → Option (Ex × Fr × Heap)
  | [], fr, h, sts, ds => if ds.all fun d => stagesOk E fid d 0 sts.reverse then some (.fall, fr, h) else none
  | p :: ps, fr, h, sts, ds =>
    match wants all fr p.o with
    | none => none
    | some false => drawRun E r fid all fr0 ps (fr.put p.o.dst (.tup [])) h (if p.act then (fr.boxes, h) :: sts else sts) ds
    | some true =>
      match stepOp E fid fr h p.o with
      | some (.val v fr' h') =>
        if p.act then
          drawRun E r fid all fr0 ps (fr'.put p.o.dst v) h' ((fr'.boxes, h') :: sts) ds
        else drawRun E r fid all fr0 ps (fr'.put p.o.dst v) h' sts (if reads p.o then ⟨p.o, fr, v, p.lo, p.hi⟩ :: ds else ds)
      | some (.go f args) =>
        match r.call f args .no h with
        | some (.ret v, false, h') => drawRun E r fid all fr0 ps (fr.put p.o.dst v) h' ((fr.boxes, h') :: sts) ds
        | some (.pan v, false, h') => if (ps.all fun q => decide (p.lo < q.lo)) && (ds.all fun d => stagesOk E fid d 0 sts.reverse) then some (.pan v, { fr0 with boxes := fr.boxes, vals := fr0.vals.filter fun q => !(all.toList.any fun o => o.dst == some q.1) }, h') else none
        | _ => none
      | _ => none

def fieldsIn (p : Program) (d : TypeDesc) : Bool :=
  match d with
  | .struct fs => fs.toList.all fun f => (p.info? f.type).isSome
  | .array _ e => (p.info? e).isSome
  | _ => true
def tinfo (p : Program) (t : TypeId) : Option TInfo :=
  match p.info? t, p.underlying t with
  | some i, some d => match i.zero with
    | some z => match ofValue z with
      | some v => if v.whole && v.cells.length == i.size && fieldsIn p d && (TInfo.isAgg ⟨d, i.size, i.bytes, v⟩ == v.isAgg) then some ⟨d, i.size, i.bytes, v⟩ else none
      | none => none
    | none => none
  | _, _ => none

def plainK (p : Program) : Nat → TypeId → Option (List Kd)
  | 0, _ => none
  | d + 1, t =>
    match p.underlying t with
    | some .bool => some [.b]
    | some (.int _) => some [.i]
    | some .string => some [.s]
    | some (.struct fs) =>
      if p.stoodInHeld t then none else
      match plainF p d 0 fs.toList with
      | some ks => if ks.length = p.cellsOf t then some ks else none
      | none => none
    | some (.array n e) => match plainK p d e with
      | some ks => if n * ks.length = p.cellsOf t ∧ p.cellsOf e = ks.length then some ((List.replicate n ks).flatten) else none
      | none => none
    | _ => none
  where
  plainF (p : Program) (d : Nat) (off : Nat) : List Field → Option (List Kd)
  | [] => some []
  | f :: fs => if f.offset = off ∧ f.name ≠ "_" then
      match plainK p d f.type with
      | some ks => match plainF p d (off + ks.length) fs with
        | some rs => some (ks ++ rs)
        | none => none
      | none => none
    else none

def Env.prune (E : Env) (fid : FuncId) (fr : Fr) : Fr := { fr with vals := fr.vals.filter fun p => E.keep fid p.1 }

def putParams : List Tmp → List V → Al V → Option (Al V)
  | [], [], m => some m
  | t :: ts, v :: vs, m => putParams ts vs (m.put t v)
  | _, _, _ => none

def runDefers (r : Ev) : List (V × List V) → Option V → Heap → Option (Option V × Heap)
  | [], m, h => some (m, h)
  | (f, args) :: ds, m, h =>
    match r.call f args (match m with | some v => .av v | none => .no) h with
    | some (.ret _, rec, h') => runDefers r ds (if rec then none else m) h'
    | some (.pan v, false, h') => match m with
      | none => runDefers r ds (some v) h'
      | some _ => none
    | _ => none

def resultOf (E : Env) (fr : Fr) (h : Heap) : ResultVar → Option V
  | .tmp t => fr.vals.get t
  | .cell a t => match E.ti t, fr.vals.get a with
    | some i, some p => readAt fr h i p
    | _, _ => none
def resultsOf (E : Env) (fr : Fr) (h : Heap) : List ResultVar → Option (List V)
  | [] => some []
  | x :: r => match resultOf E fr h x, resultsOf E fr h r with
    | some v, some vs => some (v :: vs)
    | _, _ => none
def packOf : List V → V
  | [v] => v
  | vs => .tup vs
def isTaken : Rc → Bool
  | .taken => true
  | _ => false

def zipFrom (vs : List V) (i : Nat) : Al V :=
  match vs with
  | [] => []
  | v :: r => (i, v) :: zipFrom r (i + 1)

def endFn (E : Env) (r : Ev) (fn : Func) (m : Option V) (fr : Fr) (h : Heap) : Option (FRes × Bool × Heap) :=
  match runDefers r fr.defers m h with
  | some (none, h') => match resultsOf E fr h' fn.results.toList with
    | some vs => if noLoc vs then some (.ret (packOf vs), isTaken fr.rc, h') else none
    | none => none
  | some (some v, h') => some (.pan v, isTaken fr.rc, h')
  | none => none

def aRound (r : Ev) (l : Nat) (args : List V) (h : Heap) : Option (FRes × Bool × Heap) :=
  match h.get l with
  | some (.loop lp) =>
    match lp.state, putParams lp.params.toList args lp.vals with
    | .ready, some vs =>
      match r.items lp.fn [.code lp.assign, .round l, .code lp.body] ⟨vs, [], [], .ban l⟩ h with
      | some (ex, fr, h') =>
        if fr.defers.isEmpty then
          match ex, h'.get l with
          | .fall, some (.loop lp') => some (.ret (.bool true), false, h'.set l (.loop { lp' with state := .ready, pending := none }))
          | .jump c, some (.loop lp') => some (.ret (.bool false), false, h'.set l (.loop { lp' with state := .done, pending := some c }))
          | .pan v, _ => some (.pan v, false, h')
          | _, _ => none
        else none
      | none => none
    | _, _ => none
  | _ => none

def aCall (E : Env) (r : Ev) (f : V) (args : List V) (rc : Rc) (h : Heap) : Option (FRes × Bool × Heap) :=
  match f with
  | .fn (.func g) first cap =>
    match E.fn g with
    | some fn => match fn.body with
      | some c =>
        match r.items g [.code c] ⟨zipFrom (first ++ args ++ cap) 0, [], [], rc⟩ h with
        | some (.fall, fr, h') => endFn E r fn none fr h'
        | some (.jump .ret, fr, h') => endFn E r fn none fr h'
        | some (.pan v, fr, h') => endFn E r fn (some v) fr h'
        | _ => none
      | none => none
    | none => none
  | .fn (.yield l) [] [] => match rc with
    | .no => aRound r l args h
    | _ => none
  | _ => none

def roundLive : Rc → Heap → Bool
  | .ban l, h => match h.get l with
    | some (.loop _) => true
    | _ => false
  | _, _ => true
def aItems (E : Env) (r : Ev) (fid : FuncId) (items : List AItem) (fr : Fr) (h : Heap) : Option (Ex × Fr × Heap) :=
  match items with
  | [] => some (.fall, fr, h)
  | .inBlock _ :: k => r.items fid k fr h
  | .inScope _ :: k => r.items fid k fr h
  | .inLoop c :: k => r.items fid (.code c :: .inLoop c :: k) fr h
  | .round l :: k => match h.get l with
    | some (.loop lp) => match lp.state with
      | .ready => r.items fid k fr (h.set l (.loop { lp with state := .busy }))
      | _ => none
    | _ => none
  | .code c :: k => match c with
    | .skip => r.items fid k fr h
    | .seq a b => r.items fid (.code a :: .code b :: k) fr h
    | .cond x a b => match fr.eval x with
      | some (.bool t) => r.items fid (.code (if t then a else b) :: k) fr h
      | _ => none
    | .block id b => r.items fid (.code b :: .inBlock id :: k) fr h
    | .loop b => r.items fid (.code b :: .inLoop b :: k) fr h
    | .scope b => r.items fid (.code b :: .inScope b :: k) fr h
    | .label _ => r.items fid k fr h
    | .exit id => match aExit id k with
      | some k' => r.items fid k' fr h
      | none => some (.jump (.exit id), fr, h)
    | .ret => some (.jump .ret, fr, h)
    | .region _ ops false => r.items fid (.ops ops ops.toList :: k) fr h
    | .region _ ops true => match drawRun E r fid ops fr (plan (E.isBuf fid) ops) fr h [(fr.boxes, h)] [] with
      | some (.fall, fr', h') => r.items fid k (E.prune fid fr') h'
      | some (.pan v, fr', h') => some (.pan v, fr', h')
      | _ => none
    | .rangeFunc f ps assign body =>
      if !roundLive fr.rc h then none else
      match fr.eval f with
      | some g => match r.call g [.fn (.yield h.next) [] []] .no (h.alloc (.loop ⟨.ready, none, fid, fr.vals.map fun p => (p.1, dropLoc p.2), ps, assign, body⟩)) with
        | some (.ret _, false, h') => match h'.get h.next with
          | some (.loop lp) => match lp.state with
            | .busy => none
            | _ => match lp.pending with
              | none => r.items fid k fr (h'.set h.next (.loop { lp with state := .exhausted }))
              | some c => r.items fid (.code c :: k) fr (h'.set h.next (.loop { lp with state := .exhausted }))
          | _ => none
        | some (.pan v, false, h') => some (.pan v, fr, h')
        | _ => none
      | none => none
    | _ => none
  | .ops _ [] :: k => r.items fid k (E.prune fid fr) h
  | .ops all (o :: os) :: k =>
    match wants all fr o with
    | none => none
    | some false => r.items fid (.ops all os :: k) (fr.put o.dst (.tup [])) h
    | some true =>
      match stepOp E fid fr h o with
      | some (.val v fr' h') => r.items fid (.ops all os :: k) (fr'.put o.dst v) h'
      | some (.pan v) => some (.pan v, fr, h)
      | some (.go f args) => match r.call f args .no h with
        | some (.ret v, false, h') => r.items fid (.ops all os :: k) (fr.put o.dst v) h'
        | some (.pan v, false, h') => some (.pan v, fr, h')
        | _ => none
      | none => none

def aStep (E : Env) (r : Ev) : Ev := ⟨aCall E r, aItems E r⟩
def ev (E : Env) : Nat → Ev
  | 0 => ⟨fun _ _ _ _ => none, fun _ _ _ _ => none⟩
  | n + 1 => aStep E (ev E n)

end Go.Abs
namespace Go.Abs

structure Blk where
  b : Nat
  base : Nat
  size : Nat
structure Om where
  φ : Nat → Option Blk
  ro : Nat → Option Obj

def FnR (ω : Om) : Fn → Fn → Prop
  | .yield l, f => ∃ bl, ω.φ l = some bl ∧ f = .yield bl.b
  | g, f => f = g

mutual
def VR (ω : Om) : V → Value → Prop
  | .bool b, x => x = .bool b
  | .int k n, x => x = .int k n
  | .str s, x => x = .string s
  | .nilp, x => x = .pointer none
  | .loc _ _, _ => False
  | .cell id off, x => ∃ bl, ω.φ id = some bl ∧ x = .pointer (some ⟨bl.b, bl.base + off, none⟩)
  | .rop row off, x => ∃ b base cs el fz, ω.ro b = some (.cells cs el fz) ∧ VRs ω row (cs.toList.drop base) ∧ flats row = true ∧ x = .pointer (some ⟨b, base + off, none⟩)
  | .nils, x => x = .slice none 0 0
  | .sro row off len full, x => ∃ a cap, x = .slice (some a) len cap ∧ len ≤ cap ∧ cap ≤ maxLen ∧ (full = true → cap = len) ∧ flats row = true ∧ (cap ≠ 0 → ∃ b base cs el fz, a = ⟨b, base + off, none⟩ ∧ ω.ro b = some (.cells cs el fz) ∧ VRs ω row (cs.toList.drop base))
  | .sbuf id off len sz full, x => ∃ bl o cap, ω.φ id = some bl ∧ x = .slice (some ⟨bl.b, o, none⟩) len cap ∧ len ≤ cap ∧ cap ≤ maxLen ∧ (full = true → cap = len) ∧ (cap ≠ 0 → o = bl.base + off) ∧ bl.base + off + cap * sz ≤ bl.size
  | .nilm, x => x = .map none
  | .mp id, x => ∃ bl, ω.φ id = some bl ∧ x = .map (some bl.b)
  | .fn f a c, x => ∃ f' a' c', FnR ω f f' ∧ a.length = Array.size a' ∧ VRs ω a a'.toList ∧ c.length = Array.size c' ∧ VRs ω c c'.toList ∧ x = .func f' a' c'
  | .nilf, x => x = .nilFunc
  | .iface t v, x => ∃ v', VR ω v v' ∧ x = .iface t v'
  | .nili, x => x = .nilIface
  | .agg cs, x => ∃ cs', cs.length = Array.size cs' ∧ VRs ω cs cs'.toList ∧ x = .agg cs'
  | .tup vs, x => ∃ vs', vs.length = Array.size vs' ∧ VRs ω vs vs'.toList ∧ x = .tuple vs'
  | .junk, _ => True
def VRs (ω : Om) : List V → List Value → Prop
  | [], _ => True
  | v :: vs, l => ∃ c l', l = c :: l' ∧ VR ω v c ∧ VRs ω vs l'
end

structure Om.le (ω ω' : Om) : Prop where
  φ : ∀ i b, ω.φ i = some b → ω'.φ i = some b
  ro : ∀ b o, ω.ro b = some o → ω'.ro b = some o
theorem Om.le.refl (ω : Om) : ω.le ω := ⟨fun _ _ h => h, fun _ _ h => h⟩
theorem Om.le.trans {a b c : Om} (h : a.le b) (h' : b.le c) : a.le c := ⟨fun i x y => h'.φ i x (h.φ i x y), fun i x y => h'.ro i x (h.ro i x y)⟩

theorem FnR.mono {ω ω' : Om} (h : ω.le ω') {f g : Fn} (hf : FnR ω f g) : FnR ω' f g := by
  cases f <;> simp only [FnR] at hf ⊢ <;> try exact hf
  obtain ⟨bl, h1, h2⟩ := hf
  exact ⟨bl, h.φ _ _ h1, h2⟩

mutual
theorem VR.mono {ω ω' : Om} (h : ω.le ω') : ∀ (v : V) (x : Value), VR ω v x → VR ω' v x
  | .bool b, x, hx => by simpa only [VR] using hx
  | .int k n, x, hx => by simpa only [VR] using hx
  | .str s, x, hx => by simpa only [VR] using hx
  | .nilp, x, hx => by simpa only [VR] using hx
  | .loc _ _, x, hx => by simp only [VR] at hx
  | .cell id off, x, hx => by
    simp only [VR] at hx ⊢
    obtain ⟨bl, h1, h2⟩ := hx
    exact ⟨bl, h.φ _ _ h1, h2⟩
  | .rop row off, x, hx => by
    simp only [VR] at hx ⊢
    obtain ⟨b, base, cs, el, fz, h1, h2, h3⟩ := hx
    exact ⟨b, base, cs, el, fz, h.ro _ _ h1, VRs.mono h row _ h2, h3⟩
  | .nils, x, hx => by simpa only [VR] using hx
  | .sro row off len full, x, hx => by
    simp only [VR] at hx ⊢
    obtain ⟨a, cap, h1, h2, h3, h4, h5, h6⟩ := hx
    refine ⟨a, cap, h1, h2, h3, h4, h5, fun hc => ?_⟩
    obtain ⟨b, base, cs, el, fz, g1, g2, g3⟩ := h6 hc
    exact ⟨b, base, cs, el, fz, g1, h.ro _ _ g2, VRs.mono h row _ g3⟩
  | .sbuf id off len sz full, x, hx => by
    simp only [VR] at hx ⊢
    obtain ⟨bl, o, cap, h1, h2⟩ := hx
    exact ⟨bl, o, cap, h.φ _ _ h1, h2⟩
  | .nilm, x, hx => by simpa only [VR] using hx
  | .mp id, x, hx => by
    simp only [VR] at hx ⊢
    obtain ⟨bl, h1, h2⟩ := hx
    exact ⟨bl, h.φ _ _ h1, h2⟩
  | .fn f a c, x, hx => by
    simp only [VR] at hx ⊢
    obtain ⟨f', a', c', h1, h2, h3, h4, h5, h6⟩ := hx
    exact ⟨f', a', c', h1.mono h, h2, VRs.mono h a _ h3, h4, VRs.mono h c _ h5, h6⟩
  | .nilf, x, hx => by simpa only [VR] using hx
  | .iface t v, x, hx => by
    simp only [VR] at hx ⊢
    obtain ⟨v', h1, h2⟩ := hx
    exact ⟨v', VR.mono h v _ h1, h2⟩
  | .nili, x, hx => by simpa only [VR] using hx
  | .agg cs, x, hx => by
    simp only [VR] at hx ⊢
    obtain ⟨cs', h1, h2, h3⟩ := hx
    exact ⟨cs', h1, VRs.mono h cs _ h2, h3⟩
  | .tup cs, x, hx => by
    simp only [VR] at hx ⊢
    obtain ⟨cs', h1, h2, h3⟩ := hx
    exact ⟨cs', h1, VRs.mono h cs _ h2, h3⟩
  | .junk, x, _ => by simp only [VR]
theorem VRs.mono {ω ω' : Om} (h : ω.le ω') : ∀ (vs : List V) (xs : List Value), VRs ω vs xs → VRs ω' vs xs
  | [], _, _ => by simp only [VRs]
  | v :: vs, xs, hx => by
    simp only [VRs] at hx ⊢
    obtain ⟨c, l', h1, h2, h3⟩ := hx
    exact ⟨c, l', h1, VR.mono h v _ h2, VRs.mono h vs _ h3⟩
end

section lists
variable {ω : Om}
theorem VRs.len : ∀ {vs : List V} {xs : List Value}, VRs ω vs xs → vs.length ≤ xs.length
  | [], _, _ => by simp
  | v :: vs, xs, h => by
    simp only [VRs] at h
    obtain ⟨c, l', rfl, _, h3⟩ := h
    have := VRs.len h3
    simp only [List.length_cons]
    omega
theorem VRs.get : ∀ {vs : List V} {xs : List Value}, VRs ω vs xs → ∀ (i : Nat) (v : V), vs[i]? = some v → ∃ x, xs[i]? = some x ∧ VR ω v x
  | [], _, _, i, v, hv => by simp at hv
  | u :: vs, xs, h, i, v, hv => by
    simp only [VRs] at h
    obtain ⟨c, l', rfl, h2, h3⟩ := h
    cases i with
    | zero => simp at hv; subst hv; exact ⟨c, rfl, h2⟩
    | succ i => simpa using VRs.get h3 i v (by simpa using hv)
theorem VRs.of_get : ∀ {vs : List V} {xs : List Value}, (∀ (i : Nat) (v : V), vs[i]? = some v → ∃ x, xs[i]? = some x ∧ VR ω v x) → VRs ω vs xs
  | [], _, _ => by simp only [VRs]
  | u :: vs, xs, h => by
    obtain ⟨x, h1, h2⟩ := h 0 u rfl
    cases xs with
    | nil => simp at h1
    | cons c l =>
      simp at h1
      subst h1
      simp only [VRs]
      exact ⟨_, l, rfl, h2, VRs.of_get fun i v hv => by simpa using h (i + 1) v (by simpa using hv)⟩
theorem VRs.take {vs : List V} {xs : List Value} (h : VRs ω vs xs) (n : Nat) : VRs ω (vs.take n) (xs.take n) := by
  refine VRs.of_get fun i v hv => ?_
  rw [List.getElem?_take] at hv
  split at hv
  · rename_i hi
    obtain ⟨x, h1, h2⟩ := h.get i v hv
    exact ⟨x, by rw [List.getElem?_take]; simp [hi, h1], h2⟩
  · cases hv
theorem VRs.drop {vs : List V} {xs : List Value} (h : VRs ω vs xs) (n : Nat) : VRs ω (vs.drop n) (xs.drop n) := by
  refine VRs.of_get fun i v hv => ?_
  rw [List.getElem?_drop] at hv
  obtain ⟨x, h1, h2⟩ := h.get _ v hv
  exact ⟨x, by rw [List.getElem?_drop]; exact h1, h2⟩
theorem VRs.append {vs us : List V} {xs ys : List Value} (hl : vs.length = xs.length) (h : VRs ω vs xs) (h' : VRs ω us ys) : VRs ω (vs ++ us) (xs ++ ys) := by
  refine VRs.of_get fun i v hv => ?_
  rcases Nat.lt_or_ge i vs.length with hi | hi
  · rw [List.getElem?_append_left hi] at hv
    obtain ⟨x, h1, h2⟩ := h.get i v hv
    exact ⟨x, by rw [List.getElem?_append_left (by omega)]; exact h1, h2⟩
  · rw [List.getElem?_append_right hi] at hv
    obtain ⟨x, h1, h2⟩ := h'.get _ v hv
    exact ⟨x, by rw [List.getElem?_append_right (by omega)]; rw [← hl]; exact h1, h2⟩
theorem VRs.more {vs : List V} {xs : List Value} (h : VRs ω vs xs) (ys : List Value) : VRs ω vs (xs ++ ys) := by
  refine VRs.of_get fun i v hv => ?_
  obtain ⟨x, h1, h2⟩ := h.get i v hv
  exact ⟨x, by rw [List.getElem?_append_left (by have := (List.getElem?_eq_some_iff.1 h1).1; exact this)]; exact h1, h2⟩
end lists

theorem VR.flat_one {ω : Om} {v : V} {x : Value} (h : VR ω v x) (hf : v.flat = true) : x.oneCell' = true := by
  cases v <;> simp only [VR, V.flat, Bool.false_eq_true] at h hf <;> (first | (subst h; rfl) | (obtain ⟨_, _, rfl⟩ := h; rfl) | skip)
  case rop => obtain ⟨_, _, _, _, _, _, _, _, rfl⟩ := h; rfl
  case sro => obtain ⟨_, _, rfl, _⟩ := h; rfl
  case sbuf => obtain ⟨_, _, _, _, rfl, _⟩ := h; rfl
  case fn => obtain ⟨_, _, _, _, _, _, _, _, rfl⟩ := h; rfl

theorem VR.cells {ω : Om} {v : V} {x : Value} (h : VR ω v x) (hw : v.whole = true) : v.cells.length = x.cells.size ∧ VRs ω v.cells x.cells.toList := by
  rcases (by cases v <;> first | exact .inl ⟨_, rfl⟩ | exact .inr rfl : (∃ cs, v = .agg cs) ∨ v.cells = [v]) with ⟨cs, rfl⟩ | hc
  · simp only [VR] at h
    obtain ⟨cs', h1, h2, rfl⟩ := h
    exact ⟨h1, h2⟩
  · have hf : v.flat = true := by simpa [V.whole, hc, flats] using hw
    have h1 := h.flat_one hf
    have hx : x.cells = #[x] := by cases x <;> first | rfl | simp [Value.oneCell'] at h1
    rw [hx, hc]
    simp only [List.length_cons, List.length_nil, VRs]
    exact ⟨rfl, x, [], rfl, h, trivial⟩

theorem VRs.ones {ω : Om} {vs : List V} {xs : List Value} (h : VRs ω vs xs) (hl : vs.length = xs.length) (hf : flats vs = true) : ∀ x ∈ xs, x.oneCell' = true := by
  intro x hx
  obtain ⟨i, hi, rfl⟩ := List.getElem_of_mem hx
  have hi' : i < vs.length := by omega
  obtain ⟨y, h1, h2⟩ := h.get i vs[i] (List.getElem?_eq_getElem hi')
  rw [List.getElem?_eq_getElem hi] at h1
  cases h1
  exact h2.flat_one (by simp only [flats, List.all_eq_true] at hf; exact hf _ (List.getElem_mem hi'))

end Go.Abs
namespace Go.Abs

theorem Trie.get_setF : ∀ (f : Nat) (t : Trie) (n m : Nat) (x : AObj), n < f → (Trie.setF f t n x).get m = if m = n then some x else t.get m
  | 0, _, _, _, _, h => by omega
  | f + 1, .lf, n, m, x, h => by
    simp only [Trie.setF]
    by_cases hn : n = 0
    · subst hn
      simp only [if_true, Trie.get]
      by_cases hm : m = 0
      · simp [hm]
      · simp only [hm, if_false]
        split <;> rfl
    · simp only [hn, if_false]
      by_cases ho : n % 2 = 1
      · simp only [ho, if_true, Trie.get]
        by_cases hm : m = 0
        · simp [hm, show ¬ (0 = n) by omega]
        · simp only [hm, if_false]
          by_cases hmo : m % 2 = 1
          · simp only [hmo, if_true, Trie.get_setF f .lf (n / 2) (m / 2) x (by omega), Trie.get]
            by_cases e : m = n
            · simp [e]
            · simp [e, show ¬ (m / 2 = n / 2) by omega]
          · simp only [hmo, if_false, show ¬ (m = n) by omega]
      · simp only [ho, if_false, Trie.get]
        by_cases hm : m = 0
        · simp [hm, show ¬ (0 = n) by omega]
        · simp only [hm, if_false]
          by_cases hmo : m % 2 = 1
          · simp only [hmo, if_true, show ¬ (m = n) by intro e; subst e; exact ho hmo, if_false]
          · simp only [hmo, if_false, Trie.get_setF f .lf (n / 2 - 1) (m / 2 - 1) x (by omega), Trie.get]
            by_cases e : m = n
            · simp [e]
            · simp [e, show ¬ (m / 2 - 1 = n / 2 - 1) by omega]
  | f + 1, .nd o l r, n, m, x, h => by
    simp only [Trie.setF]
    by_cases hn : n = 0
    · subst hn
      simp only [if_true, Trie.get]
      by_cases hm : m = 0
      · simp [hm]
      · simp only [hm, if_false]
    · simp only [hn, if_false]
      by_cases ho : n % 2 = 1
      · simp only [ho, if_true, Trie.get]
        by_cases hm : m = 0
        · simp [hm, show ¬ (0 = n) by omega]
        · simp only [hm, if_false]
          by_cases hmo : m % 2 = 1
          · simp only [hmo, if_true, Trie.get_setF f l (n / 2) (m / 2) x (by omega)]
            by_cases e : m = n
            · simp [e]
            · simp [e, show ¬ (m / 2 = n / 2) by omega]
          · simp only [hmo, if_false, show ¬ (m = n) by intro e; subst e; exact hmo ho]
      · simp only [ho, if_false, Trie.get]
        by_cases hm : m = 0
        · simp [hm, show ¬ (0 = n) by omega]
        · simp only [hm, if_false]
          by_cases hmo : m % 2 = 1
          · simp only [hmo, if_true, show ¬ (m = n) by intro e; subst e; exact ho hmo, if_false]
          · simp only [hmo, if_false, Trie.get_setF f r (n / 2 - 1) (m / 2 - 1) x (by omega)]
            by_cases e : m = n
            · simp [e]
            · simp [e, show ¬ (m / 2 - 1 = n / 2 - 1) by omega]

theorem Heap.get_alloc (h : Heap) (o : AObj) (j : Nat) : (h.alloc o).get j = if j = h.next then some o else h.get j := by
  simp only [Heap.get, Heap.alloc, Trie.get_setF _ _ _ _ _ (Nat.lt_succ_self _)]
  by_cases e : j = h.next
  · simp [e]
  · simp only [e, if_false]
    by_cases hl : j < h.next
    · simp [hl, show j < h.next + 1 by omega]
    · simp [hl, show ¬ j < h.next + 1 by omega]
theorem Heap.get_set (h : Heap) (i j : Nat) (o : AObj) (hi : i < h.next) : (h.set i o).get j = if j = i then some o else h.get j := by
  simp only [Heap.get, Heap.set, Trie.get_setF _ _ _ _ _ (Nat.lt_succ_self _)]
  by_cases e : j = i
  · simp [e, hi]
  · simp only [e, if_false]
theorem Heap.lt_of_get {h : Heap} {i : Nat} {o : AObj} (hg : h.get i = some o) : i < h.next := by
  simp only [Heap.get] at hg
  split at hg
  · assumption
  · cases hg
@[simp] theorem Heap.next_alloc (h : Heap) (o : AObj) : (h.alloc o).next = h.next + 1 := rfl
@[simp] theorem Heap.next_set (h : Heap) (i : Nat) (o : AObj) : (h.set i o).next = h.next := rfl

theorem Al.get_put {α : Type} : ∀ (m : Al α) (i j : Nat) (v : α), (Al.put m i v).get j = if i = j then some v else m.get j
  | [], i, j, v => by simp [Al.put, Al.get]
  | (k, u) :: r, i, j, v => by
    simp only [Al.put]
    split
    · rename_i h; subst h
      simp only [Al.get]
      split <;> rfl
    · rename_i h
      split
      · simp only [Al.get]
      · simp only [Al.get, Al.get_put r i j v]
        by_cases hk : k = j
        · subst hk; simp [Ne.symm h]
        · simp [hk]
theorem Al.get_filterKey {α : Type} (p : Nat → Bool) : ∀ (m : Al α) (j : Nat), (Al.get (List.filter (fun x => p x.1) m) j) = if p j then m.get j else none
  | [], j => by simp [Al.get]
  | (k, u) :: r, j => by
    simp only [List.filter_cons]
    by_cases hk : k = j
    · subst hk
      by_cases hp : p k = true
      · simp [hp, Al.get]
      · have hp' : p k = false := by simpa using hp
        simp [hp', Al.get_filterKey p r k]
    · split
      · simp only [Al.get, hk, if_false, Al.get_filterKey p r j]
      · simp only [Al.get, hk, if_false, Al.get_filterKey p r j]
theorem Al.get_map {α : Type} (f : α → α) : ∀ (m : Al α) (j : Nat), Al.get (List.map (fun x => (x.1, f x.2)) m) j = (m.get j).map f
  | [], j => by simp [Al.get]
  | (k, u) :: r, j => by
    simp only [List.map_cons, Al.get, Al.get_map f r j]
    split <;> rfl

def AObj.live : AObj → Bool
  | .dead => false
  | _ => true

def ERel (ω : Om) (e : V × V × Nat) (e' : MapEntry) : Prop := VR ω e.1 e'.key ∧ VR ω e.2.1 e'.val ∧ e.2.2 = e'.born ∧ e.1.whole = true ∧ e.2.1.whole = true
def ERels (ω : Om) : List (V × V × Nat) → List MapEntry → Prop
  | [], l => l = []
  | e :: es, l => ∃ e' l', l = e' :: l' ∧ ERel ω e e' ∧ ERels ω es l'
structure Good where
  ok : FuncId → Nat → Code → Prop

structure LRel (ok : FuncId → Nat → Code → Prop) (ω : Om) (l : ALoop) (r : Loop) : Prop where
  state : r.state = l.state
  pending : r.pending = l.pending
  fn : r.fn = l.fn
  params : r.params = l.params
  assign : r.assign = l.assign
  body : r.body = l.body
  vals : ∀ t v, l.vals.get t = some v → VR ω v (r.tmps.getD t undef)
  okA : ok l.fn r.tmps.size l.assign
  okB : ok l.fn r.tmps.size l.body
  okP : ∀ t ∈ l.params, t < r.tmps.size
  okJ : ∀ c, l.pending = some c → (∃ id, c = .exit id) ∨ c = .ret

def ORel (ok : FuncId → Nat → Code → Prop) (ω : Om) (bl : Blk) (w : World) : AObj → Prop
  | .row cs => ∃ cs' el, w.heap[bl.b]? = some (.cells cs' el (0, 0)) ∧ cs'.size = bl.size ∧ bl.base + cs.length ≤ cs'.size ∧ VRs ω cs (cs'.toList.drop bl.base) ∧ flats cs = true
  | .dead => True
  | .mapo es c => ∃ es', w.heap[bl.b]? = some (.map es' c) ∧ ERels ω es es'.toList
  | .loop l => ∃ l', w.heap[bl.b]? = some (.loop l') ∧ LRel ok ω l l'
  | .siter s pos => bl.base = 0 ∧ w.heap[bl.b]? = some (.stringIter s pos)

structure WR (ok : FuncId → Nat → Code → Prop) (ω : Om) (H : Heap) (w : World) : Prop where
  ro : ∀ b o, ω.ro b = some o → w.heap[b]? = some o
  obj : ∀ i o, H.get i = some o → o.live = true → ∃ bl, ω.φ i = some bl ∧ ORel ok ω bl w o
  inj : ∀ i j oi oj bi bj, H.get i = some oi → oi.live = true → H.get j = some oj → oj.live = true → ω.φ i = some bi → ω.φ j = some bj → bi.b = bj.b → i = j
  sep : ∀ i o bl, H.get i = some o → o.live = true → ω.φ i = some bl → ω.ro bl.b = none
  dom : ∀ i bl, ω.φ i = some bl → i < H.next

def owns (ω : Om) (H : Heap) (b : Nat) : Prop := ∃ i o bl, H.get i = some o ∧ o.live = true ∧ ω.φ i = some bl ∧ bl.b = b

structure Evo (L : Nat → Prop) (ω : Om) (H : Heap) (w : World) (ω' : Om) (H' : Heap) (w' : World) : Prop where
  le : ω.le ω'
  next : H.next ≤ H'.next
  size : w.heap.size ≤ w'.heap.size
  keep : ∀ b, b < w.heap.size → ¬ owns ω H b → ¬ L b → w'.heap[b]? = w.heap[b]?
  own : ∀ b, owns ω' H' b → b < w.heap.size → owns ω H b
  rob : ∀ b o, ω'.ro b = some o → b < w.heap.size → ω.ro b = some o
  tape : w'.tape = w.tape
  os : w'.os = w.os
  out : w'.output = w.output

theorem Evo.refl {L : Nat → Prop} {ω : Om} {H : Heap} {w : World} : Evo L ω H w ω H w :=
  ⟨.refl ω, Nat.le_refl _, Nat.le_refl _, fun _ _ _ _ => rfl, fun _ h _ => h, fun _ _ h _ => h, rfl, rfl, rfl⟩

theorem Evo.trans {L L' : Nat → Prop} {a b c : Om} {Ha Hb Hc : Heap} {wa wb wc : World} (h : Evo L a Ha wa b Hb wb) (h' : Evo L' b Hb wb c Hc wc)
    (hL : ∀ x, L' x → x < wa.heap.size → L x) : Evo L a Ha wa c Hc wc where
  le := h.le.trans h'.le
  next := Nat.le_trans h.next h'.next
  size := Nat.le_trans h.size h'.size
  keep := fun x hx hn hl => by
    rw [h'.keep x (Nat.lt_of_lt_of_le hx h.size) (fun ho => hn (h.own x ho hx)) (fun hl' => hl (hL x hl' hx)), h.keep x hx hn hl]
  own := fun x hx hs => h.own x (h'.own x hx (Nat.lt_of_lt_of_le hs h.size)) hs
  rob := fun x o hx hs => h.rob x o (h'.rob x o hx (Nat.lt_of_lt_of_le hs h.size)) hs
  tape := h'.tape.trans h.tape
  os := h'.os.trans h.os
  out := h'.out.trans h.out

theorem Evo.weaken {L L' : Nat → Prop} {a b : Om} {Ha Hb : Heap} {wa wb : World} (h : Evo L a Ha wa b Hb wb) (hL : ∀ x, L x → L' x) : Evo L' a Ha wa b Hb wb :=
  { h with keep := fun x hx hn hl => h.keep x hx hn fun hl' => hl (hL x hl') }

theorem ERel.mono {ω ω' : Om} (h : ω.le ω') {e : V × V × Nat} {e' : MapEntry} (he : ERel ω e e') : ERel ω' e e' := ⟨VR.mono h _ _ he.1, VR.mono h _ _ he.2.1, he.2.2⟩
theorem ERels.mono {ω ω' : Om} (h : ω.le ω') : ∀ {es : List (V × V × Nat)} {l : List MapEntry}, ERels ω es l → ERels ω' es l
  | [], _, he => he
  | e :: es, l, he => by
    obtain ⟨e', l', h1, h2, h3⟩ := he
    exact ⟨e', l', h1, h2.mono h, ERels.mono h h3⟩
theorem LRel.mono {ok : FuncId → Nat → Code → Prop} {ω ω' : Om} (h : ω.le ω') {l : ALoop} {r : Loop} (hl : LRel ok ω l r) : LRel ok ω' l r :=
  { hl with vals := fun t v ht => VR.mono h _ _ (hl.vals t v ht) }
theorem ORel.mono {ok : FuncId → Nat → Code → Prop} {ω ω' : Om} (h : ω.le ω') {bl : Blk} {w w' : World} {o : AObj} (ho : ORel ok ω bl w o) (hb : w'.heap[bl.b]? = w.heap[bl.b]?) : ORel ok ω' bl w' o := by
  cases o with
  | row cs =>
    obtain ⟨cs', el, h1, h2, h3, h4, h5⟩ := ho
    exact ⟨cs', el, hb.trans h1, h2, h3, VRs.mono h _ _ h4, h5⟩
  | dead => trivial
  | mapo es c =>
    obtain ⟨es', h1, h2⟩ := ho
    exact ⟨es', hb.trans h1, h2.mono h⟩
  | loop l =>
    obtain ⟨l', h1, h2⟩ := ho
    exact ⟨l', hb.trans h1, h2.mono h⟩
  | siter s pos => exact ⟨ho.1, hb.trans ho.2⟩
theorem ORel.lt {ok : FuncId → Nat → Code → Prop} {ω : Om} {bl : Blk} {w : World} {o : AObj} (ho : ORel ok ω bl w o) (hl : o.live = true) : bl.b < w.heap.size := by
  have key : ∀ x, w.heap[bl.b]? = some x → bl.b < w.heap.size := fun x hx => (Array.getElem?_eq_some_iff.1 hx).1
  cases o with
  | row cs => obtain ⟨cs', el, h1, _⟩ := ho; exact key _ h1
  | dead => simp [AObj.live] at hl
  | mapo es c => obtain ⟨es', h1, _⟩ := ho; exact key _ h1
  | loop l => obtain ⟨l', h1, _⟩ := ho; exact key _ h1
  | siter s pos => exact key _ ho.2
theorem WR.owns_lt {ok : FuncId → Nat → Code → Prop} {ω : Om} {H : Heap} {w : World} (h : WR ok ω H w) {b : Nat} (ho : owns ω H b) : b < w.heap.size := by
  obtain ⟨i, o, bl, h1, h2, h3, rfl⟩ := ho
  obtain ⟨bl', h4, h5⟩ := h.obj i o h1 h2
  rw [h3] at h4; cases h4
  exact h5.lt h2
theorem WR.ro_lt {ok : FuncId → Nat → Code → Prop} {ω : Om} {H : Heap} {w : World} (h : WR ok ω H w) {b : Nat} {o : Obj} (hr : ω.ro b = some o) : b < w.heap.size :=
  (Array.getElem?_eq_some_iff.1 (h.ro b o hr)).1
theorem WR.owns_ro {ok : FuncId → Nat → Code → Prop} {ω : Om} {H : Heap} {w : World} (h : WR ok ω H w) {b : Nat} (ho : owns ω H b) : ω.ro b = none := by
  obtain ⟨i, o, bl, h1, h2, h3, rfl⟩ := ho
  exact h.sep i o bl h1 h2 h3

def SlotR (ω : Om) (lo : Nat → Option Nat) (v : V) (x : Value) : Prop :=
  match v with
  | .loc t off => ∃ b, lo t = some b ∧ x = .pointer (some ⟨b, off, none⟩)
  | v => VR ω v x
theorem SlotR.of_vr {ω : Om} {lo : Nat → Option Nat} {v : V} {x : Value} (h : VR ω v x) : SlotR ω lo v x := by
  cases v <;> first | exact h | (simp only [VR] at h)
theorem SlotR.vr {ω : Om} {lo : Nat → Option Nat} {v : V} {x : Value} (h : SlotR ω lo v x) (hl : v.isLoc = false) : VR ω v x := by
  cases v <;> first | exact h | (simp [V.isLoc] at hl)
theorem SlotR.mono {ω ω' : Om} {lo : Nat → Option Nat} (hle : ω.le ω') {v : V} {x : Value} (h : SlotR ω lo v x) : SlotR ω' lo v x := by
  cases v <;> first | exact VR.mono hle _ _ h | exact h

structure FR (ω : Om) (H : Heap) (lo : Nat → Option Nat) (fr : Fr) (tmps : Array Value) (w : World) : Prop where
  vals : ∀ t v, fr.vals.get t = some v → SlotR ω lo v (tmps.getD t undef)
  boxes : ∀ t cs, fr.boxes.get t = some cs → ∃ b cs' el, lo t = some b ∧ w.heap[b]? = some (.cells cs' el (0, 0)) ∧ cs'.size = cs.length ∧ VRs ω cs cs'.toList ∧ flats cs = true ∧ ω.ro b = none ∧ ¬ owns ω H b
  inj : ∀ s t b, (fr.boxes.get s).isSome = true → (fr.boxes.get t).isSome = true → lo s = some b → lo t = some b → s = t

def boxOf (lo : Nat → Option Nat) (fr : Fr) (b : Nat) : Prop := ∃ t, (fr.boxes.get t).isSome = true ∧ lo t = some b

theorem FR.evo {L : Nat → Prop} {ω ω' : Om} {H H' : Heap} {w w' : World} {lo : Nat → Option Nat} {fr : Fr} {tmps : Array Value} (h : FR ω H lo fr tmps w) (e : Evo L ω H w ω' H' w')
    (hL : ∀ b, boxOf lo fr b → ¬ L b) : FR ω' H' lo fr tmps w' where
  vals := fun t v ht => (h.vals t v ht).mono e.le
  boxes := fun t cs ht => by
    obtain ⟨b, cs', el, h1, h2, h3, h4, h5, h6, h7⟩ := h.boxes t cs ht
    have hlt : b < w.heap.size := (Array.getElem?_eq_some_iff.1 h2).1
    refine ⟨b, cs', el, h1, (e.keep b hlt h7 (hL b ⟨t, by simp [ht], h1⟩)).trans h2, h3, VRs.mono e.le _ _ h4, h5, ?_, fun ho => h7 (e.own b ho hlt)⟩
    cases hr : ω'.ro b with
    | none => rfl
    | some o => rw [e.rob b o hr hlt] at h6; cases h6
  inj := h.inj

end Go.Abs
namespace Go.Abs

structure SR (ok : FuncId → Nat → Code → Prop) (ω : Om) (H : Heap) (lo : Nat → Option Nat) (fr : Fr) (tmps : Array Value) (w : World) : Prop where
  wr : WR ok ω H w
  fr : FR ω H lo fr tmps w

structure Post (ok : FuncId → Nat → Code → Prop) (ω : Om) (H : Heap) (lo : Nat → Option Nat) (fr : Fr) (w : World) (ω' : Om) (H' : Heap) (lo' : Nat → Option Nat) (fr' : Fr) (tmps' : Array Value) (w' : World) : Prop where
  evo : Evo (boxOf lo fr) ω H w ω' H' w'
  sr : SR ok ω' H' lo' fr' tmps' w'
  box : ∀ b, boxOf lo' fr' b → b < w.heap.size → boxOf lo fr b

section
variable {ok : FuncId → Nat → Code → Prop} {ω : Om} {H : Heap} {lo : Nat → Option Nat} {fr : Fr} {tmps : Array Value} {w : World}

theorem Post.refl (h : SR ok ω H lo fr tmps w) : Post ok ω H lo fr w ω H lo fr tmps w := ⟨.refl, h, fun _ h _ => h⟩
theorem Post.trans {ω' ω'' : Om} {H' H'' : Heap} {lo' lo'' : Nat → Option Nat} {fr' fr'' : Fr} {tmps' tmps'' : Array Value} {w' w'' : World}
    (h : Post ok ω H lo fr w ω' H' lo' fr' tmps' w') (h' : Post ok ω' H' lo' fr' w' ω'' H'' lo'' fr'' tmps'' w'') : Post ok ω H lo fr w ω'' H'' lo'' fr'' tmps'' w'' :=
  ⟨h.evo.trans h'.evo h.box, h'.sr, fun b hb hl => h.box b (h'.box b hb (Nat.lt_of_lt_of_le hl h.evo.size)) hl⟩
theorem Post.heap {ω' : Om} {H' : Heap} {w' : World} (h : SR ok ω H lo fr tmps w) (e : Evo (fun _ => False) ω H w ω' H' w') (hw : WR ok ω' H' w') : Post ok ω H lo fr w ω' H' lo fr tmps w' :=
  ⟨e.weaken fun _ h => h.elim, ⟨hw, h.fr.evo e fun _ _ h => h⟩, fun _ h _ => h⟩

theorem WR.put (h : WR ok ω H w) {w' : World} {o : AObj} {bl : Blk} (hb : ¬ owns ω H bl.b) (hr : ω.ro bl.b = none) (hs : ∀ b, b ≠ bl.b → b < w.heap.size → w'.heap[b]? = w.heap[b]?)
    (ho : ORel ok ⟨fun i => if i = H.next then some bl else ω.φ i, ω.ro⟩ bl w' o) : WR ok ⟨fun i => if i = H.next then some bl else ω.φ i, ω.ro⟩ (H.alloc o) w' := by
  have hle : ω.le ⟨fun i => if i = H.next then some bl else ω.φ i, ω.ro⟩ := ⟨fun i b hi => by
    have := h.dom i b hi
    simp only [show ¬ (i = H.next) by omega, if_false]
    exact hi, fun _ _ h => h⟩
  have hget : ∀ i x, (H.alloc o).get i = some x → (i = H.next ∧ x = o) ∨ (i ≠ H.next ∧ H.get i = some x) := fun i x hx => by
    rw [Heap.get_alloc] at hx
    split at hx
    · rename_i e; cases hx; exact .inl ⟨e, rfl⟩
    · rename_i e; exact .inr ⟨e, hx⟩
  refine ⟨fun b x hx => ?_, fun i x hx hl => ?_, fun i j oi oj bi bj hi hli hj hlj h1 h2 h3 => ?_, fun i x bi hx hl h1 => ?_, fun i bi h1 => ?_⟩
  · have hlt := h.ro_lt hx
    rw [hs b (fun e => by subst e; rw [hr] at hx; cases hx) hlt]
    exact h.ro b x hx
  · rcases hget i x hx with ⟨rfl, rfl⟩ | ⟨hne, hx'⟩
    · exact ⟨bl, by simp, ho⟩
    · obtain ⟨bi, h1, h2⟩ := h.obj i x hx' hl
      have hne' : bi.b ≠ bl.b := fun e => hb ⟨i, x, bi, hx', hl, h1, e⟩
      exact ⟨bi, by simp [hne, h1], h2.mono hle (hs _ hne' (h2.lt hl))⟩
  · rcases hget i oi hi with ⟨rfl, rfl⟩ | ⟨hne, hi'⟩ <;> rcases hget j oj hj with ⟨rfl, rfl⟩ | ⟨hne', hj'⟩
    · rfl
    · simp only [if_true, Option.some.injEq] at h1
      simp only [hne', if_false] at h2
      subst h1
      exact (hb ⟨j, oj, bj, hj', hlj, h2, h3.symm⟩).elim
    · simp only [if_true, Option.some.injEq] at h2
      simp only [hne, if_false] at h1
      subst h2
      exact (hb ⟨i, oi, bi, hi', hli, h1, h3⟩).elim
    · simp only [hne, if_false] at h1
      simp only [hne', if_false] at h2
      exact h.inj i j oi oj bi bj hi' hli hj' hlj h1 h2 h3
  · rcases hget i x hx with ⟨rfl, rfl⟩ | ⟨hne, hx'⟩
    · simp only [if_true, Option.some.injEq] at h1
      subst h1
      exact hr
    · simp only [hne, if_false] at h1
      exact h.sep i x bi hx' hl h1
  · simp only [Heap.next_alloc]
    simp only at h1
    split at h1
    · omega
    · have := h.dom i bi h1; omega

theorem WR.set (h : WR ok ω H w) {w' : World} {i : Nat} {old o : AObj} {bl : Blk} (hi : H.get i = some old) (hl : old.live = true) (hφ : ω.φ i = some bl) (hs : ∀ b, b ≠ bl.b → b < w.heap.size → w'.heap[b]? = w.heap[b]?)
    (ho : o.live = true → ORel ok ω bl w' o) : WR ok ω (H.set i o) w' := by
  have hlt := Heap.lt_of_get hi
  have hget : ∀ j x, (H.set i o).get j = some x → (j = i ∧ x = o) ∨ (j ≠ i ∧ H.get j = some x) := fun j x hx => by
    rw [Heap.get_set _ _ _ _ hlt] at hx
    split at hx
    · rename_i e; cases hx; exact .inl ⟨e, rfl⟩
    · rename_i e; exact .inr ⟨e, hx⟩
  have hlive : ∀ j x, (H.set i o).get j = some x → x.live = true → ∃ y, H.get j = some y ∧ y.live = true := fun j x hx hlx => by
    rcases hget j x hx with ⟨rfl, rfl⟩ | ⟨_, hx'⟩
    · exact ⟨old, hi, hl⟩
    · exact ⟨x, hx', hlx⟩
  refine ⟨fun b x hx => ?_, fun j x hx hlx => ?_, fun j k oj ok' bj bk hj hlj hk hlk h1 h2 h3 => ?_, fun j x bj hx hlx h1 => ?_, fun j bj h1 => by simpa using h.dom j bj h1⟩
  · have hb := h.ro_lt hx
    rw [hs b (fun e => by subst e; rw [h.sep i old bl hi hl hφ] at hx; cases hx) hb]
    exact h.ro b x hx
  · rcases hget j x hx with ⟨rfl, rfl⟩ | ⟨hne, hx'⟩
    · exact ⟨bl, hφ, ho hlx⟩
    · obtain ⟨bj, h1, h2⟩ := h.obj j x hx' hlx
      have hne' : bj.b ≠ bl.b := fun e => hne (h.inj j i x old bj bl hx' hlx hi hl h1 hφ e)
      exact ⟨bj, h1, h2.mono (.refl ω) (hs _ hne' (h2.lt hlx))⟩
  · obtain ⟨yj, a1, a2⟩ := hlive j oj hj hlj
    obtain ⟨yk, b1, b2⟩ := hlive k ok' hk hlk
    exact h.inj j k yj yk bj bk a1 a2 b1 b2 h1 h2 h3
  · obtain ⟨yj, a1, a2⟩ := hlive j x hx hlx
    exact h.sep j yj bj a1 a2 h1

theorem WR.roNew (h : WR ok ω H w) (o : Obj) : WR ok ⟨ω.φ, fun b => if b = w.heap.size then some o else ω.ro b⟩ H (w.alloc o) := by
  have hle : ω.le ⟨ω.φ, fun b => if b = w.heap.size then some o else ω.ro b⟩ := ⟨fun _ _ h => h, fun b x hx => by
    have := h.ro_lt hx
    simp only [show ¬ (b = w.heap.size) by omega, if_false]
    exact hx⟩
  refine ⟨fun b x hx => ?_, fun i x hx hl => ?_, h.inj, fun i x bi hx hl h1 => ?_, h.dom⟩
  · simp only at hx
    split at hx
    · rename_i e; cases hx; subst e; exact Go.heap_alloc_new w _
    · rw [Go.heap_alloc_old w o b (h.ro_lt hx)]; exact h.ro b x hx
  · obtain ⟨bi, h1, h2⟩ := h.obj i x hx hl
    exact ⟨bi, h1, h2.mono hle (Go.heap_alloc_old w o _ (h2.lt hl))⟩
  · obtain ⟨bi', h1', h2⟩ := h.obj i x hx hl
    rw [h1] at h1'; cases h1'
    have := h2.lt hl
    simp only [show ¬ (bi.b = w.heap.size) by omega, if_false]
    exact h.sep i x bi hx hl h1
theorem WR.more (h : WR ok ω H w) {w' : World} (hs : ∀ b, b < w.heap.size → w'.heap[b]? = w.heap[b]?) : WR ok ω H w' := by
  refine ⟨fun b x hx => by rw [hs b (h.ro_lt hx)]; exact h.ro b x hx, fun i x hx hl => ?_, h.inj, h.sep, h.dom⟩
  obtain ⟨bi, h1, h2⟩ := h.obj i x hx hl
  exact ⟨bi, h1, h2.mono (.refl ω) (hs _ (h2.lt hl))⟩

theorem Evo.more {L : Nat → Prop} {w' : World} (hsz : w.heap.size ≤ w'.heap.size) (hs : ∀ b, b < w.heap.size → w'.heap[b]? = w.heap[b]?) (ht : w'.tape = w.tape) (hos : w'.os = w.os) (hout : w'.output = w.output) : Evo L ω H w ω H w' :=
  ⟨.refl ω, Nat.le_refl _, hsz, fun b hb _ _ => hs b hb, fun _ h _ => h, fun _ _ h _ => h, ht, hos, hout⟩
theorem Evo.roNew {L : Nat → Prop} (h : WR ok ω H w) (o : Obj) : Evo L ω H w ⟨ω.φ, fun b => if b = w.heap.size then some o else ω.ro b⟩ H (w.alloc o) :=
  ⟨⟨fun _ _ h => h, fun b x hx => by
    have := h.ro_lt hx
    simp only [show ¬ (b = w.heap.size) by omega, if_false]
    exact hx⟩, Nat.le_refl _, by simp, fun b hb _ _ => Go.heap_alloc_old w o b hb, fun _ h _ => h, fun b x hx hlt => by
    simp only [show ¬ (b = w.heap.size) by omega, if_false] at hx
    exact hx, rfl, rfl, rfl⟩
theorem Evo.put {L : Nat → Prop} (h : WR ok ω H w) {w' : World} {o : AObj} {bl : Blk} (hs : ∀ b, b ≠ bl.b → b < w.heap.size → w'.heap[b]? = w.heap[b]?) (hsz : w.heap.size ≤ w'.heap.size)
    (hn : w.heap.size ≤ bl.b) (ht : w'.tape = w.tape) (hos : w'.os = w.os) (hout : w'.output = w.output) :
    Evo L ω H w ⟨fun i => if i = H.next then some bl else ω.φ i, ω.ro⟩ (H.alloc o) w' where
  le := ⟨fun i b hi => by
    have := h.dom i b hi
    simp only [show ¬ (i = H.next) by omega, if_false]
    exact hi, fun _ _ h => h⟩
  next := by simp
  size := hsz
  keep := fun b hb _ _ => hs b (by omega) hb
  own := fun b ⟨i, x, bi, h1, h2, h3, h4⟩ hb => by
    rw [Heap.get_alloc] at h1
    simp only at h3
    split at h1
    · rename_i e; subst e; simp only [if_true, Option.some.injEq] at h3; subst h3; omega
    · rename_i e; simp only [e, if_false] at h3; exact ⟨i, x, bi, h1, h2, h3, h4⟩
  rob := fun _ _ h _ => h
  tape := ht
  os := hos
  out := hout
theorem Evo.set {L : Nat → Prop} {w' : World} {i : Nat} {old o : AObj} {bl : Blk} (hi : H.get i = some old) (hl : old.live = true) (hφ : ω.φ i = some bl) (hs : ∀ b, b ≠ bl.b → b < w.heap.size → w'.heap[b]? = w.heap[b]?)
    (hsz : w.heap.size ≤ w'.heap.size) (ht : w'.tape = w.tape) (hos : w'.os = w.os) (hout : w'.output = w.output) : Evo L ω H w ω (H.set i o) w' where
  le := .refl ω
  next := Nat.le_refl _
  size := hsz
  keep := fun b hb hn _ => hs b (fun e => hn ⟨i, old, bl, hi, hl, hφ, e.symm⟩) hb
  own := fun b ⟨j, x, bj, h1, h2, h3, h4⟩ _ => by
    rw [Heap.get_set _ _ _ _ (Heap.lt_of_get hi)] at h1
    split at h1
    · rename_i e; subst e; exact ⟨j, old, bj, hi, hl, h3, h4⟩
    · exact ⟨j, x, bj, h1, h2, h3, h4⟩
  rob := fun _ _ h _ => h
  tape := ht
  os := hos
  out := hout

theorem Post.new (h : SR ok ω H lo fr tmps w) (o : AObj) (ob : Obj) (size : Nat)
    (ho : ORel ok ⟨fun i => if i = H.next then some ⟨w.heap.size, 0, size⟩ else ω.φ i, ω.ro⟩ ⟨w.heap.size, 0, size⟩ (w.alloc ob) o) :
    Post ok ω H lo fr w ⟨fun i => if i = H.next then some ⟨w.heap.size, 0, size⟩ else ω.φ i, ω.ro⟩ (H.alloc o) lo fr tmps (w.alloc ob) := by
  have hs : ∀ b, b ≠ (⟨w.heap.size, 0, size⟩ : Blk).b → b < w.heap.size → (w.alloc ob).heap[b]? = w.heap[b]? := fun b _ hb => Go.heap_alloc_old w ob b hb
  refine Post.heap h (Evo.put h.wr hs (by simp) (Nat.le_refl _) rfl rfl rfl) (h.wr.put (fun ho => Nat.lt_irrefl _ (h.wr.owns_lt ho)) ?_ hs ho)
  cases hr : ω.ro w.heap.size with
  | none => rfl
  | some x => exact (Nat.lt_irrefl _ (h.wr.ro_lt hr)).elim
theorem Post.set (h : SR ok ω H lo fr tmps w) {w' : World} {i : Nat} {old o : AObj} {bl : Blk} (hi : H.get i = some old) (hl : old.live = true) (hφ : ω.φ i = some bl) (hs : ∀ b, b ≠ bl.b → w'.heap[b]? = w.heap[b]?)
    (hsz : w'.heap.size = w.heap.size) (ht : w'.tape = w.tape) (hos : w'.os = w.os) (hout : w'.output = w.output) (ho : o.live = true → ORel ok ω bl w' o) : Post ok ω H lo fr w ω (H.set i o) lo fr tmps w' :=
  Post.heap h (Evo.set hi hl hφ (fun b hb _ => hs b hb) (by omega) ht hos hout) (h.wr.set hi hl hφ (fun b hb _ => hs b hb) ho)
theorem Post.more (h : SR ok ω H lo fr tmps w) {w' : World} (hsz : w.heap.size ≤ w'.heap.size) (hs : ∀ b, b < w.heap.size → w'.heap[b]? = w.heap[b]?) (ht : w'.tape = w.tape) (hos : w'.os = w.os) (hout : w'.output = w.output) :
    Post ok ω H lo fr w ω H lo fr tmps w' := Post.heap h (Evo.more hsz hs ht hos hout) (h.wr.more hs)
theorem Post.roNew (h : SR ok ω H lo fr tmps w) (o : Obj) : Post ok ω H lo fr w ⟨ω.φ, fun b => if b = w.heap.size then some o else ω.ro b⟩ H lo fr tmps (w.alloc o) :=
  Post.heap h (Evo.roNew h.wr o) (h.wr.roNew o)

theorem Post.boxNew (h : SR ok ω H lo fr tmps w) (t : Nat) (cs : List V) (cs' : Array Value) (el : TypeId) (hl : cs'.size = cs.length) (hc : VRs ω cs cs'.toList) (hf : flats cs = true) :
    Post ok ω H lo fr w ω H (fun u => if u = t then some w.heap.size else lo u) { fr with boxes := fr.boxes.put t cs, vals := fr.vals.map fun p => (p.1, staleLoc t p.2) } tmps (w.alloc (.cells cs' el)) := by
  have hn : ¬ owns ω H w.heap.size := fun ho => Nat.lt_irrefl _ (h.wr.owns_lt ho)
  have hr : ω.ro w.heap.size = none := by
    cases hr : ω.ro w.heap.size with
    | none => rfl
    | some x => exact (Nat.lt_irrefl _ (h.wr.ro_lt hr)).elim
  have hs : ∀ b, b < w.heap.size → (w.alloc (.cells cs' el)).heap[b]? = w.heap[b]? := fun b hb => Go.heap_alloc_old w _ b hb
  have hblt : ∀ u c b, fr.boxes.get u = some c → lo u = some b → b < w.heap.size := fun u c b hu hb => by
    obtain ⟨b', cs'', el', h1, h2, _⟩ := h.fr.boxes u c hu
    rw [h1] at hb; cases hb
    exact (Array.getElem?_eq_some_iff.1 h2).1
  refine ⟨Evo.more (by simp) hs rfl rfl rfl, ⟨h.wr.more hs, ⟨fun u v hu => ?_, fun u c hu => ?_, fun s u b hss hsu h1 h2 => ?_⟩⟩, fun b ⟨u, hu, hb⟩ hlt => ?_⟩
  · simp only [Al.get_map, Option.map_eq_some_iff] at hu
    obtain ⟨v0, hv0, rfl⟩ := hu
    have := h.fr.vals u v0 hv0
    cases v0 with
    | loc s o =>
      simp only [staleLoc]
      split
      · simp only [SlotR, VR]
      · rename_i hne
        obtain ⟨b, hb, hx⟩ := this
        exact ⟨b, by simp [hne, hb], hx⟩
    | _ => exact this
  · simp only [Al.get_put] at hu
    split at hu
    · rename_i e
      cases hu; subst e
      exact ⟨w.heap.size, cs', el, by simp, Go.heap_alloc_new w _, hl, hc, hf, hr, hn⟩
    · rename_i e
      obtain ⟨b, c', el', h1, h2, h3⟩ := h.fr.boxes u c hu
      exact ⟨b, c', el', by simp [Ne.symm e, h1], (hs b (hblt u c b hu h1)).trans h2, h3⟩
  · simp only [Al.get_put] at hss hsu
    by_cases es : s = t <;> by_cases eu : u = t
    · rw [es, eu]
    · simp only [es, if_true, Option.some.injEq] at h1
      simp only [eu, if_false] at h2
      simp only [Ne.symm eu, if_false, Option.isSome_iff_exists] at hsu
      obtain ⟨c, hc'⟩ := hsu
      have := hblt u c b hc' h2
      omega
    · simp only [eu, if_true, Option.some.injEq] at h2
      simp only [es, if_false] at h1
      simp only [Ne.symm es, if_false, Option.isSome_iff_exists] at hss
      obtain ⟨c, hc'⟩ := hss
      have := hblt s c b hc' h1
      omega
    · simp only [es, if_false] at h1
      simp only [eu, if_false] at h2
      simp only [Ne.symm es, if_false] at hss
      simp only [Ne.symm eu, if_false] at hsu
      exact h.fr.inj s u b hss hsu h1 h2
  · simp only [Al.get_put] at hu hb
    by_cases e : u = t
    · simp only [e, if_true, Option.some.injEq] at hb
      omega
    · simp only [e, if_false] at hb
      simp only [Ne.symm e, if_false] at hu
      exact ⟨u, hu, hb⟩
theorem Post.boxSet (h : SR ok ω H lo fr tmps w) {w' : World} {t b : Nat} {old new : List V} (ht : fr.boxes.get t = some old) (hb : lo t = some b) (hs : ∀ c, c ≠ b → w'.heap[c]? = w.heap[c]?)
    (hsz : w'.heap.size = w.heap.size) (htp : w'.tape = w.tape) (hos : w'.os = w.os) (hout : w'.output = w.output) {cs' : Array Value} {el : TypeId} (hc : w'.heap[b]? = some (.cells cs' el (0, 0))) (hl : cs'.size = new.length)
    (hv : VRs ω new cs'.toList) (hf : flats new = true) : Post ok ω H lo fr w ω H lo { fr with boxes := fr.boxes.put t new } tmps w' := by
  obtain ⟨b', cs0, el0, h1, h2, h3, h4, h5, h6, h7⟩ := h.fr.boxes t old ht
  rw [hb] at h1; cases h1
  have hin : boxOf lo fr b := ⟨t, by simp [ht], hb⟩
  have hwr : WR ok ω H w' := by
    refine ⟨fun c x hx => ?_, fun i x hx hlx => ?_, h.wr.inj, h.wr.sep, h.wr.dom⟩
    · rw [hs c (fun e => by subst e; rw [h6] at hx; cases hx)]; exact h.wr.ro c x hx
    · obtain ⟨bi, a1, a2⟩ := h.wr.obj i x hx hlx
      exact ⟨bi, a1, a2.mono (.refl ω) (hs _ fun e => h7 ⟨i, x, bi, hx, hlx, a1, e⟩)⟩
  refine ⟨⟨.refl ω, Nat.le_refl _, by omega, fun c _ _ hn => hs c (fun e => hn (e ▸ hin)), fun _ h _ => h, fun _ _ h _ => h, htp, hos, hout⟩, ⟨hwr, ⟨h.fr.vals, fun u c hu => ?_, fun s u x hss hsu a1 a2 => ?_⟩⟩, fun x ⟨u, hu, hx⟩ _ => ?_⟩
  · simp only [Al.get_put] at hu
    split at hu
    · rename_i e; cases hu; subst e
      exact ⟨b, cs', el, hb, hc, hl, hv, hf, h6, h7⟩
    · rename_i e
      obtain ⟨bu, cu, eu, a1, a2, a3⟩ := h.fr.boxes u c hu
      have hne : bu ≠ b := fun e' => e (h.fr.inj t u b (by simp [ht]) (by simp [hu]) hb (e' ▸ a1))
      exact ⟨bu, cu, eu, a1, (hs bu hne).trans a2, a3⟩
  · refine h.fr.inj s u x ?_ ?_ a1 a2
    · simp only [Al.get_put] at hss
      split at hss
      · rename_i e; subst e; simp [ht]
      · exact hss
    · simp only [Al.get_put] at hsu
      split at hsu
      · rename_i e; subst e; simp [ht]
      · exact hsu
  · simp only [Al.get_put] at hu
    split at hu
    · rename_i e; subst e; exact ⟨t, by simp [ht], hx⟩
    · exact ⟨u, hu, hx⟩
end
end Go.Abs
namespace Go.Abs

def aggD (d : TypeDesc) : Bool :=
  match d with
  | .struct _ | .array _ _ => true
  | _ => false
def Fits (ω : Om) (d : TypeDesc) (as : List V) (x : Value) : Prop :=
  if aggD d then ∃ xs, x = .agg xs ∧ as.length = Array.size xs ∧ VRs ω as xs.toList else ∃ v, as = [v] ∧ VR ω v x

section
variable {P : Program} {ω : Om}

theorem eqCells_len : ∀ {ks : List Kd} {a b : List V} {r : Bool}, eqCells ks a b = some r → a.length = ks.length ∧ b.length = ks.length
  | [], [], [], _, _ => ⟨rfl, rfl⟩
  | [], [], _ :: _, _, h => by simp [eqCells] at h
  | [], _ :: _, _, _, h => by simp [eqCells] at h
  | k :: ks, [], _, _, h => by simp [eqCells] at h
  | k :: ks, _ :: _, [], _, h => by simp [eqCells] at h
  | k :: ks, x :: a, y :: b, r, h => by
    simp only [eqCells] at h
    split at h
    · rename_i p q h1 h2
      have := eqCells_len h2
      simp only [List.length_cons]
      omega
    · cases h
theorem eqCells_append : ∀ {ks ls : List Kd} {a b : List V} {r : Bool}, eqCells (ks ++ ls) a b = some r →
    ∃ p q, eqCells ks (a.take ks.length) (b.take ks.length) = some p ∧ eqCells ls (a.drop ks.length) (b.drop ks.length) = some q ∧ r = (p && q)
  | [], ls, a, b, r, h => ⟨true, r, by simp [eqCells], by simpa using h, by simp⟩
  | k :: ks, ls, [], _, _, h => by simp [eqCells] at h
  | k :: ks, ls, _ :: _, [], _, h => by simp [eqCells] at h
  | k :: ks, ls, x :: a, y :: b, r, h => by
    simp only [List.cons_append, eqCells] at h
    split at h
    · rename_i p q h1 h2
      simp only [Option.some.injEq] at h
      subst h
      obtain ⟨p', q', e1, e2, rfl⟩ := eqCells_append h2
      refine ⟨p && p', q', ?_, by simpa using e2, by simp [Bool.and_assoc]⟩
      simp [eqCells, h1, e1]
    · cases h

theorem VRs.cell {vs : List V} {xs : List Value} (h : VRs ω vs xs) {i : Nat} (hi : i < vs.length) : ∃ x, xs[i]? = some x ∧ VR ω vs[i] x := h.get i _ (List.getElem?_eq_getElem hi)

theorem run_isAgg (w : World) {e : TypeId} {d : TypeDesc} (hu : P.underlying e = some d) : (isAgg e).run P w = .ok (aggD d) w := by
  unfold isAgg
  rw [Sem.run_bind, run_underlying hu w]
  cases d <;> simp [aggD]

theorem run_part (w : World) {e : TypeId} {d : TypeDesc} (hu : P.underlying e = some d) {as : List V} {cs : Array Value} (hl : as.length = cs.size) (hv : VRs ω as cs.toList) {off n : Nat} (ho : off + n ≤ as.length)
    (hn : if aggD d then P.cellsOf e = n else n = 1) : ∃ x, (part e cs off).run P w = .ok x w ∧ Fits ω d ((as.drop off).take n) x := by
  have hagg := run_isAgg w hu
  obtain ⟨i, hi⟩ := info_of_underlying hu
  cases hd : aggD d
  · rw [hd] at hagg hn
    simp only [Bool.false_eq_true, if_false] at hn
    subst hn
    obtain ⟨x, h1, h2⟩ := hv.cell (i := off) (by omega)
    refine ⟨x, ?_, ?_⟩
    · have : cs[off]? = some x := by simpa using h1
      simp [part, hagg, this]
    · simp only [Fits, hd, Bool.false_eq_true, if_false]
      refine ⟨as[off]'(by omega), ?_, h2⟩
      rw [List.drop_eq_getElem_cons (by omega)]
      rfl
  · rw [hd] at hagg hn
    simp only [if_true] at hn
    refine ⟨.agg (cs.extract off (off + n)), ?_, ?_⟩
    · simp [part, hagg, run_sizeOf w hi, hn]
    · simp only [Fits, hd, if_true]
      refine ⟨_, rfl, ?_, ?_⟩
      · simp only [List.length_take, List.length_drop, Array.size_extract]
        omega
      · have : (cs.extract off (off + n)).toList = (cs.toList.drop off).take n := by
          rw [Array.toList_extract]
          simp [List.extract]
        rw [this]
        exact (hv.drop off).take n

def EqOk (P : Program) (ω : Om) (dd : Nat) (t : TypeId) (ks : List Kd) : Prop :=
  ∃ d, P.underlying t = some d ∧ (if aggD d then P.cellsOf t = ks.length else ks.length = 1) ∧
    ∀ (w : World) (as bs : List V) (x y : Value) (r : Bool), Fits ω d as x → Fits ω d bs y → eqCells ks as bs = some r → (Op.equalIn dd t x y).run P w = .ok r w

theorem run_eqFields_ok (dd : Nat) (d : Nat) (hall : ∀ (f : TypeId) ks, plainK P d f = some ks → EqOk P ω dd f ks) (xs ys : Array Value) (as bs : List V) (hxl : as.length = xs.size) (hyl : bs.length = ys.size) (hx : VRs ω as xs.toList) (hy : VRs ω bs ys.toList) :
    ∀ (fs : List Field) (off : Nat) (ks : List Kd) (w : World) (r : Bool), plainK.plainF P d off fs = some ks → off + ks.length = as.length → off + ks.length = bs.length → eqCells ks (as.drop off) (bs.drop off) = some r →
      (Op.eqFields dd xs ys fs).run P w = .ok r w
  | [], off, ks, w, r, hk, _, _, he => by
    simp only [plainK.plainF, Option.some.injEq] at hk
    subst hk
    have h1 := eqCells_len he
    have : as.drop off = [] := List.eq_nil_of_length_eq_zero h1.1
    have h2 : bs.drop off = [] := List.eq_nil_of_length_eq_zero h1.2
    rw [this, h2] at he
    simp only [eqCells, Option.some.injEq] at he
    subst he
    simp [Op.eqFields]
  | f :: fs, off, ks, w, r, hk, hla, hlb, he => by
    simp only [plainK.plainF] at hk
    split at hk
    · rename_i hf
      split at hk
      · rename_i kf hkf
        split at hk
        · rename_i kr hkr
          simp only [Option.some.injEq] at hk
          subst hk
          obtain ⟨p, q, e1, e2, rfl⟩ := eqCells_append he
          simp only [List.length_append] at hla hlb
          obtain ⟨df, hu, hn, heq⟩ := hall f.type kf hkf
          obtain ⟨x, p1, f1⟩ := run_part w hu hxl hx (off := off) (n := kf.length) (by omega) hn
          obtain ⟨y, p2, f2⟩ := run_part w hu hyl hy (off := off) (n := kf.length) (by omega) hn
          have h3 := heq w _ _ x y p f1 f2 e1
          have ih := run_eqFields_ok dd d hall xs ys as bs hxl hyl hx hy fs (off + kf.length) kr w q hkr (by omega) (by omega) (by simpa [List.drop_drop] using e2)
          simp only [Op.eqFields, hf.2, ne_eq, not_false_eq_true, if_true, Sem.run_bind, hf.1, p1, p2, h3, Result.andThen_ok]
          cases p
          · simp
          · simpa using ih
        · cases hk
      · cases hk
    · cases hk

theorem run_eqItems_ok (dd : Nat) {e : TypeId} {ke : List Kd} (hE : EqOk P ω dd e ke) (xs ys : Array Value) (as bs : List V) (hxl : as.length = xs.size) (hyl : bs.length = ys.size) (hx : VRs ω as xs.toList) (hy : VRs ω bs ys.toList) (hc : P.cellsOf e = ke.length) :
    ∀ (m i : Nat) (w : World) (r : Bool), i * ke.length + m * ke.length ≤ as.length → i * ke.length + m * ke.length ≤ bs.length → eqCells ((List.replicate m ke).flatten) ((as.drop (i * ke.length)).take (m * ke.length)) ((bs.drop (i * ke.length)).take (m * ke.length)) = some r →
      (Op.eqItems dd e (P.cellsOf e) xs ys (List.range' i m)).run P w = .ok r w
  | 0, i, w, r, _, _, he => by
    simp [eqCells] at he
    subst he
    simp [Op.eqItems]
  | m + 1, i, w, r, hla, hlb, he => by
    obtain ⟨d, hu, hn, heq⟩ := hE
    have hmul : (m + 1) * ke.length = ke.length + m * ke.length := by rw [Nat.add_mul]; omega
    have hmul' : (i + 1) * ke.length = i * ke.length + ke.length := by rw [Nat.add_mul]; omega
    rw [hmul] at hla hlb he
    rw [List.replicate_succ, List.flatten_cons] at he
    obtain ⟨p, q, e1, e2, rfl⟩ := eqCells_append he
    obtain ⟨x, p1, f1⟩ := run_part w hu hxl hx (off := i * ke.length) (n := ke.length) (by omega) hn
    obtain ⟨y, p2, f2⟩ := run_part w hu hyl hy (off := i * ke.length) (n := ke.length) (by omega) hn
    have h3 := heq w _ _ x y p f1 f2 (by simpa [List.take_take, Nat.min_eq_left] using e1)
    have ih := run_eqItems_ok dd ⟨d, hu, hn, heq⟩ xs ys as bs hxl hyl hx hy hc m (i + 1) w q (by omega) (by omega) (by
      rw [hmul']
      rw [List.drop_take, List.drop_take] at e2
      simpa [List.drop_drop] using e2)
    simp only [List.range'_succ, Op.eqItems, Sem.run_bind, hc, p1, p2, h3, Result.andThen_ok]
    rw [hc] at ih
    cases p
    · simp
    · simpa using ih

theorem plainK_ok : ∀ (m : Nat) (t : TypeId) (ks : List Kd), plainK P m t = some ks → ∀ (d : Nat), EqOk P ω (d + m) t ks
  | 0, _, _, h, _ => by simp [plainK] at h
  | m + 1, t, ks, h, d => by
    simp only [plainK] at h
    split at h
    · rename_i hu
      simp only [Option.some.injEq] at h
      subst h
      refine ⟨.bool, hu, by simp [aggD], fun w as bs x y r fx fy he => ?_⟩
      simp only [Fits, aggD, Bool.false_eq_true, if_false] at fx fy
      obtain ⟨v, rfl, hv⟩ := fx
      obtain ⟨u, rfl, hu'⟩ := fy
      simp only [eqCells] at he
      cases v <;> cases u <;> simp only [eqScalar, VR] at he hv hu' <;> first | (cases he; done) | skip
      subst hv; subst hu'
      simp at he
      rw [show d + (m + 1) = (d + m) + 1 by omega, run_equalIn_bool' w _ t _ _ hu, he]
    · rename_i k hu
      simp only [Option.some.injEq] at h
      subst h
      refine ⟨.int k, hu, by simp [aggD], fun w as bs x y r fx fy he => ?_⟩
      simp only [Fits, aggD, Bool.false_eq_true, if_false] at fx fy
      obtain ⟨v, rfl, hv⟩ := fx
      obtain ⟨u, rfl, hu'⟩ := fy
      simp only [eqCells] at he
      cases v <;> cases u <;> simp only [eqScalar, VR] at he hv hu' <;> first | (cases he; done) | skip
      subst hv; subst hu'
      rename_i j a j' b
      by_cases hj : j = j'
      · subst hj
        simp at he
        rw [show d + (m + 1) = (d + m) + 1 by omega, run_equalIn_int w _ t j k a b hu, ← he]
      · simp [hj] at he
    · rename_i hu
      simp only [Option.some.injEq] at h
      subst h
      refine ⟨.string, hu, by simp [aggD], fun w as bs x y r fx fy he => ?_⟩
      simp only [Fits, aggD, Bool.false_eq_true, if_false] at fx fy
      obtain ⟨v, rfl, hv⟩ := fx
      obtain ⟨u, rfl, hu'⟩ := fy
      simp only [eqCells] at he
      cases v <;> cases u <;> simp only [eqScalar, VR] at he hv hu' <;> first | (cases he; done) | skip
      subst hv; subst hu'
      rename_i a b
      simp at he
      rw [show d + (m + 1) = (d + m) + 1 by omega, run_equalIn_string w _ t _ _ hu, ← beq_toListBytes]
      rw [← he]
    · rename_i fs hu
      split at h
      · cases h
      · rename_i hst
        split at h
        · rename_i ks' hk
          split at h
          · rename_i hlen
            simp only [Option.some.injEq] at h
            subst h
            refine ⟨.struct fs, hu, by simp [aggD, hlen], fun w as bs x y r fx fy he => ?_⟩
            simp only [Fits, aggD, if_true] at fx fy
            obtain ⟨xs, rfl, hxl, hx⟩ := fx
            obtain ⟨ys, rfl, hyl, hy⟩ := fy
            have hfo : P.fieldsOf t = fs := by simp [Program.fieldsOf, hu]
            have hl := eqCells_len he
            rw [show d + (m + 1) = (d + m) + 1 by omega, run_equalIn_struct w _ t xs ys (by rw [hfo]; exact hu) (by simpa using hst), hfo]
            exact run_eqFields_ok (d + m) m (fun f kf hkf => plainK_ok m f kf hkf d) xs ys as bs hxl hyl hx hy fs.toList 0 ks' w r hk (by omega) (by omega) (by simpa using he)
          · cases h
        · cases h
    · rename_i n e hu
      split at h
      · rename_i ke hke
        split at h
        · rename_i hlen
          simp only [Option.some.injEq] at h
          subst h
          have hflat : ((List.replicate n ke).flatten).length = n * ke.length := by simp
          refine ⟨.array n e, hu, by simp [aggD, hlen], fun w as bs x y r fx fy he => ?_⟩
          simp only [Fits, aggD, if_true] at fx fy
          obtain ⟨xs, rfl, hxl, hx⟩ := fx
          obtain ⟨ys, rfl, hyl, hy⟩ := fy
          have hl := eqCells_len he
          have hE := plainK_ok m e ke hke d
          have hE' := hE
          obtain ⟨de, hue, hne, _⟩ := hE'
          obtain ⟨i, hi⟩ := info_of_underlying hue
          rw [show d + (m + 1) = (d + m) + 1 by omega, run_equalIn_array w _ xs ys hu hi, List.range_eq_range']
          exact run_eqItems_ok (d + m) hE xs ys as bs hxl hyl hx hy hlen.2 n 0 w r (by omega) (by omega) (by
              rw [hflat] at hl
              simp only [Nat.zero_mul, List.drop_zero]
              rw [List.take_of_length_le (by omega), List.take_of_length_le (by omega)]
              exact he)
        · cases h
      · cases h
    · cases h

structure EnvOk (E : Env) (P : Program) : Prop where
  fn : ∀ f fn, E.fn f = some fn → P.funcs[f]? = some fn
  ti : ∀ t i, E.ti t = some i → tinfo P t = some i
  plain : ∀ t ks, E.plain t = some ks → plainK P 8 t = some ks
  deep : 8 ≤ P.depth

theorem tinfo_spec {t : TypeId} {i : TInfo} (h : tinfo P t = some i) :
    ∃ j z, P.info? t = some j ∧ P.underlying t = some i.desc ∧ j.size = i.size ∧ j.bytes = i.bytes ∧ j.zero = some z ∧ ofValue z = some i.zero ∧ i.zero.whole = true ∧ i.zero.cells.length = i.size ∧ i.isAgg = aggD i.desc ∧ (i.isAgg = true ↔ ∃ cs, i.zero = .agg cs) ∧ fieldsIn P i.desc = true := by
  simp only [tinfo] at h
  split at h
  · rename_i j d h1 h2
    split at h
    · rename_i z h3
      split at h
      · rename_i v h4
        split at h
        · rename_i h5
          simp only [Option.some.injEq] at h
          subst h
          simp only [Bool.and_eq_true, beq_iff_eq] at h5
          refine ⟨j, z, h1, h2, rfl, rfl, h3, h4, h5.1.1.1, h5.1.1.2, by cases d <;> rfl, ?_, h5.1.2⟩
          rw [h5.2]
          cases v <;> simp [V.isAgg]
        · cases h
      · cases h
    · cases h
  · cases h

theorem eqPlain_ok {E : Env} (hE : EnvOk E P) {t : TypeId} {a b : V} {x y : Value} {r : Bool} (h : eqPlain E t a b = some r) (hx : VR ω a x) (hy : VR ω b y) (w : World) (d : Nat) :
    (Op.equalIn (d + 8) t x y).run P w = .ok r w := by
  simp only [eqPlain] at h
  split at h
  · rename_i ks i hk hi
    obtain ⟨dd, hu, hn, heq⟩ := plainK_ok (ω := ω) 8 t ks (hE.plain t ks hk) d
    obtain ⟨j, z, h1, h2, h3, h4, h5, h6, h7, h8, h9, h10, _⟩ := tinfo_spec (hE.ti t i hi)
    rw [h2] at hu; cases hu
    split at h
    · rename_i as bs
      split at h
      · rename_i hag
        simp only [VR] at hx hy
        obtain ⟨xs, hxl, hxv, rfl⟩ := hx
        obtain ⟨ys, hyl, hyv, rfl⟩ := hy
        rw [h9] at hag
        exact heq w as bs _ _ r (by simp only [Fits, hag, if_true]; exact ⟨xs, rfl, hxl, hxv⟩) (by simp only [Fits, hag, if_true]; exact ⟨ys, rfl, hyl, hyv⟩) h
      · cases h
    · split at h
      · cases h
      · rename_i hag
        rw [h9] at hag
        have hag' : aggD i.desc = false := by simpa using hag
        exact heq w [a] [b] x y r (by simp only [Fits, hag', Bool.false_eq_true, if_false]; exact ⟨a, rfl, hx⟩) (by simp only [Fits, hag', Bool.false_eq_true, if_false]; exact ⟨b, rfl, hy⟩) h
  · cases h

theorem eqVal_ok {E : Env} (hE : EnvOk E P) {t : TypeId} {a b : V} {x y : Value} {r : Bool} (h : eqVal E t a b = some r) (hx : VR ω a x) (hy : VR ω b y) (w : World) : (Op.equal t x y).run P w = .ok r w := by
  simp only [eqVal] at h
  split at h
  · rename_i r' hr
    cases h
    exact eqPlain_ok hE hr hx hy w 9992
  · split at h
    · rename_i i hi
      obtain ⟨j, z, h1, h2, _⟩ := tinfo_spec (hE.ti t i hi)
      split at h
      · rename_i hn
        unfold Op.equal Op.maxDepth
        obtain ⟨dd, hdd⟩ : ∃ dd, 10000 = dd + 1 := ⟨9999, rfl⟩
        rw [hdd]
        clear hdd
        cases a <;> cases b <;> simp only [eqNil, Option.some.injEq] at h <;> first | (cases h; done) | skip
        all_goals (subst h; simp only [VR] at hx hy)
        all_goals (cases hd : i.desc <;> simp only [nilT, hd, Bool.false_eq_true] at hn)
        all_goals (rw [hd] at h2)
        all_goals (first
          | (subst hx; subst hy; simp [Op.equalIn, run_underlying h2]; done)
          | (subst hx; obtain ⟨_, _, rfl⟩ := hy; simp [Op.equalIn, run_underlying h2]; done)
          | (subst hy; obtain ⟨_, _, rfl⟩ := hx; simp [Op.equalIn, run_underlying h2]; done)
          | (subst hx; obtain ⟨_, _, rfl, _⟩ := hy; simp [Op.equalIn, run_underlying h2]; done)
          | (subst hy; obtain ⟨_, _, rfl, _⟩ := hx; simp [Op.equalIn, run_underlying h2]; done)
          | (subst hx; obtain ⟨_, _, _, _, rfl, _⟩ := hy; simp [Op.equalIn, run_underlying h2]; done)
          | (subst hy; obtain ⟨_, _, _, _, rfl, _⟩ := hx; simp [Op.equalIn, run_underlying h2]; done)
          | (subst hx; obtain ⟨_, _, _, _, _, _, _, _, rfl⟩ := hy; simp [Op.equalIn, run_underlying h2]; done)
          | (subst hy; obtain ⟨_, _, _, _, _, _, _, _, rfl⟩ := hx; simp [Op.equalIn, run_underlying h2]; done))
      · cases h
    · cases h
end
end Go.Abs
namespace Go.Abs

section
variable {P : Program} {ω : Om}

theorem ofScalar_ok {x : Value} {v : V} (h : ofScalar x = some v) : VR ω v x ∧ v.flat = true := by
  unfold ofScalar at h
  split at h <;> first | (cases h; done) | (simp only [Option.some.injEq] at h; subst h; exact ⟨by simp only [VR], rfl⟩)
theorem ofScalars_ok : ∀ {xs : List Value} {vs : List V}, ofScalars xs = some vs → vs.length = xs.length ∧ VRs ω vs xs ∧ flats vs = true
  | [], vs, h => by simp only [ofScalars, Option.some.injEq] at h; subst h; simp [VRs, flats]
  | x :: xs, vs, h => by
    simp only [ofScalars] at h
    split at h
    · rename_i a b h1 h2
      simp only [Option.some.injEq] at h
      subst h
      obtain ⟨h3, h4⟩ := ofScalar_ok (ω := ω) h1
      obtain ⟨h5, h6, h7⟩ := ofScalars_ok h2
      refine ⟨by simp [h5], by simp only [VRs]; exact ⟨x, xs, rfl, h3, h6⟩, ?_⟩
      simp only [flats, List.all_cons, h4, Bool.true_and]
      exact h7
    · cases h
theorem ofValue_ok {x : Value} {v : V} (h : ofValue x = some v) : VR ω v x ∧ v.whole = true := by
  unfold ofValue at h
  split at h
  · rename_i cs
    simp only [Option.map_eq_some_iff] at h
    obtain ⟨vs, h1, rfl⟩ := h
    obtain ⟨h2, h3, h4⟩ := ofScalars_ok (ω := ω) h1
    refine ⟨?_, h4⟩
    simp only [VR]
    exact ⟨cs, by simpa using h2, h3, rfl⟩
  · obtain ⟨h1, h2⟩ := ofScalar_ok (ω := ω) h
    refine ⟨h1, ?_⟩
    cases v <;> simp_all [V.whole, V.cells, flats, V.flat]

variable {ok : FuncId → Nat → Code → Prop} {H : Heap} {lo : Nat → Option Nat} {fr : Fr} {a : Act} {w : World}

theorem eval_ok (hf : FR ω H lo fr a.tmps w) {x : Operand} {v : V} (h : fr.eval x = some v) : SlotR ω lo v (a.eval x) := by
  cases x with
  | tmp t => exact hf.vals t v h
  | const c => exact .of_vr (ofValue_ok h).1
  | global g => simp [Fr.eval] at h
  | func f =>
    simp only [Fr.eval, Option.some.injEq] at h
    subst h
    simp only [SlotR, VR, Act.eval]
    exact ⟨.func f, #[], #[], rfl, rfl, by simp [VRs], rfl, by simp [VRs], rfl⟩
theorem evals_ok (hf : FR ω H lo fr a.tmps w) : ∀ {xs : List Operand} {vs : List V}, fr.evals xs = some vs → noLoc vs = true → vs.length = xs.length ∧ VRs ω vs (xs.map a.eval)
  | [], vs, h, _ => by simp only [Fr.evals, Option.some.injEq] at h; subst h; simp [VRs]
  | x :: xs, vs, h, hn => by
    simp only [Fr.evals] at h
    split at h
    · rename_i v us h1 h2
      simp only [Option.some.injEq] at h
      subst h
      simp only [noLoc, List.all_cons, Bool.and_eq_true, Bool.not_eq_true'] at hn
      obtain ⟨h3, h4⟩ := evals_ok hf h2 hn.2
      refine ⟨by simp [h3], ?_⟩
      simp only [VRs, List.map_cons]
      exact ⟨_, _, rfl, (eval_ok hf h1).vr hn.1, h4⟩
    · cases h

def Res (r : Next) (x : Value) : Prop := r = .value x ∨ (r = .skip ∧ x = undef)
def Sim (ok : FuncId → Nat → Code → Prop) (P : Program) (ω : Om) (H : Heap) (lo : Nat → Option Nat) (fr : Fr) (tmps : Array Value) (w : World) (s : Sem Next) (v : V) (fr' : Fr) (H' : Heap) : Prop :=
  ∃ ω' lo' w' r x, s.run P w = .ok r w' ∧ Res r x ∧ SlotR ω' lo' v x ∧ Post ok ω H lo fr w ω' H' lo' fr' tmps w'

theorem Sim.here (sr : SR ok ω H lo fr a.tmps w) {s : Sem Next} {v : V} {x : Value} (h : s.run P w = .ok (.value x) w) (hx : SlotR ω lo v x) : Sim ok P ω H lo fr a.tmps w s v fr H :=
  ⟨ω, lo, w, _, x, h, .inl rfl, hx, .refl sr⟩
theorem Sim.sem (sr : SR ok ω H lo fr a.tmps w) {s : Sem Value} {v : V} {x : Value} (h : s.run P w = .ok x w) (hx : VR ω v x) : Sim ok P ω H lo fr a.tmps w (do pure (.value (← s))) v fr H :=
  Sim.here sr (by simp [h]) (.of_vr hx)
theorem Sim.slot (sr : SR ok ω H lo fr a.tmps w) {s : Sem Value} {v : V} {x : Value} (h : s.run P w = .ok x w) (hx : SlotR ω lo v x) : Sim ok P ω H lo fr a.tmps w (do pure (.value (← s))) v fr H :=
  Sim.here sr (by simp [h]) hx
theorem Sim.post {s : Sem Value} {v : V} {x : Value} {ω' : Om} {lo' : Nat → Option Nat} {w' : World} {fr' : Fr} {H' : Heap} {tmps : Array Value} (h : s.run P w = .ok x w') (hx : SlotR ω' lo' v x) (hp : Post ok ω H lo fr w ω' H' lo' fr' tmps w') :
    Sim ok P ω H lo fr tmps w (do pure (.value (← s))) v fr' H' := ⟨ω', lo', w', _, x, by simp [h], .inl rfl, hx, hp⟩
theorem Sim.unit {s : Sem Unit} {ω' : Om} {lo' : Nat → Option Nat} {w' : World} {fr' : Fr} {H' : Heap} {tmps : Array Value} (h : s.run P w = .ok () w') (hp : Post ok ω H lo fr w ω' H' lo' fr' tmps w') :
    Sim ok P ω H lo fr tmps w (do s; pure .skip) (.tup []) fr' H' :=
  ⟨ω', lo', w', .skip, undef, by simp [h], .inr ⟨rfl, rfl⟩, by simp only [SlotR, VR]; exact ⟨#[], rfl, by simp [VRs], rfl⟩, hp⟩

def scal : V → Value
  | .bool b => .bool b
  | .int k n => .int k n
  | .str s => .string s
  | _ => undef

theorem intBin_ok {op : BinOp} {k : IntKind} {x y : Int} {v : V} (h : intBin op k x y = some v) (hop : op ≠ .shl ∧ op ≠ .shr) (t : TypeId) : ∃ z, (binOp op t (.int k x) (.int k y)).run P w = .ok z w ∧ VR ω v z := by
  refine ⟨scal v, ?_⟩
  cases op <;> simp only [intBin] at h <;> first
    | (cases h; done)
    | (simp only [Option.some.injEq] at h; subst h; exact ⟨by simp [binOp, Op.intArith, Op.intBits, Op.intCmp, scal], by simp only [VR, scal]⟩)
    | (split at h
       · cases h
       · rename_i hy
         simp only [Option.some.injEq] at h; subst h
         exact ⟨by simp [binOp, Op.intDiv, hy, scal], by simp only [VR, scal]⟩)
    | skip
theorem shiftBin_ok {op : BinOp} {k j : IntKind} {x y : Int} {v : V} (h : shiftBin op k x y = some v) (t : TypeId) (hop : op = .shl ∨ op = .shr) : ∃ z, (binOp op t (.int k x) (.int j y)).run P w = .ok z w ∧ VR ω v z := by
  refine ⟨scal v, ?_⟩
  unfold shiftBin at h
  split at h
  · cases h
  · rename_i hy
    rcases hop with rfl | rfl <;> simp only [Option.some.injEq] at h <;> subst h <;> exact ⟨by simp [binOp, Op.shift, hy, scal], by simp only [VR, scal]⟩
theorem strBin_ok {op : BinOp} {x y : ByteArray} {v : V} (h : strBin op x y = some v) (t : TypeId) : ∃ z, (binOp op t (.string x) (.string y)).run P w = .ok z w ∧ VR ω v z := by
  refine ⟨scal v, ?_⟩
  cases op <;> simp only [strBin] at h <;> first
    | (cases h; done)
    | (simp only [Option.some.injEq] at h; subst h; exact ⟨by simp [binOp, Op.stringOp, scal], by simp only [VR, scal]⟩)
    | (split at h
       · rename_i hy
         simp only [Option.some.injEq] at h; subst h
         have hy' : ¬ (IntKind.i64.max < ((x.size + y.size : Nat) : Int)) := by simp [IntKind.max, IntKind.signed, IntKind.bits]; omega
         exact ⟨by simp only [binOp, Op.stringOp]; rw [if_neg hy']; rfl, by simp only [VR, scal]⟩
       · cases h)
    | skip

theorem unVal_ok {op : UnOp} {a : V} {x : Value} {v : V} (h : unVal op a = some v) (hx : VR ω a x) : ∃ z, (Op.unary op x).run P w = .ok z w ∧ VR ω v z := by
  refine ⟨scal v, ?_⟩
  unfold unVal at h
  split at h
  · simp only [VR] at hx; subst hx
    simp only [Option.some.injEq] at h; subst h
    exact ⟨by simp [Op.unary, Op.intArith, scal], by simp only [VR, scal]⟩
  · simp only [VR] at hx; subst hx
    simp only [intBin, Option.some.injEq] at h; subst h
    exact ⟨by simp [Op.unary, Op.intBits, scal], by simp only [VR, scal]⟩
  · simp only [VR] at hx; subst hx
    simp only [Option.some.injEq] at h; subst h
    exact ⟨by simp [Op.unary, scal], by simp only [VR, scal]⟩
  · cases h

theorem eqGuardType_plain : ∀ (m : Nat) (t : TypeId) (ks : List Kd), plainK P m t = some ks → ∀ d, m ≤ d → P.eqGuardType d t = false
  | 0, _, _, h, _, _ => by simp [plainK] at h
  | m + 1, t, ks, h, d, hd => by
    obtain ⟨d, rfl⟩ : ∃ e, d = e + 1 := ⟨d - 1, by omega⟩
    simp only [plainK] at h
    split at h
    · rename_i hu; simp [Program.eqGuardType, hu]
    · rename_i hu; simp [Program.eqGuardType, hu]
    · rename_i hu; simp [Program.eqGuardType, hu]
    · rename_i fs hu
      split at h
      · cases h
      · split at h
        · rename_i ks' hk
          simp only [Program.eqGuardType, hu]
          have key : ∀ (fs : List Field) (off : Nat) (ks : List Kd), plainK.plainF P m off fs = some ks → ∀ f ∈ fs, P.eqGuardType d f.type = false := by
            intro fs
            induction fs with
            | nil => intro _ _ _ f hf; cases hf
            | cons g gs ih =>
              intro off ks hk f hf
              simp only [plainK.plainF] at hk
              split at hk
              · split at hk
                · rename_i kg hkg
                  split at hk
                  · rename_i kr hkr
                    rcases List.mem_cons.1 hf with rfl | hf
                    · exact eqGuardType_plain m _ kg hkg d (by omega)
                    · exact ih _ _ hkr f hf
                  · cases hk
                · cases hk
              · cases hk
          rw [Array.any_eq_false]
          intro i hi
          have := key fs.toList 0 ks' hk fs[i] (by simp)
          simp [this]
        · cases h
    · rename_i n e hu
      split at h
      · rename_i ke hke
        simp only [Program.eqGuardType, hu]
        exact eqGuardType_plain m e ke hke d (by omega)
      · cases h
    · cases h

theorem eqPlain_kind {E : Env} {t : TypeId} {a b : V} {r : Bool} (h : eqPlain E t a b = some r) : (∃ cs, a = .agg cs) ∨ (∃ b, a = .bool b) ∨ (∃ k n, a = .int k n) ∨ (∃ s, a = .str s) := by
  simp only [eqPlain] at h
  split at h
  · split at h
    · exact .inl ⟨_, rfl⟩
    · split at h
      · cases h
      · rename_i ks i _ _ _ _ _ _
        cases ks with
        | nil => simp [eqCells] at h
        | cons k ks =>
          cases k <;> cases a <;> simp [eqCells, eqScalar] at h
          · exact .inr (.inl ⟨_, rfl⟩)
          · exact .inr (.inr (.inl ⟨_, _, rfl⟩))
          · exact .inr (.inr (.inr ⟨_, rfl⟩))
  · cases h
theorem eqVal_kind {E : Env} {t : TypeId} {a b : V} {r : Bool} (h : eqVal E t a b = some r) : (∃ cs, a = .agg cs) ∨ (∃ b, a = .bool b) ∨ (∃ k n, a = .int k n) ∨ (∃ s, a = .str s) ∨ (eqNil a b = some r ∧ ∃ i, E.ti t = some i ∧ nilT i.desc a b = true) := by
  simp only [eqVal] at h
  split at h
  · rename_i r' hr
    rcases eqPlain_kind hr with h | h | h | h
    · exact .inl h
    · exact .inr (.inl h)
    · exact .inr (.inr (.inl h))
    · exact .inr (.inr (.inr (.inl h)))
  · split at h
    · rename_i i hi
      split at h
      · rename_i hn
        exact .inr (.inr (.inr (.inr ⟨h, i, hi, hn⟩)))
      · cases h
    · cases h

theorem eqGuard_ok {E : Env} (hE : EnvOk E P) {op : BinOp} {t : TypeId} {a b : V} {x y : Value} {v : V} (h : binVal E op t a b = some v) (hx : VR ω a x) (hy : VR ω b y) (ox oy : Operand) (w : World) : (eqGuard op t ox oy x y).run P w = .ok () w := by
  unfold eqGuard
  by_cases hop : op = .eql ∨ op = .neq
  · have hr : ∃ r, eqVal E t a b = some r ∨ (∃ k n m, a = .int k n ∧ b = .int k m) ∨ (∃ s u, a = .str s ∧ b = .str u) := by
      unfold binVal at h
      split at h
      · rcases hop with h' | h' <;> cases h'
      · rcases hop with h' | h' <;> cases h'
      · split at h
        · rename_i e; subst e; exact ⟨true, .inr (.inl ⟨_, _, _, rfl, rfl⟩)⟩
        · cases h
      · exact ⟨true, .inr (.inr ⟨_, _, rfl, rfl⟩)⟩
      · simp only [Option.map_eq_some_iff] at h
        obtain ⟨r, hr, _⟩ := h
        exact ⟨r, .inl hr⟩
      · simp only [Option.map_eq_some_iff] at h
        obtain ⟨r, hr, _⟩ := h
        exact ⟨r, .inl hr⟩
      · cases h
    suffices hs : (match x, y with
      | .nilIface, .nilIface =>
        if (ox matches .const _) || (oy matches .const _) then (pure () : Sem Unit) else do
          if ← Op.eqGuardIn Op.maxDepth t x y then unsupported (.noEntry "binop/eql: two nil values of an interface type with methods, neither of them the literal nil")
      | .agg _, .agg _ =>
        do
          if !(← program).eqGuardType (← program).depth t then return
          if ← Op.eqGuardIn Op.maxDepth t x y then unsupported (.noEntry "binop/eql: two nil values of an interface type with methods, in a part of a struct or an array")
      | _, _ => pure ()).run P w = .ok () w by
      rcases hop with rfl | rfl <;> exact hs
    obtain ⟨r, hr | ⟨k, n, m, rfl, rfl⟩ | ⟨s, u, rfl, rfl⟩⟩ := hr
    · rcases eqVal_kind hr with ⟨cs, rfl⟩ | ⟨_, rfl⟩ | ⟨_, _, rfl⟩ | ⟨_, rfl⟩ | ⟨hn, _⟩
      · simp only [VR] at hx
        obtain ⟨xs, _, _, rfl⟩ := hx
        cases y <;> try (simp; done)
        rename_i ys
        have : ∃ ks, E.plain t = some ks := by
          simp only [eqVal] at hr
          cases hp : E.plain t with
          | some ks => exact ⟨ks, rfl⟩
          | none =>
            simp only [eqPlain, hp] at hr
            split at hr
            · rename_i i _
              cases b <;> simp [eqNil] at hr
            · cases hr
        obtain ⟨ks, hks⟩ := this
        have := eqGuardType_plain 8 t ks (hE.plain t ks hks) P.depth hE.deep
        simp [this]
      · simp only [VR] at hx; subst hx; simp
      · simp only [VR] at hx; subst hx; simp
      · simp only [VR] at hx; subst hx; simp
      · cases a <;> cases b <;> simp only [eqNil, reduceCtorEq] at hn
        all_goals (simp only [VR] at hx hy)
        all_goals (first
          | (subst hx; subst hy; simp; done)
          | (subst hx; obtain ⟨_, _, rfl⟩ := hy; simp; done)
          | (subst hy; obtain ⟨_, _, rfl⟩ := hx; simp; done)
          | (subst hx; simp; done)
          | (subst hy; cases x <;> simp; done))
    · simp only [VR] at hx; subst hx; simp
    · simp only [VR] at hx; subst hx; simp
  · cases op <;> first | exact absurd (.inl rfl) hop | exact absurd (.inr rfl) hop | simp
end
end Go.Abs
namespace Go.Abs

section
variable {P : Program} {ω : Om} {E : Env}

def notNum : Value → Bool
  | .int .. | .float .. | .complex .. | .string _ => false
  | _ => true
theorem binOp_eq_of {t : TypeId} {x y : Value} (hx : notNum x = true) :
    binOp .eql t x y = (do pure (.bool (← Op.equal t x y))) ∧ binOp .neq t x y = (do pure (.bool (!(← Op.equal t x y)))) := by
  cases x <;> simp [notNum] at hx <;> exact ⟨rfl, rfl⟩

theorem eqVal_int {t : TypeId} {k : IntKind} {n : Int} {b : V} {r : Bool} (hr : eqVal E t (.int k n) b = some r) : ∃ m, b = .int k m := by
  simp only [eqVal] at hr
  split at hr
  · rename_i r' hr'
    simp only [eqPlain] at hr'
    split at hr'
    · split at hr'
      · cases hr'
      · rename_i ks i _ _ _
        cases ks with
        | nil => simp [eqCells] at hr'
        | cons kd ks =>
          cases kd <;> cases b <;> simp [eqCells, eqScalar] at hr'
          rename_i k' m
          by_cases e : k = k'
          · subst e; exact ⟨m, rfl⟩
          · simp [e] at hr'
    · cases hr'
  · split at hr
    · split at hr
      · simp [eqNil] at hr
      · cases hr
    · cases hr
theorem eqVal_str {t : TypeId} {s : ByteArray} {b : V} {r : Bool} (hr : eqVal E t (.str s) b = some r) : ∃ u, b = .str u := by
  simp only [eqVal] at hr
  split at hr
  · rename_i r' hr'
    simp only [eqPlain] at hr'
    split at hr'
    · split at hr'
      · cases hr'
      · rename_i ks i _ _ _
        cases ks with
        | nil => simp [eqCells] at hr'
        | cons kd ks =>
          cases kd <;> cases b <;> simp [eqCells, eqScalar] at hr'
          exact ⟨_, rfl⟩
    · cases hr'
  · split at hr
    · split at hr
      · simp [eqNil] at hr
      · cases hr
    · cases hr
theorem eqVal_notNum {t : TypeId} {a b : V} {x : Value} {r : Bool} (hr : eqVal E t a b = some r) (hx : VR ω a x) (hi : ∀ k n k' m, a = .int k n → b = .int k' m → False) (hs : ∀ s u, a = .str s → b = .str u → False) :
    notNum x = true := by
  rcases eqVal_kind hr with ⟨cs, rfl⟩ | ⟨_, rfl⟩ | ⟨k, n, rfl⟩ | ⟨s, rfl⟩ | ⟨hn, _⟩
  · simp only [VR] at hx
    obtain ⟨xs, _, _, rfl⟩ := hx
    rfl
  · simp only [VR] at hx; subst hx; rfl
  · obtain ⟨m, rfl⟩ := eqVal_int hr
    exact (hi _ _ _ _ rfl rfl).elim
  · obtain ⟨u, rfl⟩ := eqVal_str hr
    exact (hs _ _ rfl rfl).elim
  · cases a <;> cases b <;> simp only [eqNil, reduceCtorEq] at hn <;> simp only [VR] at hx <;> first
      | (subst hx; rfl)
      | (obtain ⟨_, _, rfl⟩ := hx; rfl)
      | (obtain ⟨_, _, rfl, _⟩ := hx; rfl)
      | (obtain ⟨_, _, _, _, rfl, _⟩ := hx; rfl)
      | (obtain ⟨_, _, _, _, _, _, _, _, rfl⟩ := hx; rfl)

theorem binVal_ok (hE : EnvOk E P) {op : BinOp} {t : TypeId} {a b : V} {x y : Value} {v : V} (h : binVal E op t a b = some v) (hx : VR ω a x) (hy : VR ω b y) (ox oy : Operand) (w : World) :
    ∃ z, (do eqGuard op t ox oy x y; binOp op t x y : Sem Value).run P w = .ok z w ∧ VR ω v z := by
  suffices hs : ∃ z, (binOp op t x y).run P w = .ok z w ∧ VR ω v z by
    obtain ⟨z, h1, h2⟩ := hs
    exact ⟨z, by rw [Sem.run_bind, eqGuard_ok hE h hx hy ox oy w]; exact h1, h2⟩
  unfold binVal at h
  split at h
  · simp only [VR] at hx hy; subst hx; subst hy
    exact shiftBin_ok h t (.inl rfl)
  · simp only [VR] at hx hy; subst hx; subst hy
    exact shiftBin_ok h t (.inr rfl)
  · rename_i op' k n k' m h1 h2
    simp only [VR] at hx hy; subst hx; subst hy
    split at h
    · rename_i e; subst e
      exact intBin_ok h ⟨fun e => by subst e; simp at h1, fun e => by subst e; simp at h2⟩ t
    · cases h
  · simp only [VR] at hx hy; subst hx; subst hy
    exact strBin_ok h t
  · simp only [Option.map_eq_some_iff] at h
    obtain ⟨r, hr, rfl⟩ := h
    rename_i hi hs
    refine ⟨.bool r, ?_, by simp only [VR]⟩
    rw [(binOp_eq_of (eqVal_notNum hr hx (fun k n k' m e1 e2 => hi k n k' m e1 e2) (fun s u e1 e2 => hs s u e1 e2))).1]
    simp [eqVal_ok hE hr hx hy w]
  · simp only [Option.map_eq_some_iff] at h
    obtain ⟨r, hr, rfl⟩ := h
    rename_i hi hs
    refine ⟨.bool (!r), ?_, by simp only [VR]⟩
    rw [(binOp_eq_of (eqVal_notNum hr hx (fun k n k' m e1 e2 => hi k n k' m e1 e2) (fun s u e1 e2 => hs s u e1 e2))).2]
    simp [eqVal_ok hE hr hx hy w]
  · cases h
end
end Go.Abs
namespace Go.Abs

theorem flats_sub {row cs : List V} {off n : Nat} (hf : flats row = true) (h : sub row off n = some cs) : flats cs = true := by
  simp only [sub] at h
  split at h
  · simp only [Option.some.injEq] at h
    subst h
    simp only [flats, List.all_eq_true] at hf ⊢
    intro x hx
    exact hf x (List.mem_of_mem_drop (List.mem_of_mem_take hx))
  · cases h
theorem sub_len {row cs : List V} {off n : Nat} (h : sub row off n = some cs) : cs.length = n ∧ off + n ≤ row.length := by
  simp only [sub] at h
  split at h
  · simp only [Option.some.injEq] at h
    subst h
    simp only [List.length_take, List.length_drop]
    omega
  · cases h
theorem flats_patch {row new cs : List V} {off : Nat} (hf : flats row = true) (hn : flats new = true) (h : patch row off new = some cs) : flats cs = true := by
  simp only [patch] at h
  split at h
  · simp only [Option.some.injEq] at h
    subst h
    simp only [flats, List.all_eq_true] at hf hn ⊢
    intro x hx
    simp only [List.append_assoc, List.mem_append] at hx
    rcases hx with hx | hx | hx
    · exact hf x (List.mem_of_mem_take hx)
    · exact hn x hx
    · exact hf x (List.mem_of_mem_drop hx)
  · cases h
theorem patch_len {row new cs : List V} {off : Nat} (h : patch row off new = some cs) : cs.length = row.length ∧ off + new.length ≤ row.length := by
  simp only [patch] at h
  split at h
  · simp only [Option.some.injEq] at h
    subst h
    simp only [List.length_append, List.length_take, List.length_drop]
    omega
  · cases h

section
variable {P : Program} {ω : Om} {E : Env} {ok : FuncId → Nat → Code → Prop} {H : Heap} {lo : Nat → Option Nat} {fr : Fr} {a : Act} {tmps : Array Value} {w : World}

theorem Addr.add_at (b o j : Nat) : (⟨b, o, none⟩ : Addr).add j = ⟨b, o + j, none⟩ := by unfold Addr.add; split <;> simp_all

theorem row_read {b base off n : Nat} {row cs : List V} {cs' : Array Value} {el : TypeId} {fz : Nat × Nat} (hb : w.heap[b]? = some (.cells cs' el fz)) (hv : VRs ω row (cs'.toList.drop base)) (h : sub row off n = some cs) :
    ∃ xs : List Value, xs.length = n ∧ VRs ω cs xs ∧ ∀ j u, xs[j]? = some u → w.cell? ((⟨b, base + off, none⟩ : Addr).add j) = some u := by
  obtain ⟨h1, h2⟩ := sub_len h
  have hl := hv.len
  simp only [List.length_drop, Array.length_toList] at hl
  refine ⟨(cs'.toList.drop (base + off)).take n, ?_, ?_, ?_⟩
  · simp only [List.length_take, List.length_drop, Array.length_toList]
    omega
  · simp only [sub, h2, if_true, Option.some.injEq] at h
    subst h
    rw [← List.drop_drop]
    exact (hv.drop off).take n
  · intro j u hu
    rw [List.getElem?_take] at hu
    split at hu
    · rw [List.getElem?_drop] at hu
      rw [Addr.add_at]
      simp only [World.cell?, hb]
      simpa using hu
    · cases hu

theorem read_ok (sr : SR ok ω H lo fr tmps w) {p : V} {x : Value} {n : Nat} {cs : List V} (hp : SlotR ω lo p x) (h : readCells fr H p n = some cs) :
    ∃ (b o : Nat) (xs : List Value), x = .pointer (some ⟨b, o, none⟩) ∧ xs.length = n ∧ cs.length = n ∧ VRs ω cs xs ∧ flats cs = true ∧ ∀ j u, xs[j]? = some u → w.cell? ((⟨b, o, none⟩ : Addr).add j) = some u := by
  unfold readCells at h
  split at h
  · rename_i t off
    simp only [Option.bind_eq_some_iff] at h
    obtain ⟨row, hr, hs⟩ := h
    obtain ⟨b, hb, rfl⟩ := hp
    obtain ⟨b', cs', el, h1, h2, h3, h4, h5, _⟩ := sr.fr.boxes t row hr
    rw [hb] at h1; cases h1
    obtain ⟨xs, e1, e2, e3⟩ := row_read (base := 0) (off := off) h2 (by simpa using h4) hs
    exact ⟨b, off, xs, rfl, e1, (sub_len hs).1, e2, flats_sub h5 hs, by simpa using e3⟩
  · rename_i id off
    split at h
    · rename_i row hg
      obtain ⟨bl, h1, h2⟩ := sr.wr.obj id _ hg rfl
      obtain ⟨cs', el, h3, h4, h5, h6, h7⟩ := h2
      simp only [SlotR, VR] at hp
      obtain ⟨bl', e1, rfl⟩ := hp
      rw [h1] at e1; cases e1
      obtain ⟨xs, f1, f2, f3⟩ := row_read h3 h6 h
      exact ⟨_, _, xs, rfl, f1, (sub_len h).1, f2, flats_sub h7 h, f3⟩
    · cases h
  · rename_i row off
    simp only [SlotR, VR] at hp
    obtain ⟨b, base, cs', el, fz, h1, h2, h3, rfl⟩ := hp
    obtain ⟨xs, f1, f2, f3⟩ := row_read (sr.wr.ro b _ h1) h2 h
    exact ⟨_, _, xs, rfl, f1, (sub_len h).1, f2, flats_sub h3 h, f3⟩
  · cases h

theorem asType_ok {i : TInfo} {cs : List V} {v : V} {xs : List Value} (h : asType i cs = some v) (hl : cs.length = xs.length) (hv : VRs ω cs xs) :
    (i.isAgg = true ∧ VR ω v (.agg xs.toArray)) ∨ (i.isAgg = false ∧ ∃ x, xs = [x] ∧ VR ω v x) := by
  unfold asType at h
  split at h
  · rename_i hi
    simp only [Option.some.injEq] at h
    subst h
    refine .inl ⟨hi, ?_⟩
    simp only [VR]
    exact ⟨xs.toArray, by simpa using hl, by simpa using hv, rfl⟩
  · rename_i hi
    refine .inr ⟨by simpa using hi, ?_⟩
    cases cs with
    | nil => simp [oneOf] at h
    | cons c cs =>
      cases cs with
      | nil =>
        simp only [oneOf, Option.some.injEq] at h
        subst h
        simp only [VRs] at hv
        obtain ⟨x, l, rfl, hx, _⟩ := hv
        cases l with
        | nil => exact ⟨x, rfl, hx⟩
        | cons => simp at hl
      | cons => simp [oneOf] at h

theorem load_ok (hE : EnvOk E P) (sr : SR ok ω H lo fr tmps w) {t : TypeId} {i : TInfo} {p : V} {x : Value} {v : V} (hi : E.ti t = some i) (hp : SlotR ω lo p x) (h : readAt fr H i p = some v) :
    ∃ z, (Instr.loadAt t x).run P w = .ok z w ∧ VR ω v z := by
  simp only [readAt, Option.bind_eq_some_iff] at h
  obtain ⟨cs, hc, hv⟩ := h
  obtain ⟨b, o, xs, rfl, h1, h2, h3, h4, h5⟩ := read_ok sr hp hc
  obtain ⟨j, z, e1, e2, e3, e4, e5, e6, e7, e8, e9, e10⟩ := tinfo_spec (hE.ti t i hi)
  have hag := run_isAgg (P := P) w e2
  rcases asType_ok (xs := xs) hv (by omega) h3 with ⟨ha, hr⟩ | ⟨ha, y, rfl, hr⟩
  · refine ⟨.agg xs.toArray, ?_, hr⟩
    rw [← e9, ha] at hag
    rw [ha] at h1
    simp only [if_true] at h1
    have hl := run_loadCells_list (P := P) w ⟨b, o, none⟩ xs h5
    rw [h1, ← e3] at hl
    simp [Instr.loadAt, Instr.sureAddr, loadVar, hag, sizeOf, typeInfo, e1, hl]
  · refine ⟨y, ?_, hr⟩
    rw [← e9, ha] at hag
    have := h5 0 y rfl
    rw [Addr.add_at] at this
    simp only [Nat.add_zero] at this
    simp [Instr.loadAt, Instr.sureAddr, loadVar, hag, this]

theorem row_write {b base off : Nat} {row new cs : List V} {cs' : Array Value} {el : TypeId} {xs : List Value} (hb : w.heap[b]? = some (.cells cs' el (0, 0))) (hv : VRs ω row (cs'.toList.drop base)) (hlen : base + row.length ≤ cs'.size)
    (h : patch row off new = some cs) (hl : new.length = xs.length) (hx : VRs ω new xs) (hf : flats new = true) :
    ∃ cs'' : Array Value, (storeCells ⟨b, base + off, none⟩ xs).run P w = .ok () (w.setRow b cs'') ∧ cs''.size = cs'.size ∧ VRs ω cs (cs''.toList.drop base) := by
  obtain ⟨h1, h2⟩ := patch_len h
  have hst := run_storeCells_at P b (base + off) el xs 0 cs' w hb (by omega) (hx.ones hl hf)
  simp only [Nat.add_zero] at hst
  refine ⟨_, hst, ?_, ?_⟩
  · simp only [List.size_toArray, List.length_append, List.length_take, List.length_drop, Array.length_toList]
    omega
  · simp only [patch, h2, if_true, Option.some.injEq] at h
    subst h
    have hll := hv.len
    simp only [List.length_drop, Array.length_toList] at hll
    have e1 : (cs'.toList.take (base + off) ++ xs ++ cs'.toList.drop (base + off + xs.length)).drop base = (cs'.toList.drop base).take off ++ xs ++ (cs'.toList.drop base).drop (off + xs.length) := by
      rw [List.append_assoc, List.append_assoc, List.drop_append_of_le_length (by simp only [List.length_take, Array.length_toList]; omega), List.drop_take, List.drop_drop]
      congr 2
      · congr 1; omega
      · congr 1; omega
    rw [e1]
    refine VRs.append ?_ (VRs.append ?_ (hv.take off) hx) (by rw [hl]; exact hv.drop _)
    · simp only [List.length_append, List.length_take, List.length_drop, Array.length_toList]
      omega
    · simp only [List.length_take, List.length_drop, Array.length_toList]
      omega

theorem write_ok (sr : SR ok ω H lo fr tmps w) {p : V} {x : Value} {new : List V} {xs : List Value} {fr' : Fr} {H' : Heap} (hp : SlotR ω lo p x) (h : writeAt fr H p new = some (fr', H')) (hl : new.length = xs.length) (hx : VRs ω new xs) (hf : flats new = true) :
    ∃ ad w', x = .pointer (some ad) ∧ (storeCells ad xs).run P w = .ok () w' ∧ Post ok ω H lo fr w ω H' lo fr' tmps w' := by
  unfold writeAt at h
  split at h
  · rename_i t off
    split at h
    · rename_i old ho
      simp only [Option.map_eq_some_iff, Prod.mk.injEq] at h
      obtain ⟨cs, hc, rfl, rfl⟩ := h
      obtain ⟨b, hb, rfl⟩ := hp
      obtain ⟨b', cs', el, h1, h2, h3, h4, h5, h6, h7⟩ := sr.fr.boxes t old ho
      rw [hb] at h1; cases h1
      obtain ⟨cs'', e1, e2, e3⟩ := row_write (P := P) (base := 0) h2 (by simpa using h4) (by omega) hc hl hx hf
      simp only [Nat.zero_add, List.drop_zero] at e1 e3
      exact ⟨_, _, rfl, e1, Post.boxSet sr ho hb (fun c hne => setRow_other w b c _ hne) (by simp) rfl rfl rfl (setRow_heap w b cs' _ el _ h2) (by rw [e2, h3, (patch_len hc).1]) e3 (flats_patch h5 hf hc)⟩
    · cases h
  · rename_i id off
    split at h
    · rename_i old ho
      simp only [Option.map_eq_some_iff, Prod.mk.injEq] at h
      obtain ⟨cs, hc, rfl, rfl⟩ := h
      obtain ⟨bl, h1, h2⟩ := sr.wr.obj id _ ho rfl
      obtain ⟨cs', el, h3, h4, h5, h6, h7⟩ := h2
      simp only [SlotR, VR] at hp
      obtain ⟨bl', f1, rfl⟩ := hp
      rw [h1] at f1; cases f1
      obtain ⟨cs'', e1, e2, e3⟩ := row_write (P := P) h3 h6 h5 hc hl hx hf
      refine ⟨_, _, rfl, e1, Post.set sr ho rfl h1 (fun c hne => setRow_other w _ c _ hne) (by simp) rfl rfl rfl fun _ => ?_⟩
      exact ⟨cs'', el, setRow_heap w bl.b cs' _ el _ h3, by rw [e2, h4], by rw [(patch_len hc).1, e2]; exact h5, e3, flats_patch h7 hf hc⟩
    · cases h
  · cases h

theorem store_ok (hE : EnvOk E P) (sr : SR ok ω H lo fr tmps w) {t : TypeId} {i : TInfo} {p v : V} {x y : Value} {fr' : Fr} {H' : Heap} (hi : E.ti t = some i) (hp : SlotR ω lo p x) (hy : VR ω v y) (hl : v.cells.length = i.size) (hw : v.whole = true)
    (h : writeAt fr H p v.cells = some (fr', H')) : ∃ w', (Instr.storeAt t x y).run P w = .ok () w' ∧ Post ok ω H lo fr w ω H' lo fr' tmps w' := by
  obtain ⟨h1, h2⟩ := hy.cells hw
  obtain ⟨ad, w', rfl, e1, e2⟩ := write_ok (P := P) sr hp h (by simpa using h1) h2 hw
  obtain ⟨j, z, f1, f2, f3, _⟩ := tinfo_spec (hE.ti t i hi)
  refine ⟨w', ?_, e2⟩
  have : ¬ (y.cells.size ≠ j.size) := by omega
  simp [Instr.storeAt, Instr.sureAddr, storeVar, sizeOf, typeInfo, f1, this, e1]
end
end Go.Abs
namespace Go.Abs
section
variable {P : Program} {ω : Om} {E : Env} {ok : FuncId → Nat → Code → Prop} {H : Heap} {lo : Nat → Option Nat} {fr : Fr} {a : Act} {tmps : Array Value} {w : World}

theorem WR.le_put (h : WR ok ω H w) (bl : Blk) : ω.le ⟨fun i => if i = H.next then some bl else ω.φ i, ω.ro⟩ := ⟨fun i b hi => by
    have := h.dom i b hi
    simp only [show ¬ (i = H.next) by omega, if_false]
    exact hi, fun _ _ h => h⟩
theorem newRow_ok (sr : SR ok ω H lo fr tmps w) {cs : List V} {cs' : Array Value} (el : TypeId) (hl : cs.length = cs'.size) (hv : VRs ω cs cs'.toList) (hf : flats cs = true) :
    ∃ ω', Post ok ω H lo fr w ω' (H.alloc (.row cs)) lo fr tmps (w.alloc (.cells cs' el)) ∧ ω'.φ H.next = some ⟨w.heap.size, 0, cs'.size⟩ := by
  refine ⟨_, Post.new sr (.row cs) (.cells cs' el) cs'.size ?_, by simp⟩
  refine ⟨cs', el, Go.heap_alloc_new w _, rfl, by simp; omega, ?_, hf⟩
  simp only [List.drop_zero]
  exact VRs.mono (sr.wr.le_put _) _ _ hv

theorem newBox_ok (sr : SR ok ω H lo fr tmps w) {fid : FuncId} {d : Option Tmp} {cs : List V} {cs' : Array Value} {v : V} {fr' : Fr} {H' : Heap} (el : TypeId) (hl : cs.length = cs'.size) (hv : VRs ω cs cs'.toList) (h : newBox E fid fr H d cs = some (.val v fr' H')) :
    ∃ ω' lo', SlotR ω' lo' v (.pointer (some ⟨w.heap.size, 0, none⟩)) ∧ Post ok ω H lo fr w ω' H' lo' fr' tmps (w.alloc (.cells cs' el)) := by
  unfold newBox at h
  split at h
  · rename_i hf
    split at h
    · rename_i t
      split at h
      · simp only [Option.some.injEq, OR.val.injEq] at h
        obtain ⟨rfl, rfl, rfl⟩ := h
        exact ⟨_, _, ⟨w.heap.size, by simp, rfl⟩, Post.boxNew sr t cs cs' el hl.symm hv hf⟩
      · simp only [Option.some.injEq, OR.val.injEq] at h
        obtain ⟨rfl, rfl, rfl⟩ := h
        obtain ⟨ω', h1, h2⟩ := newRow_ok sr el hl hv hf
        exact ⟨ω', lo, by simp only [SlotR, VR]; exact ⟨_, h2, rfl⟩, h1⟩
    · cases h
  · cases h

theorem alloc_ok (hE : EnvOk E P) (sr : SR ok ω H lo fr tmps w) {fid : FuncId} {d : Option Tmp} {t : TypeId} {i : TInfo} {v : V} {fr' : Fr} {H' : Heap} (hi : E.ti t = some i) (h : newBox E fid fr H d i.zero.cells = some (.val v fr' H')) :
    ∃ ω' lo' w' x, (Instr.alloc t true (.tuple #[])).run P w = .ok x w' ∧ SlotR ω' lo' v x ∧ Post ok ω H lo fr w ω' H' lo' fr' tmps w' := by
  obtain ⟨j, z, e1, e2, e3, e4, e5, e6, e7, e8, e9, e10, _⟩ := tinfo_spec (hE.ti t i hi)
  obtain ⟨hz, hzw⟩ := ofValue_ok (ω := ω) e6
  obtain ⟨h1, h2⟩ := hz.cells hzw
  obtain ⟨ω', lo', h3, h4⟩ := newBox_ok sr t h1 h2 h
  refine ⟨ω', lo', _, _, ?_, h3, h4⟩
  simp [Instr.alloc, zeroValue, typeInfo, e1, e5, newVar, newRow]
theorem box_ok (sr : SR ok ω H lo fr tmps w) {fid : FuncId} {d : Option Tmp} {t : TypeId} {u v : V} {y : Value} {fr' : Fr} {H' : Heap} (hy : SlotR ω lo u y) (h : newBox E fid fr H d u.cells = some (.val v fr' H')) :
    ∃ ω' lo' w' x, (Instr.box t y).run P w = .ok x w' ∧ SlotR ω' lo' v x ∧ Post ok ω H lo fr w ω' H' lo' fr' tmps w' := by
  have hw : u.whole = true := by
    unfold newBox at h
    split at h
    · assumption
    · cases h
  have hy' : VR ω u y := hy.vr (by cases u <;> first | rfl | simp [V.whole, V.cells, flats, V.flat] at hw)
  obtain ⟨h1, h2⟩ := hy'.cells hw
  obtain ⟨ω', lo', h3, h4⟩ := newBox_ok sr t h1 h2 h
  exact ⟨ω', lo', _, _, by simp [Instr.box, newVar, newRow], h3, h4⟩

theorem foldl_set : ∀ (l : List Value) (off k : Nat) (cells : Array Value), off + k + l.length ≤ cells.size →
    ((l.zipIdx k).foldl (fun (cs : Array Value) (c : Value × Nat) => cs.setIfInBounds (off + c.2) c.1) cells).toList = cells.toList.take (off + k) ++ l ++ cells.toList.drop (off + k + l.length)
  | [], off, k, cells, _ => by simp
  | c :: l, off, k, cells, h => by
    simp only [List.length_cons] at h
    simp only [List.zipIdx_cons, List.foldl_cons]
    rw [foldl_set l off (k + 1) _ (by simp; omega)]
    simp only [Array.toList_setIfInBounds, List.length_cons]
    rw [List.take_set, List.drop_set_of_lt (by omega)]
    have e : (cells.toList.take (off + (k + 1))).set (off + k) c = cells.toList.take (off + k) ++ [c] := by
      apply List.ext_getElem?
      intro n
      simp only [List.getElem?_set, List.getElem?_take, List.length_take, Array.length_toList, List.getElem?_append]
      rcases Nat.lt_trichotomy n (off + k) with hn | hn | hn
      · rw [if_neg (by omega), if_pos (by omega), if_pos (by omega), if_pos (by omega)]
      · subst hn
        rw [if_pos rfl, if_pos (by omega), if_neg (by omega)]
        simp [Nat.min_eq_left (show off + k ≤ cells.size by omega)]
      · rw [if_neg (by omega), if_neg (by omega), if_neg (by omega)]
        have : n - min (off + k) cells.size ≠ 0 := by omega
        cases hm : n - min (off + k) cells.size with
        | zero => exact absurd hm this
        | succ m => simp
    rw [e, show off + (k + 1) + l.length = off + k + (l.length + 1) by omega]
    simp

def PartsR (ω : Om) : List (Nat × V) → List (Nat × Value) → Prop
  | [], l => l = []
  | (i, v) :: r, l => ∃ x l', l = (i, x) :: l' ∧ VR ω v x ∧ PartsR ω r l'
theorem wholes_loc {v : V} (h : v.whole = true) : v.isLoc = false := by
  cases v <;> first | rfl | simp [V.whole, V.cells, flats, V.flat] at h
theorem evalParts_ok (hf : FR ω H lo fr a.tmps w) : ∀ {ps : List (Nat × Operand)} {vs : List (Nat × V)}, evalParts fr ps = some vs → wholes vs = true → PartsR ω vs (ps.map fun (i, x) => (i, a.eval x))
  | [], vs, h, _ => by simp only [evalParts, Option.some.injEq] at h; subst h; simp [PartsR]
  | (i, x) :: ps, vs, h, hw => by
    simp only [evalParts] at h
    split at h
    · rename_i v us h1 h2
      simp only [Option.some.injEq] at h
      subst h
      simp only [wholes, List.all_cons, Bool.and_eq_true] at hw
      simp only [PartsR, List.map_cons]
      exact ⟨_, _, rfl, (eval_ok hf h1).vr (wholes_loc hw.1), evalParts_ok hf h2 hw.2⟩
    · cases h

theorem fill_ok {pl pl' : Nat → Option (Nat × Nat)} (hpl : ∀ i x, pl i = some x → pl' i = some x) : ∀ {vs : List (Nat × V)} {xs : List (Nat × Value)} {cs out : List V} {cells : Array Value}, PartsR ω vs xs → wholes vs = true → cs.length = cells.size → VRs ω cs cells.toList → flats cs = true →
    fillCells pl cs vs = some out → ∃ out', Instr.fill pl' cells xs = some out' ∧ out.length = out'.size ∧ VRs ω out out'.toList ∧ flats out = true ∧ out.length = cs.length
  | [], xs, cs, out, cells, hp, _, hl, hv, hf, h => by
    simp only [PartsR] at hp
    subst hp
    simp only [fillCells, Option.some.injEq] at h
    subst h
    exact ⟨cells, rfl, hl, hv, hf, rfl⟩
  | (i, v) :: vs, xs, cs, out, cells, hp, hw, hl, hv, hf, h => by
    simp only [PartsR] at hp
    obtain ⟨x, l', rfl, hx, hr⟩ := hp
    simp only [wholes, List.all_cons, Bool.and_eq_true] at hw
    obtain ⟨hc1, hc2⟩ := hx.cells hw.1
    simp only [fillCells] at h
    split at h
    · cases h
    · rename_i off size hpi
      split at h
      · rename_i hsz
        split at h
        · rename_i cs1 hpatch
          obtain ⟨p1, p2⟩ := patch_len hpatch
          have hfold := foldl_set x.cells.toList off 0 cells (by simp only [Array.length_toList]; omega)
          simp only [Nat.add_zero] at hfold
          have hv1 : VRs ω cs1 (cells.toList.take off ++ x.cells.toList ++ cells.toList.drop (off + x.cells.toList.length)) := by
            simp only [patch, p2, if_true, Option.some.injEq] at hpatch
            subst hpatch
            refine VRs.append ?_ (VRs.append ?_ (hv.take off) hc2) (by rw [hc1, ← Array.length_toList]; exact hv.drop _)
            · simp only [List.length_append, List.length_take, Array.length_toList]; omega
            · simp only [List.length_take, Array.length_toList]; omega
          have hf1 := flats_patch hf hw.1 hpatch
          obtain ⟨out', e1, e2, e3, e4, e5⟩ := fill_ok (vs := vs) hpl (cells := (x.cells.zipIdx.foldl (fun cs (c, j) => cs.setIfInBounds (off + j) c) cells)) hr hw.2 (by
            rw [← Array.length_toList, ← Array.foldl_toList, Array.toList_zipIdx, hfold]
            simp only [List.length_append, List.length_take, List.length_drop, Array.length_toList]
            omega) (by rw [← Array.foldl_toList, Array.toList_zipIdx, hfold]; exact hv1) hf1 h
          refine ⟨out', ?_, e2, e3, e4, by omega⟩
          simp only [Instr.fill, hpl i _ hpi]
          rw [if_neg (by simp; omega)]
          exact e1
        · cases h
      · cases h

theorem run_places (fs : List Field) (hall : ∀ f ∈ fs, ∃ i, P.info? f.type = some i) : (fs.mapM fun f => do pure (f.offset, ← sizeOf f.type) : Sem (List (Nat × Nat))).run P w = .ok (fs.map fun f => (f.offset, P.cellsOf f.type)) w := by
  induction fs with
  | nil => simp
  | cons f fs ih =>
    obtain ⟨i, hi⟩ := hall f (by simp)
    have := ih fun g hg => hall g (by simp [hg])
    rw [List.mapM_cons]
    simp only [Sem.run_bind, run_sizeOf w hi, Result.andThen_ok, Sem.run_pure, this, List.map_cons]

theorem run_build_struct {t : TypeId} {j : TypeInfo} {z : Value} {fs : Array Field} {xs : Array (Nat × Value)} {out : Array Value} (e1 : P.info? t = some j) (e5 : j.zero = some z) (e2 : P.underlying t = some (.struct fs))
    (hall : ∀ f ∈ fs.toList, ∃ i, P.info? f.type = some i) (h : Instr.fill ((fs.map fun f => (f.offset, P.cellsOf f.type))[·]?) z.cells xs.toList = some out) : (Instr.build t xs).run P w = .ok (.agg out) w := by
  have hm : (fs.mapM (fun f => do pure (f.offset, ← sizeOf f.type)) : Sem (Array (Nat × Nat))).run P w = .ok (fs.map fun f => (f.offset, P.cellsOf f.type)) w := by
    rw [Array.mapM_eq_mapM_toList]
    simp only [Sem.run_map]
    rw [run_places fs.toList hall]
    simp only [Result.andThen_ok, Result.ok.injEq, and_true]
    apply Array.ext'
    simp
  have hz : (zeroValue t).run P w = .ok z w := by simp [zeroValue, typeInfo, e1, e5]
  unfold Instr.build
  rw [Sem.run_bind, hz]
  simp only [Result.andThen_ok]
  rw [Sem.run_bind, run_underlying e2]
  simp only [Result.andThen_ok]
  rw [Sem.run_bind, hm]
  simp only [Result.andThen_ok, h]
  rfl
theorem run_build_array {t e : TypeId} {n : Nat} {j je : TypeInfo} {z : Value} {xs : Array (Nat × Value)} {out : Array Value} (e1 : P.info? t = some j) (e5 : j.zero = some z) (e2 : P.underlying t = some (.array n e)) (e3 : P.info? e = some je)
    (h : Instr.fill (fun i => some (i * P.cellsOf e, P.cellsOf e)) z.cells xs.toList = some out) : (Instr.build t xs).run P w = .ok (.agg out) w := by
  have hz : (zeroValue t).run P w = .ok z w := by simp [zeroValue, typeInfo, e1, e5]
  unfold Instr.build
  rw [Sem.run_bind, hz]
  simp only [Result.andThen_ok]
  rw [Sem.run_bind, run_underlying e2]
  simp only [Result.andThen_ok]
  rw [Sem.run_bind, run_sizeOf w e3]
  simp only [Result.andThen_ok, h]
  rfl

theorem cellsOf_ti (hE : EnvOk E P) {t : TypeId} {i : TInfo} (hi : E.ti t = some i) : P.cellsOf t = i.size := by
  obtain ⟨j, z, e1, _, e3, _⟩ := tinfo_spec (hE.ti t i hi)
  simp [Program.cellsOf, e1, e3]

theorem build_ok (hE : EnvOk E P) {t : TypeId} {vs : List (Nat × V)} {xs : Array (Nat × Value)} {v : V} (hp : PartsR ω vs xs.toList) (h : buildV E t vs = some v) : ∃ z, (Instr.build t xs).run P w = .ok z w ∧ VR ω v z := by
  unfold buildV at h
  split at h
  · rename_i hw
    split at h
    · rename_i i hi
      split at h
      · rename_i hag
        simp only [Option.map_eq_some_iff] at h
        obtain ⟨out, ho, rfl⟩ := h
        obtain ⟨j, z, e1, e2, e3, e4, e5, e6, e7, e8, e9, e10, e11⟩ := tinfo_spec (hE.ti t i hi)
        obtain ⟨hz1, hz2⟩ := ofValue_ok (ω := ω) e6
        obtain ⟨h1, h2⟩ := hz1.cells hz2
        rw [e9] at hag
        have hcase : (∃ fs, i.desc = .struct fs) ∨ (∃ n e, i.desc = .array n e) := by
          cases hd : i.desc <;> rw [hd] at hag <;> first
            | exact .inl ⟨_, rfl⟩
            | exact .inr ⟨_, _, rfl⟩
            | simp [aggD] at hag
        rcases hcase with ⟨fs, hd⟩ | ⟨n, e, hd⟩
        · have hpl : ∀ i x, place E t i = some x → (fs.map fun f => (f.offset, P.cellsOf f.type))[i]? = some x := by
            intro k x hx
            simp only [place, Env.desc, hi, Option.map_some, hd] at hx
            split at hx
            · rename_i f hf
              simp only [Option.map_eq_some_iff] at hx
              obtain ⟨jf, hjf, rfl⟩ := hx
              simp [hf, cellsOf_ti hE hjf]
            · cases hx
          obtain ⟨out', f1, f2, f3, _, _⟩ := fill_ok hpl hp hw h1 h2 hz2 ho
          rw [hd] at e2
          refine ⟨.agg out', run_build_struct e1 e5 e2 (fun f hf => ?_) f1, by simp only [VR]; exact ⟨out', f2, f3, rfl⟩⟩
          simp only [fieldsIn, hd, List.all_eq_true] at e11
          exact Option.isSome_iff_exists.1 (e11 f hf)
        · rw [hd] at e2
          simp only [fieldsIn, hd] at e11
          obtain ⟨je, hje⟩ := Option.isSome_iff_exists.1 e11
          have hpl : ∀ i x, place E t i = some x → (fun i => some (i * P.cellsOf e, P.cellsOf e)) i = some x := by
            intro k x hx
            simp only [place, Env.desc, hi, Option.map_some, hd, Option.map_eq_some_iff] at hx
            obtain ⟨jf, hjf, rfl⟩ := hx
            simp [cellsOf_ti hE hjf]
          obtain ⟨out', f1, f2, f3, _, _⟩ := fill_ok hpl hp hw h1 h2 hz2 ho
          exact ⟨.agg out', run_build_array e1 e5 e2 hje f1, by simp only [VR]; exact ⟨out', f2, f3, rfl⟩⟩
      · cases h
    · cases h
  · cases h

theorem rep_length (zs : List V) : ∀ n, (rep n zs).length = n * zs.length
  | 0 => by simp [rep]
  | n + 1 => by simp only [rep, List.length_append, rep_length zs n]; rw [Nat.add_mul]; omega
theorem flats_rep {zs : List V} (h : flats zs = true) : ∀ n, flats (rep n zs) = true
  | 0 => rfl
  | n + 1 => by
    simp only [rep, flats, List.all_append, Bool.and_eq_true]
    exact ⟨h, flats_rep h n⟩
theorem rep_get (zs : List V) (hz : zs.length ≠ 0) : ∀ n i, i < n * zs.length → (rep n zs)[i]? = zs[i % zs.length]?
  | 0, i, h => by omega
  | n + 1, i, h => by
    simp only [rep]
    rcases Nat.lt_or_ge i zs.length with hi | hi
    · rw [List.getElem?_append_left hi, Nat.mod_eq_of_lt hi]
    · rw [List.getElem?_append_right hi, rep_get zs hz n (i - zs.length) (by rw [Nat.add_mul] at h; omega)]
      rw [Nat.mod_eq_sub_mod hi]
theorem rep_ok {zs : List V} {z : Array Value} (hl : zs.length = z.size) (hv : VRs ω zs z.toList) (n m : Nat) (hnm : n ≤ m) : VRs ω (rep n zs) (madeCells z (m * zs.length)).toList := by
  refine VRs.of_get fun i v hi => ?_
  have hlt : i < n * zs.length := by
    rw [← rep_length]
    exact (List.getElem?_eq_some_iff.1 hi).1
  have hz : zs.length ≠ 0 := by
    intro e
    rw [e] at hlt
    omega
  rw [rep_get zs hz n i hlt] at hi
  obtain ⟨x, h1, h2⟩ := hv.get _ v hi
  refine ⟨x, ?_, h2⟩
  have hm : i < m * zs.length := Nat.lt_of_lt_of_le hlt (Nat.mul_le_mul_right _ hnm)
  have hmod : i % z.size < z.size := Nat.mod_lt _ (by omega)
  simp only [madeCells, Array.toList_map, Array.toList_range, List.getElem?_map, List.getElem?_range hm, Option.map_some]
  rw [hl] at h1
  have : z[i % z.size]! = x := by
    rw [Array.getElem!_eq_getD]
    simp only [Array.getD_eq_getD_getElem?]
    have h3 : z[i % z.size]? = some x := by simpa using h1
    rw [h3]
    rfl
  rw [this]

theorem buildSlice_ok (hE : EnvOk E P) {t e : TypeId} {j : TInfo} {len : Nat} {vs : List (Nat × V)} {xs : Array (Nat × Value)} {cs : List V} (hel : elemAt E t = some (e, j)) (hp : PartsR ω vs xs.toList) (hw : wholes vs = true) (hlen : len * j.size ≤ 16777216)
    (h : fillCells (fun i => some (i * j.size, j.size)) (rep len j.zero.cells) vs = some cs) :
    ∃ cs' : Array Value, (Instr.buildSlice t len xs).run P w = .ok (.slice (some ⟨w.heap.size, 0, none⟩) len len) (w.alloc (.cells cs' e)) ∧ cs.length = cs'.size ∧ VRs ω cs cs'.toList ∧ flats cs = true ∧ cs.length = len * j.size := by
  simp only [elemAt, Env.desc] at hel
  split at hel
  · rename_i e' hd
    simp only [Option.map_eq_some_iff, Prod.mk.injEq] at hel hd
    obtain ⟨j', hj, rfl, rfl⟩ := hel
    obtain ⟨i, hi, hd⟩ := hd
    obtain ⟨ji, zi, d1, d2, _⟩ := tinfo_spec (hE.ti t i hi)
    obtain ⟨je, z, e1, e2, e3, e4, e5, e6, e7, e8, e9, e10, e11⟩ := tinfo_spec (hE.ti e' j' hj)
    obtain ⟨hz1, hz2⟩ := ofValue_ok (ω := ω) e6
    obtain ⟨h1, h2⟩ := hz1.cells hz2
    rw [hd] at d2
    have hrl : (rep len j'.zero.cells).length = len * j'.size := by rw [rep_length, e8]
    have hmr := rep_ok (ω := ω) h1 h2 len len (Nat.le_refl _)
    rw [e8] at hmr
    obtain ⟨cs', f1, f2, f3, f4, f5⟩ := fill_ok (pl' := fun i => some (i * j'.size, j'.size)) (fun _ _ h => h) hp hw (cells := madeCells z.cells (len * j'.size)) (by rw [hrl, size_madeCells]) hmr (flats_rep hz2 len) h
    refine ⟨cs', ?_, f2, f3, f4, by omega⟩
    have hsz : (sizeOf e').run P w = .ok j'.size w := by rw [run_sizeOf w e1]; simp [Program.cellsOf, e1, e3]
    have hzv : (zeroValue e').run P w = .ok z w := by simp [zeroValue, typeInfo, e1, e5]
    unfold Instr.buildSlice
    rw [Sem.run_bind, run_underlying d2]
    simp only [Result.andThen_ok]
    rw [Sem.run_bind, hsz]
    simp only [Result.andThen_ok]
    rw [if_neg (by omega)]
    by_cases hz0 : len * j'.size = 0
    · simp only [hz0, if_true, Sem.run_bind, Sem.run_pure, Result.andThen_ok]
      have hmc : (Array.range 0).map ((#[] : Array Value)[· % (#[] : Array Value).size]!) = madeCells z.cells (len * j'.size) := by rw [hz0]; simp [madeCells]
      rw [hz0] at f1
      simp only [madeCells] at f1
      simp only [Array.range_zero', Array.map_empty] at f1 ⊢
      rw [f1]
      simp [newRow]
    · simp only [hz0, if_false, Sem.run_bind, hzv, Sem.run_pure, Result.andThen_ok]
      simp only [madeCells] at f1
      rw [f1]
      simp [newRow]
  · cases hel
end
end Go.Abs
namespace Go.Abs
section
variable {P : Program} {ω : Om} {E : Env} {ok : FuncId → Nat → Code → Prop} {H : Heap} {lo : Nat → Option Nat} {fr : Fr} {a : Act} {tmps : Array Value} {w : World}

theorem toIdx_ok {v : V} {x : Value} {i : Nat} (hx : VR ω v x) (h : toIdx v = some i) : ∃ k, x = .int k (i : Int) := by
  unfold toIdx at h
  split at h
  · rename_i k n
    split at h
    · simp only [Option.some.injEq] at h
      simp only [VR] at hx
      subst hx
      exact ⟨k, by congr 1; omega⟩
    · cases h
  · cases h
theorem sliceBound_ok {v : V} {x : Value} {i y : Nat} {c : BoundsCode} (hx : VR ω v x) (h : toIdx v = some i) (hi : i ≤ y) : (Instr.sliceBound x y c).run P w = .ok i w := by
  obtain ⟨k, rfl⟩ := toIdx_ok hx h
  have : (0 : Int) ≤ (i : Int) ∧ (i : Int) ≤ (y : Int) := by omega
  simp [Instr.sliceBound, asIntOf, this]

def OptR (ω : Om) : Option V → Option Value → Prop
  | none, x => x = none
  | some v, x => ∃ y, x = some y ∧ VR ω v y
def idxOr (d : Nat) : Option V → Option Nat
  | some v => toIdx v
  | none => some d

theorem bounds_ok {b : Bool} {len cap l u : Nat} {vl vu : Option V} {xl xu : Option Value} (hl : OptR ω vl xl) (hu : OptR ω vu xu) (h1 : idxOr len vu = some u) (h2 : u ≤ len) (hc : len ≤ cap) (h3 : idxOr 0 vl = some l) (h4 : l ≤ u) :
    (Instr.sliceBounds b len cap xl xu none).run P w = .ok (l, u, cap) w := by
  cases vu with
  | none =>
    simp only [OptR] at hu
    subst hu
    simp only [idxOr, Option.some.injEq] at h1
    subst h1
    cases vl with
    | none =>
      simp only [OptR] at hl
      subst hl
      simp only [idxOr, Option.some.injEq] at h3
      subst h3
      simp [Instr.sliceBounds]
    | some v =>
      obtain ⟨y, rfl, hy⟩ := hl
      have := sliceBound_ok (P := P) (w := w) (c := .sliceB) hy h3 h4
      simp [Instr.sliceBounds, this]
  | some v =>
    obtain ⟨y, rfl, hy⟩ := hu
    have hb := fun c => sliceBound_ok (P := P) (w := w) (c := c) hy h1 (show u ≤ cap by omega)
    cases vl with
    | none =>
      simp only [OptR] at hl
      subst hl
      simp only [idxOr, Option.some.injEq] at h3
      subst h3
      simp [Instr.sliceBounds, hb]
    | some v' =>
      obtain ⟨y', rfl, hy'⟩ := hl
      have := sliceBound_ok (P := P) (w := w) (c := .sliceB) hy' h3 h4
      simp [Instr.sliceBounds, hb, this]
theorem bounds3_ok {len cap l u : Nat} {vl : Option V} {vu vm : V} {xl : Option Value} {xu xm : Value} (hl : OptR ω vl xl) (hu : VR ω vu xu) (hm : VR ω vm xm) (h1 : toIdx vu = some u) (h1' : toIdx vm = some u) (h2 : u ≤ cap) (h3 : idxOr 0 vl = some l) (h4 : l ≤ u) :
    (Instr.sliceBounds true len cap xl (some xu) (some xm)).run P w = .ok (l, u, u) w := by
  have hb := fun c => sliceBound_ok (P := P) (w := w) (c := c) hm h1' h2
  have hb' := fun c => sliceBound_ok (P := P) (w := w) (c := c) hu h1 (Nat.le_refl u)
  cases vl with
  | none =>
    simp only [OptR] at hl
    subst hl
    simp only [idxOr, Option.some.injEq] at h3
    subst h3
    simp [Instr.sliceBounds, hb, hb']
  | some v' =>
    obtain ⟨y', rfl, hy'⟩ := hl
    have := sliceBound_ok (P := P) (w := w) (c := .slice3C) hy' h3 h4
    simp [Instr.sliceBounds, hb, hb', this]

theorem sliceStr_ok {s : ByteArray} {vl vu : Option V} {xl xu : Option Value} {r : V} (hl : OptR ω vl xl) (hu : OptR ω vu xu) (h : sliceStr s vl vu = some r) :
    ∃ l u, (Instr.sliceBounds false s.size s.size xl xu none).run P w = .ok (l, u, s.size) w ∧ r = .str (s.extract l u) := by
  unfold sliceStr at h
  split at h
  · cases h
  · rename_i u hu'
    split at h
    · rename_i hle
      split at h
      · cases h
      · rename_i l hl'
        split at h
        · rename_i hlu
          simp only [Option.some.injEq] at h
          exact ⟨l, u, bounds_ok hl hu (by cases vu <;> exact hu') hle (Nat.le_refl _) (by cases vl <;> exact hl') hlu, h.symm⟩
        · cases h
    · cases h

theorem sliceSl_spec {sz : Nat} {x r : V} {vl vu : Option V} (h : sliceSl sz x vl vu = some r) :
    ∃ n l u, sliceLen x = some n ∧ idxOr n vu = some u ∧ u ≤ n ∧ idxOr 0 vl = some l ∧ l ≤ u ∧
      ((x = .nils ∧ r = .nils) ∨ (∃ row off full, x = .sro row off n full ∧ r = .sro row (off + l * sz) (u - l) (full && u == n)) ∨ (∃ id off full, x = .sbuf id off n sz full ∧ r = .sbuf id (off + l * sz) (u - l) sz (full && u == n))) := by
  unfold sliceSl at h
  split at h
  · cases h
  · rename_i n hn
    split at h
    · cases h
    · rename_i u hu'
      split at h
      · rename_i hle
        split at h
        · cases h
        · rename_i l hl'
          split at h
          · rename_i hlu
            refine ⟨n, l, u, hn, by cases vu <;> exact hu', hle, by cases vl <;> exact hl', hlu, ?_⟩
            split at h
            · simp only [Option.some.injEq] at h
              exact .inl ⟨rfl, h.symm⟩
            · rename_i row off len full
              simp only [Option.some.injEq] at h
              simp only [sliceLen, Option.some.injEq] at hn
              subst hn
              exact .inr (.inl ⟨row, off, full, rfl, h.symm⟩)
            · rename_i id off len sz' full
              split at h
              · rename_i e
                subst e
                simp only [Option.some.injEq] at h
                simp only [sliceLen, Option.some.injEq] at hn
                subst hn
                exact .inr (.inr ⟨id, off, full, rfl, h.symm⟩)
              · cases h
            · cases h
          · cases h
      · cases h

theorem subslice_ok {sz n l u m : Nat} {x r : V} {ad : Option Addr} {len cap : Nat} (hx : VR ω x (.slice ad len cap)) (hn : sliceLen x = some n) (hu : u ≤ n) (hlu : l ≤ u) (hm : u ≤ m) (hmc : m ≤ cap)
    (hr : (x = .nils ∧ r = .nils) ∨ (∃ row off full f, x = .sro row off n full ∧ r = .sro row (off + l * sz) (u - l) f ∧ (f = true → m = u)) ∨ (∃ id off full f, x = .sbuf id off n sz full ∧ r = .sbuf id (off + l * sz) (u - l) sz f ∧ (f = true → m = u))) :
    len = n ∧ VR ω r (.slice (if m = l then ad else ad.map (·.add (l * sz))) (u - l) (m - l)) := by
  rcases hr with ⟨rfl, rfl⟩ | ⟨row, off, full, f, rfl, rfl, hf⟩ | ⟨id, off, full, f, rfl, rfl, hf⟩
  · simp only [sliceLen, Option.some.injEq] at hn
    subst hn
    simp only [VR, Value.slice.injEq] at hx
    obtain ⟨rfl, rfl, rfl⟩ := hx
    have h1 : u = 0 := by omega
    have h2 : l = 0 := by omega
    have h3 : m = 0 := by omega
    subst h1; subst h2; subst h3
    refine ⟨rfl, ?_⟩
    simp [VR]
  · simp only [VR, Value.slice.injEq] at hx
    obtain ⟨a, cap', ⟨rfl, rfl, rfl⟩, h5, h6, h7, h8, h9⟩ := hx
    refine ⟨rfl, ?_⟩
    simp only [VR]
    by_cases hml : m = l
    · subst hml
      exact ⟨a, m - m, by simp, by omega, by omega, fun _ => by omega, h8, fun h => by omega⟩
    · refine ⟨a.add (l * sz), m - l, by simp [hml], by omega, by omega, fun hff => by have := hf hff; omega, h8, fun _ => ?_⟩
      obtain ⟨b, base, cs, el, fz, rfl, g2, g3⟩ := h9 (by omega)
      exact ⟨b, base, cs, el, fz, by rw [Addr.add_at, Nat.add_assoc], g2, g3⟩
  · simp only [VR, Value.slice.injEq] at hx
    obtain ⟨bl, o, cap', h1, ⟨rfl, rfl, rfl⟩, h5, h6, h7, h8, h9⟩ := hx
    refine ⟨rfl, ?_⟩
    simp only [VR]
    by_cases hml : m = l
    · subst hml
      refine ⟨bl, o, m - m, h1, by simp, by omega, by omega, fun _ => by omega, fun h => by omega, ?_⟩
      have : m * sz ≤ cap * sz := Nat.mul_le_mul_right _ hmc
      simp only [Nat.sub_self, Nat.zero_mul]
      omega
    · refine ⟨bl, o + l * sz, m - l, h1, by simp [hml, Addr.add_at], by omega, by omega, fun hff => by have := hf hff; omega, fun _ => ?_, ?_⟩
      · rw [h8 (by omega)]
        omega
      · have e : l * sz + (m - l) * sz = m * sz := by rw [← Nat.add_mul]; congr 1; omega
        have : m * sz ≤ cap * sz := Nat.mul_le_mul_right _ hmc
        omega

theorem isSlice {x : V} {n : Nat} {y : Value} (hx : VR ω x y) (hn : sliceLen x = some n) : ∃ ad cap, y = .slice ad n cap ∧ n ≤ cap := by
  cases x <;> simp only [sliceLen, reduceCtorEq, Option.some.injEq] at hn <;> simp only [VR] at hx
  · subst hx; subst hn; exact ⟨_, _, rfl, Nat.le_refl _⟩
  · obtain ⟨a, cap, rfl, h4, _⟩ := hx; subst hn; exact ⟨_, _, rfl, h4⟩
  · obtain ⟨bl, o, cap, h1, rfl, h4, _⟩ := hx; subst hn; exact ⟨_, _, rfl, h4⟩

theorem elem_spec (hE : EnvOk E P) {t : TypeId} {d : TypeDesc} (hd : E.desc t = some d) : P.underlying t = some d := by
  simp only [Env.desc, Option.map_eq_some_iff] at hd
  obtain ⟨i, hi, rfl⟩ := hd
  obtain ⟨j, z, e1, e2, _⟩ := tinfo_spec (hE.ti t i hi)
  exact e2
theorem run_size (hE : EnvOk E P) {t : TypeId} {j : TInfo} (hj : E.ti t = some j) : (sizeOf t).run P w = .ok j.size w := by
  obtain ⟨i, z, e1, e2, e3, _⟩ := tinfo_spec (hE.ti t j hj)
  rw [run_sizeOf w e1, cellsOf_ti hE hj]
end
end Go.Abs
namespace Go.Abs
section
variable {P : Program} {ω : Om} {E : Env} {ok : FuncId → Nat → Code → Prop} {H : Heap} {lo : Nat → Option Nat} {fr : Fr} {a : Act} {tmps : Array Value} {w : World}

theorem sliceV_ok (hE : EnvOk E P) (sr : SR ok ω H lo fr tmps w) {t : TypeId} {x r : V} {y : Value} {vl vu vm : Option V} {xl xu xm : Option Value} (hx : SlotR ω lo x y) (hl : OptR ω vl xl) (hu : OptR ω vu xu) (hm : OptR ω vm xm)
    (h : sliceV E H t x vl vu vm = some r) : ∃ z, (Instr.sliceAt t y xl xu xm).run P w = .ok z w ∧ VR ω r z := by
  unfold sliceV at h
  split at h
  · rename_i hd
    have hd' := elem_spec hE hd
    split at h
    · rename_i s
      have hxs : VR ω (.str s) y := hx
      simp only [VR] at hxs
      subst hxs
      simp only [OptR] at hm
      subst hm
      obtain ⟨l, u, h1, rfl⟩ := sliceStr_ok (P := P) (w := w) hl hu h
      exact ⟨.string (s.extract l u), by simp [Instr.sliceAt, Instr.slice, run_underlying hd', h1], by simp only [VR]⟩
    · cases h
  · rename_i e hd
    have hd' := elem_spec hE hd
    split at h
    · rename_i j hj
      have hsz := run_size (w := w) hE hj
      split at h
      · simp only [OptR] at hm
        subst hm
        obtain ⟨n, l, u, h1, h2, h3, h4, h5, h6⟩ := sliceSl_spec h
        have hxv : VR ω x y := hx.vr (by cases x <;> first | rfl | simp [sliceLen] at h1)
        obtain ⟨ad, cap, rfl, hcap⟩ := isSlice hxv h1
        have hb := bounds_ok (P := P) (w := w) (b := true) hl hu h2 h3 hcap h4 h5
        obtain ⟨_, hr⟩ := subslice_ok (m := cap) hxv h1 h3 h5 (by omega) (Nat.le_refl _) (by
          rcases h6 with h6 | ⟨row, off, full, rfl, rfl⟩ | ⟨id, off, full, rfl, rfl⟩
          · exact .inl h6
          · refine .inr (.inl ⟨row, off, full, _, rfl, rfl, fun hf => ?_⟩)
            simp only [Bool.and_eq_true, beq_iff_eq] at hf
            simp only [VR, Value.slice.injEq] at hxv
            obtain ⟨a, cap', ⟨_, _, rfl⟩, g5, g6, g7, g8⟩ := hxv
            rw [g7 hf.1, hf.2]
          · refine .inr (.inr ⟨id, off, full, _, rfl, rfl, fun hf => ?_⟩)
            simp only [Bool.and_eq_true, beq_iff_eq] at hf
            simp only [VR, Value.slice.injEq] at hxv
            obtain ⟨bl, o, cap', g1, ⟨_, _, rfl⟩, g5, g6, g7, g8⟩ := hxv
            rw [g7 hf.1, hf.2])
        exact ⟨_, by simp [Instr.sliceAt, Instr.slice, run_underlying hd', hb, hsz], hr⟩
      · rename_i m
        obtain ⟨ym, rfl, hym⟩ := hm
        cases vu with
        | none => simp [sliceSl3] at h
        | some hi =>
          obtain ⟨yu, rfl, hyu⟩ := hu
          simp only [sliceSl3] at h
          split at h
          · rename_i i j' hi1 hj1
            split at h
            · rename_i e1
              subst e1
              have hsl : ∃ r', sliceSl j.size x vl (some hi) = some r' := by
                split at h
                · rename_i hs; exact ⟨_, hs⟩
                · rename_i hs; exact ⟨_, hs⟩
                · exact ⟨r, h⟩
              obtain ⟨r', hr'⟩ := hsl
              obtain ⟨n, l, u, h1, h2, h3, h4, h5, h6⟩ := sliceSl_spec hr'
              simp only [idxOr, hi1, Option.some.injEq] at h2
              subst h2
              have hxv : VR ω x y := hx.vr (by cases x <;> first | rfl | simp [sliceLen] at h1)
              obtain ⟨ad, cap, rfl, hcap⟩ := isSlice hxv h1
              have hb := bounds3_ok (P := P) (w := w) (len := n) (cap := cap) hl hyu hym hi1 hj1 (by omega) h4 h5
              obtain ⟨_, hr⟩ := subslice_ok (m := i) (r := r) hxv h1 h3 h5 (Nat.le_refl _) (by omega) (by
                rcases h6 with ⟨rfl, rfl⟩ | ⟨row, off, full, rfl, rfl⟩ | ⟨id, off, full, rfl, rfl⟩
                · rw [hr'] at h
                  simp only [Option.some.injEq] at h
                  exact .inl ⟨rfl, h.symm⟩
                · rw [hr'] at h
                  simp only [Option.some.injEq] at h
                  exact .inr (.inl ⟨row, off, full, _, rfl, h.symm, fun _ => rfl⟩)
                · rw [hr'] at h
                  simp only [Option.some.injEq] at h
                  exact .inr (.inr ⟨id, off, full, _, rfl, h.symm, fun _ => rfl⟩))
              exact ⟨_, by simp [Instr.sliceAt, Instr.slice, run_underlying hd', hb, hsz], hr⟩
            · cases h
          · cases h
    · cases h
  · rename_i n e hd
    have hd' := elem_spec hE hd
    split at h
    · rename_i j hj
      have hsz := run_size (w := w) hE hj
      simp only [OptR] at hm
      subst hm
      split at h
      · rename_i hn
        have main : ∀ (b o : Nat) (x' : V), y = .pointer (some ⟨b, o, none⟩) → VR ω x' (.slice (some ⟨b, o, none⟩) n n) → sliceSl j.size x' vl vu = some r → ((∃ row off, x' = .sro row off n true) ∨ (∃ id off, x' = .sbuf id off n j.size true)) →
            ∃ z, (Instr.sliceAt t y xl xu none).run P w = .ok z w ∧ VR ω r z := by
          intro b o x' hy hxv hs hk
          subst hy
          obtain ⟨n', l, u, h1, h2, h3, h4, h5, h6⟩ := sliceSl_spec hs
          have hn' : n' = n := by rcases hk with ⟨_, _, rfl⟩ | ⟨_, _, rfl⟩ <;> simpa [sliceLen] using h1.symm
          subst hn'
          have hb := bounds_ok (P := P) (w := w) (b := false) hl hu h2 h3 (Nat.le_refl _) h4 h5
          obtain ⟨_, hr⟩ := subslice_ok (m := n') (r := r) hxv h1 h3 h5 h3 (Nat.le_refl _) (by
            rcases h6 with ⟨rfl, rfl⟩ | ⟨row, off, full, rfl, rfl⟩ | ⟨id, off, full, rfl, rfl⟩
            · rcases hk with ⟨_, _, hk⟩ | ⟨_, _, hk⟩ <;> cases hk
            · exact .inr (.inl ⟨row, off, full, _, rfl, rfl, fun hf => by simp only [Bool.and_eq_true, beq_iff_eq] at hf; exact hf.2.symm⟩)
            · exact .inr (.inr ⟨id, off, full, _, rfl, rfl, fun hf => by simp only [Bool.and_eq_true, beq_iff_eq] at hf; exact hf.2.symm⟩))
          refine ⟨_, ?_, hr⟩
          simp only [Instr.sliceAt, Sem.run_bind, run_underlying hd', Result.andThen_ok, Instr.sureAddr, Sem.run_pure, hb, hsz]
          by_cases hml : n' = l
          · simp [hml]
          · simp [hml]
        split at h
        · rename_i id off
          split at h
          · rename_i hrow
            have hxs : VR ω (.cell id off) y := hx
            simp only [VR] at hxs
            obtain ⟨bl, h1, rfl⟩ := hxs
            refine main _ _ _ rfl ?_ h (.inr ⟨id, off, rfl⟩)
            unfold rowAtLeast at hrow
            split at hrow
            · rename_i cs hg
              obtain ⟨bl', f1, f2⟩ := sr.wr.obj id _ hg rfl
              rw [h1] at f1; cases f1
              obtain ⟨cs', el, f3, f4, f5, _⟩ := f2
              simp only [decide_eq_true_eq] at hrow
              simp only [VR]
              exact ⟨bl, _, _, h1, rfl, Nat.le_refl _, by simp only [maxLen]; omega, fun _ => rfl, fun _ => rfl, by omega⟩
            · cases hrow
          · cases h
        · rename_i row off
          have hxs : VR ω (.rop row off) y := hx
          simp only [VR] at hxs
          obtain ⟨b, base, cs, el, fz, h1, h2, h3, rfl⟩ := hxs
          refine main _ _ _ rfl ?_ h (.inl ⟨row, off, rfl⟩)
          simp only [VR]
          exact ⟨_, _, rfl, Nat.le_refl _, by simp only [maxLen]; omega, fun _ => rfl, h3, fun _ => ⟨b, base, cs, el, fz, rfl, h1, h2⟩⟩
        · cases h
      · cases h
    · cases h
  · cases h

theorem part_ok (hE : EnvOk E P) {t : TypeId} {j : TInfo} {cs ps : List V} {xs : Array Value} {off : Nat} {v : V} (hj : E.ti t = some j) (hl : cs.length = xs.size) (hv : VRs ω cs xs.toList) (h1 : sub cs off (if j.isAgg then j.size else 1) = some ps) (h2 : asType j ps = some v) :
    ∃ z, (part t xs off).run P w = .ok z w ∧ VR ω v z := by
  obtain ⟨i, z, e1, e2, e3, e4, e5, e6, e7, e8, e9, e10, _⟩ := tinfo_spec (hE.ti t j hj)
  obtain ⟨s1, s2⟩ := sub_len h1
  have hn : if aggD j.desc then P.cellsOf t = (if j.isAgg then j.size else 1) else (if j.isAgg then j.size else 1) = 1 := by
    rw [cellsOf_ti hE hj, e9]
    cases aggD j.desc <;> simp
  obtain ⟨x, p1, p2⟩ := run_part w e2 hl hv s2 hn
  refine ⟨x, p1, ?_⟩
  have hps : ps = (cs.drop off).take (if j.isAgg then j.size else 1) := by
    simp only [sub, s2, if_true, Option.some.injEq] at h1
    exact h1.symm
  rw [← hps] at p2
  unfold asType at h2
  rw [e9] at h2
  unfold Fits at p2
  cases hd : aggD j.desc
  · rw [hd] at h2 p2
    simp only [Bool.false_eq_true, if_false] at h2 p2
    obtain ⟨v', rfl, hv'⟩ := p2
    simp only [oneOf, Option.some.injEq] at h2
    subst h2
    exact hv'
  · rw [hd] at h2 p2
    simp only [if_true] at h2 p2
    obtain ⟨xs', rfl, hl', hv'⟩ := p2
    simp only [Option.some.injEq] at h2
    subst h2
    simp only [VR]
    exact ⟨xs', hl', hv', rfl⟩

theorem indexV_ok (hE : EnvOk E P) {t : TypeId} {x i v : V} {xx xi : Value} (hx : VR ω x xx) (hi : VR ω i xi) (h : indexV E t x i = some v) : ∃ z, (Instr.index t xx xi).run P w = .ok z w ∧ VR ω v z := by
  unfold indexV at h
  split at h
  · rename_i len e cs k n hd
    have hd' := elem_spec hE hd
    simp only [VR] at hx hi
    obtain ⟨xs, hl, hv, rfl⟩ := hx
    subst hi
    split at h
    · rename_i hb
      split at h
      · rename_i j hj
        simp only [Option.bind_eq_some_iff] at h
        obtain ⟨ps, h1, h2⟩ := h
        obtain ⟨z, p1, p2⟩ := part_ok (w := w) hE hj hl hv h1 h2
        refine ⟨z, ?_, p2⟩
        simp [Instr.index, asIntOf, run_underlying hd', hb, run_size (w := w) hE hj, p1]
      · cases h
    · cases h
  · rename_i s k n hd
    have hd' := elem_spec hE hd
    simp only [VR] at hx hi
    subst hx; subst hi
    split at h
    · rename_i hb
      simp only [Option.map_eq_some_iff] at h
      obtain ⟨b, hb', rfl⟩ := h
      exact ⟨.int .u8 b.toNat, by simp [Instr.index, asIntOf, run_underlying hd', hb, hb'], by simp only [VR]⟩
    · cases h
  · cases h

theorem addOff_ok {p v : V} {n b o : Nat} (hp : SlotR ω lo p (.pointer (some ⟨b, o, none⟩))) (h : addOff p n = some v) : SlotR ω lo v (.pointer (some ((⟨b, o, none⟩ : Addr).add n))) := by
  rw [Addr.add_at]
  unfold addOff at h
  split at h
  · simp only [Option.some.injEq] at h
    subst h
    obtain ⟨b', h1, h2⟩ := hp
    cases h2
    exact ⟨b, h1, rfl⟩
  · simp only [Option.some.injEq] at h
    subst h
    simp only [SlotR, VR, Value.pointer.injEq, Option.some.injEq, Addr.mk.injEq, and_true] at hp ⊢
    obtain ⟨bl, h1, h2, h3⟩ := hp
    exact ⟨bl, h1, h2, by omega⟩
  · simp only [Option.some.injEq] at h
    subst h
    simp only [SlotR, VR, Value.pointer.injEq, Option.some.injEq, Addr.mk.injEq, and_true] at hp ⊢
    obtain ⟨b', base, cs, el, fz, h1, h2, h3, h4, h5⟩ := hp
    exact ⟨b', base, cs, el, fz, h1, h2, h3, h4, by omega⟩
  · cases h
theorem addOff_ptr {p v : V} {n : Nat} {x : Value} (hp : SlotR ω lo p x) (h : addOff p n = some v) : ∃ b o, x = .pointer (some ⟨b, o, none⟩) := by
  unfold addOff at h
  split at h
  · obtain ⟨b, _, rfl⟩ := hp; exact ⟨_, _, rfl⟩
  · simp only [SlotR, VR] at hp; obtain ⟨bl, _, rfl⟩ := hp; exact ⟨_, _, rfl⟩
  · simp only [SlotR, VR] at hp; obtain ⟨b, base, cs, el, fz, _, _, _, rfl⟩ := hp; exact ⟨_, _, rfl⟩
  · cases h

theorem fieldAddr_ok (hE : EnvOk E P) {t : TypeId} {f : Nat} {fd : Field} {j : TInfo} {p v : V} {x : Value} (hf : fieldAt E t f = some fd) (hj : E.ti fd.type = some j) (hs : j.size ≠ 0) (hp : SlotR ω lo p x) (h : addOff p fd.offset = some v) :
    ∃ z, (Instr.fieldAt t x f).run P w = .ok z w ∧ SlotR ω lo v z := by
  obtain ⟨b, o, rfl⟩ := addOff_ptr hp h
  unfold fieldAt at hf
  split at hf
  · rename_i fs hd
    have hd' := elem_spec hE hd
    refine ⟨_, ?_, addOff_ok hp h⟩
    simp [Instr.fieldAt, run_underlying hd', hf, Instr.sureAddr, fieldPlace, run_size (w := w) hE hj, hs]
  · cases hf

theorem indexAddr_ok (hE : EnvOk E P) {t : TypeId} {x i v : V} {xx xi : Value} (hx : SlotR ω lo x xx) (hi : VR ω i xi) (h : indexAddrV E t x i = some v) : ∃ z, (Instr.indexAt t xx xi).run P w = .ok z w ∧ SlotR ω lo v z := by
  unfold indexAddrV at h
  split at h
  · rename_i len e k n hd
    have hd' := elem_spec hE hd
    simp only [VR] at hi
    subst hi
    split at h
    · rename_i hb
      split at h
      · rename_i j hj
        obtain ⟨b, o, rfl⟩ := addOff_ptr hx h
        exact ⟨_, by simp [Instr.indexAt, asIntOf, run_underlying hd', Instr.sureAddr, hb, run_size (w := w) hE hj], addOff_ok hx h⟩
      · cases h
    · cases h
  · rename_i e k n hd
    have hd' := elem_spec hE hd
    simp only [VR] at hi
    subst hi
    split at h
    · rename_i j row off len full hj
      split at h
      · rename_i hb
        simp only [Option.some.injEq] at h
        subst h
        simp only [SlotR, VR] at hx
        obtain ⟨a, cap, rfl, h4, h5, h6, h3, h7⟩ := hx
        obtain ⟨b, base, cs, el, fz, rfl, h1, h2⟩ := h7 (by omega)
        refine ⟨.pointer (some ((⟨b, base + off, none⟩ : Addr).add (n.toNat * j.size))), by simp [Instr.indexAt, asIntOf, run_underlying hd', hb, run_size (w := w) hE hj], ?_⟩
        rw [Addr.add_at]
        simp only [SlotR, VR]
        exact ⟨b, base, cs, el, fz, h1, h2, h3, by rw [Nat.add_assoc]⟩
      · cases h
    · rename_i j id off len sz full hj
      split at h
      · rename_i hb
        obtain ⟨hsz, hb⟩ := hb
        simp only [Option.some.injEq] at h
        subst h
        simp only [SlotR, VR] at hx
        obtain ⟨bl, o, cap, h1, rfl, h4, h5, h6, h7, h8⟩ := hx
        have ho := h7 (by omega)
        subst ho
        refine ⟨.pointer (some ((⟨bl.b, bl.base + off, none⟩ : Addr).add (n.toNat * j.size))), by simp [Instr.indexAt, asIntOf, run_underlying hd', hb, run_size (w := w) hE hj], ?_⟩
        rw [Addr.add_at]
        simp only [SlotR, VR]
        exact ⟨bl, h1, by rw [Nat.add_assoc]⟩
      · cases h
    · cases h
  · cases h

theorem field_ok (hE : EnvOk E P) {t : TypeId} {f : Nat} {fd : Field} {j : TInfo} {cs ps : List V} {x : Value} {v : V} (hf : fieldAt E t f = some fd) (hj : E.ti fd.type = some j) (hx : VR ω (.agg cs) x) (h1 : sub cs fd.offset (if j.isAgg then j.size else 1) = some ps) (h2 : asType j ps = some v) :
    ∃ z, (Instr.field t x f).run P w = .ok z w ∧ VR ω v z := by
  simp only [VR] at hx
  obtain ⟨xs, hl, hv, rfl⟩ := hx
  unfold fieldAt at hf
  split at hf
  · rename_i fs hd
    have hd' := elem_spec hE hd
    obtain ⟨z, p1, p2⟩ := part_ok (w := w) hE hj hl hv h1 h2
    exact ⟨z, by simp [Instr.field, run_underlying hd', hf, asAgg, p1], p2⟩
  · cases hf

theorem conv_ok (hE : EnvOk E P) {s d : TypeId} {x v : V} {y : Value} (hx : VR ω x y) (h : convV E s d x = some v) : ∃ z, (convert s d y).run P w = .ok z w ∧ VR ω v z := by
  unfold convV at h
  split at h
  · rename_i k1 k k2 n h1 h2
    have d1 := elem_spec hE h1
    have d2 := elem_spec hE h2
    simp only [VR] at hx; subst hx
    simp only [Option.some.injEq] at h; subst h
    exact ⟨.int k (k.wrap n), by simp [convert, run_underlying d1, run_underlying d2, Conv.intToInt], by simp only [VR]⟩
  · rename_i k1 k2 n h1 h2
    have d1 := elem_spec hE h1
    have d2 := elem_spec hE h2
    simp only [VR] at hx; subst hx
    simp only [Option.some.injEq] at h; subst h
    exact ⟨.string (Utf8.encode n), by simp [convert, run_underlying d1, run_underlying d2, Conv.intToString], by simp only [VR]⟩
  · rename_i st h1 h2
    have d1 := elem_spec hE h1
    have d2 := elem_spec hE h2
    simp only [VR] at hx; subst hx
    simp only [Option.some.injEq] at h; subst h
    exact ⟨.string st, by simp [convert, run_underlying d1, run_underlying d2], by simp only [VR]⟩
  · cases h

theorem ERels.len : ∀ {es : List (V × V × Nat)} {l : List MapEntry}, ERels ω es l → es.length = l.length
  | [], _, h => by simp only [ERels] at h; subst h; rfl
  | e :: es, l, h => by
    obtain ⟨e', l', rfl, _, h⟩ := h
    simp [ERels.len h]

theorem len_ok (hE : EnvOk E P) (sr : SR ok ω H lo fr tmps w) {t ty : TypeId} {x v : V} {y : Value} (hx : VR ω x y) (h : lenV E H t x = some v) : ∃ z, (Builtin.len_ #[t] ty #[y]).run P w = .ok z w ∧ VR ω v z := by
  unfold lenV at h
  split at h
  · rename_i s hd
    have hd' := elem_spec hE hd
    simp only [VR] at hx; subst hx
    simp only [Option.some.injEq] at h; subst h
    exact ⟨.int .i64 s.size, by simp [Builtin.len_, run_underlying hd', goInt], by simp only [VR]⟩
  · rename_i n e hd
    have hd' := elem_spec hE hd
    simp only [Option.some.injEq] at h; subst h
    exact ⟨.int .i64 n, by simp [Builtin.len_, run_underlying hd', goInt], by simp only [VR]⟩
  · rename_i e hd
    have hd' := elem_spec hE hd
    simp only [Option.map_eq_some_iff] at h
    obtain ⟨n, hn, rfl⟩ := h
    obtain ⟨ad, cap, rfl, _⟩ := isSlice hx hn
    exact ⟨.int .i64 n, by simp [Builtin.len_, run_underlying hd', goInt], by simp only [VR]⟩
  · rename_i k e hd
    have hd' := elem_spec hE hd
    simp only [VR] at hx; subst hx
    simp only [Option.some.injEq] at h; subst h
    exact ⟨.int .i64 0, by simp [Builtin.len_, run_underlying hd', goInt], by simp only [VR]⟩
  · rename_i k e id hd
    have hd' := elem_spec hE hd
    split at h
    · rename_i es c hg
      simp only [Option.some.injEq] at h; subst h
      obtain ⟨bl, f1, es', f2, f3⟩ := sr.wr.obj id _ hg rfl
      simp only [VR] at hx
      obtain ⟨bl', g1, rfl⟩ := hx
      rw [f1] at g1; cases g1
      have hl := f3.len
      refine ⟨.int .i64 es'.size, ?_, by simp only [VR]; rw [hl]; simp⟩
      simp [Builtin.len_, run_underlying hd', goInt, getObj, Sem.run, f2]
    · cases h
  · cases h
end
end Go.Abs
namespace Go.Abs
section
variable {P : Program} {ω : Om} {E : Env} {ok : FuncId → Nat → Code → Prop} {H : Heap} {lo : Nat → Option Nat} {fr : Fr} {a : Act} {tmps : Array Value} {w : World}

theorem elemAt_spec {t e : TypeId} {j : TInfo} (h : elemAt E t = some (e, j)) : E.desc t = some (.slice e) ∧ E.ti e = some j := by
  unfold elemAt at h
  split at h
  · rename_i e' hd
    simp only [Option.map_eq_some_iff, Prod.mk.injEq] at h
    obtain ⟨j', h1, rfl, rfl⟩ := h
    exact ⟨hd, h1⟩
  · cases h

theorem newRow_more (sr : SR ok ω H lo fr tmps w) {cs : List V} {cs' : Array Value} (el : TypeId) (hl : cs.length ≤ cs'.size) (hv : VRs ω cs cs'.toList) (hf : flats cs = true) :
    ∃ ω', Post ok ω H lo fr w ω' (H.alloc (.row cs)) lo fr tmps (w.alloc (.cells cs' el)) ∧ ω'.φ H.next = some ⟨w.heap.size, 0, cs'.size⟩ := by
  refine ⟨_, Post.new sr (.row cs) (.cells cs' el) cs'.size ?_, by simp⟩
  refine ⟨cs', el, Go.heap_alloc_new w _, rfl, by simp; omega, ?_, hf⟩
  simp only [List.drop_zero]
  exact VRs.mono (sr.wr.le_put _) _ _ hv

theorem makeSlice_ok (hE : EnvOk E P) (sr : SR ok ω H lo fr tmps w) {t e : TypeId} {j : TInfo} {n m : Int} (hel : elemAt E t = some (e, j)) (h0 : 0 ≤ n) (hnm : n ≤ m) (hb : m * j.bytes ≤ 140737488355328) (h63 : m ≤ 9223372036854775807) :
    ∃ ω' w' x, (Instr.makeSlice t (.int .i64 n) (.int .i64 m)).run P w = .ok x w' ∧ VR ω' (.sbuf H.next 0 n.toNat j.size (n == m)) x ∧ Post ok ω H lo fr w ω' (H.alloc (.row (rep n.toNat j.zero.cells))) lo fr tmps w' := by
  obtain ⟨hd, hj⟩ := elemAt_spec hel
  have hd' := elem_spec hE hd
  obtain ⟨i, z, e1, e2, e3, e4, e5, e6, e7, e8, e9, e10, _⟩ := tinfo_spec (hE.ti e j hj)
  obtain ⟨hz1, hz2⟩ := ofValue_ok (ω := ω) e6
  obtain ⟨h1, h2⟩ := hz1.cells hz2
  have hmr := rep_ok (ω := ω) h1 h2 n.toNat m.toNat (by omega)
  rw [e8] at hmr
  have hle : n.toNat * j.size ≤ m.toNat * j.size := Nat.mul_le_mul_right _ (by omega)
  obtain ⟨ω', p1, p2⟩ := newRow_more sr (cs' := madeCells z.cells (m.toNat * j.size)) e (by rw [rep_length, e8, size_madeCells]; exact hle) hmr (flats_rep hz2 _)
  have hrun := run_make (P := P) w t e i z hd' e1 e5 .i64 .i64 n m h0 hnm (by rw [e4, Int.mul_comm]; omega) h63
  rw [e3] at hrun
  refine ⟨ω', _, _, hrun, ?_, p1⟩
  simp only [VR]
  refine ⟨_, _, _, p2, rfl, by omega, by simp only [maxLen]; omega, fun hf => ?_, fun _ => rfl, ?_⟩
  · have : n = m := by simpa using hf
    rw [this]
  · simp only [size_madeCells]
    omega

theorem run_append_none {t u ty e e2 : TypeId} {i : TypeInfo} (ht : P.underlying t = some (.slice e)) (hu : P.underlying u = some (.slice e2)) (hi : P.info? e = some i) (base xb : Option Addr) (sLen sCap c : Nat) (hle : sLen ≤ sCap) :
    (Builtin.append_ #[t, u] ty #[.slice base sLen sCap, .slice xb 0 c]).run P w = .ok (.slice base sLen sCap) w := by
  cases base <;> cases xb <;> simp [Builtin.append_, run_underlying ht, run_underlying hu, sizeOf, typeInfo, hi, Builtin.lenOf, hle, Builtin.firstCells, loadCells, loadCellsFrom, storeCells]
theorem run_append_in {t u ty e e2 : TypeId} {i : TypeInfo} (ht : P.underlying t = some (.slice e)) (hu : P.underlying u = some (.slice e2)) (hi : P.info? e = some i) (a : Addr) (sLen sCap n c : Nat) (xb : Addr) (news : List Value) (hl : news.length = n * i.size) (hnews : ∀ j v, news[j]? = some v → w.cell? (xb.add j) = some v) (hroom : sLen + n ≤ sCap)
    {w' : World} (hst : (storeCells (a.add (sLen * i.size)) news).run P w = .ok () w') :
    (Builtin.append_ #[t, u] ty #[.slice (some a) sLen sCap, .slice (some xb) n c]).run P w = .ok (.slice (some a) (sLen + n) sCap) w' := by
  have hf := run_firstCells_some (P := P) w i.size n xb n c news hl hnews
  simp [Builtin.append_, run_underlying ht, run_underlying hu, sizeOf, typeInfo, hi, Builtin.lenOf, hroom, hf, hst]
theorem run_append_more {t u ty e e2 : TypeId} {i : TypeInfo} {z : Value} (ht : P.underlying t = some (.slice e)) (hu : P.underlying u = some (.slice e2)) (hi : P.info? e = some i) (hz : i.zero = some z)
    (base : Option Addr) (sLen sCap : Nat) (olds : List Value) (hlo : olds.length = sLen * i.size) (holds : ∀ b, base = some b → ∀ j v, olds[j]? = some v → w.cell? (b.add j) = some v) (hnil : base = none → olds = [])
    (xb : Addr) (n c : Nat) (news : List Value) (hl : news.length = n * i.size) (hnews : ∀ j v, news[j]? = some v → w.cell? (xb.add j) = some v)
    (hg : sCap < sLen + n) (h63 : ((sLen + n : Nat) : Int) ≤ 9223372036854775807) (hfit : Builtin.nextslicecap (sLen + n) sCap * i.bytes ≤ 281474976710656) :
    (Builtin.append_ #[t, u] ty #[.slice base sLen sCap, .slice (some xb) n c]).run P w =
      .ok (.slice (some ⟨w.heap.size, 0, none⟩) (sLen + n) (grownCap w (sLen + n) sCap e))
        (w.drew.alloc (.cells (olds.toArray ++ news.toArray ++ Builtin.zeroCells z.cells (grownCap w (sLen + n) sCap e - (sLen + n))) e)) := by
  have hn : ¬ (sLen + n ≤ sCap) := by omega
  have h63' : ¬ (9223372036854775807 < ((sLen : Int) + (n : Int))) := by omega
  have h48' : ¬ (281474976710656 < Builtin.nextslicecap (sLen + n) sCap * i.bytes) := by omega
  have hf := run_firstCells_some (P := P) w.drew i.size n xb n c news hl (by simpa using hnews)
  have hfo : (Builtin.firstCells i.size sLen (.slice base sLen sCap)).run P w.drew = .ok olds.toArray w.drew := by
    cases base with
    | none => rw [hnil rfl]; exact run_firstCells_none (P := P) w.drew i.size sLen sLen sCap
    | some b => exact run_firstCells_some (P := P) w.drew i.size sLen b sLen sCap olds hlo (by simpa using holds b rfl)
  simp [Builtin.append_, run_underlying ht, run_underlying hu, sizeOf, typeInfo, zeroValue, hi, hz, Builtin.lenOf, hn, h63', h48', Question.forced, hf, hfo, newRow, grownCap]
  congr 2
  apply Array.ext'
  simp [List.append_assoc]

theorem sliceCells_ok (sr : SR ok ω H lo fr tmps w) {s : V} {n sz : Nat} {ad : Option Addr} {cap : Nat} {cs : List V} (hs : VR ω s (.slice ad n cap)) (hn : sliceLen s = some n) (h : sliceCells H sz s = some cs) :
    ∃ xs : List Value, xs.length = n * sz ∧ cs.length = n * sz ∧ VRs ω cs xs ∧ flats cs = true ∧ (ad = none → xs = []) ∧ ∀ b, ad = some b → ∀ j u, xs[j]? = some u → w.cell? (b.add j) = some u := by
  cases s <;> simp only [sliceLen, reduceCtorEq, Option.some.injEq] at hn
  · subst hn
    simp only [sliceCells, Option.some.injEq] at h
    subst h
    simp only [VR, Value.slice.injEq] at hs
    obtain ⟨rfl, _, _⟩ := hs
    exact ⟨[], by simp, by simp, by simp [VRs], rfl, fun _ => rfl, fun b hb => by cases hb⟩
  · rename_i row off len full
    subst hn
    simp only [sliceCells] at h
    simp only [VR, Value.slice.injEq] at hs
    obtain ⟨a, cap', ⟨rfl, _, rfl⟩, h5, h6, h7, h3, h8⟩ := hs
    by_cases hc : cap = 0
    · have h0 : len = 0 := by omega
      subst h0
      obtain ⟨s1, s2⟩ := sub_len h
      rw [Nat.zero_mul] at s1
      have := List.eq_nil_of_length_eq_zero s1
      subst this
      exact ⟨[], by simp, by simp, by simp [VRs], rfl, (fun hn => by cases hn), fun b' hb j u hu => by simp at hu⟩
    · obtain ⟨b, base, cs', el, fz, rfl, h1, h2⟩ := h8 hc
      obtain ⟨xs, f1, f2, f3⟩ := row_read (sr.wr.ro b _ h1) h2 h
      refine ⟨xs, f1, (sub_len h).1, f2, flats_sub h3 h, (fun hn => by cases hn), fun b' hb j u hu => ?_⟩
      cases hb
      exact f3 j u hu
  · rename_i id off len sz' full
    subst hn
    simp only [sliceCells] at h
    split at h
    · rename_i e
      subst e
      split at h
      · rename_i row hg
        obtain ⟨bl, g1, cs', el, g2, g3, g4, g5, g6⟩ := sr.wr.obj id _ hg rfl
        simp only [VR, Value.slice.injEq] at hs
        obtain ⟨bl', o, cap', h1, ⟨rfl, _, rfl⟩, h5, h6, h7, h8, h9⟩ := hs
        rw [g1] at h1; cases h1
        obtain ⟨xs, f1, f2, f3⟩ := row_read g2 g5 h
        refine ⟨xs, f1, (sub_len h).1, f2, flats_sub g6 h, (fun hn => by cases hn), fun b' hb j u hu => ?_⟩
        cases hb
        by_cases hc : cap = 0
        · have h0 : len = 0 := by omega
          rw [h0, Nat.zero_mul] at f1
          rw [List.eq_nil_of_length_eq_zero f1] at hu
          cases hu
        · rw [h8 hc]
          exact f3 j u hu
      · cases h
    · cases h

theorem Post.kill (sr : SR ok ω H lo fr tmps w) {id : Nat} {old : List V} (hg : H.get id = some (.row old)) : Post ok ω H lo fr w ω (H.set id .dead) lo fr tmps w := by
  obtain ⟨bl, h1, _⟩ := sr.wr.obj id _ hg rfl
  exact Post.set sr hg rfl h1 (fun _ _ => rfl) rfl rfl rfl rfl fun h => by cases h
theorem Post.adopt (sr : SR ok ω H lo fr tmps w) {id : Nat} {old : List V} {bl bl0 : Blk} {w' : World} {o : AObj} (hg : H.get id = some (.row old)) (hφ : ω.φ id = some bl0) (hb : bl.b = bl0.b) (hs : ∀ b, b ≠ bl.b → w'.heap[b]? = w.heap[b]?)
    (hsz : w'.heap.size = w.heap.size) (ht : w'.tape = w.tape) (hos : w'.os = w.os) (hout : w'.output = w.output) (ho : ORel ok ⟨fun i => if i = H.next then some bl else ω.φ i, ω.ro⟩ bl w' o) :
    Post ok ω H lo fr w ⟨fun i => if i = H.next then some bl else ω.φ i, ω.ro⟩ ((H.set id .dead).alloc o) lo fr tmps w' := by
  have hk := (Post.kill sr hg).sr
  have hown : owns ω H bl.b := ⟨id, _, bl0, hg, rfl, hφ, hb.symm⟩
  have hlt := Heap.lt_of_get hg
  have hno : ¬ owns ω (H.set id .dead) bl.b := by
    rintro ⟨i, x, bi, h1, h2, h3, h4⟩
    rw [Heap.get_set _ _ _ _ hlt] at h1
    split at h1
    · cases h1; cases h2
    · rename_i hne
      exact hne (sr.wr.inj i id x _ bi bl0 h1 h2 hg rfl h3 hφ (h4.trans hb))
  have hwr : WR ok ⟨fun i => if i = H.next then some bl else ω.φ i, ω.ro⟩ ((H.set id .dead).alloc o) w' := hk.wr.put hno (sr.wr.owns_ro hown) (fun b hb' _ => hs b hb') ho
  refine Post.heap sr ⟨sr.wr.le_put bl, by simp, by omega, fun b _ hn _ => hs b (fun e => hn (e ▸ hown)), fun b hb' hbl => ?_, fun _ _ h _ => h, ht, hos, hout⟩ hwr
  obtain ⟨i, x, bi, h1, h2, h3, h4⟩ := hb'
  rw [Heap.get_alloc] at h1
  simp only at h3
  split at h1
  · rename_i e
    simp only [Heap.next_set] at e
    rw [if_pos e] at h3
    cases h3
    rw [← h4]
    exact hown
  · rename_i e
    simp only [Heap.next_set] at e
    rw [if_neg e] at h3
    rw [Heap.get_set _ _ _ _ hlt] at h1
    split at h1
    · cases h1; cases h2
    · exact ⟨i, x, bi, h1, h2, h3, h4⟩

theorem size_zeroCells' (z : Array Value) (n : Nat) : (Builtin.zeroCells z n).size = n * z.size := by simp [Builtin.zeroCells]

theorem append_ok (hE : EnvOk E P) (sr : SR ok ω H lo fr tmps w) {t u ty e e2 : TypeId} {j j2 : TInfo} {s x v : V} {ys yx : Value} {H' : Heap} (hel : elemAt E t = some (e, j)) (hel2 : elemAt E u = some (e2, j2)) (hs : VR ω s ys) (hx : VR ω x yx)
    (h : appendV H j.size j.bytes s x = some (v, H')) : ∃ ω' w' z, (Builtin.append_ #[t, u] ty #[ys, yx]).run P w = .ok z w' ∧ VR ω' v z ∧ Post ok ω H lo fr w ω' H' lo fr tmps w' := by
  obtain ⟨hd, hj⟩ := elemAt_spec hel
  have hd' := elem_spec hE hd
  have hd2' := elem_spec hE (elemAt_spec hel2).1
  obtain ⟨i, z, e1, e2', e3, e4, e5, e6, e7, e8, e9, e10, _⟩ := tinfo_spec (hE.ti e j hj)
  obtain ⟨hz1, hz2⟩ := ofValue_ok (ω := ω) e6
  obtain ⟨hzl, _⟩ := hz1.cells hz2
  have hzs : z.cells.size = j.size := by omega
  unfold appendV at h
  split at h
  · rename_i n m hn hm
    have hm : sliceLen x = some m := by
      cases x <;> simp at hm <;> exact hm
    obtain ⟨ad, cap, rfl, hcap⟩ := isSlice hs hn
    obtain ⟨xd, xcap, rfl, hxcap⟩ := isSlice hx hm
    split at h
    · rename_i hm0
      subst hm0
      simp only [Option.some.injEq, Prod.mk.injEq] at h
      obtain ⟨rfl, rfl⟩ := h
      exact ⟨ω, w, _, run_append_none hd' hd2' e1 ad xd n cap xcap hcap, hs, .refl sr⟩
    · rename_i hm0
      split at h
      · rename_i hbytes
        split at h
        · rename_i ca cb hca hcb
          obtain ⟨olds, o1, o2, o3, o4, o5, o6⟩ := sliceCells_ok sr hs hn hca
          obtain ⟨news, n1, n2, n3, n4, n5, n6⟩ := sliceCells_ok sr hx hm hcb
          have hxd : ∃ xb, xd = some xb := by
            cases xd with
            | some xb => exact ⟨xb, rfl⟩
            | none =>
              exfalso
              cases x <;> simp only [sliceLen, reduceCtorEq, Option.some.injEq] at hm <;> simp only [VR, Value.slice.injEq] at hx
              · exact hm0 hm.symm
              · obtain ⟨_, _, ⟨hf, _⟩, _⟩ := hx; cases hf
              · obtain ⟨_, _, _, _, ⟨hf, _⟩, _⟩ := hx; cases hf
          obtain ⟨xb, rfl⟩ := hxd
          have hl1 : olds.length = n * i.size := by rw [e3]; exact o1
          have hl2 : news.length = m * i.size := by rw [e3]; exact n1
          have h63 : ((n + m : Nat) : Int) ≤ 9223372036854775807 := by omega
          -- the slice that is laid anew
          have grown : cap < n + m → ∀ {H1 : Heap}, Post ok ω H lo fr w ω H1 lo fr tmps w → H1.next = H.next → flats (ca ++ cb) = true →
              ∃ ω' w' z', (Builtin.append_ #[t, u] ty #[.slice ad n cap, .slice (some xb) m xcap]).run P w = .ok z' w' ∧ VR ω' (.sbuf H.next 0 (n + m) j.size false) z' ∧ Post ok ω H lo fr w ω' (H1.alloc (.row (ca ++ cb))) lo fr tmps w' := by
            intro hg H1 hp1 hn1 hff
            have hrun := run_append_more (ty := ty) hd' hd2' e1 e5 ad n cap olds hl1 (fun b hb => o6 b hb) o5 xb m xcap news hl2 (n6 xb rfl) hg h63 (by rw [e4]; exact growslice_fits hg hbytes.1)
            have hge : n + m ≤ grownCap w (n + m) cap e := grownCap_ge w (n + m) cap e
            have hle : grownCap w (n + m) cap e ≤ maxLen := grownCap_le_maxLen w (n + m) cap e (by simp only [maxLen]; omega)
            have p2 := hp1.trans (Post.more hp1.sr (w' := w.drew) (Nat.le_refl _) (fun _ _ => rfl) rfl rfl rfl)
            have hsz : (olds.toArray ++ news.toArray ++ Builtin.zeroCells z.cells (grownCap w (n + m) cap e - (n + m))).size = grownCap w (n + m) cap e * j.size := by
              simp only [Array.size_append, List.size_toArray, size_zeroCells', hzs, o1, n1, ← Nat.add_mul]
              congr 1
              omega
            obtain ⟨ω', p3, p4⟩ := newRow_more p2.sr (cs := ca ++ cb) (cs' := olds.toArray ++ news.toArray ++ Builtin.zeroCells z.cells (grownCap w (n + m) cap e - (n + m))) e (by
              rw [hsz]
              simp only [List.length_append, o2, n2, ← Nat.add_mul]
              exact Nat.mul_le_mul_right _ hge) (by
              simp only [Array.toList_append]
              exact (VRs.append (by omega) o3 n3).more _) hff
            refine ⟨ω', _, _, hrun, ?_, p2.trans p3⟩
            rw [hn1] at p4
            simp only [VR]
            exact ⟨_, _, _, p4, rfl, hge, hle, (fun hf => by cases hf), fun _ => rfl, by simp only [Nat.zero_add]; rw [hsz]; exact Nat.le_refl _⟩
          have hff : flats (ca ++ cb) = true := by simp only [flats, List.all_append, Bool.and_eq_true]; exact ⟨o4, n4⟩
          split at h
          · simp only [Option.some.injEq, Prod.mk.injEq] at h
            obtain ⟨rfl, rfl⟩ := h
            simp only [sliceLen, Option.some.injEq] at hn
            subst hn
            simp only [sliceCells, Option.some.injEq] at hca
            subst hca
            simp only [VR, Value.slice.injEq] at hs
            have := grown (by omega) (.refl sr) rfl hff
            simpa using this
          · simp only [Option.some.injEq, Prod.mk.injEq] at h
            obtain ⟨rfl, rfl⟩ := h
            simp only [VR, Value.slice.injEq] at hs
            obtain ⟨a, cap', ⟨_, _, rfl⟩, h5, h6, h7, h8⟩ := hs
            have := h7 trivial
            exact grown (by omega) (.refl sr) rfl hff
          · simp only [Option.some.injEq, Prod.mk.injEq] at h
            obtain ⟨rfl, rfl⟩ := h
            simp only [VR, Value.slice.injEq] at hs
            obtain ⟨bl, o, cap', h1, ⟨_, _, rfl⟩, h5, h6, h7, h8⟩ := hs
            have := h7 trivial
            exact grown (by omega) (.refl sr) rfl hff
          · rename_i id off len sz'
            simp only [Option.some.injEq, Prod.mk.injEq] at h
            obtain ⟨rfl, rfl⟩ := h
            simp only [sliceLen, Option.some.injEq] at hn
            subst hn
            have hrow : ∃ row, H.get id = some (.row row) ∧ sz' = j.size := by
              simp only [sliceCells] at hca
              split at hca
              · rename_i hsz
                split at hca
                · rename_i row hg; exact ⟨row, hg, hsz⟩
                · cases hca
              · cases hca
            obtain ⟨row, hg, rfl⟩ := hrow
            by_cases hroom : len + m ≤ cap
            · simp only [VR, Value.slice.injEq] at hs
              obtain ⟨bl, o, cap', h1, ⟨rfl, _, rfl⟩, h5, h6, h7, h8, h9⟩ := hs
              obtain ⟨bl', g1, cs', el, g2, g3, g4, g5, g6⟩ := sr.wr.obj id _ hg rfl
              rw [h1] at g1; cases g1
              have ho : o = bl.base + off := h8 (by omega)
              subst ho
              have hcm : (len + m) * j.size ≤ cap * j.size := Nat.mul_le_mul_right _ hroom
              rw [Nat.add_mul] at hcm
              have hst := run_storeCells_at P bl.b (bl.base + off + len * j.size) el news 0 cs' w g2 (by omega) (n3.ones (by omega) n4)
              simp only [Nat.add_zero] at hst
              have hrun := run_append_in (ty := ty) hd' hd2' e1 ⟨bl.b, bl.base + off, none⟩ len cap m xcap xb news hl2 (n6 xb rfl) hroom (by rw [Addr.add_at, e3]; exact hst)
              have hlen2 : (cs'.toList.take (bl.base + off + len * j.size) ++ news ++ cs'.toList.drop (bl.base + off + len * j.size + news.length)).length = cs'.size := by
                simp only [List.length_append, List.length_take, List.length_drop, Array.length_toList]
                omega
              have hcells : VRs ω (ca ++ cb) ((cs'.toList.take (bl.base + off + len * j.size) ++ news ++ cs'.toList.drop (bl.base + off + len * j.size + news.length)).drop (bl.base + off)) := by
                rw [List.append_assoc, List.drop_append_of_le_length (by simp only [List.length_take, Array.length_toList]; omega), List.drop_take, ← List.append_assoc]
                refine (VRs.append ?_ ?_ n3).more _
                · simp only [List.length_take, List.length_drop, Array.length_toList]
                  omega
                · have hca' : sub row off (len * j.size) = some ca := by
                    simp only [sliceCells, if_true, hg] at hca
                    exact hca
                  obtain ⟨q1, q2⟩ := sub_len hca'
                  simp only [sub, q2, if_true, Option.some.injEq] at hca'
                  rw [← hca']
                  have := (g5.drop off).take (len * j.size)
                  rw [List.drop_drop] at this
                  rw [show bl.base + off + len * j.size - (bl.base + off) = len * j.size by omega]
                  exact this
              have hadopt := Post.adopt sr (w' := w.setRow bl.b (cs'.toList.take (bl.base + off + len * j.size) ++ news ++ cs'.toList.drop (bl.base + off + len * j.size + news.length)).toArray) (bl := ⟨bl.b, bl.base + off, bl.size⟩) (o := .row (ca ++ cb)) hg h1 rfl
                (fun b hne => setRow_other w bl.b b _ hne) (by simp) rfl rfl rfl
                ⟨_, el, setRow_heap w bl.b cs' _ el _ g2, by simp only [List.size_toArray]; rw [hlen2]; exact g3, by
                  simp only [List.size_toArray]
                  rw [hlen2]
                  simp only [List.length_append, o2, n2]
                  omega, VRs.mono (sr.wr.le_put _) _ _ (by simpa using hcells), hff⟩
              refine ⟨_, _, _, hrun, ?_, hadopt⟩
              simp only [VR]
              refine ⟨⟨bl.b, bl.base + off, bl.size⟩, _, _, by simp, rfl, hroom, h6, (fun hf => by cases hf), fun _ => by simp, ?_⟩
              simp only
              omega
            · exact grown (by omega) (Post.kill sr hg) rfl hff
          · cases h
        · cases h
      · cases h
  · cases h
end
end Go.Abs
namespace Go.Abs
section
variable {P : Program} {ω : Om} {E : Env} {ok : FuncId → Nat → Code → Prop} {H : Heap} {lo : Nat → Option Nat} {fr : Fr} {a : Act} {tmps : Array Value} {w : World}

theorem copy_ok (hE : EnvOk E P) (sr : SR ok ω H lo fr tmps w) {t u ty e : TypeId} {j : TInfo} {d s v : V} {yd ys : Value} {H' : Heap} (hel : elemAt E t = some (e, j)) (hd : VR ω d yd) (hs : VR ω s ys)
    (h : copyV fr H j.size d s = some (v, H')) : ∃ w' z, (Builtin.copy_ #[t, u] ty #[yd, ys]).run P w = .ok z w' ∧ VR ω v z ∧ Post ok ω H lo fr w ω H' lo fr tmps w' := by
  obtain ⟨hdd, hj⟩ := elemAt_spec hel
  have hd' := elem_spec hE hdd
  have hsz := fun w => run_size (w := w) hE hj
  unfold copyV at h
  split at h
  · rename_i n m hn hm
    obtain ⟨ad, cap, rfl, hcap⟩ := isSlice hd hn
    obtain ⟨sd, scap, rfl, hscap⟩ := isSlice hs hm
    split at h
    · rename_i b hb
      obtain ⟨xs, o1, o2, o3, o4, o5, o6⟩ := sliceCells_ok sr hs hm hb
      split at h
      · rename_i h0
        simp only [Option.some.injEq, Prod.mk.injEq] at h
        obtain ⟨rfl, rfl⟩ := h
        refine ⟨w, .int .i64 0, ?_, by simp only [VR], .refl sr⟩
        have hmin : Nat.min m n = 0 := h0
        cases ad <;> cases sd <;> simp [Builtin.copy_, run_underlying hd', Builtin.lenOf, hmin, hsz, Builtin.firstCells, loadCells, loadCellsFrom, storeCells, goInt]
      · rename_i h0
        split at h
        · rename_i id off len sz' full
          split at h
          · rename_i e1
            subst e1
            simp only [Option.map_eq_some_iff, Prod.mk.injEq] at h
            obtain ⟨⟨fr', h'⟩, hw, rfl, rfl⟩ := h
            simp only [VR, Value.slice.injEq] at hd
            obtain ⟨bl, o, cap', h1, ⟨rfl, rfl, rfl⟩, h5, h6, h7, h8, h9⟩ := hd
            have ho : o = bl.base + off := h8 (by omega)
            subst ho
            have hmn : min m n ≤ m := Nat.min_le_left _ _
            have hle : min m n * j.size ≤ m * j.size := Nat.mul_le_mul_right _ hmn
            have hlx : (xs.take (min m n * j.size)).length = min m n * j.size := by simp only [List.length_take]; omega
            obtain ⟨ad', w', g1, g2, g3⟩ := write_ok (P := P) (new := b.take (min m n * j.size)) (xs := xs.take (min m n * j.size)) sr (p := .cell id off) (x := .pointer (some ⟨bl.b, bl.base + off, none⟩)) (by simp only [SlotR, VR]; exact ⟨bl, h1, rfl⟩) hw (by simp only [List.length_take]; omega) (o3.take _) (by
              simp only [flats, List.all_eq_true] at o4 ⊢
              intro x hx
              exact o4 x (List.mem_of_mem_take hx))
            cases g1
            have hfr : fr' = fr := by
              simp only [writeAt] at hw
              split at hw
              · simp only [Option.map_eq_some_iff, Prod.mk.injEq] at hw
                obtain ⟨_, _, h3, _⟩ := hw
                exact h3.symm
              · cases hw
            subst hfr
            have hsd : ∃ sb, sd = some sb := by
              cases sd with
              | some sb => exact ⟨sb, rfl⟩
              | none =>
                exfalso
                cases s <;> simp only [sliceLen, reduceCtorEq, Option.some.injEq] at hm <;> simp only [VR, Value.slice.injEq] at hs
                · omega
                · obtain ⟨_, _, ⟨hf, _⟩, _⟩ := hs; cases hf
                · obtain ⟨_, _, _, _, ⟨hf, _⟩, _⟩ := hs; cases hf
            obtain ⟨sb, rfl⟩ := hsd
            have hf := run_firstCells_some (P := P) w j.size (min m n) sb m scap (xs.take (min m n * j.size)) hlx (fun k u hu => by
              rw [List.getElem?_take] at hu
              split at hu
              · exact o6 sb rfl k u hu
              · cases hu)
            refine ⟨w', .int .i64 ((min m n : Nat) : Int), ?_, by simp only [VR], g3⟩
            have hmin : Nat.min m n = min m n := rfl
            simp [Builtin.copy_, run_underlying hd', Builtin.lenOf, hmin, hsz, hf, g2, goInt]
          · cases h
        · cases h
    · cases h
  · cases h

def FindR (ω : Om) : Option (Nat × V) → Option (Nat × Value) → Prop
  | none, q => q = none
  | some (i, v), q => ∃ x, q = some (i, x) ∧ VR ω v x

theorem eqPlain_int {t : TypeId} {k : IntKind} {n : Int} {b : V} {r : Bool} (h : eqPlain E t (.int k n) b = some r) : ∃ m, b = .int k m ∧ r = (n == m) := by
  simp only [eqPlain] at h
  split at h
  · split at h
    · cases h
    · rename_i ks i _ _ _
      cases ks with
      | nil => simp [eqCells] at h
      | cons kd ks =>
        cases kd <;> cases b <;> simp [eqCells, eqScalar] at h
        rename_i k' m
        by_cases e : k = k'
        · subst e
          cases ks with
          | nil => exact ⟨m, rfl, by simpa [eqCells, eq_comm] using h⟩
          | cons => simp [eqCells] at h
        · simp [e] at h
  · cases h
theorem eqPlain_str {t : TypeId} {s : ByteArray} {b : V} {r : Bool} (h : eqPlain E t (.str s) b = some r) : ∃ u, b = .str u ∧ r = (s == u) := by
  simp only [eqPlain] at h
  split at h
  · split at h
    · cases h
    · rename_i ks i _ _ _
      cases ks with
      | nil => simp [eqCells] at h
      | cons kd ks =>
        cases kd <;> cases b <;> simp [eqCells, eqScalar] at h
        cases ks with
        | nil => exact ⟨_, rfl, by simpa [eqCells, eq_comm] using h⟩
        | cons => simp [eqCells] at h
  · cases h
theorem eqPlain_bool {t : TypeId} {s : Bool} {b : V} {r : Bool} (h : eqPlain E t (.bool s) b = some r) : ∃ u, b = .bool u ∧ r = (s == u) := by
  simp only [eqPlain] at h
  split at h
  · split at h
    · cases h
    · rename_i ks i _ _ _
      cases ks with
      | nil => simp [eqCells] at h
      | cons kd ks =>
        cases kd <;> cases b <;> simp [eqCells, eqScalar] at h
        cases ks with
        | nil => exact ⟨_, rfl, by simpa [eqCells, eq_comm] using h⟩
        | cons => simp [eqCells] at h
  · cases h

theorem sameNow_ok {t : TypeId} {x y : V} {xx yy : Value} {r r' : Bool} {d : TypeDesc} (h : eqPlain E t x y = some r) (hx : VR ω x xx) (hy : VR ω y yy) (hs : Instr.sameNow d xx yy = some r') : r = r' := by
  rcases eqPlain_kind h with ⟨cs, rfl⟩ | ⟨_, rfl⟩ | ⟨j, n, rfl⟩ | ⟨_, rfl⟩ <;> simp only [VR] at hx
  · obtain ⟨xs, _, _, rfl⟩ := hx
    unfold Instr.sameNow at hs
    split at hs <;> first | (cases hs; done) | (rename_i hq; cases hq)
  · subst hx
    obtain ⟨u, rfl, rfl⟩ := eqPlain_bool h
    simp only [VR] at hy
    subst hy
    unfold Instr.sameNow at hs
    split at hs <;> simp_all
  · subst hx
    obtain ⟨u, rfl, rfl⟩ := eqPlain_int h
    simp only [VR] at hy
    subst hy
    unfold Instr.sameNow at hs
    split at hs <;> simp_all
  · subst hx
    obtain ⟨u, rfl, rfl⟩ := eqPlain_str h
    simp only [VR] at hy
    subst hy
    unfold Instr.sameNow at hs
    split at hs <;> simp_all

theorem findNow_ok {t : TypeId} {k : V} {x : Value} {d : TypeDesc} (hx : VR ω k x) : ∀ {es : List (V × V × Nat)} {l : List MapEntry} {i : Nat} {r : Option (Nat × V)} {q : Option (Nat × Value)}, ERels ω es l → findE E t k es i = some r → Instr.findNow d x l i = some q → FindR ω r q
  | [], l, i, r, q, he, h, hq => by
    simp only [ERels] at he
    subst he
    simp only [findE, Option.some.injEq] at h
    subst h
    simp only [Instr.findNow, Option.some.injEq] at hq
    subst hq
    simp [FindR]
  | e :: es, l, i, r, q, he, h, hq => by
    obtain ⟨e', l', rfl, he1, he2⟩ := he
    simp only [findE] at h
    simp only [Instr.findNow] at hq
    split at hq
    · rename_i hs
      split at h
      · simp only [Option.some.injEq] at h hq
        subst h; subst hq
        exact ⟨_, rfl, he1.2.1⟩
      · rename_i hp
        have := sameNow_ok hp hx he1.1 hs
        cases this
      · cases h
    · rename_i hs
      split at h
      · rename_i hp
        have := sameNow_ok hp hx he1.1 hs
        cases this
      · exact findNow_ok hx he2 h hq
      · cases h
    · cases hq
theorem findAsking_ok (hE : EnvOk E P) {t : TypeId} {k : V} {x : Value} (hx : VR ω k x) : ∀ {es : List (V × V × Nat)} {l : List MapEntry} {i : Nat} {r : Option (Nat × V)}, ERels ω es l → findE E t k es i = some r → ∃ q, (Instr.findAsking t x l i).run P w = .ok q w ∧ FindR ω r q
  | [], l, i, r, he, h => by
    simp only [ERels] at he
    subst he
    simp only [findE, Option.some.injEq] at h
    subst h
    exact ⟨none, by simp [Instr.findAsking], by simp [FindR]⟩
  | e :: es, l, i, r, he, h => by
    obtain ⟨e', l', rfl, he1, he2⟩ := he
    simp only [findE] at h
    split at h
    · rename_i hp
      have := eqPlain_ok hE hp hx he1.1 w 9992
      simp only [Option.some.injEq] at h
      subst h
      exact ⟨some (i, e'.val), by simp [Instr.findAsking, Op.equal, Op.maxDepth, this], ⟨_, rfl, he1.2.1⟩⟩
    · rename_i hp
      have := eqPlain_ok hE hp hx he1.1 w 9992
      obtain ⟨q, h1, h2⟩ := findAsking_ok hE hx he2 h
      exact ⟨q, by simp [Instr.findAsking, Op.equal, Op.maxDepth, this, h1], h2⟩
    · cases h
theorem findKey_ok (hE : EnvOk E P) {t : TypeId} {k : V} {x : Value} {es : List (V × V × Nat)} {l : List MapEntry} {r : Option (Nat × V)} (hk : keyOk E t k = true) (hx : VR ω k x) (he : ERels ω es l) (h : findE E t k es 0 = some r) :
    ∃ q, (Instr.findKey t x l).run P w = .ok q w ∧ FindR ω r q := by
  have hd : ∃ d, P.underlying t = some d := by
    unfold keyOk at hk
    obtain ⟨b, hb⟩ := Option.isSome_iff_exists.1 hk
    simp only [eqPlain] at hb
    split at hb
    · rename_i ks i _ hi
      obtain ⟨_, _, _, h2, _⟩ := tinfo_spec (hE.ti t i hi)
      exact ⟨_, h2⟩
    · cases hb
  obtain ⟨d, hd⟩ := hd
  unfold Instr.findKey
  rw [Sem.run_bind, run_underlying hd]
  simp only [Result.andThen_ok]
  cases hq : Instr.findNow d x l 0 with
  | some q => exact ⟨q, by simp, findNow_ok hx he h hq⟩
  | none => exact findAsking_ok hE hx he h
end
end Go.Abs
namespace Go.Abs
section
variable {P : Program} {ω : Om} {E : Env} {ok : FuncId → Nat → Code → Prop} {H : Heap} {lo : Nat → Option Nat} {fr : Fr} {a : Act} {tmps : Array Value} {w : World}

def CkOk (P : Program) (ω : Om) (em : Bool) (dd : Nat) (t : TypeId) (ks : List Kd) : Prop :=
  ∃ d, P.underlying t = some d ∧ (if aggD d then P.cellsOf t = ks.length else ks.length = 1) ∧
    ∀ (w : World) (as : List V) (x : Value), Fits ω d as x → eqCells ks as as ≠ none → (Instr.checkKey em dd t x).run P w = .ok () w

theorem eqCells_self_append {ks ls : List Kd} {a : List V} (h : eqCells (ks ++ ls) a a ≠ none) : eqCells ks (a.take ks.length) (a.take ks.length) ≠ none ∧ eqCells ls (a.drop ks.length) (a.drop ks.length) ≠ none := by
  cases hr : eqCells (ks ++ ls) a a with
  | none => exact absurd hr h
  | some r =>
    obtain ⟨p, q, h1, h2, _⟩ := eqCells_append hr
    rw [h1, h2]
    simp

theorem run_checkFields_ok (em : Bool) (dd : Nat) (d : Nat) (hall : ∀ (f : TypeId) ks, plainK P d f = some ks → CkOk P ω em dd f ks) (xs : Array Value) (as : List V) (hxl : as.length = xs.size) (hx : VRs ω as xs.toList) :
    ∀ (fs : List Field) (off : Nat) (ks : List Kd) (w : World), plainK.plainF P d off fs = some ks → off + ks.length = as.length → eqCells ks (as.drop off) (as.drop off) ≠ none →
      (forIn fs PUnit.unit fun f (_ : PUnit) => (if f.name ≠ "_" then (do let y ← part f.type xs f.offset; Instr.checkKey em dd f.type y; pure (ForInStep.yield PUnit.unit)) else pure (ForInStep.yield PUnit.unit) : Sem (ForInStep PUnit))).run P w = .ok PUnit.unit w
  | [], off, ks, w, _, _, _ => by simp
  | f :: fs, off, ks, w, hk, hla, he => by
    simp only [plainK.plainF] at hk
    split at hk
    · rename_i hf
      split at hk
      · rename_i kf hkf
        split at hk
        · rename_i kr hkr
          simp only [Option.some.injEq] at hk
          subst hk
          obtain ⟨e1, e2⟩ := eqCells_self_append he
          simp only [List.length_append] at hla
          obtain ⟨df, hu, hn, heq⟩ := hall f.type kf hkf
          obtain ⟨x, p1, f1⟩ := run_part w hu hxl hx (off := off) (n := kf.length) (by omega) hn
          have h3 := heq w _ x f1 e1
          have ih := run_checkFields_ok em dd d hall xs as hxl hx fs (off + kf.length) kr w hkr (by omega) (by simpa [List.drop_drop] using e2)
          rw [List.forIn_cons]
          simp only [hf.2, ne_eq, not_false_eq_true, if_true, Sem.run_bind, hf.1, p1, h3, Result.andThen_ok, Sem.run_pure]
          simpa using ih
        · cases hk
      · cases hk
    · cases hk
theorem run_checkItems_ok (em : Bool) (dd : Nat) {e : TypeId} {ke : List Kd} (hE : CkOk P ω em dd e ke) (xs : Array Value) (as : List V) (hxl : as.length = xs.size) (hx : VRs ω as xs.toList) (hc : P.cellsOf e = ke.length) :
    ∀ (m i : Nat) (w : World), i * ke.length + m * ke.length ≤ as.length → eqCells ((List.replicate m ke).flatten) ((as.drop (i * ke.length)).take (m * ke.length)) ((as.drop (i * ke.length)).take (m * ke.length)) ≠ none →
      (forIn (List.range' i m) PUnit.unit fun i (_ : PUnit) => (do Instr.checkKey em dd e (← part e xs (i * (← sizeOf e))); pure (ForInStep.yield PUnit.unit) : Sem (ForInStep PUnit))).run P w = .ok PUnit.unit w
  | 0, i, w, _, _ => by simp
  | m + 1, i, w, hla, he => by
    obtain ⟨d, hu, hn, heq⟩ := hE
    obtain ⟨ji, hji⟩ := info_of_underlying hu
    have hmul : (m + 1) * ke.length = ke.length + m * ke.length := by rw [Nat.add_mul]; omega
    have hmul' : (i + 1) * ke.length = i * ke.length + ke.length := by rw [Nat.add_mul]; omega
    rw [hmul] at hla he
    rw [List.replicate_succ, List.flatten_cons] at he
    obtain ⟨e1, e2⟩ := eqCells_self_append he
    obtain ⟨x, p1, f1⟩ := run_part w hu hxl hx (off := i * ke.length) (n := ke.length) (by omega) hn
    have h3 := heq w _ x f1 (by simpa [List.take_take, Nat.min_eq_left] using e1)
    have ih := run_checkItems_ok em dd ⟨d, hu, hn, heq⟩ xs as hxl hx hc m (i + 1) w (by omega) (by
      rw [hmul']
      rw [List.drop_take] at e2
      simpa [List.drop_drop] using e2)
    rw [List.range'_succ, List.forIn_cons]
    simp only [Sem.run_bind, run_sizeOf w hji, hc, p1, h3, Result.andThen_ok, Sem.run_pure]
    simpa using ih

theorem plainK_check : ∀ (m : Nat) (t : TypeId) (ks : List Kd), plainK P m t = some ks → ∀ (em : Bool) (d : Nat), CkOk P ω em (d + m) t ks
  | 0, _, _, h, _, _ => by simp [plainK] at h
  | m + 1, t, ks, h, em, d => by
    simp only [plainK] at h
    split at h
    · rename_i hu
      simp only [Option.some.injEq] at h
      subst h
      exact ⟨.bool, hu, by simp [aggD], fun w as x _ _ => by simp [Instr.checkKey, run_underlying hu]⟩
    · rename_i k hu
      simp only [Option.some.injEq] at h
      subst h
      exact ⟨.int k, hu, by simp [aggD], fun w as x _ _ => by simp [Instr.checkKey, run_underlying hu]⟩
    · rename_i hu
      simp only [Option.some.injEq] at h
      subst h
      exact ⟨.string, hu, by simp [aggD], fun w as x _ _ => by simp [Instr.checkKey, run_underlying hu]⟩
    · rename_i fs hu
      split at h
      · cases h
      · split at h
        · rename_i ks' hk
          split at h
          · rename_i hlen
            simp only [Option.some.injEq] at h
            subst h
            refine ⟨.struct fs, hu, by simp [aggD, hlen], fun w as x fx he => ?_⟩
            simp only [Fits, aggD, if_true] at fx
            obtain ⟨xs, rfl, hxl, hx⟩ := fx
            have hl : as.length = ks'.length := by
              cases hr : eqCells ks' as as with
              | none => exact absurd hr he
              | some r => exact (eqCells_len hr).1
            have := run_checkFields_ok em (d + m) m (fun f kf hkf => plainK_check m f kf hkf em d) xs as hxl hx fs.toList 0 ks' w hk (by omega) (by simpa using he)
            rw [show d + (m + 1) = (d + m) + 1 by omega]
            simp only [Instr.checkKey, Sem.run_bind, run_underlying hu, Result.andThen_ok]
            rw [← Array.forIn_toList]
            simp at this ⊢
            simp [this]
          · cases h
        · cases h
    · rename_i n e hu
      split at h
      · rename_i ke hke
        split at h
        · rename_i hlen
          simp only [Option.some.injEq] at h
          subst h
          have hflat : ((List.replicate n ke).flatten).length = n * ke.length := by simp
          refine ⟨.array n e, hu, by simp [aggD, hlen], fun w as x fx he => ?_⟩
          simp only [Fits, aggD, if_true] at fx
          obtain ⟨xs, rfl, hxl, hx⟩ := fx
          have hl : as.length = n * ke.length := by
            cases hr : eqCells ((List.replicate n ke).flatten) as as with
            | none => exact absurd hr he
            | some r => rw [← hflat]; exact (eqCells_len hr).1
          have := run_checkItems_ok em (d + m) (plainK_check m e ke hke em d) xs as hxl hx hlen.2 n 0 w (by omega) (by
            simp only [Nat.zero_mul, List.drop_zero]
            rw [List.take_of_length_le (by omega)]
            exact he)
          rw [show d + (m + 1) = (d + m) + 1 by omega]
          simp only [Instr.checkKey, Sem.run_bind, run_underlying hu, Result.andThen_ok]
          simp only [Std.Legacy.Range.forIn_eq_forIn_range', Std.Legacy.Range.size, Nat.sub_zero, Nat.add_one_sub_one, Nat.div_one]
          simp at this ⊢
          simp [this]
        · cases h
      · cases h
    · cases h

theorem eqPlain_agg {t : TypeId} {a : List V} {y : V} {r : Bool} (h : eqPlain E t (.agg a) y = some r) : ∃ b ks i, y = .agg b ∧ E.plain t = some ks ∧ E.ti t = some i ∧ i.isAgg = true ∧ eqCells ks a b = some r := by
  cases hks : E.plain t with
  | none => simp [eqPlain, hks] at h
  | some ks =>
    cases hi : E.ti t with
    | none => simp [eqPlain, hks, hi] at h
    | some i =>
      simp only [eqPlain, hks, hi] at h
      cases y with
      | agg b =>
        simp only at h
        split at h
        · rename_i hag; exact ⟨b, ks, i, rfl, rfl, rfl, hag, h⟩
        · cases h
      | _ =>
        exfalso
        simp only at h
        split at h
        · cases h
        · cases ks with
          | nil => simp [eqCells] at h
          | cons k ks => cases k <;> simp [eqCells, eqScalar] at h
theorem eqPlain_one {t : TypeId} {x y : V} {r : Bool} (h : eqPlain E t x y = some r) (hx : ∀ cs, x ≠ .agg cs) : ∃ ks i, E.plain t = some ks ∧ E.ti t = some i ∧ i.isAgg = false ∧ eqCells ks [x] [y] = some r := by
  cases hks : E.plain t with
  | none => simp [eqPlain, hks] at h
  | some ks =>
    cases hi : E.ti t with
    | none => simp [eqPlain, hks, hi] at h
    | some i =>
      simp only [eqPlain, hks, hi] at h
      split at h
      · exact absurd rfl (hx _)
      · split at h
        · cases h
        · rename_i hag; exact ⟨ks, i, rfl, rfl, by simpa using hag, h⟩

theorem checkKey_ok (hE : EnvOk E P) {t : TypeId} {k : V} {x : Value} (hk : keyOk E t k = true) (hx : VR ω k x) (em : Bool) : (Instr.checkKey em 10000 t x).run P w = .ok () w := by
  unfold keyOk at hk
  obtain ⟨r, hr⟩ := Option.isSome_iff_exists.1 hk
  by_cases hag : ∃ cs, k = .agg cs
  · obtain ⟨cs, rfl⟩ := hag
    obtain ⟨b, ks, i, hb, hks, hi, hag, he⟩ := eqPlain_agg hr
    cases hb
    obtain ⟨dd, hu, hn, heq⟩ := plainK_check (ω := ω) 8 t ks (hE.plain t ks hks) em 9992
    obtain ⟨j, z, h1, h2, h3, h4, h5, h6, h7, h8, h9, h10, _⟩ := tinfo_spec (hE.ti t i hi)
    rw [h2] at hu; cases hu
    simp only [VR] at hx
    obtain ⟨xs, hxl, hxv, rfl⟩ := hx
    rw [h9] at hag
    exact heq w cs _ (by simp only [Fits, hag, if_true]; exact ⟨xs, rfl, hxl, hxv⟩) (by rw [he]; simp)
  · obtain ⟨ks, i, hks, hi, hag', he⟩ := eqPlain_one hr (fun cs e => hag ⟨cs, e⟩)
    obtain ⟨dd, hu, hn, heq⟩ := plainK_check (ω := ω) 8 t ks (hE.plain t ks hks) em 9992
    obtain ⟨j, z, h1, h2, h3, h4, h5, h6, h7, h8, h9, h10, _⟩ := tinfo_spec (hE.ti t i hi)
    rw [h2] at hu; cases hu
    rw [h9] at hag'
    exact heq w [k] x (by simp only [Fits, hag', Bool.false_eq_true, if_false]; exact ⟨k, rfl, hx⟩) (by rw [he]; simp)

theorem eqCells_true : ∀ {ks : List Kd} {a b : List V}, eqCells ks a b = some true → a = b
  | [], [], [], _ => rfl
  | [], [], _ :: _, h => by simp [eqCells] at h
  | [], _ :: _, _, h => by simp [eqCells] at h
  | k :: ks, [], _, h => by simp [eqCells] at h
  | k :: ks, _ :: _, [], h => by simp [eqCells] at h
  | k :: ks, x :: a, y :: b, h => by
    simp only [eqCells] at h
    split at h
    · rename_i p q h1 h2
      simp only [Option.some.injEq, Bool.and_eq_true] at h
      obtain ⟨rfl, rfl⟩ := h
      rw [eqCells_true h2]
      congr 1
      cases k <;> cases x <;> cases y <;> simp [eqScalar] at h1
      · rw [h1]
      · obtain ⟨rfl, rfl⟩ := h1; rfl
      · rename_i s u
        rw [beq_toListBytes] at h1
        have h3 : s.toList = u.toList := by simpa using h1
        rw [ByteArray.toList_eq, ByteArray.toList_eq] at h3
        have : s = u := by
          obtain ⟨s⟩ := s
          obtain ⟨u⟩ := u
          congr 1
          exact Array.ext' h3
        rw [this]
    · cases h
theorem eqPlain_true {t : TypeId} {a b : V} (h : eqPlain E t a b = some true) : a = b := by
  by_cases hag : ∃ cs, a = .agg cs
  · obtain ⟨cs, rfl⟩ := hag
    obtain ⟨b, ks, i, rfl, _, _, _, he⟩ := eqPlain_agg h
    rw [eqCells_true he]
  · obtain ⟨ks, i, _, _, _, he⟩ := eqPlain_one h (fun cs e => hag ⟨cs, e⟩)
    have := eqCells_true he
    simpa using this

theorem scal_of {v : V} {x : Value} (hx : VR ω v x) (h : (∃ b, v = .bool b) ∨ (∃ k n, v = .int k n) ∨ (∃ s, v = .str s)) : x = scal v := by
  rcases h with ⟨_, rfl⟩ | ⟨_, _, rfl⟩ | ⟨_, rfl⟩ <;> (simp only [VR] at hx; exact hx)
theorem eqCells_scal : ∀ {ks : List Kd} {a b : List V} {r : Bool}, eqCells ks a b = some r → ∀ v ∈ a, (∃ b, v = .bool b) ∨ (∃ k n, v = .int k n) ∨ (∃ s, v = .str s)
  | [], [], _, _, _, v, hv => by cases hv
  | [], _ :: _, _, _, h, _, _ => by simp [eqCells] at h
  | k :: ks, [], _, _, h, _, _ => by simp [eqCells] at h
  | k :: ks, _ :: _, [], _, h, _, _ => by simp [eqCells] at h
  | k :: ks, x :: a, y :: b, r, h, v, hv => by
    simp only [eqCells] at h
    split at h
    · rename_i p q h1 h2
      rcases List.mem_cons.1 hv with rfl | hv
      · cases k <;> cases v <;> simp [eqScalar] at h1
        · exact .inl ⟨_, rfl⟩
        · exact .inr (.inl ⟨_, _, rfl⟩)
        · exact .inr (.inr ⟨_, rfl⟩)
      · exact eqCells_scal h2 v hv
    · cases h
theorem VRs.scal {vs : List V} {xs : List Value} (h : VRs ω vs xs) (hl : vs.length = xs.length) (hs : ∀ v ∈ vs, (∃ b, v = .bool b) ∨ (∃ k n, v = .int k n) ∨ (∃ s, v = .str s)) : xs = vs.map Abs.scal := by
  apply List.ext_getElem?
  intro i
  rcases Nat.lt_or_ge i vs.length with hi | hi
  · obtain ⟨x, h1, h2⟩ := h.cell hi
    rw [h1, scal_of h2 (hs _ (List.getElem_mem hi))]
    simp [hi]
  · rw [List.getElem?_eq_none (by omega), List.getElem?_eq_none (by simp; omega)]
theorem sameBits_scal {v : V} (h : (∃ b, v = .bool b) ∨ (∃ k n, v = .int k n) ∨ (∃ s, v = .str s)) (m : Nat) : Instr.sameBits m (scal v) (scal v) = true := by
  rcases h with ⟨_, rfl⟩ | ⟨_, _, rfl⟩ | ⟨s, rfl⟩
  · simp [scal, Instr.sameBits]
  · simp [scal, Instr.sameBits]
  · simp only [scal, Instr.sameBits]
    rw [beq_toListBytes]
    exact beq_self_eq_true _
theorem sameBits_ok {t : TypeId} {k : V} {x y : Value} (hk : keyOk E t k = true) (hx : VR ω k x) (hy : VR ω k y) : x = y ∧ Instr.sameBits 10000 x y = true := by
  unfold keyOk at hk
  obtain ⟨r, hr⟩ := Option.isSome_iff_exists.1 hk
  obtain ⟨mm, hmm⟩ : ∃ mm, 10000 = mm + 1 := ⟨9999, rfl⟩
  rw [hmm]
  rcases eqPlain_kind hr with ⟨cs, rfl⟩ | ⟨b, rfl⟩ | ⟨j, n, rfl⟩ | ⟨s, rfl⟩
  · obtain ⟨b, ks, i, hb, _, _, _, he⟩ := eqPlain_agg hr
    cases hb
    have hs := eqCells_scal he
    simp only [VR] at hx hy
    obtain ⟨xs, hxl, hxv, rfl⟩ := hx
    obtain ⟨ys, hyl, hyv, rfl⟩ := hy
    have e1 := hxv.scal (by simpa using hxl) hs
    have e2 := hyv.scal (by simpa using hyl) hs
    have : xs = ys := Array.ext' (by rw [e1, e2])
    subst this
    refine ⟨rfl, ?_⟩
    simp only [Instr.sameBits, beq_self_eq_true, Bool.true_and, List.all_eq_true]
    intro p hp
    rw [e1] at hp
    obtain ⟨i, hi, hpe⟩ := List.getElem_of_mem hp
    simp only [List.getElem_zip, List.getElem_map] at hpe
    rw [← hpe]
    exact sameBits_scal (hs _ (List.getElem_mem _)) _
  · have h1 := scal_of hx (.inl ⟨_, rfl⟩)
    have h2 := scal_of hy (.inl ⟨_, rfl⟩)
    rw [h1, h2]
    exact ⟨rfl, sameBits_scal (.inl ⟨_, rfl⟩) _⟩
  · have h1 := scal_of hx (.inr (.inl ⟨_, _, rfl⟩))
    have h2 := scal_of hy (.inr (.inl ⟨_, _, rfl⟩))
    rw [h1, h2]
    exact ⟨rfl, sameBits_scal (.inr (.inl ⟨_, _, rfl⟩)) _⟩
  · have h1 := scal_of hx (.inr (.inr ⟨_, rfl⟩))
    have h2 := scal_of hy (.inr (.inr ⟨_, rfl⟩))
    rw [h1, h2]
    exact ⟨rfl, sameBits_scal (.inr (.inr ⟨_, rfl⟩)) _⟩
end
end Go.Abs
namespace Go.Abs
section
variable {P : Program} {ω : Om} {E : Env} {ok : FuncId → Nat → Code → Prop} {H : Heap} {lo : Nat → Option Nat} {fr : Fr} {a : Act} {tmps : Array Value} {w : World}

theorem findE_at {t : TypeId} {k : V} : ∀ {es : List (V × V × Nat)} {s i : Nat} {v : V}, findE E t k es s = some (some (i, v)) → ∃ j e, i = s + j ∧ es[j]? = some e ∧ e.1 = k ∧ e.2.1 = v
  | [], s, i, v, h => by simp [findE] at h
  | e :: es, s, i, v, h => by
    simp only [findE] at h
    split at h
    · rename_i hp
      simp only [Option.some.injEq, Prod.mk.injEq] at h
      obtain ⟨rfl, rfl⟩ := h
      exact ⟨0, e, rfl, rfl, (eqPlain_true hp).symm, rfl⟩
    · obtain ⟨j, e', h1, h2, h3⟩ := findE_at h
      exact ⟨j + 1, e', by omega, by simpa using h2, h3⟩
    · cases h

theorem ERels.get : ∀ {es : List (V × V × Nat)} {l : List MapEntry}, ERels ω es l → ∀ {i : Nat} {e : V × V × Nat}, es[i]? = some e → ∃ e', l[i]? = some e' ∧ ERel ω e e'
  | [], _, _, i, e, h => by simp at h
  | e0 :: es, l, hr, i, e, h => by
    obtain ⟨e', l', rfl, h1, h2⟩ := hr
    cases i with
    | zero => simp at h; subst h; exact ⟨e', rfl, h1⟩
    | succ i => simpa using ERels.get h2 (by simpa using h)
theorem ERels.modify : ∀ {es : List (V × V × Nat)} {l : List MapEntry}, ERels ω es l → ∀ (i : Nat) (f : V × V × Nat → V × V × Nat) (g : MapEntry → MapEntry), (∀ e e', es[i]? = some e → ERel ω e e' → ERel ω (f e) (g e')) → ERels ω (es.modify i f) (l.modify i g)
  | [], _, hr, i, f, g, _ => by
    simp only [ERels] at hr
    subst hr
    cases i <;> simp [ERels]
  | e0 :: es, l, hr, i, f, g, h => by
    obtain ⟨e', l', rfl, h1, h2⟩ := hr
    cases i with
    | zero => simp only [List.modify_zero_cons, ERels]; exact ⟨_, _, rfl, h _ _ rfl h1, h2⟩
    | succ i =>
      simp only [List.modify_succ_cons, ERels]
      exact ⟨_, _, rfl, h1, ERels.modify h2 i f g fun e e' he hr => h e e' (by simpa using he) hr⟩
theorem ERels.push : ∀ {es : List (V × V × Nat)} {l : List MapEntry}, ERels ω es l → ∀ {e : V × V × Nat} {e' : MapEntry}, ERel ω e e' → ERels ω (es ++ [e]) (l ++ [e'])
  | [], _, hr, e, e', h => by
    simp only [ERels] at hr
    subst hr
    simp only [List.nil_append, ERels]
    exact ⟨_, _, rfl, h, rfl⟩
  | e0 :: es, l, hr, e, e', h => by
    obtain ⟨e1, l', rfl, h1, h2⟩ := hr
    simp only [List.cons_append, ERels]
    exact ⟨_, _, rfl, h1, ERels.push h2 h⟩
theorem ERels.erase : ∀ {es : List (V × V × Nat)} {l : List MapEntry}, ERels ω es l → ∀ (i : Nat), ERels ω (es.eraseIdx i) (l.eraseIdx i)
  | [], _, hr, i => by
    simp only [ERels] at hr
    subst hr
    simp [ERels]
  | e0 :: es, l, hr, i => by
    obtain ⟨e1, l', rfl, h1, h2⟩ := hr
    cases i with
    | zero => simpa using h2
    | succ i => simp only [List.eraseIdx_cons_succ, ERels]; exact ⟨_, _, rfl, h1, ERels.erase h2 i⟩

theorem map_at (sr : SR ok ω H lo fr tmps w) {id : Nat} {es : List (V × V × Nat)} {c : Nat} {x : Value} (hg : H.get id = some (.mapo es c)) (hx : VR ω (.mp id) x) :
    ∃ bl es', ω.φ id = some bl ∧ x = .map (some bl.b) ∧ w.heap[bl.b]? = some (.map es' c) ∧ ERels ω es es'.toList := by
  obtain ⟨bl, h1, es', h2, h3⟩ := sr.wr.obj id _ hg rfl
  simp only [VR] at hx
  obtain ⟨bl', h4, rfl⟩ := hx
  rw [h1] at h4; cases h4
  exact ⟨bl, es', h1, rfl, h2, h3⟩
theorem run_getMap {b c : Nat} {es : Array MapEntry} (h : w.heap[b]? = some (.map es c)) : (getObj b).run P w = .ok (.map es c) w := by simp [getObj, Sem.run, h]
def World.setMap (w : World) (b : Nat) (o : Obj) : World := { w with heap := w.heap.setIfInBounds b o }
theorem run_setMap {b c : Nat} {es : Array MapEntry} (h : w.heap[b]? = some (.map es c)) (o : Obj) : (setObj b o).run P w = .ok () (World.setMap w b o) := by
  simp only [setObj, Sem.run, h]
  rfl
theorem setMap_self {b : Nat} {o : Obj} (h : w.heap[b]? = some o) : World.setMap w b o = w := by
  have hl : b < w.heap.size := (Array.getElem?_eq_some_iff.1 h).1
  have : w.heap.setIfInBounds b o = w.heap := by
    apply Array.ext_getElem?
    intro n
    rw [Array.getElem?_setIfInBounds]
    by_cases hn : b = n
    · subst hn
      simp only [hl, if_true]
      exact h.symm
    · simp [hn]
  unfold World.setMap
  rw [this]
theorem Post.setMap (sr : SR ok ω H lo fr tmps w) {id : Nat} {es es1 : List (V × V × Nat)} {c c1 : Nat} {bl : Blk} {es' : Array MapEntry} (hg : H.get id = some (.mapo es c)) (hφ : ω.φ id = some bl) (hw : bl.b < w.heap.size) (h : ERels ω es1 es'.toList) :
    Post ok ω H lo fr w ω (H.set id (.mapo es1 c1)) lo fr tmps (World.setMap w bl.b (.map es' c1)) := by
  refine Post.set sr hg rfl hφ (fun b hne => ?_) (by simp [World.setMap]) rfl rfl rfl fun _ => ⟨es', ?_, h⟩
  · simp only [World.setMap, Array.getElem?_setIfInBounds]
    rw [if_neg (Ne.symm hne)]
  · simp only [World.setMap, Array.getElem?_setIfInBounds]
    simp [hw]

theorem map_types (hE : EnvOk E P) {t kt e : TypeId} (hd : E.desc t = some (.map kt e)) : P.underlying t = some (.map kt e) := elem_spec hE hd

theorem lookup_ok (hE : EnvOk E P) (sr : SR ok ω H lo fr tmps w) {t kt e : TypeId} {m k : V} {xm xk : Value} {r : Option V} {cok : Bool} (hd : E.desc t = some (.map kt e)) (hk : keyOk E kt k = true) (hm : VR ω m xm) (hkx : VR ω k xk) (h : mapGet E kt H m k = some r) :
    (∀ v, r = some v → ∃ z, (Instr.lookup t xm xk cok).run P w = .ok z w ∧ VR ω (if cok then .tup [v, .bool true] else v) z) ∧
    (r = none → ∀ j, E.ti e = some j → ∃ z, (Instr.lookup t xm xk cok).run P w = .ok z w ∧ VR ω (if cok then .tup [j.zero, .bool false] else j.zero) z) := by
  have hd' := map_types hE hd
  have hck := fun em => checkKey_ok (w := w) hE hk hkx em
  have tupR : ∀ (v : V) (x : Value) (b : Bool), VR ω v x → VR ω (if cok then .tup [v, .bool b] else v) (if cok then .tuple #[x, .bool b] else x) := by
    intro v x b hv
    cases cok
    · exact hv
    · simp only [if_true, VR]
      exact ⟨#[x, .bool b], rfl, by simp only [VRs]; exact ⟨x, _, rfl, hv, .bool b, [], rfl, by simp only [VR], trivial⟩, rfl⟩
  unfold mapGet at h
  split at h
  · simp only [Option.some.injEq] at h
    subst h
    simp only [VR] at hm
    subst hm
    refine ⟨(fun v hv => by cases hv), fun _ j hj => ?_⟩
    obtain ⟨i, z, e1, e2, e3, e4, e5, e6, e7, e8, e9, e10, _⟩ := tinfo_spec (hE.ti e j hj)
    have hf : ∃ q, (Instr.findKey kt xk []).run P w = .ok q w ∧ FindR ω none q := findKey_ok hE hk hkx (es := []) (l := []) (by simp [ERels]) (by simp [findE])
    obtain ⟨q, hq, hq2⟩ := hf
    simp only [FindR] at hq2
    subst hq2
    have hz : (zeroValue e).run P w = .ok z w := by simp [zeroValue, typeInfo, e1, e5]
    refine ⟨_, ?_, tupR _ z false (ofValue_ok e6).1⟩
    simp only [Instr.lookup, Sem.run_bind, run_underlying hd', Result.andThen_ok, Sem.run_pure, hck, hq, hz]
  · rename_i id
    split at h
    · rename_i es c hg
      obtain ⟨bl, es', h1, rfl, h2, h3⟩ := map_at sr hg hm
      simp only [Option.map_eq_some_iff] at h
      obtain ⟨r0, hr0, rfl⟩ := h
      obtain ⟨q, hq, hq2⟩ := findKey_ok (w := w) hE hk hkx h3 hr0
      cases r0 with
      | none =>
        simp only [FindR] at hq2
        subst hq2
        refine ⟨(fun v hv => by cases hv), fun _ j hj => ?_⟩
        obtain ⟨i, z, e1, e2, e3, e4, e5, e6, e7, e8, e9, e10, _⟩ := tinfo_spec (hE.ti e j hj)
        have hz : (zeroValue e).run P w = .ok z w := by simp [zeroValue, typeInfo, e1, e5]
        refine ⟨_, ?_, tupR _ z false (ofValue_ok e6).1⟩
        simp only [Instr.lookup, Sem.run_bind, run_underlying hd', Result.andThen_ok, run_getMap h2, Sem.run_pure, hck, hq, hz]
      | some p =>
        obtain ⟨i, v0⟩ := p
        obtain ⟨x, rfl, hx⟩ := hq2
        refine ⟨fun v hv => ?_, (fun hn => by cases hn)⟩
        simp only [Option.map_some, Option.some.injEq] at hv
        subst hv
        refine ⟨_, ?_, tupR _ x true hx⟩
        simp only [Instr.lookup, Sem.run_bind, run_underlying hd', Result.andThen_ok, run_getMap h2, Sem.run_pure, hck, hq]
    · cases h
  · cases h

theorem keyStays_ok {t : TypeId} {k : V} {x y : Value} (hk : keyOk E t k = true) (hx : VR ω k x) (hy : VR ω k y) : (Instr.keyThatStays x y).run P w = .ok y w := by
  obtain ⟨_, h⟩ := sameBits_ok hk hx hy
  simp [Instr.keyThatStays, h]

theorem mapSet_ok (hE : EnvOk E P) (sr : SR ok ω H lo fr tmps w) {t kt e : TypeId} {m k v : V} {xm xk xv : Value} {H' : Heap} (hd : E.desc t = some (.map kt e)) (hk : keyOk E kt k = true) (hkw : k.whole = true) (hvw : v.whole = true) (hm : VR ω m xm) (hkx : VR ω k xk) (hvx : VR ω v xv) (h : mapSet E kt H m k v = some H') :
    ∃ w', (Instr.mapUpdate t xm xk xv).run P w = .ok () w' ∧ Post ok ω H lo fr w ω H' lo fr tmps w' := by
  have hd' := map_types hE hd
  have hck := fun em => checkKey_ok (w := w) hE hk hkx em
  unfold mapSet at h
  split at h
  · rename_i id
    split at h
    · rename_i es c hg
      obtain ⟨bl, es', h1, rfl, h2, h3⟩ := map_at sr hg hm
      have hlt : bl.b < w.heap.size := (Array.getElem?_eq_some_iff.1 h2).1
      split at h
      · rename_i i v0 hf
        simp only [Option.some.injEq] at h
        subst h
        obtain ⟨q, hq, x0, rfl, _⟩ := findKey_ok (w := w) hE hk hkx h3 hf
        obtain ⟨j, e0, hj, he0, hek, _⟩ := findE_at hf
        simp only [Nat.zero_add] at hj
        subst hj
        obtain ⟨e0', he0', her⟩ := h3.get he0
        have hold : ((es'[i]?).map (·.key)).getD xk = e0'.key := by
          have : es'[i]? = some e0' := by simpa using he0'
          simp [this]
        have hks := keyStays_ok (P := P) (w := w) hk (by rw [← hek]; exact her.1) hkx
        refine ⟨World.setMap w bl.b (.map (es'.modify i fun e => { e with key := xk, val := xv }) c), ?_, Post.setMap sr hg h1 hlt ?_⟩
        · simp only [Instr.mapUpdate, Sem.run_bind, run_underlying hd', Result.andThen_ok, run_getMap h2, hck, hq, hold, hks, run_setMap h2]
        · simp only [modifyAt, Array.toList_modify]
          refine h3.modify i _ _ fun e1 e1' h4 h5 => ?_
          rw [he0] at h4
          cases h4
          exact ⟨by simp only; rw [hek]; exact hkx, hvx, h5.2.2.1, h5.2.2.2.1, hvw⟩
      · rename_i hf
        simp only [Option.some.injEq] at h
        subst h
        obtain ⟨q, hq, hq2⟩ := findKey_ok (w := w) hE hk hkx h3 hf
        simp only [FindR] at hq2
        subst hq2
        refine ⟨World.setMap w bl.b (.map (es'.push { key := xk, val := xv, born := c }) (c + 1)), ?_, Post.setMap sr hg h1 hlt ?_⟩
        · simp only [Instr.mapUpdate, Sem.run_bind, run_underlying hd', Result.andThen_ok, run_getMap h2, hck, hq, run_setMap h2]
        · simp only [Array.toList_push]
          exact h3.push ⟨hkx, hvx, rfl, hkw, hvw⟩
      · cases h
    · cases h
  · cases h

theorem mapEnt_ok (hE : EnvOk E P) (sr : SR ok ω H lo fr tmps w) {t kt e : TypeId} {j : TInfo} {m k v : V} {xm xk : Value} {H' : Heap} (hd : E.desc t = some (.map kt e)) (hj : E.ti e = some j) (hk : keyOk E kt k = true) (hkw : k.whole = true) (hm : VR ω m xm) (hkx : VR ω k xk) (h : mapEnt E kt H m k j.zero = some (v, H')) :
    ∃ w' z, (Instr.mapEntry t xm xk).run P w = .ok z w' ∧ VR ω v z ∧ Post ok ω H lo fr w ω H' lo fr tmps w' := by
  have hd' := map_types hE hd
  have hck := fun em => checkKey_ok (w := w) hE hk hkx em
  obtain ⟨ji, z, e1, e2, e3, e4, e5, e6, e7, e8, e9, e10, _⟩ := tinfo_spec (hE.ti e j hj)
  unfold mapEnt at h
  split at h
  · rename_i id
    split at h
    · rename_i es c hg
      obtain ⟨bl, es', h1, rfl, h2, h3⟩ := map_at sr hg hm
      have hlt : bl.b < w.heap.size := (Array.getElem?_eq_some_iff.1 h2).1
      split at h
      · rename_i i v0 hf
        split at h
        · rename_i e0 he0
          simp only [Option.some.injEq, Prod.mk.injEq] at h
          obtain ⟨rfl, rfl⟩ := h
          obtain ⟨q, hq, x0, rfl, hx0⟩ := findKey_ok (w := w) hE hk hkx h3 hf
          obtain ⟨j', e0', hj', he0', hek, _⟩ := findE_at hf
          simp only [Nat.zero_add] at hj'
          subst hj'
          rw [he0] at he0'
          cases he0'
          obtain ⟨r0, hr0, her⟩ := h3.get he0
          have hr0' : es'[i]? = some r0 := by simpa using hr0
          have hks := keyStays_ok (P := P) (w := w) hk (by rw [← hek]; exact her.1) hkx
          have hsame : r0.key = xk := (sameBits_ok hk (by rw [← hek]; exact her.1) hkx).1
          have hmod : (es'.modify i fun e => { e with key := xk }) = es' := by
            apply Array.ext'
            rw [Array.toList_modify]
            apply List.ext_getElem?
            intro n
            rw [List.getElem?_modify]
            by_cases hn : i = n
            · subst hn
              rw [hr0]
              simp [← hsame]
            · simp [hn]
          refine ⟨World.setMap w bl.b (.map es' c), .tuple #[x0, goInt r0.born], ?_, ?_, ?_⟩
          · simp only [Instr.mapEntry, Sem.run_bind, run_underlying hd', Result.andThen_ok, run_getMap h2, hck, hq, hr0', Option.map_some, Option.getD_some, hks, hmod, run_setMap h2, Sem.run_pure]
          · simp only [VR]
            refine ⟨_, rfl, ?_, rfl⟩
            simp only [VRs]
            exact ⟨x0, _, rfl, hx0, _, [], rfl, by simp only [VR, goInt]; rw [her.2.2.1], trivial⟩
          · rw [setMap_self h2]
            exact .refl sr
        · cases h
      · rename_i hf
        simp only [Option.some.injEq, Prod.mk.injEq] at h
        obtain ⟨rfl, rfl⟩ := h
        obtain ⟨q, hq, hq2⟩ := findKey_ok (w := w) hE hk hkx h3 hf
        simp only [FindR] at hq2
        subst hq2
        have hz : (zeroValue e).run P w = .ok z w := by simp [zeroValue, typeInfo, e1, e5]
        have hzv := ofValue_ok (ω := ω) e6
        refine ⟨World.setMap w bl.b (.map (es'.push { key := xk, val := z, born := c }) (c + 1)), .tuple #[z, goInt c], ?_, ?_, Post.setMap sr hg h1 hlt ?_⟩
        · simp only [Instr.mapEntry, Sem.run_bind, run_underlying hd', Result.andThen_ok, run_getMap h2, hck, hq, hz, run_setMap h2, Sem.run_pure]
        · simp only [VR]
          refine ⟨_, rfl, ?_, rfl⟩
          simp only [VRs]
          exact ⟨z, _, rfl, hzv.1, _, [], rfl, by simp only [VR, goInt], trivial⟩
        · simp only [Array.toList_push]
          exact h3.push ⟨hkx, hzv.1, rfl, hkw, hzv.2⟩
      · cases h
    · cases h
  · cases h

theorem findIdx_ok : ∀ {es : List (V × V × Nat)} {l : List MapEntry} (n : Int), ERels ω es l → l.findIdx? (fun e => (e.born : Int) == n) = es.findIdx? (fun e => decide ((e.2.2 : Int) = n))
  | [], _, n, hr => by simp only [ERels] at hr; subst hr; rfl
  | e :: es, l, n, hr => by
    obtain ⟨e', l', rfl, h1, h2⟩ := hr
    simp only [List.findIdx?_cons, findIdx_ok n h2]
    rw [← h1.2.2.1]
    by_cases hn : (e.2.2 : Int) = n <;> simp [hn]
theorem entSet_ok (sr : SR ok ω H lo fr tmps w) {t : TypeId} {m s v : V} {xm xs xv : Value} {H' : Heap} (hvw : v.whole = true) (hm : VR ω m xm) (hs : VR ω s xs) (hvx : VR ω v xv) (h : entSet H m s v = some H') :
    ∃ w', (Instr.entryStore t xm xs xv).run P w = .ok () w' ∧ Post ok ω H lo fr w ω H' lo fr tmps w' := by
  unfold entSet at h
  split at h
  · rename_i id k n
    split at h
    · rename_i es c hg
      obtain ⟨bl, es', h1, rfl, h2, h3⟩ := map_at sr hg hm
      have hlt : bl.b < w.heap.size := (Array.getElem?_eq_some_iff.1 h2).1
      split at h
      · rename_i i hi
        simp only [Option.some.injEq] at h
        subst h
        simp only [VR] at hs
        subst hs
        have hfi : es'.findIdx? (fun e => (e.born : Int) == n) = some i := by
          have e1 : es' = es'.toList.toArray := by simp
          rw [e1, List.findIdx?_toArray, findIdx_ok n h3]
          exact hi
        refine ⟨World.setMap w bl.b (.map (es'.modify i fun e => { e with val := xv }) c), ?_, Post.setMap sr hg h1 hlt ?_⟩
        · simp only [Instr.entryStore, Sem.run_bind, Result.andThen_ok, run_getMap h2, asInt, asIntOf, Sem.run_pure, hfi, run_setMap h2]
        · simp only [modifyAt, Array.toList_modify]
          exact h3.modify i _ _ fun e1 e1' _ h5 => ⟨h5.1, hvx, h5.2.2.1, h5.2.2.2.1, hvw⟩
      · cases h
    · cases h
  · cases h
theorem mapDel_ok (hE : EnvOk E P) (sr : SR ok ω H lo fr tmps w) {t u ty kt e : TypeId} {m k : V} {xm xk : Value} {H' : Heap} (hd : E.desc t = some (.map kt e)) (hk : keyOk E kt k = true) (hm : VR ω m xm) (hkx : VR ω k xk) (h : mapDel E kt H m k = some H') :
    ∃ w', (Builtin.delete_ #[t, u] ty #[xm, xk]).run P w = .ok (.tuple #[]) w' ∧ Post ok ω H lo fr w ω H' lo fr tmps w' := by
  have hd' := map_types hE hd
  have hck := fun em => checkKey_ok (w := w) hE hk hkx em
  unfold mapDel at h
  split at h
  · simp only [Option.some.injEq] at h
    subst h
    simp only [VR] at hm
    subst hm
    exact ⟨w, by simp [Builtin.delete_, run_underlying hd', hck], .refl sr⟩
  · rename_i id
    split at h
    · rename_i es c hg
      obtain ⟨bl, es', h1, rfl, h2, h3⟩ := map_at sr hg hm
      have hlt : bl.b < w.heap.size := (Array.getElem?_eq_some_iff.1 h2).1
      split at h
      · rename_i i v0 hf
        simp only [Option.some.injEq] at h
        subst h
        obtain ⟨q, hq, x0, rfl, _⟩ := findKey_ok (w := w) hE hk hkx h3 hf
        refine ⟨World.setMap w bl.b (.map (es'.eraseIdxIfInBounds i) c), ?_, Post.setMap sr hg h1 hlt ?_⟩
        · simp [Builtin.delete_, run_underlying hd', run_getMap h2, hck, hq, run_setMap h2]
        · rw [Array.toList_eraseIdxIfInBounds]
          exact h3.erase i
      · rename_i hf
        simp only [Option.some.injEq] at h
        subst h
        obtain ⟨q, hq, hq2⟩ := findKey_ok (w := w) hE hk hkx h3 hf
        simp only [FindR] at hq2
        subst hq2
        have hid : World.setMap w bl.b (.map es' c) = w := setMap_self h2
        refine ⟨w, ?_, .refl sr⟩
        simp [Builtin.delete_, run_underlying hd', run_getMap h2, hck, hq, run_setMap h2, hid]
      · cases h
    · cases h
  · cases h
theorem makeMap_ok (sr : SR ok ω H lo fr tmps w) : ∃ ω', ω'.φ H.next = some ⟨w.heap.size, 0, 0⟩ ∧ Post ok ω H lo fr w ω' (H.alloc (.mapo [] 0)) lo fr tmps (w.alloc (.map #[] 0)) :=
  ⟨_, by simp, Post.new sr (.mapo [] 0) (.map #[] 0) 0 ⟨#[], Go.heap_alloc_new w _, by simp [ERels]⟩⟩
end
end Go.Abs
namespace Go.Abs
section
variable {P : Program} {ω : Om} {E : Env} {ok : FuncId → Nat → Code → Prop} {H : Heap} {lo : Nat → Option Nat} {fr : Fr} {a : Act} {tmps : Array Value} {w : World}

theorem opt_ok (hf : FR ω H lo fr a.tmps w) {x : Option Operand} {v : Option V} (h : opt fr x = some v) (hl : ∀ u, v = some u → u.isLoc = false) : OptR ω v (x.map a.eval) := by
  cases x with
  | none => simp only [opt, Option.some.injEq] at h; subst h; simp [OptR]
  | some x =>
    simp only [opt, Option.map_eq_some_iff] at h
    obtain ⟨u, hu, rfl⟩ := h
    exact ⟨_, rfl, (eval_ok hf hu).vr (hl u rfl)⟩
theorem maxInt_ok {f : Int → Int → Int} {g : Value → Value → Sem Value} (hg : ∀ k x k' y, g (.int k x) (.int k' y) = pure (.int k (f x y))) {vs : List V} {xs : List Value} {v : V} (hl : vs.length = xs.length) (hv : VRs ω vs xs) (h : maxInt f vs = some v) :
    ∃ y ys z, xs = y :: ys ∧ (ys.foldlM g y).run P w = .ok z w ∧ VR ω v z := by
  cases vs with
  | nil => simp [maxInt] at h
  | cons u us =>
    simp only [VRs] at hv
    obtain ⟨y, ys, rfl, hy, hys⟩ := hv
    cases u <;> simp only [maxInt, reduceCtorEq] at h
    rename_i k n
    simp only [VR] at hy
    subst hy
    simp only [Option.map_eq_some_iff] at h
    obtain ⟨m, hm, rfl⟩ := h
    suffices hs : ∀ (us : List V) (ys : List Value) (n : Int), us.length = ys.length → VRs ω us ys → us.foldlM (m := Option) (fun x v => match v with | .int k' b => if k = k' then some (f x b) else none | _ => none) n = some m → (ys.foldlM g (.int k n)).run P w = .ok (.int k m) w by
      exact ⟨.int k n, ys, .int k m, rfl, hs us ys n (by simpa using hl) hys hm, by simp only [VR]⟩
    intro us
    induction us with
    | nil =>
      intro ys n hl _ hm
      cases ys with
      | nil => simp at hm; subst hm; simp
      | cons => simp at hl
    | cons u us ih =>
      intro ys n hl hv hm
      simp only [VRs] at hv
      obtain ⟨y, ys', rfl, hy, hys'⟩ := hv
      cases u <;> simp [List.foldlM_cons] at hm
      rename_i k' b
      simp only [VR] at hy
      subst hy
      by_cases e : k = k'
      · subst e
        simp at hm
        rw [List.foldlM_cons, hg]
        simpa using ih ys' _ (by simpa using hl) hys' hm
      · simp [e] at hm

theorem two_args {ts : Array TypeId} {t u : TypeId} (h : ts.toList = [t, u]) : ts = #[t, u] := by
  apply Array.ext'
  simpa using h
theorem one_arg {ts : Array TypeId} {t : TypeId} (h : ts.toList = [t]) : ts = #[t] := by
  apply Array.ext'
  simpa using h

theorem args1 {x : V} {xs : Array Value} (hl : [x].length = xs.size) (hv : VRs ω [x] xs.toList) : ∃ y, xs = #[y] ∧ VR ω x y := by
  simp only [VRs] at hv
  obtain ⟨y, l, h1, h2, _⟩ := hv
  have : l = [] := by
    have h3 : (y :: l).length = 1 := by rw [← h1, Array.length_toList]; simpa using hl.symm
    simpa using h3
  subst this
  exact ⟨y, Array.ext' (by simpa using h1), h2⟩
theorem args2 {x u : V} {xs : Array Value} (hl : [x, u].length = xs.size) (hv : VRs ω [x, u] xs.toList) : ∃ y z, xs = #[y, z] ∧ VR ω x y ∧ VR ω u z := by
  simp only [VRs] at hv
  obtain ⟨y, l, h1, h2, z, l', rfl, h3, _⟩ := hv
  have : l' = [] := by
    have h4 : (y :: z :: l').length = 2 := by rw [← h1, Array.length_toList]; simpa using hl.symm
    simpa using h4
  subst this
  exact ⟨y, z, Array.ext' (by simpa using h1), h2, h3⟩

theorem rep_made (z : Array Value) (n : Nat) : Builtin.zeroCells z n = madeCells z (n * z.size) := rfl

theorem writeAt_cell {id off : Nat} {new : List V} {fr' : Fr} {H' : Heap} (h : writeAt fr H (.cell id off) new = some (fr', H')) : fr' = fr := by
  simp only [writeAt] at h
  split at h
  · simp only [Option.map_eq_some_iff, Prod.mk.injEq] at h
    obtain ⟨_, _, h3, _⟩ := h
    exact h3.symm
  · cases h
theorem clear_ok (hE : EnvOk E P) (sr : SR ok ω H lo fr tmps w) {t ty : TypeId} {x v : V} {y : Value} {fr' : Fr} {H' : Heap} (hx : VR ω x y)
    (h : builtinV E fr H .clear [t] [x] = some (.val v fr' H')) : ∃ w', (Builtin.clear_ #[t] ty #[y]).run P w = .ok (.tuple #[]) w' ∧ v = .tup [] ∧ fr' = fr ∧ Post ok ω H lo fr w ω H' lo fr tmps w' := by
  simp only [builtinV] at h
  split at h
  · rename_i k e hd
    have hd' := elem_spec hE hd
    simp only [Option.some.injEq, OR.val.injEq] at h
    obtain ⟨rfl, rfl, rfl⟩ := h
    simp only [VR] at hx
    subst hx
    exact ⟨w, by simp [Builtin.clear_, run_underlying hd'], rfl, rfl, .refl sr⟩
  · rename_i k e id hd
    have hd' := elem_spec hE hd
    split at h
    · rename_i es c hg
      simp only [Option.some.injEq, OR.val.injEq] at h
      obtain ⟨rfl, rfl, rfl⟩ := h
      obtain ⟨bl, es', h1, rfl, h2, h3⟩ := map_at sr hg hx
      have hlt : bl.b < w.heap.size := (Array.getElem?_eq_some_iff.1 h2).1
      refine ⟨World.setMap w bl.b (.map #[] c), ?_, rfl, rfl, Post.setMap sr hg h1 hlt (by simp [ERels])⟩
      simp [Builtin.clear_, run_underlying hd', run_getMap h2, run_setMap h2]
    · cases h
  · rename_i e hd
    have hd' := elem_spec hE hd
    split at h
    · rename_i n hn
      split at h
      · rename_i hn0
        subst hn0
        simp only [Option.some.injEq, OR.val.injEq] at h
        obtain ⟨rfl, rfl, rfl⟩ := h
        obtain ⟨ad, cap, rfl, _⟩ := isSlice hx hn
        refine ⟨w, ?_, rfl, rfl, .refl sr⟩
        cases ad <;> simp [Builtin.clear_, run_underlying hd']
      · rename_i hn0
        split at h
        · rename_i j id off len sz full hj
          split at h
          · rename_i e1
            subst e1
            simp only [Option.map_eq_some_iff, OR.val.injEq] at h
            obtain ⟨⟨fr1, h1⟩, hw, rfl, rfl, rfl⟩ := h
            simp only [sliceLen, Option.some.injEq] at hn
            subst hn
            simp only [VR] at hx
            obtain ⟨bl, o, cap, h2, rfl, h4, h5, h6, h7, h8⟩ := hx
            have hlen : len ≠ 0 := hn0
            have ho : o = bl.base + off := h7 (by omega)
            subst ho
            obtain ⟨ji, z, e1, e2, e3, e4, e5, e6, e7, e8, e9, e10, _⟩ := tinfo_spec (hE.ti e j hj)
            obtain ⟨hz1, hz2⟩ := ofValue_ok (ω := ω) e6
            obtain ⟨g1, g2⟩ := hz1.cells hz2
            have hr := rep_ok (ω := ω) g1 g2 len len (Nat.le_refl _)
            obtain ⟨ad', w', q1, q2, q3⟩ := write_ok (P := P) sr (p := .cell id off) (x := .pointer (some ⟨bl.b, bl.base + off, none⟩)) (xs := (madeCells z.cells (len * j.zero.cells.length)).toList) (by simp only [SlotR, VR]; exact ⟨bl, h2, rfl⟩) hw
              (by rw [rep_length]; simp [madeCells]) hr (flats_rep hz2 _)
            cases q1
            have hfr := writeAt_cell hw
            subst hfr
            have hzv : (zeroValue e).run P w = .ok z w := by simp [zeroValue, typeInfo, e1, e5]
            refine ⟨w', ?_, rfl, rfl, q3⟩
            have hne : ∀ (l : Nat), len = l + 1 → True := fun _ _ => trivial
            obtain ⟨l, rfl⟩ : ∃ l, len = l + 1 := ⟨len - 1, by omega⟩
            simp only [Builtin.clear_, List.getElem?_toArray, List.getElem?_cons_zero, Sem.run_bind, run_underlying hd', Result.andThen_ok, hzv, rep_made, ← g1, q2, Sem.run_pure]
          · cases h
        · cases h
    · cases h
  · cases h

theorem builtin_ok (hE : EnvOk E P) (sr : SR ok ω H lo fr tmps w) {b : Builtin} {ts : Array TypeId} {ty : TypeId} {cn : Array Bool} {vs : List V} {xs : Array Value} {v : V} {fr' : Fr} {H' : Heap} (hl : vs.length = xs.size) (hv : VRs ω vs xs.toList) (hrec : b ≠ .recover)
    (h : builtinV E fr H b ts.toList vs = some (.val v fr' H')) : Sim ok P ω H lo fr tmps w (builtin b ts ty cn xs) v fr' H' := by
  generalize hts : ts.toList = tl at h
  have h0 := h
  unfold builtinV at h
  split at h
  · rename_i t x
    obtain rfl := one_arg hts
    simp only [Option.map_eq_some_iff, OR.val.injEq] at h
    obtain ⟨v', h1, rfl, rfl, rfl⟩ := h
    obtain ⟨y, rfl, hy⟩ := args1 hl hv
    obtain ⟨z, h2, h3⟩ := len_ok (w := w) (ty := ty) hE sr hy h1
    exact Sim.post (s := Builtin.len_ #[t] ty #[y]) h2 (.of_vr h3) (.refl sr)
  · rename_i t x
    obtain rfl := one_arg hts
    obtain ⟨y, rfl, hy⟩ := args1 hl hv
    split at h
    · rename_i n e hd
      have hd' := elem_spec hE hd
      simp only [Option.some.injEq, OR.val.injEq] at h
      obtain ⟨rfl, rfl, rfl⟩ := h
      exact Sim.post (s := Builtin.cap_ #[t] ty #[y]) (x := .int .i64 n) (by simp [Builtin.cap_, run_underlying hd', goInt]) (.of_vr (by simp only [VR])) (.refl sr)
    · rename_i e hd
      have hd' := elem_spec hE hd
      split at h
      · simp only [Option.some.injEq, OR.val.injEq] at h
        obtain ⟨rfl, rfl, rfl⟩ := h
        simp only [VR] at hy
        subst hy
        exact Sim.post (s := Builtin.cap_ #[t] ty _) (x := .int .i64 0) (by simp [Builtin.cap_, run_underlying hd', goInt]) (.of_vr (by simp only [VR])) (.refl sr)
      · rename_i row off n
        simp only [Option.some.injEq, OR.val.injEq] at h
        obtain ⟨rfl, rfl, rfl⟩ := h
        simp only [VR] at hy
        obtain ⟨a', cap', rfl, g5, g6, g7, g8⟩ := hy
        have := g7 trivial
        subst this
        exact Sim.post (s := Builtin.cap_ #[t] ty _) (x := .int .i64 cap') (by simp [Builtin.cap_, run_underlying hd', goInt]) (.of_vr (by simp only [VR])) (.refl sr)
      · rename_i id off n sz
        simp only [Option.some.injEq, OR.val.injEq] at h
        obtain ⟨rfl, rfl, rfl⟩ := h
        simp only [VR] at hy
        obtain ⟨bl, o, cap', g1, rfl, g5, g6, g7, g8⟩ := hy
        have := g7 trivial
        subst this
        exact Sim.post (s := Builtin.cap_ #[t] ty _) (x := .int .i64 cap') (by simp [Builtin.cap_, run_underlying hd', goInt]) (.of_vr (by simp only [VR])) (.refl sr)
      · cases h
    · cases h
  · simp only [Option.map_eq_some_iff, OR.val.injEq] at h
    obtain ⟨v', h1, rfl, rfl, rfl⟩ := h
    obtain ⟨y, ys, z, h2, h3, h4⟩ := maxInt_ok (P := P) (w := w) (g := Builtin.max2) (fun k x k' y => rfl) (by simpa using hl) hv h1
    exact Sim.post (s := Builtin.max_ ts ty xs) (x := z) (by simp only [Builtin.max_, h2]; exact h3) (.of_vr h4) (.refl sr)
  · simp only [Option.map_eq_some_iff, OR.val.injEq] at h
    obtain ⟨v', h1, rfl, rfl, rfl⟩ := h
    obtain ⟨y, ys, z, h2, h3, h4⟩ := maxInt_ok (P := P) (w := w) (g := Builtin.min2) (fun k x k' y => rfl) (by simpa using hl) hv h1
    exact Sim.post (s := Builtin.min_ ts ty xs) (x := z) (by simp only [Builtin.min_, h2]; exact h3) (.of_vr h4) (.refl sr)
  · rename_i t u s x
    obtain rfl := two_args hts
    obtain ⟨y, z, rfl, hy, hz⟩ := args2 hl hv
    split at h
    · rename_i e j e2 h1 h2
      simp only [Option.map_eq_some_iff, OR.val.injEq] at h
      obtain ⟨⟨v', h'⟩, h3, rfl, rfl, rfl⟩ := h
      obtain ⟨e2', j2⟩ := e2
      obtain ⟨ω', w', z', g1, g2, g3⟩ := append_ok (w := w) (ty := ty) hE sr h1 h2 hy hz h3
      exact Sim.post (s := Builtin.append_ #[t, u] ty #[y, z]) g1 (.of_vr g2) g3
    · cases h
  · rename_i t u d s
    obtain rfl := two_args hts
    obtain ⟨y, z, rfl, hy, hz⟩ := args2 hl hv
    split at h
    · rename_i e j h1
      simp only [Option.map_eq_some_iff, OR.val.injEq] at h
      obtain ⟨⟨v', h'⟩, h3, rfl, rfl, rfl⟩ := h
      obtain ⟨w', z', g1, g2, g3⟩ := copy_ok (w := w) (u := u) (ty := ty) hE sr h1 hy hz h3
      exact Sim.post (s := Builtin.copy_ #[t, u] ty #[y, z]) g1 (.of_vr g2) g3
    · cases h
  · rename_i t x
    obtain rfl := one_arg hts
    obtain ⟨y, rfl, hy⟩ := args1 hl hv
    obtain ⟨w', g1, rfl, rfl, g2⟩ := clear_ok (w := w) (ty := ty) hE sr hy h0
    exact Sim.post (s := Builtin.clear_ #[t] ty #[y]) g1 (.of_vr (by simp only [VR]; exact ⟨#[], rfl, by simp [VRs], rfl⟩)) g2
  · rename_i t u m k
    obtain rfl := two_args hts
    obtain ⟨y, z, rfl, hy, hz⟩ := args2 hl hv
    split at h
    · rename_i kt e hd
      split at h
      · rename_i hk
        simp only [Option.map_eq_some_iff, OR.val.injEq] at h
        obtain ⟨h', h3, rfl, rfl, rfl⟩ := h
        obtain ⟨w', g1, g2⟩ := mapDel_ok (w := w) (u := u) (ty := ty) hE sr hd hk hy hz h3
        exact Sim.post (s := Builtin.delete_ #[t, u] ty #[y, z]) g1 (.of_vr (by simp only [VR]; exact ⟨#[], rfl, by simp [VRs], rfl⟩)) g2
      · cases h
    · cases h
  · cases h
  · exact absurd rfl hrec
  · cases h
end
end Go.Abs

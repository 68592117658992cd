import Derived.RangeFuncLeaves
import Derived.RangeFuncIn
import Derived.CheckFast
import Derived.Laws.Cells
import Derived.Laws.CopyRow
import Derived.Laws.StructEq
import Derived.IntWalk
/-
The abstract machine: values, heap, operations, and the predicate transformer over the elaborated code.
-/
namespace Am
open Go

/-- Abstract values. 'ptr', 'sl': into the abstract heap (block, cell offset). 'ptrR', 'slR': into read-only data that came in (the cells themselves). -/
inductive V where
  | int (k : IntKind) (n : Int)
  | bool (b : Bool)
  | str (s : ByteArray)
  | ptr (b off : Nat)
  | ptrR (cs : List V) (off : Nat)
  | ptrN
  | sl (b off len : Nat) (cap : Option Nat) (es : Nat)
  | slR (cs : List V) (off len : Nat) (cap : Option Nat)
  | slN
  | map (b : Option Nat)
  | chan (b : Option Nat)
  | func (f : FuncId) (first caps : List V)
  | yield (l : Nat)
  | nilF
  | iface (t : TypeId) (v : V)
  | nilI
  | agg (cs : List V)
  | tup (vs : List V)
  | undef
  deriving Inhabited

mutual
def V.beq : V → V → Bool
  | .int k n, .int k' n' => decide (k = k') && decide (n = n')
  | .bool a, .bool b => a == b
  | .str a, .str b => decide (a = b)
  | .ptr b o, .ptr b' o' => b == b' && o == o'
  | .ptrR cs o, .ptrR ds o' => o == o' && V.beqL cs ds
  | .ptrN, .ptrN => true
  | .sl b o l c e, .sl b' o' l' c' e' => b == b' && o == o' && l == l' && c == c' && e == e'
  | .slR cs o l c, .slR ds o' l' c' => o == o' && l == l' && c == c' && V.beqL cs ds
  | .slN, .slN => true
  | .map a, .map b => a == b
  | .chan a, .chan b => a == b
  | .func f as cs, .func g bs ds => f == g && V.beqL as bs && V.beqL cs ds
  | .yield a, .yield b => a == b
  | .nilF, .nilF => true
  | .iface t v, .iface u w => t == u && V.beq v w
  | .nilI, .nilI => true
  | .agg cs, .agg ds => V.beqL cs ds
  | .tup cs, .tup ds => V.beqL cs ds
  | .undef, .undef => true
  | _, _ => false
def V.beqL : List V → List V → Bool
  | [], [] => true
  | a :: as, b :: bs => V.beq a b && V.beqL as bs
  | _, _ => false
end

/-! ### Registers -/
abbrev Regs := List (Nat × V)
def rget : Regs → Nat → V
  | [], _ => .undef
  | (k, v) :: r, t => bif Nat.beq k t then v else rget r t
def rput (r : Regs) : Option Tmp → V → Regs
  | some d, v => (d, v) :: r
  | none, _ => r

/-- A constant of the code. -/
def ofConst : Nat → Value → V
  | _, .int k n => .int k n
  | _, .bool b => .bool b
  | _, .string s => .str s
  | _, .pointer none => .ptrN
  | _, .slice none 0 0 => .slN
  | _, .map none => .map none
  | _, .chan none => .chan none
  | _, .nilFunc => .nilF
  | _, .nilIface => .nilI
  | d + 1, .agg cs => bif cs.toList.all Value.oneCell' then .agg (cs.toList.map (ofConst d)) else .undef
  | d + 1, .iface t v => .iface t (ofConst d v)
  | _, _ => .undef

def ev (r : Regs) : Operand → V
  | .tmp t => rget r t
  | .const v => ofConst 3 v
  | .global _ => .undef
  | .func f => .func f [] []

/-! ### The heap -/
inductive Out where
  | normal
  | exit (id : Nat)
  | ret

inductive Obj where
  /-- cells, the cells of one element (of an array), whether an append has made it (its spare room is not known) -/
  | cells (cs : List V) (es : Nat) (grow : Bool)
  | map (kvs : List (V × V))
  | chan (cap : Nat) (buf : List V)
  | loop (st : LoopState) (pend : Option Out) (regs : Regs) (ps : List Tmp) (assign body : Code)
  | dead

inductive Tr where
  | nil
  | node (o : Option Obj) (l r : Tr)

def Tr.get : Tr → Nat → Option Obj
  | .nil, _ => none
  | .node o l r, i => bif Nat.beq i 0 then o else bif Nat.beq (i % 2) 1 then l.get ((i - 1) / 2) else r.get ((i - 1) / 2)

def Tr.setF : Nat → Tr → Nat → Obj → Tr
  | 0, t, _, _ => t
  | f + 1, .nil, i, x => bif Nat.beq i 0 then .node (some x) .nil .nil else bif Nat.beq (i % 2) 1 then .node none (Tr.setF f .nil ((i - 1) / 2) x) .nil else .node none .nil (Tr.setF f .nil ((i - 1) / 2) x)
  | f + 1, .node o l r, i, x => bif Nat.beq i 0 then .node (some x) l r else bif Nat.beq (i % 2) 1 then .node o (Tr.setF f l ((i - 1) / 2) x) r else .node o l (Tr.setF f r ((i - 1) / 2) x)

structure H where
  n : Nat
  tr : Tr

def H.get (h : H) (i : Nat) : Option Obj := h.tr.get i
def H.set (h : H) (i : Nat) (o : Obj) : H := ⟨h.n, Tr.setF (i + 1) h.tr i o⟩
def H.push (h : H) (o : Obj) : H := ⟨h.n + 1, Tr.setF (h.n + 1) h.tr h.n o⟩
def H.empty : H := ⟨0, .nil⟩

def H.cells? (h : H) (b : Nat) : Option (List V) :=
  match h.get b with
  | some (.cells cs _ _) => some cs
  | _ => none
/-- One cell. -/
def ld1 (h : H) (b off : Nat) : Option V :=
  match h.cells? b with
  | some cs => cs[off]?
  | none => none
/-- 'n' cells. -/
def cut (cs : List V) (off n : Nat) : Option (List V) := bif Nat.ble (off + n) cs.length then some ((cs.drop off).take n) else none
def ldN (h : H) (b off n : Nat) : Option (List V) :=
  match h.cells? b with
  | some cs => cut cs off n
  | none => none
def st1 (h : H) (b off : Nat) (v : V) : Option H :=
  match h.get b with
  | some (.cells cs es g) => bif Nat.blt off cs.length then some (h.set b (.cells (cs.set off v) es g)) else none
  | _ => none
def splice (cs : List V) (off : Nat) (vs : List V) : List V := cs.take off ++ vs ++ cs.drop (off + vs.length)
def stN (h : H) (b off : Nat) (vs : List V) : Option H :=
  match h.get b with
  | some (.cells cs es g) => bif Nat.ble (off + vs.length) cs.length then some (h.set b (.cells (splice cs off vs) es g)) else none
  | _ => none

/-! ### Continuations -/
def bindP {α : Type} (o : Option α) (K : α → Prop) : Prop :=
  match o with
  | some a => K a
  | none => False
def guardP (b : Bool) (K : Prop) : Prop :=
  match b with
  | true => K
  | false => False
def bcase (b : Bool) (A B : Prop) : Prop :=
  match b with
  | true => A
  | false => B
def asB (v : V) (K : Bool → Prop) : Prop :=
  match v with
  | .bool b => K b
  | _ => False

/-! ### Types -/
def isAggB (P : Program) (t : TypeId) : Bool :=
  match P.underlying t with
  | some (.struct _) | some (.array _ _) => true
  | _ => false
def knownT (P : Program) (t : TypeId) : Bool := (P.underlying t).isSome
def zeroV (P : Program) (t : TypeId) : Option V :=
  match P.info? t with
  | some i =>
    match i.zero with
    | some v => some (ofConst 3 v)
    | none => none
  | none => none
def partCells : V → Option (List V)
  | .agg cs => some cs
  | .tup _ | .undef => none
  | v => some [v]
def zeroCs (P : Program) (t : TypeId) : Option (List V) :=
  match zeroV P t with
  | some v => partCells v
  | none => none
def repl (n : Nat) (z : List V) : List V :=
  match z with
  | [v] => List.replicate n v
  | z => (List.replicate n z).flatten

def loadV (P : Program) (t : TypeId) (a : V) (h : H) : Option V :=
  match a with
  | .ptr b off =>
    bif isAggB P t then
      match ldN h b off (P.cellsOf t) with
      | some cs => some (.agg cs)
      | none => none
    else bif knownT P t then ld1 h b off else none
  | .ptrR cs off =>
    bif isAggB P t then
      match cut cs off (P.cellsOf t) with
      | some cs => some (.agg cs)
      | none => none
    else bif knownT P t then cs[off]? else none
  | _ => none
def storeV (P : Program) (t : TypeId) (a v : V) (h : H) : Option H :=
  match a with
  | .ptr b off =>
    match v with
    | .agg cs => bif Nat.beq cs.length (P.cellsOf t) && (P.info? t).isSome then stN h b off cs else none
    | .tup _ | .undef => none
    | v => bif Nat.beq (P.cellsOf t) 1 then st1 h b off v else none
  | _ => none

/-! ### Integers and the like -/
def arith (op : BinOp) (k : IntKind) (x y : Int) : Option V :=
  match op with
  | .add => some (.int k (k.wrap (x + y)))
  | .sub => some (.int k (k.wrap (x - y)))
  | .mul => some (.int k (k.wrap (x * y)))
  | .quo => bif decide (y = 0) then none else some (.int k (k.wrap (x.tdiv y)))
  | .rem => bif decide (y = 0) then none else some (.int k (x.tmod y))
  | .and => some (.int k (k.wrap (BitVec.ofInt k.bits x &&& BitVec.ofInt k.bits y).toNat))
  | .or => some (.int k (k.wrap (BitVec.ofInt k.bits x ||| BitVec.ofInt k.bits y).toNat))
  | .xor => some (.int k (k.wrap (BitVec.ofInt k.bits x ^^^ BitVec.ofInt k.bits y).toNat))
  | .andNot => some (.int k (k.wrap (BitVec.ofInt k.bits x &&& ~~~(BitVec.ofInt k.bits y)).toNat))
  | .eql => some (.bool (x == y))
  | .neq => some (.bool (x != y))
  | .lss => some (.bool (decide (x < y)))
  | .leq => some (.bool (decide (x ≤ y)))
  | .gtr => some (.bool (decide (x > y)))
  | .geq => some (.bool (decide (x ≥ y)))
  | _ => none
def shiftV (op : BinOp) (k : IntKind) (x y : Int) : Option V :=
  bif decide (y < 0) then none else
  match op with
  | .shl => some (.int k (k.wrap (x * 2 ^ (min y.toNat k.bits))))
  | .shr => some (.int k (x.fdiv (2 ^ (min y.toNat k.bits))))
  | _ => none
def strOp (op : BinOp) (a b : ByteArray) : Option V :=
  match op with
  | .add => bif decide (((a.size + b.size : Nat) : Int) > IntKind.i64.max) then none else some (.str (a ++ b))
  | .eql => some (.bool (a.toList == b.toList))
  | .neq => some (.bool !(a.toList == b.toList))
  | .lss => some (.bool (Op.bytesLess a.toList b.toList))
  | .leq => some (.bool (Op.bytesLess a.toList b.toList || a.toList == b.toList))
  | .gtr => some (.bool !(Op.bytesLess a.toList b.toList || a.toList == b.toList))
  | .geq => some (.bool !(Op.bytesLess a.toList b.toList))
  | _ => none
/-- A struct's or an array's part. -/
def partV (P : Program) (t : TypeId) (cs : List V) (off : Nat) : Option V :=
  bif isAggB P t then
    match cut cs off (P.cellsOf t) with
    | some cs => some (.agg cs)
    | none => none
  else bif knownT P t then cs[off]? else none
def eqV (P : Program) : Nat → TypeId → V → V → Option Bool
  | 0, _, _, _ => none
  | d + 1, t, x, y =>
    match P.underlying t, x, y with
    | some .bool, .bool a, .bool b => some (a == b)
    | some (.int _), .int k a, .int k' b => bif decide (k = k') then some (a == b) else none
    | some .string, .str a, .str b => some (a == b)
    | some (.pointer _), .ptrN, .ptrN => some true
    | some (.pointer _), .ptrN, .ptr _ _ | some (.pointer _), .ptrN, .ptrR _ _ | some (.pointer _), .ptr _ _, .ptrN | some (.pointer _), .ptrR _ _, .ptrN => some false
    | some (.interface _), .nilI, .nilI => some true
    | some (.interface _), .nilI, .iface _ _ | some (.interface _), .iface _ _, .nilI => some false
    | some (.interface _), .iface tx vx, .iface ty vy =>
      bif Nat.beq tx ty then
        match P.info? tx with
        | some i => bif i.comparable then eqV P d tx vx vy else none
        | none => none
      else some false
    | some (.struct fs), .agg xs, .agg ys => bif P.stoodInHeld t then none else
      fs.toList.foldr (fun f acc =>
        bif f.name == "_" then acc else
        match partV P f.type xs f.offset, partV P f.type ys f.offset with
        | some a, some b =>
          match eqV P d f.type a b with
          | some true => acc
          | some false => some false
          | none => none
        | _, _ => none) (some true)
    | some (.slice _), .slN, .slN => some true
    | some (.slice _), .slN, .sl .. | some (.slice _), .slN, .slR .. | some (.slice _), .sl .., .slN | some (.slice _), .slR .., .slN => some false
    | some (.map _ _), .map none, .map none => some true
    | some (.map _ _), .map none, .map (some _) | some (.map _ _), .map (some _), .map none => some false
    | some (.chan _ _), .chan none, .chan none => some true
    | some (.chan _ _), .chan none, .chan (some _) | some (.chan _ _), .chan (some _), .chan none => some false
    | some (.func ..), .nilF, .nilF => some true
    | some (.func ..), .nilF, .func .. | some (.func ..), .func .., .nilF => some false
    | _, _, _ => none
def isConstO : Operand → Bool
  | .const _ => true
  | _ => false
/-- What the model does not settle: two nil values of an interface type, neither of them the literal nil. -/
def eqBad (P : Program) (t : TypeId) (x y : Operand) (a b : V) : Bool :=
  match a, b with
  | .nilI, .nilI => bif isConstO x then false else !isConstO y
  | .agg _, .agg _ => P.eqGuardType P.depth t
  | _, _ => false
def binV (P : Program) (op : BinOp) (t : TypeId) (x y : Operand) (a b : V) : Option V :=
  match a, b with
  | .int k a, .int k' b =>
    match op with
    | .shl | .shr => shiftV op k a b
    | _ => bif decide (k = k') then arith op k a b else none
  | .str a, .str b => strOp op a b
  | a, b =>
    bif eqBad P t x y a b then none else
    match op with
    | .eql =>
      match eqV P 100 t a b with
      | some r => some (.bool r)
      | none => none
    | .neq =>
      match eqV P 100 t a b with
      | some r => some (.bool !r)
      | none => none
    | _ => none
def unV (op : UnOp) (x : V) : Option V :=
  match op, x with
  | .neg, .int k n => some (.int k (k.wrap (0 - n)))
  | .not, .bool b => some (.bool !b)
  | _, _ => none
def convV (P : Program) (src dst : TypeId) (x : V) (h : H) : Option V :=
  match P.underlying src, P.underlying dst, x with
  | some _, some (.int k), .int _ n => some (.int k (k.wrap n))
  | some _, some .string, .str s => some (.str s)
  | some (.slice e), some .string, x =>
    match P.underlying e with
    | some (.int .u8) =>
      match x with
      | .slN => some (.str .empty)
      | .sl b off len _ _ =>
        match ldN h b off len with
        | some cs => bytesOf cs
        | none => none
      | .slR cs off len _ =>
        match cut cs off len with
        | some cs => bytesOf cs
        | none => none
      | _ => none
    | _ => none
  | _, _, _ => none
where
  bytesOf (cs : List V) : Option V := (go cs).map fun l => .str ⟨l.toArray⟩
  go : List V → Option (List UInt8)
    | [] => some []
    | .int .u8 n :: cs =>
      match go cs with
      | some l => some (UInt8.ofNat n.toNat :: l)
      | none => none
    | _ => none

/-! ### Addresses and slices -/
def fieldA (P : Program) (s : TypeId) (x : V) (f : Nat) : Option V :=
  match P.underlying s with
  | some (.struct fs) =>
    match fs[f]? with
    | some fd =>
      bif Nat.beq (P.cellsOf fd.type) 0 || !(P.info? fd.type).isSome then none else
      match x with
      | .ptr b off => some (.ptr b (off + fd.offset))
      | .ptrR cs off => some (.ptrR cs (off + fd.offset))
      | _ => none
    | none => none
  | _ => none
def fieldV (P : Program) (s : TypeId) (x : V) (f : Nat) : Option V :=
  match P.underlying s with
  | some (.struct fs) =>
    match fs[f]? with
    | some fd =>
      match x with
      | .agg cs => partV P fd.type cs fd.offset
      | _ => none
    | none => none
  | _ => none
def indexA (P : Program) (t : TypeId) (x i : V) : Option V :=
  match i with
  | .int _ i =>
    match P.underlying t with
    | some (.slice e) =>
      bif !(P.info? e).isSome then none else
      match x with
      | .sl b off len _ _ => bif decide (0 ≤ i) && decide (i < (len : Int)) then some (.ptr b (off + i.toNat * P.cellsOf e)) else none
      | .slR cs off len _ => bif decide (0 ≤ i) && decide (i < (len : Int)) then some (.ptrR cs (off + i.toNat * P.cellsOf e)) else none
      | _ => none
    | some (.array len e) =>
      bif !(P.info? e).isSome then none else
      match x with
      | .ptr b off => bif decide (0 ≤ i) && decide (i < (len : Int)) then some (.ptr b (off + i.toNat * P.cellsOf e)) else none
      | .ptrR cs off => bif decide (0 ≤ i) && decide (i < (len : Int)) then some (.ptrR cs (off + i.toNat * P.cellsOf e)) else none
      | _ => none
    | _ => none
  | _ => none
def indexV (P : Program) (t : TypeId) (x i : V) : Option V :=
  match i with
  | .int _ i =>
    match P.underlying t, x with
    | some (.array len e), .agg cs => bif decide (0 ≤ i) && decide (i < (len : Int)) then partV P e cs (i.toNat * P.cellsOf e) else none
    | some .string, .str s =>
      bif decide (0 ≤ i) then
        match s[i.toNat]? with
        | some b => some (.int .u8 b.toNat)
        | none => none
      else none
    | _, _ => none
  | _ => none
/-- A bound: its number, if it lies between 0 and 'most'. -/
def bound (v : Option V) (dflt : Nat) : Option Nat :=
  match v with
  | none => some dflt
  | some (.int _ i) => bif decide (0 ≤ i) then some i.toNat else none
  | some _ => none
def sliceV (P : Program) (t : TypeId) (x : V) (low high max : Option V) : Option V :=
  match P.underlying t with
  | some (.slice e) =>
    bif !(P.info? e).isSome then none else
    let es := P.cellsOf e
    match x with
    | .sl b off len cap es' =>
      bif !Nat.beq es es' then none else
      match bound low 0, bound high len with
      | some l, some h =>
        match max with
        | none =>
          bif Nat.ble l h && Nat.ble h len then
            some (.sl b (off + l * es) (h - l) (cap.map (· - l)) es)
          else none
        | some m =>
          match high, bound (some m) 0 with
          | some _, some m => bif Nat.ble l h && Nat.ble h m && Nat.ble m len then some (.sl b (off + l * es) (h - l) (some (m - l)) es) else none
          | _, _ => none
      | _, _ => none
    | .slR cs off len cap =>
      match bound low 0, bound high len with
      | some l, some h =>
        match max with
        | none =>
          bif Nat.ble l h && Nat.ble h len then
            some (.slR cs (off + l * es) (h - l) (cap.map (· - l)))
          else none
        | some m =>
          match high, bound (some m) 0 with
          | some _, some m => bif Nat.ble l h && Nat.ble h m && Nat.ble m len then some (.slR cs (off + l * es) (h - l) (some (m - l))) else none
          | _, _ => none
      | _, _ => none
    | .slN =>
      match bound low 0, bound high 0 with
      | some 0, some 0 =>
        match max with
        | none => some .slN
        | some m =>
          match high, bound (some m) 0 with
          | some _, some 0 => some .slN
          | _, _ => none
      | _, _ => none
    | _ => none
  | some .string =>
    match x, max with
    | .str s, none =>
      match bound low 0, bound high s.size with
      | some l, some h => bif Nat.ble l h && Nat.ble h s.size then some (.str (s.extract l h)) else none
      | _, _ => none
    | _, _ => none
  | _ => none

/-! ### Maps, interfaces -/
def keyEq (k k' : V) : Option Bool :=
  match k, k' with
  | .int j a, .int j' b => bif decide (j = j') then some (a == b) else none
  | .str a, .str b => some (a == b)
  | .bool a, .bool b => some (a == b)
  | _, _ => none
/-- The entry of a key: 'some none': there is none. -/
def mfind (k : V) : List (V × V) → Option (Option V)
  | [] => some none
  | (k', v) :: r =>
    match keyEq k k' with
    | some true => some (some v)
    | some false => mfind k r
    | none => none
def mput (k v : V) : List (V × V) → List (V × V)
  | [] => [(k, v)]
  | (k', v') :: r => bif (keyEq k k' == some true) then (k, v) :: r else (k', v') :: mput k v r
def keyKind (P : Program) (t : TypeId) (k : V) : Bool :=
  match P.underlying t, k with
  | some (.int q), .int q' _ => decide (q = q')
  | some .string, .str _ => true
  | some .bool, .bool _ => true
  | _, _ => false
def lookV (P : Program) (t : TypeId) (m k : V) (ok : Bool) (h : H) : Option V :=
  match P.underlying t with
  | some (.map kt e) =>
    bif !keyKind P kt k then none else
    match zeroV P e with
    | none => none
    | some z =>
      match m with
      | .map none => some (bif ok then .tup [z, .bool false] else z)
      | .map (some b) =>
        match h.get b with
        | some (.map kvs) =>
          match mfind k kvs with
          | some (some v) => some (bif ok then .tup [v, .bool true] else v)
          | some none => some (bif ok then .tup [z, .bool false] else z)
          | none => none
        | _ => none
      | _ => none
  | _ => none
def assertV (P : Program) (x : V) (asserted : TypeId) (ok : Bool) : Option V :=
  match P.underlying asserted with
  | some (.interface _) | none => none
  | some _ =>
    match x with
    | .iface t v =>
      bif Nat.beq t asserted then some (bif ok then .tup [v, .bool true] else v)
      else bif ok then
        match zeroV P asserted with
        | some z => some (.tup [z, .bool false])
        | none => none
      else none
    | .nilI =>
      bif ok then
        match zeroV P asserted with
        | some z => some (.tup [z, .bool false])
        | none => none
      else none
    | _ => none
def lenV (P : Program) (t : TypeId) (x : V) (h : H) : Option V :=
  match P.underlying t, x with
  | some .string, .str s => some (.int .i64 s.size)
  | some (.slice _), .sl _ _ n _ _ | some (.slice _), .slR _ _ n _ => some (.int .i64 n)
  | some (.slice _), .slN => some (.int .i64 0)
  | some (.array n _), _ => some (.int .i64 n)
  | some (.map _ _), .map none => some (.int .i64 0)
  | some (.map _ _), .map (some b) =>
    match h.get b with
    | some (.map kvs) => some (.int .i64 kvs.length)
    | _ => none
  | some (.chan _ _), .chan (some b) =>
    match h.get b with
    | some (.chan _ buf) => some (.int .i64 buf.length)
    | _ => none
  | some (.chan _ _), .chan none => some (.int .i64 0)
  | _, _ => none
def minV : List V → Option V
  | [] => none
  | x :: xs => xs.foldl (fun a y => match a, y with
    | some (.int k x), .int _ y => some (.int k (if y < x then y else x))
    | _, _ => none) (some x)
def maxV : List V → Option V
  | [] => none
  | x :: xs => xs.foldl (fun a y => match a, y with
    | some (.int k x), .int _ y => some (.int k (if y > x then y else x))
    | _, _ => none) (some x)

/-! ### The operations that leave the heap alone -/
def readOp (P : Program) (o : Op) (ρ : Operand → V) (h : H) : Option V :=
  match o with
  | .move x | .assign x => some (ρ x)
  | .pick c a b =>
    match ρ c with
    | .bool t => some (bif t then ρ a else ρ b)
    | _ => none
  | .build t parts =>
    match P.underlying t, zeroCs P t with
    | some (.struct fs), some z => bif !(fs.toList.all fun f => (P.info? f.type).isSome) then none else fill (fun i => (fs[i]?).map fun f => (f.offset, P.cellsOf f.type)) z (parts.toList.map fun (i, x) => (i, ρ x))
    | some (.array _ e), some z => bif !(P.info? e).isSome then none else fill (fun i => some (i * P.cellsOf e, P.cellsOf e)) z (parts.toList.map fun (i, x) => (i, ρ x))
    | _, _ => none
  | .load t a => loadV P t (ρ a) h
  | .nilCheck x =>
    match ρ x with
    | .ptrN | .nilI | .nilF | .undef => none
    | v => some v
  | .binOp op t x y _ => binV P op t x y (ρ x) (ρ y)
  | .unOp op _ x => unV op (ρ x)
  | .convert s d x => convV P s d (ρ x) h
  | .makeInterface t x =>
    match P.underlying t with
    | some (.interface _) | none => none
    | some _ => some (.iface t (ρ x))
  | .makeFunc (.func f) first caps => some (.func f (first.toList.map ρ) (caps.toList.map ρ))
  | .slice t x lo hi mx => sliceV P t (ρ x) (lo.map ρ) (hi.map ρ) (mx.map ρ)
  | .fieldAddr s x f => fieldA P s (ρ x) f
  | .field s x f => fieldV P s (ρ x) f
  | .indexAddr t x i => indexA P t (ρ x) (ρ i)
  | .index t x i => indexV P t (ρ x) (ρ i)
  | .lookup t m k ok => lookV P t (ρ m) (ρ k) ok h
  | .typeAssert x _ t ok => assertV P (ρ x) t ok
  | .extract t i =>
    match ρ t with
    | .tup vs => vs[i]?
    | _ => none
  | .call { callee := .builtin .len, args, argTypes } =>
    match argTypes[0]?, args[0]? with
    | some t, some x => lenV P t (ρ x) h
    | _, _ => none
  | .call { callee := .builtin .min, args, .. } => minV (args.toList.map ρ)
  | .call { callee := .builtin .max, args, .. } => maxV (args.toList.map ρ)
  | _ => none
where
  fill (place : Nat → Option (Nat × Nat)) : List V → List (Nat × V) → Option V
    | cs, [] => some (.agg cs)
    | cs, (i, v) :: rest =>
      match place i, partCells v with
      | some (off, size), some pc => bif Nat.beq pc.length size && Nat.ble (off + pc.length) cs.length then fill place (splice cs off pc) rest else none
      | _, _ => none

/-! ### The operations that make one block -/
def most : Nat := 4294967296
def fillS (es : Nat) : List V → List (Nat × V) → Option (List V)
  | cs, [] => some cs
  | cs, (i, v) :: rest =>
    match partCells v with
    | some pc => bif Nat.beq pc.length es && Nat.ble (i * es + pc.length) cs.length then fillS es (splice cs (i * es) pc) rest else none
    | none => none
def allocOp (P : Program) (o : Op) (ρ : Operand → V) : Option (Obj × (Nat → V)) :=
  match o with
  | .alloc t =>
    match zeroCs P t with
    | some z => some (.cells z z.length false, fun b => .ptr b 0)
    | none => none
  | .box _ x =>
    match partCells (ρ x) with
    | some cs => some (.cells cs cs.length false, fun b => .ptr b 0)
    | none => none
  | .buildSlice t len parts =>
    match P.underlying t with
    | some (.slice e) =>
      let es := P.cellsOf e
      match zeroCs P e with
      | some z =>
        bif Nat.ble (len * es) 16777216 && Nat.beq z.length es then
          match fillS es (repl len z) (parts.toList.map fun (i, x) => (i, ρ x)) with
          | some cs => some (.cells cs es false, fun b => .sl b 0 len none es)
          | none => none
        else none
      | none => none
    | _ => none
  | .makeSlice t l c =>
    match P.underlying t, ρ l, ρ c with
    | some (.slice e), .int .i64 l, .int .i64 c =>
      let es := P.cellsOf e
      match zeroCs P e with
      | some z =>
        bif decide (0 ≤ l) && decide (l ≤ c) && decide (c ≤ most) && Nat.ble (P.bytesOf e) 4096 && Nat.beq z.length es && !Nat.beq es 0 then
          some (.cells (repl c.toNat z) es false, fun b => .sl b 0 l.toNat none es)
        else none
      | none => none
    | _, _, _ => none
  | .makeMap t none =>
    match P.underlying t with
    | some (.map _ _) => some (.map [], fun b => .map (some b))
    | _ => none
  | .makeChan t s =>
    match P.underlying t, ρ s with
    | some (.chan _ e), .int _ n =>
      bif decide (0 ≤ n) && decide (n ≤ most) && Nat.ble (P.bytesOf e) 4096 && (P.info? e).isSome then some (.chan n.toNat [], fun b => .chan (some b)) else none
    | _, _ => none
  | _ => none

/-! ### The operations that change the heap -/
/-- The cells of what is appended, or copied. -/
def srcCells (x : V) (es n : Nat) (h : H) : Option (List V) :=
  match x with
  | .sl b off _ _ es' => bif Nat.beq es es' then ldN h b off (n * es) else none
  | .slR cs off _ _ => cut cs off (n * es)
  | .slN => some []
  | .str s => bif Nat.beq es 1 then some ((s.data.toList.take n).map fun b => .int .u8 b.toNat) else none
  | _ => none
def srcLen : V → Option Nat
  | .sl _ _ n _ _ | .slR _ _ n _ => some n
  | .slN => some 0
  | .str s => some s.size
  | _ => none
/-- There is room for an array of so many, and its elements have a zero. -/
def roomOk (P : Program) (e : TypeId) (need : Nat) : Bool :=
  Nat.ble need most && Nat.ble (P.bytesOf e) 4096 &&
  match zeroCs P e with
  | some z => Nat.beq z.length (P.cellsOf e)
  | none => false
/-- A new array, made by an append. -/
def grown (P : Program) (e : TypeId) (need : Nat) (cs : List V) (h : H) (Q : V → H → Prop) : Prop :=
  guardP (roomOk P e need) (Q (.sl h.n 0 need none (P.cellsOf e)) (h.push (.cells cs (P.cellsOf e) true)))
def appendW (P : Program) (e : TypeId) (s x : V) (h : H) (Q : V → H → Prop) : Prop :=
  bindP (srcLen x) fun n =>
  bindP (srcCells x (P.cellsOf e) n h) fun new =>
  match s with
  | .slN => bif Nat.beq n 0 then Q .slN h else grown P e n new h Q
  | .sl b off len cap es0 =>
    match h.get b with
    | some (.cells cs es g) =>
      guardP (Nat.beq es (P.cellsOf e) && Nat.beq es0 es && !Nat.beq es 0) <|
      match cap, g with
      | none, true =>
        bif Nat.ble (off + (len + n) * es) cs.length then bindP (stN h b (off + len * es) new) fun h' => Q (.sl b off (len + n) none es) h'
        else guardP (Nat.beq (off + len * es) cs.length && roomOk P e (len + n)) (Q (.sl h.n 0 (len + n) none es) ((h.set b .dead).push (.cells (cs.drop off ++ new) es true)))
      | cap, _ =>
        bif Nat.ble (len + n) (cap.getD ((cs.length - off) / es)) then bindP (stN h b (off + len * es) new) fun h' => Q (.sl b off (len + n) cap es) h'
        else bindP (cut cs off (len * es)) fun old => grown P e (len + n) (old ++ new) h Q
    | _ => False
  | .slR cs off len cap =>
    bif Nat.beq n 0 then Q s h else
    bindP cap fun c => guardP (Nat.blt c (len + n)) <| bindP (cut cs off (len * P.cellsOf e)) fun old => grown P e (len + n) (old ++ new) h Q
  | _ => False
def copyW (P : Program) (e : TypeId) (d x : V) (h : H) (Q : V → H → Prop) : Prop :=
  bindP (srcLen x) fun n => bindP (srcLen d) fun m =>
  bindP (srcCells x (P.cellsOf e) (Nat.min n m) h) fun new =>
  match d with
  | .slN => Q (.int .i64 0) h
  | .sl b off _ _ _ => bindP (stN h b off new) fun h' => Q (.int .i64 (Nat.min n m)) h'
  | _ => False
def clearW (P : Program) (t : TypeId) (x : V) (h : H) (Q : V → H → Prop) : Prop :=
  match P.underlying t with
  | some (.slice e) =>
    match x with
    | .slN => Q (.tup []) h
    | .sl b off n _ _ => bif Nat.beq n 0 then Q (.tup []) h else bindP (zeroCs P e) fun z => guardP (Nat.beq z.length (P.cellsOf e) && !Nat.beq z.length 0) <| bindP (stN h b off (repl n z)) fun h' => Q (.tup []) h'
    | _ => False
  | _ => False
def mapUpW (P : Program) (t : TypeId) (m k v : V) (h : H) (Q : V → H → Prop) : Prop :=
  match P.underlying t with
  | some (.map kt _) =>
    guardP (keyKind P kt k) <|
    match m with
    | .map (some b) =>
      match h.get b with
      | some (.map kvs) => bindP (mfind k kvs) fun _ => guardP (match v with | .undef => false | _ => true) (Q .undef (h.set b (.map (mput k v kvs))))
      | _ => False
    | _ => False
  | _ => False
/-- A select of one case with a default, in one goroutine. -/
def selectW (P : Program) (cs : Array SelectCase) (blocking : Bool) (ρ : Operand → V) (h : H) (Q : V → H → Prop) : Prop :=
  match cs.toList, blocking with
  | [c], false =>
    match ρ c.chan with
    | .chan (some b) =>
      match h.get b with
      | some (.chan cap buf) =>
        bindP (zeroV P c.elem) fun z =>
        match c.send with
        | some x => guardP (match ρ x with | .undef | .tup _ => false | _ => true) <|
          bif Nat.blt buf.length cap then Q (.tup [.int .i64 0, .bool false]) (h.set b (.chan cap (buf ++ [ρ x]))) else Q (.tup [.int .i64 (-1), .bool false]) h
        | none =>
          match buf with
          | v :: rest => Q (.tup [.int .i64 0, .bool true, v]) (h.set b (.chan cap rest))
          | [] => Q (.tup [.int .i64 (-1), .bool false, z]) h
      | _ => False
    | _ => False
  | _, _ => False

/-! ### Code -/
abbrev Post := V → H → Prop
/-- What functions, and the rounds of a range over a function, do. -/
structure Sem where
  /-- how many rounds a loop may have -/
  n : Nat
  call : FuncId → List V → H → Post → Prop
  /-- a deferred call -/
  dcall : FuncId → List V → H → Post → Prop
  yield : Nat → List V → H → Post → Prop
/-- Deferred calls; 'none': the mark of a range over a function. -/
abbrev Df := List (Option (FuncId × List V))

inductive Kind where
  | read | alloc | eff
  deriving DecidableEq
def kindOf : Op → Kind
  | .alloc _ | .box .. | .buildSlice .. | .makeSlice .. | .makeMap .. | .makeChan .. => .alloc
  | .store .. | .mapUpdate .. | .insert .. | .go _ | .defer _ | .panic _ | .send .. | .recv .. | .select .. | .ready _ | .waits _ | .sliceToArrayPointer .. | .mapEntry .. | .entryStore .. | .range .. | .next .. | .entry _ => .eff
  | .call { callee := .builtin .len, .. } | .call { callee := .builtin .min, .. } | .call { callee := .builtin .max, .. } => .read
  | .call _ => .eff
  | _ => .read

/-- The method that an interface value's dynamic type has: a method of a pointer. -/
def methodF (P : Program) (t : TypeId) (name : String) : Option FuncId :=
  match P.info? t, P.underlying t with
  | some i, some (.pointer _) =>
    match i.methods.find? (·.name == name) with
    | some m =>
      match m.path.isEmpty, m.func with
      | true, some (f, true) => some f
      | _, _ => none
    | none => none
  | _, _ => none

def callVal (S : Sem) (f : V) (args : List V) (h : H) (Q : Post) : Prop :=
  match f with
  | .func f first caps => S.call f (first ++ args ++ caps) h Q
  | .yield l => S.yield l args h Q
  | _ => False

def effW (P : Program) (S : Sem) (rd : Bool) (o : Oper) (ρ : Operand → V) (D : Df) (h : H) (Q : V → Df → H → Prop) : Prop :=
  match o.op with
  | .store t a x => bindP (storeV P t (ρ a) (ρ x) h) fun h' => Q .undef D h'
  | .mapUpdate t m k x => mapUpW P t (ρ m) (ρ k) (ρ x) h fun v h' => Q v D h'
  | .select cs b => selectW P cs b ρ h fun v h' => Q v D h'
  | .defer { callee := .value f, args, .. } =>
    bif rd then False else
    match ρ f with
    | .func f first caps => Q .undef (some (f, first ++ args.toList.map ρ ++ caps) :: D) h
    | _ => False
  | .call { callee := .builtin .append, args, argTypes } =>
    match argTypes[0]?, argTypes[1]?, args[0]?, args[1]? with
    | some t, some u, some s, some x =>
      match P.underlying t, P.underlying u with
      | some (.slice e), some (.slice _) | some (.slice e), some .string => guardP (P.info? e).isSome <| appendW P e (ρ s) (ρ x) h fun v h' => Q v D h'
      | _, _ => False
    | _, _, _, _ => False
  | .call { callee := .builtin .copy, args, argTypes } =>
    match argTypes[0]?, args[0]?, args[1]? with
    | some t, some d, some x =>
      match P.underlying t with
      | some (.slice e) => guardP (P.info? e).isSome <| copyW P e (ρ d) (ρ x) h fun v h' => Q v D h'
      | _ => False
    | _, _, _ => False
  | .call { callee := .builtin .clear, args, argTypes } =>
    match argTypes[0]?, args[0]? with
    | some t, some x => clearW P t (ρ x) h fun v h' => Q v D h'
    | _, _ => False
  | .call { callee := .builtin _, .. } => False
  | .call { callee := .invoke r name, args, .. } =>
    match ρ r with
    | .iface t v => bindP (methodF P t name) fun f => S.call f (v :: args.toList.map ρ) h fun v h' => Q v D h'
    | _ => False
  | .call { callee := .value f, args, .. } => callVal S (ρ f) (args.toList.map ρ) h fun v h' => Q v D h'
  | _ => False

def opW (P : Program) (S : Sem) (rd : Bool) (o : Oper) (ρ : Operand → V) (D : Df) (h : H) (Q : V → Df → H → Prop) : Prop :=
  match kindOf o.op with
  | .read => bindP (readOp P o.op ρ h) fun v => Q v D h
  | .alloc => bindP (allocOp P o.op ρ) fun om => Q (om.2 h.n) D (h.push om.1)
  | .eff => effW P S rd o ρ D h Q

/-- An operation's guard: what it is decides whether the operation is carried out; behind the look it stands in its register as a literal. -/
def guardW (ops : Array Oper) (o : Oper) (r : Regs) (A B : Regs → Prop) : Prop :=
  match o.guard with
  | none => A r
  | some (j, want) =>
    match (ops[j]?).bind (·.dst) with
    | none => False
    | some d =>
      match rget r d with
      | .bool true => bif want then A ((d, .bool true) :: r) else B ((d, .bool true) :: r)
      | .bool false => bif want then B ((d, .bool false) :: r) else A ((d, .bool false) :: r)
      | .tup vs => B ((d, .tup vs) :: r)
      | _ => False

/-- Operations in a given order. 'w': what has been read so far and must stay as it was behind an operation that changes the heap: (the operation's number, its result). -/
def opsW (P : Program) (S : Sem) (rd : Bool) (ops : Array Oper) : List Nat → Regs → Df → H → (Regs → Df → H → Prop) → Prop
  | [], r, D, h, Q => Q r D h
  | i :: is, r, D, h, Q =>
    match ops[i]? with
    | none => False
    | some o => guardW ops o r
        (fun r => opW P S rd o (ev r) D h fun v D' h' => opsW P S rd ops is (rput r o.dst v) D' h' Q)
        (fun r => opsW P S rd ops is (rput r o.dst (.tup [])) D h Q)

end Am

/-
The predicate transformer over code: regions (drawn ones by a canonical order), control, calls.
-/
namespace Am
open Go

/-! ### Sets of numbers as bits -/
def bit (t : Nat) : Nat := 2 ^ t
def without (a b : Nat) : Nat := Nat.xor a (Nat.land a b)
def bitsGo : Nat → Nat → Nat → List Nat
  | 0, _, _ => []
  | f + 1, i, m => bif Nat.beq m 0 then [] else bif Nat.beq (m % 2) 1 then i :: bitsGo f (i + 1) (m / 2) else bitsGo f (i + 1) (m / 2)
def bitsOf (m : Nat) : List Nat := bitsGo 4096 0 m
def hasBit (m i : Nat) : Bool := Nat.beq (m / 2 ^ i % 2) 1

/-! ### The canonical order of a drawn region -/
/-- The operations that must come ahead of one, by its own edges. -/
def predMask (o : Oper) : Nat := o.after.toList.foldl (fun m e => bif Region.binds .any e then Nat.lor m (bit e.on) else m) 0
def isEff (o : Oper) : Bool :=
  match kindOf o.op with
  | .eff => true
  | _ => false
def pickNext (done : Nat) (want : Bool) : List (Nat × Nat × Bool) → Option Nat
  | [] => none
  | (i, m, e) :: r => bif Nat.beq (Nat.land m done) m && (e == want) then some i else pickNext done want r
def canonGo : Nat → Nat → List (Nat × Nat × Bool) → List Nat
  | 0, _, _ => []
  | f + 1, done, rest =>
    match (match pickNext done false rest with
      | some i => some i
      | none => pickNext done true rest) with
    | some i => i :: canonGo f (Nat.lor done (bit i)) (rest.filter fun x => !Nat.beq x.1 i)
    | none => []
def canon (ops : Array Oper) : List Nat :=
  let l := ops.toList.zipIdx.map fun (o, i) => (i, predMask o, isEff o)
  canonGo l.length 0 l

/-- Does an operation read what an effect may change? -/
def readsHeap : Op → Bool
  | .load .. | .lookup .. => true
  | .convert .. => true
  | .call _ => true
  | _ => false
def chk (o : Option V) (v : V) : Bool :=
  match o with
  | some w => V.beq w v
  | none => false
/-- What has been read: the operation's number, the operation, the registers at its time, its value. -/
abbrev Watch := List (Nat × Op × Regs × V)
/-- Behind operation 'i' (the operations ahead of it: 'm'), all that was read and is not bound to come ahead of it reads the same. -/
def watchW (P : Program) (m : Nat) (h : H) : Watch → Prop → Prop
  | [], K => K
  | (k, o, r, v) :: ws, K => bif hasBit m k then watchW P m h ws K else guardP (chk (readOp P o (ev r) h) v) (watchW P m h ws K)
def beforeAt (ops : Array Oper) (i : Nat) : Nat := (CheckFast.beforeF ops).getD i 0
def opsDW (P : Program) (S : Sem) (rd : Bool) (ops : Array Oper) : List Nat → Watch → Regs → Df → H → (Regs → Df → H → Prop) → Prop
  | [], _, r, D, h, Q => Q r D h
  | i :: is, ws, r, D, h, Q =>
    match ops[i]? with
    | none => False
    | some o => guardW ops o r
        (fun r =>
          match kindOf o.op with
          | .read => bindP (readOp P o.op (ev r) h) fun v => opsDW P S rd ops is (bif readsHeap o.op then (i, o.op, r, v) :: ws else ws) (rput r o.dst v) D h Q
          | .alloc => bindP (allocOp P o.op (ev r)) fun om => opsDW P S rd ops is ws (rput r o.dst (om.2 h.n)) D (h.push om.1) Q
          | .eff => effW P S rd o (ev r) D h fun v D' h' => watchW P (beforeAt ops i) h' ws (opsDW P S rd ops is ws (rput r o.dst v) D' h' Q))
        (fun r => opsDW P S rd ops is ws (rput r o.dst (.tup [])) D h Q)

/-! ### Which registers are read ahead of being written -/
def operandMask : Operand → Nat
  | .tmp t => bit t
  | _ => 0
def readsMask (o : Oper) : Nat := o.op.operands.toList.foldl (fun m x => Nat.lor m (operandMask x)) 0
def dstMask (o : Oper) : Nat :=
  match o.dst with
  | some d => bit d
  | none => 0
def ueOps : List Oper → Nat → Nat
  | [], _ => 0
  | o :: os, w => Nat.lor (without (readsMask o) w) (ueOps os (Nat.lor w (dstMask o)))
def defsOps (os : List Oper) : Nat := os.foldl (fun m o => Nat.lor m (dstMask o)) 0
def defs : Code → Nat
  | .region _ ops _ => defsOps ops.toList
  | .seq a b => Nat.lor (defs a) (defs b)
  | .cond _ a b => Nat.land (defs a) (defs b)
  | _ => 0
def ue : Code → Nat
  | .region _ ops _ => ueOps ops.toList 0
  | .seq a b => Nat.lor (ue a) (without (ue b) (defs a))
  | .cond c a b => Nat.lor (operandMask c) (Nat.lor (ue a) (ue b))
  | .block _ b => ue b
  | .loop b => ue b
  | .scope b => ue b
  | .rangeFunc f _ a b => Nat.lor (operandMask f) (Nat.lor (ue a) (ue b))
  | _ => 0
def restrict (ks : List Nat) (r : Regs) : Regs := ks.map fun k => (k, rget r k)

/-! ### Code -/
abbrev CPost := Out → Regs → Df → H → Prop
theorem fuel_ex : ∃ n : Nat, 18446744073709551616 ≤ n := ⟨_, Nat.le_refl _⟩
/-- A great number that the kernel doesn't look into. -/
noncomputable def fuel : Nat := Classical.choose fuel_ex
theorem fuel_ge : 18446744073709551616 ≤ fuel := Classical.choose_spec fuel_ex
def loopW (body : CPost → Regs → Df → H → Prop) (ks : List Nat) : Nat → CPost → Regs → Df → H → Prop
  | 0, _, _, _, _ => False
  | n + 1, Q, r, D, h => body (fun o r D h => match o with | .normal => loopW body ks n Q (restrict ks r) D h | o => Q o r D h) r D h

def bodied (P : Program) (v : V) : Bool :=
  match v with
  | .func g _ _ =>
    match P.funcs[g]? with
    | some fn => fn.body.isSome
    | none => false
  | _ => false
/-- 'lo': the registers that may be read behind this code. -/
def wpC (P : Program) (S : Sem) (rd : Bool) : Code → Nat → CPost → Regs → Df → H → Prop
  | .skip, _, Q, r, D, h => Q .normal r D h
  | .label _, _, Q, r, D, h => Q .normal r D h
  | .region _ ops draw, _, Q, r, D, h =>
    bif draw then opsDW P S rd ops (canon ops) [] r D h (fun r D h => Q .normal r D h)
    else opsW P S rd ops (List.range ops.size) r D h (fun r D h => Q .normal r D h)
  | .seq a b, lo, Q, r, D, h => wpC P S rd a (Nat.lor (ue b) lo) (fun o r D h => match o with | .normal => wpC P S rd b lo Q r D h | o => Q o r D h) r D h
  | .cond c a b, lo, Q, r, D, h => asB (ev r c) fun t => bcase t (wpC P S rd a lo Q r D h) (wpC P S rd b lo Q r D h)
  | .block id b, lo, Q, r, D, h => wpC P S rd b lo (fun o r D h => match o with | .exit k => bif Nat.beq k id then Q .normal r D h else Q (.exit k) r D h | o => Q o r D h) r D h
  | .loop b, lo, Q, r, D, h =>
    let ks := bitsOf (Nat.lor (ue b) lo)
    loopW (fun Q r D h => wpC P S rd b (Nat.lor (ue b) lo) Q r D h) ks S.n Q (restrict ks r) D h
  | .scope b, lo, Q, r, D, h => wpC P S rd b lo Q r D h
  | .exit id, _, Q, r, D, h => Q (.exit id) r D h
  | .ret, _, Q, r, D, h => Q .ret r D h
  | .rangeFunc f ps assign body, _, Q, r, D, h =>
    let sn := restrict (bitsOf (Nat.lor (ue assign) (ue body))) r
    bif rd then False else
    guardP (bodied P (ev r f)) <|
    callVal S (ev r f) [.yield h.n] (h.push (.loop .ready none sn ps.toList assign body)) fun _ h' =>
      match h'.get h.n with
      | some (.loop st pend sn ps assign body) =>
        match st with
        | .busy => False
        | _ =>
          match pend with
          | none => Q .normal r (none :: D) (h'.set h.n (.loop .exhausted pend sn ps assign body))
          | some .normal => False
          | some o => Q o r (none :: D) (h'.set h.n (.loop .exhausted pend sn ps assign body))
      | _ => False
  | .goto _, _, _, _, _, _ => False
  | .refuse _, _, _, _, _, _ => False

def enum : Nat → List V → Regs
  | _, [] => []
  | i, v :: vs => (i, v) :: enum (i + 1) vs
def resOne (P : Program) (r : Regs) (h : H) : ResultVar → Option V
  | .tmp t => some (rget r t)
  | .cell a t => loadV P t (rget r a) h
def resAll (P : Program) (r : Regs) (h : H) : List ResultVar → Option (List V)
  | [] => some []
  | x :: xs =>
    match resOne P r h x with
    | some v =>
      match resAll P r h xs with
      | some vs => some (v :: vs)
      | none => none
    | none => none
def resV (P : Program) (fn : Func) (r : Regs) (h : H) : Option V :=
  match resAll P r h fn.results.toList with
  | some [v] => some v
  | some vs => some (.tup vs)
  | none => none
def resMask (fn : Func) : Nat := fn.results.toList.foldl (fun m x => Nat.lor m (match x with | .tmp t => bit t | .cell a _ => bit a)) 0
def runD (S : Sem) : Df → H → (H → Prop) → Prop
  | [], h, Q => Q h
  | none :: ds, h, Q => runD S ds h Q
  | some (f, args) :: ds, h, Q => S.dcall f args h fun _ h' => runD S ds h' Q
def bodyW (P : Program) (S : Sem) (fn : Func) (c : Code) (args : List V) (h : H) (Q : Post) : Prop :=
  guardP (Nat.ble args.length fn.ntmps) <| wpC P S false c (resMask fn) (fun o r D h => match o with
    | .exit _ => False
    | _ => runD S D h fun h => bindP (resV P fn r h) fun v => Q v h) (enum 0 args) [] h
/-- A deferred call's body: it defers nothing itself. -/
def bodyDW (P : Program) (S : Sem) (fn : Func) (c : Code) (args : List V) (h : H) (Q : Post) : Prop :=
  guardP (Nat.ble args.length fn.ntmps) <| wpC P S false c (resMask fn) (fun o r D h => match o, D with
    | .exit _, _ => False
    | _, [] => bindP (resV P fn r h) fun v => Q v h
    | _, _ => False) (enum 0 args) [] h
def roundW (P : Program) (S : Sem) (l : Nat) (args : List V) (h : H) (Q : Post) : Prop :=
  match h.get l with
  | some (.loop .ready none sn ps assign body) =>
    guardP (Nat.beq args.length ps.length) <|
    wpC P S true assign (ue body) (fun o r D h =>
      match o, D, h.get l with
      | .normal, [], some (.loop .ready none sn1 ps1 as1 bd1) =>
        wpC P S true body 0 (fun o _ D h =>
          match D, h.get l with
          | [], some (.loop .busy none sn2 ps2 as2 bd2) =>
            match o with
            | .normal => Q (.bool true) (h.set l (.loop .ready none sn2 ps2 as2 bd2))
            | o => Q (.bool false) (h.set l (.loop .done (some o) sn2 ps2 as2 bd2))
          | _, _ => False) r [] (h.set l (.loop .busy none sn1 ps1 as1 bd1))
      | _, _, _ => False) ((ps.zip args).reverse ++ sn) [] h
  | _ => False
/-- Functions without a body. -/
def externW (fn : Func) (args : List V) (h : H) (Q : Post) : Prop :=
  bif fn.name == "math/bits.Add64" then
    match args with
    | [.int .u64 x, .int .u64 y, .int .u64 c] =>
      guardP (decide (0 ≤ x) && decide (0 ≤ y) && (decide (0 ≤ c) && decide (c ≤ 1))) <| Q (.tup [.int .u64 (Int.ofNat ((x.toNat + y.toNat + c.toNat) % 18446744073709551616)), .int .u64 (Int.ofNat ((x.toNat + y.toNat + c.toNat) / 18446744073709551616))]) h
    | _ => False
  else False
/-- 'W': functions without arguments of which it is known, from a run on an empty heap, that they return true; how many rounds a loop may have. -/
structure Cfg where
  W : List FuncId
  n : Nat
def semCore (P : Program) (W : Cfg) : Nat → Sem
  | 0 => ⟨W.n, fun _ _ _ _ => False, fun _ _ _ _ => False, fun _ _ _ _ => False⟩
  | d + 1 => ⟨W.n, fun f args h Q =>
      bif W.W.contains f && args.isEmpty then Q (.bool true) h else
      match P.funcs[f]? with
      | some fn =>
        match fn.body with
        | some c => bodyW P ⟨W.n, (semCore P W d).call, (semCore P W d).dcall, (semCore P W d).yield⟩ fn c args h Q
        | none => externW fn args h Q
      | none => False,
    fun f args h Q =>
      match P.funcs[f]? with
      | some fn =>
        match fn.body with
        | some c => bodyDW P ⟨W.n, (semCore P W d).call, (semCore P W d).dcall, (semCore P W d).yield⟩ fn c args h Q
        | none => False
      | none => False,
    fun l args h Q => roundW P ⟨W.n, (semCore P W d).call, (semCore P W d).dcall, (semCore P W d).yield⟩ l args h Q⟩
def sem (P : Program) (W : Cfg) (d : Nat) : Sem := ⟨W.n, (semCore P W d).call, (semCore P W d).dcall, (semCore P W d).yield⟩
def callW (P : Program) (W : Cfg) (d : Nat) (f : FuncId) (args : List V) (h : H) (Q : Post) : Prop := (sem P W d).call f args h Q

/-! ### Well-formed code: what the proof of soundness asks of the text itself -/
def dstsBelow (n : Nat) (ops : Array Oper) : Bool := ops.toList.all fun o => match o.dst with | some d => Nat.blt d n | none => true
def looks (ops : Array Oper) (o : Oper) : List Tmp :=
  (o.op.operands.toList.filterMap fun | .tmp t => some t | _ => none) ++
  (match o.guard with
   | some (g, _) => ((ops[g]?).bind (·.dst)).toList
   | none => [])
def preOf (b : Array Nat) (j i : Nat) : Bool := hasBit (b.getD i 0) j
def predsUp (b : Array Nat) (o : Oper) : Nat := o.after.toList.foldl (fun m e => bif Region.binds .any e then Nat.lor m (Nat.lor (bit e.on) (b.getD e.on 0)) else m) 0
def isSelect (o : Oper) : Bool :=
  match o.op with
  | .select _ _ => true
  | _ => false
/-- 'done': those so far; 'effs': the effects among them. -/
def drawnGo (ops : Array Oper) (b : Array Nat) : Nat → Nat → List Nat → Bool
  | _, _, [] => true
  | done, effs, i :: is =>
    match ops[i]? with
    | some o =>
      !hasBit done i && Nat.beq (Nat.land effs (b.getD i 0)) effs && Nat.beq (Nat.land (predMask o) done) (predMask o) &&
        drawnGo ops b (Nat.lor done (bit i)) (bif isEff o then Nat.lor effs (bit i) else effs) is
    | none => false
/-- A drawn region: its canonical order lists all, each behind those that it waits for; whatever stands behind an effect waits for it; each register is written once, and whoever looks at it is bound to its writer. -/
def drawnOk (ops : Array Oper) : Bool :=
  let l := canon ops
  let b := CheckFast.beforeF ops
  (List.range ops.size).all (fun i => l.contains i) && drawnGo ops b 0 0 l &&
  (ops.toList.zipIdx.all fun (o, i) =>
    Nat.beq (b.getD i 0) (predsUp b o) &&
    (o.after.toList.all fun e => bif Region.binds .any e then Nat.blt e.on i else true) &&
    (match o.dst with
     | some d => !(looks ops o).contains d && ops.toList.zipIdx.all fun (o', j) => Nat.beq i j || ((o'.dst != some d) && (bif (looks ops o').contains d then preOf b i j || preOf b j i else true))
     | none => true))
def regionOk (ops : Array Oper) (draw : Bool) : Bool :=
  bif draw then ops.toList.all (fun o => !isSelect o) && drawnOk ops
  else ops.toList.tail.all (fun o => !isSelect o)
def codeOk (n : Nat) : Code → Bool
  | .region _ ops draw => dstsBelow n ops && regionOk ops draw
  | .seq a b => codeOk n a && codeOk n b
  | .cond _ a b => codeOk n a && codeOk n b
  | .block _ b | .loop b | .scope b => codeOk n b
  | .rangeFunc _ ps a b => ps.toList.all (fun t => Nat.blt t n) && codeOk n a && codeOk n b
  | _ => true
def funcOk (fn : Func) : Bool :=
  !(fn.name == "runtime.NumGoroutine") &&
  match fn.body with
  | some c => codeOk fn.ntmps c
  | none => true

end Am

/-
How an abstract state stands for a machine's state.
-/
namespace Am
open Go

/-- Where an abstract block lies: the machine's block, the first cell, how many cells it may take up, the cells of an element. -/
structure Loc where
  blk : Nat
  off : Nat
  res : Nat
  es : Nat

abbrev Phi := Nat → Option Loc

def flat (v : Value) : Prop := v.oneCell' = true

section
variable (w0 : World) (N0 : Nat) (ϕ : Phi)

/-- An abstract value stands for a machine's value. 'undef' stands for any. -/
inductive VR : V → Value → Prop
  | undef (v : Value) : VR .undef v
  | int (k : IntKind) (n : Int) : VR (.int k n) (.int k n)
  | bool (b : Bool) : VR (.bool b) (.bool b)
  | str (s : ByteArray) : VR (.str s) (.string s)
  | ptr (b off : Nat) (L : Loc) : ϕ b = some L → VR (.ptr b off) (.pointer (some ⟨L.blk, L.off + off, none⟩))
  | ptrR (cs : List V) (off B o : Nat) (cs' : List Value) : (cs' = [] ∨ B < N0) → cs.length = cs'.length →
      (∀ (i : Nat) (v' : Value), cs'[i]? = some v' → w0.cell? ⟨B, o + i, none⟩ = some v' ∧ flat v') →
      (∀ (i : Nat) (v : V) (v' : Value), cs[i]? = some v → cs'[i]? = some v' → VR v v') →
      VR (.ptrR cs off) (.pointer (some ⟨B, o + off, none⟩))
  | ptrN : VR .ptrN (.pointer none)
  | sl (b off len : Nat) (cap : Option Nat) (es cap' : Nat) (L : Loc) (a : Addr) : ϕ b = some L → L.es = es → len ≤ cap' → (∀ c, cap = some c → cap' = c) →
      (cap = none → off + cap' * L.es = L.res) → (a.block = L.blk ∧ a.spot = none) → (cap' = 0 ∨ a = ⟨L.blk, L.off + off, none⟩) →
      VR (.sl b off len cap es) (.slice (some a) len cap')
  | slR (cs : List V) (off len : Nat) (cap : Option Nat) (cap' B o : Nat) (a : Addr) (cs' : List Value) : (cs' = [] ∨ B < N0) → cs.length = cs'.length →
      (∀ (i : Nat) (v' : Value), cs'[i]? = some v' → w0.cell? ⟨B, o + i, none⟩ = some v' ∧ flat v') →
      (∀ (i : Nat) (v : V) (v' : Value), cs[i]? = some v → cs'[i]? = some v' → VR v v') →
      len ≤ cap' → (∀ c, cap = some c → cap' = c) → (a.block = a.block ∧ a.spot = a.spot) → (cap' = 0 ∨ a = ⟨B, o + off, none⟩) →
      VR (.slR cs off len cap) (.slice (some a) len cap')
  | slN : VR .slN (.slice none 0 0)
  | mapN : VR (.map none) (.map none)
  | map (b : Nat) (L : Loc) : ϕ b = some L → VR (.map (some b)) (.map (some L.blk))
  | chanN : VR (.chan none) (.chan none)
  | chan (b : Nat) (L : Loc) : ϕ b = some L → VR (.chan (some b)) (.chan (some L.blk))
  | func (f : FuncId) (first caps : List V) (first' caps' : Array Value) : first.length = first'.size → caps.length = caps'.size →
      (∀ (i : Nat) (v : V) (v' : Value), first[i]? = some v → first'[i]? = some v' → VR v v') → (∀ (i : Nat) (v : V) (v' : Value), caps[i]? = some v → caps'[i]? = some v' → VR v v') →
      VR (.func f first caps) (.func (.func f) first' caps')
  | yield (l : Nat) (L : Loc) : ϕ l = some L → VR (.yield l) (.func (.yield L.blk) #[] #[])
  | nilF : VR .nilF .nilFunc
  | iface (t : TypeId) (v : V) (v' : Value) : VR v v' → VR (.iface t v) (.iface t v')
  | nilI : VR .nilI .nilIface
  | agg (cs : List V) (cs' : Array Value) : cs.length = cs'.size → (∀ (i : Nat) (v' : Value), cs'[i]? = some v' → flat v') →
      (∀ (i : Nat) (v : V) (v' : Value), cs[i]? = some v → cs'[i]? = some v' → VR v v') → VR (.agg cs) (.agg cs')
  | tup (cs : List V) (cs' : Array Value) : cs.length = cs'.size →
      (∀ (i : Nat) (v : V) (v' : Value), cs[i]? = some v → cs'[i]? = some v' → VR v v') → VR (.tup cs) (.tuple cs')

/-- Lists of values, cell by cell. -/
def VRL (cs : List V) (cs' : List Value) : Prop := cs.length = cs'.length ∧ ∀ (i : Nat) (v : V) (v' : Value), cs[i]? = some v → cs'[i]? = some v' → VR w0 N0 ϕ v v'
end

def Phi.le (ϕ ϕ' : Phi) : Prop := ∀ b L, ϕ b = some L → ϕ' b = some L
theorem Phi.le_refl (ϕ : Phi) : ϕ.le ϕ := fun _ _ h => h
theorem Phi.le_trans {a b c : Phi} (h : a.le b) (h' : b.le c) : a.le c := fun _ _ x => h' _ _ (h _ _ x)

section
variable {w0 : World} {N0 : Nat} {ϕ ϕ' : Phi}

theorem VR.mono (hle : ϕ.le ϕ') {v : V} {v' : Value} (h : VR w0 N0 ϕ v v') : VR w0 N0 ϕ' v v' := by
  induction h with
  | undef v => exact .undef v
  | int k n => exact .int k n
  | bool b => exact .bool b
  | str s => exact .str s
  | ptr b off L h => exact .ptr b off L (hle _ _ h)
  | ptrR cs off B o cs' hB hl h _ ih => exact .ptrR cs off B o cs' hB hl h ih
  | ptrN => exact .ptrN
  | sl b off len cap es cap' L a h h0 h1 h2 h3 h4 h5 => exact .sl b off len cap es cap' L a (hle _ _ h) h0 h1 h2 h3 h4 h5
  | slR cs off len cap cap' B o a cs' hB hl h _ h1 h2 h3 h4 ih => exact .slR cs off len cap cap' B o a cs' hB hl h ih h1 h2 h3 h4
  | slN => exact .slN
  | mapN => exact .mapN
  | map b L h => exact .map b L (hle _ _ h)
  | chanN => exact .chanN
  | chan b L h => exact .chan b L (hle _ _ h)
  | func f first caps first' caps' h1 h2 _ _ ih1 ih2 => exact .func f first caps first' caps' h1 h2 ih1 ih2
  | yield l L h => exact .yield l L (hle _ _ h)
  | nilF => exact .nilF
  | iface t v v' _ ih => exact .iface t v v' ih
  | nilI => exact .nilI
  | agg cs cs' h1 h2 _ ih => exact .agg cs cs' h1 h2 ih
  | tup cs cs' h1 _ ih => exact .tup cs cs' h1 ih

theorem VRL.mono (hle : ϕ.le ϕ') {cs : List V} {cs' : List Value} (h : VRL w0 N0 ϕ cs cs') : VRL w0 N0 ϕ' cs cs' :=
  ⟨h.1, fun i v v' a b => (h.2 i v v' a b).mono hle⟩
theorem VRL.nil : VRL w0 N0 ϕ [] [] := ⟨rfl, fun _ _ _ h => by simp at h⟩
theorem VRL.cons {v : V} {v' : Value} {cs : List V} {cs' : List Value} (h : VR w0 N0 ϕ v v') (t : VRL w0 N0 ϕ cs cs') : VRL w0 N0 ϕ (v :: cs) (v' :: cs') :=
  ⟨by simp [t.1], fun i a b ha hb => by
    cases i with
    | zero => simp at ha hb; subst ha; subst hb; exact h
    | succ i => simp at ha hb; exact t.2 i a b ha hb⟩
theorem VRL.append {as bs : List V} {as' bs' : List Value} (h : VRL w0 N0 ϕ as as') (t : VRL w0 N0 ϕ bs bs') : VRL w0 N0 ϕ (as ++ bs) (as' ++ bs') :=
  ⟨by simp [h.1, t.1], fun i a b ha hb => by
    by_cases hi : i < as.length
    · rw [List.getElem?_append_left hi] at ha
      rw [List.getElem?_append_left (h.1 ▸ hi)] at hb
      exact h.2 i a b ha hb
    · rw [List.getElem?_append_right (by omega)] at ha
      rw [List.getElem?_append_right (by have := h.1; omega)] at hb
      rw [h.1] at ha
      exact t.2 _ a b ha hb⟩
theorem VRL.take {as : List V} {as' : List Value} (n : Nat) (h : VRL w0 N0 ϕ as as') : VRL w0 N0 ϕ (as.take n) (as'.take n) :=
  ⟨by simp [h.1], fun i a b ha hb => by
    simp only [List.getElem?_take] at ha hb
    split at ha
    · rename_i hi; rw [if_pos hi] at hb; exact h.2 i a b ha hb
    · simp at ha⟩
theorem VRL.drop {as : List V} {as' : List Value} (n : Nat) (h : VRL w0 N0 ϕ as as') : VRL w0 N0 ϕ (as.drop n) (as'.drop n) :=
  ⟨by simp [h.1], fun i a b ha hb => by
    simp only [List.getElem?_drop] at ha hb
    exact h.2 _ a b ha hb⟩
theorem VRL.get {as : List V} {as' : List Value} (h : VRL w0 N0 ϕ as as') {i : Nat} {v : V} (hv : as[i]? = some v) : ∃ v', as'[i]? = some v' ∧ VR w0 N0 ϕ v v' := by
  have hi : i < as.length := (List.getElem?_eq_some_iff.1 hv).1
  have hi' : i < as'.length := h.1 ▸ hi
  exact ⟨as'[i], List.getElem?_eq_getElem hi', h.2 i v _ hv (List.getElem?_eq_getElem hi')⟩
theorem VRL.map_mem {as : List V} {as' : List Value} (h : VRL w0 N0 ϕ as as') {v' : Value} (hv : v' ∈ as') : ∃ v, v ∈ as ∧ VR w0 N0 ϕ v v' := by
  obtain ⟨i, hi, rfl⟩ := List.mem_iff_getElem.1 hv
  have hi' : i < as.length := by have := h.1; omega
  exact ⟨as[i], List.getElem_mem hi', h.2 i _ _ (List.getElem?_eq_getElem hi') (List.getElem?_eq_getElem hi)⟩
theorem VRL.replicate {v : V} {v' : Value} (n : Nat) (h : VR w0 N0 ϕ v v') : VRL w0 N0 ϕ (List.replicate n v) (List.replicate n v') :=
  ⟨by simp, fun i a b ha hb => by
    simp only [List.getElem?_replicate] at ha hb
    split at ha
    · rename_i hi; rw [if_pos hi] at hb; simp at ha hb; subst ha; subst hb; exact h
    · simp at ha⟩

/-- What is no part of several cells is one cell. -/
theorem VR.flat_of {v : V} {v' : Value} (h : VR w0 N0 ϕ v v') (hu : v ≠ .undef) (ha : ∀ cs, v ≠ .agg cs) (ht : ∀ cs, v ≠ .tup cs) : flat v' := by
  cases h <;> first | exact absurd rfl hu | exact absurd rfl (ha _) | exact absurd rfl (ht _) | rfl

/-- The cells of a value that has cells. -/
theorem VR.cells {v : V} {v' : Value} (h : VR w0 N0 ϕ v v') {cs : List V} (hc : partCells v = some cs) : VRL w0 N0 ϕ cs v'.cells.toList ∧ ∀ x ∈ v'.cells.toList, flat x := by
  cases h with
  | agg ds cs' h1 h2 h3 =>
    simp only [partCells, Option.some.injEq] at hc
    subst hc
    refine ⟨⟨by simpa [Value.cells] using h1, fun i v v' a b => h3 i v v' a (by simpa [Value.cells] using b)⟩, fun x hx => ?_⟩
    obtain ⟨i, hi, rfl⟩ := List.mem_iff_getElem.1 hx
    exact h2 i _ (by simp [Value.cells] at hi ⊢)
  | undef => simp [partCells] at hc
  | tup => simp [partCells] at hc
  | _ =>
    all_goals
      simp only [partCells, Option.some.injEq] at hc
      subst hc
      refine ⟨⟨rfl, fun i v v' a b => ?_⟩, fun x hx => by simp [Value.cells] at hx; subst hx; rfl⟩
      cases i with
      | zero => simp [Value.cells] at a b; subst a; subst b; constructor <;> assumption
      | succ i => simp at a

end

/-- How a pending jump stands. -/
def outCode : Option Out → Option Code
  | none => none
  | some .normal => none
  | some (.exit id) => some (.exit id)
  | some .ret => some .ret

section
variable (w0 : World) (N0 : Nat)

/-- An abstract block stands for what lies in the machine's heap. -/
def ObjR (ϕ : Phi) (w : World) (L : Loc) : Obj → Prop
  | .cells cs es g => ∃ (c : Array Value) (e : TypeId), w.heap[L.blk]? = some (.cells c e (0, 0)) ∧ L.off + L.res ≤ c.size ∧ cs.length ≤ L.res ∧ (g = false → L.res = cs.length) ∧ L.es = es ∧
      ∀ (i : Nat) (v : V), cs[i]? = some v → ∃ v', c[L.off + i]? = some v' ∧ flat v' ∧ VR w0 N0 ϕ v v'
  | .map kvs => ∃ (es : Array MapEntry) (clk : Nat), w.heap[L.blk]? = some (.map es clk) ∧ es.size = kvs.length ∧
      ∀ (i : Nat) (kv : V × V) (e : MapEntry), kvs[i]? = some kv → es[i]? = some e → VR w0 N0 ϕ kv.1 e.key ∧ VR w0 N0 ϕ kv.2 e.val
  | .chan cap buf => ∃ (buf' : Array Value) (s r : Nat), w.heap[L.blk]? = some (.chan cap buf' false s r false) ∧ VRL w0 N0 ϕ buf buf'.toList
  | .loop st pend sn ps assign body => ∃ (lp : Loop), w.heap[L.blk]? = some (.loop lp) ∧ lp.state = st ∧ (pend = some .normal → False) ∧ lp.pending = outCode pend ∧ lp.params = ps.toArray ∧ lp.assign = assign ∧ lp.body = body ∧
      (∀ t, VR w0 N0 ϕ (rget sn t) (lp.tmps.getD t undef)) ∧ codeOk lp.tmps.size assign = true ∧ codeOk lp.tmps.size body = true ∧ (∀ t ∈ ps, t < lp.tmps.size)
  | .dead => True

/-- What lies outside the heap. -/
def Same (w w' : World) : Prop := w'.os = w.os ∧ w'.tape = w.tape ∧ w'.output = w.output
theorem Same.trans {a b c : World} (h : Same a b) (k : Same b c) : Same a c := ⟨k.1.trans h.1, k.2.1.trans h.2.1, k.2.2.trans h.2.2⟩

def live (h : H) (b : Nat) : Prop := ∃ o, h.get b = some o ∧ (∀ x, o = x → x ≠ .dead)

structure Rel (ϕ : Phi) (h : H) (w : World) : Prop where
  obj : ∀ b o L, h.get b = some o → ϕ b = some L → ObjR w0 N0 ϕ w L o
  apart : ∀ b b' L L', live h b → live h b' → ϕ b = some L → ϕ b' = some L' → b ≠ b' → L.blk ≠ L'.blk
  lo : ∀ b L, ϕ b = some L → N0 ≤ L.blk ∧ L.blk < w.heap.size
  dom : ∀ b L, ϕ b = some L → b < h.n
  old : ∀ i, i < N0 → w.heap[i]? = w0.heap[i]?
  size : N0 ≤ w.heap.size
  wf : ∀ b, h.n ≤ b → h.get b = none
  same : Same w0 w

/-- A machine's block that no live abstract block stands for. -/
def free (ϕ : Phi) (h : H) (i : Nat) : Prop := ∀ b L, live h b → ϕ b = some L → L.blk ≠ i

/-- From one state to a later one: what is free stays as it is, and free; the names grow. -/
structure Fr (ϕ : Phi) (h : H) (w : World) (ϕ' : Phi) (h' : H) (w' : World) : Prop where
  le : ϕ.le ϕ'
  keep : ∀ i, i < w.heap.size → free ϕ h i → w'.heap[i]? = w.heap[i]? ∧ free ϕ' h' i
  grow : w.heap.size ≤ w'.heap.size
  n : h.n ≤ h'.n
  un : ∀ b, b < h.n → ϕ b = none → h'.get b = h.get b ∧ ϕ' b = none

theorem Fr.refl (ϕ : Phi) (h : H) (w : World) : Fr ϕ h w ϕ h w := ⟨Phi.le_refl ϕ, fun _ _ f => ⟨rfl, f⟩, Nat.le_refl _, Nat.le_refl _, fun _ _ e => ⟨rfl, e⟩⟩
theorem Fr.trans {ϕ ϕ' ϕ'' : Phi} {h h' h'' : H} {w w' w'' : World} (a : Fr ϕ h w ϕ' h' w') (b : Fr ϕ' h' w' ϕ'' h'' w'') : Fr ϕ h w ϕ'' h'' w'' :=
  ⟨Phi.le_trans a.le b.le, fun i hi f => let ⟨e1, f1⟩ := a.keep i hi f; let ⟨e2, f2⟩ := b.keep i (Nat.lt_of_lt_of_le hi a.grow) f1; ⟨e2.trans e1, f2⟩,
    Nat.le_trans a.grow b.grow, Nat.le_trans a.n b.n, fun b' hb e => let ⟨e1, f1⟩ := a.un b' hb e; let ⟨e2, f2⟩ := b.un b' (Nat.lt_of_lt_of_le hb a.n) f1; ⟨e2.trans e1, f2⟩⟩
end
end Am

/-
Laws of the abstract heap, and how its changes keep the relation.
-/
namespace Am
open Go

theorem nb_t {a b : Nat} (h : a = b) : Nat.beq a b = true := by subst h; exact Nat.beq_refl a
theorem nb_f {a b : Nat} (h : a ≠ b) : Nat.beq a b = false := by
  cases e : Nat.beq a b with
  | false => rfl
  | true => exact absurd (Nat.eq_of_beq_eq_true e) h
theorem nble_t {a b : Nat} (h : a ≤ b) : Nat.ble a b = true := Nat.ble_eq_true_of_le h
theorem nble_f {a b : Nat} (h : b < a) : Nat.ble a b = false := by
  cases e : Nat.ble a b with
  | false => rfl
  | true => have := Nat.le_of_ble_eq_true e; omega
/-! ### The trie -/
theorem Tr.get_nil (i : Nat) : Tr.get .nil i = none := rfl
theorem Tr.get_setF (f : Nat) : ∀ (t : Tr) (i : Nat) (x : Obj) (j : Nat), i < f → (Tr.setF f t i x).get j = if j = i then some x else t.get j := by
  induction f with
  | zero => intro t i x j h; omega
  | succ f ih =>
    intro t i x j h
    cases t with
    | nil =>
      unfold Tr.setF
      by_cases h0 : i = 0
      · subst h0
        simp only [cond_true, Nat.beq_refl]
        unfold Tr.get
        by_cases hj : j = 0
        · simp [hj]
        · have : Nat.beq j 0 = false := nb_f hj
          rw [this]
          simp only [cond_false]
          cases Nat.beq (j % 2) 1 <;> simp [hj, Tr.get_nil]
      · have e0 : Nat.beq i 0 = false := nb_f h0
        rw [e0]
        simp only [cond_false]
        by_cases hp : i % 2 = 1
        · have e1 : Nat.beq (i % 2) 1 = true := nb_t hp
          rw [e1]
          simp only [cond_true]
          conv => lhs; unfold Tr.get
          by_cases hj : j = 0
          · subst hj; simp [Tr.get_nil]; intro hh; omega
          · have ej : Nat.beq j 0 = false := nb_f hj
            rw [ej]
            simp only [cond_false]
            by_cases hq : j % 2 = 1
            · have e2 : Nat.beq (j % 2) 1 = true := nb_t hq
              rw [e2]
              simp only [cond_true]
              rw [ih _ _ _ _ (by omega)]
              by_cases hji : j = i
              · simp [hji]
              · rw [if_neg (by omega), if_neg hji]; rfl
            · have e2 : Nat.beq (j % 2) 1 = false := nb_f hq
              rw [e2]
              simp only [cond_false]
              rw [if_neg (by omega)]; rfl
        · have e1 : Nat.beq (i % 2) 1 = false := nb_f hp
          rw [e1]
          simp only [cond_false]
          conv => lhs; unfold Tr.get
          by_cases hj : j = 0
          · subst hj; simp [Tr.get_nil]; intro hh; omega
          · have ej : Nat.beq j 0 = false := nb_f hj
            rw [ej]
            simp only [cond_false]
            by_cases hq : j % 2 = 1
            · have e2 : Nat.beq (j % 2) 1 = true := nb_t hq
              rw [e2]
              simp only [cond_true]
              rw [if_neg (by omega)]; rfl
            · have e2 : Nat.beq (j % 2) 1 = false := nb_f hq
              rw [e2]
              simp only [cond_false]
              rw [ih _ _ _ _ (by omega)]
              by_cases hji : j = i
              · simp [hji]
              · rw [if_neg (by omega), if_neg hji]; rfl
    | node o l r =>
      unfold Tr.setF
      by_cases h0 : i = 0
      · subst h0
        simp only [Nat.beq_refl, cond_true]
        unfold Tr.get
        by_cases hj : j = 0
        · simp [hj]
        · have : Nat.beq j 0 = false := nb_f hj
          rw [this]
          simp [hj]
      · have e0 : Nat.beq i 0 = false := nb_f h0
        rw [e0]
        simp only [cond_false]
        by_cases hp : i % 2 = 1
        · have e1 : Nat.beq (i % 2) 1 = true := nb_t hp
          rw [e1]
          simp only [cond_true]
          conv => lhs; unfold Tr.get
          conv => rhs; unfold Tr.get
          by_cases hj : j = 0
          · subst hj; simp; intro hh; omega
          · have ej : Nat.beq j 0 = false := nb_f hj
            rw [ej]
            simp only [cond_false]
            by_cases hq : j % 2 = 1
            · have e2 : Nat.beq (j % 2) 1 = true := nb_t hq
              rw [e2]
              simp only [cond_true]
              rw [ih _ _ _ _ (by omega)]
              by_cases hji : j = i
              · simp [hji]
              · rw [if_neg (by omega), if_neg hji]
            · have e2 : Nat.beq (j % 2) 1 = false := nb_f hq
              rw [e2]
              simp only [cond_false]
              rw [if_neg (by omega)]
        · have e1 : Nat.beq (i % 2) 1 = false := nb_f hp
          rw [e1]
          simp only [cond_false]
          conv => lhs; unfold Tr.get
          conv => rhs; unfold Tr.get
          by_cases hj : j = 0
          · subst hj; simp; intro hh; omega
          · have ej : Nat.beq j 0 = false := nb_f hj
            rw [ej]
            simp only [cond_false]
            by_cases hq : j % 2 = 1
            · have e2 : Nat.beq (j % 2) 1 = true := nb_t hq
              rw [e2]
              simp only [cond_true]
              rw [if_neg (by omega)]
            · have e2 : Nat.beq (j % 2) 1 = false := nb_f hq
              rw [e2]
              simp only [cond_false]
              rw [ih _ _ _ _ (by omega)]
              by_cases hji : j = i
              · simp [hji]
              · rw [if_neg (by omega), if_neg hji]

theorem H.get_set (h : H) (i : Nat) (o : Obj) (j : Nat) : (h.set i o).get j = if j = i then some o else h.get j := Tr.get_setF _ _ _ _ _ (Nat.lt_succ_self i)
theorem H.get_push (h : H) (o : Obj) (j : Nat) : (h.push o).get j = if j = h.n then some o else h.get j := Tr.get_setF _ _ _ _ _ (Nat.lt_succ_self h.n)
@[simp] theorem H.set_n (h : H) (i : Nat) (o : Obj) : (h.set i o).n = h.n := rfl
@[simp] theorem H.push_n (h : H) (o : Obj) : (h.push o).n = h.n + 1 := rfl

theorem bindP_some {α : Type} {o : Option α} {K : α → Prop} (h : bindP o K) : ∃ a, o = some a ∧ K a := by
  cases o with
  | none => exact h.elim
  | some a => exact ⟨a, rfl, h⟩
theorem guardP_true {b : Bool} {K : Prop} (h : guardP b K) : b = true ∧ K := by
  cases b with
  | false => exact h.elim
  | true => exact ⟨rfl, h⟩
theorem asB_some {v : V} {K : Bool → Prop} (h : asB v K) : ∃ b, v = .bool b ∧ K b := by
  cases v <;> first | exact ⟨_, rfl, h⟩ | exact h.elim

section
variable {w0 : World} {N0 : Nat} {ϕ ϕ' : Phi} {h h' : H} {w w' : World}

theorem VRL.split {as : List V} {as' : List Value} : VRL w0 N0 ϕ as as' ↔ as.length = as'.length ∧ ∀ (i : Nat) (v : V) (v' : Value), as[i]? = some v → as'[i]? = some v' → VR w0 N0 ϕ v v' := Iff.rfl

/-- An object's standing hangs on its own block alone, and on the names. -/
theorem ObjR.keep {L : Loc} {o : Obj} (hle : ϕ.le ϕ') (he : w'.heap[L.blk]? = w.heap[L.blk]?) (h : ObjR w0 N0 ϕ w L o) : ObjR w0 N0 ϕ' w' L o := by
  cases o with
  | cells cs es g =>
    obtain ⟨c, e, h1, h2, h3, h4, h5, h6⟩ := h
    exact ⟨c, e, he ▸ h1, h2, h3, h4, h5, fun i v hv => let ⟨v', a, b, d⟩ := h6 i v hv; ⟨v', a, b, d.mono hle⟩⟩
  | map kvs =>
    obtain ⟨es, clk, h1, h2, h3⟩ := h
    exact ⟨es, clk, he ▸ h1, h2, fun i kv e a b => let ⟨x, y⟩ := h3 i kv e a b; ⟨x.mono hle, y.mono hle⟩⟩
  | chan cap buf =>
    obtain ⟨buf', s, r, h1, h2⟩ := h
    exact ⟨buf', s, r, he ▸ h1, h2.mono hle⟩
  | loop st pend sn ps assign body =>
    obtain ⟨lp, h1, h2, h3, h4, h5, h6, h7, h8, h9⟩ := h
    exact ⟨lp, he ▸ h1, h2, h3, h4, h5, h6, h7, fun t => (h8 t).mono hle, h9⟩
  | dead => trivial

theorem Rel.congr (he : w'.heap = w.heap) (r : Rel w0 N0 ϕ h w) (hsm : Same w w' := by exact ⟨rfl, rfl, rfl⟩) : Rel w0 N0 ϕ h w' where
  obj b o L a d := (r.obj b o L a d).keep (Phi.le_refl ϕ) (by rw [he])
  apart := r.apart
  lo b L a := by rw [he]; exact r.lo b L a
  dom := r.dom
  old i hi := by rw [he]; exact r.old i hi
  size := by rw [he]; exact r.size
  wf := r.wf
  same := r.same.trans hsm
theorem Fr.congr (he : w'.heap = w.heap) : Fr ϕ h w ϕ h w' :=
  ⟨Phi.le_refl ϕ, fun _ _ f => ⟨by rw [he], f⟩, by rw [he]; exact Nat.le_refl _, Nat.le_refl _, fun _ _ e => ⟨rfl, e⟩⟩

/-- ϕ with one name more. -/
def Phi.put (ϕ : Phi) (b : Nat) (L : Loc) : Phi := fun x => if x = b then some L else ϕ x
theorem Phi.put_same (ϕ : Phi) (b : Nat) (L : Loc) : ϕ.put b L b = some L := if_pos rfl
theorem Phi.put_other (ϕ : Phi) {b x : Nat} (L : Loc) (h : x ≠ b) : ϕ.put b L x = ϕ x := if_neg h
theorem Phi.le_put {b : Nat} {L : Loc} (h : ϕ b = none) : ϕ.le (ϕ.put b L) := fun x M hx => by
  by_cases e : x = b
  · subst e; rw [h] at hx; cases hx
  · rw [Phi.put_other ϕ L e]; exact hx

theorem Rel.fresh (r : Rel w0 N0 ϕ h w) : ϕ h.n = none := by
  cases e : ϕ h.n with
  | none => rfl
  | some L => exact absurd (r.dom _ _ e) (Nat.lt_irrefl _)

/-- A new block on both sides. -/
theorem Rel.push (r : Rel w0 N0 ϕ h w) {o : Obj} {oc : Go.Obj} {L : Loc} (hb : L.blk = w.heap.size) (hh : w'.heap = w.heap.push oc)
    (ho : ObjR w0 N0 (ϕ.put h.n L) w' L o) (hsm : Same w w' := by exact ⟨rfl, rfl, rfl⟩) : Rel w0 N0 (ϕ.put h.n L) (h.push o) w' ∧ Fr ϕ h w (ϕ.put h.n L) (h.push o) w' := by
  have hle : ϕ.le (ϕ.put h.n L) := Phi.le_put r.fresh
  have hold : ∀ i, i < w.heap.size → w'.heap[i]? = w.heap[i]? := fun i hi => by
    rw [hh, Array.getElem?_push, if_neg (by omega)]
  have hsz : w'.heap.size = w.heap.size + 1 := by rw [hh]; simp
  have live' : ∀ b, live (h.push o) b → b = h.n ∨ live h b := fun b ⟨x, hx, hd⟩ => by
    rw [H.get_push] at hx
    by_cases e : b = h.n
    · exact .inl e
    · rw [if_neg e] at hx; exact .inr ⟨x, hx, hd⟩
  refine ⟨⟨fun b x M hg hM => ?_, fun b b' M M' l l' hM hM' hne => ?_, fun b M hM => ?_, fun b M hM => ?_, fun i hi => ?_, ?_, fun b hb => by simp at hb; rw [H.get_push, if_neg (by omega)]; exact r.wf b (by omega), r.same.trans hsm⟩, ⟨hle, fun i hi f => ⟨hold i hi, fun b M l hM => ?_⟩, by omega, by simp, fun b hb' e => ?_⟩⟩
  · by_cases e : b = h.n
    · subst e
      rw [H.get_push, if_pos rfl] at hg
      rw [Phi.put_same] at hM
      cases hg; cases hM; exact ho
    · rw [H.get_push, if_neg e] at hg
      rw [Phi.put_other ϕ L e] at hM
      exact (r.obj b x M hg hM).keep hle (hold _ (r.lo b M hM).2)
  · by_cases e : b = h.n
    · subst e
      rw [Phi.put_same] at hM
      cases hM
      rw [Phi.put_other ϕ L (Ne.symm hne)] at hM'
      have := (r.lo b' M' hM').2
      omega
    · rw [Phi.put_other ϕ L e] at hM
      have lb := (live' b l).resolve_left e
      by_cases e' : b' = h.n
      · subst e'
        rw [Phi.put_same] at hM'
        cases hM'
        have := (r.lo b M hM).2
        omega
      · rw [Phi.put_other ϕ L e'] at hM'
        exact r.apart b b' M M' lb ((live' b' l').resolve_left e') hM hM' hne
  · by_cases e : b = h.n
    · subst e
      rw [Phi.put_same] at hM
      cases hM
      have := r.size
      omega
    · rw [Phi.put_other ϕ L e] at hM
      have := r.lo b M hM
      omega
  · by_cases e : b = h.n
    · subst e; simp
    · rw [Phi.put_other ϕ L e] at hM
      have := r.dom b M hM
      simp; omega
  · rw [hold i (Nat.lt_of_lt_of_le hi r.size)]; exact r.old i hi
  · have := r.size; omega
  · by_cases e : b = h.n
    · subst e
      rw [Phi.put_same] at hM
      cases hM
      omega
    · rw [Phi.put_other ϕ L e] at hM
      exact f b M ((live' b l).resolve_left e) hM
  · have hne : b ≠ h.n := by omega
    exact ⟨by rw [H.get_push, if_neg hne], by rw [Phi.put_other ϕ L hne]; exact e⟩

/-- A block is turned on both sides. -/
theorem Rel.set (r : Rel w0 N0 ϕ h w) {b : Nat} {o o' : Obj} {L : Loc} (hg : h.get b = some o) (hl : ∀ x, o = x → x ≠ .dead) (hL : ϕ b = some L)
    (hsz : w'.heap.size = w.heap.size) (hk : ∀ i, i ≠ L.blk → w'.heap[i]? = w.heap[i]?) (ho : ObjR w0 N0 ϕ w' L o') (hsm : Same w w' := by exact ⟨rfl, rfl, rfl⟩) :
    Rel w0 N0 ϕ (h.set b o') w' ∧ Fr ϕ h w ϕ (h.set b o') w' := by
  have lb : live h b := ⟨o, hg, hl⟩
  have live' : ∀ x, live (h.set b o') x → live h x := fun x ⟨y, hy, hd⟩ => by
    by_cases e : x = b
    · subst e; exact lb
    · rw [H.get_set, if_neg e] at hy; exact ⟨y, hy, hd⟩
  have hlo := r.lo b L hL
  refine ⟨⟨fun x y M hgx hM => ?_, fun x x' M M' l l' hM hM' hne => r.apart x x' M M' (live' x l) (live' x' l') hM hM' hne, fun x M hM => by rw [hsz]; exact r.lo x M hM, fun x M hM => r.dom x M hM, fun i hi => ?_, by rw [hsz]; exact r.size, fun x hx => by have := r.dom b L hL; simp at hx; rw [H.get_set, if_neg (by omega)]; exact r.wf x hx, r.same.trans hsm⟩,
    ⟨Phi.le_refl ϕ, fun i hi f => ⟨hk i (fun e => f b L lb hL e.symm), fun x M l hM => f x M (live' x l) hM⟩, by omega, Nat.le_refl _, fun x hx e => ?_⟩⟩
  · by_cases e : x = b
    · subst e
      rw [H.get_set, if_pos rfl] at hgx
      cases hgx
      rw [hL] at hM
      cases hM
      exact ho
    · rw [H.get_set, if_neg e] at hgx
      cases y with
      | dead => trivial
      | _ =>
        all_goals
          refine (r.obj x _ M hgx hM).keep (Phi.le_refl ϕ) (hk _ ?_)
          exact r.apart x b M L ⟨_, hgx, fun z hz => by subst hz; simp⟩ lb hM hL e
  · rw [hk i (by omega)]; exact r.old i hi
  · have hne : x ≠ b := fun e' => by subst e'; rw [hL] at e; cases e
    exact ⟨by rw [H.get_set, if_neg hne], e⟩

theorem Rel.cells (r : Rel w0 N0 ϕ h w) {b : Nat} {cs : List V} {es : Nat} {g : Bool} {L : Loc} (hg : h.get b = some (.cells cs es g)) (hL : ϕ b = some L) :
    ∃ (c : Array Value) (e : TypeId), w.heap[L.blk]? = some (.cells c e (0, 0)) ∧ L.off + L.res ≤ c.size ∧ cs.length ≤ L.res ∧ (g = false → L.res = cs.length) ∧ L.es = es ∧
      ∀ (i : Nat) (v : V), cs[i]? = some v → ∃ v', c[L.off + i]? = some v' ∧ flat v' ∧ VR w0 N0 ϕ v v' := r.obj b _ L hg hL

theorem cells?_some {b : Nat} {cs : List V} (hc : h.cells? b = some cs) : ∃ es g, h.get b = some (.cells cs es g) := by
  unfold H.cells? at hc
  split at hc
  · rename_i es g e; cases hc; exact ⟨_, _, e⟩
  · cases hc

theorem cell_none (w : World) (B o : Nat) (c : Array Value) (e : TypeId) (f : Nat × Nat) (h : w.heap[B]? = some (.cells c e f)) : w.cell? ⟨B, o, none⟩ = c[o]? := by
  simp [World.cell?, h]

theorem cut_some {cs : List V} {off n : Nat} {ds : List V} (h : cut cs off n = some ds) : off + n ≤ cs.length ∧ ds = (cs.drop off).take n := by
  unfold cut at h
  cases e : Nat.ble (off + n) cs.length
  · rw [e] at h; simp at h
  · rw [e] at h
    simp at h
    exact ⟨Nat.le_of_ble_eq_true e, h.symm⟩

/-- What a run of cells holds. -/
theorem Rel.range (r : Rel w0 N0 ϕ h w) {b off n : Nat} {ds : List V} {L : Loc} (hd : ldN h b off n = some ds) (hL : ϕ b = some L) :
    ∃ ds' : List Value, ds'.length = n ∧ VRL w0 N0 ϕ ds ds' ∧ (∀ x ∈ ds', flat x) ∧ ∀ j v, ds'[j]? = some v → w.cell? ⟨L.blk, L.off + off + j, none⟩ = some v := by
  unfold ldN at hd
  split at hd
  · rename_i cs hc
    obtain ⟨es, g, hg⟩ := cells?_some hc
    obtain ⟨c, e, h1, h2, h3, _, _, h6⟩ := r.cells hg hL
    obtain ⟨hlen, rfl⟩ := cut_some hd
    refine ⟨(List.range n).map fun j => c.getD (L.off + off + j) undef, by simp, ⟨by simp; omega, fun i v v' a d => ?_⟩, fun x hx => ?_, fun j v hv => ?_⟩
    · have hi : i < n := by
        simp only [List.getElem?_take] at a
        split at a
        · assumption
        · cases a
      simp only [List.getElem?_take, if_pos hi, List.getElem?_drop] at a
      obtain ⟨u, hu, _, hr⟩ := h6 _ _ a
      simp only [List.getElem?_map, List.getElem?_range hi, Option.map_some, Option.some.injEq] at d
      rw [← Nat.add_assoc] at hu
      rw [← d]
      simpa [Array.getD_eq_getD_getElem?, hu] using hr
    · obtain ⟨j, hj, rfl⟩ := List.mem_map.1 hx
      have hj' : j < n := List.mem_range.1 hj
      have : (off + j) < cs.length := by omega
      obtain ⟨u, hu, hf, _⟩ := h6 (off + j) cs[off + j] (List.getElem?_eq_getElem this)
      rw [← Nat.add_assoc] at hu
      simpa [Array.getD_eq_getD_getElem?, hu] using hf
    · have hj : j < n := by
        have := (List.getElem?_eq_some_iff.1 hv).1
        simpa using this
      simp only [List.getElem?_map, List.getElem?_range hj, Option.map_some, Option.some.injEq] at hv
      have : (off + j) < cs.length := by omega
      obtain ⟨u, hu, _, _⟩ := h6 (off + j) cs[off + j] (List.getElem?_eq_getElem this)
      rw [← Nat.add_assoc] at hu
      rw [cell_none w _ _ c e _ h1, hu, ← hv]
      simp [Array.getD_eq_getD_getElem?, hu]
  · cases hd

theorem Rel.one (r : Rel w0 N0 ϕ h w) {b off : Nat} {v : V} {L : Loc} (hd : ld1 h b off = some v) (hL : ϕ b = some L) :
    ∃ v', w.cell? ⟨L.blk, L.off + off, none⟩ = some v' ∧ flat v' ∧ VR w0 N0 ϕ v v' := by
  unfold ld1 at hd
  split at hd
  · rename_i cs hc
    obtain ⟨es, g, hg⟩ := cells?_some hc
    obtain ⟨c, e, h1, _, _, _, _, h6⟩ := r.cells hg hL
    obtain ⟨u, hu, hf, hr⟩ := h6 _ _ hd
    exact ⟨u, by rw [cell_none w _ _ c e _ h1, hu], hf, hr⟩
  · cases hd

end
end Am

/-
The operations that leave the heap alone: what the abstract machine says, the machine does.
-/
namespace Am
open Go

section
variable {P : Program} {w0 : World} {N0 : Nat} {ϕ : Phi} {h : H} {w : World}

theorem info_of_underlying {t : TypeId} {d : TypeDesc} (hu : P.underlying t = some d) : ∃ i, P.info? t = some i := by
  unfold Program.underlying at hu
  split at hu
  · rename_i hi; exact ⟨_, hi⟩
  · rename_i i hi; exact ⟨_, hi⟩
  · cases hu
theorem known_of {t : TypeId} (hk : knownT P t = true) : ∃ d, P.underlying t = some d := by
  unfold knownT at hk
  exact Option.isSome_iff_exists.1 hk
theorem aggB_of {t : TypeId} (hk : isAggB P t = true) : ∃ d, P.underlying t = some d ∧ (match d with | .struct _ | .array _ _ => true | _ => false) = true := by
  unfold isAggB at hk
  split at hk
  · rename_i fs e; exact ⟨_, e, rfl⟩
  · rename_i e; exact ⟨_, e, rfl⟩
  · cases hk
theorem aggB_not {t : TypeId} {d : TypeDesc} (hk : isAggB P t = false) (hu : P.underlying t = some d) : (match d with | .struct _ | .array _ _ => true | _ => false) = false := by
  unfold isAggB at hk
  rw [hu] at hk
  cases d <;> first | rfl | simp at hk

theorem run_isAgg_true {t : TypeId} (hk : isAggB P t = true) (w : World) : (isAgg t).run P w = .ok true w := by
  obtain ⟨d, hu, hd⟩ := aggB_of hk
  unfold isAgg
  rw [Sem.run_bind, run_underlying hu w]
  cases d <;> simp_all
theorem run_isAgg_false {t : TypeId} (hk : isAggB P t = false) (hu : knownT P t = true) (w : World) : (isAgg t).run P w = .ok false w := by
  obtain ⟨d, hu⟩ := known_of hu
  have hd := aggB_not hk hu
  unfold isAgg
  rw [Sem.run_bind, run_underlying hu w]
  cases d <;> simp_all
theorem run_sizeOf' {t : TypeId} {i : TypeInfo} (hi : P.info? t = some i) (w : World) : (Go.sizeOf t).run P w = .ok (P.cellsOf t) w := by
  simp [Go.sizeOf, typeInfo, hi, Program.cellsOf]
theorem run_typeInfo' {t : TypeId} {i : TypeInfo} (hi : P.info? t = some i) (w : World) : (typeInfo t).run P w = .ok i w := by
  simp [typeInfo, hi]
theorem addr_add (B o n : Nat) : (⟨B, o, none⟩ : Addr).add n = ⟨B, o + n, none⟩ := by
  unfold Addr.add; split <;> simp_all

/-- A constant stands for itself. -/
theorem ofConst_sound : ∀ (d : Nat) (v : Value), VR w0 N0 ϕ (ofConst d v) v := by
  intro d
  induction d with
  | zero =>
    intro v
    cases v with
    | pointer a => cases a <;> first | exact .ptrN | exact .undef _
    | slice a n c =>
      cases a with
      | some a => exact .undef _
      | none => cases n <;> cases c <;> first | exact .slN | exact .undef _
    | map r => cases r <;> first | exact .mapN | exact .undef _
    | chan r => cases r <;> first | exact .chanN | exact .undef _
    | _ => first | exact .int _ _ | exact .bool _ | exact .str _ | exact .nilF | exact .nilI | exact .undef _
  | succ d ih =>
    intro v
    cases v with
    | pointer a => cases a <;> first | exact .ptrN | exact .undef _
    | slice a n c =>
      cases a with
      | some a => exact .undef _
      | none => cases n <;> cases c <;> first | exact .slN | exact .undef _
    | map r => cases r <;> first | exact .mapN | exact .undef _
    | chan r => cases r <;> first | exact .chanN | exact .undef _
    | iface t v => exact .iface _ _ _ (ih v)
    | agg cs =>
      unfold ofConst
      cases e : cs.toList.all Value.oneCell' with
      | false => exact .undef _
      | true =>
        refine .agg _ _ (by simp) (fun i v' hv => ?_) (fun i a b ha hb => ?_)
        · exact List.all_eq_true.1 e v' (Array.mem_toList_iff.2 (Array.mem_of_getElem? hv))
        · simp only [List.getElem?_map, Array.getElem?_toList] at ha
          rw [hb] at ha
          simp at ha
          subst ha
          exact ih b
    | _ => first | exact .int _ _ | exact .bool _ | exact .str _ | exact .nilF | exact .nilI | exact .undef _

theorem VR.ptr_inv {b off : Nat} {v' : Value} (hv : VR w0 N0 ϕ (.ptr b off) v') : ∃ L, ϕ b = some L ∧ v' = .pointer (some ⟨L.blk, L.off + off, none⟩) := by
  cases hv with
  | ptr b off L hL => exact ⟨L, hL, rfl⟩
theorem VR.ptrR_inv {cs : List V} {off : Nat} {v' : Value} (hv : VR w0 N0 ϕ (.ptrR cs off) v') : ∃ (B o : Nat) (cs' : List Value), (cs' = [] ∨ B < N0) ∧ VRL w0 N0 ϕ cs cs' ∧
    (∀ (i : Nat) (v' : Value), cs'[i]? = some v' → w0.cell? ⟨B, o + i, none⟩ = some v' ∧ flat v') ∧ v' = .pointer (some ⟨B, o + off, none⟩) := by
  cases hv with
  | ptrR cs off B o cs' hB hl hc hr => exact ⟨B, o, cs', hB, ⟨hl, hr⟩, hc, rfl⟩
theorem VR.slR_inv {cs : List V} {off len : Nat} {cap : Option Nat} {v' : Value} (hv : VR w0 N0 ϕ (.slR cs off len cap) v') : ∃ (B o cap' : Nat) (cs' : List Value) (a : Addr), (cs' = [] ∨ B < N0) ∧ VRL w0 N0 ϕ cs cs' ∧
    (∀ (i : Nat) (v' : Value), cs'[i]? = some v' → w0.cell? ⟨B, o + i, none⟩ = some v' ∧ flat v') ∧ len ≤ cap' ∧ (∀ c, cap = some c → cap' = c) ∧ (a.block = a.block ∧ a.spot = a.spot) ∧ (cap' = 0 ∨ a = ⟨B, o + off, none⟩) ∧ v' = .slice (some a) len cap' := by
  cases hv with
  | slR cs off len cap cap' B o a cs' hB hl hc hr h1 h2 h3 h4 => exact ⟨B, o, cap', cs', a, hB, ⟨hl, hr⟩, hc, h1, h2, h3, h4, rfl⟩
theorem VR.sl_inv {b off len : Nat} {cap : Option Nat} {es : Nat} {v' : Value} (hv : VR w0 N0 ϕ (.sl b off len cap es) v') : ∃ (L : Loc) (cap' : Nat) (a : Addr), ϕ b = some L ∧ L.es = es ∧ len ≤ cap' ∧ (∀ c, cap = some c → cap' = c) ∧
    (cap = none → off + cap' * L.es = L.res) ∧ (a.block = L.blk ∧ a.spot = none) ∧ (cap' = 0 ∨ a = ⟨L.blk, L.off + off, none⟩) ∧ v' = .slice (some a) len cap' := by
  cases hv with
  | sl b off len cap es cap' L a hL h0 h1 h2 h3 h4 h5 => exact ⟨L, cap', a, hL, h0, h1, h2, h3, h4, h5, rfl⟩
theorem VR.int_inv {k : IntKind} {n : Int} {v' : Value} (hv : VR w0 N0 ϕ (.int k n) v') : v' = .int k n := by cases hv; rfl
theorem VR.bool_inv {b : Bool} {v' : Value} (hv : VR w0 N0 ϕ (.bool b) v') : v' = .bool b := by cases hv; rfl
theorem VR.str_inv {s : ByteArray} {v' : Value} (hv : VR w0 N0 ϕ (.str s) v') : v' = .string s := by cases hv; rfl
theorem VR.ptrN_inv {v' : Value} (hv : VR w0 N0 ϕ .ptrN v') : v' = .pointer none := by cases hv; rfl
theorem VR.slN_inv {v' : Value} (hv : VR w0 N0 ϕ .slN v') : v' = .slice none 0 0 := by cases hv; rfl
theorem VR.nilI_inv {v' : Value} (hv : VR w0 N0 ϕ .nilI v') : v' = .nilIface := by cases hv; rfl
theorem VR.nilF_inv {v' : Value} (hv : VR w0 N0 ϕ .nilF v') : v' = .nilFunc := by cases hv; rfl
theorem VR.iface_inv {t : TypeId} {v : V} {v' : Value} (hv : VR w0 N0 ϕ (.iface t v) v') : ∃ u, v' = .iface t u ∧ VR w0 N0 ϕ v u := by
  cases hv with
  | iface t v u h => exact ⟨u, rfl, h⟩
theorem VR.agg_inv {cs : List V} {v' : Value} (hv : VR w0 N0 ϕ (.agg cs) v') : ∃ cs' : Array Value, v' = .agg cs' ∧ VRL w0 N0 ϕ cs cs'.toList ∧ ∀ x ∈ cs'.toList, flat x := by
  cases hv with
  | agg cs cs' h1 h2 h3 =>
    refine ⟨cs', rfl, ⟨by simpa using h1, fun i v v' a b => h3 i v v' a (by simpa using b)⟩, fun x hx => ?_⟩
    obtain ⟨i, hi, rfl⟩ := List.mem_iff_getElem.1 hx
    exact h2 i _ (by simp at hi ⊢)
theorem VR.tup_inv {cs : List V} {v' : Value} (hv : VR w0 N0 ϕ (.tup cs) v') : ∃ cs' : Array Value, v' = .tuple cs' ∧ VRL w0 N0 ϕ cs cs'.toList := by
  cases hv with
  | tup cs cs' h1 h3 => exact ⟨cs', rfl, ⟨by simpa using h1, fun i v v' a b => h3 i v v' a (by simpa using b)⟩⟩
theorem VR.mk_agg {cs : List V} {cs' : List Value} (h : VRL w0 N0 ϕ cs cs') (hf : ∀ x ∈ cs', flat x) : VR w0 N0 ϕ (.agg cs) (.agg cs'.toArray) :=
  .agg _ _ (by simpa using h.1) (fun i v' hv => hf v' (List.mem_of_getElem? (by simpa using hv))) (fun i v v' a b => h.2 i v v' a (by simpa using b))
theorem VR.mk_tup {cs : List V} {cs' : List Value} (h : VRL w0 N0 ϕ cs cs') : VR w0 N0 ϕ (.tup cs) (.tuple cs'.toArray) :=
  .tup _ _ (by simpa using h.1) (fun i v v' a b => h.2 i v v' a (by simpa using b))

theorem Rel.cell_old (r : Rel w0 N0 ϕ h w) {B o : Nat} (hB : B < N0) : w.cell? ⟨B, o, none⟩ = w0.cell? ⟨B, o, none⟩ := by
  simp [World.cell?, r.old B hB]

/-- A run of the cells of read-only data. -/
theorem Rel.rangeR (r : Rel w0 N0 ϕ h w) {cs ds : List V} {cs' : List Value} {B o off n : Nat} (hB : cs' = [] ∨ B < N0) (hl : VRL w0 N0 ϕ cs cs')
    (hc : ∀ (i : Nat) (v' : Value), cs'[i]? = some v' → w0.cell? ⟨B, o + i, none⟩ = some v' ∧ flat v') (hd : cut cs off n = some ds) :
    ∃ ds' : List Value, ds'.length = n ∧ VRL w0 N0 ϕ ds ds' ∧ (∀ x ∈ ds', flat x) ∧ ∀ j v, ds'[j]? = some v → w.cell? ⟨B, o + off + j, none⟩ = some v := by
  obtain ⟨hlen, rfl⟩ := cut_some hd
  refine ⟨(cs'.drop off).take n, by have := hl.1; simp; omega, (hl.drop off).take n, fun x hx => ?_, fun j v hv => ?_⟩
  · have : x ∈ cs' := List.mem_of_mem_drop (List.mem_of_mem_take hx)
    obtain ⟨i, hi, rfl⟩ := List.mem_iff_getElem.1 this
    exact (hc i _ (List.getElem?_eq_getElem hi)).2
  · have hB : B < N0 := hB.resolve_left (fun e => by subst e; simp at hv)
    rw [r.cell_old hB, Nat.add_assoc]
    refine (hc _ _ ?_).1
    simp only [List.getElem?_take] at hv
    split at hv
    · simpa [List.getElem?_drop] using hv
    · cases hv

theorem run_loadCells' (w : World) {B o n : Nat} {ds' : List Value} (hn : ds'.length = n) (hc : ∀ j v, ds'[j]? = some v → w.cell? ⟨B, o + j, none⟩ = some v) :
    (loadCells ⟨B, o, none⟩ n).run P w = .ok ds'.toArray w := by
  rw [← hn]
  exact run_loadCells_list w _ ds' fun j v hv => by rw [addr_add]; exact hc j v hv

theorem load_sim (r : Rel w0 N0 ϕ h w) {t : TypeId} {a v : V} {a' : Value} (hv : VR w0 N0 ϕ a a') (hl : loadV P t a h = some v) :
    ∃ v', (Instr.loadAt t a').run P w = .ok v' w ∧ VR w0 N0 ϕ v v' := by
  unfold loadV at hl
  split at hl
  · rename_i b off
    obtain ⟨L, hL, rfl⟩ := hv.ptr_inv
    cases hagg : isAggB P t with
    | true =>
      rw [hagg] at hl
      simp only [cond_true] at hl
      split at hl
      · rename_i ds hd
        cases hl
        obtain ⟨ds', hn, hvr, hf, hc⟩ := r.range hd hL
        obtain ⟨d, hu, _⟩ := aggB_of hagg
        obtain ⟨i, hi⟩ := info_of_underlying hu
        refine ⟨.agg ds'.toArray, ?_, VR.mk_agg hvr hf⟩
        simp [Instr.loadAt, Instr.sureAddr, loadVar, run_isAgg_true hagg, run_sizeOf' hi, run_loadCells' w hn hc]
      · cases hl
    | false =>
      rw [hagg] at hl
      simp only [cond_false] at hl
      cases hk : knownT P t with
      | false => rw [hk] at hl; cases hl
      | true =>
        rw [hk] at hl
        simp only [cond_true] at hl
        obtain ⟨v', hc, _, hr⟩ := r.one hl hL
        refine ⟨v', ?_, hr⟩
        simp [Instr.loadAt, Instr.sureAddr, loadVar, run_isAgg_false hagg hk, hc]
  · rename_i cs off
    obtain ⟨B, o, cs', hB, hvl, hc, rfl⟩ := hv.ptrR_inv
    cases hagg : isAggB P t with
    | true =>
      rw [hagg] at hl
      simp only [cond_true] at hl
      split at hl
      · rename_i ds hd
        cases hl
        obtain ⟨ds', hn, hvr, hf, hc⟩ := r.rangeR hB hvl hc hd
        obtain ⟨d, hu, _⟩ := aggB_of hagg
        obtain ⟨i, hi⟩ := info_of_underlying hu
        refine ⟨.agg ds'.toArray, ?_, VR.mk_agg hvr hf⟩
        simp [Instr.loadAt, Instr.sureAddr, loadVar, run_isAgg_true hagg, run_sizeOf' hi, run_loadCells' w hn hc]
      · cases hl
    | false =>
      rw [hagg] at hl
      simp only [cond_false] at hl
      cases hk : knownT P t with
      | false => rw [hk] at hl; cases hl
      | true =>
        rw [hk] at hl
        simp only [cond_true] at hl
        obtain ⟨v', hv', hr⟩ := hvl.get hl
        obtain ⟨h1, _⟩ := hc _ _ hv'
        refine ⟨v', ?_, hr⟩
        have hB : B < N0 := hB.resolve_left (fun e => by subst e; simp at hv')
        simp [Instr.loadAt, Instr.sureAddr, loadVar, run_isAgg_false hagg hk, r.cell_old hB, h1]
  · cases hl

/-! ### Numbers -/
theorem arith_sim {op : BinOp} {k : IntKind} {a b : Int} {v : V} (hs : op ≠ .shl) (hs' : op ≠ .shr) (t : TypeId) (hv : arith op k a b = some v) :
    ∃ v', (binOp op t (.int k a) (.int k b)).run P w = .ok v' w ∧ VR w0 N0 ϕ v v' := by
  cases op <;> first | exact absurd rfl hs | exact absurd rfl hs' | skip
  all_goals simp only [arith] at hv
  case quo =>
    by_cases hb : b = 0
    · simp [hb] at hv
    · simp [hb] at hv; subst hv; exact ⟨_, by simp [binOp, Op.intDiv, hb], .int _ _⟩
  case rem =>
    by_cases hb : b = 0
    · simp [hb] at hv
    · simp [hb] at hv; subst hv; exact ⟨_, by simp [binOp, Op.intDiv, hb], .int _ _⟩
  case add | sub | mul =>
    cases hv
    refine ⟨_, ?_, .int _ _⟩
    simp [binOp, Op.intArith]
  case and | or | xor | andNot =>
    cases hv
    refine ⟨_, ?_, .int _ _⟩
    simp only [binOp, ne_eq, not_true_eq_false, if_false]
    rfl
  case eql | neq | lss | leq | gtr | geq =>
    cases hv
    refine ⟨_, ?_, .bool _⟩
    simp [binOp, Op.intCmp]

theorem shift_sim {op : BinOp} {k yk : IntKind} {a b : Int} {v : V} (t : TypeId) (ho : op = .shl ∨ op = .shr) (hv : shiftV op k a b = some v) :
    ∃ v', (binOp op t (.int k a) (.int yk b)).run P w = .ok v' w ∧ VR w0 N0 ϕ v v' := by
  unfold shiftV at hv
  by_cases hb : b < 0
  · simp [hb] at hv
  · rcases ho with rfl | rfl
    · simp [hb] at hv; subst hv; exact ⟨_, by simp [binOp, Op.shift, hb], .int _ _⟩
    · simp [hb] at hv; subst hv; exact ⟨_, by simp [binOp, Op.shift, hb], .int _ _⟩

theorem str_sim {op : BinOp} {a b : ByteArray} {v : V} (hs : op ≠ .shl) (hs' : op ≠ .shr) (t : TypeId) (hv : strOp op a b = some v) :
    ∃ v', (binOp op t (.string a) (.string b)).run P w = .ok v' w ∧ VR w0 N0 ϕ v v' := by
  cases op <;> simp only [strOp] at hv
  case add =>
    by_cases hb : ((a.size + b.size : Nat) : Int) > IntKind.i64.max
    · rw [decide_eq_true hb] at hv; cases hv
    · rw [decide_eq_false hb] at hv
      cases hv
      refine ⟨_, ?_, .str _⟩
      simp only [binOp, Op.stringOp, if_neg hb]
      rfl
  case eql | neq | lss | leq | gtr | geq =>
    cases hv
    refine ⟨_, ?_, .bool _⟩
    simp only [binOp, Op.stringOp]
    rfl
  all_goals cases hv

end
end Am

/-
Parts, equality, conversions, addresses, slices, maps: what the abstract machine says, the machine does.
-/
namespace Am
open Go

section
variable {P : Program} {w0 : World} {N0 : Nat} {ϕ : Phi} {h : H} {w : World}

theorem part_sim {t : TypeId} {cs : List V} {cs' : Array Value} {off : Nat} {v : V} (hv : VRL w0 N0 ϕ cs cs'.toList) (hf : ∀ x ∈ cs'.toList, flat x) (hp : partV P t cs off = some v) :
    ∃ v', (part t cs' off).run P w = .ok v' w ∧ VR w0 N0 ϕ v v' := by
  unfold partV at hp
  cases hagg : isAggB P t with
  | true =>
    rw [hagg] at hp
    simp only [cond_true] at hp
    split at hp
    · rename_i ds hd
      cases hp
      obtain ⟨hlen, rfl⟩ := cut_some hd
      obtain ⟨d, hu, _⟩ := aggB_of hagg
      obtain ⟨i, hi⟩ := info_of_underlying hu
      have e : cs'.extract off (off + P.cellsOf t) = ((cs'.toList.drop off).take (P.cellsOf t)).toArray := by
        apply Array.ext'
        simp [List.take_drop]
      refine ⟨.agg ((cs'.toList.drop off).take (P.cellsOf t)).toArray, ?_, VR.mk_agg ((hv.drop off).take _) fun x hx => hf x (List.mem_of_mem_drop (List.mem_of_mem_take hx))⟩
      simp only [part, Sem.run_bind, run_isAgg_true hagg, Result.andThen_ok, run_sizeOf' hi, if_true, Sem.run_pure, e]
    · cases hp
  | false =>
    rw [hagg] at hp
    simp only [cond_false] at hp
    cases hk : knownT P t with
    | false => rw [hk] at hp; cases hp
    | true =>
      rw [hk] at hp
      simp only [cond_true] at hp
      obtain ⟨v', hv', hr⟩ := hv.get hp
      refine ⟨v', ?_, hr⟩
      have : cs'[off]? = some v' := by simpa using hv'
      simp [part, run_isAgg_false hagg hk, this]

theorem eqFields_sim {d D : Nat} (ih : ∀ {t : TypeId} {x y : V} {x' y' : Value} {b : Bool}, eqV P d t x y = some b → VR w0 N0 ϕ x x' → VR w0 N0 ϕ y y' → (Op.equalIn D t x' y').run P w = .ok b w)
    {xs ys : List V} {xs' ys' : Array Value} (hx : VRL w0 N0 ϕ xs xs'.toList) (hxf : ∀ x ∈ xs'.toList, flat x) (hy : VRL w0 N0 ϕ ys ys'.toList) (hyf : ∀ x ∈ ys'.toList, flat x) :
    ∀ (fs : List Field) (b : Bool), fs.foldr (fun f acc =>
        bif f.name == "_" then acc else
        match partV P f.type xs f.offset, partV P f.type ys f.offset with
        | some a, some b =>
          match eqV P d f.type a b with
          | some true => acc
          | some false => some false
          | none => none
        | _, _ => none) (some true) = some b → (Op.eqFields D xs' ys' fs).run P w = .ok b w
  | [], b, hb => by simp at hb; subst hb; simp [Op.eqFields]
  | f :: fs, b, hb => by
    simp only [List.foldr_cons] at hb
    by_cases hn : f.name = "_"
    · simp only [hn, beq_self_eq_true, cond_true] at hb
      simp only [Op.eqFields, hn, ne_eq, not_true_eq_false, if_false]
      exact eqFields_sim ih hx hxf hy hyf fs b hb
    · have e : (f.name == "_") = false := by simpa using hn
      rw [e] at hb
      simp only [cond_false] at hb
      split at hb
      · rename_i a c ha hc
        obtain ⟨a', ra, va⟩ := part_sim (w := w) hx hxf ha
        obtain ⟨c', rc, vc⟩ := part_sim (w := w) hy hyf hc
        split at hb
        · rename_i he
          simp only [Op.eqFields, ne_eq, hn, not_false_eq_true, if_true, Sem.run_bind, ra, rc, Result.andThen_ok, ih he va vc, Bool.not_true, Bool.false_eq_true, if_false]
          exact eqFields_sim ih hx hxf hy hyf fs b hb
        · rename_i he
          cases hb
          simp only [Op.eqFields, ne_eq, hn, not_false_eq_true, if_true, Sem.run_bind, ra, rc, Result.andThen_ok, ih he va vc, Bool.not_false, Sem.run_pure]
        · cases hb
      · cases hb

set_option maxHeartbeats 4000000 in
theorem eq_sim : ∀ (d D : Nat), d ≤ D → ∀ {t : TypeId} {x y : V} {x' y' : Value} {b : Bool}, eqV P d t x y = some b → VR w0 N0 ϕ x x' → VR w0 N0 ϕ y y' → (Op.equalIn D t x' y').run P w = .ok b w
  | 0, _, _, _, _, _, _, _, _, h, _, _ => by simp [eqV] at h
  | d + 1, 0, hle, _, _, _, _, _, _, _, _, _ => by omega
  | d + 1, D + 1, hle, t, x, y, x', y', b, hb, hx, hy => by
    unfold eqV at hb
    split at hb
    case h_1 hu => rw [hx.bool_inv, hy.bool_inv]; cases hb; simp [Op.equalIn, run_underlying hu]
    case h_2 k a k' c hu =>
      rw [hx.int_inv, hy.int_inv]
      by_cases hk : k = k'
      · simp [hk] at hb; subst hb; simp [Op.equalIn, run_underlying hu, hk]
      · simp [hk] at hb
    case h_3 hu => rw [hx.str_inv, hy.str_inv]; cases hb; simp [Op.equalIn, run_underlying hu]
    case h_4 hu => rw [hx.ptrN_inv, hy.ptrN_inv]; cases hb; simp [Op.equalIn, run_underlying hu]
    case h_5 hu => obtain ⟨L, _, rfl⟩ := hy.ptr_inv; rw [hx.ptrN_inv]; cases hb; simp [Op.equalIn, run_underlying hu]
    case h_6 hu => obtain ⟨_, _, _, _, _, _, rfl⟩ := hy.ptrR_inv; rw [hx.ptrN_inv]; cases hb; simp [Op.equalIn, run_underlying hu]
    case h_7 hu => obtain ⟨L, _, rfl⟩ := hx.ptr_inv; rw [hy.ptrN_inv]; cases hb; simp [Op.equalIn, run_underlying hu]
    case h_8 hu => obtain ⟨_, _, _, _, _, _, rfl⟩ := hx.ptrR_inv; rw [hy.ptrN_inv]; cases hb; simp [Op.equalIn, run_underlying hu]
    case h_9 hu => rw [hx.nilI_inv, hy.nilI_inv]; cases hb; simp [Op.equalIn, run_underlying hu]
    case h_10 hu => obtain ⟨_, rfl, _⟩ := hy.iface_inv; rw [hx.nilI_inv]; cases hb; simp [Op.equalIn, run_underlying hu]
    case h_11 hu => obtain ⟨_, rfl, _⟩ := hx.iface_inv; rw [hy.nilI_inv]; cases hb; simp [Op.equalIn, run_underlying hu]
    case h_12 tx vx ty vy hu =>
      obtain ⟨vx', rfl, hvx⟩ := hx.iface_inv
      obtain ⟨vy', rfl, hvy⟩ := hy.iface_inv
      by_cases ht : tx = ty
      · subst ht
        rw [nb_t rfl] at hb
        simp only [cond_true] at hb
        split at hb
        · rename_i i hi
          cases hc : i.comparable with
          | false => rw [hc] at hb; cases hb
          | true =>
            rw [hc] at hb
            simp only [cond_true] at hb
            have := eq_sim d D (by omega) hb hvx hvy
            simp [Op.equalIn, run_underlying hu, run_typeInfo' hi, hc, this]
        · cases hb
      · rw [nb_f ht] at hb
        simp only [cond_false, Option.some.injEq] at hb
        subst hb
        simp [Op.equalIn, run_underlying hu, ht]
    case h_13 fs xs ys hu =>
      obtain ⟨xs', rfl, hxl, hxf⟩ := hx.agg_inv
      obtain ⟨ys', rfl, hyl, hyf⟩ := hy.agg_inv
      cases hs : P.stoodInHeld t with
      | true => rw [hs] at hb; cases hb
      | false =>
        rw [hs] at hb
        simp only [cond_false] at hb
        have e : P.fieldsOf t = fs := by simp [Program.fieldsOf, hu]
        rw [run_equalIn_struct w D t xs' ys' (by rw [e]; exact hu) hs, e]
        exact eqFields_sim (fun h1 h2 h3 => eq_sim d D (by omega) h1 h2 h3) hxl hxf hyl hyf _ _ hb
    case h_14 hu => rw [hx.slN_inv, hy.slN_inv]; cases hb; simp [Op.equalIn, run_underlying hu]
    case h_15 hu => obtain ⟨_, _, _, _, _, _, _, _, _, _, rfl⟩ := hy.sl_inv; rw [hx.slN_inv]; cases hb; simp [Op.equalIn, run_underlying hu]
    case h_16 hu => obtain ⟨_, _, _, _, _, _, _, _, _, _, _, _, rfl⟩ := hy.slR_inv; rw [hx.slN_inv]; cases hb; simp [Op.equalIn, run_underlying hu]
    case h_17 hu => obtain ⟨_, _, _, _, _, _, _, _, _, _, rfl⟩ := hx.sl_inv; rw [hy.slN_inv]; cases hb; simp [Op.equalIn, run_underlying hu]
    case h_18 hu => obtain ⟨_, _, _, _, _, _, _, _, _, _, _, _, rfl⟩ := hx.slR_inv; rw [hy.slN_inv]; cases hb; simp [Op.equalIn, run_underlying hu]
    case h_19 hu => cases hx; cases hy; cases hb; simp [Op.equalIn, run_underlying hu]
    case h_20 hu => cases hx; cases hy; cases hb; simp [Op.equalIn, run_underlying hu]
    case h_21 hu => cases hx; cases hy; cases hb; simp [Op.equalIn, run_underlying hu]
    case h_22 hu => cases hx; cases hy; cases hb; simp [Op.equalIn, run_underlying hu]
    case h_23 hu => cases hx; cases hy; cases hb; simp [Op.equalIn, run_underlying hu]
    case h_24 hu => cases hx; cases hy; cases hb; simp [Op.equalIn, run_underlying hu]
    case h_25 hu => cases hx; cases hy; cases hb; simp [Op.equalIn, run_underlying hu]
    case h_26 hu => cases hx; cases hy; cases hb; simp [Op.equalIn, run_underlying hu]
    case h_27 hu => cases hx; cases hy; cases hb; simp [Op.equalIn, run_underlying hu]
    case h_28 => cases hb

end
end Am

/-
The remaining operations that leave the heap alone.
-/
namespace Am
open Go

section
variable {P : Program} {w0 : World} {N0 : Nat} {ϕ : Phi} {h : H} {w : World}

def plainPair : Value → Value → Bool
  | .int .., .int .. | .float .., .float .. | .complex .., .complex .. | .string _, .string _ => false
  | _, _ => true
theorem binOp_eql {t : TypeId} {x y : Value} (hp : plainPair x y = true) : binOp .eql t x y = (do pure (.bool (← Op.equal t x y))) := by
  cases x <;> cases y <;> first | rfl | cases hp
theorem binOp_neq {t : TypeId} {x y : Value} (hp : plainPair x y = true) : binOp .neq t x y = (do pure (.bool (!(← Op.equal t x y)))) := by
  cases x <;> cases y <;> first | rfl | cases hp

theorem eqGuard_other {op : BinOp} {t : TypeId} {x y : Operand} {a b : Value} (h1 : op ≠ .eql) (h2 : op ≠ .neq) (w : World) : (eqGuard op t x y a b).run P w = .ok () w := by
  cases op <;> first | exact absurd rfl h1 | exact absurd rfl h2 | simp [eqGuard]

theorem eqGuard_int {op : BinOp} {t : TypeId} {x y : Operand} {k k' : IntKind} {a b : Int} (w : World) : (eqGuard op t x y (.int k a) (.int k' b)).run P w = .ok () w := by
  cases op <;> simp [eqGuard]
theorem eqGuard_str {op : BinOp} {t : TypeId} {x y : Operand} {a b : ByteArray} (w : World) : (eqGuard op t x y (.string a) (.string b)).run P w = .ok () w := by
  cases op <;> simp [eqGuard]

theorem isConstO_iff {x : Operand} : isConstO x = (match x with | .const _ => true | _ => false) := by cases x <;> rfl

theorem bin_sim {op : BinOp} {t : TypeId} {x y : Operand} {a b v : V} {a' b' : Value} (ha : VR w0 N0 ϕ a a') (hb : VR w0 N0 ϕ b b') (hv : binV P op t x y a b = some v) :
    ∃ v', ((do eqGuard op t x y a' b'; binOp op t a' b') : Go.Sem Value).run P w = .ok v' w ∧ VR w0 N0 ϕ v v' := by
  unfold binV at hv
  split at hv
  · rename_i k a k' b
    rw [ha.int_inv, hb.int_inv]
    simp only [Sem.run_bind, eqGuard_int, Result.andThen_ok]
    split at hv
    · exact shift_sim t (.inl rfl) hv
    · exact shift_sim t (.inr rfl) hv
    · rename_i h1 h2
      by_cases hk : k = k'
      · subst hk
        simp only [decide_true, cond_true] at hv
        exact arith_sim (fun e => h1 e) (fun e => h2 e) t hv
      · simp [hk] at hv
  · rename_i a b
    rw [ha.str_inv, hb.str_inv]
    simp only [Sem.run_bind, eqGuard_str, Result.andThen_ok]
    have h1 : op ≠ .shl := by rintro rfl; simp [strOp] at hv
    have h2 : op ≠ .shr := by rintro rfl; simp [strOp] at hv
    exact str_sim h1 h2 t hv
  · rename_i hni hns
    cases hg : eqBad P t x y a b with
    | true => rw [hg] at hv; cases hv
    | false =>
      rw [hg] at hv
      simp only [cond_false] at hv
      have hplain : ∀ r, eqV P 100 t a b = some r → plainPair a' b' = true ∧ (eqGuard op t x y a' b').run P w = .ok () w := by
        intro r hr
        unfold eqV at hr
        split at hr
        case h_2 => exact absurd rfl (hni _ _ _ _ rfl)
        case h_3 => exact absurd rfl (hns _ _ rfl)
        case h_28 => cases hr
        case h_1 => rw [ha.bool_inv, hb.bool_inv]; exact ⟨rfl, by cases op <;> simp [eqGuard]⟩
        case h_13 =>
          obtain ⟨xs', rfl, _, _⟩ := ha.agg_inv
          obtain ⟨ys', rfl, _, _⟩ := hb.agg_inv
          exact ⟨rfl, run_eqGuard_agg w op t x y _ _ hg⟩
        case h_9 =>
          rw [ha.nilI_inv, hb.nilI_inv]
          refine ⟨rfl, ?_⟩
          unfold eqBad at hg
          cases x <;> cases y <;> simp [isConstO] at hg <;> cases op <;> simp [eqGuard]
        all_goals cases ha <;> cases hb <;> exact ⟨rfl, by cases op <;> simp [eqGuard]⟩
      split at hv
      · split at hv
        · rename_i r hr
          cases hv
          obtain ⟨hp, hgd⟩ := hplain _ hr
          refine ⟨_, ?_, .bool r⟩
          have := eq_sim (w := w) 100 10000 (by omega) hr ha hb
          simp only [Sem.run_bind, hgd, Result.andThen_ok, binOp_eql hp, Op.equal, Op.maxDepth, this, Sem.run_pure]
        · cases hv
      · split at hv
        · rename_i r hr
          cases hv
          obtain ⟨hp, hgd⟩ := hplain _ hr
          refine ⟨_, ?_, .bool !r⟩
          have := eq_sim (w := w) 100 10000 (by omega) hr ha hb
          simp only [Sem.run_bind, hgd, Result.andThen_ok, binOp_neq hp, Op.equal, Op.maxDepth, this, Sem.run_pure]
        · cases hv
      · cases hv

theorem un_sim {op : UnOp} {x v : V} {x' : Value} (hx : VR w0 N0 ϕ x x') (hv : unV op x = some v) : ∃ v', (Op.unary op x').run P w = .ok v' w ∧ VR w0 N0 ϕ v v' := by
  unfold unV at hv
  split at hv
  · rw [hx.int_inv]; cases hv; exact ⟨_, by simp only [Op.unary, Op.intArith, Sem.run_pure], .int _ _⟩
  · rw [hx.bool_inv]; cases hv; exact ⟨_, by simp only [Op.unary, Sem.run_pure], .bool _⟩
  · cases hv

/-! ### Bytes to a string -/
theorem bytes_go : ∀ {cs : List V} {l : List UInt8} {cs' : List Value}, convV.go cs = some l → VRL w0 N0 ϕ cs cs' → ∀ (s : ByteArray),
    (forIn cs' s (fun (c : Value) (s : ByteArray) => (match c with
      | .int .u8 n => (pure (ForInStep.yield (s.push (UInt8.ofNat n.toNat))) : Go.Sem (ForInStep ByteArray))
      | _ => (fun (_ : PUnit) => ForInStep.yield s) <$> (stuck "bytesToString: byte expected" : Go.Sem PUnit)))).run P w = .ok ⟨s.data ++ l.toArray⟩ w
  | [], l, cs', h, hv, s => by
    simp [convV.go] at h
    subst h
    have : cs' = [] := by have := hv.1; simp at this; exact List.length_eq_zero_iff.1 this.symm
    subst this
    simp
  | c :: cs, l, cs', h, hv, s => by
    cases cs' with
    | nil => have := hv.1; simp at this
    | cons c' cs' =>
      have h0 := hv.2 0 c c' rfl rfl
      have ht : VRL w0 N0 ϕ cs cs' := ⟨by have := hv.1; simpa using this, fun i a b x y => hv.2 (i + 1) a b (by simpa using x) (by simpa using y)⟩
      unfold convV.go at h
      split at h
      · cases ‹_ :: _ = []›
      · rename_i n ds heq
        cases heq
        rw [h0.int_inv]
        split at h
        · rename_i l' hl'
          cases h
          have := bytes_go hl' ht (s.push (UInt8.ofNat n.toNat))
          simp only [List.forIn_cons, Sem.run_bind, Sem.run_pure, Result.andThen_ok, this]
          congr 1
          simp [ByteArray.push]
        · cases h
      · cases h

end
end Am

/-
Conversions, addresses, indexes, slices, maps, interfaces.
-/
namespace Am
open Go

section
variable {P : Program} {w0 : World} {N0 : Nat} {ϕ : Phi} {h : H} {w : World}

theorem run_bytesToString {B o len cap : Nat} {a : Addr} {cs' : List Value} {cs : List V} {l : List UInt8} (hn : cs'.length = len) (hc : ∀ j v, cs'[j]? = some v → w.cell? ⟨B, o + j, none⟩ = some v)
    (ha : len = 0 ∨ a = ⟨B, o, none⟩) (hg : convV.go cs = some l) (hv : VRL w0 N0 ϕ cs cs') : (Conv.bytesToString (.slice (some a) len cap)).run P w = .ok (.string ⟨l.toArray⟩) w := by
  have hl : (loadCells a len).run P w = .ok cs'.toArray w := by
    rcases ha with h0 | rfl
    · subst h0
      have : cs' = [] := List.length_eq_zero_iff.1 hn
      subst this
      simp [loadCells, loadCellsFrom]
    · exact run_loadCells' w hn hc
  have := bytes_go (P := P) (w := w) hg hv ByteArray.empty
  simp only [Conv.bytesToString, Sem.run_bind, hl, Result.andThen_ok]
  rw [← Array.forIn_toList]
  have e2 : (ByteArray.mk (ByteArray.empty.data ++ l.toArray)) = ⟨l.toArray⟩ := by
    apply congrArg
    apply Array.ext'
    rw [Array.toList_append]
    rfl
  rw [e2] at this
  exact congrArg (fun r => Result.andThen r fun s w' => Result.ok (Value.string s) w') this

theorem conv_sim (r : Rel w0 N0 ϕ h w) {s d : TypeId} {x v : V} {x' : Value} (hx : VR w0 N0 ϕ x x') (hv : convV P s d x h = some v) :
    ∃ v', (convert s d x').run P w = .ok v' w ∧ VR w0 N0 ϕ v v' := by
  unfold convV at hv
  split at hv
  · rename_i d1 k k' n hs hd
    rw [hx.int_inv]
    cases hv
    exact ⟨_, by simp [convert, run_underlying hs, run_underlying hd, Conv.intToInt], .int _ _⟩
  · rename_i d1 s1 hs hd
    rw [hx.str_inv]
    cases hv
    refine ⟨_, ?_, .str _⟩
    cases d1 <;> simp [convert, run_underlying hs, run_underlying hd]
  · rename_i e y hs hd _
    split at hv
    · rename_i he
      split at hv
      · rw [hx.slN_inv]
        cases hv
        exact ⟨_, by simp [convert, run_underlying hs, run_underlying hd, run_underlying he, Conv.bytesToString], .str _⟩
      · rename_i b off len cap
        obtain ⟨L, cap', a, hL, h0, h1, h2, h3, h4, h5, rfl⟩ := hx.sl_inv
        split at hv
        · rename_i cs hcs
          unfold convV.bytesOf at hv
          cases hgo : convV.go cs with
          | none => rw [hgo] at hv; cases hv
          | some l =>
            rw [hgo] at hv
            cases hv
            obtain ⟨ds', hn, hvr, _, hc⟩ := r.range hcs hL
            have := run_bytesToString (P := P) (w := w) (cap := cap') (a := a) hn hc (h5.imp (fun h => by omega) id) hgo hvr
            exact ⟨_, by simp [convert, run_underlying hs, run_underlying hd, run_underlying he, this], .str _⟩
        · cases hv
      · rename_i cs off len cap
        obtain ⟨B, o, cap', cs', a, hB, hvl, hc, h1, h2, h3, h4, rfl⟩ := hx.slR_inv
        split at hv
        · rename_i ds hcs
          unfold convV.bytesOf at hv
          cases hgo : convV.go ds with
          | none => rw [hgo] at hv; cases hv
          | some l =>
            rw [hgo] at hv
            cases hv
            obtain ⟨ds', hn, hvr, _, hc⟩ := r.rangeR hB hvl hc hcs
            have := run_bytesToString (P := P) (w := w) (cap := cap') (a := a) hn hc (h4.imp (fun h => by omega) id) hgo hvr
            exact ⟨_, by simp [convert, run_underlying hs, run_underlying hd, run_underlying he, this], .str _⟩
        · cases hv
      · cases hv
    · cases hv
  · cases hv

theorem fieldA_sim {s : TypeId} {x v : V} {x' : Value} {f : Nat} (hx : VR w0 N0 ϕ x x') (hv : fieldA P s x f = some v) :
    ∃ v', (Instr.fieldAt s x' f).run P w = .ok v' w ∧ VR w0 N0 ϕ v v' := by
  unfold fieldA at hv
  split at hv
  · rename_i fs hs
    split at hv
    · rename_i fd hf
      cases hz : Nat.beq (P.cellsOf fd.type) 0 || !(P.info? fd.type).isSome with
      | true => rw [hz] at hv; cases hv
      | false =>
        rw [hz] at hv
        simp only [Bool.or_eq_false_iff, Bool.not_eq_false'] at hz
        obtain ⟨i, hi⟩ := Option.isSome_iff_exists.1 hz.2
        have hne : P.cellsOf fd.type ≠ 0 := fun e => by rw [nb_t e] at hz; cases hz.1
        simp only [cond_false] at hv
        split at hv
        · obtain ⟨L, hL, rfl⟩ := hx.ptr_inv
          cases hv
          refine ⟨_, ?_, .ptr _ _ L hL⟩
          simp [Instr.fieldAt, run_underlying hs, hf, Instr.sureAddr, fieldPlace, run_sizeOf' hi, hne, addr_add, Nat.add_assoc]
        · obtain ⟨B, o, cs', hB, hvl, hc, rfl⟩ := hx.ptrR_inv
          cases hv
          refine ⟨_, ?_, .ptrR _ _ B o cs' hB hvl.1 hc hvl.2⟩
          simp [Instr.fieldAt, run_underlying hs, hf, Instr.sureAddr, fieldPlace, run_sizeOf' hi, hne, addr_add, Nat.add_assoc]
        · cases hv
    · cases hv
  · cases hv

theorem fieldV_sim {s : TypeId} {x v : V} {x' : Value} {f : Nat} (hx : VR w0 N0 ϕ x x') (hv : fieldV P s x f = some v) :
    ∃ v', (Instr.field s x' f).run P w = .ok v' w ∧ VR w0 N0 ϕ v v' := by
  unfold fieldV at hv
  split at hv
  · rename_i fs hs
    split at hv
    · rename_i fd hf
      split at hv
      · obtain ⟨cs', rfl, hl, hfl⟩ := hx.agg_inv
        obtain ⟨v', hr, hvr⟩ := part_sim (w := w) hl hfl hv
        exact ⟨v', by simp [Instr.field, run_underlying hs, hf, asAgg, hr], hvr⟩
      · cases hv
    · cases hv
  · cases hv

theorem ite_bounds {i : Int} {n : Nat} (h : (decide (0 ≤ i) && decide (i < (n : Int))) = true) : 0 ≤ i ∧ i < (n : Int) := by simpa using h

theorem indexA_sim {t : TypeId} {x i v : V} {x' i' : Value} (hx : VR w0 N0 ϕ x x') (hi : VR w0 N0 ϕ i i') (hv : indexA P t x i = some v) :
    ∃ v', (Instr.indexAt t x' i').run P w = .ok v' w ∧ VR w0 N0 ϕ v v' := by
  unfold indexA at hv
  split at hv
  · rename_i k i
    rw [hi.int_inv]
    split at hv
    · rename_i e hu
      cases hie : (P.info? e).isSome with
      | false => rw [hie] at hv; cases hv
      | true =>
        rw [hie] at hv
        simp only [Bool.not_true, cond_false] at hv
        obtain ⟨ie, hie⟩ := Option.isSome_iff_exists.1 hie
        split at hv
        · rename_i b off len cap es
          obtain ⟨L, cap', a, hL, h0, h1, h2, h3, h4, h5, rfl⟩ := hx.sl_inv
          cases hb : (decide (0 ≤ i) && decide (i < (len : Int))) with
          | false => rw [hb] at hv; cases hv
          | true =>
            rw [hb] at hv
            have hbb := ite_bounds hb
            cases hv
            have ha : a = ⟨L.blk, L.off + off, none⟩ := h5.resolve_left (by omega)
            subst ha
            refine ⟨_, ?_, .ptr _ _ L hL⟩
            simp [Instr.indexAt, asIntOf, run_underlying hu, hbb, run_sizeOf' hie, addr_add, Nat.add_assoc]
        · rename_i cs off len cap
          obtain ⟨B, o, cap', cs', a, hB, hvl, hc, h1, h2, h3, h4, rfl⟩ := hx.slR_inv
          cases hb : (decide (0 ≤ i) && decide (i < (len : Int))) with
          | false => rw [hb] at hv; cases hv
          | true =>
            rw [hb] at hv
            have hbb := ite_bounds hb
            cases hv
            have ha : a = ⟨B, o + off, none⟩ := h4.resolve_left (by omega)
            subst ha
            refine ⟨_, ?_, .ptrR _ _ B o cs' hB hvl.1 hc hvl.2⟩
            simp [Instr.indexAt, asIntOf, run_underlying hu, hbb, run_sizeOf' hie, addr_add, Nat.add_assoc]
        · cases hv
    · rename_i len e hu
      cases hie : (P.info? e).isSome with
      | false => rw [hie] at hv; cases hv
      | true =>
        rw [hie] at hv
        simp only [Bool.not_true, cond_false] at hv
        obtain ⟨ie, hie⟩ := Option.isSome_iff_exists.1 hie
        split at hv
        · rename_i b off
          obtain ⟨L, hL, rfl⟩ := hx.ptr_inv
          cases hb : (decide (0 ≤ i) && decide (i < (len : Int))) with
          | false => rw [hb] at hv; cases hv
          | true =>
            rw [hb] at hv
            have hbb := ite_bounds hb
            cases hv
            refine ⟨_, ?_, .ptr _ _ L hL⟩
            simp [Instr.indexAt, asIntOf, run_underlying hu, Instr.sureAddr, hbb, run_sizeOf' hie, addr_add, Nat.add_assoc]
        · rename_i cs off
          obtain ⟨B, o, cs', hB, hvl, hc, rfl⟩ := hx.ptrR_inv
          cases hb : (decide (0 ≤ i) && decide (i < (len : Int))) with
          | false => rw [hb] at hv; cases hv
          | true =>
            rw [hb] at hv
            have hbb := ite_bounds hb
            cases hv
            refine ⟨_, ?_, .ptrR _ _ B o cs' hB hvl.1 hc hvl.2⟩
            simp [Instr.indexAt, asIntOf, run_underlying hu, Instr.sureAddr, hbb, run_sizeOf' hie, addr_add, Nat.add_assoc]
        · cases hv
    · cases hv
  · cases hv

theorem indexV_sim {t : TypeId} {x i v : V} {x' i' : Value} (hx : VR w0 N0 ϕ x x') (hi : VR w0 N0 ϕ i i') (hv : indexV P t x i = some v) :
    ∃ v', (Instr.index t x' i').run P w = .ok v' w ∧ VR w0 N0 ϕ v v' := by
  unfold indexV at hv
  split at hv
  · rename_i k i
    rw [hi.int_inv]
    split at hv
    · rename_i len e cs hu
      obtain ⟨cs', rfl, hl, hfl⟩ := hx.agg_inv
      cases hb : (decide (0 ≤ i) && decide (i < (len : Int))) with
      | false => rw [hb] at hv; cases hv
      | true =>
        rw [hb] at hv
        simp only [cond_true] at hv
        have hbb := ite_bounds hb
        obtain ⟨v', hr, hvr⟩ := part_sim (w := w) hl hfl hv
        have hie : ∃ ie, P.info? e = some ie := by
          unfold partV at hv
          cases ha : isAggB P e with
          | true => obtain ⟨d, hd, _⟩ := aggB_of ha; exact info_of_underlying hd
          | false =>
            rw [ha] at hv
            simp only [cond_false] at hv
            cases hk : knownT P e with
            | false => rw [hk] at hv; cases hv
            | true => obtain ⟨d, hd⟩ := known_of hk; exact info_of_underlying hd
        obtain ⟨ie, hie⟩ := hie
        exact ⟨v', by simp [Instr.index, asIntOf, run_underlying hu, hbb, run_sizeOf' hie, hr], hvr⟩
    · rename_i s hu
      rw [hx.str_inv]
      by_cases h0 : 0 ≤ i
      · simp only [h0, decide_true, cond_true] at hv
        split at hv
        · rename_i b hb
          cases hv
          exact ⟨_, by simp [Instr.index, asIntOf, run_underlying hu, h0, hb], .int _ _⟩
        · cases hv
      · simp [h0] at hv
    · cases hv
  · cases hv

end
end Am

/-
Slices, maps, interfaces, lengths, least and greatest; structs that are built.
-/
namespace Am
open Go

section
variable {P : Program} {w0 : World} {N0 : Nat} {ϕ : Phi} {h : H} {w : World}

theorem bound_sim {v : Option V} {v' : Option Value} {d n : Nat} (hv : (v = none ∧ v' = none) ∨ ∃ a a', v = some a ∧ v' = some a' ∧ VR w0 N0 ϕ a a') (hb : bound v d = some n) :
    (v = none ∧ v' = none ∧ n = d) ∨ (∃ (k : IntKind) (i : Int), v' = some (.int k i) ∧ v = some (.int k i) ∧ 0 ≤ i ∧ n = i.toNat) := by
  rcases hv with ⟨rfl, rfl⟩ | ⟨a, a', rfl, rfl, h⟩
  · simp [bound] at hb; exact .inl ⟨rfl, rfl, hb.symm⟩
  · cases a <;> simp [bound] at hb
    rename_i k i
    by_cases h0 : 0 ≤ i
    · simp [h0] at hb
      exact .inr ⟨k, i, by rw [h.int_inv], rfl, h0, hb.symm⟩
    · simp [h0] at hb

theorem run_sliceBound {k : IntKind} {i : Int} {y : Nat} {code : BoundsCode} (h0 : 0 ≤ i) (h1 : i.toNat ≤ y) (w : World) : (Instr.sliceBound (.int k i) y code).run P w = .ok i.toNat w := by
  have : i ≤ y := by omega
  simp [Instr.sliceBound, asIntOf, h0, this]

def optR (w0 : World) (N0 : Nat) (ϕ : Phi) (v : Option V) (v' : Option Value) : Prop := (v = none ∧ v' = none) ∨ ∃ a a', v = some a ∧ v' = some a' ∧ VR w0 N0 ϕ a a'

/-- The bounds of a slice expression, as the machine reckons them. -/
theorem run_sliceBounds {isSlice : Bool} {len cap : Nat} {lo hi : Option V} {lo' hi' : Option Value} {l hh : Nat} (h1 : optR w0 N0 ϕ lo lo') (h2 : optR w0 N0 ϕ hi hi')
    (hl : bound lo 0 = some l) (hh' : bound hi len = some hh) (le1 : l ≤ hh) (le2 : hh ≤ cap) (w : World) :
    (Instr.sliceBounds isSlice len cap lo' hi' none).run P w = .ok (l, hh, cap) w := by
  rcases bound_sim h1 hl with ⟨rfl, rfl, rfl⟩ | ⟨k1, i1, rfl, rfl, p1, rfl⟩
  · rcases bound_sim h2 hh' with ⟨rfl, rfl, rfl⟩ | ⟨k2, i2, rfl, rfl, p2, rfl⟩
    · simp only [Instr.sliceBounds, Sem.run_bind, Sem.run_pure, Result.andThen_ok]
    · simp only [Instr.sliceBounds, Sem.run_bind, Sem.run_pure, Result.andThen_ok, run_sliceBound p2 le2]
  · rcases bound_sim h2 hh' with ⟨rfl, rfl, rfl⟩ | ⟨k2, i2, rfl, rfl, p2, rfl⟩
    · simp only [Instr.sliceBounds, Sem.run_bind, Sem.run_pure, Result.andThen_ok, run_sliceBound p1 le1]
    · simp only [Instr.sliceBounds, Sem.run_bind, Sem.run_pure, Result.andThen_ok, run_sliceBound p2 le2, run_sliceBound p1 le1]
theorem run_sliceBounds3 {isSlice : Bool} {len cap : Nat} {lo : Option V} {lo' : Option Value} {l : Nat} {k k' : IntKind} {i j : Int} (h1 : optR w0 N0 ϕ lo lo')
    (hl : bound lo 0 = some l) (p1 : 0 ≤ i) (p2 : 0 ≤ j) (le1 : l ≤ i.toNat) (le2 : i.toNat ≤ j.toNat) (le3 : j.toNat ≤ cap) (w : World) :
    (Instr.sliceBounds isSlice len cap lo' (some (.int k i)) (some (.int k' j))).run P w = .ok (l, i.toNat, j.toNat) w := by
  rcases bound_sim h1 hl with ⟨rfl, rfl, rfl⟩ | ⟨k1, i1, rfl, rfl, q1, rfl⟩
  · simp only [Instr.sliceBounds, Sem.run_bind, Sem.run_pure, Result.andThen_ok, run_sliceBound p1 le2, run_sliceBound p2 le3]
  · simp only [Instr.sliceBounds, Sem.run_bind, Sem.run_pure, Result.andThen_ok, run_sliceBound p1 le2, run_sliceBound p2 le3, run_sliceBound q1 le1]

theorem slice_off {L es off l cap' : Nat} {a : Addr} (ha : cap' = 0 ∨ a = ⟨L, off, none⟩) (hb : a.block = L ∧ a.spot = none) (hle : l ≤ cap') (n : Nat) (hn : n = cap') :
    (cap' - l = 0 ∨ (if n = l then some a else (some a).map (·.add (l * es))) = some ⟨L, off + l * es, none⟩) ∧
    ∃ a', (if n = l then some a else (some a).map (·.add (l * es))) = some a' ∧ a'.block = L ∧ a'.spot = none := by
  subst hn
  by_cases e : n = l
  · subst e
    exact ⟨.inl (Nat.sub_self _), a, by simp, hb⟩
  · have : a = ⟨L, off, none⟩ := ha.resolve_left (by omega)
    subst this
    refine ⟨.inr ?_, ⟨L, off + l * es, none⟩, ?_, rfl, rfl⟩ <;> simp [e, addr_add]

theorem slice_offR {L es off l cap' : Nat} {a : Addr} (ha : cap' = 0 ∨ a = ⟨L, off, none⟩) (hle : l ≤ cap') (n : Nat) (hn : n = cap') :
    (cap' - l = 0 ∨ (if n = l then some a else (some a).map (·.add (l * es))) = some ⟨L, off + l * es, none⟩) ∧
    ∃ a', (if n = l then some a else (some a).map (·.add (l * es))) = some a' := by
  subst hn
  by_cases e : n = l
  · subst e
    exact ⟨.inl (Nat.sub_self _), a, by simp⟩
  · have : a = ⟨L, off, none⟩ := ha.resolve_left (by omega)
    subst this
    refine ⟨.inr ?_, ⟨L, off + l * es, none⟩, ?_⟩ <;> simp [e, addr_add]

theorem slice_sim {t : TypeId} {x v : V} {x' : Value} {lo hi mx : Option V} {lo' hi' mx' : Option Value} (hx : VR w0 N0 ϕ x x') (h1 : optR w0 N0 ϕ lo lo') (h2 : optR w0 N0 ϕ hi hi') (h3 : optR w0 N0 ϕ mx mx')
    (hv : sliceV P t x lo hi mx = some v) : ∃ v', (Instr.sliceAt t x' lo' hi' mx').run P w = .ok v' w ∧ VR w0 N0 ϕ v v' := by
  unfold sliceV at hv
  split at hv
  · rename_i e hu
    cases hie : (P.info? e).isSome with
    | false => rw [hie] at hv; cases hv
    | true =>
    rw [hie] at hv
    simp only [Bool.not_true, cond_false] at hv
    obtain ⟨ie, hie⟩ := Option.isSome_iff_exists.1 hie
    have hmx0 : mx = none → mx' = none := fun e => by
      rcases h3 with ⟨_, e'⟩ | ⟨a, a', e', _⟩
      · exact e'
      · rw [e] at e'; cases e'
    split at hv
    · rename_i b off len cap es
      obtain ⟨L, cap', a, hL, c0, c1, c2, c3, c4, c5, rfl⟩ := hx.sl_inv
      by_cases hes : P.cellsOf e = es
      · subst hes
        rw [nb_t rfl] at hv
        simp only [Bool.not_true, cond_false] at hv
        split at hv
        · rename_i l hh hl hhh
          split at hv
          · rw [hmx0 rfl]
            cases hb : Nat.ble l hh && Nat.ble hh len with
            | false => rw [hb] at hv; cases hv
            | true =>
              rw [hb] at hv
              cases hv
              simp only [Bool.and_eq_true] at hb
              have b1 := Nat.le_of_ble_eq_true hb.1
              have b2 := Nat.le_of_ble_eq_true hb.2
              have hrun := run_sliceBounds (P := P) (isSlice := true) (len := len) (cap := cap') h1 h2 hl hhh b1 (by omega) w
              obtain ⟨s1, a', s2, s3, s4⟩ := slice_off (es := P.cellsOf e) c5 c4 (l := l) (by omega) cap' rfl
              refine ⟨_, ?_, .sl b (off + l * P.cellsOf e) (hh - l) (cap.map (· - l)) (P.cellsOf e) (cap' - l) L a' hL c0 (by omega) (fun c hc => ?_) (fun hc => ?_) ⟨s3, s4⟩ ?_⟩
              · simp only [Instr.sliceAt, Sem.run_bind, run_underlying hu, Result.andThen_ok, Instr.slice, hrun, run_sizeOf' hie, Sem.run_pure, s2]
              · cases cap with
                | none => cases hc
                | some c' => simp only [Option.map_some, Option.some.injEq] at hc; have := c2 c' rfl; omega
              · cases cap with
                | some c' => cases hc
                | none =>
                  have := c3 rfl
                  rw [c0] at this ⊢
                  rw [Nat.sub_mul]
                  have : l * P.cellsOf e ≤ cap' * P.cellsOf e := Nat.mul_le_mul_right _ (by omega)
                  omega
              · rw [s2] at s1
                rcases s1 with s1 | s1
                · exact .inl s1
                · cases s1; exact .inr (by rw [Nat.add_assoc])
          · split at hv
            · rename_i m0 hi0 _ m hm
              rcases bound_sim h2 hhh with ⟨q, _, _⟩ | ⟨k2, i2, rfl, q2, p2, rfl⟩
              · cases q
              rcases bound_sim h3 hm with ⟨q, _, _⟩ | ⟨k3, i3, rfl, q, p3, rfl⟩
              · cases q
              cases hb : Nat.ble l i2.toNat && Nat.ble i2.toNat i3.toNat && Nat.ble i3.toNat len with
              | false => rw [hb] at hv; cases hv
              | true =>
                rw [hb] at hv
                cases hv
                simp only [Bool.and_eq_true] at hb
                have b1 := Nat.le_of_ble_eq_true hb.1.1
                have b2 := Nat.le_of_ble_eq_true hb.1.2
                have b3 := Nat.le_of_ble_eq_true hb.2
                have hrun := run_sliceBounds3 (P := P) (isSlice := true) (len := len) (cap := cap') (k := k2) (k' := k3) h1 hl p2 p3 b1 b2 (by omega) w
                have hoff : i3.toNat - l = 0 ∨ (if i3.toNat = l then some a else (some a).map (·.add (l * P.cellsOf e))) = some ⟨L.blk, L.off + off + l * P.cellsOf e, none⟩ := by
                  by_cases e3 : i3.toNat = l
                  · exact .inl (by omega)
                  · have : a = ⟨L.blk, L.off + off, none⟩ := c5.resolve_left (by omega)
                    subst this
                    exact .inr (by simp [e3, addr_add])
                obtain ⟨a', s2, s3, s4⟩ : ∃ a', (if i3.toNat = l then some a else (some a).map (·.add (l * P.cellsOf e))) = some a' ∧ a'.block = L.blk ∧ a'.spot = none := by
                  by_cases e3 : i3.toNat = l
                  · exact ⟨a, by simp [e3], c4⟩
                  · have : a = ⟨L.blk, L.off + off, none⟩ := c5.resolve_left (by omega)
                    subst this
                    exact ⟨_, by simp only [e3, if_false, Option.map_some, addr_add]; rfl, rfl, rfl⟩
                refine ⟨_, ?_, .sl b (off + l * P.cellsOf e) (i2.toNat - l) (some (i3.toNat - l)) (P.cellsOf e) (i3.toNat - l) L a' hL c0 (by omega) (fun c hc => by cases hc; rfl) (fun hc => by cases hc) ⟨s3, s4⟩ ?_⟩
                · simp only [Instr.sliceAt, Sem.run_bind, run_underlying hu, Result.andThen_ok, Instr.slice, hrun, run_sizeOf' hie, Sem.run_pure, s2]
                · rw [s2] at hoff
                  rcases hoff with s1 | s1
                  · exact .inl s1
                  · cases s1; exact .inr (by rw [Nat.add_assoc])
            · cases hv
        · cases hv
      · rw [nb_f hes] at hv
        cases hv
    · rename_i cs off len cap
      obtain ⟨B, o, cap', cs', a, hB, hvl, hc, c1, c2, c4, c5, rfl⟩ := hx.slR_inv
      split at hv
      · rename_i l hh hl hhh
        split at hv
        · rw [hmx0 rfl]
          cases hb : Nat.ble l hh && Nat.ble hh len with
          | false => rw [hb] at hv; cases hv
          | true =>
            rw [hb] at hv
            cases hv
            simp only [Bool.and_eq_true] at hb
            have b1 := Nat.le_of_ble_eq_true hb.1
            have b2 := Nat.le_of_ble_eq_true hb.2
            have hrun := run_sliceBounds (P := P) (isSlice := true) (len := len) (cap := cap') h1 h2 hl hhh b1 (by omega) w
            obtain ⟨s1, a', s2⟩ := slice_offR (es := P.cellsOf e) c5 (l := l) (by omega) cap' rfl
            refine ⟨_, ?_, .slR cs (off + l * P.cellsOf e) (hh - l) (cap.map (· - l)) (cap' - l) B o a' cs' hB hvl.1 hc hvl.2 (by omega) (fun c hc => ?_) ⟨rfl, rfl⟩ ?_⟩
            · simp only [Instr.sliceAt, Sem.run_bind, run_underlying hu, Result.andThen_ok, Instr.slice, hrun, run_sizeOf' hie, Sem.run_pure, s2]
            · cases cap with
              | none => cases hc
              | some c' => simp only [Option.map_some, Option.some.injEq] at hc; have := c2 c' rfl; omega
            · rw [s2] at s1
              rcases s1 with s1 | s1
              · exact .inl s1
              · cases s1; exact .inr (by rw [Nat.add_assoc])
        · split at hv
          · rename_i m0 hi0 _ m hm
            rcases bound_sim h2 hhh with ⟨q, _, _⟩ | ⟨k2, i2, rfl, q2, p2, rfl⟩
            · cases q
            rcases bound_sim h3 hm with ⟨q, _, _⟩ | ⟨k3, i3, rfl, q, p3, rfl⟩
            · cases q
            cases hb : Nat.ble l i2.toNat && Nat.ble i2.toNat i3.toNat && Nat.ble i3.toNat len with
            | false => rw [hb] at hv; cases hv
            | true =>
              rw [hb] at hv
              cases hv
              simp only [Bool.and_eq_true] at hb
              have b1 := Nat.le_of_ble_eq_true hb.1.1
              have b2 := Nat.le_of_ble_eq_true hb.1.2
              have b3 := Nat.le_of_ble_eq_true hb.2
              have hrun := run_sliceBounds3 (P := P) (isSlice := true) (len := len) (cap := cap') (k := k2) (k' := k3) h1 hl p2 p3 b1 b2 (by omega) w
              have hoff : i3.toNat - l = 0 ∨ (if i3.toNat = l then some a else (some a).map (·.add (l * P.cellsOf e))) = some ⟨B, o + off + l * P.cellsOf e, none⟩ := by
                by_cases e3 : i3.toNat = l
                · exact .inl (by omega)
                · have : a = ⟨B, o + off, none⟩ := c5.resolve_left (by omega)
                  subst this
                  exact .inr (by simp [e3, addr_add])
              obtain ⟨a', s2⟩ : ∃ a', (if i3.toNat = l then some a else (some a).map (·.add (l * P.cellsOf e))) = some a' := by
                by_cases e3 : i3.toNat = l
                · exact ⟨a, by simp [e3]⟩
                · have : a = ⟨B, o + off, none⟩ := c5.resolve_left (by omega)
                  subst this
                  exact ⟨_, by simp only [e3, if_false, Option.map_some, addr_add]; rfl⟩
              refine ⟨_, ?_, .slR cs (off + l * P.cellsOf e) (i2.toNat - l) (some (i3.toNat - l)) (i3.toNat - l) B o a' cs' hB hvl.1 hc hvl.2 (by omega) (fun c hc => by cases hc; rfl) ⟨rfl, rfl⟩ ?_⟩
              · simp only [Instr.sliceAt, Sem.run_bind, run_underlying hu, Result.andThen_ok, Instr.slice, hrun, run_sizeOf' hie, Sem.run_pure, s2]
              · rw [s2] at hoff
                rcases hoff with s1 | s1
                · exact .inl s1
                · cases s1; exact .inr (by rw [Nat.add_assoc])
          · cases hv
      · cases hv
    · rw [hx.slN_inv]
      split at hv
      · rename_i hl hhh
        split at hv
        · rw [hmx0 rfl]
          cases hv
          have hrun := run_sliceBounds (P := P) (isSlice := true) (len := 0) (cap := 0) h1 h2 hl hhh (Nat.le_refl _) (Nat.le_refl _) w
          refine ⟨_, ?_, .slN⟩
          simp [Instr.sliceAt, run_underlying hu, Instr.slice, hrun, run_sizeOf' hie]
        · split at hv
          · rename_i m0 hi0 _ hm
            cases hv
            rcases bound_sim h2 hhh with ⟨q, _, _⟩ | ⟨k2, i2, rfl, q2, p2, e2⟩
            · cases q
            rcases bound_sim h3 hm with ⟨q, _, _⟩ | ⟨k3, i3, rfl, q, p3, e3⟩
            · cases q
            have hrun := run_sliceBounds3 (P := P) (isSlice := true) (len := 0) (cap := 0) (k := k2) (k' := k3) h1 hl p2 p3 (by omega) (by omega) (by omega) w
            refine ⟨_, ?_, .slN⟩
            rw [← e2, ← e3] at hrun
            simp [Instr.sliceAt, run_underlying hu, Instr.slice, hrun, run_sizeOf' hie]
          · cases hv
      · cases hv
    · cases hv
  · rename_i hu
    split at hv
    · rename_i s
      rw [hx.str_inv]
      split at hv
      · rename_i l hh hl hhh
        cases hb : Nat.ble l hh && Nat.ble hh s.size with
        | false => rw [hb] at hv; cases hv
        | true =>
          rw [hb] at hv
          cases hv
          simp only [Bool.and_eq_true] at hb
          have hmx : mx' = none := by
            rcases h3 with ⟨_, e⟩ | ⟨a, a', e, _⟩
            · exact e
            · cases e
          subst hmx
          have := run_sliceBounds (P := P) (isSlice := false) (cap := s.size) h1 h2 hl hhh (Nat.le_of_ble_eq_true hb.1) (Nat.le_of_ble_eq_true hb.2) w
          refine ⟨_, ?_, .str _⟩
          simp [Instr.sliceAt, Instr.slice, run_underlying hu, this]
      · cases hv
    · cases hv
  · cases hv

end
end Am

/-
Maps, interfaces, lengths, least and greatest; structs that are built.
-/
namespace Am
open Go

section
variable {P : Program} {w0 : World} {N0 : Nat} {ϕ : Phi} {h : H} {w : World}

/-! ### Maps -/
/-- A key as the machine has it. -/
theorem key_val {kt : TypeId} {k : V} {k' : Value} (hk : keyKind P kt k = true) (hv : VR w0 N0 ϕ k k') :
    ∃ d, P.underlying kt = some d ∧ (∀ (k2 : V) (k2' : Value) (b : Bool), VR w0 N0 ϕ k2 k2' → keyEq k k2 = some b → Instr.sameNow d k' k2' = some b) ∧
      (∀ em n, (Instr.checkKey em (n + 1) kt k').run P w = .ok () w) ∧ (∀ (k2 : V) (k2' : Value), VR w0 N0 ϕ k2 k2' → keyEq k k2 = some true → Instr.sameBits 10000 k2' k' = true) := by
  unfold keyKind at hk
  split at hk
  · rename_i q q' n hu
    have hq : q = q' := by simpa using hk
    subst hq
    rw [hv.int_inv]
    refine ⟨_, hu, fun k2 k2' b h2 he => ?_, fun em n => by simp [Instr.checkKey, run_underlying hu], fun k2 k2' h2 he => ?_⟩
    · cases k2 <;> simp [keyEq] at he
      rename_i j a
      by_cases hj : q = j
      · simp [hj] at he; rw [h2.int_inv]; simp [Instr.sameNow, hj, he]
      · simp [hj] at he
    · cases k2 <;> simp [keyEq] at he
      rename_i j a
      by_cases hj : q = j
      · simp [hj] at he; rw [h2.int_inv]; simp [Instr.sameBits, hj, he]
      · simp [hj] at he
  · rename_i s hu
    rw [hv.str_inv]
    refine ⟨_, hu, fun k2 k2' b h2 he => ?_, fun em n => by simp [Instr.checkKey, run_underlying hu], fun k2 k2' h2 he => ?_⟩
    · cases k2 <;> simp [keyEq] at he
      rw [h2.str_inv]; simp [Instr.sameNow, he]
    · cases k2 <;> simp [keyEq] at he
      rw [h2.str_inv]; simp only [Instr.sameBits]; rw [beq_toListBytes] at he ⊢; exact beq_iff_eq.2 (beq_iff_eq.1 he).symm
  · rename_i s hu
    rw [hv.bool_inv]
    refine ⟨_, hu, fun k2 k2' b h2 he => ?_, fun em n => by simp [Instr.checkKey, run_underlying hu], fun k2 k2' h2 he => ?_⟩
    · cases k2 <;> simp [keyEq] at he
      rw [h2.bool_inv]; simp [Instr.sameNow, he]
    · cases k2 <;> simp [keyEq] at he
      rw [h2.bool_inv]; simp [Instr.sameBits, he]
  · cases hk

/-- The entries of a map, one by one. -/
def entR (w0 : World) (N0 : Nat) (ϕ : Phi) (kvs : List (V × V)) (es : List MapEntry) : Prop :=
  es.length = kvs.length ∧ ∀ (i : Nat) (kv : V × V) (e : MapEntry), kvs[i]? = some kv → es[i]? = some e → VR w0 N0 ϕ kv.1 e.key ∧ VR w0 N0 ϕ kv.2 e.val

theorem mfind_sim {d : TypeDesc} {k : V} {k' : Value} (hs : ∀ (k2 : V) (k2' : Value) (b : Bool), VR w0 N0 ϕ k2 k2' → keyEq k k2 = some b → Instr.sameNow d k' k2' = some b) :
    ∀ (kvs : List (V × V)) (es : List MapEntry) (n : Nat) (r : Option V), entR w0 N0 ϕ kvs es → mfind k kvs = some r →
    (r = none ∧ Instr.findNow d k' es n = some none ∧ (∀ kv ∈ kvs, keyEq k kv.1 = some false)) ∨
    (∃ j kv e, r = some kv.2 ∧ kvs[j]? = some kv ∧ es[j]? = some e ∧ keyEq k kv.1 = some true ∧ Instr.findNow d k' es n = some (some (n + j, e.val)) ∧ (∀ i kv, i < j → kvs[i]? = some kv → keyEq k kv.1 = some false))
  | [], es, n, r, he, hm => by
    have : es = [] := List.length_eq_zero_iff.1 (by have := he.1; simpa using this)
    subst this
    simp [mfind] at hm
    subst hm
    exact .inl ⟨rfl, rfl, fun kv h => by cases h⟩
  | (k2, v2) :: kvs, [], n, r, he, hm => by have := he.1; simp at this
  | (k2, v2) :: kvs, e :: es, n, r, he, hm => by
    have h0 := he.2 0 (k2, v2) e rfl rfl
    have ht : entR w0 N0 ϕ kvs es := ⟨by have := he.1; simpa using this, fun i kv e a b => he.2 (i + 1) kv e (by simpa using a) (by simpa using b)⟩
    unfold mfind at hm
    split at hm
    · rename_i hk
      cases hm
      refine .inr ⟨0, (k2, v2), e, rfl, rfl, rfl, hk, ?_, fun i kv h => by omega⟩
      simp [Instr.findNow, hs _ _ _ h0.1 hk]
    · rename_i hk
      have e1 : Instr.findNow d k' (e :: es) n = Instr.findNow d k' es (n + 1) := by simp [Instr.findNow, hs _ _ _ h0.1 hk]
      rcases mfind_sim hs kvs es (n + 1) r ht hm with ⟨a, b, c⟩ | ⟨j, kv, e', a, b, c, f, g, i⟩
      · exact .inl ⟨a, by rw [e1, b], fun kv h => by
          cases h with
          | head => exact hk
          | tail _ h => exact c kv h⟩
      · refine .inr ⟨j + 1, kv, e', a, by simpa using b, by simpa using c, f, by rw [e1, g]; congr 3; omega, fun m kv' hm' hkv => ?_⟩
        cases m with
        | zero => simp at hkv; subst hkv; exact hk
        | succ m => exact i m kv' (by omega) (by simpa using hkv)
    · cases hm

theorem zero_sim {e : TypeId} {z : V} (hz : zeroV P e = some z) (w : World) : ∃ z', (zeroValue e).run P w = .ok z' w ∧ ∀ {w0 : World} {N0 : Nat} {ϕ : Phi}, VR w0 N0 ϕ z z' := by
  unfold zeroV at hz
  split at hz
  · rename_i i hi
    split at hz
    · rename_i v hv
      cases hz
      exact ⟨v, by simp [zeroValue, run_typeInfo' hi, hv], fun {w0 N0 ϕ} => ofConst_sound 3 v⟩
    · cases hz
  · cases hz

theorem look_sim (r : Rel w0 N0 ϕ h w) {t : TypeId} {m k v : V} {m' k' : Value} {ok : Bool} (hm : VR w0 N0 ϕ m m') (hk : VR w0 N0 ϕ k k') (hv : lookV P t m k ok h = some v) :
    ∃ v', (Instr.lookup t m' k' ok).run P w = .ok v' w ∧ VR w0 N0 ϕ v v' := by
  unfold lookV at hv
  split at hv
  · rename_i kt e hu
    cases hkk : keyKind P kt k with
    | false => rw [hkk] at hv; cases hv
    | true =>
      rw [hkk] at hv
      simp only [Bool.not_true, cond_false] at hv
      obtain ⟨d, hd, hs, hck, _⟩ := key_val (w := w) hkk hk
      split at hv
      · cases hv
      · rename_i z hz
        obtain ⟨z', rz, vz⟩ := zero_sim hz w
        split at hv
        · have : m' = .map none := by cases hm; rfl
          subst this
          cases hv
          have hf : (Instr.findKey kt k' []).run P w = .ok none w := by simp [Instr.findKey, run_underlying hd, Instr.findNow]
          cases ok with
          | true => exact ⟨_, by simp [Instr.lookup, run_underlying hu, hck true 9999, hf, rz], VR.mk_tup (cs' := [z', .bool false]) (VRL.cons vz (VRL.cons (.bool _) VRL.nil))⟩
          | false => exact ⟨_, by simp [Instr.lookup, run_underlying hu, hck true 9999, hf, rz], vz⟩
        · rename_i b
          obtain ⟨L, hL, rfl⟩ : ∃ L, ϕ b = some L ∧ m' = .map (some L.blk) := by cases hm with | map b L hL => exact ⟨L, hL, rfl⟩
          split at hv
          · rename_i kvs hg
            obtain ⟨es, clk, h1, h2, h3⟩ := r.obj b _ L hg hL
            have hent : entR w0 N0 ϕ kvs es.toList := ⟨by simpa using h2, fun i kv e a b => h3 i kv e a (by simpa using b)⟩
            have hgo : (getObj L.blk).run P w = .ok (.map es clk) w := by simp [getObj, Sem.run, h1]
            split at hv
            · rename_i u hf
              cases hv
              rcases mfind_sim hs kvs es.toList 0 _ hent hf with ⟨q, _⟩ | ⟨j, kv, e', q, q1, q2, _, q4, _⟩
              · cases q
              · cases q
                have hfk : (Instr.findKey kt k' es.toList).run P w = .ok (some (0 + j, e'.val)) w := by simp [Instr.findKey, run_underlying hd, q4]
                have hve := (hent.2 j kv e' q1 q2).2
                cases ok with
                | true => exact ⟨_, by simp [Instr.lookup, run_underlying hu, hgo, hck _ 9999, hfk], VR.mk_tup (cs' := [e'.val, .bool true]) (VRL.cons hve (VRL.cons (.bool _) VRL.nil))⟩
                | false => exact ⟨_, by simp [Instr.lookup, run_underlying hu, hgo, hck _ 9999, hfk], hve⟩
            · rename_i hf
              cases hv
              rcases mfind_sim hs kvs es.toList 0 _ hent hf with ⟨_, q, _⟩ | ⟨j, kv, e', q, _⟩
              · have hfk : (Instr.findKey kt k' es.toList).run P w = .ok none w := by simp [Instr.findKey, run_underlying hd, q]
                cases ok with
                | true => exact ⟨_, by simp [Instr.lookup, run_underlying hu, hgo, hck _ 9999, hfk, rz], VR.mk_tup (cs' := [z', .bool false]) (VRL.cons vz (VRL.cons (.bool _) VRL.nil))⟩
                | false => exact ⟨_, by simp [Instr.lookup, run_underlying hu, hgo, hck _ 9999, hfk, rz], vz⟩
              · cases q
            · cases hv
          · cases hv
        · cases hv
  · cases hv

/-! ### Interfaces -/
theorem assert_sim {x v : V} {x' : Value} {xt t : TypeId} {ok : Bool} (hx : VR w0 N0 ϕ x x') (hv : assertV P x t ok = some v) :
    ∃ v', (Instr.typeAssert x' xt t ok).run P w = .ok v' w ∧ VR w0 N0 ϕ v v' := by
  unfold assertV at hv
  split at hv
  · cases hv
  · cases hv
  · rename_i d hni hu
    have hni' : ∀ ms, d ≠ .interface ms := fun ms e => hni ms e
    split at hv
    · rename_i tt u
      obtain ⟨u', rfl, hu'⟩ := hx.iface_inv
      by_cases ht : tt = t
      · subst ht
        rw [nb_t rfl] at hv
        cases hv
        cases ok with
        | true =>
          refine ⟨_, ?_, VR.mk_tup (cs' := [u', .bool true]) (VRL.cons hu' (VRL.cons (.bool _) VRL.nil))⟩
          cases d <;> first | exact absurd rfl (hni' _) | simp [Instr.typeAssert, run_underlying hu]
        | false =>
          refine ⟨_, ?_, hu'⟩
          cases d <;> first | exact absurd rfl (hni' _) | simp [Instr.typeAssert, run_underlying hu]
      · rw [nb_f ht] at hv
        simp only [cond_false] at hv
        cases ok with
        | false => cases hv
        | true =>
          simp only [cond_true] at hv
          split at hv
          · rename_i z hz
            cases hv
            obtain ⟨z', rz, vz⟩ := zero_sim hz w
            refine ⟨_, ?_, VR.mk_tup (cs' := [z', .bool false]) (VRL.cons vz (VRL.cons (.bool _) VRL.nil))⟩
            cases d <;> first | exact absurd rfl (hni' _) | simp [Instr.typeAssert, run_underlying hu, ht, rz]
          · cases hv
    · rw [hx.nilI_inv]
      cases ok with
      | false => cases hv
      | true =>
        simp only [cond_true] at hv
        split at hv
        · rename_i z hz
          cases hv
          obtain ⟨z', rz, vz⟩ := zero_sim hz w
          refine ⟨_, ?_, VR.mk_tup (cs' := [z', .bool false]) (VRL.cons vz (VRL.cons (.bool _) VRL.nil))⟩
          cases d <;> first | exact absurd rfl (hni' _) | simp [Instr.typeAssert, run_underlying hu, rz]
        · cases hv
    · cases hv

/-! ### Lengths, least, greatest -/
theorem len_sim (r : Rel w0 N0 ϕ h w) {t ty : TypeId} {ts : Array TypeId} {x v : V} {x' : Value} {args' : Array Value} (ht : ts[0]? = some t) (ha : args'[0]? = some x') (hx : VR w0 N0 ϕ x x') (hv : lenV P t x h = some v) :
    ∃ v', (Builtin.len_ ts ty args').run P w = .ok v' w ∧ VR w0 N0 ϕ v v' := by
  unfold lenV at hv
  split at hv
  case h_1 hu => rw [hx.str_inv] at ha; cases hv; exact ⟨_, by simp [Builtin.len_, ht, ha, run_underlying hu, goInt], .int _ _⟩
  case h_2 hu => obtain ⟨_, _, _, _, _, _, _, _, _, _, rfl⟩ := hx.sl_inv; cases hv; exact ⟨_, by simp [Builtin.len_, ht, ha, run_underlying hu, goInt], .int _ _⟩
  case h_3 hu => obtain ⟨_, _, _, _, _, _, _, _, _, _, _, _, rfl⟩ := hx.slR_inv; cases hv; exact ⟨_, by simp [Builtin.len_, ht, ha, run_underlying hu, goInt], .int _ _⟩
  case h_4 hu => rw [hx.slN_inv] at ha; cases hv; exact ⟨_, by simp [Builtin.len_, ht, ha, run_underlying hu, goInt], .int _ _⟩
  case h_5 hu => cases hv; exact ⟨_, by simp [Builtin.len_, ht, ha, run_underlying hu, goInt], .int _ _⟩
  case h_6 hu => cases hx; cases hv; exact ⟨_, by simp [Builtin.len_, ht, ha, run_underlying hu, goInt], .int _ _⟩
  case h_7 b hu =>
    obtain ⟨L, hL, rfl⟩ : ∃ L, ϕ b = some L ∧ x' = .map (some L.blk) := by cases hx with | map b L hL => exact ⟨L, hL, rfl⟩
    split at hv
    · rename_i kvs hg
      obtain ⟨es, clk, h1, h2, h3⟩ := r.obj b _ L hg hL
      cases hv
      exact ⟨_, by simp [Builtin.len_, ht, ha, run_underlying hu, getObj, Sem.run, h1, goInt, h2], .int _ _⟩
    · cases hv
  case h_8 b hu =>
    obtain ⟨L, hL, rfl⟩ : ∃ L, ϕ b = some L ∧ x' = .chan (some L.blk) := by cases hx with | chan b L hL => exact ⟨L, hL, rfl⟩
    split at hv
    · rename_i cap buf hg
      obtain ⟨buf', s, r', h1, h2⟩ := r.obj b _ L hg hL
      cases hv
      have := h2.1
      simp at this
      exact ⟨.int .i64 buf'.size, by simp [Builtin.len_, ht, ha, run_underlying hu, getObj, Sem.run, h1, goInt], by rw [this]; exact .int _ _⟩
    · cases hv
  case h_9 hu => cases hx; cases hv; exact ⟨_, by simp [Builtin.len_, ht, ha, run_underlying hu, goInt], .int _ _⟩
  case h_10 => cases hv

theorem min_none : ∀ (xs : List V), xs.foldl (fun a y => match a, y with
    | some (.int k x), .int _ y => some (.int k (if y < x then y else x))
    | _, _ => none) (none : Option V) = none
  | [] => rfl
  | _ :: xs => min_none xs
theorem min_sim : ∀ {xs : List V} {xs' : List Value} {x v : V} {x' : Value}, VR w0 N0 ϕ x x' → VRL w0 N0 ϕ xs xs' → xs.foldl (fun a y => match a, y with
    | some (.int k x), .int _ y => some (.int k (if y < x then y else x))
    | _, _ => none) (some x) = some v → ∃ v', (xs'.foldlM Builtin.min2 x').run P w = .ok v' w ∧ VR w0 N0 ϕ v v'
  | [], xs', x, v, x', hx, hl, hv => by
    have : xs' = [] := List.length_eq_zero_iff.1 (by have := hl.1; simpa using this.symm)
    subst this
    simp at hv
    subst hv
    exact ⟨x', by simp, hx⟩
  | y :: ys, [], x, v, x', hx, hl, hv => by have := hl.1; simp at this
  | y :: ys, y' :: ys', x, v, x', hx, hl, hv => by
    have h0 := hl.2 0 y y' rfl rfl
    have ht : VRL w0 N0 ϕ ys ys' := ⟨by have := hl.1; simpa using this, fun i a b c d => hl.2 (i + 1) a b (by simpa using c) (by simpa using d)⟩
    simp only [List.foldl_cons] at hv
    split at hv
    · rename_i k a _ b heq
      cases heq
      rw [hx.int_inv, h0.int_inv]
      obtain ⟨v', r1, r2⟩ := min_sim (.int _ _) ht hv
      exact ⟨v', by simp [List.foldlM_cons, Builtin.min2, r1], r2⟩
    · rw [min_none] at hv; cases hv
theorem max_none : ∀ (xs : List V), xs.foldl (fun a y => match a, y with
    | some (.int k x), .int _ y => some (.int k (if y > x then y else x))
    | _, _ => none) (none : Option V) = none
  | [] => rfl
  | _ :: xs => max_none xs
theorem max_sim : ∀ {xs : List V} {xs' : List Value} {x v : V} {x' : Value}, VR w0 N0 ϕ x x' → VRL w0 N0 ϕ xs xs' → xs.foldl (fun a y => match a, y with
    | some (.int k x), .int _ y => some (.int k (if y > x then y else x))
    | _, _ => none) (some x) = some v → ∃ v', (xs'.foldlM Builtin.max2 x').run P w = .ok v' w ∧ VR w0 N0 ϕ v v'
  | [], xs', x, v, x', hx, hl, hv => by
    have : xs' = [] := List.length_eq_zero_iff.1 (by have := hl.1; simpa using this.symm)
    subst this
    simp at hv
    subst hv
    exact ⟨x', by simp, hx⟩
  | y :: ys, [], x, v, x', hx, hl, hv => by have := hl.1; simp at this
  | y :: ys, y' :: ys', x, v, x', hx, hl, hv => by
    have h0 := hl.2 0 y y' rfl rfl
    have ht : VRL w0 N0 ϕ ys ys' := ⟨by have := hl.1; simpa using this, fun i a b c d => hl.2 (i + 1) a b (by simpa using c) (by simpa using d)⟩
    simp only [List.foldl_cons] at hv
    split at hv
    · rename_i k a _ b heq
      cases heq
      rw [hx.int_inv, h0.int_inv]
      obtain ⟨v', r1, r2⟩ := max_sim (.int _ _) ht hv
      exact ⟨v', by simp [List.foldlM_cons, Builtin.max2, r1], r2⟩
    · rw [max_none] at hv; cases hv

end
end Am

/-
Structs that are built; all operations that leave the heap alone; the operations that make one block.
-/
namespace Am
open Go

section
variable {P : Program} {w0 : World} {N0 : Nat} {ϕ : Phi} {h : H} {w : World}

theorem VRL.splice {as bs : List V} {as' bs' : List Value} (off : Nat) (h : VRL w0 N0 ϕ as as') (t : VRL w0 N0 ϕ bs bs') : VRL w0 N0 ϕ (splice as off bs) (as'.take off ++ bs' ++ as'.drop (off + bs'.length)) := by
  unfold Am.splice
  rw [t.1]
  exact ((h.take off).append t).append (h.drop _)

theorem setFold : ∀ (vs : List Value) (k off : Nat) (cs : Array Value), off + k + vs.length ≤ cs.size →
    ((vs.zipIdx k).foldl (fun (cs : Array Value) (x : Value × Nat) => cs.setIfInBounds (off + x.2) x.1) cs).toList = cs.toList.take (off + k) ++ vs ++ cs.toList.drop (off + k + vs.length)
  | [], k, off, cs, h => by simp
  | v :: vs, k, off, cs, h => by
    simp only [List.zipIdx_cons, List.foldl_cons]
    rw [setFold vs (k + 1) off _ (by simp at h ⊢; omega)]
    have := list_seg_step cs.toList (off + k) v vs (by simp at h ⊢; omega)
    simpa [Array.toList_setIfInBounds, Nat.add_assoc] using this

theorem fill_sim {place : Nat → Option (Nat × Nat)} : ∀ {parts : List (Nat × V)} {parts' : List (Nat × Value)} {cs : List V} {cs' : Array Value} {v : V},
    parts.length = parts'.length → (∀ (i : Nat) (p : Nat × V) (p' : Nat × Value), parts[i]? = some p → parts'[i]? = some p' → p.1 = p'.1 ∧ VR w0 N0 ϕ p.2 p'.2) →
    VRL w0 N0 ϕ cs cs'.toList → (∀ x ∈ cs'.toList, flat x) → readOp.fill place cs parts = some v →
    ∃ ds', Instr.fill place cs' parts' = some ds' ∧ VR w0 N0 ϕ v (.agg ds')
  | [], parts', cs, cs', v, hl, _, hc, hf, hv => by
    have : parts' = [] := List.length_eq_zero_iff.1 hl.symm
    subst this
    simp [readOp.fill] at hv
    subst hv
    exact ⟨cs', rfl, VR.mk_agg hc hf⟩
  | (i, x) :: parts, [], cs, cs', v, hl, _, hc, hf, hv => by simp at hl
  | (i, x) :: parts, (i', x') :: parts', cs, cs', v, hl, hp, hc, hf, hv => by
    obtain ⟨e0, h0⟩ := hp 0 (i, x) (i', x') rfl rfl
    simp only at e0 h0
    subst e0
    unfold readOp.fill at hv
    split at hv
    · rename_i off size pc hpl hpc
      cases hb : Nat.beq pc.length size && Nat.ble (off + pc.length) cs.length with
      | false => rw [hb] at hv; cases hv
      | true =>
        rw [hb] at hv
        simp only [cond_true] at hv
        simp only [Bool.and_eq_true] at hb
        have b1 := Nat.eq_of_beq_eq_true hb.1
        have b2 := Nat.le_of_ble_eq_true hb.2
        obtain ⟨hcx, hfx⟩ := h0.cells hpc
        have hsz : x'.cells.size = size := by have := hcx.1; simp at this; omega
        have hle : off + x'.cells.size ≤ cs'.size := by have := hc.1; simp at this; have := hcx.1; simp at this; omega
        have hset := setFold x'.cells.toList 0 off cs' (by simpa using hle)
        simp only [Nat.add_zero] at hset
        have e2 : (x'.cells.zipIdx.foldl (fun (cs : Array Value) (x : Value × Nat) => match x with | (c, j) => cs.setIfInBounds (off + j) c) cs') = ((x'.cells.toList.zipIdx 0).foldl (fun (cs : Array Value) (x : Value × Nat) => cs.setIfInBounds (off + x.2) x.1) cs') := by
          rw [← Array.foldl_toList, Array.toList_zipIdx]
        obtain ⟨ds', hd1, hd2⟩ := fill_sim (parts := parts) (parts' := parts') (cs' := (x'.cells.zipIdx.foldl (fun (cs : Array Value) (x : Value × Nat) => match x with | (c, j) => cs.setIfInBounds (off + j) c) cs')) (by simpa using hl) (fun j p p' a b => hp (j + 1) p p' (by simpa using a) (by simpa using b))
          (by rw [e2, hset]; exact hc.splice off hcx) (by
            rw [e2, hset]
            intro y hy
            rcases List.mem_append.1 hy with hy | hy
            · rcases List.mem_append.1 hy with hy | hy
              · exact hf y (List.mem_of_mem_take hy)
              · exact hfx y hy
            · exact hf y (List.mem_of_mem_drop hy)) hv
        refine ⟨ds', ?_, hd2⟩
        have hnot : ¬ ((x'.cells.size ≠ size || decide (off + x'.cells.size > cs'.size)) = true) := by
          simp [hsz]; omega
        unfold Instr.fill
        simp only [hpl]
        rw [if_neg hnot]
        exact hd1
    · cases hv

theorem run_places {fs : Array Field} (hfs : fs.toList.all (fun f => (P.info? f.type).isSome) = true) (w : World) :
    (fs.mapM (fun f => do pure (f.offset, ← Go.sizeOf f.type) : Field → Go.Sem (Nat × Nat))).run P w = .ok (fs.map fun f => (f.offset, P.cellsOf f.type)) w := by
  have key : ∀ (l : List Field), l.all (fun f => (P.info? f.type).isSome) = true → (l.mapM (fun f => do pure (f.offset, ← Go.sizeOf f.type) : Field → Go.Sem (Nat × Nat))).run P w = .ok (l.map fun f => (f.offset, P.cellsOf f.type)) w := by
    intro l
    induction l with
    | nil => intro _; simp
    | cons f l ih =>
      intro hl
      simp only [List.all_cons, Bool.and_eq_true] at hl
      obtain ⟨i, hi⟩ := Option.isSome_iff_exists.1 hl.1
      simp only [List.mapM_cons, Sem.run_bind, run_sizeOf' hi, Result.andThen_ok, Sem.run_pure, ih hl.2, List.map_cons]
  rw [Array.mapM_eq_mapM_toList, Sem.run_map, key _ hfs]
  simp only [Result.andThen_ok]
  congr 1
  apply Array.ext'
  simp

theorem zeroCs_sim {t : TypeId} {z : List V} (hz : zeroCs P t = some z) (w : World) : ∃ z', (zeroValue t).run P w = .ok z' w ∧ (∀ {w0 : World} {N0 : Nat} {ϕ : Phi}, VRL w0 N0 ϕ z z'.cells.toList) ∧ ∀ x ∈ z'.cells.toList, flat x := by
  unfold zeroCs at hz
  split at hz
  · rename_i v hv
    obtain ⟨z', h1, h2⟩ := zero_sim hv w
    exact ⟨z', h1, fun {w0 N0 ϕ} => ((h2 (w0 := w0) (N0 := N0) (ϕ := ϕ)).cells hz).1, ((h2 (w0 := w) (N0 := 0) (ϕ := fun _ => none)).cells hz).2⟩
  · cases hz

theorem build_sim {t : TypeId} {parts : Array (Nat × Operand)} {ρ : Operand → V} {ρ' : Operand → Value} (hρ : ∀ x, VR w0 N0 ϕ (ρ x) (ρ' x)) {v : V} (hv : readOp P (.build t parts) ρ h = some v) :
    ∃ v', (Instr.build t (parts.map fun (i, x) => (i, ρ' x))).run P w = .ok v' w ∧ VR w0 N0 ϕ v v' := by
  have hparts : ∀ (i : Nat) (p : Nat × V) (p' : Nat × Value), (parts.toList.map fun (i, x) => (i, ρ x))[i]? = some p → (parts.toList.map fun (i, x) => (i, ρ' x))[i]? = some p' → p.1 = p'.1 ∧ VR w0 N0 ϕ p.2 p'.2 := by
    intro i p p' a b
    simp only [List.getElem?_map] at a b
    cases hq : parts.toList[i]? with
    | none => rw [hq] at a; cases a
    | some q =>
      rw [hq] at a b
      cases a; cases b
      exact ⟨rfl, hρ _⟩
  have e : (parts.map fun (i, x) => (i, ρ' x)).toList = parts.toList.map fun (i, x) => (i, ρ' x) := by simp
  simp only [readOp] at hv
  split at hv
  · rename_i fs z hu hz
    cases hfs : fs.toList.all (fun f => (P.info? f.type).isSome) with
    | false => rw [hfs] at hv; cases hv
    | true =>
      rw [hfs] at hv
      simp only [Bool.not_true, cond_false] at hv
      obtain ⟨z', rz, vz, fz⟩ := zeroCs_sim hz w
      have epl : (fun (i : Nat) => (fs[i]?).map fun (f : Field) => (f.offset, P.cellsOf f.type)) = ((fs.map fun (f : Field) => (f.offset, P.cellsOf f.type))[·]?) := by
        funext i; simp
      rw [epl] at hv
      obtain ⟨ds', h1, h2⟩ := fill_sim (parts' := parts.toList.map fun (i, x) => (i, ρ' x)) (by simp) hparts vz fz hv
      refine ⟨_, ?_, h2⟩
      simp only [Instr.build, Sem.run_bind, rz, Result.andThen_ok, run_underlying hu, run_places hfs, e, h1, Sem.run_pure]
  · rename_i n el z hu hz
    cases hie : (P.info? el).isSome with
    | false => rw [hie] at hv; cases hv
    | true =>
      rw [hie] at hv
      simp only [Bool.not_true, cond_false] at hv
      obtain ⟨ie, hie⟩ := Option.isSome_iff_exists.1 hie
      obtain ⟨z', rz, vz, fz⟩ := zeroCs_sim hz w
      obtain ⟨ds', h1, h2⟩ := fill_sim (parts' := parts.toList.map fun (i, x) => (i, ρ' x)) (by simp) hparts vz fz hv
      refine ⟨_, ?_, h2⟩
      simp only [Instr.build, Sem.run_bind, rz, Result.andThen_ok, run_underlying hu, run_sizeOf' hie, e, h1, Sem.run_pure]
  · cases hv

end
end Am

/-
All operations that leave the heap alone; those that make one block.
-/
namespace Am
open Go

section
variable {P : Program} {w0 : World} {N0 : Nat} {ϕ : Phi} {h : H} {w : World}

/-- Registers. -/
def RegsR (w0 : World) (N0 : Nat) (ϕ : Phi) (r : Regs) (tmps : Array Value) : Prop := ∀ t, VR w0 N0 ϕ (rget r t) (tmps.getD t Go.undef)

theorem ev_sim {r : Regs} {a : Act} (hr : RegsR w0 N0 ϕ r a.tmps) (x : Operand) : VR w0 N0 ϕ (ev r x) (a.eval x) := by
  cases x with
  | tmp t => exact hr t
  | const v => exact ofConst_sound 3 v
  | global g => exact .undef _
  | func f => exact .func f [] [] #[] #[] rfl rfl (fun i v v' h => by simp at h) (fun i v v' h => by simp at h)

theorem VRL.map_ops {ρ : Operand → V} {ρ' : Operand → Value} (hρ : ∀ x, VR w0 N0 ϕ (ρ x) (ρ' x)) (l : List Operand) : VRL w0 N0 ϕ (l.map ρ) (l.map ρ') :=
  ⟨by simp, fun i a b ha hb => by
    simp only [List.getElem?_map] at ha hb
    cases hq : l[i]? with
    | none => rw [hq] at ha; cases ha
    | some q => rw [hq] at ha hb; cases ha; cases hb; exact hρ q⟩
theorem optR.map {ρ : Operand → V} {ρ' : Operand → Value} (hρ : ∀ x, VR w0 N0 ϕ (ρ x) (ρ' x)) (o : Option Operand) : optR w0 N0 ϕ (o.map ρ) (o.map ρ') := by
  cases o with
  | none => exact .inl ⟨rfl, rfl⟩
  | some x => exact .inr ⟨_, _, rfl, rfl, hρ x⟩

theorem nilCheck_ok {v : V} {v' : Value} (hv : VR w0 N0 ϕ v v') (h1 : v ≠ .ptrN) (h2 : v ≠ .nilI) (h3 : v ≠ .nilF) (h4 : v ≠ .undef) {o : Oper} {x : Operand} (ho : o.op = .nilCheck x) {ρ' : Operand → Value} (hx : ρ' x = v') (w : World) :
    (execOp ρ' o).run P w = .ok (.value v') w := by
  unfold execOp
  simp only [ho, hx]
  cases hv <;> first | exact absurd rfl h1 | exact absurd rfl h2 | exact absurd rfl h3 | exact absurd rfl h4 | rfl

set_option maxHeartbeats 1000000 in
theorem read_sim (r : Rel w0 N0 ϕ h w) {o : Oper} {ρ : Operand → V} {ρ' : Operand → Value} (hρ : ∀ x, VR w0 N0 ϕ (ρ x) (ρ' x)) {v : V} (hv : readOp P o.op ρ h = some v) :
    ∃ v', (execOp ρ' o).run P w = .ok (.value v') w ∧ VR w0 N0 ϕ v v' := by
  cases hop : o.op with
  | move x => rw [hop] at hv; cases hv; exact ⟨ρ' x, by simp [execOp, hop], hρ x⟩
  | assign x => rw [hop] at hv; cases hv; exact ⟨ρ' x, by simp [execOp, hop], hρ x⟩
  | pick c a b =>
    rw [hop] at hv
    simp only [readOp] at hv
    split at hv
    · rename_i t ht
      have hc := hρ c
      rw [ht] at hc
      have e := hc.bool_inv
      cases hv
      refine ⟨if t then ρ' a else ρ' b, by simp [execOp, hop, e, asBool], ?_⟩
      cases t <;> simp [hρ]
    · cases hv
  | build t parts =>
    rw [hop] at hv
    obtain ⟨v', h1, h2⟩ := build_sim (w := w) hρ hv
    exact ⟨v', by simp [execOp, hop, h1], h2⟩
  | load t a =>
    rw [hop] at hv
    obtain ⟨v', h1, h2⟩ := load_sim r (hρ a) hv
    exact ⟨v', by simp [execOp, hop, h1], h2⟩
  | nilCheck x =>
    rw [hop] at hv
    simp only [readOp] at hv
    split at hv
    · cases hv
    · cases hv
    · cases hv
    · cases hv
    · rename_i h1 h2 h3 h4
      cases hv
      exact ⟨_, nilCheck_ok (hρ x) (fun e => h1 e) (fun e => h2 e) (fun e => h3 e) (fun e => h4 e) hop rfl w, hρ x⟩
  | binOp op t x y yt =>
    rw [hop] at hv
    obtain ⟨v', h1, h2⟩ := bin_sim (w := w) (hρ x) (hρ y) hv
    refine ⟨v', ?_, h2⟩
    unfold execOp
    simp only [hop]
    rw [Sem.run_bind, h1]
    rfl
  | unOp op t x =>
    rw [hop] at hv
    obtain ⟨v', h1, h2⟩ := un_sim (P := P) (w := w) (hρ x) hv
    exact ⟨v', by simp [execOp, hop, h1], h2⟩
  | convert s d x =>
    rw [hop] at hv
    obtain ⟨v', h1, h2⟩ := conv_sim r (hρ x) hv
    exact ⟨v', by simp [execOp, hop, h1], h2⟩
  | makeInterface t x =>
    rw [hop] at hv
    simp only [readOp] at hv
    split at hv
    · cases hv
    · cases hv
    · rename_i d hni hu
      cases hv
      refine ⟨.iface t (ρ' x), ?_, .iface _ _ _ (hρ x)⟩
      cases d <;> first | exact absurd rfl (hni _) | simp [execOp, hop, Instr.makeInterface, run_underlying hu]
  | makeFunc fn first caps =>
    rw [hop] at hv
    cases fn <;> simp only [readOp] at hv <;> first | (cases hv; done) | skip
    rename_i f
    cases hv
    refine ⟨.func (.func f) (first.map ρ') (caps.map ρ'), by simp [execOp, hop, Instr.makeFunc], ?_⟩
    have q1 := VRL.map_ops hρ first.toList
    have q2 := VRL.map_ops hρ caps.toList
    exact .func _ _ _ _ _ (by simp) (by simp) (fun i a b ha hb => q1.2 i a b ha (by rw [← Array.getElem?_toList] at hb; simpa using hb)) (fun i a b ha hb => q2.2 i a b ha (by rw [← Array.getElem?_toList] at hb; simpa using hb))
  | slice t x lo hi mx =>
    rw [hop] at hv
    obtain ⟨v', h1, h2⟩ := slice_sim (w := w) (hρ x) (optR.map hρ lo) (optR.map hρ hi) (optR.map hρ mx) hv
    exact ⟨v', by simp [execOp, hop, h1], h2⟩
  | fieldAddr s x f =>
    rw [hop] at hv
    obtain ⟨v', h1, h2⟩ := fieldA_sim (w := w) (hρ x) hv
    exact ⟨v', by simp [execOp, hop, h1], h2⟩
  | field s x f =>
    rw [hop] at hv
    obtain ⟨v', h1, h2⟩ := fieldV_sim (w := w) (hρ x) hv
    exact ⟨v', by simp [execOp, hop, h1], h2⟩
  | indexAddr t x i =>
    rw [hop] at hv
    obtain ⟨v', h1, h2⟩ := indexA_sim (w := w) (hρ x) (hρ i) hv
    exact ⟨v', by simp [execOp, hop, h1], h2⟩
  | index t x i =>
    rw [hop] at hv
    obtain ⟨v', h1, h2⟩ := indexV_sim (w := w) (hρ x) (hρ i) hv
    exact ⟨v', by simp [execOp, hop, h1], h2⟩
  | lookup t m k ok =>
    rw [hop] at hv
    obtain ⟨v', h1, h2⟩ := look_sim r (hρ m) (hρ k) hv
    exact ⟨v', by simp [execOp, hop, h1], h2⟩
  | typeAssert x xt t ok =>
    rw [hop] at hv
    obtain ⟨v', h1, h2⟩ := assert_sim (P := P) (w := w) (xt := xt) (hρ x) hv
    exact ⟨v', by simp [execOp, hop, h1], h2⟩
  | extract t i =>
    rw [hop] at hv
    simp only [readOp] at hv
    split at hv
    · rename_i vs ht
      have hc := hρ t
      rw [ht] at hc
      obtain ⟨cs', e, hl⟩ := hc.tup_inv
      obtain ⟨v', h1, h2⟩ := hl.get hv
      exact ⟨v', by simp [execOp, hop, e, Instr.extract, (show cs'[i]? = some v' by simpa using h1)], h2⟩
    · cases hv
  | call c =>
    rw [hop] at hv
    obtain ⟨callee, args, ts⟩ := c
    cases callee with
    | builtin b =>
      cases b <;> simp only [readOp] at hv <;> first | (cases hv; done) | skip
      case len =>
        split at hv
        · rename_i t x ht hx
          have hx' : (args.map ρ')[0]? = some (ρ' x) := by simp [hx]
          obtain ⟨v', h1, h2⟩ := len_sim (ty := o.type) r ht hx' (hρ x) hv
          refine ⟨v', ?_, h2⟩
          simp [execOp, hop, resolve, invoke, builtin, h1]
        · cases hv
      case min =>
        cases hl : args.toList with
        | nil => rw [hl] at hv; cases hv
        | cons x xs =>
          rw [hl] at hv
          simp only [List.map_cons, minV] at hv
          obtain ⟨v', h1, h2⟩ := min_sim (P := P) (w := w) (hρ x) (VRL.map_ops hρ xs) hv
          refine ⟨v', ?_, h2⟩
          have e : (args.map ρ').toList = ρ' x :: xs.map ρ' := by simp [hl]
          simp only [execOp, hop, resolve, invoke, builtin, Sem.run_bind, Sem.run_pure, Result.andThen_ok, Builtin.min_, e, h1]
      case max =>
        cases hl : args.toList with
        | nil => rw [hl] at hv; cases hv
        | cons x xs =>
          rw [hl] at hv
          simp only [List.map_cons, maxV] at hv
          obtain ⟨v', h1, h2⟩ := max_sim (P := P) (w := w) (hρ x) (VRL.map_ops hρ xs) hv
          refine ⟨v', ?_, h2⟩
          have e : (args.map ρ').toList = ρ' x :: xs.map ρ' := by simp [hl]
          simp only [execOp, hop, resolve, invoke, builtin, Sem.run_bind, Sem.run_pure, Result.andThen_ok, Builtin.max_, e, h1]
    | value f => simp only [readOp] at hv; cases hv
    | invoke r n => simp only [readOp] at hv; cases hv
  | _ => all_goals (rw [hop] at hv; simp only [readOp] at hv; cases hv)

end
end Am

/-
The operations that make one block.
-/
namespace Am
open Go

section
variable {P : Program} {w0 : World} {N0 : Nat} {ϕ : Phi} {h : H} {w : World}

theorem repl_eq (n : Nat) (z : List V) : repl n z = (List.replicate n z).flatten := by
  unfold repl
  split
  · rename_i v
    induction n with
    | zero => rfl
    | succ n ih => rw [List.replicate_succ, List.replicate_succ, List.flatten_cons, ← ih]; rfl
  · rfl
theorem range_mod {α : Type} [Inhabited α] (l : List α) : ∀ n, (List.range (n * l.length)).map (fun i => l[i % l.length]!) = (List.replicate n l).flatten
  | 0 => by simp
  | n + 1 => by
    rw [Nat.add_mul, Nat.one_mul, Nat.add_comm, List.range_add, List.map_append, List.replicate_succ, List.flatten_cons, ← range_mod l n, List.map_map]
    congr 1
    · apply List.ext_getElem?
      intro i
      simp only [List.getElem?_map]
      by_cases hi : i < l.length
      · rw [List.getElem?_range hi, List.getElem?_eq_getElem hi]
        simp [Nat.mod_eq_of_lt hi, hi]
      · rw [List.getElem?_eq_none (by simpa using hi), List.getElem?_eq_none (by omega)]; rfl
    · apply List.map_congr_left
      intro i _
      simp
theorem VRL.rep {z : List V} {z' : List Value} (hz : VRL w0 N0 ϕ z z') : ∀ n, VRL w0 N0 ϕ (List.replicate n z).flatten (List.replicate n z').flatten
  | 0 => by simpa using VRL.nil
  | n + 1 => by rw [List.replicate_succ, List.replicate_succ, List.flatten_cons, List.flatten_cons]; exact hz.append (VRL.rep hz n)
theorem repl_cells {z : List V} {z' : Array Value} (hz : VRL w0 N0 ϕ z z'.toList) (hf : ∀ x ∈ z'.toList, flat x) (n : Nat) {m : Nat} (hm : z.length = m) :
    VRL w0 N0 ϕ (repl n z) ((Array.range (n * m)).map (z'[· % z'.size]!)).toList ∧ (∀ x ∈ ((Array.range (n * m)).map (z'[· % z'.size]!)).toList, flat x) ∧ (repl n z).length = n * m := by
  have hs : z'.size = m := by have := hz.1; simp at this; omega
  have e : ((Array.range (n * m)).map (z'[· % z'.size]!)).toList = (List.replicate n z'.toList).flatten := by
    rw [← range_mod z'.toList n]
    simp only [Array.toList_map, Array.toList_range, Array.length_toList, hs]
    apply List.map_congr_left
    intro i _
    obtain ⟨l⟩ := z'
    simp [List.getElem!_toArray]
  rw [e, repl_eq]
  refine ⟨hz.rep n, fun x hx => ?_, ?_⟩
  · obtain ⟨l, hl, hx⟩ := List.mem_flatten.1 hx
    rw [List.eq_of_mem_replicate hl] at hx
    exact hf x hx
  · simp [List.length_flatten, hm]

theorem splice_length (cs : List V) (off : Nat) (vs : List V) (h : off + vs.length ≤ cs.length) : (splice cs off vs).length = cs.length := by
  unfold splice; simp; omega

theorem fillS_sim {es : Nat} : ∀ {parts : List (Nat × V)} {parts' : List (Nat × Value)} {cs ds : List V} {cs' : Array Value},
    parts.length = parts'.length → (∀ (i : Nat) (p : Nat × V) (p' : Nat × Value), parts[i]? = some p → parts'[i]? = some p' → p.1 = p'.1 ∧ VR w0 N0 ϕ p.2 p'.2) →
    VRL w0 N0 ϕ cs cs'.toList → (∀ x ∈ cs'.toList, flat x) → fillS es cs parts = some ds →
    ∃ ds', Instr.fill (fun i => some (i * es, es)) cs' parts' = some ds' ∧ VRL w0 N0 ϕ ds ds'.toList ∧ (∀ x ∈ ds'.toList, flat x) ∧ ds.length = cs.length
  | [], parts', cs, ds, cs', hl, _, hc, hf, hv => by
    have : parts' = [] := List.length_eq_zero_iff.1 hl.symm
    subst this
    simp [fillS] at hv
    subst hv
    exact ⟨cs', rfl, hc, hf, rfl⟩
  | (i, x) :: parts, [], cs, ds, cs', hl, _, hc, hf, hv => by simp at hl
  | (i, x) :: parts, (i', x') :: parts', cs, ds, cs', hl, hp, hc, hf, hv => by
    obtain ⟨e0, h0⟩ := hp 0 (i, x) (i', x') rfl rfl
    simp only at e0 h0
    subst e0
    unfold fillS at hv
    split at hv
    · rename_i pc hpc
      cases hb : Nat.beq pc.length es && Nat.ble (i * es + pc.length) cs.length with
      | false => rw [hb] at hv; cases hv
      | true =>
        rw [hb] at hv
        simp only [cond_true] at hv
        simp only [Bool.and_eq_true] at hb
        have b1 := Nat.eq_of_beq_eq_true hb.1
        have b2 := Nat.le_of_ble_eq_true hb.2
        obtain ⟨hcx, hfx⟩ := h0.cells hpc
        have hsz : x'.cells.size = es := by have := hcx.1; simp at this; omega
        have hle : i * es + x'.cells.size ≤ cs'.size := by have := hc.1; simp at this; have := hcx.1; simp at this; omega
        have hset := setFold x'.cells.toList 0 (i * es) cs' (by simpa using hle)
        simp only [Nat.add_zero] at hset
        have e2 : (x'.cells.zipIdx.foldl (fun (cs : Array Value) (x : Value × Nat) => match x with | (c, j) => cs.setIfInBounds (i * es + j) c) cs') = ((x'.cells.toList.zipIdx 0).foldl (fun (cs : Array Value) (x : Value × Nat) => cs.setIfInBounds (i * es + x.2) x.1) cs') := by
          rw [← Array.foldl_toList, Array.toList_zipIdx]
        obtain ⟨ds', hd1, hd2, hd3, hd4⟩ := fillS_sim (parts := parts) (parts' := parts') (cs' := (x'.cells.zipIdx.foldl (fun (cs : Array Value) (x : Value × Nat) => match x with | (c, j) => cs.setIfInBounds (i * es + j) c) cs')) (by simpa using hl) (fun j p p' a b => hp (j + 1) p p' (by simpa using a) (by simpa using b))
          (by rw [e2, hset]; exact hc.splice (i * es) hcx) (by
            rw [e2, hset]
            intro y hy
            rcases List.mem_append.1 hy with hy | hy
            · rcases List.mem_append.1 hy with hy | hy
              · exact hf y (List.mem_of_mem_take hy)
              · exact hfx y hy
            · exact hf y (List.mem_of_mem_drop hy)) hv
        refine ⟨ds', ?_, hd2, hd3, by rw [hd4, splice_length _ _ _ b2]⟩
        have hnot : ¬ ((x'.cells.size ≠ es || decide (i * es + x'.cells.size > cs'.size)) = true) := by
          simp [hsz]; omega
        unfold Instr.fill
        simp only []
        rw [if_neg hnot]
        exact hd1
    · cases hv

/-- A new block of cells, and what it stands for. -/
theorem cells_new {cs : List V} {c : Array Value} {e : TypeId} {es : Nat} {g : Bool} {w' : World} {ϕ' : Phi} {n : Nat} (hle : ϕ.le ϕ') (hv : VRL w0 N0 ϕ cs c.toList) (hf : ∀ x ∈ c.toList, flat x)
    (hw : w'.heap[n]? = some (.cells c e (0, 0))) (hes : c.size = cs.length) : ObjR w0 N0 ϕ' w' ⟨n, 0, cs.length, es⟩ (.cells cs es g) := by
  refine ⟨c, e, hw, by simp [hes], Nat.le_refl _, fun _ => rfl, rfl, fun i v hi => ?_⟩
  obtain ⟨v', h1, h2⟩ := hv.get hi
  refine ⟨v', by simpa using h1, hf v' (List.mem_of_getElem? h1), h2.mono hle⟩

theorem wrap_small {n : Int} (h0 : 0 ≤ n) (h1 : n ≤ 4294967296) : IntKind.i64.wrap n = n := by
  exact IntWalk.i64_in n (by omega)

theorem range0 : Array.range 0 = #[] := by simp
theorem alloc_sim {o : Oper} {ρ : Operand → V} {ρ' : Operand → Value} (hρ : ∀ x, VR w0 N0 ϕ (ρ x) (ρ' x)) {ob : Obj} {mk : Nat → V} (hv : allocOp P o.op ρ = some (ob, mk)) (w : World) :
    ∃ (v' : Value) (w' : World) (oc : Go.Obj) (L : Loc), (execOp ρ' o).run P w = .ok (.value v') w' ∧ w'.heap = w.heap.push oc ∧ L.blk = w.heap.size ∧ Same w w' ∧
      ∀ (ϕ' : Phi) (b : Nat), ϕ.le ϕ' → ϕ' b = some L → VR w0 N0 ϕ' (mk b) v' ∧ ObjR w0 N0 ϕ' w' L ob := by
  cases hop : o.op with
  | alloc t =>
    rw [hop] at hv
    simp only [allocOp] at hv
    split at hv
    · rename_i z hz
      cases hv
      obtain ⟨z', rz, vz, fz⟩ := zeroCs_sim hz w
      refine ⟨.pointer (some ⟨w.heap.size, 0, none⟩), { w with heap := w.heap.push (.cells z'.cells t) }, .cells z'.cells t, ⟨w.heap.size, 0, z.length, z.length⟩, ?_, rfl, rfl, ⟨rfl, rfl, rfl⟩, fun ϕ' b hle hb => ⟨?_, ?_⟩⟩
      · simp only [execOp, hop, Instr.alloc, Sem.run_bind, rz, Result.andThen_ok, newVar, newRow, run_newObj, Sem.run_pure]
      · exact .ptr b 0 _ hb
      · exact cells_new (ϕ := ϕ) (e := t) hle vz fz (by simp) (by have := (vz (w0 := w0) (N0 := N0) (ϕ := ϕ)).1; simp at this; exact this.symm)
    · cases hv
  | box t x =>
    rw [hop] at hv
    simp only [allocOp] at hv
    split at hv
    · rename_i cs hcs
      cases hv
      obtain ⟨vz, fz⟩ := (hρ x).cells hcs
      refine ⟨.pointer (some ⟨w.heap.size, 0, none⟩), { w with heap := w.heap.push (.cells (ρ' x).cells t) }, .cells (ρ' x).cells t, ⟨w.heap.size, 0, cs.length, cs.length⟩, ?_, rfl, rfl, ⟨rfl, rfl, rfl⟩, fun ϕ' b hle hb => ⟨?_, ?_⟩⟩
      · simp only [execOp, hop, Instr.box, Sem.run_bind, Result.andThen_ok, newVar, newRow, run_newObj, Sem.run_pure]
      · exact .ptr b 0 _ hb
      · exact cells_new (ϕ := ϕ) (e := t) hle vz fz (by simp) (by have := vz.1; simp at this; exact this.symm)
    · cases hv
  | buildSlice t len parts =>
    rw [hop] at hv
    simp only [allocOp] at hv
    split at hv
    · rename_i e hu
      split at hv
      · rename_i z hz
        cases hb : Nat.ble (len * P.cellsOf e) 16777216 && Nat.beq z.length (P.cellsOf e) with
        | false => rw [hb] at hv; cases hv
        | true =>
          rw [hb] at hv
          simp only [cond_true] at hv
          simp only [Bool.and_eq_true] at hb
          have b1 := Nat.le_of_ble_eq_true hb.1
          have b2 := Nat.eq_of_beq_eq_true hb.2
          split at hv
          · rename_i ds hds
            cases hv
            obtain ⟨z', rz, vz, fz⟩ := zeroCs_sim hz w
            obtain ⟨ie, hie⟩ : ∃ i, P.info? e = some i := by
              unfold zeroCs zeroV at hz
              cases hi : P.info? e with
              | none => simp [hi] at hz
              | some i => exact ⟨i, rfl⟩
            obtain ⟨q1, q2, q3⟩ := repl_cells (w0 := w0) (N0 := N0) (ϕ := ϕ) vz fz len b2
            have hparts : ∀ (i : Nat) (p : Nat × V) (p' : Nat × Value), (parts.toList.map fun (i, x) => (i, ρ x))[i]? = some p → (parts.toList.map fun (i, x) => (i, ρ' x))[i]? = some p' → p.1 = p'.1 ∧ VR w0 N0 ϕ p.2 p'.2 := by
              intro i p p' a b
              simp only [List.getElem?_map] at a b
              cases hq : parts.toList[i]? with
              | none => rw [hq] at a; cases a
              | some q => rw [hq] at a b; cases a; cases b; exact ⟨rfl, hρ _⟩
            obtain ⟨ds', f1, f2, f3, f4⟩ := fillS_sim (parts' := parts.toList.map fun (i, x) => (i, ρ' x)) (by simp) hparts q1 q2 hds
            have e1 : (parts.map fun (i, x) => (i, ρ' x)).toList = parts.toList.map fun (i, x) => (i, ρ' x) := by simp
            refine ⟨.slice (some ⟨w.heap.size, 0, none⟩) len len, { w with heap := w.heap.push (.cells ds' e) }, .cells ds' e, ⟨w.heap.size, 0, ds.length, P.cellsOf e⟩, ?_, rfl, rfl, ⟨rfl, rfl, rfl⟩, fun ϕ' b hle hb => ⟨?_, ?_⟩⟩
            · have hsm : ¬ len * P.cellsOf e > 2 ^ 24 := by omega
              by_cases h0 : len * P.cellsOf e = 0
              · rw [h0] at f1
                simp only [execOp, hop, Instr.buildSlice, Sem.run_bind, run_underlying hu, Result.andThen_ok, run_sizeOf' hie, h0, Nat.not_lt_zero, gt_iff_lt, if_false, if_true, Sem.run_pure, range0, Array.map_empty, e1] at f1 ⊢
                simp only [f1, newRow, Sem.run_bind, run_newObj, Result.andThen_ok, Sem.run_pure]
              · simp only [execOp, hop, Instr.buildSlice, Sem.run_bind, run_underlying hu, Result.andThen_ok, run_sizeOf' hie, hsm, if_false, h0, rz, e1, f1, newRow, run_newObj, Sem.run_pure]
            · exact .sl b 0 len none (P.cellsOf e) len _ _ hb rfl (Nat.le_refl _) (fun c hc => by cases hc) (fun _ => by simp [f4, q3]) ⟨rfl, rfl⟩ (.inr rfl)
            · exact cells_new (ϕ := ϕ) (e := e) hle f2 f3 (by simp) (by have := f2.1; simp at this; exact this.symm)
          · cases hv
      · cases hv
    · cases hv
  | makeSlice t l c =>
    rw [hop] at hv
    simp only [allocOp] at hv
    split at hv
    · rename_i e li ci hu hl hc
      have hl' : ρ' l = .int .i64 li := by have := hρ l; rw [hl] at this; exact this.int_inv
      have hc' : ρ' c = .int .i64 ci := by have := hρ c; rw [hc] at this; exact this.int_inv
      split at hv
      · rename_i z hz
        cases hb : (decide (0 ≤ li) && decide (li ≤ ci) && decide (ci ≤ (most : Int)) && Nat.ble (P.bytesOf e) 4096 && Nat.beq z.length (P.cellsOf e) && !Nat.beq (P.cellsOf e) 0) with
        | false => rw [hb] at hv; cases hv
        | true =>
          rw [hb] at hv
          cases hv
          simp only [Bool.and_eq_true, decide_eq_true_eq, Bool.not_eq_true'] at hb
          obtain ⟨⟨⟨⟨⟨b1, b2⟩, b3⟩, b4⟩, b5⟩, b6⟩ := hb
          have b4 := Nat.le_of_ble_eq_true b4
          have b5 := Nat.eq_of_beq_eq_true b5
          have b6 : P.cellsOf e ≠ 0 := fun h0 => by rw [nb_t h0] at b6; cases b6
          have b3' : ci ≤ 4294967296 := by simpa [most] using b3
          obtain ⟨z', rz, vz, fz⟩ := zeroCs_sim hz w
          obtain ⟨ie, hie⟩ : ∃ i, P.info? e = some i := by
            unfold zeroCs zeroV at hz
            cases hi : P.info? e with
            | none => simp [hi] at hz
            | some i => exact ⟨i, rfl⟩
          have hby : ie.bytes ≤ 4096 := by simpa [Program.bytesOf, hie] using b4
          obtain ⟨q1, q2, q3⟩ := repl_cells (w0 := w0) (N0 := N0) (ϕ := ϕ) vz fz ci.toNat b5
          have hprod : (ie.bytes : Int) * ci ≤ 4096 * 4294967296 := by
            have h1 : (ie.bytes : Int) ≤ 4096 := by omega
            calc (ie.bytes : Int) * ci ≤ 4096 * ci := Int.mul_le_mul_of_nonneg_right h1 (by omega)
              _ ≤ 4096 * 4294967296 := Int.mul_le_mul_of_nonneg_left b3' (by omega)
          refine ⟨.slice (some ⟨w.heap.size, 0, none⟩) li.toNat ci.toNat, { w with heap := w.heap.push (.cells ((Array.range (ci.toNat * P.cellsOf e)).map (z'.cells[· % z'.cells.size]!)) e) }, .cells ((Array.range (ci.toNat * P.cellsOf e)).map (z'.cells[· % z'.cells.size]!)) e, ⟨w.heap.size, 0, (repl ci.toNat z).length, P.cellsOf e⟩, ?_, rfl, rfl, ⟨rfl, rfl, rfl⟩, fun ϕ' b hle hb => ⟨?_, ?_⟩⟩
          · have wl : IntKind.i64.wrap li = li := wrap_small b1 (by omega)
            have wc : IntKind.i64.wrap ci = ci := wrap_small (by omega) b3'
            have t1 : (decide (ci < 0) || decide ((ie.bytes : Int) * ci > 2 ^ 48) || decide (li < 0) || decide (li > ci)) = false := by
              simp; omega
            by_cases h0 : ci.toNat * P.cellsOf e = 0
            · simp only [execOp, hop, Instr.makeSlice, hl', hc', Sem.run_bind, run_underlying hu, Result.andThen_ok, asInt, asIntOf, Sem.run_pure, run_typeInfo' hie, wl, wc, t1, Bool.false_eq_true, if_false, run_askRoom, run_sizeOf' hie, h0, if_true, range0, Array.map_empty, newRow, run_newObj]
            · simp only [execOp, hop, Instr.makeSlice, hl', hc', Sem.run_bind, run_underlying hu, Result.andThen_ok, asInt, asIntOf, Sem.run_pure, run_typeInfo' hie, wl, wc, t1, Bool.false_eq_true, if_false, run_askRoom, run_sizeOf' hie, h0, rz, newRow, run_newObj]
          · refine .sl b 0 li.toNat none (P.cellsOf e) ci.toNat _ _ hb rfl (by omega) (fun c hc => by cases hc) (fun _ => by simp [q3]) ⟨rfl, rfl⟩ (.inr rfl)
          · exact cells_new (ϕ := ϕ) (e := e) hle q1 q2 (by simp) (by have := q1.1; simp at this ⊢; omega)
      · cases hv
    · cases hv
  | makeMap t r =>
    rw [hop] at hv
    cases r with
    | some x => simp only [allocOp] at hv; cases hv
    | none =>
      simp only [allocOp] at hv
      split at hv
      · cases hv
        refine ⟨.map (some w.heap.size), { w with heap := w.heap.push (.map #[] 0) }, .map #[] 0, ⟨w.heap.size, 0, 0, 0⟩, ?_, rfl, rfl, ⟨rfl, rfl, rfl⟩, fun ϕ' b hle hb => ⟨.map b _ hb, ?_⟩⟩
        · simp only [execOp, hop, Option.map_none, Instr.makeMap, Sem.run_bind, run_newObj, Result.andThen_ok, Sem.run_pure]
        · exact ⟨#[], 0, by simp, rfl, fun i kv e a b => by simp at a⟩
      · cases hv
  | makeChan t s =>
    rw [hop] at hv
    simp only [allocOp] at hv
    split at hv
    · rename_i d e k n hu hs
      have hs' : ρ' s = .int k n := by have := hρ s; rw [hs] at this; exact this.int_inv
      cases hb : (decide (0 ≤ n) && decide (n ≤ (most : Int)) && Nat.ble (P.bytesOf e) 4096 && (P.info? e).isSome) with
      | false => rw [hb] at hv; cases hv
      | true =>
        rw [hb] at hv
        cases hv
        simp only [Bool.and_eq_true, decide_eq_true_eq] at hb
        obtain ⟨⟨⟨b1, b2⟩, b3⟩, b4⟩ := hb
        obtain ⟨ie, hie⟩ := Option.isSome_iff_exists.1 b4
        have b3 := Nat.le_of_ble_eq_true b3
        have b2' : n ≤ 4294967296 := by simpa [most] using b2
        have hby : ie.bytes ≤ 4096 := by simpa [Program.bytesOf, hie] using b3
        have hprod : (ie.bytes : Int) * n ≤ 4096 * 4294967296 := by
          have h1 : (ie.bytes : Int) ≤ 4096 := by omega
          calc (ie.bytes : Int) * n ≤ 4096 * n := Int.mul_le_mul_of_nonneg_right h1 (by omega)
            _ ≤ 4096 * 4294967296 := Int.mul_le_mul_of_nonneg_left b2' (by omega)
        refine ⟨.chan (some w.heap.size), { w with heap := w.heap.push (.chan n.toNat #[] false 0 0 false) }, .chan n.toNat #[] false 0 0 false, ⟨w.heap.size, 0, 0, 0⟩, ?_, rfl, rfl, ⟨rfl, rfl, rfl⟩, fun ϕ' b hle hb => ⟨.chan b _ hb, ?_⟩⟩
        · have hno : ¬ (n < 0 ∨ n > IntKind.i64.max ∨ (ie.bytes : Int) * n > 2 ^ 48 - 112) := by
            have : IntKind.i64.max = 9223372036854775807 := by decide
            omega
          simp only [execOp, hop, Instr.makeChan, hs', asInt, asIntOf, Sem.run_bind, Sem.run_pure, Result.andThen_ok, run_underlying hu, run_typeInfo' hie, if_neg hno, run_newObj]
        · exact ⟨#[], 0, 0, by simp, by simpa using VRL.nil⟩
    · cases hv
  | _ => all_goals (rw [hop] at hv; simp only [allocOp] at hv; cases hv)

end
end Am

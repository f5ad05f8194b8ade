/-
  The evaluation of single operations over the abstract memory: a predicate, in the style of a continuation.
-/
import Derived.Test.YtggehgnmfjdkhaaAbsB
namespace Go.Abs
set_option linter.unusedSimpArgs false
set_option linter.unusedVariables false
open Go.RowKit

def szO (P : Program) (t : TypeId) : Option Nat := (P.info? t).map (·.size)
def byO (P : Program) (t : TypeId) : Option Nat := (P.info? t).map (·.bytes)
def zeroO (P : Program) (t : TypeId) : Option (List Value) := (P.info? t).bind fun i => i.zero.map fun z => z.cells.toList
def aggO (P : Program) (t : TypeId) : Option Bool := (P.underlying t).map fun d => match d with | .struct _ | .array _ _ => true | _ => false
def elO (P : Program) (t : TypeId) : Option TypeId := match P.underlying t with | some (.slice e) => some e | _ => none
def fldO (P : Program) (t : TypeId) (f : Nat) : Option (Nat × TypeId) := match P.underlying t with | some (.struct fs) => (fs[f]?).map fun x => (x.offset, x.type) | _ => none
def intO (P : Program) (t : TypeId) : Option IntKind := match P.underlying t with | some (.int k) => some k | _ => none
/-- an empty content of an element's type -/
def emptyO (P : Program) (e : TypeId) : Option C := match P.underlying e with | some (.int k) => some (.ints k []) | some .bool => some (.bools []) | some _ => (szO P e).map fun z => .sl z [] | none => none

def ofC : Value → C
  | .int k n => .i k n
  | .bool b => .b b
  | .string s => .str s
  | .slice none 0 0 => .nil
  | v => .a v

def ofV : Value → AV
  | .agg cs => if cs.toList.all oneCell then .g (cs.toList.map ofC) else .u
  | .tuple _ => .u
  | v => .c (ofC v)

structure St where
  n : Nat
  sl : List (Nat × AV)
  H : Hp
  nx : Nat

def St.get (st : St) (t : Nat) : AV := match look st.sl t with | some x => x | none => .u
def St.put (st : St) (d : Nat) (r : AV) : St := if d < st.n then { st with sl := (d, r) :: st.sl } else st
def St.ev (st : St) : Operand → AV
  | .tmp t => st.get t
  | .const v => ofV v
  | .global _ => .u
  | .func f => .c (.a (.func (.func f) #[] #[]))

def C.len : C → Option Nat
  | .nil => some 0
  | .e0 => some 0
  | .ints _ xs => some xs.length
  | .bools xs => some xs.length
  | .sl _ xs => some xs.length
  | _ => none
/-- the cells of an element -/
def C.row : C → Nat → List C
  | .ints k xs, q => [.i k (xs.getD q 0)]
  | .bools xs, q => [.b (xs.getD q false)]
  | .sl _ xs, q => xs.getD q []
  | _, _ => []
def C.sub : C → Nat → Nat → C
  | .ints k xs, l, h => .ints k ((xs.take h).drop l)
  | .bools xs, l, h => .bools ((xs.take h).drop l)
  | .sl z xs, l, h => .sl z ((xs.take h).drop l)
  | c, _, _ => c
def C.app : C → C → Option C
  | .ints k xs, .ints k' ys => if k = k' then some (.ints k (xs ++ ys)) else none
  | .bools xs, .bools ys => some (.bools (xs ++ ys))
  | .sl z xs, .sl z' ys => if z = z' then some (.sl z (xs ++ ys)) else none
  | .ints k xs, .nil => some (.ints k xs)
  | .bools xs, .nil => some (.bools xs)
  | .sl z xs, .nil => some (.sl z xs)
  | .ints k xs, .e0 => some (.ints k xs)
  | .bools xs, .e0 => some (.bools xs)
  | .sl z xs, .e0 => some (.sl z xs)
  | .ints .u8 xs, .str s => some (.ints .u8 (xs ++ s.data.toList.map fun b => (b.toNat : Int)))
  | _, _ => none
/-- an element's cell written -/
def C.put : C → Nat → Nat → C → Option C
  | .ints k xs, q, 0, .i k' n => if k = k' then some (.ints k (xs.set q n)) else none
  | .bools xs, q, 0, .b x => some (.bools (xs.set q x))
  | .sl z xs, q, j, x => some (.sl z (xs.set q ((xs.getD q []).set j x)))
  | _, _, _, _ => none

def cellsOf : AV → Option (List C)
  | .c x => some [x]
  | .g xs => some xs
  | _ => none
def allC : List AV → Option (List C)
  | [] => some []
  | .c x :: l => (allC l).map (x :: ·)
  | _ :: _ => none

def InK (k : IntKind) (n : Int) : Prop := k.min ≤ n ∧ n ≤ k.max
def modK : IntKind → Int
  | .u8 => 256 | .u16 => 65536 | .u32 => 4294967296 | .u64 => 18446744073709551616
  | .i8 => 256 | .i16 => 65536 | .i32 => 4294967296 | .i64 => 18446744073709551616
/-- the result of arithmetic: signed kinds must fit, the others wrap -/
def arT (k : IntKind) (n : Int) (K : AV → Prop) : Prop := match k.signed with
  | true => InK k n ∧ K (.c (.i k n))
  | false => K (.c (.i k (n % modK k)))

def curB (H : Hp) (id ver : Nat) : Option Buf := match look H.buf id with | some B => if B.ver == ver then some B else none | none => none

def bitI (op : BinOp) (k : IntKind) (x y : Int) : Int := match op with
  | .and => k.wrap (BitVec.ofInt k.bits x &&& BitVec.ofInt k.bits y).toNat
  | .or => k.wrap (BitVec.ofInt k.bits x ||| BitVec.ofInt k.bits y).toNat
  | .xor => k.wrap (BitVec.ofInt k.bits x ^^^ BitVec.ofInt k.bits y).toNat
  | _ => k.wrap (BitVec.ofInt k.bits x &&& ~~~ BitVec.ofInt k.bits y).toNat
def shlI (k : IntKind) (x y : Int) : Int := k.wrap (x * 2 ^ (Nat.min y.toNat k.bits))
def shrI (k : IntKind) (x y : Int) : Int := x.fdiv (2 ^ (Nat.min y.toNat k.bits))

def intT (op : BinOp) (k : IntKind) (a b : Int) (K : AV → Prop) : Prop := match op with
  | .add => arT k (a + b) K
  | .sub => arT k (a - b) K
  | .mul => arT k (a * b) K
  | .quo => match k.signed with
    | true => b ≠ 0 ∧ InK k (a.tdiv b) ∧ K (.c (.i k (a.tdiv b)))
    | false => (0 ≤ a ∧ a < modK k ∧ 0 < b) ∧ K (.c (.i k (a / b)))
  | .rem => match k.signed with
    | true => b ≠ 0 ∧ K (.c (.i k (a.tmod b)))
    | false => (0 ≤ a ∧ 0 < b) ∧ K (.c (.i k (a % b)))
  | .eql => K (.c (.b (decide (a = b))))
  | .neq => K (.c (.b (decide (a ≠ b))))
  | .lss => K (.c (.b (decide (a < b))))
  | .leq => K (.c (.b (decide (a ≤ b))))
  | .gtr => K (.c (.b (decide (b < a))))
  | .geq => K (.c (.b (decide (b ≤ a))))
  | .and => K (.c (.i k (bitI .and k a b)))
  | .or => K (.c (.i k (bitI .or k a b)))
  | .xor => K (.c (.i k (bitI .xor k a b)))
  | .andNot => K (.c (.i k (bitI .andNot k a b)))
  | _ => False

/-- what is known of a callee: whether its results lie in new memory alone; what it hands back -/
structure CT where
  fresh : Bool
  own : Option (TypeId × Nat) := none
  win : Option TypeId := none
  cut : Option TypeId := none
  tr : List (C ⊕ List C) → (AV → Prop) → Prop
  ctr : C → (C → Prop) → Prop := fun _ _ => False
/-- what is known of the program: its callees, its types of two ints that are compared -/
structure Cfg where
  tbl : FuncId → Option CT
  flt : List TypeId

/-- surely no nil slice -/
def nonNil (c : C) : Prop := match c with
  | .e0 => True
  | .ints _ xs => xs ≠ []
  | .bools xs => xs ≠ []
  | .sl _ xs => xs ≠ []
  | _ => False

def binT (P : Program) (cf : Cfg) (op : BinOp) (t : TypeId) (x y : AV) (K : AV → Prop) : Prop := match op, x, y with
  | .shl, .c (.i k a), .c (.i _ b) => 0 ≤ b ∧ K (.c (.i k (shlI k a b)))
  | .shr, .c (.i k a), .c (.i _ b) => 0 ≤ b ∧ K (.c (.i k (shrI k a b)))
  | op, .c (.i k a), .c (.i k' b) => k = k' ∧ intT op k a b K
  | .eql, .c (.b a), .c (.b b) => P.underlying t = some .bool ∧ K (.c (.b (a == b)))
  | .neq, .c (.b a), .c (.b b) => P.underlying t = some .bool ∧ K (.c (.b (a != b)))
  | .eql, .c (.str a), .c (.str b) => K (.c (.b (a.toList == b.toList)))
  | .neq, .c (.str a), .c (.str b) => K (.c (.b (!(a.toList == b.toList))))
  | .eql, .c .nil, .c .nil => (elO P t).isSome = true ∧ K (.c (.b true))
  | .neq, .c .nil, .c .nil => (elO P t).isSome = true ∧ K (.c (.b false))
  | .eql, .c c, .c .nil => (elO P t).isSome = true ∧ nonNil c ∧ K (.c (.b false))
  | .neq, .c c, .c .nil => (elO P t).isSome = true ∧ nonNil c ∧ K (.c (.b true))
  | .add, .c (.str a), .c (.str b) => a.size + b.size ≤ 9223372036854775807 ∧ K (.c (.str (a ++ b)))
  | .eql, .g [.i .i64 a, .i .i64 b], .g [.i .i64 c, .i .i64 d] => t ∈ cf.flt ∧ K (.c (.b (decide (a = c ∧ b = d))))
  | .neq, .g [.i .i64 a, .i .i64 b], .g [.i .i64 c, .i .i64 d] => t ∈ cf.flt ∧ K (.c (.b (!decide (a = c ∧ b = d))))
  | _, _, _ => False

def unT (op : UnOp) (x : AV) (K : AV → Prop) : Prop := match op, x with
  | .not, .c (.b a) => K (.c (.b (!a)))
  | .neg, .c (.i k a) => arT k (0 - a) K
  | .xor, .c (.i k a) => K (.c (.i k (bitI .xor k (if k.signed then -1 else k.max) a)))
  | _, _ => False

def convT (P : Program) (d : TypeId) (x : AV) (K : AV → Prop) : Prop := match intO P d, x with
  | some k, .c (.i _ n) => arT k n K
  | _, _ => False

def pickT (c : AV) (Ka Kb : Prop) : Prop := match c with
  | .c (.b true) => Ka
  | .c (.b false) => Kb
  | _ => False

def loadT (P : Program) (H : Hp) (t : TypeId) (x : AV) (K : AV → Prop) : Prop := match aggO P t, szO P t, x with
  | some false, _, .bx id off => match look H.box id with
    | some cs => match cs[off]? with | some y => K y | none => False
    | none => False
  | some false, _, .el xs => match xs with | y :: _ => K (.c y) | [] => False
  | some false, _, .oel id ver i off => match curB H id ver with
    | some B => match (B.con.row i)[off]? with | some y => K (.c y) | none => False
    | none => False
  | some false, _, .bel k i off => match look H.bor k with
    | some B => match (B.con.row i)[off]? with | some y => K (.c y) | none => False
    | none => False
  | some true, some z, .bx id off => match look H.box id with
    | some cs => match allC ((cs.drop off).take z) with | some l => l.length = z ∧ K (.g l) | none => False
    | none => False
  | some true, some z, .el xs => (xs.take z).length = z ∧ K (.g (xs.take z))
  | some true, some z, .oel id ver i off => match curB H id ver with
    | some B => (((B.con.row i).drop off).take z).length = z ∧ K (.g (((B.con.row i).drop off).take z))
    | none => False
  | _, _, _ => False

def indexAddrT (P : Program) (H : Hp) (t : TypeId) (x i : AV) (K : AV → Prop) : Prop := match elO P t, x, i with
  | some e, .c c, .c (.i _ n) => match c.len with
    | some l => szO P e = some c.z ∧ (0 ≤ n ∧ n < (l : Int)) ∧ K (.el (c.row n.toNat))
    | none => False
  | some e, .own id ver, .c (.i _ n) => match curB H id ver with
    | some B => match B.con.len with
      | some l => szO P e = some B.z ∧ (0 ≤ n ∧ n < (l : Int)) ∧ K (.oel id ver n.toNat 0)
      | none => False
    | none => False
  | some e, .bw k lo len, .c (.i _ n) => match look H.bor k with
    | some B => szO P e = some B.con.z ∧ (0 ≤ n ∧ n < (len : Int)) ∧ K (.bel k (lo + n.toNat) 0)
    | none => False
  | some e, .win id ver lo len, .c (.i _ n) => match curB H id ver with
    | some B => szO P e = some B.z ∧ (0 ≤ n ∧ n < (len : Int)) ∧ K (.oel id ver (lo + n.toNat) 0)
    | none => False
  | _, _, _ => False

def fieldAddrT (P : Program) (s : TypeId) (x : AV) (f : Nat) (K : AV → Prop) : Prop := match fldO P s f with
  | some (o, ft) => match szO P ft with
    | some (_ + 1) => match x with
      | .bx id off => K (.bx id (off + o))
      | .el xs => K (.el (xs.drop o))
      | _ => False
    | _ => False
  | none => False

def fieldT (P : Program) (s : TypeId) (x : AV) (f : Nat) (K : AV → Prop) : Prop := match fldO P s f, x with
  | some (o, ft), .g xs => match aggO P ft, szO P ft with
    | some false, _ => match xs[o]? with | some y => K (.c y) | none => False
    | some true, some z => K (.g ((xs.drop o).take z))
    | _, _ => False
  | _, _ => False

def ofSum : C ⊕ List C → AV
  | .inl x => .c x
  | .inr xs => .g xs
def extractT (x : AV) (i : Nat) (K : AV → Prop) : Prop := match x with
  | .t vs => match vs[i]? with | some y => K (ofSum y) | none => False
  | _ => False

def lenT (H : Hp) (x : AV) (K : AV → Prop) : Prop := match x with
  | .c (.str s) => K (.c (.i .i64 s.size))
  | .c c => match c.len with | some l => K (.c (.i .i64 l)) | none => False
  | .own id ver => match curB H id ver with
    | some B => match B.con.len with | some l => K (.c (.i .i64 l)) | none => False
    | none => False
  | .win id ver _ len => match curB H id ver with
    | some _ => K (.c (.i .i64 len))
    | none => False
  | .bw _ _ len => K (.c (.i .i64 len))
  | _ => False

/-- a slice expression over a view -/
def sliceT (P : Program) (t : TypeId) (x : AV) (lo hi : Option AV) (K : AV → Prop) : Prop := match elO P t, x with
  | some e, .c c => match c.len with
    | some l => match lo, hi with
      | none, none => szO P e = some c.z ∧ K (.c (c.sub 0 l))
      | some (.c (.i _ a)), none => szO P e = some c.z ∧ (0 ≤ a ∧ a ≤ (l : Int)) ∧ K (.c (c.sub a.toNat l))
      | none, some (.c (.i _ b)) => szO P e = some c.z ∧ (0 ≤ b ∧ b ≤ (l : Int)) ∧ K (.c (c.sub 0 b.toNat))
      | some (.c (.i _ a)), some (.c (.i _ b)) => szO P e = some c.z ∧ (0 ≤ a ∧ a ≤ b ∧ b ≤ (l : Int)) ∧ K (.c (c.sub a.toNat b.toNat))
      | _, _ => False
    | none => False
  | _, _ => False

/-- the places of a struct's fields, of an array's elements -/
def plO (P : Program) (t : TypeId) : Option (List (Nat × Nat)) := match P.underlying t with
  | some (.struct fs) => fs.toList.mapM fun f => (P.info? f.type).map fun i => (f.offset, i.size)
  | some (.array n e) => (szO P e).map fun z => (List.range n).map fun i => (i * z, z)
  | _ => none
/-- what is put into the places of a struct -/
def fillC (pl : List (Nat × Nat)) : List (Nat × AV) → List C → Option (List C)
  | [], cs => some cs
  | (f, x) :: ps, cs => match pl[f]?, cellsOf x with
    | some (o, z), some ys => if ys.length = z ∧ o + z ≤ cs.length then fillC pl ps (cs.take o ++ ys ++ cs.drop (o + z)) else none
    | _, _ => none
def buildT (P : Program) (t : TypeId) (ps : List (Nat × AV)) (K : AV → Prop) : Prop := match zeroO P t, plO P t with
  | some zs, some pl => match fillC pl ps (zs.map ofC) with | some cs => zs.all oneCell = true ∧ K (.g cs) | none => False
  | _, _ => False

def intsOf (k : IntKind) : List AV → Option (List Int)
  | [] => some []
  | .c (.i k' n) :: l => if k = k' then (intsOf k l).map (n :: ·) else none
  | _ :: _ => none
def boolsOf : List AV → Option (List Bool)
  | [] => some []
  | .c (.b n) :: l => (boolsOf l).map (n :: ·)
  | _ :: _ => none
def rowsOf (z : Nat) : List AV → Option (List (List C))
  | [] => some []
  | x :: l => match cellsOf x with
    | some r => if r.length = z then (rowsOf z l).map (r :: ·) else none
    | none => none
def litO (P : Program) (e : TypeId) (xs : List AV) : Option C := match P.underlying e with
  | some (.int k) => (intsOf k xs).map (.ints k)
  | some .bool => (boolsOf xs).map .bools
  | _ => match szO P e with | some z => (rowsOf z xs).map (.sl z) | none => none

end Go.Abs

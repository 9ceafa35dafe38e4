/- The abstract machine and its soundness: parts Abs, Run, CallV, Rel, Sound1, Sound2, Sound3, Sound4, Sound6, Sound5, Sound7. -/
import Derived.Calls
import Derived.Orders
import Derived.Laws.CopyRow
import Derived.Laws.Cells
import Derived.Laws.World
import GoSem.Dispatch
import Derived.Lib.Strings
import Derived.Laws.StructEq
set_option linter.unusedVariables false
set_option linter.unusedSectionVars false
set_option linter.unusedSimpArgs false
/-! The abstract machine: closed values, a frame's own blocks, and what the operations of the model come to on them.  -/
namespace Go.Proofs.YtomkegeojknihaaDoor.Abs
open Go

/-- Data that no code writes any more. -/
inductive CVal where
  | bool (b : Bool)
  | int (k : IntKind) (n : Int)
  | str (s : List UInt8)
  | sl (xs : List CVal)
  | agg (cs : List CVal)
  | fp (c : CVal) (off : Nat)
  | func (f : Nat) (caps : List CVal)
  | nilp
  | nilf
  | nili
  | iface (t : Nat) (c : CVal)
  | tup (cs : List CVal)
  deriving Inhabited

/-- What a slot of a frame holds. -/
inductive AVal where
  | v (c : CVal)
  | nl
  | lptr (i off : Nat)
  | lel (i ver idx off : Nat)
  | lref (i ver : Nat)
  | agg (cs : List AVal)
  | func (f : Nat) (caps : List AVal)
  | tup (cs : List AVal)
  | un
  deriving Inhabited

inductive Body where
  | box (cs : List AVal)
  | arr (sz : Nat) (xs : List CVal)
  | dead
  deriving Inhabited

structure Blk where
  ver : Nat
  body : Body
  deriving Inhabited

structure St where
  t : List AVal
  b : List Blk
  deriving Inhabited

/-- What is handed to a callee of the caller's own blocks: an array, or a variable's cells. -/
structure PB where
  arr : Bool
  sz : Nat
  xs : List CVal
  deriving Inhabited

/-- A branch. -/
def br {R : Type} (b : Bool) (x y : Option R) : Option R :=
  match b with
  | true => x
  | false => y

abbrev CallT := FuncId → List AVal → List PB → Option (CVal × List (List CVal))

/-! ### Closed values looked at -/
def CVal.asInt (k : IntKind) : CVal → Option Int
  | .int k' n => if k' = k then some n else none
  | _ => none
def CVal.asIdx : CVal → Option Int
  | .int _ n => some n
  | _ => none
def CVal.asBool : CVal → Option Bool
  | .bool b => some b
  | _ => none
def CVal.asStr : CVal → Option (List UInt8)
  | .str s => some s
  | _ => none
def CVal.asSl : CVal → Option (List CVal)
  | .sl xs => some xs
  | _ => none
def CVal.asFp : CVal → Option (CVal × Nat)
  | .fp c o => some (c, o)
  | _ => none
def CVal.asAgg : CVal → Option (List CVal)
  | .agg cs => some cs
  | _ => none
def CVal.asTup : CVal → Option (List CVal)
  | .tup cs => some cs
  | _ => none
def CVal.cells : CVal → List CVal
  | .agg cs => cs
  | c => [c]
def CVal.cell (c : CVal) (off : Nat) : Option CVal := c.cells[off]?
def CVal.isAgg : CVal → Bool
  | .agg _ => true
  | _ => false
def CVal.isAggN (n : Nat) : CVal → Bool
  | .agg cs => cs.length == n
  | _ => false
def CVal.isFlat : CVal → Bool
  | .agg _ => false
  | .tup _ => false
  | _ => true
/-- Whether a value is one of a type of n cells. -/
def CVal.fits (agg : Bool) (n : Nat) (c : CVal) : Bool := cond agg (c.isAggN n) (c.isFlat && n == 1)
def CVal.sub (c : CVal) (off sz : Nat) : Option CVal :=
  br (decide (off = 0) && c.isAggN sz) (some c)
    (br (decide (off + sz ≤ c.cells.length)) (some (.agg ((c.cells.drop off).take sz))) none)

def allV : List AVal → Option (List CVal)
  | [] => some []
  | .v c :: r => (allV r).bind fun cs => some (c :: cs)
  | _ :: _ => none

def mkAgg (cs : List AVal) : AVal :=
  match allV cs with
  | some xs => .v (.agg xs)
  | none => .agg cs

/-! ### Closing: what is owned becomes data -/
def arrOf (b : List Blk) (i ver : Nat) : Option (List CVal) :=
  match b[i]? with
  | some ⟨ver', .arr _ xs⟩ => br (ver' == ver) (some xs) none
  | _ => none
def szOf (b : List Blk) (i : Nat) : Nat :=
  match b[i]? with
  | some ⟨_, .arr sz _⟩ => sz
  | _ => 0
def boxOf (b : List Blk) (i : Nat) : Option (List AVal) :=
  match b[i]? with
  | some ⟨_, .box cs⟩ => some cs
  | _ => none
def verOf (b : List Blk) (i : Nat) : Nat :=
  match b[i]? with
  | some ⟨ver, _⟩ => ver
  | none => 0

mutual
def closeA (b : List Blk) : AVal → Option CVal
  | .v c => some c
  | .nl => some (.sl [])
  | .lref i ver => (arrOf b i ver).bind fun xs => some (.sl xs)
  | .agg cs => (closeL b cs).bind fun xs => some (.agg xs)
  | .func f cs => (closeL b cs).bind fun xs => some (.func f xs)
  | .tup cs => (closeL b cs).bind fun xs => some (.tup xs)
  | _ => none
def closeL (b : List Blk) : List AVal → Option (List CVal)
  | [] => some []
  | x :: r => (closeA b x).bind fun c => (closeL b r).bind fun cs => some (c :: cs)
end

/-- A variable's cells as one closed value, for a pointer to it. -/
def packFp (agg : Bool) (xs : List CVal) : CVal := cond agg (.fp (.agg xs) 0) (.fp (xs.headD .nilp) 0)

def kill (b : List Blk) (i : Nat) : List Blk :=
  match b[i]? with
  | some ⟨ver, _⟩ => b.set i ⟨ver + 1, .dead⟩
  | none => b

-- What is closed is written no more.
mutual
def killA : AVal → List Blk → List Blk
  | .lref i _, b => kill b i
  | .agg cs, b => killL cs b
  | .func _ cs, b => killL cs b
  | .tup cs, b => killL cs b
  | _, b => b
def killL : List AVal → List Blk → List Blk
  | [], b => b
  | x :: r, b => killL r (killA x b)
end

/-! ### Values of the model as abstract ones -/
def ofCell : Value → Option AVal
  | .bool b => some (.v (.bool b))
  | .int k n => some (.v (.int k n))
  | .string s => some (.v (.str s.data.toList))
  | .pointer none => some (.v .nilp)
  | .slice none 0 0 => some .nl
  | .nilFunc => some (.v .nilf)
  | .nilIface => some (.v .nili)
  | _ => none

def ofCells : List Value → Option (List AVal)
  | [] => some []
  | x :: r => (ofCell x).bind fun a => (ofCells r).bind fun l => some (a :: l)

def ofVal : Value → Option AVal
  | .agg cs => (ofCells cs.toList).bind fun l => some (mkAgg l)
  | x => ofCell x

def evalA (t : List AVal) : Operand → AVal
  | .tmp i => t.getD i .un
  | .const c => (ofVal c).getD .un
  | .func f => .v (.func f [])
  | .global _ => .un

def putA (t : List AVal) (d : Option Nat) (x : AVal) : List AVal :=
  match d with
  | some i => t.set i x
  | none => t

/-! ### The program's types -/
def kindT (P : Program) (t : TypeId) : Option IntKind :=
  match P.underlying t with
  | some (.int k) => some k
  | _ => none
def aggT (P : Program) (t : TypeId) : Bool :=
  match P.underlying t with
  | some (.struct _) => true
  | some (.array _ _) => true
  | _ => false
def zeroT (P : Program) (t : TypeId) : Option AVal := ((P.info? t).bind (·.zero)).bind ofVal

/-- Whether slices of a type's elements may be grown. -/
def elemOk (P : Program) (e : TypeId) : Bool :=
  (P.underlying e).isSome && decide (P.bytesOf e ≤ 4096) &&
  match (P.info? e).bind (·.zero) with
  | some z => z.cells.size == P.cellsOf e
  | none => false
def isSliceT (P : Program) (t : TypeId) : Bool :=
  match P.underlying t with
  | some (.slice _) => true
  | _ => false

/-- The most that a slice of the abstract machine holds. -/
def lim : Nat := 4294967296

/-! ### Operations, in the style of continuations -/
section
variable {R : Type}
def wInt (k : IntKind) (x : AVal) (K : Int → Option R) : Option R :=
  match x with
  | .v c => (c.asInt k).bind K
  | _ => none
def wIdx (x : AVal) (K : Int → Option R) : Option R :=
  match x with
  | .v c => c.asIdx.bind K
  | _ => none
def wBool (x : AVal) (K : Bool → Option R) : Option R :=
  match x with
  | .v c => c.asBool.bind K
  | _ => none
def wStr (x : AVal) (K : List UInt8 → Option R) : Option R :=
  match x with
  | .v c => c.asStr.bind K
  | _ => none
/-- A slice's elements, whoever owns them. -/
def wSl (b : List Blk) (x : AVal) (K : List CVal → Option R) : Option R :=
  match x with
  | .v c => c.asSl.bind K
  | .nl => K []
  | .lref i ver => (arrOf b i ver).bind K
  | _ => none

/-- The cells from i on of a closed value, n of them. -/
def explodeC (c : CVal) : (i n : Nat) → (K : List CVal → Option R) → Option R
  | _, 0, K => K []
  | i, n + 1, K => (c.cell i).bind fun x => explodeC c (i + 1) n fun xs => K (x :: xs)
def explodeL (l : List CVal) : (i n : Nat) → (K : List CVal → Option R) → Option R
  | _, 0, K => K []
  | i, n + 1, K => (l[i]?).bind fun x => explodeL l (i + 1) n fun xs => K (x :: xs)

/-- The cells of a value of a type that has n. -/
def wCells (agg : Bool) (n : Nat) (x : AVal) (K : List AVal → Option R) : Option R :=
  br agg
    (match x with
     | .agg cs => br (cs.length == n) (K cs) none
     | .v c => br (c.isAggN n) (explodeC c 0 n fun xs => K (xs.map .v)) none
     | _ => none)
    (match x with
     | .agg _ => none
     | .tup _ => none
     | .un => none
     | .v c => br (c.isFlat && n == 1) (K [.v c]) none
     | x => br (n == 1) (K [x]) none)

/-- A new block at the place that is kept for it. -/
def putNew (b : List Blk) (q : Nat) (x : Blk) : List Blk := cond (decide (q < b.length)) (b.set q x) (b ++ [x])

def splice {α : Type} (l : List α) (off : Nat) (m : List α) : List α := l.take off ++ m ++ l.drop (off + m.length)

def loadK (P : Program) (t : TypeId) (b : List Blk) (x : AVal) (K : AVal → Option R) : Option R :=
  match P.underlying t with
  | none => none
  | some _ =>
  match x with
  | .lptr i off => (boxOf b i).bind fun cs =>
      br (aggT P t)
        (br (decide (off + P.cellsOf t ≤ cs.length)) (K (mkAgg ((cs.drop off).take (P.cellsOf t)))) none)
        ((cs[off]?).bind K)
  | .lel i ver idx off => (arrOf b i ver).bind fun xs => (xs[idx]?).bind fun c =>
      br (aggT P t) ((c.sub off (P.cellsOf t)).bind fun d => K (.v d)) ((c.cell off).bind fun d => K (.v d))
  | .v p => p.asFp.bind fun q =>
      br (aggT P t) ((q.1.sub q.2 (P.cellsOf t)).bind fun d => K (.v d)) ((q.1.cell q.2).bind fun d => K (.v d))
  | _ => none

def storeK (P : Program) (t : TypeId) (b : List Blk) (x y : AVal) (K : List Blk → Option R) : Option R :=
  match P.underlying t with
  | none => none
  | some _ =>
  match x with
  | .lptr i off => (boxOf b i).bind fun cs => wCells (aggT P t) (P.cellsOf t) y fun l =>
      br (decide (off + l.length ≤ cs.length)) (K (b.set i ⟨verOf b i, .box (splice cs off l)⟩)) none
  | .lel i ver idx off => (closeA b y).bind fun d =>
      (arrOf (killA y b) i ver).bind fun xs => (xs[idx]?).bind fun c =>
        br (d.fits (aggT P t) (P.cellsOf t))
          (br (decide (off = 0) && c.fits (aggT P t) (P.cellsOf t))
            (K ((killA y b).set i ⟨ver, .arr (szOf (killA y b) i) (xs.set idx d)⟩))
            (br (c.isAgg && decide (off + d.cells.length ≤ c.cells.length))
              (K ((killA y b).set i ⟨ver, .arr (szOf (killA y b) i) (xs.set idx (.agg (splice c.cells off d.cells)))⟩)) none)) none
  | _ => none

def fieldK (P : Program) (t : TypeId) (x : AVal) (f : Nat) (K : AVal → Option R) : Option R :=
  match P.underlying t with
  | some (.struct fs) =>
    match fs[f]? with
    | some fd =>
      br (decide (P.cellsOf fd.type = 0)) none
        (match x with
         | .lptr i off => K (.lptr i (off + fd.offset))
         | .lel i ver idx off => K (.lel i ver idx (off + fd.offset))
         | .v p => p.asFp.bind fun q => K (.v (.fp q.1 (q.2 + fd.offset)))
         | _ => none)
    | none => none
  | _ => none

def indexAddrK (P : Program) (t : TypeId) (b : List Blk) (x ix : AVal) (K : AVal → Option R) : Option R :=
  match P.underlying t with
  | some (.slice e) => wIdx ix fun n => br (decide (0 ≤ n) && (P.underlying e).isSome)
      (match x with
       | .lref i ver => (arrOf b i ver).bind fun xs => br (decide (n.toNat < xs.length) && szOf b i == P.cellsOf e) (K (.lel i ver n.toNat 0)) none
       | .v c => c.asSl.bind fun xs => (xs[n.toNat]?).bind fun d => br (d.fits (aggT P e) (P.cellsOf e)) (K (.v (.fp d 0))) none
       | _ => none) none
  | some (.array len e) => wIdx ix fun n => br (decide (0 ≤ n) && decide (n < len) && (P.underlying e).isSome)
      (match x with
       | .lptr i off => K (.lptr i (off + n.toNat * P.cellsOf e))
       | .lel i ver idx off => K (.lel i ver idx (off + n.toNat * P.cellsOf e))
       | .v p => p.asFp.bind fun q => K (.v (.fp q.1 (q.2 + n.toNat * P.cellsOf e)))
       | _ => none) none
  | _ => none

def indexK (P : Program) (t : TypeId) (x ix : AVal) (K : AVal → Option R) : Option R :=
  match P.underlying t with
  | some .string => wIdx ix fun n => wStr x fun s => br (decide (0 ≤ n)) ((s[n.toNat]?).bind fun c => K (.v (.int .u8 c.toNat))) none
  | some (.array len e) => wIdx ix fun n => br (decide (0 ≤ n) && decide (n < len) && !(aggT P e) && decide (P.cellsOf e = 1) && (P.underlying e).isSome)
      (match x with
       | .v c => br c.isAgg ((c.cell n.toNat).bind fun d => K (.v d)) none
       | _ => none) none
  | _ => none

def wOpt (x : Option AVal) (d : Int) (K : Int → Option R) : Option R :=
  match x with
  | some a => wIdx a K
  | none => K d

def sliceK (P : Program) (t : TypeId) (b : List Blk) (x : AVal) (lo hi mx : Option AVal) (K : AVal → List Blk → Option R) : Option R :=
  match mx with
  | some _ => none
  | none =>
    match P.underlying t with
    | some .string => wStr x fun s => wOpt hi s.length fun h => wOpt lo 0 fun l =>
        br (decide (0 ≤ l) && decide (l ≤ h) && decide (h ≤ s.length)) (K (.v (.str ((s.take h.toNat).drop l.toNat))) b) none
    | some (.slice e) => br (P.underlying e).isSome
      (match x with
      | .v c => c.asSl.bind fun xs => wOpt hi xs.length fun h => wOpt lo 0 fun l =>
          br (decide (0 ≤ l) && decide (l ≤ h) && decide (h ≤ xs.length) && xs.all (CVal.fits (aggT P e) (P.cellsOf e))) (K (.v (.sl ((xs.take h.toNat).drop l.toNat))) b) none
      | .nl => wOpt hi 0 fun h => wOpt lo 0 fun l => br (decide (l = 0) && decide (h = 0)) (K .nl b) none
      | .lref i ver => (arrOf b i ver).bind fun xs =>
          match lo with
          | none => wOpt hi xs.length fun h => br (decide (0 ≤ h) && decide (h ≤ xs.length))
              (K (.lref i (ver + 1)) (b.set i ⟨ver + 1, .arr (szOf b i) (xs.take h.toNat)⟩)) none
          | some _ => none
      | _ => none) none
    | _ => none

def appendK (P : Program) (q : Nat) (b : List Blk) (ty ty2 : TypeId) (s x : AVal) (K : AVal → List Blk → Option R) : Option R :=
  match P.underlying ty with
  | some (.slice e) => br (elemOk P e && isSliceT P ty2)
    (match s with
    | .nl => wSl b x fun ys => br (decide (ys.length ≤ lim) && ys.all (CVal.fits (aggT P e) (P.cellsOf e)))
        (K (.lref q 0) (putNew b q ⟨0, .arr (P.cellsOf e) ys⟩)) none
    | .lref i ver => (arrOf b i ver).bind fun xs => wSl b x fun ys =>
        br (decide (xs.length + ys.length ≤ lim) && szOf b i == P.cellsOf e && ys.all (CVal.fits (aggT P e) (P.cellsOf e)))
          (K (.lref i (ver + 1)) (b.set i ⟨ver + 1, .arr (P.cellsOf e) (xs ++ ys)⟩)) none
    | _ => none) none
  | _ => none

/-- The parts of a literal, in their order, none left out. -/
def partsInOrder : (i : Nat) → List (Nat × AVal) → Option (List AVal)
  | _, [] => some []
  | i, (j, x) :: r => br (i == j) ((partsInOrder (i + 1) r).bind fun l => some (x :: l)) none

def buildSliceK (P : Program) (q : Nat) (t : TypeId) (len : Nat) (parts : List (Nat × AVal)) (b : List Blk) (K : AVal → List Blk → Option R) : Option R :=
  match P.underlying t with
  | some (.slice e) =>
    (partsInOrder 0 parts).bind fun l => br (l.length == len && decide (len * P.cellsOf e ≤ 16777216) && elemOk P e && decide (P.cellsOf e ≠ 0))
      (match len with
       | 0 => K .nl b
       | _ => (closeL b l).bind fun cs =>
          br (cs.all (CVal.fits (aggT P e) (P.cellsOf e)))
            (K (.lref q 0) (putNew (killL l b) q ⟨0, .arr (P.cellsOf e) cs⟩)) none) none
  | _ => none

def fillK (P : Program) (fs : Array Field) : List (Nat × AVal) → List AVal → (List AVal → Option R) → Option R
  | [], cs, K => K cs
  | (i, x) :: r, cs, K =>
    match fs[i]? with
    | some f => wCells (aggT P f.type) (P.cellsOf f.type) x fun l =>
        br (decide (f.offset + l.length ≤ cs.length)) (fillK P fs r (splice cs f.offset l) K) none
    | none => none
def fillArrK (agg : Bool) (sz : Nat) : List (Nat × AVal) → List AVal → (List AVal → Option R) → Option R
  | [], cs, K => K cs
  | (i, x) :: r, cs, K => wCells agg sz x fun l =>
      br (decide (i * sz + l.length ≤ cs.length)) (fillArrK agg sz r (splice cs (i * sz) l) K) none

def buildK (P : Program) (t : TypeId) (parts : List (Nat × AVal)) (K : AVal → Option R) : Option R :=
  (zeroT P t).bind fun z => wCells true (P.cellsOf t) z fun cs =>
    match P.underlying t with
    | some (.struct fs) => br (fs.toList.all fun f => (P.underlying f.type).isSome) (fillK P fs parts cs fun l => K (mkAgg l)) none
    | some (.array _ e) => br (P.underlying e).isSome (fillArrK (aggT P e) (P.cellsOf e) parts cs fun l => K (mkAgg l)) none
    | _ => none

def makeSliceK (P : Program) (q : Nat) (t : TypeId) (len cap : AVal) (b : List Blk) (K : AVal → List Blk → Option R) : Option R :=
  match P.underlying t with
  | some (.slice e) => wIdx len fun n => wIdx cap fun m =>
      br (elemOk P e && decide (P.cellsOf e ≠ 0) && decide (0 ≤ n) && decide (n = m) && decide (n ≤ 1048576))
        ((zeroT P e).bind fun z => (closeA b z).bind fun c => br (c.fits (aggT P e) (P.cellsOf e)) (K (.lref q 0) (putNew (killA z b) q ⟨0, .arr (P.cellsOf e) (List.replicate n.toNat c)⟩)) none) none
  | _ => none

def bytesC (s : List UInt8) : List CVal := s.map fun c => .int .u8 c.toNat
def bytesOfC : List CVal → Option (List UInt8)
  | [] => some []
  | c :: r => (c.asInt .u8).bind fun n => (bytesOfC r).bind fun l => some (UInt8.ofNat n.toNat :: l)

def convertK (P : Program) (q : Nat) (src dst : TypeId) (x : AVal) (b : List Blk) (K : AVal → List Blk → Option R) : Option R :=
  match P.underlying src, P.underlying dst with
  | some (.int k), some (.int k') => wInt k x fun n => K (.v (.int k' (k'.wrap n))) b
  | some .string, some .string => wStr x fun s => K (.v (.str s)) b
  | some (.slice e), some .string =>
    match P.underlying e with
    | some (.int .u8) => wSl b x fun xs => (bytesOfC xs).bind fun s => K (.v (.str s)) b
    | _ => none
  | some .string, some (.slice e) =>
    match P.underlying e with
    | some (.int .u8) => wStr x fun s => br (decide (s.length ≤ lim)) (K (.v (.sl (bytesC s))) b) none
    | _ => none
  | _, _ => none

/-- Bits. -/
def bAnd (k : IntKind) (a b : Int) : Int := k.wrap (BitVec.ofInt k.bits a &&& BitVec.ofInt k.bits b).toNat
def bOr (k : IntKind) (a b : Int) : Int := k.wrap (BitVec.ofInt k.bits a ||| BitVec.ofInt k.bits b).toNat
def bXor (k : IntKind) (a b : Int) : Int := k.wrap (BitVec.ofInt k.bits a ^^^ BitVec.ofInt k.bits b).toNat
def bAndNot (k : IntKind) (a b : Int) : Int := k.wrap (BitVec.ofInt k.bits a &&& ~~~BitVec.ofInt k.bits b).toNat
def intOp (op : BinOp) (k : IntKind) (a b : Int) : Option CVal :=
  match op with
  | .add => some (.int k (k.wrap (a + b)))
  | .sub => some (.int k (k.wrap (a - b)))
  | .mul => some (.int k (k.wrap (a * b)))
  | .quo => br (decide (b = 0)) none (some (.int k (k.wrap (a.tdiv b))))
  | .rem => br (decide (b = 0)) none (some (.int k (a.tmod b)))
  | .and => some (.int k (bAnd k a b))
  | .or => some (.int k (bOr k a b))
  | .xor => some (.int k (bXor k a b))
  | .andNot => some (.int k (bAndNot k a b))
  | .eql => some (.bool (decide (a = b)))
  | .neq => some (.bool (!decide (a = b)))
  | .lss => some (.bool (decide (a < b)))
  | .leq => some (.bool (decide (a ≤ b)))
  | .gtr => some (.bool (decide (b < a)))
  | .geq => some (.bool (decide (b ≤ a)))
  | _ => none

def shiftOp (op : BinOp) (k : IntKind) (a b : Int) : Option CVal :=
  br (decide (b < 0)) none
    (match op with
     | .shl => some (.int k (k.wrap (a * 2 ^ min b.toNat k.bits)))
     | .shr => some (.int k (a.fdiv (2 ^ min b.toNat k.bits)))
     | _ => none)

def isShift : BinOp → Bool
  | .shl => true
  | .shr => true
  | _ => false

def bytesLt : List UInt8 → List UInt8 → Bool
  | _, [] => false
  | [], _ :: _ => true
  | a :: x, b :: y => decide (a < b) || (decide (a = b) && bytesLt x y)

/-- Whether two cells of a type hold the same. -/
def eqCellT (P : Program) (t : TypeId) (x y : CVal) : Option Bool :=
  match P.underlying t with
  | some .bool => x.asBool.bind fun a => y.asBool.bind fun b => some (a == b)
  | some (.int k) => (x.asInt k).bind fun a => (y.asInt k).bind fun b => some (decide (a = b))
  | some .string => x.asStr.bind fun a => y.asStr.bind fun b => some (decide (a = b))
  | _ => none
/-- Whether the fields hold the same. -/
def eqFields (P : Program) : List Field → List CVal → List CVal → Option Bool
  | [], _, _ => some true
  | f :: r, a, b => br (f.name != "_") ((a[f.offset]?).bind fun x => (b[f.offset]?).bind fun y => (eqCellT P f.type x y).bind fun e => (eqFields P r a b).bind fun z => some (e && z)) none
def wAgg {R : Type} (x : AVal) (K : List CVal → Option R) : Option R :=
  match x with
  | .v c => c.asAgg.bind K
  | _ => none

def binK (P : Program) (op : BinOp) (xt : TypeId) (x y : AVal) (yt : TypeId) (K : AVal → Option R) : Option R :=
  match P.underlying xt with
  | some (.int k) => br (isShift op)
      (wInt k x fun a => wIdx y fun b => (shiftOp op k a b).bind fun c => K (.v c))
      (wInt k x fun a => wInt k y fun b => (intOp op k a b).bind fun c => K (.v c))
  | some .string => wStr x fun a => wStr y fun b =>
      match op with
      | .add => br (decide (a.length + b.length ≤ 1152921504606846976)) (K (.v (.str (a ++ b)))) none
      | .eql => K (.v (.bool (decide (a = b))))
      | .neq => K (.v (.bool (!decide (a = b))))
      | .lss => K (.v (.bool (bytesLt a b)))
      | _ => none
  | some .bool => wBool x fun a => wBool y fun b =>
      match op with
      | .eql => K (.v (.bool (a == b)))
      | .neq => K (.v (.bool (!(a == b))))
      | _ => none
  | some (.struct fs) => br (P.stoodInHeld xt || P.eqGuardType P.depth xt) none
      (wAgg x fun a => wAgg y fun b => (eqFields P fs.toList a b).bind fun z =>
        match op with
        | .eql => K (.v (.bool z))
        | .neq => K (.v (.bool (!z)))
        | _ => none)
  | _ => none

/-- Comparing errors with nil: of closed values. -/
def eqK (P : Program) (op : BinOp) (xt : TypeId) (x y : AVal) (K : AVal → Option R) : Option R :=
  match P.underlying xt with
  | some (.interface _) =>
    match x, y with
    | .v .nili, .v .nili => (match op with | .eql => K (.v (.bool true)) | .neq => K (.v (.bool false)) | _ => none)
    | .v (.iface _ _), .v .nili => (match op with | .eql => K (.v (.bool false)) | .neq => K (.v (.bool true)) | _ => none)
    | _, _ => none
  | _ => none

def unK (P : Program) (op : UnOp) (xt : TypeId) (x : AVal) (K : AVal → Option R) : Option R :=
  match op with
  | .not => wBool x fun b => K (.v (.bool (!b)))
  | .neg => (kindT P xt).bind fun k => wInt k x fun n => K (.v (.int k (k.wrap (0 - n))))
  | _ => none

def lenK (P : Program) (t : TypeId) (b : List Blk) (x : AVal) (K : AVal → Option R) : Option R :=
  match P.underlying t with
  | some .string => wStr x fun s => K (.v (.int .i64 s.length))
  | some (.slice _) => wSl b x fun xs => K (.v (.int .i64 xs.length))
  | some (.array n _) => K (.v (.int .i64 n))
  | _ => none

/-- One value that a function hands back, closed. -/
def closeRK (b : List Blk) (agg : Bool) (x : AVal) (K : CVal → List Blk → Option R) : Option R :=
  match x with
  | .lptr i 0 => (boxOf b i).bind fun cs => (closeL b cs).bind fun xs => br (agg || decide (cs.length = 1)) (K (packFp agg xs) (kill (killL cs b) i)) none
  | x => (closeA b x).bind fun c => K c (killA x b)

/-- Captured values, closed. -/
def closeCapsK : List Blk → List Bool → List AVal → (List CVal → List Blk → Option R) → Option R
  | b, _, [], K => K [] b
  | b, ag :: ags, x :: r, K => closeRK b ag x fun c b => closeCapsK b ags r fun cs b => K (c :: cs) b
  | _, [], _ :: _, _ => none

/-! ### Calls -/
inductive PM where
  | cls | pass | bor
  deriving DecidableEq, Inhabited

/-- What the caller hands over so far: the callee's arguments, and which of the caller's blocks they name. -/
structure Hand where
  args : List AVal
  ids : List Nat
  b : List Blk

def idxOf (ids : List Nat) (i : Nat) : Option Nat :=
  match ids with
  | [] => none
  | j :: r => br (j == i) (some 0) ((idxOf r i).map (· + 1))

def handPtr (h : Hand) (i : Nat) (K : AVal → Hand → Option R) : Option R :=
  match idxOf h.ids i with
  | some j => K (.lptr j 0) h
  | none => K (.lptr h.ids.length 0) ⟨h.args, h.ids ++ [i], h.b⟩

def handCaps : List AVal → Hand → (List AVal → Hand → Option R) → Option R
  | [], h, K => K [] h
  | .v c :: r, h, K => handCaps r h fun l h => K (.v c :: l) h
  | .lptr i 0 :: r, h, K => handPtr h i fun a h => handCaps r h fun l h => K (a :: l) h
  | _ :: _, _, _ => none

def handA (m : PM) (x : AVal) (h : Hand) (K : AVal → Hand → Option R) : Option R :=
  match x with
  | .v c => K (.v c) h
  | .nl => K (.v (.sl [])) h
  | .lref i ver => (arrOf h.b i ver).bind fun xs =>
    match m with
    | .pass =>
      match idxOf h.ids i with
      | some _ => none
      | none => K (.lref h.ids.length 0) ⟨h.args, h.ids ++ [i], h.b⟩
    | .bor => K (.v (.sl xs)) h
    | .cls => K (.v (.sl xs)) ⟨h.args, h.ids, kill h.b i⟩
  | .lptr i 0 => handPtr h i K
  | .func g caps => handCaps caps h fun l h => K (.func g l) h
  | .agg cs => (closeL h.b cs).bind fun l => K (.v (.agg l)) ⟨h.args, h.ids, killL cs h.b⟩
  | _ => none

def handAll (pm : Nat → PM) : Nat → List AVal → Hand → (Hand → Option R) → Option R
  | _, [], h, K => K h
  | j, x :: r, h, K => handA (pm j) x h fun a h => handAll pm (j + 1) r ⟨h.args ++ [a], h.ids, h.b⟩ K

/-- The contents of what is handed over. -/
def handBlks : List Nat → List Blk → (List PB → List Blk → Option R) → Option R
  | [], b, K => K [] b
  | i :: r, b, K =>
    match b[i]? with
    | some ⟨_, .arr sz xs⟩ => handBlks r b fun l b => K (⟨true, sz, xs⟩ :: l) b
    | some ⟨_, .box cs⟩ => (closeL b cs).bind fun xs => handBlks r (killL cs b) fun l b => K (⟨false, 0, xs⟩ :: l) b
    | _ => none

def aliveAt (b : List Blk) (i : Nat) : Bool :=
  match b[i]? with
  | some ⟨_, .arr _ _⟩ => true
  | some ⟨_, .box _⟩ => true
  | _ => false

/-- What the callee left is laid back. -/
def backBlks : List Nat → List (List CVal) → Nat → List Blk → (List Blk → Option R) → Option R
  | [], _, _, b, K => K b
  | i :: r, ls, j, b, K => (ls[j]?).bind fun l =>
    match b[i]? with
    | some ⟨ver, .arr sz _⟩ => backBlks r ls (j + 1) (b.set i ⟨ver + 1, .arr sz l⟩) K
    | some ⟨ver, .box cs⟩ => br (l.length == cs.length) (explodeL l 0 cs.length fun xs => backBlks r ls (j + 1) (b.set i ⟨ver, .box (xs.map .v)⟩) K) none
    | _ => none

def scalar : CVal → Bool
  | .int _ _ => true
  | .bool _ => true
  | .str _ => true
  | _ => false

structure Env where
  P : Program
  /-- how a function's arguments are handed over -/
  pm : FuncId → Nat → PM
  /-- which of what was handed over the function hands back -/
  rm : FuncId → Option Nat
  /-- functions whose captured variables are written no more: what they are (structs and arrays: true) -/
  frz : FuncId → Option (List Bool)
  /-- variables that are written no more: what they are (structs and arrays: true) -/
  frzB : Oper → Option Bool
  /-- functions that are not entered: what they come to is known by a law of their own -/
  ext : FuncId → Option (List AVal → List PB → Option (CVal × List (List CVal)))
  /-- functions that are known by a law of their own -/
  prim : FuncId → Option (List AVal → List PB → Option (CVal × List (List CVal)))

def borrows (E : Env) (g : FuncId) : Nat → List AVal → Bool
  | _, [] => false
  | j, x :: r => (decide (E.pm g j = .bor) && (match x with | .lref _ _ => true | _ => false)) || borrows E g (j + 1) r

/-- The size of an element of a function's parameter. -/
def szParam (P : Program) (g : FuncId) (j : Nat) : Nat :=
  match ((P.funcs[g]?).bind fun fn => fn.params[j]?).bind P.underlying with
  | some (.slice e) => P.cellsOf e
  | _ => 0

/-- An empty slice that is handed over is an array of the caller's own, one at most. -/
def promo (E : Env) (g : FuncId) (q : Nat) : Bool → Nat → List AVal → List Blk → (List AVal → List Blk → Option R) → Option R
  | _, _, [], b, K => K [] b
  | used, j, .nl :: r, b, K =>
    br (decide (E.pm g j = .pass))
      (br used none (promo E g q true (j + 1) r (putNew b q ⟨0, .arr (szParam E.P g j) []⟩) fun l b => K (.lref q 0 :: l) b))
      (promo E g q used (j + 1) r b fun l b => K (.nl :: l) b)
  | used, j, x :: r, b, K => promo E g q used (j + 1) r b fun l b => K (x :: l) b

/-- The number by which function values that are data are called. -/
def apId : FuncId := 1000000007

def callK (E : Env) (C : CallT) (q : Nat) (g : FuncId) (args : List AVal) (b : List Blk) (K : AVal → List Blk → Option R) : Option R :=
  br (g == apId) none <| promo E g q false 0 args b fun args1 b1 =>
    handAll (E.pm g) 0 args1 ⟨[], [], b1⟩ fun h => handBlks h.ids h.b fun pbs b3 =>
      br (h.ids.all (aliveAt b3))
        ((match E.prim g with | some p => p h.args pbs | none => C g h.args pbs).bind fun r =>
          br (borrows E g 0 args1 && (!scalar r.1 || !h.ids.isEmpty)) none
            (backBlks h.ids r.2 0 b3 fun b4 =>
              match E.rm g with
              | none => K (.v r.1) b4
              | some j =>
                match h.ids[j]? with
                | some i => K (.lref i (verOf b4 i)) b4
                | none => none)) none

/-- A function value that is data, called on data. -/
def apF {R : Type} (C : CallT) (c : CVal) (cs : List CVal) (K : CVal → Option R) : Option R := (C apId (.v c :: cs.map .v) []).bind fun r => K r.1
/-- A function value that is data, called. -/
def callV (E : Env) (C : CallT) (q : Nat) (c : CVal) (args : List AVal) (b : List Blk) (K : AVal → List Blk → Option R) : Option R :=
  match allV args with
  | some cs => apF C c cs fun r => K (.v r) b
  | none =>
    match c with
    | .func g caps => callK E C q g (args ++ caps.map .v) b K
    | _ => none

def mapParts (t : List AVal) (ps : Array (Nat × Operand)) : List (Nat × AVal) := ps.toList.map fun p => (p.1, evalA t p.2)

def allClosed : List AVal → Option (List CVal) := allV

def opK (E : Env) (C : CallT) (q : Nat) (o : Oper) (t : List AVal) (b : List Blk) (K : AVal → List Blk → Option R) : Option R :=
  match o.op with
  | .move x => K (evalA t x) b
  | .assign x => K (evalA t x) b
  | .pick c x y => wBool (evalA t c) fun g =>
      match evalA t x, evalA t y with
      | .v p, .v r => K (.v (cond g p r)) b
      | p, r => br g (K p b) (K r b)
  | .alloc e => (zeroT E.P e).bind fun z => wCells (aggT E.P e) (E.P.cellsOf e) z fun cs => K (.lptr q 0) (putNew b q ⟨0, .box cs⟩)
  | .box e x => wCells (aggT E.P e) (E.P.cellsOf e) (evalA t x) fun cs =>
      match E.frzB o with
      | some ag => closeRK (putNew b q ⟨0, .box cs⟩) ag (.lptr q 0) fun c b => K (.v c) b
      | none => K (.lptr q 0) (putNew b q ⟨0, .box cs⟩)
  | .build ty ps => buildK E.P ty (mapParts t ps) fun x => K x b
  | .buildSlice ty n ps => buildSliceK E.P q ty n (mapParts t ps) b K
  | .load ty x => loadK E.P ty b (evalA t x) fun v => K v b
  | .store ty x y => storeK E.P ty b (evalA t x) (evalA t y) fun b => K .un b
  | .nilCheck x =>
    match evalA t x with
    | .lptr i off => K (.lptr i off) b
    | .lel i ver idx off => K (.lel i ver idx off) b
    | .v c => c.asFp.bind fun p => K (.v (.fp p.1 p.2)) b
    | _ => none
  | .binOp op xt x y yt =>
    match E.P.underlying xt with
    | some (.interface _) =>
      match y with
      | .const _ => eqK E.P op xt (evalA t x) (evalA t y) fun v => K v b
      | _ => none
    | _ => binK E.P op xt (evalA t x) (evalA t y) yt fun v => K v b
  | .unOp op xt x => unK E.P op xt (evalA t x) fun v => K v b
  | .convert s d x => convertK E.P q s d (evalA t x) b K
  | .makeFunc (.func g) first caps =>
    br (first.size == 0)
      (match E.frz g with
       | some ags => closeCapsK b ags (caps.toList.map (evalA t)) fun cs b => K (.v (.func g cs)) b
       | none =>
         match allClosed (caps.toList.map (evalA t)) with
         | some cs => K (.v (.func g cs)) b
         | none => K (.func g (caps.toList.map (evalA t))) b) none
  | .makeSlice ty n m => makeSliceK E.P q ty (evalA t n) (evalA t m) b K
  | .slice ty x lo hi mx => sliceK E.P ty b (evalA t x) (lo.map (evalA t)) (hi.map (evalA t)) (mx.map (evalA t)) K
  | .fieldAddr ty x f => fieldK E.P ty (evalA t x) f fun v => K v b
  | .indexAddr ty x ix => indexAddrK E.P ty b (evalA t x) (evalA t ix) fun v => K v b
  | .index ty x ix => indexK E.P ty (evalA t x) (evalA t ix) fun v => K v b
  | .extract x i =>
    match evalA t x with
    | .v c => c.asTup.bind fun cs => (cs[i]?).bind fun d => K (.v d) b
    | .tup cs => (cs[i]?).bind fun d => K d b
    | _ => none
  | .call c =>
    match c.callee with
    | .value (.func g) => callK E C q g (c.args.toList.map (evalA t)) b K
    | .value f =>
      match evalA t f with
      | .v d => callV E C q d (c.args.toList.map (evalA t)) b K
      | .func g caps => callK E C q g (c.args.toList.map (evalA t) ++ caps) b K
      | _ => none
    | .builtin .len =>
      match c.args.toList, c.argTypes.toList with
      | [x], ty :: _ => lenK E.P ty b (evalA t x) fun v => K v b
      | _, _ => none
    | .builtin .append =>
      match c.args.toList, c.argTypes.toList with
      | [x, y], [ty, ty2] => appendK E.P q b ty ty2 (evalA t x) (evalA t y) K
      | _, _ => none
    | .builtin .max =>
      match c.args.toList with
      | [x, y] => (kindT E.P o.type).bind fun k => wInt k (evalA t x) fun m => wInt k (evalA t y) fun n => K (.v (.int k (cond (decide (m < n)) n m))) b
      | _ => none
    | .builtin .min =>
      match c.args.toList with
      | [x, y] => (kindT E.P o.type).bind fun k => wInt k (evalA t x) fun m => wInt k (evalA t y) fun n => K (.v (.int k (cond (decide (n < m)) n m))) b
      | _ => none
    | _ => none
  | _ => none
end

def closedV : AVal → Bool
  | .v _ => true
  | .nl => true
  | _ => false

/-- Arguments whose handing over leaves the caller's blocks alone. -/
def pureArgs (E : Env) (g : FuncId) : Nat → List AVal → Bool
  | _, [] => true
  | j, .v _ :: r => pureArgs E g (j + 1) r
  | j, .nl :: r => !decide (E.pm g j = .pass) && pureArgs E g (j + 1) r
  | j, .lref _ _ :: r => decide (E.pm g j = .bor) && pureArgs E g (j + 1) r
  | j, .agg cs :: r => cs.all closedV && pureArgs E g (j + 1) r
  | _, _ => false

def keepsF (E : Env) (f : Fn) : Bool :=
  match f with
  | .func g => (E.frz g).isNone
  | _ => true
def pureV (E : Env) (c : CVal) (args : List AVal) : Bool :=
  match allV args with
  | some _ => true
  | none =>
    match c with
    | .func g caps => pureArgs E g 0 (args ++ caps.map .v)
    | _ => false

/-- Operations that leave the frame's own blocks alone. -/
def roOp (E : Env) (o : Oper) (t : List AVal) : Bool :=
  match o.op with
  | .move _ => true
  | .assign _ => true
  | .pick _ _ _ => true
  | .build _ _ => true
  | .load _ _ => true
  | .nilCheck _ => true
  | .binOp _ _ _ _ _ => true
  | .unOp _ _ _ => true
  | .convert _ _ _ => true
  | .makeFunc f _ _ => keepsF E f
  | .fieldAddr _ _ _ => true
  | .indexAddr _ _ _ => true
  | .index _ _ _ => true
  | .extract _ _ => true
  | .slice _ x _ _ _ => closedV (evalA t x)
  | .call c =>
    match c.callee with
    | .value (.func g) => pureArgs E g 0 (c.args.toList.map (evalA t))
    | .value f =>
      match evalA t f with
      | .v d => pureV E d (c.args.toList.map (evalA t))
      | .func g caps => pureArgs E g 0 (c.args.toList.map (evalA t) ++ caps)
      | _ => false
    | .builtin .len => true
    | .builtin .max => true
    | .builtin .min => true
    | _ => false
  | _ => false

/-- Operations that do not so much as look at the frame's own blocks. -/
def blindArgs (E : Env) (g : FuncId) : Nat → List AVal → Bool
  | _, [] => true
  | j, .v _ :: r => blindArgs E g (j + 1) r
  | j, .nl :: r => !decide (E.pm g j = .pass) && blindArgs E g (j + 1) r
  | j, .agg cs :: r => cs.all closedV && blindArgs E g (j + 1) r
  | _, _ => false

def blindV (E : Env) (c : CVal) (args : List AVal) : Bool :=
  match allV args with
  | some _ => true
  | none =>
    match c with
    | .func g caps => blindArgs E g 0 (args ++ caps.map .v)
    | _ => false

def placeV : AVal → Bool
  | .v _ => true
  | .lptr _ _ => true
  | _ => false

def blindOp (E : Env) (o : Oper) (t : List AVal) : Bool :=
  match o.op with
  | .move _ => true
  | .assign _ => true
  | .pick _ _ _ => true
  | .build _ _ => true
  | .load _ x => (match evalA t x with | .v _ => true | _ => false)
  | .nilCheck _ => true
  | .binOp _ _ _ _ _ => true
  | .unOp _ _ _ => true
  | .convert _ _ x => closedV (evalA t x)
  | .makeFunc f _ _ => keepsF E f
  | .fieldAddr _ _ _ => true
  | .indexAddr _ x _ => placeV (evalA t x)
  | .index _ _ _ => true
  | .extract _ _ => true
  | .slice _ x _ _ _ => closedV (evalA t x)
  | .call c =>
    match c.callee with
    | .value (.func g) => blindArgs E g 0 (c.args.toList.map (evalA t))
    | .value f =>
      match evalA t f with
      | .v d => blindV E d (c.args.toList.map (evalA t))
      | .func g caps => blindArgs E g 0 (c.args.toList.map (evalA t) ++ caps)
      | _ => false
    | .builtin .len =>
      match c.args.toList with
      | [x] => closedV (evalA t x)
      | _ => false
    | .builtin .max => true
    | .builtin .min => true
    | _ => false
  | _ => false

inductive Cls where
  | blind | ro | rw
  deriving DecidableEq, Inhabited
def clsOf (E : Env) (o : Oper) (t : List AVal) : Cls := cond (blindOp E o t) .blind (cond (roOp E o t) .ro .rw)
/-- Whether two operations may change places. -/
def Cls.ok : Cls → Cls → Bool
  | .blind, _ => true
  | _, .blind => true
  | .ro, .ro => true
  | _, _ => false

end Go.Proofs.YtomkegeojknihaaDoor.Abs

/-! The abstract machine, continued: loops, calls and whole functions.  -/
namespace Go.Proofs.YtomkegeojknihaaDoor.Abs
open Go

/-- What is kept of a slot where ways meet. -/
inductive Kd where
  | int (k : IntKind) | bool | str | sl | cv | lp (j : Nat) | lr (j : Nat) | fn (g : Nat)
  deriving DecidableEq, Inhabited
inductive BK where
  | arr (sz : Nat) | box (ks : List Kd)
  deriving DecidableEq, Inhabited
structure LK where
  slots : List (Nat × Kd)
  blks : List BK
  deriving DecidableEq, Inhabited

@[reducible] def Kd.T : Kd → Type
  | .int _ => Int
  | .bool => Bool
  | .str => List UInt8
  | .sl => List CVal
  | .cv => CVal
  | .lp _ => Unit
  | .lr _ => Unit
  | .fn _ => Unit
@[reducible] def KsT : List Kd → Type
  | [] => Unit
  | k :: r => k.T × KsT r
@[reducible] def SsT : List (Nat × Kd) → Type
  | [] => Unit
  | k :: r => k.2.T × SsT r
@[reducible] def BK.T : BK → Type
  | .arr _ => List CVal
  | .box ks => KsT ks
@[reducible] def BsT : List BK → Type
  | [] => Unit
  | k :: r => k.T × BsT r
@[reducible] def LK.T (k : LK) : Type := SsT k.slots × BsT k.blks

abbrev Bind := List (Nat × Option Nat)
def Bind.find (m : Bind) (j : Nat) : Option (Option Nat) :=
  match m with
  | [] => none
  | (j', x) :: r => br (j' == j) (some x) (Bind.find r j)
def Bind.holds (m : Bind) (i : Nat) : Bool :=
  match m with
  | [] => false
  | (_, some i') :: r => (i' == i) || Bind.holds r i
  | (_, none) :: r => Bind.holds r i

section
variable {R : Type}
def packV (b : List Blk) (kd : Kd) (x : AVal) (m : Bind) (K : kd.T → Bind → Option R) : Option R :=
  match kd, K with
  | .int k, K => wInt k x fun n => K n m
  | .bool, K => wBool x fun p => K p m
  | .str, K => wStr x fun s => K s m
  | .sl, K => (match x with | .v c => c.asSl.bind fun s => K s m | .nl => K [] m | _ => none)
  | .cv, K => (match x with | .v c => K c m | _ => none)
  | .fn g, K => (match x with | .v (.func g' []) => br (decide (g' = g)) (K () m) none | _ => none)
  | .lp j, K =>
    (match x with
     | .lptr i 0 =>
       (match m.find j with
        | none => br (m.holds i) none (K () ((j, some i) :: m))
        | some (some i') => br (i' == i) (K () m) none
        | some none => none)
     | _ => none)
  | .lr j, K =>
    (match x with
     | .lref i ver => (arrOf b i ver).bind fun _ =>
       (match m.find j with
        | none => br (m.holds i) none (K () ((j, some i) :: m))
        | some (some i') => br (i' == i) (K () m) none
        | some none => none)
     | .nl =>
       (match m.find j with
        | none => K () ((j, none) :: m)
        | _ => none)
     | _ => none)

def packSlots (t : List AVal) (b : List Blk) : (l : List (Nat × Kd)) → (m : Bind) → (K : SsT l → Bind → Option R) → Option R
  | [], m, K => K () m
  | (i, kd) :: r, m, K => packV b kd (t.getD i .un) m fun x m => packSlots t b r m fun xs m => K (x, xs) m

def packCells (b : List Blk) : (l : List Kd) → (cs : List AVal) → (m : Bind) → (K : KsT l → Bind → Option R) → Option R
  | [], [], m, K => K () m
  | kd :: r, x :: cs, m, K => packV b kd x m fun x m => packCells b r cs m fun xs m => K (x, xs) m
  | _, _, _, _ => none

def packBlks (b : List Blk) : (l : List BK) → (j : Nat) → (m : Bind) → (K : BsT l → Bind → Option R) → Option R
  | [], _, m, K => K () m
  | .arr sz :: r, j, m, K =>
    match m.find j with
    | some (some i) => (arrOf b i (verOf b i)).bind fun xs => br (szOf b i == sz) (packBlks b r (j + 1) m fun ys m => K (xs, ys) m) none
    | some none => packBlks b r (j + 1) m fun ys m => K ([], ys) m
    | none => none
  | .box ks :: r, j, m, K =>
    match m.find j with
    | some (some i) => (boxOf b i).bind fun cs => packCells b ks cs m fun x m => packBlks b r (j + 1) m fun ys m => K (x, ys) m
    | _ => none

/-- The blocks that were handed in keep their places. -/
def bind0 (np : Nat) : Bind := (List.range np).map fun j => (j, some j)
def packK (np : Nat) (ks : LK) (s : St) (K : ks.T → Option R) : Option R :=
  br (decide (np ≤ ks.blks.length))
    (packSlots s.t s.b ks.slots (bind0 np) fun x m => packBlks s.b ks.blks 0 m fun y m => br (m.all fun p => decide (p.1 < ks.blks.length)) (K (x, y)) none) none
end

def unV : (kd : Kd) → kd.T → AVal
  | .int k, n => .v (.int k n)
  | .bool, p => .v (.bool p)
  | .str, s => .v (.str s)
  | .sl, s => .v (.sl s)
  | .cv, c => .v c
  | .lp j, _ => .lptr j 0
  | .lr j, _ => .lref j 0
  | .fn g, _ => .v (.func g [])
def unSlots : (l : List (Nat × Kd)) → SsT l → List AVal → List AVal
  | [], _, t => t
  | (i, kd) :: r, x, t => unSlots r x.2 (t.set i (unV kd x.1))
def unCells : (l : List Kd) → KsT l → List AVal
  | [], _ => []
  | kd :: r, x => unV kd x.1 :: unCells r x.2
def unBlks : (l : List BK) → BsT l → List Blk
  | [], _ => []
  | .arr sz :: r, x => ⟨0, .arr sz x.1⟩ :: unBlks r x.2
  | .box ks :: r, x => ⟨0, .box (unCells ks x.1)⟩ :: unBlks r x.2
def unpack (nt : Nat) (ks : LK) (p : ks.T) : St := ⟨unSlots ks.slots p.1 (List.replicate nt .un), unBlks ks.blks p.2⟩

abbrev Ret := CVal × List (List CVal)
inductive LO (A : Type) where
  | ret (r : Ret)
  | out (j : Nat) (p : A)
/-- function, block, body, the blocks handed in (an array's element size), what is kept -/
abbrev LoopT := FuncId → Nat → Code → List (Option Nat) → (ks : LK) → ks.T → Option (LO ks.T)

/-- What follows a loop. -/
def loK {A R : Type} (o : LO A) (kr : Ret → Option R) (k : Nat → A → Option R) : Option R :=
  match o with
  | .ret r => kr r
  | .out j p => k j p

/-- A loop's body, by the number of the block that it stands in. -/
def findLoop : Code → Nat → Nat → Option Code
  | .seq a b, bid, n => (findLoop a bid n).or (findLoop b bid n)
  | .cond _ a b, bid, n => (findLoop a bid n).or (findLoop b bid n)
  | .block id c, _, n => findLoop c id n
  | .loop c, bid, n => cond (bid == n) (some c) (findLoop c bid n)
  | _, _, _ => none
def loopCode (P : Program) (f : FuncId) (n : Nat) : Code :=
  (((P.funcs[f]?).bind (·.body)).bind fun c => findLoop c 0 n).getD .skip

inductive X where
  | N | X (j : Nat)

/-- What a machine needs of a function beside its code. -/
structure Ann where
  /-- what is kept at a loop's head and behind its block, by the block's number -/
  loop : FuncId → Nat → Option LK
  /-- what is kept where the ways of a condition meet, by the condition's slot -/
  join : FuncId → Nat → Option LK
  /-- what is kept behind a region with guards, by the region's number -/
  reg : FuncId → Nat → Option (List (Nat × Kd))

section
variable {R : Type} (E : Env) (N : Ann) (C : CallT) (L : LoopT) (f : FuncId)

def guardSlot (ops : Array Oper) (j : Nat) : Option Nat := (ops[j]?).bind (·.dst)

/-- What a slot holds whose operation was passed over. -/
def skipped : AVal := .tup []

/-- One operation, carried out or passed over: and the slots as it met them. -/
def stepK (ro : Bool) (ops : Array Oper) (o : Oper) (t : List AVal) (b : List Blk) (K : Bool → List AVal → List AVal → List Blk → Option R) : Option R :=
  match o.guard with
  | none => br (ro && !roOp E o t) none (opK E C b.length o t b fun x b => K true t (putA t o.dst x) b)
  | some (j, want) =>
    match guardSlot ops j with
    | none => none
    | some g =>
      match t.getD g .un with
      | .v c => c.asBool.bind fun p =>
          br p
            (br want
              (br (ro && !roOp E o (t.set g (.v (.bool true)))) none
                (opK E C b.length o (t.set g (.v (.bool true))) b fun x b => K true (t.set g (.v (.bool true))) (putA (t.set g (.v (.bool true))) o.dst x) b))
              (K false (t.set g (.v (.bool true))) (putA (t.set g (.v (.bool true))) o.dst skipped) b))
            (br want (K false (t.set g (.v (.bool false))) (putA (t.set g (.v (.bool false))) o.dst skipped) b)
              (br (ro && !roOp E o (t.set g (.v (.bool false)))) none
                (opK E C b.length o (t.set g (.v (.bool false))) b fun x b => K true (t.set g (.v (.bool false))) (putA (t.set g (.v (.bool false))) o.dst x) b)))
      | .tup [] => K false t (putA t o.dst skipped) b
      | _ => none

def evOps (ro : Bool) (ops : Array Oper) : List Oper → List AVal → List Blk → (List AVal → List Blk → Option R) → Option R
  | [], t, b, K => K t b
  | o :: r, t, b, K => stepK E C ro ops o t b fun _ _ t b => evOps ro ops r t b K

/-- Whether p must come ahead of i. -/
def before (ops : Array Oper) : Nat → Nat → Nat → Bool
  | 0, _, _ => false
  | n + 1, i, p =>
    match ops[i]? with
    | none => false
    | some o => o.after.toList.any fun e => Region.binds .any e && (e.on == p || before ops n e.on p)

def notIn (d : Option Nat) (l : List Nat) : Bool :=
  match d with
  | some d => !(l.contains d)
  | none => true

/-- Operations that do not meddle with each other's slots. -/
def apart (ops : Array Oper) (p o : Oper) : Bool :=
  notIn p.dst (o.looksAt ops) && notIn o.dst (p.looksAt ops) && notIn p.dst o.dst.toList

def fits (ops : Array Oper) (i : Nat) (o : Oper) (c : Cls) (p : Nat × Cls) : Bool :=
  before ops ops.size i p.1 || (match ops[p.1]? with | some o' => apart ops o' o && p.2.ok c | none => false)

/-- The operations of a region in the order of its text, where any order comes to the same. -/
def evD (ro : Bool) (ops : Array Oper) : List Nat → List (Nat × Cls) → List AVal → List Blk → (List AVal → List Blk → Option R) → Option R
  | [], _, t, b, K => K t b
  | i :: r, acc, t, b, K =>
    match ops[i]? with
    | none => none
    | some o => stepK E C ro ops o t b fun ran t1 t' b' =>
        br (acc.all (fits ops i o (cond ran (clsOf E o t1) .blind))) (evD ro ops r ((i, cond ran (clsOf E o t1) .blind) :: acc) t' b' K) none

/-- Operations come behind those that they need. -/
def topo (ops : Array Oper) : Bool := (List.range ops.size).all fun i =>
  match ops[i]? with
  | some o => o.after.toList.all fun e => !(Region.binds .any e) || decide (e.on < i)
  | none => true

def wipe (ops : Array Oper) (t : List AVal) : List AVal := ops.toList.foldl (fun t o => putA t o.dst .un) t

def Kd.closed : Kd → Bool
  | .lp _ => false
  | .lr _ => false
  | _ => true

/-- The slots that a region with guards leaves, the others forgotten. -/
def evReg (id : Nat) (ops : Array Oper) (draw : Bool) (s : St) (K : St → Option R) : Option R :=
  match N.reg f id with
  | none =>
    match draw with
    | false => evOps E C false ops ops.toList s.t s.b fun t b => K ⟨t, b⟩
    | true => br (topo ops) (evD E C false ops (List.range ops.size) [] s.t s.b fun t b => K ⟨t, b⟩) none
  | some ks =>
    br (ks.all fun k => k.2.closed)
      ((match draw with
        | false => evOps E C true ops ops.toList s.t s.b fun t b => packSlots t b ks [] fun x _ => some x
        | true => br (topo ops) (evD E C true ops (List.range ops.size) [] s.t s.b fun t b => packSlots t b ks [] fun x _ => some x) none).bind fun x =>
        K ⟨unSlots ks x (wipe ops s.t), s.b⟩) none

/-- What is known of a slot behind a test of it. -/
def condSet (c : Operand) (g : Bool) (s : St) : St :=
  match c with
  | .tmp i => ⟨s.t.set i (.v (.bool g)), s.b⟩
  | _ => s

def ev (nt : Nat) (np : List (Option Nat)) (fin : St → (Ret → Option R) → Option R) (kr : Ret → Option R) : Code → Nat → (X → St → Option R) → St → Option R
  | .skip, _, k, s => k .N s
  | .region id ops draw, _, k, s => evReg E N C f id ops draw s fun s => k .N s
  | .seq a b, bid, k, s => ev nt np fin kr a bid (fun e s => match e with | .N => ev nt np fin kr b bid k s | .X j => k (.X j) s) s
  | .cond c a b, bid, k, s => wBool (evalA s.t c) fun g => br g (ev nt np fin kr a bid k (condSet c true s)) (ev nt np fin kr b bid k (condSet c false s))
  | .block id c, _, k, s =>
    ev nt np fin kr c id (fun e s => match e with | .N => k .N s | .X j => br (j == id) (k .N s) (k (.X j) s)) s
  | .loop c, bid, k, s =>
    match N.loop f bid with
    | none => none
    | some ks => packK np.length ks s fun p => (L f bid c np ks p).bind fun o =>
        loK o kr fun j p => k (.X j) (unpack nt ks p)
  | .exit id, _, k, s => k (.X id) s
  | .ret, _, _, s => fin s kr
  | _, _, _, _ => none

def ptrAgg (P : Program) (t : TypeId) : Bool :=
  match P.underlying t with
  | some (.pointer e) => aggT P e
  | _ => false

def finVals (t : List AVal) : List (ResultVar × TypeId) → List Blk → (List CVal → List Blk → Option R) → Option R
  | [], b, K => K [] b
  | (.tmp i, ty) :: r, b, K => closeRK b (ptrAgg E.P ty) (t.getD i .un) fun c b => finVals t r b fun cs b => K (c :: cs) b
  | (.cell a ty, _) :: r, b, K => loadK E.P ty b (t.getD a .un) fun x => closeRK b false x fun c b => finVals t r b fun cs b => K (c :: cs) b

def finBlks : Nat → List (Option Nat) → List Blk → (List (List CVal) → List Blk → Option R) → Option R
  | _, [], b, K => K [] b
  | j, p :: r, b, K =>
    match b[j]? with
    | some ⟨_, .arr sz xs⟩ => br (decide (p = some sz)) (finBlks (j + 1) r b fun l b => K (xs :: l) b) none
    | some ⟨_, .box cs⟩ => br (decide (p = none)) ((closeL b cs).bind fun xs => finBlks (j + 1) r (killL cs b) fun l b => K (xs :: l) b) none
    | _ => none

def finK (fn : Func) (np : List (Option Nat)) (s : St) (K : Ret → Option R) : Option R :=
  match E.rm f with
  | none => finVals E s.t (fn.results.toList.zip fn.resultTypes.toList) s.b fun cs b =>
      finBlks 0 np b fun l b =>
        br ((List.range np.length).all (aliveAt b))
          (match cs with
           | [c] => K (c, l)
           | cs => K (.tup cs, l)) none
  | some j =>
    match fn.results.toList with
    | [.tmp i] =>
      match s.t.getD i .un with
      | .lref i' ver => br (decide (i' = j) && (arrOf s.b j ver).isSome && decide ((np[j]?).isSome)) (finBlks 0 np s.b fun l b => br ((List.range np.length).all (aliveAt b)) (K (.nilp, l)) none) none
      | _ => none
    | _ => none

def PB.sh (p : PB) : Option Nat := cond p.arr (some p.sz) none
def startBlk (p : PB) : Blk := cond p.arr ⟨0, .arr p.sz p.xs⟩ ⟨0, .box (p.xs.map .v)⟩

/-- A whole function. -/
def evF (args : List AVal) (pbs : List PB) : Option Ret :=
  match E.P.funcs[f]? with
  | none => none
  | some fn =>
    match fn.body with
    | none => none
    | some c =>
      br (fn.name == "runtime.NumGoroutine" || !decide (args.length ≤ fn.ntmps) || !decide (fn.results.size = fn.resultTypes.size)) none
        (ev E N C L f fn.ntmps (pbs.map PB.sh) (finK E f fn (pbs.map PB.sh)) some c 0
          (fun e s => match e with | .N => finK E f fn (pbs.map PB.sh) s some | .X _ => none)
          ⟨args ++ List.replicate (fn.ntmps - args.length) .un, pbs.map startBlk⟩)

/-- One round of a loop, and what follows. -/
def evL (bid : Nat) (c : Code) (np : List (Option Nat)) (ks : LK) (p : ks.T) : Option (LO ks.T) :=
  match E.P.funcs[f]? with
  | none => none
  | some fn =>
    ev E N C L f fn.ntmps np (finK E f fn np) (fun r => some (.ret r)) c bid
      (fun e s => match e with
        | .N => packK np.length ks s fun p => L f bid c np ks p
        | .X j => packK np.length ks s fun p => some (.out j p))
      (unpack fn.ntmps ks p)
end

/-- A function value that is data, called. -/
def applyV (E : Env) (C : CallT) (args : List AVal) (pbs : List PB) : Option Ret :=
  match args, pbs with
  | .v (.func g caps) :: l, [] => (allV l).bind fun cs => br (g == apId || (E.rm g).isSome) none
      (match E.prim g with
       | some p => p ((cs ++ caps).map .v) []
       | none => C g ((cs ++ caps).map .v) [])
  | _, _ => none

/-- So many steps. -/
def run (E : Env) (N : Ann) : Nat → CallT × LoopT
  | 0 => (fun _ _ _ => none, fun _ _ _ _ _ _ => none)
  | n + 1 => (fun g args pbs => cond (g == apId) (applyV E (run E N n).1 args pbs) (match E.ext g with | some p => p args pbs | none => evF E N (run E N n).1 (run E N n).2 g args pbs), fun f bid c np ks p => evL E N (run E N n).1 (run E N n).2 f bid c np ks p)

end Go.Proofs.YtomkegeojknihaaDoor.Abs

/-! Function values that are data: called on data, and called on what else. -/
namespace Go.Proofs.YtomkegeojknihaaDoor.Abs
open Go

section
variable {R : Type}
theorem allV_some : ∀ {args : List AVal} {cs : List CVal}, allV args = some cs → args = cs.map .v
  | [], cs, h => by cases h; rfl
  | x :: r, cs, h => by
    cases x with
    | v c =>
      simp only [allV, Option.bind_eq_some_iff] at h
      obtain ⟨l, hl, h⟩ := h
      cases h
      rw [allV_some hl]; rfl
    | _ => cases h
theorem allV_map : ∀ {cs : List CVal}, allV (cs.map .v) = some cs
  | [] => rfl
  | c :: r => by
    show (allV (r.map .v)).bind _ = _
    rw [allV_map]; rfl
theorem promo_v {E : Env} {g : FuncId} {q : Nat} : ∀ {cs : List CVal} {used : Bool} {j : Nat} {b : List Blk} {K : List AVal → List Blk → Option R}, promo E g q used j (cs.map .v) b K = K (cs.map .v) b
  | [], _, _, _, _ => rfl
  | c :: r, used, j, b, K => promo_v (cs := r) (K := fun l b => K (.v c :: l) b)
theorem handAll_v {pm : Nat → PM} : ∀ {cs : List CVal} {j : Nat} {h : Hand} {K : Hand → Option R}, handAll pm j (cs.map .v) h K = K ⟨h.args ++ cs.map .v, h.ids, h.b⟩
  | [], j, h, K => by simp [handAll]
  | c :: r, j, h, K => by
    show handAll pm (j + 1) (r.map .v) ⟨h.args ++ [.v c], h.ids, h.b⟩ K = _
    rw [handAll_v]; simp
theorem borrows_v {E : Env} {g : FuncId} : ∀ {cs : List CVal} {j : Nat}, borrows E g j (cs.map .v) = false
  | [], _ => rfl
  | c :: r, j => by
    simp [borrows, borrows_v (cs := r)]
theorem callK_v {E : Env} {C : CallT} {q : Nat} {g : FuncId} {cs : List CVal} {b : List Blk} {K : AVal → List Blk → Option R} (hg : g ≠ apId) :
    callK E C q g (cs.map .v) b K = (match E.prim g with | some p => p (cs.map .v) [] | none => C g (cs.map .v) []).bind fun r =>
      match E.rm g with
      | none => K (.v r.1) b
      | some _ => none := by
  unfold callK
  rw [show (g == apId) = false by simpa using hg, promo_v, handAll_v]
  simp only [handBlks, List.all_nil, br, List.nil_append, borrows_v, Bool.false_and, backBlks]
  rfl
theorem callV_some {E : Env} {C : CallT} {q : Nat} {c : CVal} {args : List AVal} {b : List Blk} {K : AVal → List Blk → Option R} {r : R} (h : callV E C q c args b K = some r) :
    (∃ cs, args = cs.map .v ∧ apF C c cs (fun r => K (.v r) b) = some r) ∨ (allV args = none ∧ ∃ g caps, c = .func g caps ∧ callK E C q g (args ++ caps.map .v) b K = some r) := by
  unfold callV at h
  split at h
  · rename_i cs hcs
    exact .inl ⟨cs, allV_some hcs, h⟩
  · rename_i hno
    split at h
    · exact .inr ⟨hno, _, _, rfl, h⟩
    · cases h
theorem pureArgs_v {E : Env} {g : FuncId} : ∀ {cs : List CVal} {j : Nat}, pureArgs E g j (cs.map .v) = true
  | [], _ => rfl
  | c :: r, j => pureArgs_v (cs := r)
theorem blindArgs_v {E : Env} {g : FuncId} : ∀ {cs : List CVal} {j : Nat}, blindArgs E g j (cs.map .v) = true
  | [], _ => rfl
  | c :: r, j => blindArgs_v (cs := r)
theorem pureV_func {E : Env} {g : FuncId} {caps : List CVal} {args : List AVal} : pureV E (.func g caps) args = pureArgs E g 0 (args ++ caps.map .v) := by
  unfold pureV
  cases h : allV args with
  | none => rfl
  | some cs => rw [allV_some h, ← List.map_append, pureArgs_v]
theorem blindV_func {E : Env} {g : FuncId} {caps : List CVal} {args : List AVal} : blindV E (.func g caps) args = blindArgs E g 0 (args ++ caps.map .v) := by
  unfold blindV
  cases h : allV args with
  | none => rfl
  | some cs => rw [allV_some h, ← List.map_append, blindArgs_v]
end
end Go.Proofs.YtomkegeojknihaaDoor.Abs

/-! How the abstract machine's data stand to the model's: closed values, slots, blocks. -/
namespace Go.Proofs.YtomkegeojknihaaDoor.Abs
open Go

def flat : Value → Bool
  | .agg _ => false
  | .tuple _ => false
  | _ => true

theorem cells_flat {v : Value} (h : flat v = true) : v.cells = #[v] := by
  cases v <;> first | rfl | (simp [flat] at h)

def noTup : CVal → Bool
  | .tup _ => false
  | _ => true
theorem noTup_fl {c : CVal} (h : noTup c = true) : (∃ n, c.isAggN n = true) ∨ c.isFlat = true := by
  cases c with
  | agg cs => exact .inl ⟨cs.length, by simp [CVal.isAggN]⟩
  | tup cs => simp [noTup] at h
  | _ => exact .inr rfl
theorem fits_noTup {agg : Bool} {n : Nat} {c : CVal} (h : c.fits agg n = true) : noTup c = true := by
  cases c with
  | tup cs => cases agg <;> simp [CVal.fits, CVal.isAggN, CVal.isFlat] at h
  | _ => rfl

/-- A place of memory. -/
def pl (b o : Nat) : Addr := ⟨b, o, none⟩

mutual
/-- A closed value, none of whose memory lies in a block of N. -/
def CRel (N : Nat → Prop) (w : World) : CVal → Value → Prop
  | .bool b, v => v = .bool b
  | .int k n, v => v = .int k n
  | .str s, v => v = .string ⟨s.toArray⟩
  | .sl xs, v => ∃ base cap, v = .slice base xs.length cap ∧ xs.length ≤ cap ∧
      (xs = [] ∨ ∃ b o sz, base = some (pl b o) ∧ ¬ N b ∧ b < w.heap.size ∧ ElRel N w sz b o xs)
  | .agg cs, v => ∃ vs : List Value, v = .agg vs.toArray ∧ CsRel N w true cs vs
  | .fp c off, v => ∃ b o u, v = .pointer (some (pl b (o + off))) ∧ ¬ N b ∧ b < w.heap.size ∧ noTup c = true ∧ CRel N w c u ∧
      ∀ j, j < u.cells.size → w.cell? (pl b (o + j)) = u.cells[j]?
  | .func f cs, v => ∃ vs : List Value, v = .func (.func f) #[] vs.toArray ∧ CsRel N w false cs vs
  | .nilp, v => v = .pointer none
  | .nilf, v => v = .nilFunc
  | .nili, v => v = .nilIface
  | .iface t c, v => ∃ u, v = .iface t u ∧ CRel N w c u
  | .tup cs, v => ∃ vs : List Value, v = .tuple vs.toArray ∧ CsRel N w false cs vs
def CsRel (N : Nat → Prop) (w : World) : Bool → List CVal → List Value → Prop
  | _, [], vs => vs = []
  | fl, c :: r, vs => ∃ u us, vs = u :: us ∧ CRel N w c u ∧ (fl = true → flat u = true) ∧ CsRel N w fl r us
def ElRel (N : Nat → Prop) (w : World) : Nat → Nat → Nat → List CVal → Prop
  | _, _, _, [] => True
  | sz, b, o, c :: r => (∃ u, noTup c = true ∧ CRel N w c u ∧ u.cells.size = sz ∧ ∀ j, j < sz → w.cell? (pl b (o + j)) = u.cells[j]?) ∧ ElRel N w sz b (o + sz) r
end

/-- Where a block of the abstract machine lies. -/
inductive Hd where
  | none
  | box (b : Nat)
  | arr (base : Option Addr) (len cap sz : Nat)

def Hd.own : Hd → Option Nat
  | .none => Option.none
  | .box b => some b
  | .arr (some a) _ cap _ => if cap = 0 then Option.none else some a.block
  | .arr .none _ _ _ => Option.none

def Hd.val : Hd → Value
  | .none => .bool false
  | .box b => .pointer (some (pl b 0))
  | .arr base len cap _ => .slice base len cap

def isArr : Body → Bool
  | .arr _ _ => true
  | _ => false

mutual
/-- What a slot holds. -/
def ARel (N : Nat → Prop) (w : World) (μ : List Hd) (b : List Blk) : AVal → Value → Prop
  | .v c, v => CRel N w c v
  | .nl, v => ∃ base, v = .slice base 0 0
  | .lptr i off, v => ∃ x, μ[i]? = some (.box x) ∧ v = .pointer (some (pl x off))
  | .lel i ver idx off, v => (∃ a, v = .pointer (some a)) ∧ ∃ (blk : Blk) (h : Hd), b[i]? = some blk ∧ μ[i]? = some h ∧ h ≠ .none ∧ ver ≤ blk.ver ∧
      (ver = blk.ver → isArr blk.body = true → ∃ x len cap sz, h = .arr (some (pl x 0)) len cap sz ∧ idx < len ∧ v = .pointer (some (pl x (idx * sz + off))))
  | .lref i ver, v => flat v = true ∧ ∃ (blk : Blk) (h : Hd), b[i]? = some blk ∧ μ[i]? = some h ∧ h ≠ .none ∧ ver ≤ blk.ver ∧ (ver = blk.ver → isArr blk.body = true → v = h.val)
  | .agg cs, v => ∃ vs : List Value, v = .agg vs.toArray ∧ AsRel N w μ b true cs vs
  | .func f cs, v => ∃ vs : List Value, v = .func (.func f) #[] vs.toArray ∧ AsRel N w μ b false cs vs
  | .tup cs, v => ∃ vs : List Value, v = .tuple vs.toArray ∧ AsRel N w μ b false cs vs
  | .un, _ => True
def AsRel (N : Nat → Prop) (w : World) (μ : List Hd) (b : List Blk) : Bool → List AVal → List Value → Prop
  | _, [], vs => vs = []
  | fl, c :: r, vs => ∃ u us, vs = u :: us ∧ ARel N w μ b c u ∧ (fl = true → flat u = true) ∧ AsRel N w μ b fl r us
end

/-- What a block holds. -/
def BRel (N : Nat → Prop) (w : World) (μ : List Hd) (b : List Blk) (h : Hd) : Body → Prop
  | .dead => True
  | .box cs => ∃ x vs e, h = .box x ∧ w.heap[x]? = some (.cells (List.toArray vs) e (0, 0)) ∧ AsRel N w μ b true cs vs
  | .arr sz xs => ∃ base cap, h = .arr base xs.length cap sz ∧ xs.length ≤ cap ∧
      (cap = 0 ∨ ∃ x cells e, base = some (pl x 0) ∧ w.heap[x]? = some (.cells cells e (0, 0)) ∧ cap * sz ≤ cells.size ∧ ElRel N w sz x 0 xs)

def alive : Body → Bool
  | .dead => false
  | _ => true

/-- The blocks of the model's memory that the frame owns. -/
def Own (μ : List Hd) (b : List Blk) (x : Nat) : Prop :=
  ∃ (i : Nat) (blk : Blk) (h : Hd), b[i]? = some blk ∧ alive blk.body = true ∧ μ[i]? = some h ∧ h.own = some x

def Or (F O : Nat → Prop) (x : Nat) : Prop := F x ∨ O x

/-- What is known of package-level variables that nobody writes: where they lie, and what they hold. -/
class Glob where
  ids : Nat → Prop
  ok : World → Prop
  keep : ∀ {w w' : World}, (∀ x, ids x → w'.heap[x]? = w.heap[x]?) → ok w → ok w'
structure Fb [Glob] (F : Nat → Prop) (w : World) : Prop where
  lt : ∀ x, F x → x < w.heap.size
  idl : ∀ x, Glob.ids x → x < w.heap.size
  ok : Glob.ok w
theorem Fb.toM [Glob] {F M : Nat → Prop} {w w' : World} (h : Fb F w) (hs : w.heap.size ≤ w'.heap.size) (hm : ∀ x, Glob.ids x → w'.heap[x]? = w.heap[x]?) (hM : ∀ x, M x → x < w'.heap.size) : Fb M w' :=
  ⟨hM, fun x hx => Nat.lt_of_lt_of_le (h.idl x hx) hs, Glob.keep hm h.ok⟩
theorem Fb.to [Glob] {F : Nat → Prop} {w w' : World} (h : Fb F w) (hs : w.heap.size ≤ w'.heap.size) (hm : ∀ x, Glob.ids x → w'.heap[x]? = w.heap[x]?) : Fb F w' :=
  h.toM hs hm fun x hx => Nat.lt_of_lt_of_le (h.lt x hx) hs

variable [Glob]
structure Rel (F : Nat → Prop) (w : World) (μ : List Hd) (b : List Blk) : Prop where
  len : μ.length = b.length
  blk : ∀ (i : Nat) (blk : Blk) (h : Hd), b[i]? = some blk → μ[i]? = some h → BRel (Or F (Own μ b)) w μ b h blk.body
  inj : ∀ (i j : Nat) (blk blk' : Blk) (h h' : Hd) (x : Nat), b[i]? = some blk → b[j]? = some blk' → alive blk.body = true → alive blk'.body = true →
    μ[i]? = some h → μ[j]? = some h' → h.own = some x → h'.own = some x → i = j
  fres : ∀ x, Own μ b x → ¬ F x ∧ x < w.heap.size
  fbk : Fb F w
  oid : ∀ x, Own μ b x → ¬ Glob.ids x
theorem Rel.fb {F : Nat → Prop} {w : World} {μ : List Hd} {b : List Blk} (R : Rel F w μ b) : ∀ x, F x → x < w.heap.size := R.fbk.lt

/-- From w to w' nothing has turned but in the blocks of O. -/
structure Fr (O : Nat → Prop) (w w' : World) : Prop where
  os : w'.os = w.os
  tape : w'.tape = w.tape
  output : w'.output = w.output
  size : w.heap.size ≤ w'.heap.size
  block : ∀ x, x < w.heap.size → ¬ O x → w'.heap[x]? = w.heap[x]?

theorem Fr.refl (O : Nat → Prop) (w : World) : Fr O w w := ⟨rfl, rfl, rfl, Nat.le_refl _, fun _ _ _ => rfl⟩
theorem Fr.trans {O O' : Nat → Prop} {a b c : World} (h : Fr O a b) (k : Fr O' b c) (ho : ∀ x, x < a.heap.size → O' x → O x) : Fr O a c :=
  ⟨k.os.trans h.os, k.tape.trans h.tape, k.output.trans h.output, Nat.le_trans h.size k.size,
   fun x hx hn => (k.block x (Nat.lt_of_lt_of_le hx h.size) (fun hc => hn (ho x hx hc))).trans (h.block x hx hn)⟩

theorem cell_block {w w' : World} {x : Nat} (h : w'.heap[x]? = w.heap[x]?) (o : Nat) : w'.cell? (pl x o) = w.cell? (pl x o) := by
  simp only [World.cell?, pl, h]

/-- Closed values last: no block that they lie in is written, and none becomes one of N'. -/
structure Keep (N N' : Nat → Prop) (w w' : World) : Prop where
  size : w.heap.size ≤ w'.heap.size
  block : ∀ x, x < w.heap.size → ¬ N x → w'.heap[x]? = w.heap[x]? ∧ ¬ N' x

theorem cell_lt {w : World} {x o : Nat} {v : Value} (h : w.cell? (pl x o) = some v) : x < w.heap.size := by
  simp only [World.cell?, pl] at h
  rcases Nat.lt_or_ge x w.heap.size with h' | h'
  · exact h'
  · simp [Array.getElem?_eq_none h'] at h

section
variable {N N' : Nat → Prop} {w w' : World} (K : Keep N N' w w')
include K
mutual
theorem CRel.keep : ∀ {c : CVal} {v : Value}, CRel N w c v → CRel N' w' c v
  | .bool _, _, h => h
  | .int _ _, _, h => h
  | .str _, _, h => h
  | .sl xs, v, h => by
    obtain ⟨base, cap, hv, hc, h⟩ := h
    refine ⟨base, cap, hv, hc, ?_⟩
    rcases h with h | ⟨b, o, sz, hb, hn, hs, he⟩
    · exact .inl h
    · exact .inr ⟨b, o, sz, hb, (K.block b hs hn).2, Nat.lt_of_lt_of_le hs K.size, ElRel.keep hs hn he⟩
  | .agg cs, v, h => by
    obtain ⟨vs, hv, h⟩ := h
    exact ⟨vs, hv, CsRel.keep h⟩
  | .fp c off, v, h => by
    obtain ⟨b, o, u, hv, hn, hs, ht, hc, hj⟩ := h
    exact ⟨b, o, u, hv, (K.block b hs hn).2, Nat.lt_of_lt_of_le hs K.size, ht, CRel.keep hc, fun j h => by rw [cell_block (K.block b hs hn).1]; exact hj j h⟩
  | .func _ cs, v, h => by
    obtain ⟨vs, hv, h⟩ := h
    exact ⟨vs, hv, CsRel.keep h⟩
  | .nilp, _, h => h
  | .nilf, _, h => h
  | .nili, _, h => h
  | .iface t c, v, h => by
    obtain ⟨u, hv, h⟩ := h
    exact ⟨u, hv, CRel.keep h⟩
  | .tup cs, v, h => by
    obtain ⟨vs, hv, h⟩ := h
    exact ⟨vs, hv, CsRel.keep h⟩
theorem CsRel.keep : ∀ {fl : Bool} {cs : List CVal} {vs : List Value}, CsRel N w fl cs vs → CsRel N' w' fl cs vs
  | _, [], _, h => h
  | _, c :: r, vs, h => by
    obtain ⟨u, us, hv, hc, hf, h⟩ := h
    exact ⟨u, us, hv, CRel.keep hc, hf, CsRel.keep h⟩
theorem ElRel.keep : ∀ {sz b o : Nat} {cs : List CVal}, b < w.heap.size → ¬ N b → ElRel N w sz b o cs → ElRel N' w' sz b o cs
  | _, _, _, [], _, _, _ => trivial
  | sz, b, o, c :: r, hs, hn, h => by
    obtain ⟨⟨u, ht, hc, hz, hj⟩, h⟩ := h
    exact ⟨⟨u, ht, CRel.keep hc, hz, fun j h => by rw [cell_block (K.block b hs hn).1]; exact hj j h⟩, ElRel.keep hs hn h⟩
end

/-- The same where the block itself is one of N, and has not been written. -/
theorem ElRel.keepAt : ∀ {sz b o : Nat} {cs : List CVal}, w'.heap[b]? = w.heap[b]? → ElRel N w sz b o cs → ElRel N' w' sz b o cs
  | _, _, _, [], _, _ => trivial
  | sz, b, o, c :: r, hb, h => by
    obtain ⟨⟨u, ht, hc, hz, hj⟩, h⟩ := h
    exact ⟨⟨u, ht, CRel.keep K hc, hz, fun j h => by rw [cell_block hb]; exact hj j h⟩, ElRel.keepAt hb h⟩
end


/-! ### Blocks change -/
/-- What was named by a block's handle may be named so still. -/
structure VerOk (blk : Blk) (h : Hd) (blk' : Blk) (h' : Hd) : Prop where
  le : blk.ver ≤ blk'.ver
  nn : h ≠ .none → h' ≠ .none
  box : ∀ x, h = .box x → h' = .box x
  same : blk'.ver = blk.ver → isArr blk'.body = true → h ≠ .none → isArr blk.body = true ∧ h' = h

theorem VerOk.refl (blk : Blk) (h : Hd) : VerOk blk h blk h := ⟨Nat.le_refl _, id, fun _ h => h, fun _ h _ => ⟨h, rfl⟩⟩

/-- From one state to the next. -/
structure Upd (F : Nat → Prop) (w : World) (μ : List Hd) (b : List Blk) (w' : World) (μ' : List Hd) (b' : List Blk) : Prop where
  len0 : μ.length = b.length
  len : μ'.length = b'.length
  old : ∀ (i : Nat) (blk : Blk) (h : Hd), b[i]? = some blk → μ[i]? = some h → ∃ (blk' : Blk) (h' : Hd), b'[i]? = some blk' ∧ μ'[i]? = some h' ∧ VerOk blk h blk' h'
  size : w.heap.size ≤ w'.heap.size
  own : ∀ x, Own μ' b' x → x < w'.heap.size ∧ (w.heap.size ≤ x ∨ Own μ b x)
  mem : ∀ x, x < w.heap.size → ¬ Own μ b x → w'.heap[x]? = w.heap[x]?

section
variable {F : Nat → Prop} {w w' : World} {μ μ' : List Hd} {b b' : List Blk}
theorem Upd.keep (U : Upd F w μ b w' μ' b') : Keep (Or F (Own μ b)) (Or F (Own μ' b')) w w' :=
  ⟨U.size, fun x hx hn => ⟨U.mem x hx fun h => hn (.inr h), fun h => by
    rcases h with h | h
    · exact hn (.inl h)
    · rcases (U.own x h).2 with h' | h'
      · omega
      · exact hn (.inr h')⟩⟩

mutual
theorem ARel.upd (U : Upd F w μ b w' μ' b') : ∀ {x : AVal} {v : Value}, ARel (Or F (Own μ b)) w μ b x v → ARel (Or F (Own μ' b')) w' μ' b' x v
  | .v c, v, h => CRel.keep U.keep h
  | .nl, v, h => h
  | .lptr i off, v, h => by
    obtain ⟨x, hm, hv⟩ := h
    have hi : i < b.length := by
      rw [← U.len0]
      exact (List.getElem?_eq_some_iff.1 hm).1
    obtain ⟨blk', h', hb', hm', V⟩ := U.old i b[i] _ (List.getElem?_eq_getElem hi) hm
    exact ⟨x, by rw [hm', V.box x rfl], hv⟩
  | .lel i ver idx off, v, h => by
    obtain ⟨hfl, blk, hd, hb, hm, hn, hle, hc⟩ := h
    obtain ⟨blk', h', hb', hm', V⟩ := U.old i blk hd hb hm
    refine ⟨hfl, blk', h', hb', hm', V.nn hn, Nat.le_trans hle V.le, fun he ha => ?_⟩
    have e : blk'.ver = blk.ver := by have := V.le; omega
    obtain ⟨ha', rfl⟩ := V.same e ha hn
    exact hc (by omega) ha'
  | .lref i ver, v, h => by
    obtain ⟨hfl, blk, hd, hb, hm, hn, hle, hc⟩ := h
    obtain ⟨blk', h', hb', hm', V⟩ := U.old i blk hd hb hm
    refine ⟨hfl, blk', h', hb', hm', V.nn hn, Nat.le_trans hle V.le, fun he ha => ?_⟩
    have e : blk'.ver = blk.ver := by have := V.le; omega
    obtain ⟨ha', rfl⟩ := V.same e ha hn
    exact hc (by omega) ha'
  | .agg cs, v, h => by
    obtain ⟨vs, hv, h⟩ := h
    exact ⟨vs, hv, AsRel.upd U h⟩
  | .func f cs, v, h => by
    obtain ⟨vs, hv, h⟩ := h
    exact ⟨vs, hv, AsRel.upd U h⟩
  | .tup cs, v, h => by
    obtain ⟨vs, hv, h⟩ := h
    exact ⟨vs, hv, AsRel.upd U h⟩
  | .un, _, _ => trivial
theorem AsRel.upd (U : Upd F w μ b w' μ' b') : ∀ {fl : Bool} {cs : List AVal} {vs : List Value}, AsRel (Or F (Own μ b)) w μ b fl cs vs → AsRel (Or F (Own μ' b')) w' μ' b' fl cs vs
  | _, [], _, h => h
  | _, c :: r, vs, h => by
    obtain ⟨u, us, hv, hc, hf, h⟩ := h
    exact ⟨u, us, hv, ARel.upd U hc, hf, AsRel.upd U h⟩
end

/-- A block that has not been touched. -/
theorem BRel.upd (U : Upd F w μ b w' μ' b') {h : Hd} {bd : Body} (hh : ∀ x, h.own = some x → alive bd = true → w'.heap[x]? = w.heap[x]?)
    (B : BRel (Or F (Own μ b)) w μ b h bd) : BRel (Or F (Own μ' b')) w' μ' b' h bd := by
  cases bd with
  | dead => trivial
  | box cs =>
    obtain ⟨x, vs, e, rfl, hw, ha⟩ := B
    exact ⟨x, vs, e, rfl, by rw [hh x rfl rfl]; exact hw, AsRel.upd U ha⟩
  | arr sz xs =>
    obtain ⟨base, cap, rfl, hl, hc⟩ := B
    refine ⟨base, cap, rfl, hl, ?_⟩
    rcases hc with hc | ⟨x, cells, e, rfl, hw, h1, h3⟩
    · exact .inl hc
    · by_cases h0 : cap = 0
      · exact .inl h0
      · have hx := hh x (by simp [Hd.own, h0, pl]) rfl
        exact .inr ⟨x, cells, e, rfl, by rw [hx]; exact hw, h1, ElRel.keepAt U.keep hx h3⟩

/-- One block alone has turned, or is new: all the others stand as they stood. -/
structure One (F : Nat → Prop) (w : World) (μ : List Hd) (b : List Blk) (w' : World) (μ' : List Hd) (b' : List Blk) (k : Nat) : Prop where
  rel : Rel F w μ b
  len : μ'.length = b'.length
  grow : b.length ≤ b'.length
  off : ∀ i, i < b'.length → i ≠ k → b'[i]? = b[i]? ∧ μ'[i]? = μ[i]?
  kb : k < b'.length
  at_ : ∀ blk h, b[k]? = some blk → μ[k]? = some h → ∃ (blk' : Blk) (h' : Hd), b'[k]? = some blk' ∧ μ'[k]? = some h' ∧ VerOk blk h blk' h'
  size : w.heap.size ≤ w'.heap.size
  new : ∀ (blk' : Blk) (h' : Hd) x, b'[k]? = some blk' → μ'[k]? = some h' → alive blk'.body = true → h'.own = some x →
    x < w'.heap.size ∧ (w.heap.size ≤ x ∨ ∃ (blk : Blk) (h : Hd), b[k]? = some blk ∧ μ[k]? = some h ∧ alive blk.body = true ∧ h.own = some x)
  mem : ∀ x, x < w.heap.size → (∀ (blk : Blk) (h : Hd), b[k]? = some blk → μ[k]? = some h → alive blk.body = true → h.own ≠ some x) → w'.heap[x]? = w.heap[x]?

theorem One.own {k : Nat} (O : One F w μ b w' μ' b' k) : ∀ x, Own μ' b' x → x < w'.heap.size ∧ (w.heap.size ≤ x ∨ Own μ b x) := by
  intro x ⟨i, blk, h, hb, ha, hm, ho⟩
  by_cases hk : i = k
  · subst hk
    obtain ⟨h1, h2⟩ := O.new blk h x hb hm ha ho
    refine ⟨h1, h2.imp id ?_⟩
    rintro ⟨blk0, h0, hb0, hm0, ha0, ho0⟩
    exact ⟨i, blk0, h0, hb0, ha0, hm0, ho0⟩
  · have hi : i < b'.length := (List.getElem?_eq_some_iff.1 hb).1
    obtain ⟨e1, e2⟩ := O.off i hi hk
    rw [e1] at hb; rw [e2] at hm
    have hx := (O.rel.fres x ⟨i, blk, h, hb, ha, hm, ho⟩).2
    exact ⟨Nat.lt_of_lt_of_le hx O.size, .inr ⟨i, blk, h, hb, ha, hm, ho⟩⟩

theorem One.upd {k : Nat} (O : One F w μ b w' μ' b' k) : Upd F w μ b w' μ' b' := by
  refine ⟨O.rel.len, O.len, ?_, O.size, O.own, ?_⟩
  · intro i blk h hb hm
    by_cases hk : i = k
    · subst hk; exact O.at_ blk h hb hm
    · have hi : i < b'.length := Nat.lt_of_lt_of_le (List.getElem?_eq_some_iff.1 hb).1 O.grow
      obtain ⟨e1, e2⟩ := O.off i hi hk
      exact ⟨blk, h, by rw [e1]; exact hb, by rw [e2]; exact hm, .refl _ _⟩
  · intro x hx hn
    refine O.mem x hx fun blk h hb hm ha ho => hn ⟨k, blk, h, hb, ha, hm, ho⟩

theorem One.done {k : Nat} (O : One F w μ b w' μ' b' k)
    (hk : ∀ (blk' : Blk) (h' : Hd), b'[k]? = some blk' → μ'[k]? = some h' → BRel (Or F (Own μ' b')) w' μ' b' h' blk'.body) : Rel F w' μ' b' := by
  have U := O.upd
  have far : ∀ (i : Nat) (blk : Blk) (h : Hd) (x : Nat), i ≠ k → b[i]? = some blk → μ[i]? = some h → alive blk.body = true → h.own = some x → w'.heap[x]? = w.heap[x]? := by
    intro i blk h x hne hb hm ha ho
    refine O.mem x (O.rel.fres x ⟨i, blk, h, hb, ha, hm, ho⟩).2 fun blk0 h0 hb0 hm0 ha0 ho0 => hne ?_
    exact O.rel.inj i k blk blk0 h h0 x hb hb0 ha ha0 hm hm0 ho ho0
  refine ⟨O.len, ?_, ?_, ?_, O.rel.fbk.to O.size fun x hx => O.mem x (O.rel.fbk.idl x hx) fun blk h hb hm ha ho => O.rel.oid x ⟨k, blk, h, hb, ha, hm, ho⟩ hx, fun x hx hi => ?_⟩
  · intro i blk h hb hm
    by_cases hki : i = k
    · subst hki; exact hk blk h hb hm
    · have hi : i < b'.length := (List.getElem?_eq_some_iff.1 hb).1
      obtain ⟨e1, e2⟩ := O.off i hi hki
      rw [e1] at hb; rw [e2] at hm
      exact BRel.upd U (fun x ho ha => far i blk h x hki hb hm ha ho) (O.rel.blk i blk h hb hm)
  · have cross : ∀ (i : Nat) (blk : Blk) (h : Hd) (blk' : Blk) (h' : Hd) (x : Nat), i ≠ k → i < b'.length → b'[i]? = some blk → alive blk.body = true → μ'[i]? = some h → h.own = some x →
        b'[k]? = some blk' → alive blk'.body = true → μ'[k]? = some h' → h'.own = some x → False := by
      intro i blk h blk' h' x hne hi hb ha hm ho hb' ha' hm' ho'
      obtain ⟨e1, e2⟩ := O.off i hi hne
      rw [e1] at hb; rw [e2] at hm
      have hx := (O.rel.fres x ⟨i, blk, h, hb, ha, hm, ho⟩).2
      rcases (O.new blk' h' x hb' hm' ha' ho').2 with h1 | ⟨blk0, h0, hb0, hm0, ha0, ho0⟩
      · omega
      · exact hne (O.rel.inj i k blk blk0 h h0 x hb hb0 ha ha0 hm hm0 ho ho0)
    intro i j blk blk' h h' x hb hb' ha ha' hm hm' ho ho'
    have hi : i < b'.length := (List.getElem?_eq_some_iff.1 hb).1
    have hj : j < b'.length := (List.getElem?_eq_some_iff.1 hb').1
    by_cases hik : i = k
    · by_cases hjk : j = k
      · rw [hik, hjk]
      · subst hik; exact (cross j blk' h' blk h x hjk hj hb' ha' hm' ho' hb ha hm ho).elim
    · by_cases hjk : j = k
      · subst hjk; exact (cross i blk h blk' h' x hik hi hb ha hm ho hb' ha' hm' ho').elim
      · obtain ⟨e1, e2⟩ := O.off i hi hik
        obtain ⟨e3, e4⟩ := O.off j hj hjk
        rw [e1] at hb; rw [e2] at hm; rw [e3] at hb'; rw [e4] at hm'
        exact O.rel.inj i j blk blk' h h' x hb hb' ha ha' hm hm' ho ho'
  · intro x hx
    obtain ⟨h1, h2⟩ := O.own x hx
    refine ⟨fun hf => ?_, h1⟩
    rcases h2 with h2 | h2
    · have := O.rel.fb x hf; omega
    · exact (O.rel.fres x h2).1 hf
  · rcases (O.own x hx).2 with h2 | h2
    · have := O.rel.fbk.idl x hi; omega
    · exact O.rel.oid x h2 hi

theorem One.fr {k : Nat} (O : One F w μ b w' μ' b' k) (hos : w'.os = w.os) (ht : w'.tape = w.tape) (ho : w'.output = w.output) : Fr (Own μ b) w w' :=
  ⟨hos, ht, ho, O.size, O.upd.mem⟩
end

end Go.Proofs.YtomkegeojknihaaDoor.Abs

/-! Lists of cells, and what the operations on values alone come to. -/
namespace Go.Proofs.YtomkegeojknihaaDoor.Abs
open Go
variable [Glob]

theorem br_some {R : Type} {b : Bool} {x y : Option R} {r : R} (h : br b x y = some r) : (b = true ∧ x = some r) ∨ (b = false ∧ y = some r) := by
  cases b
  · exact .inr ⟨rfl, h⟩
  · exact .inl ⟨rfl, h⟩
theorem br_none {R : Type} {b : Bool} {x : Option R} {r : R} (h : br b x none = some r) : b = true ∧ x = some r := by
  cases b
  · cases h
  · exact ⟨rfl, h⟩
theorem bind_some' {α R : Type} {x : Option α} {f : α → Option R} {r : R} (h : x.bind f = some r) : ∃ a, x = some a ∧ f a = some r := Option.bind_eq_some_iff.1 h

theorem flat_oneCell {v : Value} (h : flat v = true) : v.oneCell' = true := by
  cases v <;> first | rfl | (simp [flat] at h)

section
variable {N : Nat → Prop} {w : World} {μ : List Hd} {b : List Blk}

theorem CsRel.len : ∀ {fl : Bool} {cs : List CVal} {vs : List Value}, CsRel N w fl cs vs → vs.length = cs.length
  | _, [], _, h => by rw [show _ = [] from h]; rfl
  | _, c :: r, _, h => by
    obtain ⟨u, us, rfl, _, _, h⟩ := h
    simp [CsRel.len h]

theorem CsRel.get : ∀ {fl : Bool} {cs : List CVal} {vs : List Value} {i : Nat} {c : CVal}, CsRel N w fl cs vs → cs[i]? = some c → ∃ v, vs[i]? = some v ∧ CRel N w c v ∧ (fl = true → flat v = true)
  | _, [], _, i, _, _, hi => by simp at hi
  | _, c :: r, _, 0, _, h, hi => by
    obtain ⟨u, us, rfl, hc, hf, h⟩ := h
    simp at hi; subst hi
    exact ⟨u, rfl, hc, hf⟩
  | _, c :: r, _, i + 1, _, h, hi => by
    obtain ⟨u, us, rfl, hc, hf, h⟩ := h
    obtain ⟨v, h1, h2⟩ := CsRel.get h (by simpa using hi)
    exact ⟨v, by simpa using h1, h2⟩

theorem CsRel.take : ∀ {fl : Bool} {cs : List CVal} {vs : List Value} (n : Nat), CsRel N w fl cs vs → CsRel N w fl (cs.take n) (vs.take n)
  | _, [], _, n, h => by rw [show _ = [] from h]; simp [CsRel]
  | _, c :: r, _, 0, h => by simp [CsRel]
  | _, c :: r, _, n + 1, h => by
    obtain ⟨u, us, rfl, hc, hf, h⟩ := h
    exact ⟨u, us.take n, by simp, hc, hf, CsRel.take n h⟩
theorem CsRel.drop : ∀ {fl : Bool} {cs : List CVal} {vs : List Value} (n : Nat), CsRel N w fl cs vs → CsRel N w fl (cs.drop n) (vs.drop n)
  | _, [], _, n, h => by rw [show _ = [] from h]; simp [CsRel]
  | _, c :: r, _, 0, h => by simpa using h
  | _, c :: r, _, n + 1, h => by
    obtain ⟨u, us, rfl, hc, hf, h⟩ := h
    simpa using CsRel.drop n h
theorem CsRel.append : ∀ {fl : Bool} {cs ds : List CVal} {vs us : List Value}, CsRel N w fl cs vs → CsRel N w fl ds us → CsRel N w fl (cs ++ ds) (vs ++ us)
  | _, [], _, _, _, h, k => by rw [show _ = [] from h]; simpa using k
  | _, c :: r, _, _, _, h, k => by
    obtain ⟨u, us', rfl, hc, hf, h⟩ := h
    exact ⟨u, us' ++ _, by simp, hc, hf, CsRel.append h k⟩

theorem AsRel.len : ∀ {fl : Bool} {cs : List AVal} {vs : List Value}, AsRel N w μ b fl cs vs → vs.length = cs.length
  | _, [], _, h => by rw [show _ = [] from h]; rfl
  | _, c :: r, _, h => by
    obtain ⟨u, us, rfl, _, _, h⟩ := h
    simp [AsRel.len h]
theorem AsRel.get : ∀ {fl : Bool} {cs : List AVal} {vs : List Value} {i : Nat} {c : AVal}, AsRel N w μ b fl cs vs → cs[i]? = some c → ∃ v, vs[i]? = some v ∧ ARel N w μ b c v ∧ (fl = true → flat v = true)
  | _, [], _, i, _, _, hi => by simp at hi
  | _, c :: r, _, 0, _, h, hi => by
    obtain ⟨u, us, rfl, hc, hf, h⟩ := h
    simp at hi; subst hi
    exact ⟨u, rfl, hc, hf⟩
  | _, c :: r, _, i + 1, _, h, hi => by
    obtain ⟨u, us, rfl, hc, hf, h⟩ := h
    obtain ⟨v, h1, h2⟩ := AsRel.get h (by simpa using hi)
    exact ⟨v, by simpa using h1, h2⟩
theorem AsRel.take : ∀ {fl : Bool} {cs : List AVal} {vs : List Value} (n : Nat), AsRel N w μ b fl cs vs → AsRel N w μ b fl (cs.take n) (vs.take n)
  | _, [], _, n, h => by rw [show _ = [] from h]; simp [AsRel]
  | _, c :: r, _, 0, h => by simp [AsRel]
  | _, c :: r, _, n + 1, h => by
    obtain ⟨u, us, rfl, hc, hf, h⟩ := h
    exact ⟨u, us.take n, by simp, hc, hf, AsRel.take n h⟩
theorem AsRel.drop : ∀ {fl : Bool} {cs : List AVal} {vs : List Value} (n : Nat), AsRel N w μ b fl cs vs → AsRel N w μ b fl (cs.drop n) (vs.drop n)
  | _, [], _, n, h => by rw [show _ = [] from h]; simp [AsRel]
  | _, c :: r, _, 0, h => by simpa using h
  | _, c :: r, _, n + 1, h => by
    obtain ⟨u, us, rfl, hc, hf, h⟩ := h
    simpa using AsRel.drop n h
theorem AsRel.append : ∀ {fl : Bool} {cs ds : List AVal} {vs us : List Value}, AsRel N w μ b fl cs vs → AsRel N w μ b fl ds us → AsRel N w μ b fl (cs ++ ds) (vs ++ us)
  | _, [], _, _, _, h, k => by rw [show _ = [] from h]; simpa using k
  | _, c :: r, _, _, _, h, k => by
    obtain ⟨u, us', rfl, hc, hf, h⟩ := h
    exact ⟨u, us' ++ _, by simp, hc, hf, AsRel.append h k⟩
theorem AsRel.splice {fl : Bool} {cs ds : List AVal} {vs us : List Value} (n : Nat) (h : AsRel N w μ b fl cs vs) (k : AsRel N w μ b fl ds us) :
    AsRel N w μ b fl (splice cs n ds) (vs.take n ++ us ++ vs.drop (n + us.length)) := by
  unfold Abs.splice
  rw [k.len]
  exact ((h.take n).append k).append (h.drop _)
theorem CsRel.splice {fl : Bool} {cs ds : List CVal} {vs us : List Value} (n : Nat) (h : CsRel N w fl cs vs) (k : CsRel N w fl ds us) :
    CsRel N w fl (splice cs n ds) (vs.take n ++ us ++ vs.drop (n + us.length)) := by
  unfold Abs.splice
  rw [k.len]
  exact ((h.take n).append k).append (h.drop _)

theorem AsRel.ofC : ∀ {fl : Bool} {cs : List CVal} {vs : List Value}, CsRel N w fl cs vs → AsRel N w μ b fl (cs.map .v) vs
  | _, [], _, h => h
  | _, c :: r, _, h => by
    obtain ⟨u, us, rfl, hc, hf, h⟩ := h
    exact ⟨u, us, rfl, hc, hf, AsRel.ofC h⟩

theorem allV_eq : ∀ {cs : List AVal} {xs : List CVal}, allV cs = some xs → cs = xs.map .v
  | [], xs, h => by simp [allV] at h; subst h; rfl
  | .v c :: r, xs, h => by
    simp only [allV] at h
    obtain ⟨l, hl, h⟩ := bind_some' h
    simp at h; subst h
    simp [allV_eq hl]
  | .nl :: _, _, h => by simp [allV] at h
  | .lptr _ _ :: _, _, h => by simp [allV] at h
  | .lel _ _ _ _ :: _, _, h => by simp [allV] at h
  | .lref _ _ :: _, _, h => by simp [allV] at h
  | .agg _ :: _, _, h => by simp [allV] at h
  | .func _ _ :: _, _, h => by simp [allV] at h
  | .tup _ :: _, _, h => by simp [allV] at h
  | .un :: _, _, h => by simp [allV] at h

theorem AsRel.toC : ∀ {fl : Bool} {cs : List CVal} {vs : List Value}, AsRel N w μ b fl (cs.map .v) vs → CsRel N w fl cs vs
  | _, [], _, h => h
  | _, c :: r, _, h => by
    obtain ⟨u, us, rfl, hc, hf, h⟩ := h
    exact ⟨u, us, rfl, hc, hf, AsRel.toC h⟩

theorem mkAgg_rel {cs : List AVal} {vs : List Value} (h : AsRel N w μ b true cs vs) : ARel N w μ b (mkAgg cs) (.agg vs.toArray) := by
  unfold mkAgg
  split
  · rename_i xs hx
    have e := allV_eq hx
    subst e
    exact ⟨vs, rfl, AsRel.toC h⟩
  · exact ⟨vs, rfl, h⟩

/-- The cells of a closed value. -/
theorem CRel.cells {c : CVal} {v : Value} (h : CRel N w c v) (hf : (∃ n, c.isAggN n = true) ∨ c.isFlat = true) : ∃ vs : List Value, v.cells = vs.toArray ∧ CsRel N w true c.cells vs := by
  cases c with
  | agg cs =>
    obtain ⟨vs, rfl, h⟩ := h
    exact ⟨vs, rfl, h⟩
  | tup cs => rcases hf with ⟨n, hf⟩ | hf <;> simp [CVal.isAggN, CVal.isFlat] at hf
  | _ =>
    have hv : flat v = true := by
      first
        | (rw [show v = _ from h]; rfl)
        | (obtain ⟨_, _, rfl, _⟩ := h; rfl)
        | (obtain ⟨_, rfl, _⟩ := h; rfl)
        | (obtain ⟨_, _, _, rfl, _⟩ := h; rfl)
    exact ⟨[v], by rw [cells_flat hv], v, [], rfl, h, fun _ => hv, rfl⟩

theorem CRel.flat {c : CVal} {v : Value} (h : CRel N w c v) (hf : c.isFlat = true) : flat v = true := by
  cases c with
  | agg cs => simp [CVal.isFlat] at hf
  | tup cs => simp [CVal.isFlat] at hf
  | _ =>
    first
      | (rw [show v = _ from h]; rfl)
      | (obtain ⟨_, _, rfl, _⟩ := h; rfl)
      | (obtain ⟨_, rfl, _⟩ := h; rfl)
      | (obtain ⟨_, _, _, rfl, _⟩ := h; rfl)

theorem isAggN_iff {n : Nat} {c : CVal} (h : c.isAggN n = true) : ∃ cs, c = .agg cs ∧ cs.length = n := by
  cases c <;> simp [CVal.isAggN] at h
  exact ⟨_, rfl, h⟩

/-- The size that a type's values have. -/
theorem CRel.fits {agg : Bool} {n : Nat} {c : CVal} {v : Value} (h : CRel N w c v) (hf : c.fits agg n = true) :
    ∃ vs : List Value, v.cells = vs.toArray ∧ CsRel N w true c.cells vs ∧ vs.length = n ∧ (agg = true → v = .agg vs.toArray) ∧ (agg = false → vs = [v] ∧ Abs.flat v = true) := by
  cases agg with
  | true =>
    obtain ⟨cs, rfl, hn⟩ := isAggN_iff (show c.isAggN n = true from hf)
    obtain ⟨vs, rfl, h⟩ := h
    exact ⟨vs, rfl, h, by rw [h.len]; exact hn, fun _ => rfl, (fun h => by cases h)⟩
  | false =>
    have hf' : c.isFlat = true ∧ n = 1 := by simpa [CVal.fits] using hf
    have hv := CRel.flat h hf'.1
    refine ⟨[v], by rw [cells_flat hv], ?_, by simp [hf'.2], (fun h => by cases h), fun _ => ⟨rfl, hv⟩⟩
    have : c.cells = [c] := by cases c <;> first | rfl | (simp [CVal.isFlat] at hf')
    rw [this]
    exact ⟨v, [], rfl, h, fun _ => hv, rfl⟩

/-! ### Elements -/
theorem ElRel.get : ∀ {sz x o : Nat} {cs : List CVal} {i : Nat} {c : CVal}, ElRel N w sz x o cs → cs[i]? = some c →
    ∃ u, noTup c = true ∧ CRel N w c u ∧ u.cells.size = sz ∧ ∀ j, j < sz → w.cell? (pl x (o + i * sz + j)) = u.cells[j]?
  | _, _, _, [], i, _, _, hi => by simp at hi
  | sz, x, o, c :: r, 0, _, h, hi => by
    obtain ⟨⟨u, ht, hc, hz, hj⟩, h⟩ := h
    simp at hi; subst hi
    exact ⟨u, ht, hc, hz, fun j h => by simpa using hj j h⟩
  | sz, x, o, c :: r, i + 1, _, h, hi => by
    obtain ⟨_, h⟩ := h
    obtain ⟨u, ht, hc, hz, hj⟩ := ElRel.get h (by simpa using hi)
    exact ⟨u, ht, hc, hz, fun j h => by rw [← hj j h]; congr 2; rw [Nat.add_mul]; omega⟩

theorem ElRel.take : ∀ {sz x o : Nat} {cs : List CVal} (n : Nat), ElRel N w sz x o cs → ElRel N w sz x o (cs.take n)
  | _, _, _, [], n, h => by simp [ElRel]
  | _, _, _, c :: r, 0, h => by simp [ElRel]
  | sz, x, o, c :: r, n + 1, h => by
    obtain ⟨h1, h⟩ := h
    exact ⟨h1, ElRel.take n h⟩
theorem ElRel.drop : ∀ {sz x o : Nat} {cs : List CVal} (n : Nat), ElRel N w sz x o cs → ElRel N w sz x (o + n * sz) (cs.drop n)
  | _, _, _, [], n, h => by simp [ElRel]
  | _, _, _, c :: r, 0, h => by simpa using h
  | sz, x, o, c :: r, n + 1, h => by
    obtain ⟨h1, h⟩ := h
    have := ElRel.drop n h
    simp only [List.drop_succ_cons]
    rw [show o + (n + 1) * sz = o + sz + n * sz by rw [Nat.add_mul]; omega]
    exact this
theorem ElRel.append : ∀ {sz x o : Nat} {cs ds : List CVal}, ElRel N w sz x o cs → ElRel N w sz x (o + cs.length * sz) ds → ElRel N w sz x o (cs ++ ds)
  | _, _, _, [], _, h, k => by simpa using k
  | sz, x, o, c :: r, _, h, k => by
    obtain ⟨h1, h⟩ := h
    refine ⟨h1, ElRel.append h ?_⟩
    rw [show o + sz + r.length * sz = o + (c :: r).length * sz by simp [Nat.add_mul]; omega]
    exact k

theorem pl_add (x o n : Nat) : (pl x o).add n = pl x (o + n) := by
  unfold Addr.add pl
  split
  · subst_vars; simp
  · simp
end

/-! ### The program's tables -/
section
variable {P : Program} {w : World}
theorem run_und {t : TypeId} {d : TypeDesc} (h : P.underlying t = some d) : (underlying t).run P w = .ok d w := by simp [underlying, h]

theorem info_of {t : TypeId} {d : TypeDesc} (h : P.underlying t = some d) : ∃ i, P.info? t = some i := by
  unfold Program.underlying at h
  cases hi : P.info? t with
  | none => simp [hi] at h
  | some i => exact ⟨i, rfl⟩

theorem run_size {t : TypeId} {d : TypeDesc} (h : P.underlying t = some d) : (sizeOf t).run P w = .ok (P.cellsOf t) w := by
  obtain ⟨i, hi⟩ := info_of h
  simp [sizeOf, typeInfo, hi, Program.cellsOf]

theorem run_agg {t : TypeId} {d : TypeDesc} (h : P.underlying t = some d) : (isAgg t).run P w = .ok (aggT P t) w := by
  simp only [isAgg, Sem.run_bind, run_und h, Result.andThen_ok, aggT, h]
  cases d <;> rfl

theorem run_zero {t : TypeId} {i : TypeInfo} {z : Value} (hi : P.info? t = some i) (hz : i.zero = some z) : (zeroValue t).run P w = .ok z w := by
  simp [zeroValue, typeInfo, hi, hz]
end

end Go.Proofs.YtomkegeojknihaaDoor.Abs

/-! Reading and writing memory. -/
namespace Go.Proofs.YtomkegeojknihaaDoor.Abs
open Go
variable [Glob]

/-- What an operation leaves. -/
structure Post (F : Nat → Prop) (w : World) (μ : List Hd) (b : List Blk) (w' : World) (μ' : List Hd) (b' : List Blk) (x : AVal) (v : Value) : Prop where
  upd : Upd F w μ b w' μ' b'
  rel : Rel F w' μ' b'
  val : ARel (Or F (Own μ' b')) w' μ' b' x v
  fr : Fr (Own μ b) w w'

theorem Upd.refl {F : Nat → Prop} {w : World} {μ : List Hd} {b : List Blk} (R : Rel F w μ b) : Upd F w μ b w μ b :=
  ⟨R.len, R.len, fun i blk h hb hm => ⟨blk, h, hb, hm, .refl _ _⟩, Nat.le_refl _, fun x hx => ⟨(R.fres x hx).2, .inr hx⟩, fun _ _ _ => rfl⟩

theorem Post.same {F : Nat → Prop} {w : World} {μ : List Hd} {b : List Blk} {x : AVal} {v : Value} (R : Rel F w μ b) (h : ARel (Or F (Own μ b)) w μ b x v) :
    Post F w μ b w μ b x v := ⟨.refl R, R, h, .refl _ _⟩

theorem VerOk.trans {a b c : Blk} {h k l : Hd} (x : VerOk a h b k) (y : VerOk b k c l) : VerOk a h c l :=
  ⟨Nat.le_trans x.le y.le, fun n => y.nn (x.nn n), fun v e => y.box v (x.box v e), fun e ha hn => by
    have e1 := x.le
    have e2 := y.le
    obtain ⟨h1, h2⟩ := y.same (by omega) ha (x.nn hn)
    obtain ⟨h3, h4⟩ := x.same (by omega) h1 hn
    exact ⟨h3, by rw [h2, h4]⟩⟩

theorem Upd.trans {F : Nat → Prop} {w w1 w2 : World} {μ μ1 μ2 : List Hd} {b b1 b2 : List Blk} (U : Upd F w μ b w1 μ1 b1) (V : Upd F w1 μ1 b1 w2 μ2 b2) :
    Upd F w μ b w2 μ2 b2 := by
  refine ⟨U.len0, V.len, ?_, Nat.le_trans U.size V.size, ?_, ?_⟩
  · intro i blk h hb hm
    obtain ⟨blk1, h1, hb1, hm1, v1⟩ := U.old i blk h hb hm
    obtain ⟨blk2, h2, hb2, hm2, v2⟩ := V.old i blk1 h1 hb1 hm1
    exact ⟨blk2, h2, hb2, hm2, v1.trans v2⟩
  · intro x hx
    obtain ⟨h1, h2⟩ := V.own x hx
    refine ⟨h1, ?_⟩
    rcases h2 with h2 | h2
    · have := U.size; exact .inl (by omega)
    · exact (U.own x h2).2
  · intro x hx hn
    rw [V.mem x (Nat.lt_of_lt_of_le hx U.size) ?_, U.mem x hx hn]
    intro h
    rcases (U.own x h).2 with h' | h'
    · omega
    · exact hn h'

theorem Fr.step {F : Nat → Prop} {w w1 w2 : World} {μ μ1 : List Hd} {b b1 : List Blk} (U : Upd F w μ b w1 μ1 b1) (f : Fr (Own μ b) w w1) (g : Fr (Own μ1 b1) w1 w2) :
    Fr (Own μ b) w w2 :=
  f.trans g fun x hx ho => by
    rcases (U.own x ho).2 with h | h
    · omega
    · exact h

section
variable {P : Program} {w : World} {F N : Nat → Prop} {μ : List Hd} {b : List Blk}

theorem run_loadVar_agg {t : TypeId} {d : TypeDesc} {x o : Nat} {vs : List Value} (h : P.underlying t = some d) (ha : aggT P t = true) (hn : vs.length = P.cellsOf t)
    (hc : ∀ j v, vs[j]? = some v → w.cell? (pl x (o + j)) = some v) : (loadVar t (pl x o)).run P w = .ok (.agg vs.toArray) w := by
  have hl : (loadCells (pl x o) (P.cellsOf t)).run P w = .ok vs.toArray w := by
    rw [← hn]
    exact run_loadCells_list w (pl x o) vs fun j v hj => by rw [pl_add]; exact hc j v hj
  simp [loadVar, run_agg h, ha, run_size h, hl]

theorem run_loadVar_one {t : TypeId} {d : TypeDesc} {x o : Nat} {v : Value} (h : P.underlying t = some d) (ha : aggT P t = false)
    (hc : w.cell? (pl x o) = some v) : (loadVar t (pl x o)).run P w = .ok v w := by
  simp [loadVar, run_agg h, ha, hc]

theorem cell_of_heap {x o : Nat} {vs : List Value} {e : TypeId} {fr : Nat × Nat} (h : w.heap[x]? = some (.cells vs.toArray e fr)) : w.cell? (pl x o) = vs[o]? := by
  simp [World.cell?, pl, h]

/-- A box, at its place. -/
theorem Rel.box {i : Nat} {cs : List AVal} (R : Rel F w μ b) (h : boxOf b i = some cs) : ∃ ver x vs e, b[i]? = some ⟨ver, .box cs⟩ ∧ μ[i]? = some (.box x) ∧
    w.heap[x]? = some (.cells (List.toArray vs) e (0, 0)) ∧ AsRel (Or F (Own μ b)) w μ b true cs vs ∧ Own μ b x := by
  unfold boxOf at h
  split at h
  · rename_i ver cs' hb
    simp at h; subst h
    have hi : i < μ.length := by rw [R.len]; exact (List.getElem?_eq_some_iff.1 hb).1
    obtain ⟨x, vs, e, hx, hw, ha⟩ := R.blk i _ _ hb (List.getElem?_eq_getElem hi)
    have hm : μ[i]? = some (.box x) := by rw [List.getElem?_eq_getElem hi, hx]
    exact ⟨ver, x, vs, e, hb, hm, hw, ha, i, _, _, hb, rfl, hm, rfl⟩
  · cases h

theorem Rel.arr {i ver : Nat} {xs : List CVal} (R : Rel F w μ b) (h : arrOf b i ver = some xs) : ∃ sz base cap, b[i]? = some ⟨ver, .arr sz xs⟩ ∧ μ[i]? = some (.arr base xs.length cap sz) ∧
    xs.length ≤ cap ∧ (cap = 0 ∨ ∃ x cells e, base = some (pl x 0) ∧ w.heap[x]? = some (.cells cells e (0, 0)) ∧ cap * sz ≤ cells.size ∧ ElRel (Or F (Own μ b)) w sz x 0 xs) := by
  unfold arrOf at h
  split at h
  · rename_i ver' sz xs' hb
    obtain ⟨h1, h2⟩ := br_none h
    simp at h1 h2; subst h1 h2
    have hi : i < μ.length := by rw [R.len]; exact (List.getElem?_eq_some_iff.1 hb).1
    obtain ⟨base, cap, hx, hl, hc⟩ := R.blk i _ _ hb (List.getElem?_eq_getElem hi)
    exact ⟨sz, base, cap, hb, by rw [List.getElem?_eq_getElem hi, hx], hl, hc⟩
  · cases h

/-- Reading a part of a closed value that lies in memory. -/
theorem load_part {t : TypeId} {d : TypeDesc} {R' : Type} {c : CVal} {u : Value} {x o off : Nat} {K : AVal → Option R'} {r : R'} (hd : P.underlying t = some d) (hc : CRel N w c u)
    (hj : ∀ j, j < u.cells.size → w.cell? (pl x (o + j)) = u.cells[j]?) (hfl : (∃ n, c.isAggN n = true) ∨ c.isFlat = true)
    (h : br (aggT P t) ((c.sub off (P.cellsOf t)).bind fun d => K (.v d)) ((c.cell off).bind fun d => K (.v d)) = some r) :
    ∃ y, K (.v y) = some r ∧ ∃ v, (loadVar t (pl x (o + off))).run P w = .ok v w ∧ CRel N w y v := by
  obtain ⟨vs, hvs, hcs⟩ := CRel.cells hc hfl
  have hcell : ∀ j v, vs[j]? = some v → w.cell? (pl x (o + j)) = some v := by
    intro j v hv
    rw [hj j (by rw [hvs]; simpa using (List.getElem?_eq_some_iff.1 hv).1), hvs]
    simpa using hv
  rcases br_some h with ⟨ha, h⟩ | ⟨ha, h⟩
  · obtain ⟨y, hy, h⟩ := bind_some' h
    refine ⟨y, h, ?_⟩
    unfold CVal.sub at hy
    rcases br_some hy with ⟨h1, h2⟩ | ⟨h1, h2⟩
    · simp only [Option.some.injEq] at h2
      simp only [Bool.and_eq_true, decide_eq_true_eq] at h1
      obtain ⟨h0, h1⟩ := h1
      subst h2 h0
      obtain ⟨cs, rfl, hn⟩ := isAggN_iff h1
      obtain ⟨vs', rfl, hcs'⟩ := hc
      have : vs = vs' := by simpa [Value.cells] using hvs.symm
      subst this
      exact ⟨_, run_loadVar_agg hd ha (by rw [hcs'.len]; exact hn) (fun j v hv => by simpa using hcell j v hv), vs, rfl, hcs'⟩
    · obtain ⟨h1, h2⟩ := br_none h2
      simp only [Option.some.injEq] at h2
      simp only [decide_eq_true_eq] at h1
      subst h2
      have hcs' := (hcs.drop off).take (P.cellsOf t)
      have hlen := hcs.len
      refine ⟨.agg ((vs.drop off).take (P.cellsOf t)).toArray, run_loadVar_agg hd ha (by rw [hcs'.len]; simp; omega) ?_, _, rfl, hcs'⟩
      intro j v hv
      have hj : j < P.cellsOf t := by
        have := (List.getElem?_eq_some_iff.1 hv).1
        simp at this; omega
      rw [List.getElem?_take_of_lt hj, List.getElem?_drop] at hv
      rw [Nat.add_assoc]
      exact hcell _ _ hv
  · obtain ⟨y, hy, h⟩ := bind_some' h
    obtain ⟨v, hv, hr, _⟩ := hcs.get hy
    exact ⟨y, h, v, run_loadVar_one hd ha (hcell _ _ hv), hr⟩

theorem sureAddr_run {a : Addr} : (Instr.sureAddr (.pointer (some a))).run P w = .ok a w := rfl

theorem loadK_sound {t : TypeId} {R' : Type} {x : AVal} {v : Value} {K : AVal → Option R'} {r : R'} (R : Rel F w μ b) (hx : ARel (Or F (Own μ b)) w μ b x v)
    (h : loadK P t b x K = some r) : ∃ y, K y = some r ∧ ∃ u, (Instr.loadAt t v).run P w = .ok u w ∧ ARel (Or F (Own μ b)) w μ b y u := by
  unfold loadK at h
  split at h
  · cases h
  rename_i d hd
  split at h
  · rename_i i off
    obtain ⟨cs, hcs, h⟩ := bind_some' h
    obtain ⟨ver, x', vs, e, hb, hm, hw, ha, ho⟩ := R.box hcs
    obtain ⟨x'', hm', rfl⟩ := hx
    rw [hm] at hm'; cases hm'
    rcases br_some h with ⟨hag, h⟩ | ⟨hag, h⟩
    · obtain ⟨hl, h⟩ := br_none h
      simp only [decide_eq_true_eq] at hl
      refine ⟨_, h, .agg ((vs.drop off).take (P.cellsOf t)).toArray, ?_, ?_⟩
      · have hlen := ha.len
        simp only [Instr.loadAt, Sem.run_bind, sureAddr_run, Result.andThen_ok]
        refine run_loadVar_agg hd hag (by simp; omega) fun j v hv => ?_
        have hj : j < P.cellsOf t := by
          have := (List.getElem?_eq_some_iff.1 hv).1
          simp at this; omega
        rw [List.getElem?_take_of_lt hj, List.getElem?_drop] at hv
        rw [cell_of_heap hw]; exact hv
      · exact mkAgg_rel ((ha.drop off).take _)
    · obtain ⟨y, hy, h⟩ := bind_some' h
      obtain ⟨u, hu, hr, _⟩ := ha.get hy
      refine ⟨y, h, u, ?_, hr⟩
      simp only [Instr.loadAt, Sem.run_bind, sureAddr_run, Result.andThen_ok]
      exact run_loadVar_one hd hag (by rw [cell_of_heap hw]; exact hu)
  · rename_i i ver idx off
    obtain ⟨xs, hxs, h⟩ := bind_some' h
    obtain ⟨c, hc, h⟩ := bind_some' h
    obtain ⟨sz, base, cap, hb, hm, hl, hcap⟩ := R.arr hxs
    obtain ⟨_, blk, hd', hb', hm', hn, hle, hcur⟩ := hx
    rw [hb] at hb'; cases hb'
    rw [hm] at hm'; cases hm'
    obtain ⟨x', len, cap', sz', he, hidx, rfl⟩ := hcur rfl rfl
    cases he
    rcases hcap with h0 | ⟨x'', cells, e, hbase, hw, hsz, hel⟩
    · omega
    · cases hbase
      obtain ⟨u, ht, hcu, hz, hj⟩ := hel.get hc
      have hfl := noTup_fl ht
      obtain ⟨y, hy, u', hr, hyu⟩ := load_part (x := x') (o := 0 + idx * sz) (off := off) hd hcu (fun j hjj => hj j (by omega)) hfl h
      refine ⟨_, hy, u', ?_, hyu⟩
      simp only [Instr.loadAt, Sem.run_bind, sureAddr_run, Result.andThen_ok]
      simpa using hr
  · rename_i p
    obtain ⟨q, hq, h⟩ := bind_some' h
    cases p <;> simp [CVal.asFp] at hq
    rename_i c off
    subst hq
    obtain ⟨x', o, u, rfl, hnb, hs, ht, hcu, hj⟩ := hx
    have hfl := noTup_fl ht
    obtain ⟨y, hy, u', hr, hyu⟩ := load_part (x := x') (o := o) (off := off) hd hcu hj hfl h
    exact ⟨_, hy, u', by simp only [Instr.loadAt, Sem.run_bind, sureAddr_run, Result.andThen_ok]; exact hr, hyu⟩
  · cases h
end

end Go.Proofs.YtomkegeojknihaaDoor.Abs

/-! Closing, new blocks, stores. -/
namespace Go.Proofs.YtomkegeojknihaaDoor.Abs
open Go
variable [Glob]

section
variable {P : Program} {w : World} {F N : Nat → Prop} {μ : List Hd} {b : List Blk}

theorem explodeC_eq {R : Type} {c : CVal} : ∀ {n i : Nat} {K : List CVal → Option R} {r : R}, explodeC c i n K = some r →
    ∃ xs, K xs = some r ∧ xs.length = n ∧ ∀ j x, xs[j]? = some x → c.cells[i + j]? = some x
  | 0, i, K, r, h => ⟨[], h, rfl, fun j x hx => by simp at hx⟩
  | n + 1, i, K, r, h => by
    obtain ⟨x, hx, h⟩ := bind_some' h
    obtain ⟨xs, h1, h2, h3⟩ := explodeC_eq h
    refine ⟨x :: xs, h1, by simp [h2], fun j y hy => ?_⟩
    cases j with
    | zero => simp at hy; subst hy; exact hx
    | succ j =>
      rw [show i + (j + 1) = i + 1 + j by omega]
      exact h3 j y (by simpa using hy)

theorem explodeL_eq {R : Type} {l : List CVal} : ∀ {n i : Nat} {K : List CVal → Option R} {r : R}, explodeL l i n K = some r →
    ∃ xs, K xs = some r ∧ xs.length = n ∧ ∀ j x, xs[j]? = some x → l[i + j]? = some x
  | 0, i, K, r, h => ⟨[], h, rfl, fun j x hx => by simp at hx⟩
  | n + 1, i, K, r, h => by
    obtain ⟨x, hx, h⟩ := bind_some' h
    obtain ⟨xs, h1, h2, h3⟩ := explodeL_eq h
    refine ⟨x :: xs, h1, by simp [h2], fun j y hy => ?_⟩
    cases j with
    | zero => simp at hy; subst hy; exact hx
    | succ j =>
      rw [show i + (j + 1) = i + 1 + j by omega]
      exact h3 j y (by simpa using hy)

theorem same_of_get {α : Type} {xs l : List α} (hn : xs.length = l.length) (h : ∀ (j : Nat) (x : α), xs[j]? = some x → l[0 + j]? = some x) : xs = l := by
  apply List.ext_getElem?
  intro j
  by_cases hj : j < xs.length
  · rw [List.getElem?_eq_getElem hj]
    have := h j _ (List.getElem?_eq_getElem hj)
    simpa using this.symm
  · rw [List.getElem?_eq_none (by omega), List.getElem?_eq_none (by omega)]

def flatX : AVal → Prop
  | .agg _ => False
  | .tup _ => False
  | .un => False
  | .v c => c.isFlat = true
  | _ => True

theorem ARel.flatOf {x : AVal} {v : Value} (h : ARel N w μ b x v) (hx : flatX x) : flat v = true := by
  cases x with
  | v c => exact CRel.flat h hx
  | nl => obtain ⟨_, rfl⟩ := h; rfl
  | lptr i off => obtain ⟨_, _, rfl⟩ := h; rfl
  | lref i ver => exact h.1
  | lel i ver idx off => obtain ⟨⟨_, rfl⟩, _⟩ := h; rfl
  | func f cs => obtain ⟨_, rfl, _⟩ := h; rfl
  | agg _ => exact hx.elim
  | tup _ => exact hx.elim
  | un => exact hx.elim

theorem wCells_sound {R' : Type} {agg : Bool} {n : Nat} {x : AVal} {v : Value} {K : List AVal → Option R'} {r : R'} (hx : ARel N w μ b x v) (h : wCells agg n x K = some r) :
    ∃ cs vs, K cs = some r ∧ AsRel N w μ b true cs vs ∧ v.cells = List.toArray vs ∧ vs.length = n ∧ (agg = true → v = .agg (List.toArray vs)) ∧ (agg = false → cs = [x] ∧ vs = [v]) := by
  unfold wCells at h
  rcases br_some h with ⟨ha, h⟩ | ⟨ha, h⟩
  · subst ha
    cases x with
    | agg cs =>
      have h : br (cs.length == n) (K cs) none = some r := h
      obtain ⟨h1, h⟩ := br_none h
      obtain ⟨vs, rfl, hc⟩ := hx
      exact ⟨cs, vs, h, hc, rfl, by rw [hc.len]; simpa using h1, fun _ => rfl, (fun h => by cases h)⟩
    | v c =>
      have h : br (c.isAggN n) (explodeC c 0 n fun xs => K (xs.map .v)) none = some r := h
      obtain ⟨h1, h⟩ := br_none h
      obtain ⟨xs, h0, h2, h3⟩ := explodeC_eq h
      obtain ⟨cs, rfl, hn⟩ := isAggN_iff h1
      have : xs = cs := same_of_get (by rw [h2, hn]) h3
      subst this
      obtain ⟨vs, rfl, hc⟩ := hx
      exact ⟨_, vs, h0, AsRel.ofC hc, rfl, by rw [hc.len]; exact hn, fun _ => rfl, (fun h => by cases h)⟩
    | _ => cases h
  · subst ha
    have fin : K [x] = some r → n = 1 → flatX x →
        ∃ cs vs, K cs = some r ∧ AsRel N w μ b true cs vs ∧ v.cells = List.toArray vs ∧ vs.length = n ∧ (false = true → v = .agg (List.toArray vs)) ∧ (false = false → cs = [x] ∧ vs = [v]) := by
      intro h1 h3 h4
      have hf := hx.flatOf h4
      exact ⟨[x], [v], h1, ⟨v, [], rfl, hx, fun _ => hf, rfl⟩, cells_flat hf, by simp [h3], (fun h => by cases h), fun _ => ⟨rfl, rfl⟩⟩
    cases x with
    | agg cs => cases h
    | tup cs => cases h
    | un => cases h
    | v c =>
      have h : br (c.isFlat && n == 1) (K [.v c]) none = some r := h
      obtain ⟨h1, h⟩ := br_none h
      simp only [Bool.and_eq_true, beq_iff_eq] at h1
      exact fin h h1.2 h1.1
    | nl | lptr _ _ | lel _ _ _ _ | lref _ _ | func _ _ =>
      obtain ⟨h5, h⟩ := br_none (x := K _) h
      exact fin h (by simpa using h5) trivial

/-! ### Killing -/
/-- Some of the blocks have died. -/
structure Sub (b' b : List Blk) : Prop where
  len : b'.length = b.length
  at_ : ∀ (i : Nat) (blk : Blk), b'[i]? = some blk → alive blk.body = true → b[i]? = some blk

theorem Sub.refl (b : List Blk) : Sub b b := ⟨rfl, fun _ _ h _ => h⟩
theorem Sub.trans {a b c : List Blk} (h : Sub a b) (k : Sub b c) : Sub a c := ⟨h.len.trans k.len, fun i blk hi ha => k.at_ i blk (h.at_ i blk hi ha) ha⟩
theorem Sub.own {b' : List Blk} (h : Sub b' b) {x : Nat} (ho : Own μ b' x) : Own μ b x := by
  obtain ⟨i, blk, hd, hb, ha, hm, hx⟩ := ho
  exact ⟨i, blk, hd, h.at_ i blk hb ha, ha, hm, hx⟩
theorem Sub.keep {b' : List Blk} (h : Sub b' b) : Keep (Or F (Own μ b)) (Or F (Own μ b')) w w :=
  ⟨Nat.le_refl _, fun x _ hn => ⟨rfl, fun hc => hn (hc.imp id h.own)⟩⟩

theorem kill_sub (b : List Blk) (i : Nat) : Sub (kill b i) b := by
  unfold kill
  split
  · rename_i ver bd hb
    refine ⟨by simp, fun j blk hj ha => ?_⟩
    by_cases hij : i = j
    · subst hij
      rw [List.getElem?_set_self (List.getElem?_eq_some_iff.1 hb).1] at hj
      cases hj
      simp [alive] at ha
    · rwa [List.getElem?_set_ne hij] at hj
  · exact .refl _
theorem kill_dead {b : List Blk} {i : Nat} {blk : Blk} (h : (kill b i)[i]? = some blk) : alive blk.body = false := by
  unfold kill at h
  split at h
  · rename_i ver bd hb
    rw [List.getElem?_set_self (List.getElem?_eq_some_iff.1 hb).1] at h
    cases h
    rfl
  · rename_i hb
    rw [hb] at h; cases h

mutual
theorem killA_sub : ∀ (x : AVal) (b : List Blk), Sub (killA x b) b
  | .v _, b => .refl b
  | .nl, b => .refl b
  | .lptr _ _, b => .refl b
  | .lel _ _ _ _, b => .refl b
  | .lref i ver, b => kill_sub b i
  | .agg cs, b => killL_sub cs b
  | .func _ cs, b => killL_sub cs b
  | .tup cs, b => killL_sub cs b
  | .un, b => .refl b
theorem killL_sub : ∀ (cs : List AVal) (b : List Blk), Sub (killL cs b) b
  | [], b => .refl b
  | x :: r, b => (killL_sub r (killA x b)).trans (killA_sub x b)
end

/-- The blocks that a value owns are dead. -/
def DeadAt (b' : List Blk) (i : Nat) : Prop := ∀ blk, b'[i]? = some blk → alive blk.body = false
mutual
def Dead (b' : List Blk) : AVal → Prop
  | .lref i _ => DeadAt b' i
  | .agg cs => DeadL b' cs
  | .func _ cs => DeadL b' cs
  | .tup cs => DeadL b' cs
  | _ => True
def DeadL (b' : List Blk) : List AVal → Prop
  | [] => True
  | x :: r => Dead b' x ∧ DeadL b' r
end
theorem DeadAt.sub {b' b : List Blk} {i : Nat} (h : DeadAt b i) (s : Sub b' b) : DeadAt b' i := fun blk hb => by
  cases ha : alive blk.body with
  | false => rfl
  | true => rw [← ha]; exact h blk (s.at_ i blk hb ha)
mutual
theorem Dead.sub {b' b : List Blk} (s : Sub b' b) : ∀ {x : AVal}, Dead b x → Dead b' x
  | .v _, _ => trivial
  | .nl, _ => trivial
  | .lptr _ _, _ => trivial
  | .lel _ _ _ _, _ => trivial
  | .lref i ver, h => DeadAt.sub h s
  | .agg cs, h => DeadL.sub s (cs := cs) h
  | .func _ cs, h => DeadL.sub s (cs := cs) h
  | .tup cs, h => DeadL.sub s (cs := cs) h
  | .un, _ => trivial
theorem DeadL.sub {b' b : List Blk} (s : Sub b' b) : ∀ {cs : List AVal}, DeadL b cs → DeadL b' cs
  | [], _ => trivial
  | x :: r, h => ⟨Dead.sub s h.1, DeadL.sub s h.2⟩
end
mutual
theorem killA_dead : ∀ (x : AVal) (b : List Blk), Dead (killA x b) x
  | .v _, b => trivial
  | .nl, b => trivial
  | .lptr _ _, b => trivial
  | .lel _ _ _ _, b => trivial
  | .lref i ver, b => fun blk h => kill_dead h
  | .agg cs, b => killL_dead cs b
  | .func _ cs, b => killL_dead cs b
  | .tup cs, b => killL_dead cs b
  | .un, b => trivial
theorem killL_dead : ∀ (cs : List AVal) (b : List Blk), DeadL (killL cs b) cs
  | [], b => trivial
  | x :: r, b => ⟨Dead.sub (killL_sub r (killA x b)) (killA_dead x b), killL_dead r (killA x b)⟩
end

mutual
theorem closeA_sound (R : Rel F w μ b) {b' : List Blk} (s : Sub b' b) : ∀ {x : AVal} {c : CVal} {v : Value}, closeA b x = some c → ARel (Or F (Own μ b)) w μ b x v → Dead b' x →
    CRel (Or F (Own μ b')) w c v
  | .v c, _, v, h, hx, _ => by
    simp only [closeA, Option.some.injEq] at h; subst h
    exact CRel.keep s.keep hx
  | .nl, _, v, h, hx, _ => by
    simp only [closeA, Option.some.injEq] at h; subst h
    obtain ⟨base, rfl⟩ := hx
    exact ⟨base, 0, rfl, Nat.le_refl _, .inl rfl⟩
  | .lptr _ _, _, _, h, _, _ => by simp [closeA] at h
  | .lel _ _ _ _, _, _, h, _, _ => by simp [closeA] at h
  | .un, _, _, h, _, _ => by simp [closeA] at h
  | .lref i ver, _, v, h, hx, hd => by
    simp only [closeA] at h
    obtain ⟨xs, hxs, h⟩ := bind_some' h
    simp only [Option.some.injEq] at h; subst h
    obtain ⟨sz, base, cap, hb, hm, hl, hc⟩ := R.arr hxs
    obtain ⟨_, blk, hh, hb', hm', _, _, hcur⟩ := hx
    rw [hb] at hb'; cases hb'
    rw [hm] at hm'; cases hm'
    have hv := hcur rfl rfl
    subst hv
    refine ⟨base, cap, rfl, hl, ?_⟩
    rcases hc with hc | ⟨x, cells, e, rfl, hw, hz, he⟩
    · left; have : xs.length = 0 := by omega
      exact List.length_eq_zero_iff.1 this
    · by_cases h0 : cap = 0
      · left; have : xs.length = 0 := by omega
        exact List.length_eq_zero_iff.1 this
      · have hown : Own μ b x := ⟨i, _, _, hb, rfl, hm, by simp [Hd.own, h0, pl]⟩
        refine .inr ⟨x, 0, sz, rfl, ?_, (R.fres x hown).2, ElRel.keepAt s.keep rfl he⟩
        rintro (hf | ⟨j, blk, hj, hbj, haj, hmj, hoj⟩)
        · exact (R.fres x hown).1 hf
        · have := R.inj i j _ blk _ hj x hb (s.at_ j blk hbj haj) rfl haj hm hmj (by simp [Hd.own, h0, pl]) hoj
          subst this
          have := hd blk hbj
          rw [haj] at this; cases this
  | .agg cs, _, v, h, hx, hd => by
    simp only [closeA] at h
    obtain ⟨xs, hxs, h⟩ := bind_some' h
    simp only [Option.some.injEq] at h; subst h
    obtain ⟨vs, rfl, hc⟩ := hx
    exact ⟨vs, rfl, closeL_sound R s hxs hc hd⟩
  | .func f cs, _, v, h, hx, hd => by
    simp only [closeA] at h
    obtain ⟨xs, hxs, h⟩ := bind_some' h
    simp only [Option.some.injEq] at h; subst h
    obtain ⟨vs, rfl, hc⟩ := hx
    exact ⟨vs, rfl, closeL_sound R s hxs hc hd⟩
  | .tup cs, _, v, h, hx, hd => by
    simp only [closeA] at h
    obtain ⟨xs, hxs, h⟩ := bind_some' h
    simp only [Option.some.injEq] at h; subst h
    obtain ⟨vs, rfl, hc⟩ := hx
    exact ⟨vs, rfl, closeL_sound R s hxs hc hd⟩
theorem closeL_sound (R : Rel F w μ b) {b' : List Blk} (s : Sub b' b) : ∀ {fl : Bool} {cs : List AVal} {xs : List CVal} {vs : List Value}, closeL b cs = some xs →
    AsRel (Or F (Own μ b)) w μ b fl cs vs → DeadL b' cs → CsRel (Or F (Own μ b')) w fl xs vs
  | _, [], _, vs, h, hx, _ => by
    simp only [closeL, Option.some.injEq] at h; subst h
    exact hx
  | _, x :: r, _, vs, h, hx, hd => by
    simp only [closeL] at h
    obtain ⟨c, hc, h⟩ := bind_some' h
    obtain ⟨cs, hcs, h⟩ := bind_some' h
    simp only [Option.some.injEq] at h; subst h
    obtain ⟨u, us, rfl, hu, hf, hr⟩ := hx
    exact ⟨u, us, rfl, closeA_sound R s hc hu hd.1, hf, closeL_sound R s hcs hr hd.2⟩
end

theorem kill_upd (R : Rel F w μ b) (i : Nat) : Upd F w μ b w μ (kill b i) ∧ Rel F w μ (kill b i) := by
  unfold kill
  split
  · rename_i ver bd hb
    have hi := (List.getElem?_eq_some_iff.1 hb).1
    have O : One F w μ b w μ (b.set i ⟨ver + 1, .dead⟩) i := by
      refine ⟨R, by simpa using R.len, by simp, fun j hj hne => ⟨List.getElem?_set_ne (Ne.symm hne), rfl⟩, by simpa using hi, ?_, Nat.le_refl _, ?_, fun _ _ _ => rfl⟩
      · intro blk h hb' hm
        rw [hb] at hb'; cases hb'
        exact ⟨_, h, List.getElem?_set_self hi, hm, ⟨Nat.le_succ _, id, fun _ h => h, fun e => by simp at e⟩⟩
      · intro blk' h' x hb' hm ha
        rw [List.getElem?_set_self hi] at hb'; cases hb'
        simp [alive] at ha
    refine ⟨O.upd, O.done fun blk' h' hb' hm => ?_⟩
    rw [List.getElem?_set_self hi] at hb'; cases hb'
    trivial
  · exact ⟨.refl R, R⟩

mutual
theorem killA_upd : ∀ (x : AVal) {b : List Blk}, Rel F w μ b → Upd F w μ b w μ (killA x b) ∧ Rel F w μ (killA x b)
  | .v _, b, R => ⟨.refl R, R⟩
  | .nl, b, R => ⟨.refl R, R⟩
  | .lptr _ _, b, R => ⟨.refl R, R⟩
  | .lel _ _ _ _, b, R => ⟨.refl R, R⟩
  | .lref i ver, b, R => kill_upd R i
  | .agg cs, b, R => killL_upd cs R
  | .func _ cs, b, R => killL_upd cs R
  | .tup cs, b, R => killL_upd cs R
  | .un, b, R => ⟨.refl R, R⟩
theorem killL_upd : ∀ (cs : List AVal) {b : List Blk}, Rel F w μ b → Upd F w μ b w μ (killL cs b) ∧ Rel F w μ (killL cs b)
  | [], b, R => ⟨.refl R, R⟩
  | x :: r, b, R => by
    obtain ⟨U, R1⟩ := killA_upd x R
    obtain ⟨V, R2⟩ := killL_upd r R1
    exact ⟨U.trans V, R2⟩
end
end

end Go.Proofs.YtomkegeojknihaaDoor.Abs

/-! New blocks, stores, slices that grow. -/
namespace Go.Proofs.YtomkegeojknihaaDoor.Abs
open Go
variable [Glob]

section
variable {P : Program} {w : World} {F N : Nat → Prop} {μ : List Hd} {b : List Blk}

/-- A place for a new block. -/
def Free (μ : List Hd) (b : List Blk) (q : Nat) : Prop := q = b.length ∨ (b[q]? = some ⟨0, .dead⟩ ∧ μ[q]? = some .none)

def putH (μ : List Hd) (q : Nat) (h : Hd) : List Hd := cond (decide (q < μ.length)) (μ.set q h) (μ ++ [h])

theorem putNew_len {q : Nat} {x : Blk} : b.length ≤ (putNew b q x).length := by
  unfold putNew; by_cases h : q < b.length <;> simp [h]
theorem putNew_off {q i : Nat} {x : Blk} (hq : q ≤ b.length) (hi : i < (putNew b q x).length) (hne : i ≠ q) : (putNew b q x)[i]? = b[i]? := by
  unfold putNew at *
  by_cases h : q < b.length
  · simp only [h, decide_true, cond_true]; rw [List.getElem?_set_ne (Ne.symm hne)]
  · have : q = b.length := by omega
    simp only [h, decide_false, cond_false] at *
    simp at hi
    rw [List.getElem?_append_left (by omega)]
theorem putNew_at {q : Nat} {x : Blk} (hq : q ≤ b.length) : (putNew b q x)[q]? = some x := by
  unfold putNew
  by_cases h : q < b.length
  · simp only [h, decide_true, cond_true]; exact List.getElem?_set_self h
  · have : q = b.length := by omega
    simp only [h, decide_false, cond_false]; subst this; simp
theorem putH_off {q i : Nat} {x : Hd} (hq : q ≤ μ.length) (hi : i < (putH μ q x).length) (hne : i ≠ q) : (putH μ q x)[i]? = μ[i]? := by
  unfold putH at *
  by_cases h : q < μ.length
  · simp only [h, decide_true, cond_true]; rw [List.getElem?_set_ne (Ne.symm hne)]
  · have : q = μ.length := by omega
    simp only [h, decide_false, cond_false] at *
    simp at hi
    rw [List.getElem?_append_left (by omega)]
theorem putH_at {q : Nat} {x : Hd} (hq : q ≤ μ.length) : (putH μ q x)[q]? = some x := by
  unfold putH
  by_cases h : q < μ.length
  · simp only [h, decide_true, cond_true]; exact List.getElem?_set_self h
  · have : q = μ.length := by omega
    simp only [h, decide_false, cond_false]; subst this; simp
theorem put_len (h : μ.length = b.length) (q : Nat) (x : Blk) (y : Hd) : (putH μ q y).length = (putNew b q x).length := by
  unfold putH putNew; rw [h]; by_cases hq : q < b.length <;> simp [hq, h]
theorem Free.le {q : Nat} (h : Free μ b q) : q ≤ b.length := by
  rcases h with h | ⟨h, _⟩
  · omega
  · exact Nat.le_of_lt (List.getElem?_eq_some_iff.1 h).1

theorem new_one {w' : World} {q : Nat} {blk : Blk} {h : Hd} (R : Rel F w μ b) (hq : Free μ b q) (hs : w.heap.size ≤ w'.heap.size)
    (hm : ∀ x, x < w.heap.size → w'.heap[x]? = w.heap[x]?) (hn : ∀ x, h.own = some x → w.heap.size ≤ x ∧ x < w'.heap.size) :
    One F w μ b w' (putH μ q h) (putNew b q blk) q := by
  have hl := hq.le
  refine ⟨R, put_len R.len _ _ _, putNew_len, fun i hi hne => ⟨putNew_off hl hi hne, putH_off (by rw [R.len]; exact hl) (by rw [put_len R.len q blk h]; exact hi) hne⟩,
    (List.getElem?_eq_some_iff.1 (putNew_at hl)).1, ?_, hs, ?_, fun x hx _ => hm x hx⟩
  · intro blk0 h0 hb hm0
    rcases hq with hq | ⟨hq, hq'⟩
    · subst hq; simp at hb
    · rw [hq] at hb; cases hb
      rw [hq'] at hm0; cases hm0
      exact ⟨blk, h, putNew_at hl, putH_at (by rw [R.len]; exact hl), Nat.zero_le _, fun h => absurd rfl h, (fun _ h => by cases h), fun _ _ h => absurd rfl h⟩
  · intro blk' h' x hb hm' _ ho
    rw [putH_at (by rw [R.len]; exact hl)] at hm'; cases hm'
    exact ⟨(hn x ho).2, .inl (hn x ho).1⟩

theorem new_post {w' : World} {q : Nat} {blk : Blk} {h : Hd} {x : AVal} {v : Value} (R : Rel F w μ b) (hq : Free μ b q) (hs : w.heap.size ≤ w'.heap.size)
    (hm : ∀ x, x < w.heap.size → w'.heap[x]? = w.heap[x]?) (hn : ∀ x, h.own = some x → w.heap.size ≤ x ∧ x < w'.heap.size)
    (hos : w'.os = w.os) (ht : w'.tape = w.tape) (ho : w'.output = w.output)
    (hB : Upd F w μ b w' (putH μ q h) (putNew b q blk) → BRel (Or F (Own (putH μ q h) (putNew b q blk))) w' (putH μ q h) (putNew b q blk) h blk.body)
    (hv : ARel (Or F (Own (putH μ q h) (putNew b q blk))) w' (putH μ q h) (putNew b q blk) x v) :
    Post F w μ b w' (putH μ q h) (putNew b q blk) x v := by
  have O := new_one (blk := blk) R hq hs hm hn
  refine ⟨O.upd, O.done ?_, hv, O.fr hos ht ho⟩
  intro blk' h' hb hm'
  rw [putNew_at hq.le] at hb; cases hb
  rw [putH_at (by rw [R.len]; exact hq.le)] at hm'; cases hm'
  exact hB O.upd

theorem alloc_heap (w : World) (o : Obj) : (w.alloc o).heap[w.heap.size]? = some o := by
  show (w.heap.push o)[w.heap.size]? = _
  simp
theorem alloc_old (w : World) (o : Obj) (x : Nat) (h : x < w.heap.size) : (w.alloc o).heap[x]? = w.heap[x]? := by
  show (w.heap.push o)[x]? = _
  rw [Array.getElem?_push, if_neg (by omega)]
theorem alloc_size (w : World) (o : Obj) : (w.alloc o).heap.size = w.heap.size + 1 := by
  show (w.heap.push o).size = _
  simp

/-- A new variable. -/
theorem box_post {q : Nat} {cs : List AVal} {vs : List Value} {e : TypeId} (R : Rel F w μ b) (hq : Free μ b q) (ha : AsRel (Or F (Own μ b)) w μ b true cs vs) :
    ∃ μ', Post F w μ b (w.alloc (.cells vs.toArray e (0, 0))) μ' (putNew b q ⟨0, .box cs⟩) (.lptr q 0) (.pointer (some (pl w.heap.size 0))) := by
  refine ⟨putH μ q (.box w.heap.size), new_post R hq (by rw [alloc_size]; omega) (fun x hx => alloc_old w _ x hx) ?_ rfl rfl rfl ?_ ?_⟩
  · intro x hx; cases hx; rw [alloc_size]; omega
  · intro U
    exact ⟨w.heap.size, vs, e, rfl, alloc_heap w _, AsRel.upd U ha⟩
  · exact ⟨w.heap.size, putH_at (by rw [R.len]; exact hq.le), rfl⟩

/-! ### Elements and their values -/
def EsRel (N : Nat → Prop) (w : World) (sz : Nat) : List CVal → List Value → Prop
  | [], us => us = []
  | c :: r, us => ∃ u l, us = u :: l ∧ noTup c = true ∧ CRel N w c u ∧ u.cells.size = sz ∧ EsRel N w sz r l

def flatC (us : List Value) : List Value := us.flatMap fun u => u.cells.toList

theorem EsRel.len {sz : Nat} : ∀ {xs : List CVal} {us : List Value}, EsRel N w sz xs us → us.length = xs.length
  | [], _, h => by rw [show _ = [] from h]; rfl
  | c :: r, _, h => by
    obtain ⟨u, l, rfl, _, _, _, h⟩ := h
    simp [EsRel.len h]
theorem EsRel.flat_len {sz : Nat} : ∀ {xs : List CVal} {us : List Value}, EsRel N w sz xs us → (flatC us).length = xs.length * sz
  | [], _, h => by rw [show _ = [] from h]; simp [flatC]
  | c :: r, _, h => by
    obtain ⟨u, l, rfl, _, _, hz, h⟩ := h
    have := EsRel.flat_len h
    unfold flatC at *
    simp only [List.flatMap_cons, List.length_append, this, List.length_cons, Nat.add_mul, Array.length_toList, hz]
    omega
theorem EsRel.append {sz : Nat} : ∀ {xs ys : List CVal} {us vs : List Value}, EsRel N w sz xs us → EsRel N w sz ys vs → EsRel N w sz (xs ++ ys) (us ++ vs)
  | [], _, _, _, h, k => by rw [show _ = [] from h]; simpa using k
  | c :: r, _, _, _, h, k => by
    obtain ⟨u, l, rfl, h1, h2, h3, h⟩ := h
    exact ⟨u, l ++ _, rfl, h1, h2, h3, EsRel.append h k⟩
theorem EsRel.keep {N' : Nat → Prop} {w' : World} (K : Keep N N' w w') {sz : Nat} : ∀ {xs : List CVal} {us : List Value}, EsRel N w sz xs us → EsRel N' w' sz xs us
  | [], _, h => h
  | c :: r, _, h => by
    obtain ⟨u, l, rfl, h1, h2, h3, h⟩ := h
    exact ⟨u, l, rfl, h1, CRel.keep K h2, h3, EsRel.keep K h⟩

/-- Elements that lie in memory. -/
theorem EsRel.put {sz x : Nat} : ∀ {xs : List CVal} {us : List Value} {o : Nat}, EsRel N w sz xs us →
    (∀ j v, (flatC us)[j]? = some v → w.cell? (pl x (o + j)) = some v) → ElRel N w sz x o xs
  | [], _, _, _, _ => trivial
  | c :: r, _, o, h, hc => by
    obtain ⟨u, l, rfl, h1, h2, h3, h⟩ := h
    have hu : u.cells.toList.length = sz := by simpa using h3
    refine ⟨⟨u, h1, h2, h3, fun j hj => ?_⟩, EsRel.put h fun j v hv => ?_⟩
    · have e : u.cells[j]? = some (u.cells[j]'(by omega)) := Array.getElem?_eq_getElem (by omega)
      rw [e]
      refine hc j _ ?_
      unfold flatC
      rw [List.flatMap_cons, List.getElem?_append_left (by omega)]
      simp
    · rw [Nat.add_assoc]
      refine hc (sz + j) v ?_
      unfold flatC at *
      rw [List.flatMap_cons, List.getElem?_append_right (by omega), show sz + j - u.cells.toList.length = j by omega]
      exact hv

theorem ElRel.out {sz x : Nat} : ∀ {xs : List CVal} {o : Nat}, ElRel N w sz x o xs →
    ∃ us, EsRel N w sz xs us ∧ ∀ j v, (flatC us)[j]? = some v → w.cell? (pl x (o + j)) = some v
  | [], _, _ => ⟨[], rfl, fun j v h => by simp [flatC] at h⟩
  | c :: r, o, h => by
    obtain ⟨⟨u, h1, h2, h3, hj⟩, h⟩ := h
    obtain ⟨us, he, hc⟩ := ElRel.out h
    have hu : u.cells.toList.length = sz := by simpa using h3
    refine ⟨u :: us, ⟨u, us, rfl, h1, h2, h3, he⟩, fun j v hv => ?_⟩
    unfold flatC at *
    rw [List.flatMap_cons] at hv
    by_cases hlt : j < sz
    · rw [List.getElem?_append_left (by omega)] at hv
      rw [hj j hlt]
      simpa using hv
    · rw [List.getElem?_append_right (by omega)] at hv
      have := hc (j - sz) v (by rw [← hu]; exact hv)
      rw [← this]; congr 2; omega

theorem EsRel.flatAll {sz : Nat} : ∀ {xs : List CVal} {us : List Value}, EsRel N w sz xs us → ∀ v ∈ flatC us, flat v = true
  | [], _, h, v, hv => by rw [show _ = [] from h] at hv; simp [flatC] at hv
  | c :: r, _, h, v, hv => by
    obtain ⟨u, l, rfl, h1, h2, h3, h⟩ := h
    unfold flatC at hv
    rw [List.flatMap_cons, List.mem_append] at hv
    rcases hv with hv | hv
    · obtain ⟨vs, hvs, hcs⟩ := CRel.cells h2 (noTup_fl h1)
      rw [hvs] at hv
      obtain ⟨i, hi⟩ := List.mem_iff_getElem?.1 (by simpa using hv)
      have hlen := hcs.len
      have hi' : i < c.cells.length := by rw [← hlen]; exact (List.getElem?_eq_some_iff.1 hi).1
      obtain ⟨v', hv', _, hf⟩ := hcs.get (List.getElem?_eq_getElem hi')
      rw [hi] at hv'; cases hv'
      exact hf rfl
    · exact EsRel.flatAll h v hv

theorem EsRel.size {sz n : Nat} {agg : Bool} {xs : List CVal} {us : List Value} (h : EsRel N w sz xs us) (hf : xs.all (CVal.fits agg n) = true) (hne : xs ≠ []) : sz = n := by
  cases xs with
  | nil => exact absurd rfl hne
  | cons c r =>
    obtain ⟨u, l, rfl, h1, h2, h3, h⟩ := h
    simp at hf
    obtain ⟨vs, hvs, _, hn, _⟩ := CRel.fits h2 hf.1
    rw [hvs] at h3
    simp at h3; omega

theorem EsRel.any {sz n : Nat} {xs : List CVal} {us : List Value} (h : EsRel N w sz xs us) (hx : xs = []) : EsRel N w n xs us := by
  subst hx; exact h

/-- A slice's elements, whoever owns them. -/
theorem wSl_sound {R' : Type} {x : AVal} {v : Value} {K : List CVal → Option R'} {r : R'} (R : Rel F w μ b) (hx : ARel (Or F (Own μ b)) w μ b x v) (h : wSl b x K = some r) :
    ∃ ys base cap, K ys = some r ∧ v = .slice base ys.length cap ∧ ys.length ≤ cap ∧ (ys = [] ∨ ∃ z o sz, base = some (pl z o) ∧ z < w.heap.size ∧ ElRel (Or F (Own μ b)) w sz z o ys) := by
  unfold wSl at h
  cases x with
  | v c =>
    obtain ⟨ys, hy, h⟩ := bind_some' (x := c.asSl) h
    cases c <;> simp [CVal.asSl] at hy
    subst hy
    obtain ⟨base, cap, rfl, hl, hc⟩ := hx
    exact ⟨_, base, cap, h, rfl, hl, hc.imp id fun ⟨z, o, sz, h1, _, h2, h3⟩ => ⟨z, o, sz, h1, h2, h3⟩⟩
  | nl =>
    obtain ⟨base, rfl⟩ := hx
    exact ⟨[], base, 0, h, rfl, Nat.le_refl _, .inl rfl⟩
  | lref i ver =>
    obtain ⟨ys, hy, h⟩ := bind_some' (x := arrOf b i ver) h
    obtain ⟨sz, base, cap, hb, hm, hl, hc⟩ := R.arr hy
    obtain ⟨_, blk, hh, hb', hm', _, _, hcur⟩ := hx
    rw [hb] at hb'; cases hb'
    rw [hm] at hm'; cases hm'
    have hv := hcur rfl rfl
    subst hv
    refine ⟨ys, base, cap, h, rfl, hl, ?_⟩
    rcases hc with hc | ⟨z, cells, e, rfl, hw, _, he⟩
    · left; exact List.length_eq_zero_iff.1 (by omega)
    · exact .inr ⟨z, 0, sz, rfl, (Array.getElem?_eq_some_iff.1 hw).1, he⟩
  | _ => cases h

theorem cell_heap {w1 : World} (h : w1.heap = w.heap) (a : Addr) : w1.cell? a = w.cell? a := by simp only [World.cell?, h]

theorem run_firstCells {ys : List CVal} {base : Option Addr} {n : Nat} {agg : Bool} (hc : ys = [] ∨ ∃ z o sz, base = some (pl z o) ∧ z < w.heap.size ∧ ElRel N w sz z o ys)
    (hf : ys.all (CVal.fits agg n) = true) :
    ∃ us, EsRel N w n ys us ∧ ∀ (cap : Nat) (w1 : World), w1.heap = w.heap → (Builtin.firstCells n ys.length (.slice base ys.length cap)).run P w1 = .ok (flatC us).toArray w1 := by
  by_cases hy : ys = []
  · subst hy
    refine ⟨[], rfl, fun cap w1 _ => ?_⟩
    cases base with
    | none => rfl
    | some a => simp [Builtin.firstCells, loadCells, loadCellsFrom, flatC]
  · obtain ⟨z, o, sz, rfl, hz, he⟩ := hc.resolve_left hy
    obtain ⟨us, hu, hcell⟩ := he.out
    have e := hu.size hf hy
    subst e
    refine ⟨us, hu, fun cap w1 hw => ?_⟩
    have hl := hu.flat_len
    have := run_loadCells_list (P := P) w1 (pl z o) (flatC us) fun j v hj => by rw [pl_add, cell_heap hw]; exact hcell j v hj
    simp only [Builtin.firstCells]
    rw [← hl]; exact this
end

end Go.Proofs.YtomkegeojknihaaDoor.Abs

/-! Operations that leave memory as it is. -/
namespace Go.Proofs.YtomkegeojknihaaDoor.Abs
open Go
variable [Glob]

section
variable {P : Program} {w : World} {F N : Nat → Prop} {μ : List Hd} {b : List Blk} {R' : Type} {r : R'}

theorem ofCell_rel {v : Value} {x : AVal} (h : ofCell v = some x) : ARel N w μ b x v ∧ flat v = true := by
  unfold ofCell at h
  split at h
  · simp at h; subst h; exact ⟨rfl, rfl⟩
  · simp at h; subst h; exact ⟨rfl, rfl⟩
  · rename_i s
    simp at h; subst h
    exact ⟨by simp [ARel, CRel], rfl⟩
  · simp at h; subst h; exact ⟨rfl, rfl⟩
  · simp at h; subst h; exact ⟨⟨none, rfl⟩, rfl⟩
  · simp at h; subst h; exact ⟨rfl, rfl⟩
  · simp at h; subst h; exact ⟨rfl, rfl⟩
  · cases h

theorem ofCells_rel : ∀ {vs : List Value} {xs : List AVal}, ofCells vs = some xs → AsRel N w μ b true xs vs
  | [], xs, h => by simp [ofCells] at h; subst h; rfl
  | v :: r, xs, h => by
    simp only [ofCells] at h
    obtain ⟨a, ha, h⟩ := bind_some' h
    obtain ⟨l, hl, h⟩ := bind_some' h
    simp at h; subst h
    obtain ⟨h1, h2⟩ := ofCell_rel (N := N) (w := w) (μ := μ) (b := b) ha
    exact ⟨v, r, rfl, h1, fun _ => h2, ofCells_rel hl⟩

theorem ofVal_rel {v : Value} {x : AVal} (h : ofVal v = some x) : ARel N w μ b x v := by
  unfold ofVal at h
  split at h
  · rename_i cs
    obtain ⟨l, hl, h⟩ := bind_some' h
    simp at h; subst h
    have := mkAgg_rel (ofCells_rel (N := N) (w := w) (μ := μ) (b := b) hl)
    simpa using this
  · exact (ofCell_rel h).1

theorem zeroT_spec {t : TypeId} {x : AVal} (h : zeroT P t = some x) : ∃ z, (∀ w1 : World, (zeroValue t).run P w1 = .ok z w1) ∧ ARel N w μ b x z := by
  unfold zeroT at h
  obtain ⟨z, hz, h⟩ := bind_some' h
  obtain ⟨i, hi, hz⟩ := bind_some' hz
  exact ⟨z, fun w1 => run_zero hi hz, ofVal_rel h⟩

/-! Projections. -/
theorem wInt_sound {k : IntKind} {x : AVal} {v : Value} {K : Int → Option R'} (hx : ARel N w μ b x v) (h : wInt k x K = some r) : ∃ n, v = .int k n ∧ K n = some r := by
  unfold wInt at h
  cases x with
  | v c =>
    obtain ⟨n, hn, h⟩ := bind_some' (x := c.asInt k) h
    cases c <;> simp [CVal.asInt] at hn
    obtain ⟨rfl, rfl⟩ := hn
    exact ⟨_, hx, h⟩
  | _ => cases h
theorem wIdx_sound {x : AVal} {v : Value} {K : Int → Option R'} (hx : ARel N w μ b x v) (h : wIdx x K = some r) : ∃ k n, v = .int k n ∧ K n = some r := by
  unfold wIdx at h
  cases x with
  | v c =>
    obtain ⟨n, hn, h⟩ := bind_some' (x := c.asIdx) h
    cases c <;> simp [CVal.asIdx] at hn
    subst hn
    exact ⟨_, _, hx, h⟩
  | _ => cases h
theorem wBool_sound {x : AVal} {v : Value} {K : Bool → Option R'} (hx : ARel N w μ b x v) (h : wBool x K = some r) : ∃ p, v = .bool p ∧ K p = some r := by
  unfold wBool at h
  cases x with
  | v c =>
    obtain ⟨n, hn, h⟩ := bind_some' (x := c.asBool) h
    cases c <;> simp [CVal.asBool] at hn
    subst hn
    exact ⟨_, hx, h⟩
  | _ => cases h
theorem wStr_sound {x : AVal} {v : Value} {K : List UInt8 → Option R'} (hx : ARel N w μ b x v) (h : wStr x K = some r) : ∃ s, v = .string ⟨s.toArray⟩ ∧ K s = some r := by
  unfold wStr at h
  cases x with
  | v c =>
    obtain ⟨n, hn, h⟩ := bind_some' (x := c.asStr) h
    cases c <;> simp [CVal.asStr] at hn
    subst hn
    exact ⟨_, hx, h⟩
  | _ => cases h
theorem asFp_sound {p : CVal} {q : CVal × Nat} {v : Value} (hx : CRel N w p v) (h : p.asFp = some q) : p = .fp q.1 q.2 := by
  cases p <;> simp [CVal.asFp] at h
  subst h; rfl

/-- What an operation comes to that leaves memory alone. -/
def Yld (P : Program) (N : Nat → Prop) (w : World) (μ : List Hd) (b : List Blk) (K : AVal → Option R') (r : R') (S : Sem Value) : Prop :=
  ∃ y, K y = some r ∧ ∃ u, S.run P w = .ok u w ∧ ARel N w μ b y u

theorem fieldK_sound {t : TypeId} {x : AVal} {f : Nat} {v : Value} {K : AVal → Option R'} (hx : ARel N w μ b x v) (h : fieldK P t x f K = some r) :
    Yld P N w μ b K r (Instr.fieldAt t v f) := by
  unfold fieldK at h
  split at h
  · rename_i fs hfs
    split at h
    · rename_i fd hfd
      rcases br_some h with ⟨_, h⟩ | ⟨hz, h⟩
      · cases h
      simp only [decide_eq_false_iff_not] at hz
      have hsize : ∀ w1 : World, (sizeOf fd.type).run P w1 = .ok (P.cellsOf fd.type) w1 := by
        intro w1
        unfold Program.cellsOf at hz
        cases hi : P.info? fd.type with
        | none => simp [hi] at hz
        | some i => simp [sizeOf, typeInfo, hi, Program.cellsOf]
      have run : ∀ a : Addr, v = .pointer (some a) → (Instr.fieldAt t v f).run P w = .ok (.pointer (some (a.add fd.offset))) w := by
        intro a ha
        subst ha
        simp [Instr.fieldAt, run_und hfs, hfd, Instr.sureAddr, fieldPlace, hsize, hz]
      cases x with
      | lptr i off =>
        obtain ⟨y, hm, rfl⟩ := hx
        exact ⟨_, h, _, run _ rfl, y, hm, by rw [pl_add]⟩
      | lel i ver idx off =>
        obtain ⟨⟨a, rfl⟩, blk, hd, hb, hm, hn, hle, hcur⟩ := hx
        refine ⟨_, h, _, run _ rfl, ⟨_, rfl⟩, blk, hd, hb, hm, hn, hle, fun h1 h2 => ?_⟩
        obtain ⟨x', len, cap, sz, rfl, hi, hv⟩ := hcur h1 h2
        refine ⟨x', len, cap, sz, rfl, hi, ?_⟩
        cases hv
        rw [pl_add, Nat.add_assoc]
      | v p =>
        obtain ⟨q, hq, h⟩ := bind_some' (x := p.asFp) h
        have := asFp_sound hx hq
        subst this
        obtain ⟨y, o, u, rfl, h1, h2, h3, h4, h5⟩ := hx
        refine ⟨_, h, _, run _ rfl, y, o, u, ?_, h1, h2, h3, h4, h5⟩
        rw [pl_add, Nat.add_assoc]
      | _ => cases h
    · cases h
  · cases h

theorem sl_index {xs : List CVal} {v : Value} (hx : CRel N w (.sl xs) v) {i : Nat} {c : CVal} (hc : xs[i]? = some c) {agg : Bool} {n : Nat} (hf : c.fits agg n = true) :
    ∃ x o cap, v = .slice (some (pl x o)) xs.length cap ∧ CRel N w (.fp c 0) (.pointer (some (pl x (o + i * n)))) := by
  obtain ⟨base, cap, rfl, hl, h⟩ := hx
  rcases h with h | ⟨x, o, sz, rfl, h1, h2, h3⟩
  · subst h; simp at hc
  · obtain ⟨u, ht, hu, hz, hj⟩ := h3.get hc
    have : sz = n := by
      obtain ⟨vs, hvs, _, hn, _⟩ := CRel.fits hu hf
      rw [hvs] at hz; simp at hz; omega
    subst this
    exact ⟨x, o, cap, rfl, x, o + i * sz, u, by simp, h1, h2, ht, hu, fun j hjj => hj j (by omega)⟩

theorem fits_ne {agg : Bool} {n : Nat} {c : CVal} (h : c.fits agg n = true) : agg = false → n = 1 := by
  intro ha; subst ha
  simp [CVal.fits] at h
  exact h.2

theorem indexAddrK_sound {t : TypeId} {x ix : AVal} {v vi : Value} {K : AVal → Option R'} (R : Rel F w μ b) (hx : ARel (Or F (Own μ b)) w μ b x v) (hi : ARel (Or F (Own μ b)) w μ b ix vi)
    (h : indexAddrK P t b x ix K = some r) : Yld P (Or F (Own μ b)) w μ b K r (Instr.indexAt t v vi) := by
  unfold indexAddrK at h
  split at h
  · rename_i e he
    obtain ⟨k, n, rfl, h⟩ := wIdx_sound hi h
    obtain ⟨h0, h⟩ := br_none h
    simp only [decide_eq_true_eq, Bool.and_eq_true] at h0
    obtain ⟨h0, hs⟩ := h0
    obtain ⟨d, hd⟩ := Option.isSome_iff_exists.1 hs
    have run : ∀ (a : Addr) (len cap : Nat), n < len → (Instr.indexAt t (.slice (some a) len cap) (.int k n)).run P w = .ok (.pointer (some (a.add (n.toNat * P.cellsOf e)))) w := by
      intro a len cap hlt
      have : 0 ≤ n ∧ n < len := ⟨h0, hlt⟩
      simp [Instr.indexAt, asIntOf, run_und he, run_size hd, this]
    cases x with
    | lref i ver =>
      obtain ⟨xs, hxs, h⟩ := bind_some' (x := arrOf b i ver) h
      obtain ⟨h1, h⟩ := br_none h
      simp only [decide_eq_true_eq, Bool.and_eq_true, beq_iff_eq] at h1
      obtain ⟨h1, h2⟩ := h1
      obtain ⟨sz, base, cap, hb, hm, hl, hc⟩ := R.arr hxs
      obtain ⟨_, blk, hh, hb', hm', _, _, hcur⟩ := hx
      rw [hb] at hb'; cases hb'
      rw [hm] at hm'; cases hm'
      have hv := hcur rfl rfl
      subst hv
      have hsz : sz = P.cellsOf e := by simpa [szOf, hb] using h2
      subst hsz
      rcases hc with hc | ⟨y, cells, tt, rfl, hw, hz, hel⟩
      · omega
      · refine ⟨_, h, _, run (pl y 0) xs.length cap (by omega), ⟨_, rfl⟩, _, _, hb, hm, by simp, Nat.le_refl _, fun _ _ => ⟨y, _, _, _, rfl, h1, ?_⟩⟩
        rw [pl_add]; simp
    | v c =>
      obtain ⟨xs, hxs, h⟩ := bind_some' (x := c.asSl) h
      cases c <;> simp [CVal.asSl] at hxs
      subst hxs
      obtain ⟨c, hc, h⟩ := bind_some' h
      obtain ⟨hf, h⟩ := br_none h
      obtain ⟨y, o, cap, rfl, hp⟩ := sl_index hx hc hf
      have hlt := (List.getElem?_eq_some_iff.1 hc).1
      refine ⟨_, h, _, run (pl y o) _ cap (by omega), ?_⟩
      rw [pl_add]; exact hp
    | _ => cases h
  · rename_i len e he
    obtain ⟨k, n, rfl, h⟩ := wIdx_sound hi h
    obtain ⟨h0, h⟩ := br_none h
    simp only [decide_eq_true_eq, Bool.and_eq_true] at h0
    obtain ⟨⟨h0, h1⟩, hs⟩ := h0
    obtain ⟨d, hd⟩ := Option.isSome_iff_exists.1 hs
    have run : ∀ a : Addr, v = .pointer (some a) → (Instr.indexAt t v (.int k n)).run P w = .ok (.pointer (some (a.add (n.toNat * P.cellsOf e)))) w := by
      intro a ha
      subst ha
      have : 0 ≤ n ∧ n < len := ⟨h0, h1⟩
      simp [Instr.indexAt, asIntOf, run_und he, run_size hd, this, Instr.sureAddr]
    cases x with
    | lptr i off =>
      obtain ⟨y, hm, rfl⟩ := hx
      exact ⟨_, h, _, run _ rfl, y, hm, by rw [pl_add]⟩
    | lel i ver idx off =>
      obtain ⟨⟨a, rfl⟩, blk, hd', hb, hm, hn, hle, hcur⟩ := hx
      refine ⟨_, h, _, run _ rfl, ⟨_, rfl⟩, blk, hd', hb, hm, hn, hle, fun h1 h2 => ?_⟩
      obtain ⟨x', len, cap, sz, rfl, hi, hv⟩ := hcur h1 h2
      refine ⟨x', len, cap, sz, rfl, hi, ?_⟩
      cases hv
      rw [pl_add, Nat.add_assoc]
    | v p =>
      obtain ⟨q, hq, h⟩ := bind_some' (x := p.asFp) h
      have := asFp_sound hx hq
      subst this
      obtain ⟨y, o, u, rfl, h1, h2, h3, h4, h5⟩ := hx
      refine ⟨_, h, _, run _ rfl, y, o, u, ?_, h1, h2, h3, h4, h5⟩
      rw [pl_add, Nat.add_assoc]
    | _ => cases h
  · cases h

theorem indexK_sound {t : TypeId} {x ix : AVal} {v vi : Value} {K : AVal → Option R'} (hx : ARel N w μ b x v) (hi : ARel N w μ b ix vi)
    (h : indexK P t x ix K = some r) : Yld P N w μ b K r (Instr.index t v vi) := by
  unfold indexK at h
  split at h
  · rename_i he
    obtain ⟨k, n, rfl, h⟩ := wIdx_sound hi h
    obtain ⟨s, rfl, h⟩ := wStr_sound hx h
    obtain ⟨h0, h⟩ := br_none h
    simp only [decide_eq_true_eq] at h0
    obtain ⟨c, hc, h⟩ := bind_some' h
    refine ⟨_, h, _, ?_, rfl⟩
    have : (⟨s.toArray⟩ : ByteArray)[n.toNat]? = some c := by
      have hlt := (List.getElem?_eq_some_iff.1 hc).1
      have hlt' : n.toNat < (⟨s.toArray⟩ : ByteArray).size := by simpa [ByteArray.size] using hlt
      rw [getElem?_pos (⟨s.toArray⟩ : ByteArray) n.toNat hlt']
      have h2 := (List.getElem?_eq_some_iff.1 hc).2
      congr 1
    simp [Instr.index, asIntOf, run_und he, h0, this]
  · rename_i len e he
    obtain ⟨k, n, rfl, h⟩ := wIdx_sound hi h
    obtain ⟨h0, h⟩ := br_none h
    simp only [decide_eq_true_eq, Bool.and_eq_true, Bool.not_eq_true'] at h0
    obtain ⟨⟨⟨⟨h0, h1⟩, h2⟩, h3⟩, h4⟩ := h0
    obtain ⟨d', hd'⟩ := Option.isSome_iff_exists.1 h4
    cases x with
    | v c =>
      obtain ⟨h5, h6⟩ := br_none (b := c.isAgg) h
      obtain ⟨d, hd, h7⟩ := bind_some' h6
      cases c <;> simp [CVal.isAgg] at h5
      rename_i cs
      obtain ⟨vs, rfl, hcs⟩ := hx
      obtain ⟨u, hu, hr, _⟩ := hcs.get hd
      refine ⟨_, h7, u, ?_, hr⟩
      have : 0 ≤ n ∧ n < len := ⟨h0, h1⟩
      simp [Instr.index, asIntOf, run_und he, this, run_size hd', h3, part, run_agg hd', h2, hu]
    | _ => cases h
  · cases h

theorem unK_sound {op : UnOp} {t : TypeId} {x : AVal} {v : Value} {K : AVal → Option R'} (hx : ARel N w μ b x v) (h : unK P op t x K = some r) :
    Yld P N w μ b K r (Op.unary op v) := by
  unfold unK at h
  split at h
  · obtain ⟨p, rfl, h⟩ := wBool_sound hx h
    exact ⟨_, h, _, rfl, rfl⟩
  · obtain ⟨k, _, h⟩ := bind_some' h
    obtain ⟨n, rfl, h⟩ := wInt_sound hx h
    exact ⟨_, h, _, rfl, rfl⟩
  · cases h

theorem lenK_sound {t : TypeId} {x : AVal} {v : Value} {K : AVal → Option R'} {ts : Array TypeId} {out : TypeId} (R : Rel F w μ b) (hx : ARel (Or F (Own μ b)) w μ b x v) (ht : ts[0]? = some t)
    (h : lenK P t b x K = some r) : Yld P (Or F (Own μ b)) w μ b K r (Builtin.len_ ts out #[v]) := by
  unfold lenK at h
  split at h
  · rename_i he
    obtain ⟨s, rfl, h⟩ := wStr_sound hx h
    refine ⟨_, h, .int .i64 (⟨s.toArray⟩ : ByteArray).size, ?_, ?_⟩
    · unfold Builtin.len_
      simp only [ht, List.getElem?_toArray, List.getElem?_cons_zero, Sem.run_bind, run_und he, Result.andThen_ok]
      rfl
    · exact congrArg (fun n : Nat => Value.int .i64 n) (by simp [ByteArray.size])
  · rename_i e he
    obtain ⟨ys, base, cap, h, rfl, _, _⟩ := wSl_sound R hx h
    refine ⟨_, h, .int .i64 ys.length, ?_, rfl⟩
    unfold Builtin.len_
    simp only [ht, List.getElem?_toArray, List.getElem?_cons_zero, Sem.run_bind, run_und he, Result.andThen_ok]
    rfl
  · rename_i n e he
    refine ⟨_, h, .int .i64 n, ?_, rfl⟩
    unfold Builtin.len_
    simp only [ht, List.getElem?_toArray, List.getElem?_cons_zero, Sem.run_bind, run_und he, Result.andThen_ok]
    rfl
  · cases h

theorem intOp_sound {op : BinOp} {xt : TypeId} {k : IntKind} {x y : Int} {c : CVal} (hop : isShift op = false) (h : intOp op k x y = some c) :
    ∃ u, (Go.binOp op xt (.int k x) (.int k y)).run P w = .ok u w ∧ CRel N w c u := by
  cases op <;> simp only [isShift, Bool.true_eq_false] at hop <;> simp only [intOp, Option.some.injEq] at h
  case quo =>
    rcases br_some h with ⟨_, h⟩ | ⟨h0, h⟩
    · cases h
    · simp only [decide_eq_false_iff_not, Option.some.injEq] at h0 h
      subst h
      exact ⟨_, by simp [Go.binOp, Op.intDiv, h0], rfl⟩
  case rem =>
    rcases br_some h with ⟨_, h⟩ | ⟨h0, h⟩
    · cases h
    · simp only [decide_eq_false_iff_not, Option.some.injEq] at h0 h
      subst h
      exact ⟨_, by simp [Go.binOp, Op.intDiv, h0], rfl⟩
  case add => subst h; exact ⟨_, by rw [show Go.binOp .add xt (.int k x) (.int k y) = Op.intArith .add k x y by simp [Go.binOp]]; rfl, rfl⟩
  case sub => subst h; exact ⟨_, by rw [show Go.binOp .sub xt (.int k x) (.int k y) = Op.intArith .sub k x y by simp [Go.binOp]]; rfl, rfl⟩
  case mul => subst h; exact ⟨_, by rw [show Go.binOp .mul xt (.int k x) (.int k y) = Op.intArith .mul k x y by simp [Go.binOp]]; rfl, rfl⟩
  case and => subst h; exact ⟨_, by rw [show Go.binOp .and xt (.int k x) (.int k y) = Op.intBits .and k x y by simp [Go.binOp]]; rfl, rfl⟩
  case or => subst h; exact ⟨_, by rw [show Go.binOp .or xt (.int k x) (.int k y) = Op.intBits .or k x y by simp [Go.binOp]]; rfl, rfl⟩
  case xor => subst h; exact ⟨_, by rw [show Go.binOp .xor xt (.int k x) (.int k y) = Op.intBits .xor k x y by simp [Go.binOp]]; rfl, rfl⟩
  case andNot => subst h; exact ⟨_, by rw [show Go.binOp .andNot xt (.int k x) (.int k y) = Op.intBits .andNot k x y by simp [Go.binOp]]; rfl, rfl⟩
  case eql => subst h; exact ⟨_, by rw [show Go.binOp .eql xt (.int k x) (.int k y) = Op.intCmp .eql x y by simp [Go.binOp]]; rfl, rfl⟩
  case neq => subst h; exact ⟨_, by rw [show Go.binOp .neq xt (.int k x) (.int k y) = Op.intCmp .neq x y by simp [Go.binOp]]; rfl, rfl⟩
  case lss => subst h; exact ⟨_, by rw [show Go.binOp .lss xt (.int k x) (.int k y) = Op.intCmp .lss x y by simp [Go.binOp]]; rfl, rfl⟩
  case leq => subst h; exact ⟨_, by rw [show Go.binOp .leq xt (.int k x) (.int k y) = Op.intCmp .leq x y by simp [Go.binOp]]; rfl, rfl⟩
  case gtr => subst h; exact ⟨_, by rw [show Go.binOp .gtr xt (.int k x) (.int k y) = Op.intCmp .gtr x y by simp [Go.binOp]]; rfl, rfl⟩
  case geq => subst h; exact ⟨_, by rw [show Go.binOp .geq xt (.int k x) (.int k y) = Op.intCmp .geq x y by simp [Go.binOp]]; rfl, rfl⟩
  all_goals (cases h; done)

theorem shiftOp_sound {op : BinOp} {xt : TypeId} {k k' : IntKind} {x y : Int} {c : CVal} (hop : isShift op = true) (h : shiftOp op k x y = some c) :
    ∃ u, (Go.binOp op xt (.int k x) (.int k' y)).run P w = .ok u w ∧ CRel N w c u := by
  unfold shiftOp at h
  rcases br_some h with ⟨_, h⟩ | ⟨h0, h⟩
  · cases h
  · simp only [decide_eq_false_iff_not] at h0
    cases op <;> simp only [isShift, Bool.false_eq_true] at hop <;> simp only [Option.some.injEq] at h <;> subst h
    · exact ⟨_, by simp [Go.binOp, Op.shift, h0], rfl⟩
    · exact ⟨_, by simp [Go.binOp, Op.shift, h0], rfl⟩

theorem guard_int {op : BinOp} {t : TypeId} {x y : Operand} {v u : Value} (hv : ∀ cs, v ≠ .agg cs) (hn : v ≠ .nilIface) : (eqGuard op t x y v u).run P w = .ok () w := by
  unfold eqGuard
  cases v <;> first | (exact absurd rfl (hv _)) | (exact absurd rfl hn) | (cases op <;> cases u <;> rfl)

theorem equalIn_bool (d : Nat) {xt : TypeId} {p q : Bool} (hk : P.underlying xt = some .bool) : (Op.equalIn (d + 1) xt (.bool p) (.bool q)).run P w = .ok (p == q) w := by
  simp only [Op.equalIn, Sem.run_bind, run_und hk, Result.andThen_ok]
  rfl
theorem equal_bool {xt : TypeId} {p q : Bool} (hk : P.underlying xt = some .bool) : (Op.equal xt (.bool p) (.bool q)).run P w = .ok (p == q) w := equalIn_bool 9999 hk

theorem bytesLt_eq : ∀ a b : List UInt8, Op.bytesLess a b = bytesLt a b
  | [], [] => rfl
  | _ :: _, [] => rfl
  | [], _ :: _ => rfl
  | a :: x, b :: y => by
    simp only [Op.bytesLess, bytesLt, bytesLt_eq x y]
    congr 1

theorem bl_toList (s : List UInt8) : (⟨s.toArray⟩ : ByteArray).toList = s := by
  rw [Lib.toList_data]

theorem wAgg_sound {x : AVal} {v : Value} {K : List CVal → Option R'} (hx : ARel N w μ b x v) (h : wAgg x K = some r) : ∃ cs vs, v = .agg (List.toArray vs) ∧ CsRel N w true cs vs ∧ K cs = some r := by
  unfold wAgg at h
  split at h
  · rename_i c
    obtain ⟨cs, hc, h⟩ := bind_some' h
    cases c <;> simp [CVal.asAgg] at hc
    subst hc
    obtain ⟨vs, hv, hr⟩ := hx
    exact ⟨_, vs, hv, hr, h⟩
  · cases h

theorem asInt_some {k : IntKind} {x : CVal} {n : Int} (h : x.asInt k = some n) : x = .int k n := by
  unfold CVal.asInt at h
  split at h
  · split at h
    · rename_i e; cases h; rw [e]
    · cases h
  · cases h
theorem asBool_some {x : CVal} {n : Bool} (h : x.asBool = some n) : x = .bool n := by
  unfold CVal.asBool at h
  split at h <;> cases h; rfl
theorem asStr_some {x : CVal} {n : List UInt8} (h : x.asStr = some n) : x = .str n := by
  unfold CVal.asStr at h
  split at h <;> cases h; rfl

theorem eqCell_sound {d : Nat} {t : TypeId} {x y : CVal} {u v : Value} {e : Bool} (hx : CRel N w x u) (hy : CRel N w y v) (h : eqCellT P t x y = some e) : aggT P t = false ∧ (∃ dd, P.underlying t = some dd) ∧ (Op.equalIn (d + 1) t u v).run P w = .ok e w := by
  unfold eqCellT at h
  split at h
  · rename_i ht
    obtain ⟨a, ha, h⟩ := bind_some' h
    obtain ⟨c, hc, h⟩ := bind_some' h
    cases h
    cases asBool_some ha; cases asBool_some hc
    have hu : u = .bool a := hx
    have hv : v = .bool c := hy
    subst hu hv
    refine ⟨by simp [aggT, ht], ⟨_, ht⟩, ?_⟩
    rw [run_equalIn_bool' w d t a c ht]
  · rename_i k ht
    obtain ⟨a, ha, h⟩ := bind_some' h
    obtain ⟨c, hc, h⟩ := bind_some' h
    cases h
    cases asInt_some ha; cases asInt_some hc
    have hu : u = .int k a := hx
    have hv : v = .int k c := hy
    subst hu hv
    refine ⟨by simp [aggT, ht], ⟨_, ht⟩, ?_⟩
    rw [run_equalIn_int w d t k k a c ht]
    rfl
  · rename_i ht
    obtain ⟨a, ha, h⟩ := bind_some' h
    obtain ⟨c, hc, h⟩ := bind_some' h
    cases h
    cases asStr_some ha; cases asStr_some hc
    have hu : u = .string ⟨a.toArray⟩ := hx
    have hv : v = .string ⟨c.toArray⟩ := hy
    subst hu hv
    refine ⟨by simp [aggT, ht], ⟨_, ht⟩, ?_⟩
    rw [run_equalIn_string w d t _ _ ht, bl_toList, bl_toList]
    congr 1
    rw [Bool.eq_iff_iff]; simp
  · cases h

theorem eqFields_all {d : Nat} {va vb : List Value} {a c : List CVal} (ha : CsRel N w true a va) (hb : CsRel N w true c vb) : ∀ {fs : List Field} {z : Bool}, Abs.eqFields P fs a c = some z →
    (Op.eqFields (d + 1) va.toArray vb.toArray fs).run P w = .ok z w
  | [], z, h => by cases h; simp [Op.eqFields]
  | f :: r, z, h => by
    unfold Abs.eqFields at h
    obtain ⟨h0, h⟩ := br_none h
    have h0 : f.name ≠ "_" := by simpa using h0
    obtain ⟨x, hx, h⟩ := bind_some' h
    obtain ⟨y, hy, h⟩ := bind_some' h
    obtain ⟨e, he, h⟩ := bind_some' h
    obtain ⟨z', hz, h⟩ := bind_some' h
    cases h
    obtain ⟨u, hu, hxu, _⟩ := ha.get hx
    obtain ⟨v, hv, hyv, _⟩ := hb.get hy
    obtain ⟨hag, ⟨dd, hdd⟩, h1⟩ := eqCell_sound (d := d) hxu hyv he
    have hag : (isAgg f.type).run P w = .ok false w := by rw [run_agg hdd, hag]
    have p1 : (part f.type va.toArray f.offset).run P w = .ok u w := by simp [part, hag, hu]
    have p2 : (part f.type vb.toArray f.offset).run P w = .ok v w := by simp [part, hag, hv]
    have h2 := eqFields_all (d := d) ha hb hz
    rw [Op.eqFields]
    simp only [ne_eq, h0, not_false_eq_true, if_true, Sem.run_bind, p1, p2, h1, Result.andThen_ok]
    cases e
    · simp
    · simpa using h2

theorem binK_sound {op : BinOp} {xt yt : TypeId} {x y : AVal} {v u : Value} {ox oy : Operand} {K : AVal → Option R'} (hx : ARel N w μ b x v) (hy : ARel N w μ b y u)
    (h : binK P op xt x y yt K = some r) : Yld P N w μ b K r (do eqGuard op xt ox oy v u; Go.binOp op xt v u) := by
  unfold binK at h
  split at h
  · rename_i k hk
    rcases br_some h with ⟨hop, h⟩ | ⟨hop, h⟩
    · obtain ⟨m, rfl, h⟩ := wInt_sound hx h
      obtain ⟨k', n, rfl, h⟩ := wIdx_sound hy h
      obtain ⟨c, hc, h⟩ := bind_some' h
      obtain ⟨z, hz, hr⟩ := shiftOp_sound (P := P) (w := w) (N := N) (xt := xt) (k' := k') hop hc
      refine ⟨_, h, z, ?_, hr⟩
      simp only [Sem.run_bind, guard_int (v := .int k m) (fun cs h => by cases h) (by simp), Result.andThen_ok]
      exact hz
    · obtain ⟨m, rfl, h⟩ := wInt_sound hx h
      obtain ⟨n, rfl, h⟩ := wInt_sound hy h
      obtain ⟨c, hc, h⟩ := bind_some' h
      obtain ⟨z, hz, hr⟩ := intOp_sound (P := P) (w := w) (N := N) (xt := xt) hop hc
      refine ⟨_, h, z, ?_, hr⟩
      simp only [Sem.run_bind, guard_int (v := .int k m) (fun cs h => by cases h) (by simp), Result.andThen_ok]
      exact hz
  · obtain ⟨s, rfl, h⟩ := wStr_sound hx h
    obtain ⟨s', rfl, h⟩ := wStr_sound hy h
    have run : ∀ z, (Op.stringOp op ⟨s.toArray⟩ ⟨s'.toArray⟩).run P w = .ok z w → (do eqGuard op xt ox oy (.string ⟨s.toArray⟩) (.string ⟨s'.toArray⟩); Go.binOp op xt (.string ⟨s.toArray⟩) (.string ⟨s'.toArray⟩) : Sem Value).run P w = .ok z w := by
      intro z hz
      simp only [Sem.run_bind, guard_int (v := .string ⟨s.toArray⟩) (fun cs h => by cases h) (by simp), Result.andThen_ok]
      rw [← hz]
      cases op <;> rfl
    split at h
    · obtain ⟨h0, h⟩ := br_none h
      simp only [decide_eq_true_eq] at h0
      refine ⟨_, h, .string (⟨s.toArray⟩ ++ ⟨s'.toArray⟩), run _ ?_, ?_⟩
      · have hmax : IntKind.i64.max = 9223372036854775807 := by decide
        have h1 : ¬ (((⟨s.toArray⟩ : ByteArray).size + (⟨s'.toArray⟩ : ByteArray).size : Nat) : Int) > IntKind.i64.max := by
          have e1 : (⟨s.toArray⟩ : ByteArray).size = s.length := rfl
          have e2 : (⟨s'.toArray⟩ : ByteArray).size = s'.length := rfl
          rw [hmax, e1, e2]; omega
        simp only [Op.stringOp, h1, if_false]
        rfl
      · show Value.string _ = Value.string _
        congr 1
    · refine ⟨_, h, .bool ((⟨s.toArray⟩ : ByteArray).toList == (⟨s'.toArray⟩ : ByteArray).toList), run _ rfl, ?_⟩
      rw [bl_toList, bl_toList]
      exact congrArg Value.bool (by rw [Bool.eq_iff_iff]; simp)
    · refine ⟨_, h, .bool (!((⟨s.toArray⟩ : ByteArray).toList == (⟨s'.toArray⟩ : ByteArray).toList)), run _ rfl, ?_⟩
      rw [bl_toList, bl_toList]
      exact congrArg Value.bool (by rw [Bool.eq_iff_iff]; simp)
    · refine ⟨_, h, .bool (Op.bytesLess (⟨s.toArray⟩ : ByteArray).toList (⟨s'.toArray⟩ : ByteArray).toList), run _ rfl, ?_⟩
      rw [bl_toList, bl_toList, bytesLt_eq]
      rfl
    · cases h
  · obtain ⟨p, rfl, h⟩ := wBool_sound hx h
    obtain ⟨p', rfl, h⟩ := wBool_sound hy h
    have run : ∀ z, (Go.binOp op xt (.bool p) (.bool p')).run P w = .ok z w → (do eqGuard op xt ox oy (.bool p) (.bool p'); Go.binOp op xt (.bool p) (.bool p') : Sem Value).run P w = .ok z w := by
      intro z hz
      simp only [Sem.run_bind, guard_int (v := .bool p) (fun cs h => by cases h) (by simp), Result.andThen_ok]
      exact hz
    split at h
    · refine ⟨_, h, .bool (p == p'), run _ ?_, rfl⟩
      rw [show Go.binOp .eql xt (.bool p) (.bool p') = (do pure (.bool (← Op.equal xt (.bool p) (.bool p')))) from rfl]
      simp only [Sem.run_bind, equal_bool ‹P.underlying xt = some .bool›, Result.andThen_ok]
      rfl
    · refine ⟨_, h, .bool (!(p == p')), run _ ?_, rfl⟩
      rw [show Go.binOp .neq xt (.bool p) (.bool p') = (do pure (.bool (!(← Op.equal xt (.bool p) (.bool p'))))) from rfl]
      simp only [Sem.run_bind, equal_bool ‹P.underlying xt = some .bool›, Result.andThen_ok]
      rfl
    · cases h
  · -- structs
    rename_i fs hk
    rcases br_some h with ⟨_, h⟩ | ⟨h0, h⟩
    · cases h
    simp only [Bool.or_eq_false_iff] at h0
    obtain ⟨cs, va, rfl, hva, h⟩ := wAgg_sound hx h
    obtain ⟨cs', vb, rfl, hvb, h⟩ := wAgg_sound hy h
    obtain ⟨z, hz, h⟩ := bind_some' h
    have hfs : P.fieldsOf xt = fs := by simp [Program.fieldsOf, hk]
    have heq : (Op.equal xt (.agg va.toArray) (.agg vb.toArray)).run P w = .ok z w := by
      have : (Op.equalIn (9998 + 1 + 1) xt (.agg va.toArray) (.agg vb.toArray)).run P w = .ok z w := by
        rw [run_equalIn_struct (P := P) w _ xt _ _ (by rw [hfs]; exact hk) h0.1, hfs]
        exact eqFields_all hva hvb hz
      exact this
    have hg : (op = .eql ∨ op = .neq) → (eqGuard op xt ox oy (.agg va.toArray) (.agg vb.toArray)).run P w = .ok () w := by
      rintro (rfl | rfl) <;> simp [eqGuard, h0.2]
    split at h
    · refine ⟨_, h, .bool z, ?_, rfl⟩
      rw [show Go.binOp .eql xt (.agg va.toArray) (.agg vb.toArray) = (do pure (.bool (← Op.equal xt (.agg va.toArray) (.agg vb.toArray)))) from rfl]
      simp only [Sem.run_bind, hg (.inl rfl), heq, Result.andThen_ok]
      rfl
    · refine ⟨_, h, .bool (!z), ?_, rfl⟩
      rw [show Go.binOp .neq xt (.agg va.toArray) (.agg vb.toArray) = (do pure (.bool (!(← Op.equal xt (.agg va.toArray) (.agg vb.toArray))))) from rfl]
      simp only [Sem.run_bind, hg (.inr rfl), heq, Result.andThen_ok]
      rfl
    · cases h
  · cases h
end

end Go.Proofs.YtomkegeojknihaaDoor.Abs

/-! Slices that grow; stores. -/
namespace Go.Proofs.YtomkegeojknihaaDoor.Abs
open Go
variable [Glob]

section
variable {P : Program} {w : World} {F N : Nat → Prop} {μ : List Hd} {b : List Blk}

theorem growBy_le (newLen : Nat) : ∀ (k c : Nat), c ≤ 2 * newLen + 200 → Builtin.growBy newLen k c ≤ 2 * newLen + 200
  | 0, c, h => h
  | k + 1, c, h => by
    simp only [Builtin.growBy]
    split
    · exact h
    · refine growBy_le newLen k _ ?_
      omega
theorem nextslicecap_le (need cap : Nat) (h : cap < need) : Builtin.nextslicecap need cap ≤ 2 * need + 600 := by
  unfold Builtin.nextslicecap
  split
  · omega
  · split
    · omega
    · have := growBy_le need 4 cap (by omega); omega

theorem elemOk_spec {e : TypeId} (h : elemOk P e = true) : ∃ d i z, P.underlying e = some d ∧ P.info? e = some i ∧ i.zero = some z ∧ z.cells.size = P.cellsOf e ∧ i.bytes ≤ 4096 := by
  unfold elemOk at h
  simp only [Bool.and_eq_true, decide_eq_true_eq] at h
  obtain ⟨⟨h1, h2⟩, h3⟩ := h
  obtain ⟨d, hd⟩ := Option.isSome_iff_exists.1 h1
  obtain ⟨i, hi⟩ := info_of hd
  rw [hi] at h3
  simp only [Option.bind_some] at h3
  cases hz : i.zero with
  | none => simp [hz] at h3
  | some z =>
    simp [hz] at h3
    refine ⟨d, i, z, hd, hi, hz, h3, ?_⟩
    simpa [Program.bytesOf, hi] using h2

theorem setRow_heap' {x : Nat} {cells : Array Value} {e : TypeId} {l : Array Value} (h : w.heap[x]? = some (.cells cells e (0, 0))) : (w.setRow x l).heap[x]? = some (.cells l e (0, 0)) := setRow_heap w x _ _ _ _ h
theorem setRow_off {x y : Nat} {l : Array Value} (h : y ≠ x) : (w.setRow x l).heap[y]? = w.heap[y]? := setRow_other w x y l h

/-- What append comes to, in the model. -/
theorem run_append {ty ty2 e : TypeId} {out : TypeId} {base base2 : Option Addr} {xs ys : List CVal} {cap cap2 : Nat} {us vs : List Value}
    (hty : P.underlying ty = some (.slice e)) (hty2 : isSliceT P ty2 = true) (hok : elemOk P e = true) (hlim : xs.length + ys.length ≤ lim)
    (hl : xs.length ≤ cap) (hxs : EsRel N w (P.cellsOf e) xs us) (hys : EsRel N w (P.cellsOf e) ys vs)
    (hry0 : ∀ (cap : Nat) (w1 : World), w1.heap = w.heap → (Builtin.firstCells (P.cellsOf e) ys.length (.slice base2 ys.length cap)).run P w1 = .ok (flatC vs).toArray w1)
    (hrx0 : ∀ (cap : Nat) (w1 : World), w1.heap = w.heap → (Builtin.firstCells (P.cellsOf e) xs.length (.slice base xs.length cap)).run P w1 = .ok (flatC us).toArray w1) :
    (xs.length + ys.length ≤ cap ∧ ∀ w', (match base with | some a => (storeCells (a.add (xs.length * P.cellsOf e)) (flatC vs)).run P w = .ok () w' | none => w' = w) →
      (Builtin.append_ #[ty, ty2] out #[.slice base xs.length cap, .slice base2 ys.length cap2]).run P w = .ok (.slice base (xs.length + ys.length) cap) w') ∨
    (cap < xs.length + ys.length ∧ ∃ newCap rest, xs.length + ys.length ≤ newCap ∧ rest.length = (newCap - (xs.length + ys.length)) * P.cellsOf e ∧
      (Builtin.append_ #[ty, ty2] out #[.slice base xs.length cap, .slice base2 ys.length cap2]).run P w =
        .ok (.slice (some (pl w.heap.size 0)) (xs.length + ys.length) newCap) (({ w with drawn := w.drawn + 1 } : World).alloc (.cells (flatC us ++ flatC vs ++ rest).toArray e (0, 0)))) := by
  obtain ⟨d, i, z, hd, hi, hz, hzs, hby⟩ := elemOk_spec hok
  have hry := hry0 cap2
  have hrx' := hrx0 cap
  obtain ⟨e2, h2⟩ : ∃ e2, P.underlying ty2 = some (.slice e2) := by
    unfold isSliceT at hty2
    split at hty2
    · rename_i e2 h2; exact ⟨e2, h2⟩
    · cases hty2
  by_cases hcap : xs.length + ys.length ≤ cap
  · left
    refine ⟨hcap, fun w' hw' => ?_⟩
    cases base with
    | none =>
      simp only at hw'; subst hw'
      simp [Builtin.append_, run_und hty, run_size hd, run_und h2, Builtin.lenOf, hcap, hry w' rfl]
    | some a =>
      simp only at hw'
      simp [Builtin.append_, run_und hty, run_size hd, run_und h2, Builtin.lenOf, hcap, hry w rfl, hw']
  · right
    refine ⟨by omega, ?_⟩
    have hnext := nextslicecap_le (xs.length + ys.length) cap (by omega)
    have hb : ¬ (2 ^ 48 < Builtin.nextslicecap (xs.length + ys.length) cap * i.bytes) := by
      have : Builtin.nextslicecap (xs.length + ys.length) cap * i.bytes ≤ (2 * (xs.length + ys.length) + 600) * 4096 := Nat.mul_le_mul hnext hby
      unfold lim at hlim
      omega
    have hmax : ¬ (IntKind.i64.max < ((xs.length + ys.length : Nat) : Int)) := by
      have : IntKind.i64.max = 9223372036854775807 := by decide
      rw [this]; unfold lim at hlim; omega
    let newCap := (Question.appendCap (xs.length + ys.length) cap e).cut (w.tape w.drawn (Question.appendCap (xs.length + ys.length) cap e))
    have hge : xs.length + ys.length ≤ newCap := by
      show _ ≤ xs.length + ys.length + _
      omega
    refine ⟨newCap, (Builtin.zeroCells z.cells (newCap - (xs.length + ys.length))).toList, hge, ?_, ?_⟩
    · simp [Builtin.zeroCells, hzs]
    · have h3 := hrx' w.drew rfl
      have h4 := hry w.drew rfl
      have hinfo : ∀ w1 : World, (typeInfo e).run P w1 = .ok i w1 := fun w1 => by simp [typeInfo, hi]
      have hzero : ∀ w1 : World, (zeroValue e).run P w1 = .ok z w1 := fun w1 => run_zero hi hz
      have hf : (Question.appendCap (xs.length + ys.length) cap e).forced = false := rfl
      have hb' : ¬ (281474976710656 < Builtin.nextslicecap (xs.length + ys.length) cap * i.bytes) := hb
      have hmax' : ¬ (9223372036854775807 < (xs.length : Int) + (ys.length : Int)) := by unfold lim at hlim; omega
      simp [Builtin.append_, run_und hty, run_size hd, run_und h2, Builtin.lenOf, hcap, hinfo, hzero, hf, hb', hmax', h3, h4, newRow]
      refine ⟨⟨rfl, rfl⟩, ?_⟩
      congr 2
      apply Array.ext'
      simp [newCap]

theorem drew_heap (w : World) : ({ w with drawn := w.drawn + 1 } : World).heap = w.heap := rfl
theorem drew_old (w : World) (o : Obj) (x : Nat) (h : x < w.heap.size) : (({ w with drawn := w.drawn + 1 } : World).alloc o).heap[x]? = w.heap[x]? := alloc_old _ o x h
theorem drew_size (w : World) (o : Obj) : (({ w with drawn := w.drawn + 1 } : World).alloc o).heap.size = w.heap.size + 1 := alloc_size _ o
theorem drew_at (w : World) (o : Obj) : (({ w with drawn := w.drawn + 1 } : World).alloc o).heap[w.heap.size]? = some o := alloc_heap ({ w with drawn := w.drawn + 1 } : World) o

theorem flatC_append (us vs : List Value) : flatC (us ++ vs) = flatC us ++ flatC vs := by simp [flatC]

/-- Cells in a block, read as elements. -/
theorem ElRel.inBlock {sz x : Nat} {xs : List CVal} {us : List Value} {cells : List Value} {e : TypeId} {fr : Nat × Nat} (h : EsRel N w sz xs us)
    (hw : w.heap[x]? = some (.cells cells.toArray e fr)) (hp : ∀ (j : Nat) (v : Value), (flatC us)[j]? = some v → cells[j]? = some v) : ElRel N w sz x 0 xs :=
  h.put fun j v hv => by
    rw [cell_of_heap hw, Nat.zero_add]; exact hp j v hv

/-- append to nothing. -/
theorem append_new {ty ty2 e out : TypeId} {q : Nat} {ys : List CVal} {base base2 : Option Addr} {cap2 : Nat} (R : Rel F w μ b) (hq : Free μ b q)
    (hty : P.underlying ty = some (.slice e)) (hty2 : isSliceT P ty2 = true) (hok : elemOk P e = true) (hlim : ys.length ≤ lim) (hl2 : ys.length ≤ cap2)
    (hf : ys.all (CVal.fits (aggT P e) (P.cellsOf e)) = true)
    (hc : ys = [] ∨ ∃ z o sz, base2 = some (pl z o) ∧ z < w.heap.size ∧ ElRel (Or F (Own μ b)) w sz z o ys) :
    ∃ v w' μ', (Builtin.append_ #[ty, ty2] out #[.slice base 0 0, .slice base2 ys.length cap2]).run P w = .ok v w' ∧
      Post F w μ b w' μ' (putNew b q ⟨0, .arr (P.cellsOf e) ys⟩) (.lref q 0) v := by
  obtain ⟨us, hus, hrun⟩ := run_firstCells (P := P) hc hf
  have h0 : ∀ (cap : Nat) (w1 : World), w1.heap = w.heap → (Builtin.firstCells (P.cellsOf e) ([] : List CVal).length (.slice base ([] : List CVal).length cap)).run P w1 = .ok (flatC []).toArray w1 := by
    intro cap w1 _
    cases base with
    | none => rfl
    | some a => simp [Builtin.firstCells, loadCells, loadCellsFrom, flatC]
  have hap := run_append (out := out) (cap := 0) (cap2 := cap2) (base := base) (base2 := base2) (xs := []) (us := []) hty hty2 hok (by simpa using hlim) (Nat.le_refl _) rfl hus hrun h0
  have hqμ : q ≤ μ.length := by rw [R.len]; exact hq.le
  simp only [List.length_nil, Nat.zero_add, Nat.zero_mul] at hap
  rcases hap with ⟨h1, h2⟩ | ⟨h1, newCap, rest, h2, h3, h4⟩
  · have hy : ys = [] := List.length_eq_zero_iff.1 (by omega)
    subst hy
    have hu : us = [] := hus
    subst hu
    refine ⟨_, w, putH μ q (.arr base 0 0 (P.cellsOf e)), h2 w ?_, ?_⟩
    · cases base with
      | none => rfl
      | some a => simp [storeCells, flatC]
    · refine new_post R hq (Nat.le_refl _) (fun _ _ => rfl) ?_ rfl rfl rfl ?_ ?_
      · intro x hx; cases base <;> simp [Hd.own] at hx
      · intro U; exact ⟨base, 0, rfl, Nat.le_refl _, .inl rfl⟩
      · exact ⟨rfl, _, _, putNew_at hq.le, putH_at hqμ, by simp, Nat.le_refl _, fun _ _ => rfl⟩
  · refine ⟨_, _, putH μ q (.arr (some (pl w.heap.size 0)) ys.length newCap (P.cellsOf e)), h4, ?_⟩
    refine new_post R hq (by rw [drew_size]; omega) (fun x hx => drew_old w _ x hx) ?_ rfl rfl rfl ?_ ?_
    · intro x hx
      simp only [Hd.own] at hx
      split at hx
      · cases hx
      · cases hx; simp only [pl]; rw [drew_size]; omega
    · intro U
      refine ⟨_, newCap, rfl, h2, .inr ⟨w.heap.size, _, e, rfl, drew_at w _, ?_, ?_⟩⟩
      · have := hus.flat_len
        have h6 : (flatC []).length = 0 := rfl
        simp only [List.size_toArray, List.length_append, this, h3, h6, Nat.zero_add]
        rw [← Nat.add_mul, show ys.length + (newCap - ys.length) = newCap by omega]; exact Nat.le_refl _
      · refine ElRel.inBlock (hus.keep U.keep) (drew_at w _) fun j v hv => ?_
        rw [show flatC [] ++ flatC us ++ rest = flatC us ++ rest from rfl, List.getElem?_append_left (List.getElem?_eq_some_iff.1 hv).1]; exact hv
    · exact ⟨rfl, _, _, putNew_at hq.le, putH_at hqμ, by simp, Nat.le_refl _, fun _ _ => rfl⟩

/-- One block alone that is there turns, its handle and what it owns may be others. -/
theorem set_one {w' : World} {i : Nat} {blk blk' : Blk} {h h' : Hd} (R : Rel F w μ b) (hb : b[i]? = some blk) (hm : μ[i]? = some h) (V : VerOk blk h blk' h')
    (hs : w.heap.size ≤ w'.heap.size)
    (hn : ∀ x, alive blk'.body = true → h'.own = some x → x < w'.heap.size ∧ (w.heap.size ≤ x ∨ (alive blk.body = true ∧ h.own = some x)))
    (hmem : ∀ x, x < w.heap.size → (alive blk.body = true → h.own ≠ some x) → w'.heap[x]? = w.heap[x]?) :
    One F w μ b w' (μ.set i h') (b.set i blk') i := by
  have hi := (List.getElem?_eq_some_iff.1 hb).1
  have hi' := (List.getElem?_eq_some_iff.1 hm).1
  refine ⟨R, by simpa using R.len, by simp, fun j hj hne => ⟨List.getElem?_set_ne (Ne.symm hne), List.getElem?_set_ne (Ne.symm hne)⟩, by simpa using hi, ?_, hs, ?_, ?_⟩
  · intro blk0 h0 hb0 hm0
    rw [hb] at hb0; cases hb0
    rw [hm] at hm0; cases hm0
    exact ⟨blk', h', List.getElem?_set_self hi, List.getElem?_set_self hi', V⟩
  · intro blk0 h0 x hb0 hm0 ha ho
    rw [List.getElem?_set_self hi] at hb0; cases hb0
    rw [List.getElem?_set_self hi'] at hm0; cases hm0
    obtain ⟨h1, h2⟩ := hn x ha ho
    exact ⟨h1, h2.imp id fun ⟨h3, h4⟩ => ⟨blk, h, hb, hm, h3, h4⟩⟩
  · intro x hx hc
    exact hmem x hx fun ha => hc blk h hb hm ha

theorem set_post {w' : World} {i : Nat} {blk blk' : Blk} {h h' : Hd} {x : AVal} {v : Value} (R : Rel F w μ b) (hb : b[i]? = some blk) (hm : μ[i]? = some h) (V : VerOk blk h blk' h')
    (hs : w.heap.size ≤ w'.heap.size)
    (hn : ∀ x, alive blk'.body = true → h'.own = some x → x < w'.heap.size ∧ (w.heap.size ≤ x ∨ (alive blk.body = true ∧ h.own = some x)))
    (hmem : ∀ x, x < w.heap.size → (alive blk.body = true → h.own ≠ some x) → w'.heap[x]? = w.heap[x]?)
    (hos : w'.os = w.os) (ht : w'.tape = w.tape) (ho : w'.output = w.output)
    (hB : Upd F w μ b w' (μ.set i h') (b.set i blk') → BRel (Or F (Own (μ.set i h') (b.set i blk'))) w' (μ.set i h') (b.set i blk') h' blk'.body)
    (hv : Upd F w μ b w' (μ.set i h') (b.set i blk') → ARel (Or F (Own (μ.set i h') (b.set i blk'))) w' (μ.set i h') (b.set i blk') x v) :
    Post F w μ b w' (μ.set i h') (b.set i blk') x v := by
  have O := set_one (blk' := blk') R hb hm V hs hn hmem
  have hi := (List.getElem?_eq_some_iff.1 hb).1
  have hi' := (List.getElem?_eq_some_iff.1 hm).1
  refine ⟨O.upd, O.done ?_, hv O.upd, O.fr hos ht ho⟩
  intro blk0 h0 hb0 hm0
  rw [List.getElem?_set_self hi] at hb0; cases hb0
  rw [List.getElem?_set_self hi'] at hm0; cases hm0
  exact hB O.upd

/-- append to a slice of one's own. -/
theorem append_own {ty ty2 e out : TypeId} {i ver : Nat} {xs ys : List CVal} {base2 : Option Addr} {cap2 : Nat} {v : Value} (R : Rel F w μ b)
    (hx : ARel (Or F (Own μ b)) w μ b (.lref i ver) v) (hxs : arrOf b i ver = some xs) (hsz : szOf b i = P.cellsOf e)
    (hty : P.underlying ty = some (.slice e)) (hty2 : isSliceT P ty2 = true) (hok : elemOk P e = true) (hlim : xs.length + ys.length ≤ lim) (hl2 : ys.length ≤ cap2)
    (hf : ys.all (CVal.fits (aggT P e) (P.cellsOf e)) = true)
    (hc : ys = [] ∨ ∃ z o sz, base2 = some (pl z o) ∧ z < w.heap.size ∧ ElRel (Or F (Own μ b)) w sz z o ys) :
    ∃ v' w' μ', (Builtin.append_ #[ty, ty2] out #[v, .slice base2 ys.length cap2]).run P w = .ok v' w' ∧
      Post F w μ b w' μ' (b.set i ⟨ver + 1, .arr (P.cellsOf e) (xs ++ ys)⟩) (.lref i (ver + 1)) v' := by
  obtain ⟨sz, base, cap, hb, hm, hl, hcap⟩ := R.arr hxs
  obtain ⟨_, blk, hh, hb', hm', _, _, hcur⟩ := hx
  rw [hb] at hb'; cases hb'
  rw [hm] at hm'; cases hm'
  have hv := hcur rfl rfl
  subst hv
  have hi := (List.getElem?_eq_some_iff.1 hb).1
  have hi' := (List.getElem?_eq_some_iff.1 hm).1
  have hsz' : sz = P.cellsOf e := by simpa [szOf, hb] using hsz
  subst hsz'
  obtain ⟨us, hus, hrun⟩ := run_firstCells (P := P) hc hf
  -- the elements that are there
  have hold : ∃ vs, EsRel (Or F (Own μ b)) w (P.cellsOf e) xs vs ∧
      (∀ (cap : Nat) (w1 : World), w1.heap = w.heap → (Builtin.firstCells (P.cellsOf e) xs.length (.slice base xs.length cap)).run P w1 = .ok (flatC vs).toArray w1) ∧
      (cap = 0 ∨ ∃ x cells t, base = some (pl x 0) ∧ w.heap[x]? = some (.cells cells t (0, 0)) ∧ cap * P.cellsOf e ≤ cells.size ∧ Own μ b x ∧
        ∀ (j : Nat) (v : Value), (flatC vs)[j]? = some v → cells[j]? = some v) := by
    by_cases h0 : cap = 0
    · have hx0 : xs = [] := List.length_eq_zero_iff.1 (by omega)
      subst hx0
      refine ⟨[], rfl, fun cap w1 _ => ?_, .inl h0⟩
      cases base with
      | none => rfl
      | some a => simp [Builtin.firstCells, loadCells, loadCellsFrom, flatC]
    · obtain ⟨x, cells, t, rfl, hw, hz, he⟩ := hcap.resolve_left h0
      obtain ⟨vs, hvs, hcell⟩ := he.out
      refine ⟨vs, hvs, fun cap w1 hw1 => ?_, .inr ⟨x, cells, t, rfl, hw, hz, ⟨i, _, _, hb, rfl, hm, by simp [Hd.own, h0, pl]⟩, fun j v hv => ?_⟩⟩
      · have hlen := hvs.flat_len
        have := run_loadCells_list (P := P) w1 (pl x 0) (flatC vs) fun j v hj => by rw [pl_add, cell_heap hw1]; exact hcell j v hj
        simp only [Builtin.firstCells]
        rw [← hlen]; exact this
      · have := hcell j v hv
        simpa [World.cell?, pl, hw] using this
  obtain ⟨vs, hvs, hrx, hblk⟩ := hold
  have hap := run_append (out := out) (cap := cap) (cap2 := cap2) (base := base) (base2 := base2) hty hty2 hok hlim hl hvs hus hrun hrx
  have hall : EsRel (Or F (Own μ b)) w (P.cellsOf e) (xs ++ ys) (vs ++ us) := hvs.append hus
  have hflen := hvs.flat_len
  have hfl2 := hus.flat_len
  rcases hap with ⟨h1, h2⟩ | ⟨h1, newCap, rest, h2, h3, h4⟩
  · by_cases h0 : cap = 0
    · -- nothing is there, nothing comes
      have hy : ys = [] := List.length_eq_zero_iff.1 (by omega)
      subst hy
      have hu : us = [] := hus
      subst hu
      refine ⟨_, w, μ.set i (.arr base xs.length cap (P.cellsOf e)), h2 w ?_, ?_⟩
      · cases base with
        | none => rfl
        | some a => simp [storeCells, flatC]
      · refine set_post R hb hm ⟨Nat.le_succ _, (fun _ h => by cases h), (fun _ h => by cases h), fun e => by simp at e⟩ (Nat.le_refl _) ?_ (fun _ _ _ => rfl) rfl rfl rfl ?_ ?_
        · intro x _ ho
          exact ⟨(R.fres x ⟨i, _, _, hb, rfl, hm, ho⟩).2, .inr ⟨rfl, ho⟩⟩
        · intro U; exact ⟨base, cap, by simp, by simpa using hl, .inl h0⟩
        · intro U; exact ⟨rfl, _, _, List.getElem?_set_self hi, List.getElem?_set_self hi', by simp, Nat.le_refl _, fun _ _ => rfl⟩
    · obtain ⟨x, cells, t, rfl, hw, hz, hown, hpre⟩ := hblk.resolve_left h0
      have hroom : 0 + xs.length * P.cellsOf e + (flatC us).length ≤ cells.size := by
        rw [hfl2]
        have : (xs.length + ys.length) * P.cellsOf e ≤ cap * P.cellsOf e := Nat.mul_le_mul_right _ h1
        rw [Nat.add_mul] at this; omega
      have hst := run_storeCells_at (P := P) x (xs.length * P.cellsOf e) t (flatC us) 0 cells w hw (by omega) fun v hv => flat_oneCell (hus.flatAll v hv)
      simp only [Nat.add_zero] at hst
      refine ⟨_, w.setRow x (cells.toList.take (xs.length * P.cellsOf e) ++ flatC us ++ cells.toList.drop (xs.length * P.cellsOf e + (flatC us).length)).toArray,
        μ.set i (.arr (some (pl x 0)) (xs.length + ys.length) cap (P.cellsOf e)), h2 _ ?_, ?_⟩
      · simp only [pl_add, Nat.zero_add]; exact hst
      · have hx1 : ∀ y, (Hd.arr (some (pl x 0)) (xs.length + ys.length) cap (P.cellsOf e)).own = some y → y = x := by
          intro y hy; simp [Hd.own, h0, pl] at hy; exact hy.symm
        refine set_post R hb hm ⟨Nat.le_succ _, (fun _ h => by cases h), (fun _ h => by cases h), fun e => by simp at e⟩ (by simp) ?_ ?_ rfl rfl rfl ?_ ?_
        · intro y _ ho
          have := hx1 y ho
          subst this
          exact ⟨by simpa using (R.fres y hown).2, .inr ⟨rfl, by simp [Hd.own, h0, pl]⟩⟩
        · intro y hy hne
          refine setRow_off fun e => ?_
          subst e
          exact hne rfl (by simp [Hd.own, h0, pl])
        · intro U
          refine ⟨_, cap, by simp, by simpa using h1, .inr ⟨x, _, t, rfl, setRow_heap' hw, ?_, ?_⟩⟩
          · simp only [List.size_toArray, List.length_append, List.length_take, List.length_drop, Array.length_toList]
            omega
          · refine ElRel.inBlock (hall.keep U.keep) (setRow_heap' hw) fun j v hv => ?_
            rw [flatC_append] at hv
            by_cases hj : j < (flatC vs).length
            · rw [List.getElem?_append_left hj] at hv
              rw [List.append_assoc, List.getElem?_append_left (by simp; omega), List.getElem?_take_of_lt (by omega)]
              simpa using hpre j v hv
            · rw [List.getElem?_append_right (by omega)] at hv
              have hj2 := (List.getElem?_eq_some_iff.1 hv).1
              rw [List.append_assoc, List.getElem?_append_right (by simp; omega)]
              have hmin : min (xs.length * P.cellsOf e) cells.size = xs.length * P.cellsOf e := by omega
              simp only [List.length_take, Array.length_toList, hmin]
              rw [List.getElem?_append_left (by omega), ← hflen]; exact hv
        · intro U; exact ⟨rfl, _, _, List.getElem?_set_self hi, List.getElem?_set_self hi', by simp, Nat.le_refl _, fun _ _ => rfl⟩
  · refine ⟨_, _, μ.set i (.arr (some (pl w.heap.size 0)) (xs.length + ys.length) newCap (P.cellsOf e)), h4, ?_⟩
    refine set_post R hb hm ⟨Nat.le_succ _, (fun _ h => by cases h), (fun _ h => by cases h), fun e => by simp at e⟩ (by rw [drew_size]; omega) ?_ (fun x hx _ => drew_old w _ x hx) rfl rfl rfl ?_ ?_
    · intro x _ hx
      simp only [Hd.own] at hx
      split at hx
      · cases hx
      · cases hx; simp only [pl]; rw [drew_size]; omega
    · intro U
      refine ⟨_, newCap, by simp, by simpa using h2, .inr ⟨w.heap.size, _, e, rfl, drew_at w _, ?_, ?_⟩⟩
      · simp only [List.size_toArray, List.length_append, hflen, hfl2, h3]
        rw [← Nat.add_mul, ← Nat.add_mul, show xs.length + ys.length + (newCap - (xs.length + ys.length)) = newCap by omega]; exact Nat.le_refl _
      · refine ElRel.inBlock (hall.keep U.keep) (drew_at w _) fun j v hv => ?_
        rw [flatC_append] at hv
        rw [List.getElem?_append_left (by simpa using (List.getElem?_eq_some_iff.1 hv).1)]; exact hv
    · intro U; exact ⟨rfl, _, _, List.getElem?_set_self hi, List.getElem?_set_self hi', by simp, Nat.le_refl _, fun _ _ => rfl⟩
end

end Go.Proofs.YtomkegeojknihaaDoor.Abs

/-! Stores, literals, slices of slices. -/
namespace Go.Proofs.YtomkegeojknihaaDoor.Abs
open Go
variable [Glob]

section
variable {P : Program} {w : World} {F N : Nat → Prop} {μ : List Hd} {b : List Blk} {R' : Type} {r : R'}

theorem set_self {α : Type} {l : List α} {i : Nat} {x : α} (h : l[i]? = some x) : l.set i x = l := by
  apply List.ext_getElem?
  intro j
  by_cases hj : i = j
  · subst hj; rw [List.getElem?_set_self (List.getElem?_eq_some_iff.1 h).1, h]
  · rw [List.getElem?_set_ne hj]

/-- What an operation comes to that may write. -/
def Acts (P : Program) (F : Nat → Prop) (w : World) (μ : List Hd) (b : List Blk) (K : AVal → List Blk → Option R') (r : R') (S : Sem Value) (ro : Bool) : Prop :=
  ∃ y b', K y b' = some r ∧ (ro = true → b' = b) ∧ ∃ u w' μ', S.run P w = .ok u w' ∧ Post F w μ b w' μ' b' y u

theorem Post.pre {w1 w2 : World} {μ1 μ2 : List Hd} {b1 b2 : List Blk} {x : AVal} {v : Value} (U : Upd F w μ b w1 μ1 b1) (f : Fr (Own μ b) w w1) (p : Post F w1 μ1 b1 w2 μ2 b2 x v) :
    Post F w μ b w2 μ2 b2 x v := ⟨U.trans p.upd, p.rel, p.val, Fr.step U f p.fr⟩

theorem verOf_at {i : Nat} {blk : Blk} (h : b[i]? = some blk) : verOf b i = blk.ver := by simp [verOf, h]

theorem flatC_set {sz : Nat} : ∀ {us : List Value} {i j : Nat} {u : Value}, (∀ z ∈ us, z.cells.size = sz) → u.cells.size = sz → i < us.length →
    (flatC (us.set i u))[j]? = if i * sz ≤ j ∧ j < i * sz + sz then u.cells[j - i * sz]? else (flatC us)[j]?
  | [], i, j, u, _, _, hi => by simp at hi
  | a :: r, 0, j, u, h, hu, _ => by
    have ha := h a (by simp)
    simp only [List.set_cons_zero, flatC, List.flatMap_cons, Nat.zero_mul, Nat.zero_le, true_and, Nat.zero_add, Nat.sub_zero]
    split
    · rw [List.getElem?_append_left (by simpa [hu])]; simp
    · rw [List.getElem?_append_right (by simp [hu]; omega), List.getElem?_append_right (by simp [ha]; omega)]
      simp [hu, ha]
  | a :: r, i + 1, j, u, h, hu, hi => by
    have ha := h a (by simp)
    have ih := flatC_set (us := r) (i := i) (j := j - sz) (u := u) (fun z hz => h z (by simp [hz])) hu (by simpa using hi)
    have e : (i + 1) * sz = i * sz + sz := by rw [Nat.add_mul]; omega
    simp only [flatC] at ih
    simp only [List.set_cons_succ, flatC, List.flatMap_cons]
    by_cases hj : j < sz
    · rw [List.getElem?_append_left (by simp [ha]; omega), List.getElem?_append_left (by simp [ha]; omega), if_neg (by omega)]
    · rw [List.getElem?_append_right (by simp [ha]; omega), List.getElem?_append_right (by simp [ha]; omega)]
      simp only [Array.length_toList, ha]
      rw [ih, e]
      by_cases h2 : i * sz ≤ j - sz ∧ j - sz < i * sz + sz
      · rw [if_pos h2, if_pos (by omega)]; congr 1; omega
      · rw [if_neg h2, if_neg (by omega)]

theorem EsRel.sizes {sz : Nat} : ∀ {xs : List CVal} {us : List Value}, EsRel N w sz xs us → ∀ z ∈ us, z.cells.size = sz
  | [], _, h, z, hz => by rw [show _ = [] from h] at hz; cases hz
  | c :: r, _, h, z, hz => by
    obtain ⟨u, l, rfl, _, _, hs, h⟩ := h
    cases hz with
    | head => exact hs
    | tail _ hz => exact EsRel.sizes h z hz

theorem EsRel.get {sz : Nat} : ∀ {xs : List CVal} {us : List Value} {i : Nat} {c : CVal}, EsRel N w sz xs us → xs[i]? = some c → ∃ u, us[i]? = some u ∧ noTup c = true ∧ CRel N w c u ∧ u.cells.size = sz
  | [], _, i, _, _, hi => by simp at hi
  | c :: r, _, 0, _, h, hi => by
    obtain ⟨u, l, rfl, h1, h2, h3, h⟩ := h
    simp at hi; subst hi
    exact ⟨u, rfl, h1, h2, h3⟩
  | c :: r, _, i + 1, _, h, hi => by
    obtain ⟨u, l, rfl, _, _, _, h⟩ := h
    obtain ⟨z, hz⟩ := EsRel.get h (by simpa using hi)
    exact ⟨z, by simpa using hz⟩

theorem EsRel.set {sz : Nat} : ∀ {xs : List CVal} {us : List Value} {i : Nat} {d : CVal} {u : Value}, EsRel N w sz xs us → noTup d = true → CRel N w d u → u.cells.size = sz →
    EsRel N w sz (xs.set i d) (us.set i u)
  | [], _, i, _, _, h, _, _, _ => by rw [show _ = [] from h]; simp [EsRel]
  | c :: r, _, 0, d, u, h, h1, h2, h3 => by
    obtain ⟨a, l, rfl, _, _, _, h⟩ := h
    exact ⟨u, l, rfl, h1, h2, h3, h⟩
  | c :: r, _, i + 1, d, u, h, h1, h2, h3 => by
    obtain ⟨a, l, rfl, g1, g2, g3, h⟩ := h
    exact ⟨a, l.set i u, rfl, g1, g2, g3, EsRel.set h h1 h2 h3⟩

/-- A store into one's own array, at a place within an element. -/
theorem store_elem {i ver idx off sz cap : Nat} {xs : List CVal} {c d : CVal} {x : Nat} {cells : Array Value} {e : TypeId} {vs : List Value} (R : Rel F w μ b)
    (hb : b[i]? = some ⟨ver, .arr sz xs⟩) (hm : μ[i]? = some (.arr (some (pl x 0)) xs.length cap sz)) (hl : xs.length ≤ cap) (h0 : cap ≠ 0)
    (hw : w.heap[x]? = some (.cells cells e (0, 0))) (hz : cap * sz ≤ cells.size) (hel : ElRel (Or F (Own μ b)) w sz x 0 xs)
    (hc : xs[idx]? = some c) (hd0 : noTup d = true)
    (hnew : ∀ u, CRel (Or F (Own μ b)) w c u → u.cells.size = sz → ∃ u', CRel (Or F (Own μ b)) w d u' ∧ u'.cells.size = sz ∧ u'.cells.toList = u.cells.toList.take off ++ vs ++ u.cells.toList.drop (off + vs.length))
    (hflat : ∀ v ∈ vs, flat v = true) (hroom : off + vs.length ≤ sz) :
    ∃ w', (storeCells (pl x (idx * sz + off)) vs).run P w = .ok () w' ∧ ∀ z, Post F w μ b w' μ (b.set i ⟨ver, .arr sz (xs.set idx d)⟩) .un z := by
  obtain ⟨us, hus, hcell⟩ := hel.out
  obtain ⟨u, hu, ht, hcu, husz⟩ := hus.get hc
  obtain ⟨u', hcu', husz', hcat⟩ := hnew u hcu husz
  have hidx := (List.getElem?_eq_some_iff.1 hc).1
  have hlen := hus.len
  have hbig : idx * sz + sz ≤ cells.size := by
    have h1 : (idx + 1) * sz ≤ cap * sz := Nat.mul_le_mul_right _ (by omega)
    rw [Nat.add_mul] at h1; omega
  have hst := run_storeCells_at (P := P) x (idx * sz + off) e vs 0 cells w hw (by omega) fun z hz => flat_oneCell (hflat z hz)
  have hown : Own μ b x := ⟨i, _, _, hb, rfl, hm, by simp [Hd.own, h0, pl]⟩
  refine ⟨_, hst, fun z => ?_⟩
  have key := set_post (F := F) (x := .un) (v := z) (h' := .arr (some (pl x 0)) xs.length cap sz) (blk' := ⟨ver, .arr sz (xs.set idx d)⟩)
    (w' := w.setRow x (cells.toList.take (idx * sz + off) ++ vs ++ cells.toList.drop (idx * sz + off + vs.length)).toArray)
    R hb hm ⟨Nat.le_refl _, id, fun _ h => h, fun _ _ _ => ⟨rfl, rfl⟩⟩ (by simp) ?_ ?_ rfl rfl rfl ?_ ?_
  · rw [set_self hm] at key; exact key
  · intro z _ hz
    simp [Hd.own, h0, pl] at hz; subst hz
    exact ⟨by simpa using (R.fres _ hown).2, .inr ⟨rfl, by simp [Hd.own, h0, pl]⟩⟩
  · intro z _ hne
    exact setRow_off fun e => hne rfl (by rw [e]; simp [Hd.own, h0, pl])
  · intro U
    refine ⟨_, cap, by simp, by simpa using hl, .inr ⟨x, _, e, rfl, setRow_heap' hw, ?_, ?_⟩⟩
    · simp only [List.size_toArray, List.length_append, List.length_take, List.length_drop, Array.length_toList]; omega
    · refine ElRel.inBlock (EsRel.set (hus.keep U.keep) hd0 (CRel.keep U.keep hcu') husz') (setRow_heap' hw) fun j v hv => ?_
      rw [flatC_set hus.sizes husz' (by omega)] at hv
      have old : ∀ v, (flatC us)[j]? = some v → cells.toList[j]? = some v := fun v hv => by
        have := hcell j v hv
        simpa [World.cell?, pl, hw] using this
      have hoff : ∀ j', j' < sz → u.cells.toList[j']? = cells.toList[idx * sz + j']? := by
        intro j' hj'
        have h1 : u.cells[j']? = some (u.cells[j']'(by omega)) := Array.getElem?_eq_getElem (by omega)
        have h2 : (flatC us)[idx * sz + j']? = u.cells[j']? := by
          have := flatC_set (us := us) (i := idx) (j := idx * sz + j') (u := u) hus.sizes husz (by omega)
          rw [set_self hu, if_pos (by omega)] at this
          rw [this]; congr 1; omega
        rw [h1] at h2
        have h3 := hcell _ _ h2
        have h4 : cells[idx * sz + j']? = some (u.cells[j']'(by omega)) := by simpa [World.cell?, pl, hw] using h3
        rw [Array.getElem?_toList, Array.getElem?_toList, h1, h4]
      split at hv
      · rename_i hj
        rw [← Array.getElem?_toList, hcat] at hv
        by_cases h1 : j - idx * sz < off
        · rw [List.append_assoc, List.getElem?_append_left (by simp; omega), List.getElem?_take_of_lt h1, hoff _ (by omega), show idx * sz + (j - idx * sz) = j by omega] at hv
          rw [List.append_assoc, List.getElem?_append_left (by simp; omega), List.getElem?_take_of_lt (by omega)]
          exact hv
        · have m1 : min off sz = off := by omega
          have m2 : min (idx * sz + off) cells.size = idx * sz + off := by omega
          rw [List.append_assoc, List.getElem?_append_right (by simp; omega)] at hv
          rw [List.append_assoc, List.getElem?_append_right (by simp; omega)]
          simp only [List.length_take, Array.length_toList, husz, m1, m2] at hv ⊢
          rw [show j - idx * sz - off = j - (idx * sz + off) by omega] at hv
          by_cases h2 : j - (idx * sz + off) < vs.length
          · rw [List.getElem?_append_left h2] at hv ⊢; exact hv
          · rw [List.getElem?_append_right (by omega)] at hv ⊢
            rw [List.getElem?_drop] at hv ⊢
            rw [hoff _ (by omega)] at hv
            rw [← hv]; congr 1; omega
      · rename_i hj
        have hv' := old v hv
        by_cases h1 : j < idx * sz + off
        · rw [List.append_assoc, List.getElem?_append_left (by simp; omega), List.getElem?_take_of_lt h1]; exact hv'
        · have m2 : min (idx * sz + off) cells.size = idx * sz + off := by omega
          rw [List.append_assoc, List.getElem?_append_right (by simp; omega)]
          simp only [List.length_take, Array.length_toList, m2]
          rw [List.getElem?_append_right (by omega), List.getElem?_drop]
          rw [← hv']; congr 1; omega
  · intro U; trivial

theorem storeK_sound {t : TypeId} {x y : AVal} {v u : Value} {K : List Blk → Option R'} (R : Rel F w μ b) (hx : ARel (Or F (Own μ b)) w μ b x v) (hy : ARel (Or F (Own μ b)) w μ b y u)
    (h : storeK P t b x y K = some r) : ∃ b', K b' = some r ∧ ∃ w' μ', (Instr.storeAt t v u).run P w = .ok () w' ∧ ∀ z, Post F w μ b w' μ' b' .un z := by
  unfold storeK at h
  split at h
  · cases h
  rename_i d hd
  split at h
  · rename_i i off
    obtain ⟨cs, hcs, h⟩ := bind_some' h
    obtain ⟨l, vs, h, hl, hvs, hn, _, _⟩ := wCells_sound hy h
    obtain ⟨h0, h⟩ := br_none h
    simp only [decide_eq_true_eq] at h0
    obtain ⟨ver, x', cur, e, hb, hm, hw, ha, ho⟩ := R.box hcs
    obtain ⟨x'', hm', rfl⟩ := hx
    rw [hm] at hm'; cases hm'
    have hlen := ha.len
    have hll := hl.len
    have hst := run_storeCells_at (P := P) x' off e vs 0 (List.toArray cur) w hw (by simp; omega) fun z hz => by
      obtain ⟨j, hj⟩ := List.mem_iff_getElem?.1 hz
      have hj' : j < l.length := by rw [← hll]; exact (List.getElem?_eq_some_iff.1 hj).1
      obtain ⟨z', hz', _, hf⟩ := hl.get (List.getElem?_eq_getElem hj')
      rw [hj] at hz'; cases hz'
      exact flat_oneCell (hf rfl)
    refine ⟨_, h, w.setRow x' (cur.take off ++ vs ++ cur.drop (off + vs.length)).toArray, μ, ?_, fun z => ?_⟩
    · simp only [Instr.storeAt, Sem.run_bind, sureAddr_run, Result.andThen_ok, storeVar, run_size hd, hvs, List.size_toArray, hn, ne_eq, not_true_eq_false, if_false, Sem.run_ite]
      rw [← hn]
      exact hst
    · have e1 : verOf b i = ver := verOf_at hb
      rw [e1]
      have key := set_post (F := F) (x := .un) (v := z) (h' := .box x') (blk' := ⟨ver, .box (splice cs off l)⟩) (w' := w.setRow x' (cur.take off ++ vs ++ cur.drop (off + vs.length)).toArray)
        R hb hm ⟨Nat.le_refl _, id, fun _ h => h, fun _ h => by simp [isArr] at h⟩ (by simp) ?_ ?_ rfl rfl rfl ?_ ?_
      · rw [set_self hm] at key; exact key
      · intro z _ hz; cases hz
        exact ⟨by simpa using (R.fres x' ho).2, .inr ⟨rfl, rfl⟩⟩
      · intro z _ hne
        exact setRow_off fun e => hne rfl (by rw [e]; rfl)
      · intro U
        exact ⟨x', _, e, rfl, setRow_heap' hw, AsRel.upd U (ha.splice off hl)⟩
      · intro U; trivial
  · rename_i i ver idx off
    obtain ⟨c', hc', h⟩ := bind_some' h
    obtain ⟨xs, hxs, h⟩ := bind_some' h
    obtain ⟨c, hc, h⟩ := bind_some' h
    obtain ⟨hfit, h⟩ := br_none h
    obtain ⟨U0, R0⟩ := killA_upd y R
    have hcl := closeA_sound R (killA_sub y b) hc' hy (killA_dead y b)
    have hx0 := ARel.upd U0 hx
    generalize killA y b = b0 at *
    obtain ⟨sz, base, cap, hb, hm, hl, hcap⟩ := R0.arr hxs
    obtain ⟨_, blk, hd', hb', hm', hn, hle, hcur⟩ := hx0
    rw [hb] at hb'; cases hb'
    rw [hm] at hm'; cases hm'
    obtain ⟨x', len, cap', sz', he, hidx, rfl⟩ := hcur rfl rfl
    cases he
    rcases hcap with h0 | ⟨x'', cells, e, hbase, hw, hsz, hel⟩
    · omega
    cases hbase
    have hcap0 : cap ≠ 0 := by omega
    have hszb : szOf b0 i = sz := by simp [szOf, hb]
    obtain ⟨vs, hvs, hcs, hn, _⟩ := CRel.fits hcl hfit
    have hflat : ∀ z ∈ vs, flat z = true := by
      intro z hz
      obtain ⟨j, hj⟩ := List.mem_iff_getElem?.1 hz
      have hj' : j < c'.cells.length := by rw [← hcs.len]; exact (List.getElem?_eq_some_iff.1 hj).1
      obtain ⟨z', hz', _, hf⟩ := hcs.get (List.getElem?_eq_getElem hj')
      rw [hj] at hz'; cases hz'
      exact hf rfl
    have hsv : ∀ w', (storeCells (pl x' (idx * sz + off)) vs).run P w = .ok () w' → (Instr.storeAt t (.pointer (some (pl x' (idx * sz + off)))) u).run P w = .ok () w' := by
      intro w' hr
      simp only [Instr.storeAt, Sem.run_bind, sureAddr_run, Result.andThen_ok, storeVar, run_size hd, hvs, List.size_toArray, hn, ne_eq, not_true_eq_false, if_false, Sem.run_ite]
      exact hr
    rcases br_some h with ⟨h1, g⟩ | ⟨_, g⟩
    · simp only [Bool.and_eq_true, decide_eq_true_eq] at h1
      obtain ⟨h1, hfc⟩ := h1
      subst h1
      rw [hszb] at g
      have hsz' : ∀ u, CRel (Or F (Own μ b0)) w c u → u.cells.size = sz → sz = vs.length := by
        intro u0 hu0 hs0
        obtain ⟨vs0, hvs0, _, hn0, _⟩ := CRel.fits hu0 hfc
        rw [hvs0] at hs0; simp at hs0; omega
      obtain ⟨us, hus, _⟩ := hel.out
      obtain ⟨u0, _, _, hu0, hs0⟩ := hus.get hc
      have hvl := hsz' u0 hu0 hs0
      obtain ⟨w', hr, hp⟩ := store_elem (P := P) (d := c') (off := 0) (vs := vs) R0 hb hm hl hcap0 hw hsz hel hc (fits_noTup hfit) (fun u1 _ hs1 => ⟨u, hcl, by rw [hvs]; simp; omega, by
        rw [hvs]
        have : u1.cells.toList.length = vs.length := by simp; omega
        simp [← this]⟩) hflat (by omega)
      exact ⟨_, g, w', μ, hsv w' hr, fun z => Post.pre U0 (.refl _ _) (hp z)⟩
    · obtain ⟨h1, g⟩ := br_none g
      simp only [Bool.and_eq_true, decide_eq_true_eq] at h1
      obtain ⟨h1, h2⟩ := h1
      rw [hszb] at g
      obtain ⟨cs, rfl⟩ : ∃ cs, c = .agg cs := by
        cases c <;> simp [CVal.isAgg] at h1
        exact ⟨_, rfl⟩
      have h2 : off + c'.cells.length ≤ cs.length := h2
      have hcl' := hcs.len
      have hlen2 : ∀ u1, CRel (Or F (Own μ b0)) w (.agg cs) u1 → u1.cells.size = sz → ∃ vs1 : List Value, u1 = .agg vs1.toArray ∧ CsRel (Or F (Own μ b0)) w true cs vs1 ∧ vs1.length = sz ∧ cs.length = sz := by
        intro u1 hu1 hs1
        obtain ⟨vs1, rfl, hc1⟩ := hu1
        have := hc1.len
        simp [Value.cells] at hs1
        exact ⟨vs1, rfl, hc1, hs1, by omega⟩
      obtain ⟨us, hus, _⟩ := hel.out
      obtain ⟨u0, _, _, hu0, hs0⟩ := hus.get hc
      obtain ⟨_, _, _, _, hcsz⟩ := hlen2 u0 hu0 hs0
      obtain ⟨w', hr, hp⟩ := store_elem (P := P) (d := .agg (splice cs off c'.cells)) (off := off) (vs := vs) R0 hb hm hl hcap0 hw hsz hel hc rfl (fun u1 hu1 hs1 => by
        obtain ⟨vs1, rfl, hc1, hl1, _⟩ := hlen2 u1 hu1 hs1
        refine ⟨.agg (vs1.take off ++ vs ++ vs1.drop (off + vs.length)).toArray, ⟨_, rfl, hc1.splice off hcs⟩, ?_, ?_⟩
        · simp [Value.cells]; omega
        · simp [Value.cells]) hflat (by omega)
      exact ⟨_, g, w', μ, hsv w' hr, fun z => Post.pre U0 (.refl _ _) (hp z)⟩
  · cases h

/-- A part of a slice. -/
theorem run_bound {n : Int} {y : Nat} {k : IntKind} {code : BoundsCode} (h0 : 0 ≤ n) (h1 : n ≤ y) : (Instr.sliceBound (.int k n) y code).run P w = .ok n.toNat w := by
  have : 0 ≤ n ∧ n ≤ (y : Int) := ⟨h0, h1⟩
  simp [Instr.sliceBound, asIntOf, this]

theorem wOpt_sound {x : Option AVal} {v : Option Value} {d : Int} {K : Int → Option R'} (hx : ∀ a, x = some a → ∃ u, v = some u ∧ ARel N w μ b a u) (hn : x = none → v = none)
    (h : wOpt x d K = some r) : ∃ n, K n = some r ∧ ((x = none ∧ v = none ∧ n = d) ∨ ∃ k, v = some (.int k n)) := by
  unfold wOpt at h
  cases x with
  | none => exact ⟨d, h, .inl ⟨rfl, hn rfl, rfl⟩⟩
  | some a =>
    obtain ⟨u, rfl, hu⟩ := hx a rfl
    obtain ⟨k, n, rfl, h⟩ := wIdx_sound hu h
    exact ⟨n, h, .inr ⟨k, rfl⟩⟩

/-- The bounds of a slice expression without a third index. -/
theorem run_bounds {isS : Bool} {len cap : Nat} {lo hi : Option Value} {l h : Int} (hl : (lo = none ∧ l = 0) ∨ ∃ k, lo = some (.int k l)) (hh : (hi = none ∧ h = len) ∨ ∃ k, hi = some (.int k h))
    (h0 : 0 ≤ l) (h1 : l ≤ h) (h2 : h ≤ len) (h3 : len ≤ cap) : (Instr.sliceBounds isS len cap lo hi none).run P w = .ok (l.toNat, h.toNat, cap) w := by
  unfold Instr.sliceBounds
  rcases hl with ⟨rfl, rfl⟩ | ⟨k, rfl⟩ <;> rcases hh with ⟨rfl, rfl⟩ | ⟨k', rfl⟩
  · simp
  · simp [run_bound (P := P) (w := w) (n := h) (y := cap) (k := k') (by omega) (by omega)]
  · simp [run_bound (P := P) (w := w) (n := l) (y := len) (k := k) h0 (by omega)]
  · simp [run_bound (P := P) (w := w) (n := h) (y := cap) (k := k') (by omega) (by omega), run_bound (P := P) (w := w) (n := l) (y := h.toNat) (k := k) h0 (by omega)]

theorem sl_cut {xs : List CVal} {v : Value} {l h n : Nat} {agg : Bool} (hx : CRel N w (.sl xs) v) (h1 : l ≤ h) (h2 : h ≤ xs.length) (hf : xs.all (CVal.fits agg n) = true) :
    ∃ base cap, v = .slice base xs.length cap ∧ xs.length ≤ cap ∧
      CRel N w (.sl ((xs.take h).drop l)) (.slice (if cap = l then base else base.map (·.add (l * n))) (h - l) (cap - l)) := by
  obtain ⟨base, cap, rfl, hl, hc⟩ := hx
  have hlen : ((xs.take h).drop l).length = h - l := by simp; omega
  refine ⟨base, cap, rfl, hl, _, cap - l, by rw [hlen], by rw [hlen]; omega, ?_⟩
  by_cases h3 : h = l
  · left
    apply List.length_eq_zero_iff.1
    rw [hlen]; omega
  · rcases hc with rfl | ⟨x, o, sz, rfl, hn, hs, he⟩
    · simp at h2; omega
    · right
      have hsz : sz = n := by
        obtain ⟨us, hus, _⟩ := he.out
        exact hus.size hf (fun e => by subst e; simp at h2; omega)
      subst hsz
      rw [if_neg (by omega)]
      exact ⟨x, o + l * sz, sz, by simp [pl_add], hn, hs, (he.take h).drop l⟩

theorem len_str (s : List UInt8) : (⟨s.toArray⟩ : ByteArray).size = s.length := rfl

theorem extract_str (s : List UInt8) (l h : Nat) : (⟨s.toArray⟩ : ByteArray).extract l h = ⟨((s.take h).drop l).toArray⟩ := by
  apply ByteArray.ext
  apply Array.ext'
  rw [ByteArray.data_extract]
  simp [List.drop_take]

theorem sliceK_sound {t : TypeId} {x : AVal} {v : Value} {lo hi mx : Option AVal} {vlo vhi vmx : Option Value} {K : AVal → List Blk → Option R'} (R : Rel F w μ b) (hx : ARel (Or F (Own μ b)) w μ b x v)
    (hlo : ∀ a, lo = some a → ∃ u, vlo = some u ∧ ARel (Or F (Own μ b)) w μ b a u) (hlo0 : lo = none → vlo = none)
    (hhi : ∀ a, hi = some a → ∃ u, vhi = some u ∧ ARel (Or F (Own μ b)) w μ b a u) (hhi0 : hi = none → vhi = none) (hmx : mx = none → vmx = none)
    (h : sliceK P t b x lo hi mx K = some r) : Acts P F w μ b K r (Instr.sliceAt t v vlo vhi vmx) (closedV x) := by
  unfold sliceK at h
  split at h
  · cases h
  rw [hmx rfl]
  split at h
  · rename_i ht
    obtain ⟨s, rfl, h⟩ := wStr_sound hx h
    obtain ⟨hh, h, hH⟩ := wOpt_sound hhi hhi0 h
    obtain ⟨l, h, hL⟩ := wOpt_sound hlo hlo0 h
    obtain ⟨h0, h⟩ := br_none h
    simp only [Bool.and_eq_true, decide_eq_true_eq] at h0
    obtain ⟨⟨h0, h1⟩, h2⟩ := h0
    have hb := run_bounds (P := P) (w := w) (isS := false) (len := s.length) (cap := s.length) (lo := vlo) (hi := vhi) (l := l) (h := hh)
      (hL.imp (fun h => ⟨h.2.1, h.2.2⟩) id) (hH.imp (fun h => ⟨h.2.1, h.2.2⟩) id) h0 h1 h2 (Nat.le_refl _)
    refine ⟨_, _, h, fun _ => rfl, .string ⟨((s.take hh.toNat).drop l.toNat).toArray⟩, w, μ, ?_, .same R rfl⟩
    simp [Instr.sliceAt, run_und ht, Instr.slice, len_str, hb, extract_str]
  · rename_i e ht
    obtain ⟨he0, h⟩ := br_none h
    obtain ⟨d, hd⟩ := Option.isSome_iff_exists.1 he0
    cases x with
    | v c =>
      obtain ⟨xs, hxs, h⟩ := bind_some' (x := c.asSl) h
      cases c <;> simp [CVal.asSl] at hxs
      subst hxs
      obtain ⟨hh, h, hH⟩ := wOpt_sound hhi hhi0 h
      obtain ⟨l, h, hL⟩ := wOpt_sound hlo hlo0 h
      obtain ⟨h0, h⟩ := br_none h
      simp only [Bool.and_eq_true, decide_eq_true_eq] at h0
      obtain ⟨⟨⟨h0, h1⟩, h2⟩, h3⟩ := h0
      obtain ⟨base, cap, rfl, hcap, hr⟩ := sl_cut (l := l.toNat) (h := hh.toNat) hx (by omega) (by omega) h3
      have hb := run_bounds (P := P) (w := w) (isS := true) (cap := cap) (lo := vlo) (hi := vhi) (l := l) (h := hh)
        (hL.imp (fun h => ⟨h.2.1, h.2.2⟩) id) (hH.imp (fun h => ⟨h.2.1, h.2.2⟩) id) h0 h1 h2 hcap
      refine ⟨_, _, h, fun _ => rfl, _, w, μ, ?_, .same R hr⟩
      simp [Instr.sliceAt, run_und ht, Instr.slice, hb, run_size hd]
    | nl =>
      obtain ⟨base, rfl⟩ := hx
      obtain ⟨hh, h, hH⟩ := wOpt_sound hhi hhi0 h
      obtain ⟨l, h, hL⟩ := wOpt_sound hlo hlo0 h
      obtain ⟨h0, h⟩ := br_none h
      simp only [Bool.and_eq_true, decide_eq_true_eq] at h0
      obtain ⟨rfl, rfl⟩ := h0
      have hb := run_bounds (P := P) (w := w) (isS := true) (len := 0) (cap := 0) (lo := vlo) (hi := vhi) (l := 0) (h := 0)
        (hL.imp (fun h => ⟨h.2.1, rfl⟩) id) (hH.imp (fun h => ⟨h.2.1, rfl⟩) id) (Int.le_refl _) (Int.le_refl _) (Int.le_refl _) (Nat.le_refl _)
      refine ⟨_, _, h, fun _ => rfl, .slice base 0 0, w, μ, ?_, .same R ⟨base, rfl⟩⟩
      simp only [Instr.sliceAt, Sem.run_bind, run_und ht, Result.andThen_ok, Instr.slice, hb, run_size hd]
      rfl
    | lref i ver =>
      obtain ⟨xs, hxs, h⟩ := bind_some' (x := arrOf b i ver) h
      cases lo with
      | some _ => cases h
      | none =>
        obtain ⟨hh, h, hH⟩ := wOpt_sound hhi hhi0 h
        obtain ⟨h0, h⟩ := br_none h
        simp only [Bool.and_eq_true, decide_eq_true_eq] at h0
        obtain ⟨h1, h2⟩ := h0
        rw [hlo0 rfl]
        obtain ⟨sz, base, cap, hb, hm, hl, hc⟩ := R.arr hxs
        obtain ⟨_, blk, hd', hb', hm', _, _, hcur⟩ := hx
        rw [hb] at hb'; cases hb'
        rw [hm] at hm'; cases hm'
        have hv := hcur rfl rfl
        subst hv
        have hi := (List.getElem?_eq_some_iff.1 hb).1
        have hi' := (List.getElem?_eq_some_iff.1 hm).1
        have hbd := run_bounds (P := P) (w := w) (isS := true) (len := xs.length) (cap := cap) (lo := none) (hi := vhi) (l := 0) (h := hh)
          (.inl ⟨rfl, rfl⟩) (hH.imp (fun h => ⟨h.2.1, h.2.2⟩) id) (Int.le_refl _) h1 h2 hl
        have hlen : (xs.take hh.toNat).length = hh.toNat := by simp; omega
        refine ⟨_, _, h, by simp [closedV], .slice base hh.toNat cap, w, μ.set i (.arr base hh.toNat cap sz), ?_, ?_⟩
        · simp only [Instr.sliceAt, Sem.run_bind, run_und ht, Result.andThen_ok, Instr.slice, Hd.val, hbd, run_size hd]
          have e0 : (0 : Int).toNat = 0 := rfl
          rw [e0]
          cases base with
          | none => simp
          | some a => simp [Addr.add]
        · have hsz : szOf b i = sz := by simp [szOf, hb]
          rw [hsz]
          refine set_post R hb hm ⟨Nat.le_succ _, (fun _ h => by cases h), (fun _ h => by cases h), fun e => by simp at e⟩ (Nat.le_refl _) ?_ (fun _ _ _ => rfl) rfl rfl rfl ?_ ?_
          · intro x _ ho
            have ho' : (Hd.arr base xs.length cap sz).own = some x := by
              cases base with
              | none => simp [Hd.own] at ho
              | some a => exact ho
            exact ⟨(R.fres x ⟨i, _, _, hb, rfl, hm, ho'⟩).2, .inr ⟨rfl, ho'⟩⟩
          · intro U
            refine ⟨base, cap, by rw [hlen], by rw [hlen]; omega, ?_⟩
            rcases hc with hc | ⟨x, cells, tt, rfl, hw, hz, he⟩
            · exact .inl hc
            · exact .inr ⟨x, cells, tt, rfl, hw, hz, (ElRel.keepAt U.keep rfl he).take _⟩
          · intro U
            exact ⟨rfl, _, _, List.getElem?_set_self hi, List.getElem?_set_self hi', by simp, Nat.le_refl _, fun _ _ => rfl⟩
    | _ => cases h
  · cases h
end

end Go.Proofs.YtomkegeojknihaaDoor.Abs

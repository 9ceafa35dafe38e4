/- The abstract machine: closed values, a frame's own blocks, and what the operations of the model come to on them. Definitions alone; nothing is claimed here. -/
import Derived.Calls
set_option linter.unusedVariables false
namespace Go.Proofs.Ytlgonbonnjkekaa.Abs
open Go

/-- Data that no code writes any more. -/
inductive CVal where
  | bool (b : Bool)
  | int (k : IntKind) (n : Int)
  | str (s : List UInt8)
  | sl (xs : List CVal)
  | agg (cs : List CVal)
  | fp (c : CVal) (off : Nat)
  | func (f : Nat) (caps : List CVal)
  | nilp
  | nilf
  | nili
  | iface (t : Nat) (c : CVal)
  | tup (cs : List CVal)
  deriving Inhabited

/-- What a slot of a frame holds. -/
inductive AVal where
  | v (c : CVal)
  | nl
  | lptr (i off : Nat)
  | lel (i ver idx off : Nat)
  | lref (i ver : Nat)
  | agg (cs : List AVal)
  | func (f : Nat) (caps : List AVal)
  | tup (cs : List AVal)
  | un
  deriving Inhabited

inductive Body where
  | box (cs : List AVal)
  | arr (sz : Nat) (xs : List CVal)
  | dead
  deriving Inhabited

structure Blk where
  ver : Nat
  body : Body
  deriving Inhabited

structure St where
  t : List AVal
  b : List Blk
  deriving Inhabited

/-- What is handed to a callee of the caller's own blocks: an array, or a variable's cells. -/
structure PB where
  arr : Bool
  sz : Nat
  xs : List CVal
  deriving Inhabited

/-- A branch. -/
def br {R : Type} (b : Bool) (x y : Option R) : Option R :=
  match b with
  | true => x
  | false => y

abbrev CallT := FuncId → List AVal → List PB → Option (CVal × List (List CVal))

/-! ### Closed values looked at -/
def CVal.asInt (k : IntKind) : CVal → Option Int
  | .int k' n => if k' = k then some n else none
  | _ => none
def CVal.asIdx : CVal → Option Int
  | .int _ n => some n
  | _ => none
def CVal.asBool : CVal → Option Bool
  | .bool b => some b
  | _ => none
def CVal.asStr : CVal → Option (List UInt8)
  | .str s => some s
  | _ => none
def CVal.asSl : CVal → Option (List CVal)
  | .sl xs => some xs
  | _ => none
def CVal.asFp : CVal → Option (CVal × Nat)
  | .fp c o => some (c, o)
  | _ => none
def CVal.asAgg : CVal → Option (List CVal)
  | .agg cs => some cs
  | _ => none
def CVal.asTup : CVal → Option (List CVal)
  | .tup cs => some cs
  | _ => none
def CVal.cells : CVal → List CVal
  | .agg cs => cs
  | c => [c]
def CVal.cell (c : CVal) (off : Nat) : Option CVal := c.cells[off]?
def CVal.isAgg : CVal → Bool
  | .agg _ => true
  | _ => false
def CVal.isAggN (n : Nat) : CVal → Bool
  | .agg cs => cs.length == n
  | _ => false
def CVal.isFlat : CVal → Bool
  | .agg _ => false
  | .tup _ => false
  | _ => true
/-- Whether a value is one of a type of n cells. -/
def CVal.fits (agg : Bool) (n : Nat) (c : CVal) : Bool := cond agg (c.isAggN n) (c.isFlat && n == 1)
def CVal.sub (c : CVal) (off sz : Nat) : Option CVal :=
  br (decide (off = 0) && c.isAggN sz) (some c)
    (br (decide (off + sz ≤ c.cells.length)) (some (.agg ((c.cells.drop off).take sz))) none)

def allV : List AVal → Option (List CVal)
  | [] => some []
  | .v c :: r => (allV r).bind fun cs => some (c :: cs)
  | _ :: _ => none

def mkAgg (cs : List AVal) : AVal :=
  match allV cs with
  | some xs => .v (.agg xs)
  | none => .agg cs

/-! ### Closing: what is owned becomes data -/
def arrOf (b : List Blk) (i ver : Nat) : Option (List CVal) :=
  match b[i]? with
  | some ⟨ver', .arr _ xs⟩ => br (ver' == ver) (some xs) none
  | _ => none
def szOf (b : List Blk) (i : Nat) : Nat :=
  match b[i]? with
  | some ⟨_, .arr sz _⟩ => sz
  | _ => 0
def boxOf (b : List Blk) (i : Nat) : Option (List AVal) :=
  match b[i]? with
  | some ⟨_, .box cs⟩ => some cs
  | _ => none
def verOf (b : List Blk) (i : Nat) : Nat :=
  match b[i]? with
  | some ⟨ver, _⟩ => ver
  | none => 0

mutual
def closeA (b : List Blk) : AVal → Option CVal
  | .v c => some c
  | .nl => some (.sl [])
  | .lref i ver => (arrOf b i ver).bind fun xs => some (.sl xs)
  | .agg cs => (closeL b cs).bind fun xs => some (.agg xs)
  | .func f cs => (closeL b cs).bind fun xs => some (.func f xs)
  | .tup cs => (closeL b cs).bind fun xs => some (.tup xs)
  | _ => none
def closeL (b : List Blk) : List AVal → Option (List CVal)
  | [] => some []
  | x :: r => (closeA b x).bind fun c => (closeL b r).bind fun cs => some (c :: cs)
end

/-- A variable's cells as one closed value, for a pointer to it. -/
def packFp (agg : Bool) (xs : List CVal) : CVal := cond agg (.fp (.agg xs) 0) (.fp (xs.headD .nilp) 0)

def kill (b : List Blk) (i : Nat) : List Blk :=
  match b[i]? with
  | some ⟨ver, _⟩ => b.set i ⟨ver + 1, .dead⟩
  | none => b

-- What is closed is written no more.
mutual
def killA : AVal → List Blk → List Blk
  | .lref i _, b => kill b i
  | .agg cs, b => killL cs b
  | .func _ cs, b => killL cs b
  | .tup cs, b => killL cs b
  | _, b => b
def killL : List AVal → List Blk → List Blk
  | [], b => b
  | x :: r, b => killL r (killA x b)
end

/-! ### Values of the model as abstract ones -/
def ofCell : Value → Option AVal
  | .bool b => some (.v (.bool b))
  | .int k n => some (.v (.int k n))
  | .string s => some (.v (.str s.data.toList))
  | .pointer none => some (.v .nilp)
  | .slice none 0 0 => some .nl
  | .nilFunc => some (.v .nilf)
  | .nilIface => some (.v .nili)
  | _ => none

def ofCells : List Value → Option (List AVal)
  | [] => some []
  | x :: r => (ofCell x).bind fun a => (ofCells r).bind fun l => some (a :: l)

def ofVal : Value → Option AVal
  | .agg cs => (ofCells cs.toList).bind fun l => some (mkAgg l)
  | x => ofCell x

def evalA (t : List AVal) : Operand → AVal
  | .tmp i => t.getD i .un
  | .const c => (ofVal c).getD .un
  | .func f => .v (.func f [])
  | .global _ => .un

def putA (t : List AVal) (d : Option Nat) (x : AVal) : List AVal :=
  match d with
  | some i => t.set i x
  | none => t

/-! ### The program's types -/
def kindT (P : Program) (t : TypeId) : Option IntKind :=
  match P.underlying t with
  | some (.int k) => some k
  | _ => none
def aggT (P : Program) (t : TypeId) : Bool :=
  match P.underlying t with
  | some (.struct _) => true
  | some (.array _ _) => true
  | _ => false
def zeroT (P : Program) (t : TypeId) : Option AVal := ((P.info? t).bind (·.zero)).bind ofVal

/-- Whether slices of a type's elements may be grown. -/
def elemOk (P : Program) (e : TypeId) : Bool :=
  (P.underlying e).isSome && decide (P.bytesOf e ≤ 4096) &&
  match (P.info? e).bind (·.zero) with
  | some z => z.cells.size == P.cellsOf e
  | none => false
def isSliceT (P : Program) (t : TypeId) : Bool :=
  match P.underlying t with
  | some (.slice _) => true
  | _ => false

/-- The most that a slice of the abstract machine holds. -/
def lim : Nat := 4294967296

/-! ### Operations, in the style of continuations -/
section
variable {R : Type}
def wInt (k : IntKind) (x : AVal) (K : Int → Option R) : Option R :=
  match x with
  | .v c => (c.asInt k).bind K
  | _ => none
def wIdx (x : AVal) (K : Int → Option R) : Option R :=
  match x with
  | .v c => c.asIdx.bind K
  | _ => none
def wBool (x : AVal) (K : Bool → Option R) : Option R :=
  match x with
  | .v c => c.asBool.bind K
  | _ => none
def wStr (x : AVal) (K : List UInt8 → Option R) : Option R :=
  match x with
  | .v c => c.asStr.bind K
  | _ => none
/-- A slice's elements, whoever owns them. -/
def wSl (b : List Blk) (x : AVal) (K : List CVal → Option R) : Option R :=
  match x with
  | .v c => c.asSl.bind K
  | .nl => K []
  | .lref i ver => (arrOf b i ver).bind K
  | _ => none

/-- The cells from i on of a closed value, n of them. -/
def explodeC (c : CVal) : (i n : Nat) → (K : List CVal → Option R) → Option R
  | _, 0, K => K []
  | i, n + 1, K => (c.cell i).bind fun x => explodeC c (i + 1) n fun xs => K (x :: xs)
def explodeL (l : List CVal) : (i n : Nat) → (K : List CVal → Option R) → Option R
  | _, 0, K => K []
  | i, n + 1, K => (l[i]?).bind fun x => explodeL l (i + 1) n fun xs => K (x :: xs)

/-- The cells of a value of a type that has n. -/
def wCells (agg : Bool) (n : Nat) (x : AVal) (K : List AVal → Option R) : Option R :=
  br agg
    (match x with
     | .agg cs => br (cs.length == n) (K cs) none
     | .v c => br (c.isAggN n) (explodeC c 0 n fun xs => K (xs.map .v)) none
     | _ => none)
    (match x with
     | .agg _ => none
     | .tup _ => none
     | .un => none
     | .v c => br (c.isFlat && n == 1) (K [.v c]) none
     | x => br (n == 1) (K [x]) none)

/-- A new block at the place that is kept for it. -/
def putNew (b : List Blk) (q : Nat) (x : Blk) : List Blk := cond (decide (q < b.length)) (b.set q x) (b ++ [x])

def splice {α : Type} (l : List α) (off : Nat) (m : List α) : List α := l.take off ++ m ++ l.drop (off + m.length)

def loadK (P : Program) (t : TypeId) (b : List Blk) (x : AVal) (K : AVal → Option R) : Option R :=
  match P.underlying t with
  | none => none
  | some _ =>
  match x with
  | .lptr i off => (boxOf b i).bind fun cs =>
      br (aggT P t)
        (br (decide (off + P.cellsOf t ≤ cs.length)) (K (mkAgg ((cs.drop off).take (P.cellsOf t)))) none)
        ((cs[off]?).bind K)
  | .lel i ver idx off => (arrOf b i ver).bind fun xs => (xs[idx]?).bind fun c =>
      br (aggT P t) ((c.sub off (P.cellsOf t)).bind fun d => K (.v d)) ((c.cell off).bind fun d => K (.v d))
  | .v p => p.asFp.bind fun q =>
      br (aggT P t) ((q.1.sub q.2 (P.cellsOf t)).bind fun d => K (.v d)) ((q.1.cell q.2).bind fun d => K (.v d))
  | _ => none

def storeK (P : Program) (t : TypeId) (b : List Blk) (x y : AVal) (K : List Blk → Option R) : Option R :=
  match P.underlying t with
  | none => none
  | some _ =>
  match x with
  | .lptr i off => (boxOf b i).bind fun cs => wCells (aggT P t) (P.cellsOf t) y fun l =>
      br (decide (off + l.length ≤ cs.length)) (K (b.set i ⟨verOf b i, .box (splice cs off l)⟩)) none
  | .lel i ver idx off => (closeA b y).bind fun d =>
      (arrOf (killA y b) i ver).bind fun xs => (xs[idx]?).bind fun c =>
        br (d.fits (aggT P t) (P.cellsOf t))
          (br (decide (off = 0) && c.fits (aggT P t) (P.cellsOf t))
            (K ((killA y b).set i ⟨ver, .arr (szOf (killA y b) i) (xs.set idx d)⟩))
            (br (c.isAgg && decide (off + d.cells.length ≤ c.cells.length))
              (K ((killA y b).set i ⟨ver, .arr (szOf (killA y b) i) (xs.set idx (.agg (splice c.cells off d.cells)))⟩)) none)) none
  | _ => none

def fieldK (P : Program) (t : TypeId) (x : AVal) (f : Nat) (K : AVal → Option R) : Option R :=
  match P.underlying t with
  | some (.struct fs) =>
    match fs[f]? with
    | some fd =>
      br (decide (P.cellsOf fd.type = 0)) none
        (match x with
         | .lptr i off => K (.lptr i (off + fd.offset))
         | .lel i ver idx off => K (.lel i ver idx (off + fd.offset))
         | .v p => p.asFp.bind fun q => K (.v (.fp q.1 (q.2 + fd.offset)))
         | _ => none)
    | none => none
  | _ => none

def indexAddrK (P : Program) (t : TypeId) (b : List Blk) (x ix : AVal) (K : AVal → Option R) : Option R :=
  match P.underlying t with
  | some (.slice e) => wIdx ix fun n => br (decide (0 ≤ n) && (P.underlying e).isSome)
      (match x with
       | .lref i ver => (arrOf b i ver).bind fun xs => br (decide (n.toNat < xs.length) && szOf b i == P.cellsOf e) (K (.lel i ver n.toNat 0)) none
       | .v c => c.asSl.bind fun xs => (xs[n.toNat]?).bind fun d => br (d.fits (aggT P e) (P.cellsOf e)) (K (.v (.fp d 0))) none
       | _ => none) none
  | some (.array len e) => wIdx ix fun n => br (decide (0 ≤ n) && decide (n < len) && (P.underlying e).isSome)
      (match x with
       | .lptr i off => K (.lptr i (off + n.toNat * P.cellsOf e))
       | .lel i ver idx off => K (.lel i ver idx (off + n.toNat * P.cellsOf e))
       | .v p => p.asFp.bind fun q => K (.v (.fp q.1 (q.2 + n.toNat * P.cellsOf e)))
       | _ => none) none
  | _ => none

def indexK (P : Program) (t : TypeId) (x ix : AVal) (K : AVal → Option R) : Option R :=
  match P.underlying t with
  | some .string => wIdx ix fun n => wStr x fun s => br (decide (0 ≤ n)) ((s[n.toNat]?).bind fun c => K (.v (.int .u8 c.toNat))) none
  | some (.array len e) => wIdx ix fun n => br (decide (0 ≤ n) && decide (n < len) && !(aggT P e) && decide (P.cellsOf e = 1) && (P.underlying e).isSome)
      (match x with
       | .v c => br c.isAgg ((c.cell n.toNat).bind fun d => K (.v d)) none
       | _ => none) none
  | _ => none

def wOpt (x : Option AVal) (d : Int) (K : Int → Option R) : Option R :=
  match x with
  | some a => wIdx a K
  | none => K d

def sliceK (P : Program) (t : TypeId) (b : List Blk) (x : AVal) (lo hi mx : Option AVal) (K : AVal → List Blk → Option R) : Option R :=
  match mx with
  | some _ => none
  | none =>
    match P.underlying t with
    | some .string => wStr x fun s => wOpt hi s.length fun h => wOpt lo 0 fun l =>
        br (decide (0 ≤ l) && decide (l ≤ h) && decide (h ≤ s.length)) (K (.v (.str ((s.take h.toNat).drop l.toNat))) b) none
    | some (.slice e) => br (P.underlying e).isSome
      (match x with
      | .v c => c.asSl.bind fun xs => wOpt hi xs.length fun h => wOpt lo 0 fun l =>
          br (decide (0 ≤ l) && decide (l ≤ h) && decide (h ≤ xs.length) && xs.all (CVal.fits (aggT P e) (P.cellsOf e))) (K (.v (.sl ((xs.take h.toNat).drop l.toNat))) b) none
      | .nl => wOpt hi 0 fun h => wOpt lo 0 fun l => br (decide (l = 0) && decide (h = 0)) (K .nl b) none
      | .lref i ver => (arrOf b i ver).bind fun xs =>
          match lo with
          | none => wOpt hi xs.length fun h => br (decide (0 ≤ h) && decide (h ≤ xs.length))
              (K (.lref i (ver + 1)) (b.set i ⟨ver + 1, .arr (szOf b i) (xs.take h.toNat)⟩)) none
          | some _ => none
      | _ => none) none
    | _ => none

def appendK (P : Program) (q : Nat) (b : List Blk) (ty ty2 : TypeId) (s x : AVal) (K : AVal → List Blk → Option R) : Option R :=
  match P.underlying ty with
  | some (.slice e) => br (elemOk P e && isSliceT P ty2)
    (match s with
    | .nl => wSl b x fun ys => br (decide (ys.length ≤ lim) && ys.all (CVal.fits (aggT P e) (P.cellsOf e)))
        (K (.lref q 0) (putNew b q ⟨0, .arr (P.cellsOf e) ys⟩)) none
    | .lref i ver => (arrOf b i ver).bind fun xs => wSl b x fun ys =>
        br (decide (xs.length + ys.length ≤ lim) && szOf b i == P.cellsOf e && ys.all (CVal.fits (aggT P e) (P.cellsOf e)))
          (K (.lref i (ver + 1)) (b.set i ⟨ver + 1, .arr (P.cellsOf e) (xs ++ ys)⟩)) none
    | _ => none) none
  | _ => none

/-- The parts of a literal, in their order, none left out. -/
def partsInOrder : (i : Nat) → List (Nat × AVal) → Option (List AVal)
  | _, [] => some []
  | i, (j, x) :: r => br (i == j) ((partsInOrder (i + 1) r).bind fun l => some (x :: l)) none

def buildSliceK (P : Program) (q : Nat) (t : TypeId) (len : Nat) (parts : List (Nat × AVal)) (b : List Blk) (K : AVal → List Blk → Option R) : Option R :=
  match P.underlying t with
  | some (.slice e) =>
    (partsInOrder 0 parts).bind fun l => br (l.length == len && decide (len * P.cellsOf e ≤ 16777216) && elemOk P e && decide (P.cellsOf e ≠ 0))
      (match len with
       | 0 => K .nl b
       | _ => (closeL b l).bind fun cs =>
          br (cs.all (CVal.fits (aggT P e) (P.cellsOf e)))
            (K (.lref q 0) (putNew (killL l b) q ⟨0, .arr (P.cellsOf e) cs⟩)) none) none
  | _ => none

def fillK (P : Program) (fs : Array Field) : List (Nat × AVal) → List AVal → (List AVal → Option R) → Option R
  | [], cs, K => K cs
  | (i, x) :: r, cs, K =>
    match fs[i]? with
    | some f => wCells (aggT P f.type) (P.cellsOf f.type) x fun l =>
        br (decide (f.offset + l.length ≤ cs.length)) (fillK P fs r (splice cs f.offset l) K) none
    | none => none
def fillArrK (agg : Bool) (sz : Nat) : List (Nat × AVal) → List AVal → (List AVal → Option R) → Option R
  | [], cs, K => K cs
  | (i, x) :: r, cs, K => wCells agg sz x fun l =>
      br (decide (i * sz + l.length ≤ cs.length)) (fillArrK agg sz r (splice cs (i * sz) l) K) none

def buildK (P : Program) (t : TypeId) (parts : List (Nat × AVal)) (K : AVal → Option R) : Option R :=
  (zeroT P t).bind fun z => wCells true (P.cellsOf t) z fun cs =>
    match P.underlying t with
    | some (.struct fs) => br (fs.toList.all fun f => (P.underlying f.type).isSome) (fillK P fs parts cs fun l => K (mkAgg l)) none
    | some (.array _ e) => br (P.underlying e).isSome (fillArrK (aggT P e) (P.cellsOf e) parts cs fun l => K (mkAgg l)) none
    | _ => none

def makeSliceK (P : Program) (q : Nat) (t : TypeId) (len cap : AVal) (b : List Blk) (K : AVal → List Blk → Option R) : Option R :=
  match P.underlying t with
  | some (.slice e) => wIdx len fun n => wIdx cap fun m =>
      br (elemOk P e && decide (P.cellsOf e ≠ 0) && decide (0 ≤ n) && decide (n = m) && decide (n ≤ 1048576))
        ((zeroT P e).bind fun z => (closeA b z).bind fun c => br (c.fits (aggT P e) (P.cellsOf e)) (K (.lref q 0) (putNew (killA z b) q ⟨0, .arr (P.cellsOf e) (List.replicate n.toNat c)⟩)) none) none
  | _ => none

def bytesC (s : List UInt8) : List CVal := s.map fun c => .int .u8 c.toNat
def bytesOfC : List CVal → Option (List UInt8)
  | [] => some []
  | c :: r => (c.asInt .u8).bind fun n => (bytesOfC r).bind fun l => some (UInt8.ofNat n.toNat :: l)

def convertK (P : Program) (q : Nat) (src dst : TypeId) (x : AVal) (b : List Blk) (K : AVal → List Blk → Option R) : Option R :=
  match P.underlying src, P.underlying dst with
  | some (.int k), some (.int k') => wInt k x fun n => K (.v (.int k' (k'.wrap n))) b
  | some .string, some .string => wStr x fun s => K (.v (.str s)) b
  | some (.slice e), some .string =>
    match P.underlying e with
    | some (.int .u8) => wSl b x fun xs => (bytesOfC xs).bind fun s => K (.v (.str s)) b
    | _ => none
  | some .string, some (.slice e) =>
    match P.underlying e with
    | some (.int .u8) => wStr x fun s => br (decide (s.length ≤ lim)) (K (.v (.sl (bytesC s))) b) none
    | _ => none
  | _, _ => none

def intOp (op : BinOp) (k : IntKind) (a b : Int) : Option CVal :=
  match op with
  | .add => some (.int k (k.wrap (a + b)))
  | .sub => some (.int k (k.wrap (a - b)))
  | .mul => some (.int k (k.wrap (a * b)))
  | .quo => br (decide (b = 0)) none (some (.int k (k.wrap (a.tdiv b))))
  | .rem => br (decide (b = 0)) none (some (.int k (a.tmod b)))
  | .and => some (.int k (k.wrap (BitVec.ofInt k.bits a &&& BitVec.ofInt k.bits b).toNat))
  | .or => some (.int k (k.wrap (BitVec.ofInt k.bits a ||| BitVec.ofInt k.bits b).toNat))
  | .xor => some (.int k (k.wrap (BitVec.ofInt k.bits a ^^^ BitVec.ofInt k.bits b).toNat))
  | .andNot => some (.int k (k.wrap (BitVec.ofInt k.bits a &&& ~~~BitVec.ofInt k.bits b).toNat))
  | .eql => some (.bool (decide (a = b)))
  | .neq => some (.bool (!decide (a = b)))
  | .lss => some (.bool (decide (a < b)))
  | .leq => some (.bool (decide (a ≤ b)))
  | .gtr => some (.bool (decide (b < a)))
  | .geq => some (.bool (decide (b ≤ a)))
  | _ => none

def shiftOp (op : BinOp) (k : IntKind) (a b : Int) : Option CVal :=
  br (decide (b < 0)) none
    (match op with
     | .shl => some (.int k (k.wrap (a * 2 ^ min b.toNat k.bits)))
     | .shr => some (.int k (a.fdiv (2 ^ min b.toNat k.bits)))
     | _ => none)

def isShift : BinOp → Bool
  | .shl => true
  | .shr => true
  | _ => false

def bytesLt : List UInt8 → List UInt8 → Bool
  | _, [] => false
  | [], _ :: _ => true
  | a :: x, b :: y => decide (a < b) || (decide (a = b) && bytesLt x y)

/-- Whether two cells of a type hold the same. -/
def eqCellT (P : Program) (t : TypeId) (x y : CVal) : Option Bool :=
  match P.underlying t with
  | some .bool => x.asBool.bind fun a => y.asBool.bind fun b => some (a == b)
  | some (.int k) => (x.asInt k).bind fun a => (y.asInt k).bind fun b => some (decide (a = b))
  | some .string => x.asStr.bind fun a => y.asStr.bind fun b => some (decide (a = b))
  | _ => none
/-- Whether the fields hold the same. -/
def eqFields (P : Program) : List Field → List CVal → List CVal → Option Bool
  | [], _, _ => some true
  | f :: r, a, b => br (f.name != "_") ((a[f.offset]?).bind fun x => (b[f.offset]?).bind fun y => (eqCellT P f.type x y).bind fun e => (eqFields P r a b).bind fun z => some (e && z)) none
def wAgg {R : Type} (x : AVal) (K : List CVal → Option R) : Option R :=
  match x with
  | .v c => c.asAgg.bind K
  | _ => none

def binK (P : Program) (op : BinOp) (xt : TypeId) (x y : AVal) (yt : TypeId) (K : AVal → Option R) : Option R :=
  match P.underlying xt with
  | some (.int k) => br (isShift op)
      (wInt k x fun a => wIdx y fun b => (shiftOp op k a b).bind fun c => K (.v c))
      (wInt k x fun a => wInt k y fun b => (intOp op k a b).bind fun c => K (.v c))
  | some .string => wStr x fun a => wStr y fun b =>
      match op with
      | .add => br (decide (a.length + b.length ≤ 1152921504606846976)) (K (.v (.str (a ++ b)))) none
      | .eql => K (.v (.bool (decide (a = b))))
      | .neq => K (.v (.bool (!decide (a = b))))
      | .lss => K (.v (.bool (bytesLt a b)))
      | _ => none
  | some .bool => wBool x fun a => wBool y fun b =>
      match op with
      | .eql => K (.v (.bool (a == b)))
      | .neq => K (.v (.bool (!(a == b))))
      | _ => none
  | some (.struct fs) => br (P.stoodInHeld xt || P.eqGuardType P.depth xt) none
      (wAgg x fun a => wAgg y fun b => (eqFields P fs.toList a b).bind fun z =>
        match op with
        | .eql => K (.v (.bool z))
        | .neq => K (.v (.bool (!z)))
        | _ => none)
  | _ => none

/-- Comparing errors with nil: of closed values. -/
def eqK (P : Program) (op : BinOp) (xt : TypeId) (x y : AVal) (K : AVal → Option R) : Option R :=
  match P.underlying xt with
  | some (.interface _) =>
    match x, y with
    | .v .nili, .v .nili => (match op with | .eql => K (.v (.bool true)) | .neq => K (.v (.bool false)) | _ => none)
    | .v (.iface _ _), .v .nili => (match op with | .eql => K (.v (.bool false)) | .neq => K (.v (.bool true)) | _ => none)
    | _, _ => none
  | _ => none

def unK (P : Program) (op : UnOp) (xt : TypeId) (x : AVal) (K : AVal → Option R) : Option R :=
  match op with
  | .not => wBool x fun b => K (.v (.bool (!b)))
  | .neg => (kindT P xt).bind fun k => wInt k x fun n => K (.v (.int k (k.wrap (0 - n))))
  | _ => none

def lenK (P : Program) (t : TypeId) (b : List Blk) (x : AVal) (K : AVal → Option R) : Option R :=
  match P.underlying t with
  | some .string => wStr x fun s => K (.v (.int .i64 s.length))
  | some (.slice _) => wSl b x fun xs => K (.v (.int .i64 xs.length))
  | some (.array n _) => K (.v (.int .i64 n))
  | _ => none

/-- One value that a function hands back, closed. -/
def closeRK (b : List Blk) (agg : Bool) (x : AVal) (K : CVal → List Blk → Option R) : Option R :=
  match x with
  | .lptr i 0 => (boxOf b i).bind fun cs => (closeL b cs).bind fun xs => br (agg || decide (cs.length = 1)) (K (packFp agg xs) (kill (killL cs b) i)) none
  | x => (closeA b x).bind fun c => K c (killA x b)

/-- Captured values, closed. -/
def closeCapsK : List Blk → List Bool → List AVal → (List CVal → List Blk → Option R) → Option R
  | b, _, [], K => K [] b
  | b, ag :: ags, x :: r, K => closeRK b ag x fun c b => closeCapsK b ags r fun cs b => K (c :: cs) b
  | _, [], _ :: _, _ => none

/-! ### Calls -/
inductive PM where
  | cls | pass | bor
  deriving DecidableEq, Inhabited

/-- What the caller hands over so far: the callee's arguments, and which of the caller's blocks they name. -/
structure Hand where
  args : List AVal
  ids : List Nat
  b : List Blk

def idxOf (ids : List Nat) (i : Nat) : Option Nat :=
  match ids with
  | [] => none
  | j :: r => br (j == i) (some 0) ((idxOf r i).map (· + 1))

def handPtr (h : Hand) (i : Nat) (K : AVal → Hand → Option R) : Option R :=
  match idxOf h.ids i with
  | some j => K (.lptr j 0) h
  | none => K (.lptr h.ids.length 0) ⟨h.args, h.ids ++ [i], h.b⟩

def handCaps : List AVal → Hand → (List AVal → Hand → Option R) → Option R
  | [], h, K => K [] h
  | .v c :: r, h, K => handCaps r h fun l h => K (.v c :: l) h
  | .lptr i 0 :: r, h, K => handPtr h i fun a h => handCaps r h fun l h => K (a :: l) h
  | _ :: _, _, _ => none

def handA (m : PM) (x : AVal) (h : Hand) (K : AVal → Hand → Option R) : Option R :=
  match x with
  | .v c => K (.v c) h
  | .nl => K (.v (.sl [])) h
  | .lref i ver => (arrOf h.b i ver).bind fun xs =>
    match m with
    | .pass =>
      match idxOf h.ids i with
      | some _ => none
      | none => K (.lref h.ids.length 0) ⟨h.args, h.ids ++ [i], h.b⟩
    | .bor => K (.v (.sl xs)) h
    | .cls => K (.v (.sl xs)) ⟨h.args, h.ids, kill h.b i⟩
  | .lptr i 0 => handPtr h i K
  | .func g caps => handCaps caps h fun l h => K (.func g l) h
  | .agg cs => (closeL h.b cs).bind fun l => K (.v (.agg l)) ⟨h.args, h.ids, killL cs h.b⟩
  | _ => none

def handAll (pm : Nat → PM) : Nat → List AVal → Hand → (Hand → Option R) → Option R
  | _, [], h, K => K h
  | j, x :: r, h, K => handA (pm j) x h fun a h => handAll pm (j + 1) r ⟨h.args ++ [a], h.ids, h.b⟩ K

/-- The contents of what is handed over. -/
def handBlks : List Nat → List Blk → (List PB → List Blk → Option R) → Option R
  | [], b, K => K [] b
  | i :: r, b, K =>
    match b[i]? with
    | some ⟨_, .arr sz xs⟩ => handBlks r b fun l b => K (⟨true, sz, xs⟩ :: l) b
    | some ⟨_, .box cs⟩ => (closeL b cs).bind fun xs => handBlks r (killL cs b) fun l b => K (⟨false, 0, xs⟩ :: l) b
    | _ => none

def aliveAt (b : List Blk) (i : Nat) : Bool :=
  match b[i]? with
  | some ⟨_, .arr _ _⟩ => true
  | some ⟨_, .box _⟩ => true
  | _ => false

/-- What the callee left is laid back. -/
def backBlks : List Nat → List (List CVal) → Nat → List Blk → (List Blk → Option R) → Option R
  | [], _, _, b, K => K b
  | i :: r, ls, j, b, K => (ls[j]?).bind fun l =>
    match b[i]? with
    | some ⟨ver, .arr sz _⟩ => backBlks r ls (j + 1) (b.set i ⟨ver + 1, .arr sz l⟩) K
    | some ⟨ver, .box cs⟩ => br (l.length == cs.length) (explodeL l 0 cs.length fun xs => backBlks r ls (j + 1) (b.set i ⟨ver, .box (xs.map .v)⟩) K) none
    | _ => none

def scalar : CVal → Bool
  | .int _ _ => true
  | .bool _ => true
  | .str _ => true
  | _ => false

structure Env where
  P : Program
  /-- how a function's arguments are handed over -/
  pm : FuncId → Nat → PM
  /-- which of what was handed over the function hands back -/
  rm : FuncId → Option Nat
  /-- functions whose captured variables are written no more: what they are (structs and arrays: true) -/
  frz : FuncId → Option (List Bool)
  /-- variables that are written no more: what they are (structs and arrays: true) -/
  frzB : Oper → Option Bool
  /-- functions that are known by a law of their own -/
  prim : FuncId → Option (List AVal → List PB → Option (CVal × List (List CVal)))

def borrows (E : Env) (g : FuncId) : Nat → List AVal → Bool
  | _, [] => false
  | j, x :: r => (decide (E.pm g j = .bor) && (match x with | .lref _ _ => true | _ => false)) || borrows E g (j + 1) r

/-- The size of an element of a function's parameter. -/
def szParam (P : Program) (g : FuncId) (j : Nat) : Nat :=
  match ((P.funcs[g]?).bind fun fn => fn.params[j]?).bind P.underlying with
  | some (.slice e) => P.cellsOf e
  | _ => 0

/-- An empty slice that is handed over is an array of the caller's own, one at most. -/
def promo (E : Env) (g : FuncId) (q : Nat) : Bool → Nat → List AVal → List Blk → (List AVal → List Blk → Option R) → Option R
  | _, _, [], b, K => K [] b
  | used, j, .nl :: r, b, K =>
    br (decide (E.pm g j = .pass))
      (br used none (promo E g q true (j + 1) r (putNew b q ⟨0, .arr (szParam E.P g j) []⟩) fun l b => K (.lref q 0 :: l) b))
      (promo E g q used (j + 1) r b fun l b => K (.nl :: l) b)
  | used, j, x :: r, b, K => promo E g q used (j + 1) r b fun l b => K (x :: l) b

/-- The number by which function values that are data are called. -/
def apId : FuncId := 1000000007

def callK (E : Env) (C : CallT) (q : Nat) (g : FuncId) (args : List AVal) (b : List Blk) (K : AVal → List Blk → Option R) : Option R :=
  br (g == apId) none <| promo E g q false 0 args b fun args1 b1 =>
    handAll (E.pm g) 0 args1 ⟨[], [], b1⟩ fun h => handBlks h.ids h.b fun pbs b3 =>
      br (h.ids.all (aliveAt b3))
        ((match E.prim g with | some p => p h.args pbs | none => C g h.args pbs).bind fun r =>
          br (borrows E g 0 args1 && (!scalar r.1 || !h.ids.isEmpty)) none
            (backBlks h.ids r.2 0 b3 fun b4 =>
              match E.rm g with
              | none => K (.v r.1) b4
              | some j =>
                match h.ids[j]? with
                | some i => K (.lref i (verOf b4 i)) b4
                | none => none)) none

/-- A function value that is data, called on data. -/
def apF {R : Type} (C : CallT) (c : CVal) (cs : List CVal) (K : CVal → Option R) : Option R := (C apId (.v c :: cs.map .v) []).bind fun r => K r.1
/-- A function value that is data, called. -/
def callV (E : Env) (C : CallT) (q : Nat) (c : CVal) (args : List AVal) (b : List Blk) (K : AVal → List Blk → Option R) : Option R :=
  match allV args with
  | some cs => apF C c cs fun r => K (.v r) b
  | none =>
    match c with
    | .func g caps => callK E C q g (args ++ caps.map .v) b K
    | _ => none

def mapParts (t : List AVal) (ps : Array (Nat × Operand)) : List (Nat × AVal) := ps.toList.map fun p => (p.1, evalA t p.2)

def allClosed : List AVal → Option (List CVal) := allV

def opK (E : Env) (C : CallT) (q : Nat) (o : Oper) (t : List AVal) (b : List Blk) (K : AVal → List Blk → Option R) : Option R :=
  match o.op with
  | .move x => K (evalA t x) b
  | .assign x => K (evalA t x) b
  | .pick c x y => wBool (evalA t c) fun g =>
      match evalA t x, evalA t y with
      | .v p, .v r => K (.v (cond g p r)) b
      | p, r => br g (K p b) (K r b)
  | .alloc e => (zeroT E.P e).bind fun z => wCells (aggT E.P e) (E.P.cellsOf e) z fun cs => K (.lptr q 0) (putNew b q ⟨0, .box cs⟩)
  | .box e x => wCells (aggT E.P e) (E.P.cellsOf e) (evalA t x) fun cs =>
      match E.frzB o with
      | some ag => closeRK (putNew b q ⟨0, .box cs⟩) ag (.lptr q 0) fun c b => K (.v c) b
      | none => K (.lptr q 0) (putNew b q ⟨0, .box cs⟩)
  | .build ty ps => buildK E.P ty (mapParts t ps) fun x => K x b
  | .buildSlice ty n ps => buildSliceK E.P q ty n (mapParts t ps) b K
  | .load ty x => loadK E.P ty b (evalA t x) fun v => K v b
  | .store ty x y => storeK E.P ty b (evalA t x) (evalA t y) fun b => K .un b
  | .nilCheck x =>
    match evalA t x with
    | .lptr i off => K (.lptr i off) b
    | .lel i ver idx off => K (.lel i ver idx off) b
    | .v c => c.asFp.bind fun p => K (.v (.fp p.1 p.2)) b
    | _ => none
  | .binOp op xt x y yt =>
    match E.P.underlying xt with
    | some (.interface _) =>
      match y with
      | .const _ => eqK E.P op xt (evalA t x) (evalA t y) fun v => K v b
      | _ => none
    | _ => binK E.P op xt (evalA t x) (evalA t y) yt fun v => K v b
  | .unOp op xt x => unK E.P op xt (evalA t x) fun v => K v b
  | .convert s d x => convertK E.P q s d (evalA t x) b K
  | .makeFunc (.func g) first caps =>
    br (first.size == 0)
      (match E.frz g with
       | some ags => closeCapsK b ags (caps.toList.map (evalA t)) fun cs b => K (.v (.func g cs)) b
       | none =>
         match allClosed (caps.toList.map (evalA t)) with
         | some cs => K (.v (.func g cs)) b
         | none => K (.func g (caps.toList.map (evalA t))) b) none
  | .makeSlice ty n m => makeSliceK E.P q ty (evalA t n) (evalA t m) b K
  | .slice ty x lo hi mx => sliceK E.P ty b (evalA t x) (lo.map (evalA t)) (hi.map (evalA t)) (mx.map (evalA t)) K
  | .fieldAddr ty x f => fieldK E.P ty (evalA t x) f fun v => K v b
  | .indexAddr ty x ix => indexAddrK E.P ty b (evalA t x) (evalA t ix) fun v => K v b
  | .index ty x ix => indexK E.P ty (evalA t x) (evalA t ix) fun v => K v b
  | .extract x i =>
    match evalA t x with
    | .v c => c.asTup.bind fun cs => (cs[i]?).bind fun d => K (.v d) b
    | .tup cs => (cs[i]?).bind fun d => K d b
    | _ => none
  | .call c =>
    match c.callee with
    | .value (.func g) => callK E C q g (c.args.toList.map (evalA t)) b K
    | .value f =>
      match evalA t f with
      | .v d => callV E C q d (c.args.toList.map (evalA t)) b K
      | .func g caps => callK E C q g (c.args.toList.map (evalA t) ++ caps) b K
      | _ => none
    | .builtin .len =>
      match c.args.toList, c.argTypes.toList with
      | [x], ty :: _ => lenK E.P ty b (evalA t x) fun v => K v b
      | _, _ => none
    | .builtin .append =>
      match c.args.toList, c.argTypes.toList with
      | [x, y], [ty, ty2] => appendK E.P q b ty ty2 (evalA t x) (evalA t y) K
      | _, _ => none
    | .builtin .max =>
      match c.args.toList with
      | [x, y] => (kindT E.P o.type).bind fun k => wInt k (evalA t x) fun m => wInt k (evalA t y) fun n => K (.v (.int k (cond (decide (m < n)) n m))) b
      | _ => none
    | .builtin .min =>
      match c.args.toList with
      | [x, y] => (kindT E.P o.type).bind fun k => wInt k (evalA t x) fun m => wInt k (evalA t y) fun n => K (.v (.int k (cond (decide (n < m)) n m))) b
      | _ => none
    | _ => none
  | _ => none
end

/-- Arguments whose handing over leaves the caller's blocks alone. -/
def pureArgs (E : Env) (g : FuncId) : Nat → List AVal → Bool
  | _, [] => true
  | j, .v _ :: r => pureArgs E g (j + 1) r
  | j, .nl :: r => !decide (E.pm g j = .pass) && pureArgs E g (j + 1) r
  | j, .lref _ _ :: r => decide (E.pm g j = .bor) && pureArgs E g (j + 1) r
  | _, _ => false

def closedV : AVal → Bool
  | .v _ => true
  | .nl => true
  | _ => false

def keepsF (E : Env) (f : Fn) : Bool :=
  match f with
  | .func g => (E.frz g).isNone
  | _ => true
def pureV (E : Env) (c : CVal) (args : List AVal) : Bool :=
  match allV args with
  | some _ => true
  | none =>
    match c with
    | .func g caps => pureArgs E g 0 (args ++ caps.map .v)
    | _ => false

/-- Operations that leave the frame's own blocks alone. -/
def roOp (E : Env) (o : Oper) (t : List AVal) : Bool :=
  match o.op with
  | .move _ => true
  | .assign _ => true
  | .pick _ _ _ => true
  | .build _ _ => true
  | .load _ _ => true
  | .nilCheck _ => true
  | .binOp _ _ _ _ _ => true
  | .unOp _ _ _ => true
  | .convert _ _ _ => true
  | .makeFunc f _ _ => keepsF E f
  | .fieldAddr _ _ _ => true
  | .indexAddr _ _ _ => true
  | .index _ _ _ => true
  | .extract _ _ => true
  | .slice _ x _ _ _ => closedV (evalA t x)
  | .call c =>
    match c.callee with
    | .value (.func g) => pureArgs E g 0 (c.args.toList.map (evalA t))
    | .value f =>
      match evalA t f with
      | .v d => pureV E d (c.args.toList.map (evalA t))
      | .func g caps => pureArgs E g 0 (c.args.toList.map (evalA t) ++ caps)
      | _ => false
    | .builtin .len => true
    | .builtin .max => true
    | .builtin .min => true
    | _ => false
  | _ => false

/-- Operations that do not so much as look at the frame's own blocks. -/
def blindArgs (E : Env) (g : FuncId) : Nat → List AVal → Bool
  | _, [] => true
  | j, .v _ :: r => blindArgs E g (j + 1) r
  | j, .nl :: r => !decide (E.pm g j = .pass) && blindArgs E g (j + 1) r
  | _, _ => false

def blindV (E : Env) (c : CVal) (args : List AVal) : Bool :=
  match allV args with
  | some _ => true
  | none =>
    match c with
    | .func g caps => blindArgs E g 0 (args ++ caps.map .v)
    | _ => false

def placeV : AVal → Bool
  | .v _ => true
  | .lptr _ _ => true
  | _ => false

def blindOp (E : Env) (o : Oper) (t : List AVal) : Bool :=
  match o.op with
  | .move _ => true
  | .assign _ => true
  | .pick _ _ _ => true
  | .build _ _ => true
  | .load _ x => (match evalA t x with | .v _ => true | _ => false)
  | .nilCheck _ => true
  | .binOp _ _ _ _ _ => true
  | .unOp _ _ _ => true
  | .convert _ _ x => closedV (evalA t x)
  | .makeFunc f _ _ => keepsF E f
  | .fieldAddr _ _ _ => true
  | .indexAddr _ x _ => placeV (evalA t x)
  | .index _ _ _ => true
  | .extract _ _ => true
  | .slice _ x _ _ _ => closedV (evalA t x)
  | .call c =>
    match c.callee with
    | .value (.func g) => blindArgs E g 0 (c.args.toList.map (evalA t))
    | .value f =>
      match evalA t f with
      | .v d => blindV E d (c.args.toList.map (evalA t))
      | .func g caps => blindArgs E g 0 (c.args.toList.map (evalA t) ++ caps)
      | _ => false
    | .builtin .len =>
      match c.args.toList with
      | [x] => closedV (evalA t x)
      | _ => false
    | .builtin .max => true
    | .builtin .min => true
    | _ => false
  | _ => false

inductive Cls where
  | blind | ro | rw
  deriving DecidableEq, Inhabited
def clsOf (E : Env) (o : Oper) (t : List AVal) : Cls := cond (blindOp E o t) .blind (cond (roOp E o t) .ro .rw)
/-- Whether two operations may change places. -/
def Cls.ok : Cls → Cls → Bool
  | .blind, _ => true
  | _, .blind => true
  | .ro, .ro => true
  | _, _ => false

end Go.Proofs.Ytlgonbonnjkekaa.Abs

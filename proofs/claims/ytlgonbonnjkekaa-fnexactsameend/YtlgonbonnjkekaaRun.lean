/- The abstract machine, continued: loops, calls and whole functions. Definitions alone; nothing is claimed here. -/
import Derived.Test.YtlgonbonnjkekaaAbs
import Derived.Orders
set_option linter.unusedVariables false
namespace Go.Proofs.Ytlgonbonnjkekaa.Abs
open Go

/-- What is kept of a slot where ways meet. -/
inductive Kd where
  | int (k : IntKind) | bool | str | sl | cv | lp (j : Nat) | lr (j : Nat) | fn (g : Nat)
  deriving DecidableEq, Inhabited
inductive BK where
  | arr (sz : Nat) | box (ks : List Kd)
  deriving DecidableEq, Inhabited
structure LK where
  slots : List (Nat × Kd)
  blks : List BK
  deriving DecidableEq, Inhabited

@[reducible] def Kd.T : Kd → Type
  | .int _ => Int
  | .bool => Bool
  | .str => List UInt8
  | .sl => List CVal
  | .cv => CVal
  | .lp _ => Unit
  | .lr _ => Unit
  | .fn _ => Unit
@[reducible] def KsT : List Kd → Type
  | [] => Unit
  | k :: r => k.T × KsT r
@[reducible] def SsT : List (Nat × Kd) → Type
  | [] => Unit
  | k :: r => k.2.T × SsT r
@[reducible] def BK.T : BK → Type
  | .arr _ => List CVal
  | .box ks => KsT ks
@[reducible] def BsT : List BK → Type
  | [] => Unit
  | k :: r => k.T × BsT r
@[reducible] def LK.T (k : LK) : Type := SsT k.slots × BsT k.blks

abbrev Bind := List (Nat × Option Nat)
def Bind.find (m : Bind) (j : Nat) : Option (Option Nat) :=
  match m with
  | [] => none
  | (j', x) :: r => br (j' == j) (some x) (Bind.find r j)
def Bind.holds (m : Bind) (i : Nat) : Bool :=
  match m with
  | [] => false
  | (_, some i') :: r => (i' == i) || Bind.holds r i
  | (_, none) :: r => Bind.holds r i

section
variable {R : Type}
def packV (b : List Blk) (kd : Kd) (x : AVal) (m : Bind) (K : kd.T → Bind → Option R) : Option R :=
  match kd, K with
  | .int k, K => wInt k x fun n => K n m
  | .bool, K => wBool x fun p => K p m
  | .str, K => wStr x fun s => K s m
  | .sl, K => (match x with | .v c => c.asSl.bind fun s => K s m | .nl => K [] m | _ => none)
  | .cv, K => (match x with | .v c => K c m | _ => none)
  | .fn g, K => (match x with | .v (.func g' []) => br (decide (g' = g)) (K () m) none | _ => none)
  | .lp j, K =>
    (match x with
     | .lptr i 0 =>
       (match m.find j with
        | none => br (m.holds i) none (K () ((j, some i) :: m))
        | some (some i') => br (i' == i) (K () m) none
        | some none => none)
     | _ => none)
  | .lr j, K =>
    (match x with
     | .lref i ver => (arrOf b i ver).bind fun _ =>
       (match m.find j with
        | none => br (m.holds i) none (K () ((j, some i) :: m))
        | some (some i') => br (i' == i) (K () m) none
        | some none => none)
     | .nl =>
       (match m.find j with
        | none => K () ((j, none) :: m)
        | _ => none)
     | _ => none)

def packSlots (t : List AVal) (b : List Blk) : (l : List (Nat × Kd)) → (m : Bind) → (K : SsT l → Bind → Option R) → Option R
  | [], m, K => K () m
  | (i, kd) :: r, m, K => packV b kd (t.getD i .un) m fun x m => packSlots t b r m fun xs m => K (x, xs) m

def packCells (b : List Blk) : (l : List Kd) → (cs : List AVal) → (m : Bind) → (K : KsT l → Bind → Option R) → Option R
  | [], [], m, K => K () m
  | kd :: r, x :: cs, m, K => packV b kd x m fun x m => packCells b r cs m fun xs m => K (x, xs) m
  | _, _, _, _ => none

def packBlks (b : List Blk) : (l : List BK) → (j : Nat) → (m : Bind) → (K : BsT l → Bind → Option R) → Option R
  | [], _, m, K => K () m
  | .arr sz :: r, j, m, K =>
    match m.find j with
    | some (some i) => (arrOf b i (verOf b i)).bind fun xs => br (szOf b i == sz) (packBlks b r (j + 1) m fun ys m => K (xs, ys) m) none
    | some none => packBlks b r (j + 1) m fun ys m => K ([], ys) m
    | none => none
  | .box ks :: r, j, m, K =>
    match m.find j with
    | some (some i) => (boxOf b i).bind fun cs => packCells b ks cs m fun x m => packBlks b r (j + 1) m fun ys m => K (x, ys) m
    | _ => none

/-- The blocks that were handed in keep their places. -/
def bind0 (np : Nat) : Bind := (List.range np).map fun j => (j, some j)
def packK (np : Nat) (ks : LK) (s : St) (K : ks.T → Option R) : Option R :=
  br (decide (np ≤ ks.blks.length))
    (packSlots s.t s.b ks.slots (bind0 np) fun x m => packBlks s.b ks.blks 0 m fun y m => br (m.all fun p => decide (p.1 < ks.blks.length)) (K (x, y)) none) none
end

def unV : (kd : Kd) → kd.T → AVal
  | .int k, n => .v (.int k n)
  | .bool, p => .v (.bool p)
  | .str, s => .v (.str s)
  | .sl, s => .v (.sl s)
  | .cv, c => .v c
  | .lp j, _ => .lptr j 0
  | .lr j, _ => .lref j 0
  | .fn g, _ => .v (.func g [])
def unSlots : (l : List (Nat × Kd)) → SsT l → List AVal → List AVal
  | [], _, t => t
  | (i, kd) :: r, x, t => unSlots r x.2 (t.set i (unV kd x.1))
def unCells : (l : List Kd) → KsT l → List AVal
  | [], _ => []
  | kd :: r, x => unV kd x.1 :: unCells r x.2
def unBlks : (l : List BK) → BsT l → List Blk
  | [], _ => []
  | .arr sz :: r, x => ⟨0, .arr sz x.1⟩ :: unBlks r x.2
  | .box ks :: r, x => ⟨0, .box (unCells ks x.1)⟩ :: unBlks r x.2
def unpack (nt : Nat) (ks : LK) (p : ks.T) : St := ⟨unSlots ks.slots p.1 (List.replicate nt .un), unBlks ks.blks p.2⟩

abbrev Ret := CVal × List (List CVal)
inductive LO (A : Type) where
  | ret (r : Ret)
  | out (j : Nat) (p : A)
/-- function, block, body, the blocks handed in (an array's element size), what is kept -/
abbrev LoopT := FuncId → Nat → Code → List (Option Nat) → (ks : LK) → ks.T → Option (LO ks.T)

/-- What follows a loop. -/
def loK {A R : Type} (o : LO A) (kr : Ret → Option R) (k : Nat → A → Option R) : Option R :=
  match o with
  | .ret r => kr r
  | .out j p => k j p

/-- A loop's body, by the number of the block that it stands in. -/
def findLoop : Code → Nat → Nat → Option Code
  | .seq a b, bid, n => (findLoop a bid n).or (findLoop b bid n)
  | .cond _ a b, bid, n => (findLoop a bid n).or (findLoop b bid n)
  | .block id c, _, n => findLoop c id n
  | .loop c, bid, n => cond (bid == n) (some c) (findLoop c bid n)
  | _, _, _ => none
def loopCode (P : Program) (f : FuncId) (n : Nat) : Code :=
  (((P.funcs[f]?).bind (·.body)).bind fun c => findLoop c 0 n).getD .skip

inductive X where
  | N | X (j : Nat)

/-- What a machine needs of a function beside its code. -/
structure Ann where
  /-- what is kept at a loop's head and behind its block, by the block's number -/
  loop : FuncId → Nat → Option LK
  /-- what is kept where the ways of a condition meet, by the condition's slot -/
  join : FuncId → Nat → Option LK
  /-- what is kept behind a region with guards, by the region's number -/
  reg : FuncId → Nat → Option (List (Nat × Kd))

section
variable {R : Type} (E : Env) (N : Ann) (C : CallT) (L : LoopT) (f : FuncId)

def guardSlot (ops : Array Oper) (j : Nat) : Option Nat := (ops[j]?).bind (·.dst)

/-- What a slot holds whose operation was passed over. -/
def skipped : AVal := .tup []

/-- One operation, carried out or passed over: and the slots as it met them. -/
def stepK (ro : Bool) (ops : Array Oper) (o : Oper) (t : List AVal) (b : List Blk) (K : Bool → List AVal → List AVal → List Blk → Option R) : Option R :=
  match o.guard with
  | none => br (ro && !roOp E o t) none (opK E C b.length o t b fun x b => K true t (putA t o.dst x) b)
  | some (j, want) =>
    match guardSlot ops j with
    | none => none
    | some g =>
      match t.getD g .un with
      | .v c => c.asBool.bind fun p =>
          br p
            (br want
              (br (ro && !roOp E o (t.set g (.v (.bool true)))) none
                (opK E C b.length o (t.set g (.v (.bool true))) b fun x b => K true (t.set g (.v (.bool true))) (putA (t.set g (.v (.bool true))) o.dst x) b))
              (K false (t.set g (.v (.bool true))) (putA (t.set g (.v (.bool true))) o.dst skipped) b))
            (br want (K false (t.set g (.v (.bool false))) (putA (t.set g (.v (.bool false))) o.dst skipped) b)
              (br (ro && !roOp E o (t.set g (.v (.bool false)))) none
                (opK E C b.length o (t.set g (.v (.bool false))) b fun x b => K true (t.set g (.v (.bool false))) (putA (t.set g (.v (.bool false))) o.dst x) b)))
      | .tup [] => K false t (putA t o.dst skipped) b
      | _ => none

def evOps (ro : Bool) (ops : Array Oper) : List Oper → List AVal → List Blk → (List AVal → List Blk → Option R) → Option R
  | [], t, b, K => K t b
  | o :: r, t, b, K => stepK E C ro ops o t b fun _ _ t b => evOps ro ops r t b K

/-- Whether p must come ahead of i. -/
def before (ops : Array Oper) : Nat → Nat → Nat → Bool
  | 0, _, _ => false
  | n + 1, i, p =>
    match ops[i]? with
    | none => false
    | some o => o.after.toList.any fun e => Region.binds .any e && (e.on == p || before ops n e.on p)

def notIn (d : Option Nat) (l : List Nat) : Bool :=
  match d with
  | some d => !(l.contains d)
  | none => true

/-- Operations that do not meddle with each other's slots. -/
def apart (ops : Array Oper) (p o : Oper) : Bool :=
  notIn p.dst (o.looksAt ops) && notIn o.dst (p.looksAt ops) && notIn p.dst o.dst.toList

def fits (ops : Array Oper) (i : Nat) (o : Oper) (c : Cls) (p : Nat × Cls) : Bool :=
  before ops ops.size i p.1 || (match ops[p.1]? with | some o' => apart ops o' o && p.2.ok c | none => false)

/-- The operations of a region in the order of its text, where any order comes to the same. -/
def evD (ro : Bool) (ops : Array Oper) : List Nat → List (Nat × Cls) → List AVal → List Blk → (List AVal → List Blk → Option R) → Option R
  | [], _, t, b, K => K t b
  | i :: r, acc, t, b, K =>
    match ops[i]? with
    | none => none
    | some o => stepK E C ro ops o t b fun ran t1 t' b' =>
        br (acc.all (fits ops i o (cond ran (clsOf E o t1) .blind))) (evD ro ops r ((i, cond ran (clsOf E o t1) .blind) :: acc) t' b' K) none

/-- Operations come behind those that they need. -/
def topo (ops : Array Oper) : Bool := (List.range ops.size).all fun i =>
  match ops[i]? with
  | some o => o.after.toList.all fun e => !(Region.binds .any e) || decide (e.on < i)
  | none => true

def wipe (ops : Array Oper) (t : List AVal) : List AVal := ops.toList.foldl (fun t o => putA t o.dst .un) t

def Kd.closed : Kd → Bool
  | .lp _ => false
  | .lr _ => false
  | _ => true

/-- The slots that a region with guards leaves, the others forgotten. -/
def evReg (id : Nat) (ops : Array Oper) (draw : Bool) (s : St) (K : St → Option R) : Option R :=
  match N.reg f id with
  | none =>
    match draw with
    | false => evOps E C false ops ops.toList s.t s.b fun t b => K ⟨t, b⟩
    | true => br (topo ops) (evD E C false ops (List.range ops.size) [] s.t s.b fun t b => K ⟨t, b⟩) none
  | some ks =>
    br (ks.all fun k => k.2.closed)
      ((match draw with
        | false => evOps E C true ops ops.toList s.t s.b fun t b => packSlots t b ks [] fun x _ => some x
        | true => br (topo ops) (evD E C true ops (List.range ops.size) [] s.t s.b fun t b => packSlots t b ks [] fun x _ => some x) none).bind fun x =>
        K ⟨unSlots ks x (wipe ops s.t), s.b⟩) none

/-- What is known of a slot behind a test of it. -/
def condSet (c : Operand) (g : Bool) (s : St) : St :=
  match c with
  | .tmp i => ⟨s.t.set i (.v (.bool g)), s.b⟩
  | _ => s

def ev (nt : Nat) (np : List (Option Nat)) (fin : St → (Ret → Option R) → Option R) (kr : Ret → Option R) : Code → Nat → (X → St → Option R) → St → Option R
  | .skip, _, k, s => k .N s
  | .region id ops draw, _, k, s => evReg E N C f id ops draw s fun s => k .N s
  | .seq a b, bid, k, s => ev nt np fin kr a bid (fun e s => match e with | .N => ev nt np fin kr b bid k s | .X j => k (.X j) s) s
  | .cond c a b, bid, k, s => wBool (evalA s.t c) fun g => br g (ev nt np fin kr a bid k (condSet c true s)) (ev nt np fin kr b bid k (condSet c false s))
  | .block id c, _, k, s =>
    ev nt np fin kr c id (fun e s => match e with | .N => k .N s | .X j => br (j == id) (k .N s) (k (.X j) s)) s
  | .loop c, bid, k, s =>
    match N.loop f bid with
    | none => none
    | some ks => packK np.length ks s fun p => (L f bid c np ks p).bind fun o =>
        loK o kr fun j p => k (.X j) (unpack nt ks p)
  | .exit id, _, k, s => k (.X id) s
  | .ret, _, _, s => fin s kr
  | _, _, _, _ => none

def ptrAgg (P : Program) (t : TypeId) : Bool :=
  match P.underlying t with
  | some (.pointer e) => aggT P e
  | _ => false

def finVals (t : List AVal) : List (ResultVar × TypeId) → List Blk → (List CVal → List Blk → Option R) → Option R
  | [], b, K => K [] b
  | (.tmp i, ty) :: r, b, K => closeRK b (ptrAgg E.P ty) (t.getD i .un) fun c b => finVals t r b fun cs b => K (c :: cs) b
  | (.cell a ty, _) :: r, b, K => loadK E.P ty b (t.getD a .un) fun x => closeRK b false x fun c b => finVals t r b fun cs b => K (c :: cs) b

def finBlks : Nat → List (Option Nat) → List Blk → (List (List CVal) → List Blk → Option R) → Option R
  | _, [], b, K => K [] b
  | j, p :: r, b, K =>
    match b[j]? with
    | some ⟨_, .arr sz xs⟩ => br (decide (p = some sz)) (finBlks (j + 1) r b fun l b => K (xs :: l) b) none
    | some ⟨_, .box cs⟩ => br (decide (p = none)) ((closeL b cs).bind fun xs => finBlks (j + 1) r (killL cs b) fun l b => K (xs :: l) b) none
    | _ => none

def finK (fn : Func) (np : List (Option Nat)) (s : St) (K : Ret → Option R) : Option R :=
  match E.rm f with
  | none => finVals E s.t (fn.results.toList.zip fn.resultTypes.toList) s.b fun cs b =>
      finBlks 0 np b fun l b =>
        br ((List.range np.length).all (aliveAt b))
          (match cs with
           | [c] => K (c, l)
           | cs => K (.tup cs, l)) none
  | some j =>
    match fn.results.toList with
    | [.tmp i] =>
      match s.t.getD i .un with
      | .lref i' ver => br (decide (i' = j) && (arrOf s.b j ver).isSome && decide ((np[j]?).isSome)) (finBlks 0 np s.b fun l b => br ((List.range np.length).all (aliveAt b)) (K (.nilp, l)) none) none
      | _ => none
    | _ => none

def PB.sh (p : PB) : Option Nat := cond p.arr (some p.sz) none
def startBlk (p : PB) : Blk := cond p.arr ⟨0, .arr p.sz p.xs⟩ ⟨0, .box (p.xs.map .v)⟩

/-- A whole function. -/
def evF (args : List AVal) (pbs : List PB) : Option Ret :=
  match E.P.funcs[f]? with
  | none => none
  | some fn =>
    match fn.body with
    | none => none
    | some c =>
      br (fn.name == "runtime.NumGoroutine" || !decide (args.length ≤ fn.ntmps) || !decide (fn.results.size = fn.resultTypes.size)) none
        (ev E N C L f fn.ntmps (pbs.map PB.sh) (finK E f fn (pbs.map PB.sh)) some c 0
          (fun e s => match e with | .N => finK E f fn (pbs.map PB.sh) s some | .X _ => none)
          ⟨args ++ List.replicate (fn.ntmps - args.length) .un, pbs.map startBlk⟩)

/-- One round of a loop, and what follows. -/
def evL (bid : Nat) (c : Code) (np : List (Option Nat)) (ks : LK) (p : ks.T) : Option (LO ks.T) :=
  match E.P.funcs[f]? with
  | none => none
  | some fn =>
    ev E N C L f fn.ntmps np (finK E f fn np) (fun r => some (.ret r)) c bid
      (fun e s => match e with
        | .N => packK np.length ks s fun p => L f bid c np ks p
        | .X j => packK np.length ks s fun p => some (.out j p))
      (unpack fn.ntmps ks p)
end

/-- A function value that is data, called. -/
def applyV (E : Env) (C : CallT) (args : List AVal) (pbs : List PB) : Option Ret :=
  match args, pbs with
  | .v (.func g caps) :: l, [] => (allV l).bind fun cs => br (g == apId || (E.rm g).isSome) none
      (match E.prim g with
       | some p => p ((cs ++ caps).map .v) []
       | none => C g ((cs ++ caps).map .v) [])
  | _, _ => none

/-- So many steps. -/
def run (E : Env) (N : Ann) : Nat → CallT × LoopT
  | 0 => (fun _ _ _ => none, fun _ _ _ _ _ _ => none)
  | n + 1 => (fun g args pbs => cond (g == apId) (applyV E (run E N n).1 args pbs) (evF E N (run E N n).1 (run E N n).2 g args pbs), fun f bid c np ks p => evL E N (run E N n).1 (run E N n).2 f bid c np ks p)

end Go.Proofs.Ytlgonbonnjkekaa.Abs

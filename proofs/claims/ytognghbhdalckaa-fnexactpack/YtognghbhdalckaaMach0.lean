/- A part. -/
import Derived.Calls
import Derived.Orders
import Derived.Laws.CopyRow
import Derived.Laws.Cells
import Derived.Laws.World
import Derived.Lib.SliceRun
set_option linter.unusedVariables false
set_option linter.unusedSectionVars false
set_option linter.unusedSimpArgs false
namespace Go.Proofs.Ytognghbhdalckaa.Abs
open Go
inductive CVal where
 |bool (b:Bool)
 |int (k:IntKind) (n:Int)
 |str (s:List UInt8)
 |sl (xs:List CVal)
 |agg (cs:List CVal)
 |fp (c:CVal) (off:Nat)
 |func (f:Nat) (caps:List CVal)
 |nilp
 |nilf
 |nili
 |iface (t:Nat) (c:CVal)
 |tup (cs:List CVal)
 |fsl (xs:List CVal)
 |slq (q:Bool) (xs:List CVal)
 deriving Inhabited
inductive AVal where
 |v (c:CVal)
 |nl
 |lptr (i off:Nat)
 |lel (i ver idx off:Nat)
 |lref (i ver:Nat)
 |lsub (i ver sv idx off:Nat)
 |lel2 (i ver sv idx off idx2:Nat)
 |agg (cs:List AVal)
 |func (f:Nat) (caps:List AVal)
 |tup (cs:List AVal)
 |ltail (i ver lo:Nat)
 |un
 deriving Inhabited
structure Md where
 deep:Bool
 fix:Bool
 sv:Nat
 deriving DecidableEq,Inhabited
inductive Body where
 |box (cs:List AVal)
 |arr (m:Md) (sz:Nat) (xs:List CVal)
 |hole (m:Md) (sz:Nat) (xs:List CVal) (c:CVal) (idx off k:Nat)
 |dead
 deriving Inhabited
structure Blk where
 ver:Nat
 body:Body
 deriving Inhabited
structure St where
 t:List AVal
 b:List Blk
 deriving Inhabited
inductive PB where
 |arr (m:Md) (gone:Bool) (sz:Nat) (xs:List CVal)
 |box (cs:List AVal)
 deriving Inhabited
def br {R:Type} (b:Bool) (x y:Option R):Option R:=
 match b with
 |true=>x
 |false=>y
abbrev CallT:=FuncId→List AVal→List PB→Option (CVal × List (List CVal))
def CVal.asInt (k:IntKind):CVal→Option Int
 |.int k' n=>if k'=k then some n else none
 |_=>none
def CVal.asIdx:CVal→Option Int
 |.int _ n=>some n
 |_=>none
def CVal.asBool:CVal→Option Bool
 |.bool b=>some b
 |_=>none
def CVal.asStr:CVal→Option (List UInt8)
 |.str s=>some s
 |_=>none
def CVal.asSl:CVal→Option (List CVal)
 |.sl xs=>some xs
 |_=>none
def CVal.asFp:CVal→Option (CVal × Nat)
 |.fp c o=>some (c,o)
 |_=>none
def CVal.asAgg:CVal→Option (List CVal)
 |.agg cs=>some cs
 |_=>none
def CVal.asTup:CVal→Option (List CVal)
 |.tup cs=>some cs
 |_=>none
def CVal.cells:CVal→List CVal
 |.agg cs=>cs
 |c=>[c]
def CVal.cell (c:CVal) (off:Nat):Option CVal:=c.cells[off]?
def CVal.isAgg:CVal→Bool
 |.agg _=>true
 |_=>false
def CVal.isAggN (n:Nat):CVal→Bool
 |.agg cs=>cs.length == n
 |_=>false
def CVal.isFlat:CVal→Bool
 |.agg _=>false
 |.tup _=>false
 |_=>true
mutual
def CVal.plain:CVal→Bool
 |.sl xs=>plainL xs
 |.agg cs=>plainL cs
 |.tup cs=>plainL cs
 |.bool _=>true
 |.int _ _=>true
 |.str _=>true
 |.nilp=>true
 |.nilf=>true
 |.nili=>true
 |.fp _ _=>false
 |.func _ _=>false
 |.iface _ _=>false
 |.fsl _=>false
 |.slq _ _=>false
def plainL:List CVal→Bool
 |[]=>true
 |c :: r=>c.plain && plainL r
end
def CVal.toF1:CVal→CVal
 |.sl xs=>.fsl xs
 |c=>c
def CVal.toF:CVal→CVal
 |.agg cs=>.agg (cs.map CVal.toF1)
 |c=>c.toF1
def CVal.unF1:CVal→CVal
 |.fsl xs=>.sl xs
 |c=>c
def CVal.unF:CVal→CVal
 |.agg cs=>.agg (cs.map CVal.unF1)
 |c=>c.unF1
def CVal.fits (agg:Bool) (n:Nat) (c:CVal):Bool:=cond agg (c.isAggN n) (c.isFlat && n == 1)
def CVal.sub (c:CVal) (off sz:Nat):Option CVal:=
 br (decide (off=0) && c.isAggN sz) (some c)
  (br (decide (off + sz ≤ c.cells.length)) (some (.agg ((c.cells.drop off).take sz))) none)
def allV:List AVal→Option (List CVal)
 |[]=>some []
 |.v c :: r=>(allV r).bind fun cs=>some (c :: cs)
 |_ :: _=>none
def mkAgg (cs:List AVal):AVal:=
 match allV cs with
 |some xs=>.v (.agg xs)
 |none=>.agg cs
def arrOf (b:List Blk) (i ver:Nat):Option (List CVal):=
 match b[i]? with
 |some ⟨ver',.arr _ _ xs⟩=>br (ver' == ver) (some xs) none
 |_=>none
def szOf (b:List Blk) (i:Nat):Nat:=
 match b[i]? with
 |some ⟨_,.arr _ sz _⟩=>sz
 |_=>0
def mdOf (b:List Blk) (i:Nat):Md:=
 match b[i]? with
 |some ⟨_,.arr m _ _⟩=>m
 |_=>⟨false,false,0⟩
def subOf (b:List Blk) (i ver sv idx off:Nat):Option (List CVal):=
 (arrOf b i ver).bind fun xs=>br ((mdOf b i).deep && (mdOf b i).sv == sv) ((xs[idx]?).bind fun c=>(c.cell off).bind fun d=>d.asSl) none
def boxOf (b:List Blk) (i:Nat):Option (List AVal):=
 match b[i]? with
 |some ⟨_,.box cs⟩=>some cs
 |_=>none
def verOf (b:List Blk) (i:Nat):Nat:=
 match b[i]? with
 |some ⟨ver,_⟩=>ver
 |none=>0
mutual
def closeA (b:List Blk):AVal→Option CVal
 |.v c=>some c
 |.nl=>some (.sl [])
 |.lref i ver=>(arrOf b i ver).bind fun xs=>some (.sl xs)
 |.agg cs=>(closeL b cs).bind fun xs=>some (.agg xs)
 |.func f cs=>(closeL b cs).bind fun xs=>some (.func f xs)
 |.tup cs=>(closeL b cs).bind fun xs=>some (.tup xs)
 |_=>none
def closeL (b:List Blk):List AVal→Option (List CVal)
 |[]=>some []
 |x :: r=>(closeA b x).bind fun c=>(closeL b r).bind fun cs=>some (c :: cs)
end
def packFp (agg:Bool) (xs:List CVal):CVal:=cond agg (.fp (.agg xs) 0) (.fp (xs.headD .nilp) 0)
def kill (b:List Blk) (i:Nat):List Blk:=
 match b[i]? with
 |some ⟨ver,_⟩=>b.set i ⟨ver + 1,.dead⟩
 |none=>b
mutual
def killA:AVal→List Blk→List Blk
 |.lref i _,b=>kill b i
 |.agg cs,b=>killL cs b
 |.func _ cs,b=>killL cs b
 |.tup cs,b=>killL cs b
 |_,b=>b
def killL:List AVal→List Blk→List Blk
 |[],b=>b
 |x :: r,b=>killL r (killA x b)
end
def ofCell:Value→Option AVal
 |.bool b=>some (.v (.bool b))
 |.int k n=>some (.v (.int k n))
 |.string s=>some (.v (.str s.data.toList))
 |.pointer none=>some (.v .nilp)
 |.slice none 0 0=>some .nl
 |.nilFunc=>some (.v .nilf)
 |.nilIface=>some (.v .nili)
 |_=>none
def ofCells:List Value→Option (List AVal)
 |[]=>some []
 |x :: r=>(ofCell x).bind fun a=>(ofCells r).bind fun l=>some (a :: l)
def ofVal:Value→Option AVal
 |.agg cs=>(ofCells cs.toList).bind fun l=>some (mkAgg l)
 |x=>ofCell x
def evalA (t:List AVal):Operand→AVal
 |.tmp i=>t.getD i .un
 |.const c=>(ofVal c).getD .un
 |.func f=>.v (.func f [])
 |.global _=>.un
def putA (t:List AVal) (d:Option Nat) (x:AVal):List AVal:=
 match d with
 |some i=>t.set i x
 |none=>t
def kindT (P:Program) (t:TypeId):Option IntKind:=
 match P.underlying t with
 |some (.int k)=>some k
 |_=>none
def aggT (P:Program) (t:TypeId):Bool:=
 match P.underlying t with
 |some (.struct _)=>true
 |some (.array _ _)=>true
 |_=>false
def zeroT (P:Program) (t:TypeId):Option AVal:=((P.info? t).bind (·.zero)).bind ofVal
def elemOk (P:Program) (e:TypeId):Bool:=
 (P.underlying e).isSome && decide (P.bytesOf e ≤ 4096) &&
 match (P.info? e).bind (·.zero) with
 |some z=>z.cells.size == P.cellsOf e
 |none=>false
def isSliceT (P:Program) (t:TypeId):Bool:=
 match P.underlying t with
 |some (.slice _)=>true
 |_=>false
def lim:Nat:=4294967296
section
variable {R:Type}
def wInt (k:IntKind) (x:AVal) (K:Int→Option R):Option R:=
 match x with
 |.v c=>(c.asInt k).bind K
 |_=>none
def wIdx (x:AVal) (K:Int→Option R):Option R:=
 match x with
 |.v c=>c.asIdx.bind K
 |_=>none
def wBool (x:AVal) (K:Bool→Option R):Option R:=
 match x with
 |.v c=>c.asBool.bind K
 |_=>none
def wStr (x:AVal) (K:List UInt8→Option R):Option R:=
 match x with
 |.v c=>c.asStr.bind K
 |_=>none
def wSl (b:List Blk) (x:AVal) (K:List CVal→Option R):Option R:=
 match x with
 |.v c=>c.asSl.bind K
 |.nl=>K []
 |.lref i ver=>(arrOf b i ver).bind K
 |.lsub i ver sv idx off=>(subOf b i ver sv idx off).bind K
 |_=>none
def explodeC (c:CVal):(i n:Nat)→(K:List CVal→Option R)→Option R
 |_,0,K=>K []
 |i,n + 1,K=>(c.cell i).bind fun x=>explodeC c (i + 1) n fun xs=>K (x :: xs)
def explodeL {α:Type} (l:List α):(i n:Nat)→(K:List α→Option R)→Option R
 |_,0,K=>K []
 |i,n + 1,K=>(l[i]?).bind fun x=>explodeL l (i + 1) n fun xs=>K (x :: xs)
def wCells (agg:Bool) (n:Nat) (x:AVal) (K:List AVal→Option R):Option R:=
  br agg
    (match x with
     | .agg cs=>br (cs.length == n) (K cs) none
     | .v c=>br (c.isAggN n) (explodeC c 0 n fun xs=>K (xs.map .v)) none
     | _=>none)
    (match x with
     | .agg _=>none
     | .tup _=>none
     | .un=>none
     | .v c=>br (c.isFlat && n == 1) (K [.v c]) none
     | x=>br (n == 1) (K [x]) none)
inductive CK where
 |int (k:IntKind) | bool | str | sl (e:TypeId) | any
 deriving DecidableEq,Inhabited
def CK.flat:CK→Bool
 |.sl _=>false
 |_=>true
def CVal.isPt:CVal→Bool
 |.sl _=>false
 |.agg _=>false
 |.tup _=>false
 |_=>true
def CK.ok:CK→CVal→Bool
 |.int k,.int k' _=>decide (k'=k)
 |.bool,.bool _=>true
 |.str,.str _=>true
 |.any,c=>c.isPt
 |_,_=>false
def okCells:List CK→List CVal→Bool
 |[],[]=>true
 |k :: r,c :: cs=>k.ok c && okCells r cs
 |_,_=>false
def cksN (P:Program):Nat→TypeId→List CK
 |0,_=>[]
 |n + 1,t=>
  match P.underlying t with
  |some .bool=>[.bool]
  |some (.int k)=>[.int k]
  |some .string=>[.str]
  |some (.slice e)=>[.sl e]
  |some (.struct fs)=>fs.toList.flatMap fun f=>cksN P n f.type
  |some (.array len e)=>(List.replicate len (cksN P n e)).flatten
  |_=>[.any]
def cks (P:Program) (t:TypeId):List CK:=cksN P 9 t
def flatT (P:Program) (t:TypeId):Bool:=(cks P t).all CK.flat && ((cks P t).length == P.cellsOf t)
def CVal.fitsF (agg:Bool) (ks:List CK) (c:CVal):Bool:=cond agg (match c with | .agg cs=>okCells ks cs | _=>false) (okCells ks [c])
def wTyp (k:CK) (d:CVal) (K:CVal→Option R):Option R:=
 match k with
 |.int k=>(d.asInt k).bind fun n=>K (.int k n)
 |.bool=>d.asBool.bind fun b=>K (.bool b)
 |.str=>d.asStr.bind fun s=>K (.str s)
 |.any=>br d.isPt (K d) none
 |.sl _=>none
def wTyp1 (ks:List CK) (d:CVal) (K:CVal→Option R):Option R:=
 match ks with
 |[k]=>wTyp k d K
 |_=>none
def ownCell (b:List Blk):CK→AVal→Bool
 |.sl _,.nl=>true
 |.sl _,.lref i _=>(mdOf b i).deep
 |.sl _,_=>false
 |_,_=>true
def ownCells (b:List Blk):List CK→List AVal→Bool
 |[],[]=>true
 |k :: r,x :: xs=>ownCell b k x && ownCells b r xs
 |_,_=>false
def ownA (P:Program) (t:TypeId) (b:List Blk) (x:AVal):Bool:=
 match x with
 |.agg cs=>ownCells b (cks P t) cs
 |x=>ownCells b (cks P t) [x] || flatT P t
def takeCellK (P:Program) (k:CK) (x:AVal) (b:List Blk) (K:CVal→List Blk→Option R):Option R:=
 match k with
 |.sl e=>
  match x with
  |.nl=>K (.sl []) b
  |.lref i ver=>(arrOf b i ver).bind fun xs=>br ((mdOf b i).deep && !(mdOf b i).fix && szOf b i == P.cellsOf e) (K (.sl xs) (kill b i)) none
  |_=>none
 |k=>
  match x with
  |.v c=>wTyp k c fun c=>K c b
  |_=>none
def takeCellsK (P:Program):List CK→List AVal→List Blk→(List CVal→List Blk→Option R)→Option R
 |[],[],b,K=>K [] b
 |k :: ks,x :: xs,b,K=>takeCellK P k x b fun c b=>takeCellsK P ks xs b fun l b=>K (c :: l) b
 |_,_,_,_=>none
def packC (agg:Bool) (l:List CVal):CVal:=cond agg (.agg l) (l.headD .nilp)
def takeK (P:Program) (t:TypeId) (x:AVal) (b:List Blk) (K:CVal→List Blk→Option R):Option R:=
 wCells (aggT P t) (P.cellsOf t) x fun cs=>br ((cks P t).length == P.cellsOf t) (takeCellsK P (cks P t) cs b fun l b=>K (packC (aggT P t) l) b) none
def takeAllK (P:Program) (t:TypeId):List AVal→List Blk→(List CVal→List Blk→Option R)→Option R
 |[],b,K=>K [] b
 |x :: r,b,K=>takeK P t x b fun c b=>takeAllK P t r b fun l b=>K (c :: l) b
def openCells (P:Program):List CK→List CVal→List Blk→(List AVal→List Blk→Option R)→Option R
 |[],[],b,K=>K [] b
 |.sl e :: ks,c :: cs,b,K=>c.asSl.bind fun xs=>br (decide (P.cellsOf e ≠ 0)) (openCells P ks cs (b ++ [⟨0,.arr ⟨true,false,0⟩ (P.cellsOf e) xs⟩]) fun l b'=>K (.lref b.length 0 :: l) b') none
 |_ :: ks,c :: cs,b,K=>openCells P ks cs b fun l b=>K (.v c :: l) b
 |_,_,_,_=>none
def openK (P:Program) (t:TypeId) (c:CVal) (b:List Blk) (K:AVal→List Blk→Option R):Option R:=
 br ((cks P t).length == P.cellsOf t)
  (br (aggT P t)
   (br (c.isAggN (P.cellsOf t)) (explodeC c 0 (P.cellsOf t) fun cs=>openCells P (cks P t) cs b fun l b=>K (mkAgg l) b) none)
   (br (c.isFlat) (openCells P (cks P t) [c] b fun l b=>K (l.headD .un) b) none)) none
def ptrE (P:Program) (t:TypeId):Option (Bool × Bool × List (Nat × CK)):=
 match P.underlying (t % 1048576) with
 |some (.pointer e)=>some (true,aggT P e,(cks P e).zipIdx.map fun x=>(t / 1048576 / 4 ^ x.2 % 4,x.1))
 |_=>cond (decide (t < 1048576)) none (some (false,aggT P (t % 1048576),(cks P (t % 1048576)).zipIdx.map fun x=>(t / 1048576 / 4 ^ x.2 % 4,x.1)))
def takePCells (P:Program):List (Nat × CK)→List AVal→List Blk→(List CVal→List Blk→Option R)→Option R
 |[],[],b,K=>K [] b
 |(0,_) :: ks,.v c :: xs,b,K=>br c.isFlat (takePCells P ks xs b fun l b=>K (c :: l) b) none
 |(1,k) :: ks,x :: xs,b,K=>takeCellsK P [k] [x] b fun c b=>takePCells P ks xs b fun l b=>K (c ++ l) b
 |(_ + 2,.sl _) :: ks,.nl :: xs,b,K=>takePCells P ks xs b fun l b=>K (.sl [] :: l) b
 |(_ + 2,.sl e) :: ks,.lref i ver :: xs,b,K=>(arrOf b i ver).bind fun ys=>br (!(mdOf b i).deep && !(mdOf b i).fix && szOf b i == P.cellsOf e) (takePCells P ks xs (kill b i) fun l b=>K (.sl ys :: l) b) none
 |_,_,_,_=>none
def openPCells (P:Program):List (Nat × CK)→List CVal→List Blk→(List AVal→List Blk→Option R)→Option R
 |[],[],b,K=>K [] b
 |(0,_) :: ks,c :: cs,b,K=>openPCells P ks cs b fun l b=>K (.v c :: l) b
 |(1,k) :: ks,c :: cs,b,K=>openCells P [k] [c] b fun a b=>openPCells P ks cs b fun l b=>K (a ++ l) b
 |(_ + 2,.sl e) :: ks,c :: cs,b,K=>c.asSl.bind fun ys=>br (decide (P.cellsOf e ≠ 0)) (openPCells P ks cs (b ++ [⟨0,.arr ⟨false,false,0⟩ (P.cellsOf e) ys⟩]) fun l b'=>K (.lref b.length 0 :: l) b') none
 |_,_,_,_=>none
def takePK (P:Program) (t:TypeId) (x:AVal) (b:List Blk) (K:CVal→List Blk→Option R):Option R:=
 match ptrE P t with
 |none=>takeK P t x b K
 |some (true,agg,ks)=>
  match x with
  |.lptr i off=>br (decide (off=0) && agg) ((boxOf b i).bind fun cs=>takePCells P ks cs (kill b i) fun l b=>K (.fp (.agg l) 0) b) none
  |_=>none
 |some (false,agg,ks)=>wCells agg ks.length x fun cs=>takePCells P ks cs b fun l b=>K (packC agg l) b
def openPK (P:Program) (t:TypeId) (c:CVal) (b:List Blk) (K:AVal→List Blk→Option R):Option R:=
 match ptrE P t with
 |none=>openK P t c b K
 |some (true,_,ks)=>c.asFp.bind fun q=>br (decide (q.2=0) && q.1.isAggN ks.length) (explodeC q.1 0 ks.length fun cs=>openPCells P ks cs b fun l b=>K (.lptr b.length 0) (b ++ [⟨0,.box l⟩])) none
 |some (false,true,ks)=>br (c.isAggN ks.length) (explodeC c 0 ks.length fun cs=>openPCells P ks cs b fun l b=>K (mkAgg l) b) none
 |some (false,false,ks)=>openPCells P ks [c] b fun l b=>K (l.headD .un) b
def openAllK (P:Program):List TypeId→List CVal→List Blk→(List AVal→List Blk→Option R)→Option R
 |[],[],b,K=>K [] b
 |t :: ts,c :: cs,b,K=>openPK P t c b fun x b=>openAllK P ts cs b fun l b=>K (x :: l) b
 |_,_,_,_=>none
def openRK (P:Program) (ts:List TypeId) (c:CVal) (b:List Blk) (K:AVal→List Blk→Option R):Option R:=
 match ts with
 |[t]=>openPK P t c b K
 |ts=>c.asTup.bind fun cs=>explodeL cs 0 ts.length fun cs=>openAllK P ts cs b fun l b=>K (.tup l) b
def thaw (b:List Blk) (i:Nat):List Blk:=
 match b[i]? with
 |some ⟨ver,.arr m sz xs⟩=>b.set i ⟨ver,.arr ⟨false,m.fix,m.sv⟩ sz xs⟩
 |_=>b
mutual
def thawA:AVal→List Blk→List Blk
 |.lref i _,b=>thaw b i
 |.agg cs,b=>thawL cs b
 |_,b=>b
def thawL:List AVal→List Blk→List Blk
 |[],b=>b
 |x :: r,b=>thawL r (thawA x b)
end
def splice {α:Type} (l:List α) (off:Nat) (m:List α):List α:=l.take off ++ m ++ l.drop (off + m.length)
def CVal.putCell (c:CVal) (off:Nat) (d:CVal):CVal:=
 match c with
 |.agg cs=>.agg (cs.set off d)
 |_=>d
def loadK (P:Program) (t:TypeId) (b:List Blk) (x:AVal) (K:AVal→Option R):Option R:=
 match P.underlying t with
 |none=>none
 |some _=>
 match x with
 |.lptr i off=>(boxOf b i).bind fun cs=>
   br (aggT P t)
    (br (decide (off + P.cellsOf t ≤ cs.length)) (K (mkAgg ((cs.drop off).take (P.cellsOf t)))) none)
    ((cs[off]?).bind K)
 |.lel i ver idx off=>(arrOf b i ver).bind fun xs=>(xs[idx]?).bind fun c=>
   br (mdOf b i).deep
    (br (flatT P t)
     (br (aggT P t) ((c.sub off (P.cellsOf t)).bind fun d=>br (d.fitsF true (cks P t)) (K (.v d)) none) ((c.cell off).bind fun d=>wTyp1 (cks P t) d fun d=>K (.v d)))
     (br (isSliceT P t) ((c.cell off).bind fun d=>d.asSl.bind fun _=>K (.lsub i ver (mdOf b i).sv idx off))
      (br (aggT P t) ((c.sub off (P.cellsOf t)).bind fun d=>br (d.isAgg && d.cells.all CVal.isPt) (K (.v d.unF)) none) none)))
    (br (aggT P t) ((c.sub off (P.cellsOf t)).bind fun d=>K (.v d)) ((c.cell off).bind fun d=>K (.v d)))
 |.lel2 i ver sv idx off idx2=>br (flatT P t && !aggT P t) ((subOf b i ver sv idx off).bind fun ys=>(ys[idx2]?).bind fun d=>wTyp1 (cks P t) d fun d=>K (.v d)) none
 |.v p=>p.asFp.bind fun q=>
   br (aggT P t) ((q.1.sub q.2 (P.cellsOf t)).bind fun d=>K (.v d)) ((q.1.cell q.2).bind fun d=>K (.v d))
 |_=>none
def putEl (agg:Bool) (n:Nat) (c:CVal) (off:Nat) (d:CVal) (K:CVal→Option R):Option R:=
 br (d.fits agg n)
  (br (decide (off=0) && c.fits agg n) (K d)
   (br (c.isAgg && decide (off + d.cells.length ≤ c.cells.length)) (K (.agg (splice c.cells off d.cells))) none)) none
def storeK (P:Program) (t:TypeId) (b:List Blk) (x y:AVal) (K:List Blk→Option R):Option R:=
 match P.underlying t with
 |none=>none
 |some _=>
 match x with
 |.lptr i off=>(boxOf b i).bind fun cs=>wCells (aggT P t) (P.cellsOf t) y fun l=>
   br (decide (off + l.length ≤ cs.length)) (K (b.set i ⟨verOf b i,.box (splice cs off l)⟩)) none
 |.lel i ver idx off=>
   br ((mdOf b i).deep && ownA P t b y)
    (takeK P t y b fun d b=>(arrOf b i ver).bind fun xs=>(xs[idx]?).bind fun c=>
     putEl (aggT P t) (P.cellsOf t) c off d fun c'=>K (b.set i ⟨ver,.arr ⟨true,(mdOf b i).fix,cond (flatT P t) (mdOf b i).sv ((mdOf b i).sv + 1)⟩ (szOf b i) (xs.set idx c')⟩))
    ((closeA (thaw b i) y).bind fun d=>
     (arrOf (killA y (thaw b i)) i ver).bind fun xs=>(xs[idx]?).bind fun c=>
      putEl (aggT P t) (P.cellsOf t) c off d fun c'=>K ((killA y (thaw b i)).set i ⟨ver,.arr (mdOf (killA y (thaw b i)) i) (szOf (killA y (thaw b i)) i) (xs.set idx c')⟩))
 |.lel2 i ver sv idx off idx2=>
   br (flatT P t && !aggT P t)
    (takeK P t y b fun d b=>(arrOf b i ver).bind fun xs=>(xs[idx]?).bind fun c=>(c.cell off).bind fun s=>s.asSl.bind fun ys=>
     br ((mdOf b i).deep && (mdOf b i).sv == sv) ((ys[idx2]?).bind fun e=>br (e.fitsF false (cks P t))
      (K (b.set i ⟨ver,.arr (mdOf b i) (szOf b i) (xs.set idx (c.putCell off (.sl (ys.set idx2 d))))⟩)) none) none) none
 |_=>none
def fieldK (P:Program) (t:TypeId) (x:AVal) (f:Nat) (K:AVal→Option R):Option R:=
  match P.underlying t with
  | some (.struct fs)=>
    match fs[f]? with
    | some fd=>
      br (decide (P.cellsOf fd.type=0)) none
        (match x with
         | .lptr i off=>K (.lptr i (off + fd.offset))
         | .lel i ver idx off=>K (.lel i ver idx (off + fd.offset))
         | .v p=>p.asFp.bind fun q=>K (.v (.fp q.1 (q.2 + fd.offset)))
         | _=>none)
    | none=>none
  | _=>none
def indexAddrK (P:Program) (t:TypeId) (b:List Blk) (x ix:AVal) (K:AVal→Option R):Option R:=
  match P.underlying t with
  | some (.slice e)=>wIdx ix fun n=>br (decide (0 ≤ n) && (P.underlying e).isSome)
      (match x with
       | .lref i ver=>(arrOf b i ver).bind fun xs=>br (decide (n.toNat < xs.length) && szOf b i == P.cellsOf e) (K (.lel i ver n.toNat 0)) none
       | .lsub i ver sv idx off=>br (flatT P e && !aggT P e) ((subOf b i ver sv idx off).bind fun ys=>br (decide (n.toNat < ys.length)) (K (.lel2 i ver sv idx off n.toNat)) none) none
       | .v c=>c.asSl.bind fun xs=>(xs[n.toNat]?).bind fun d=>br (d.fits (aggT P e) (P.cellsOf e)) (K (.v (.fp d 0))) none
       | _=>none) none
  | some (.array len e)=>wIdx ix fun n=>br (decide (0 ≤ n) && decide (n < len) && (P.underlying e).isSome)
      (match x with
       | .lptr i off=>K (.lptr i (off + n.toNat * P.cellsOf e))
       | .lel i ver idx off=>K (.lel i ver idx (off + n.toNat * P.cellsOf e))
       | .v p=>p.asFp.bind fun q=>K (.v (.fp q.1 (q.2 + n.toNat * P.cellsOf e)))
       | _=>none) none
  | _=>none
def indexK (P:Program) (t:TypeId) (x ix:AVal) (K:AVal→Option R):Option R:=
  match P.underlying t with
  | some .string=>wIdx ix fun n=>wStr x fun s=>br (decide (0 ≤ n)) ((s[n.toNat]?).bind fun c=>K (.v (.int .u8 c.toNat))) none
  | some (.array len e)=>wIdx ix fun n=>br (decide (0 ≤ n) && decide (n < len) && !(aggT P e) && decide (P.cellsOf e=1) && (P.underlying e).isSome)
      (match x with
       | .v c=>br c.isAgg ((c.cell n.toNat).bind fun d=>K (.v d)) none
       | _=>none) none
  | _=>none
def wOpt (x:Option AVal) (d:Int) (K:Int→Option R):Option R:=
 match x with
 |some a=>wIdx a K
 |none=>K d
def sliceK (P:Program) (t:TypeId) (b:List Blk) (x:AVal) (lo hi mx:Option AVal) (K:AVal→List Blk→Option R):Option R:=
 match mx with
 |some m=>
  match P.underlying t with
  |some (.slice e)=>br (P.underlying e).isSome
   (match x with
   |.v c=>c.asSl.bind fun _=>wIdx m fun m=>wOpt hi 1 fun h=>wOpt lo 0 fun l=>br (decide (l=0) && decide (h=0) && decide (m=0)) (K .nl b) none
   |_=>none) none
  |_=>none
 |none=>
  match P.underlying t with
  |some .string=>wStr x fun s=>wOpt hi s.length fun h=>wOpt lo 0 fun l=>
    br (decide (0 ≤ l) && decide (l ≤ h) && decide (h ≤ s.length)) (K (.v (.str ((s.take h.toNat).drop l.toNat))) b) none
  |some (.slice e)=>br (P.underlying e).isSome
   (match x with
   |.v c=>c.asSl.bind fun xs=>wOpt hi xs.length fun h=>wOpt lo 0 fun l=>
     br (decide (0 ≤ l) && decide (l ≤ h) && decide (h ≤ xs.length) && xs.all (CVal.fits (aggT P e) (P.cellsOf e))) (K (.v (.sl ((xs.take h.toNat).drop l.toNat))) b) none
   |.nl=>wOpt hi 0 fun h=>wOpt lo 0 fun l=>br (decide (l=0) && decide (h=0)) (K .nl b) none
   |.lref i ver=>(arrOf b i ver).bind fun xs=>
     match lo with
     |none=>wOpt hi xs.length fun h=>br (decide (0 ≤ h) && decide (h ≤ xs.length) && !(mdOf b i).fix)
       (K (.lref i (ver + 1)) (b.set i ⟨ver + 1,.arr ⟨(mdOf b i).deep,false,0⟩ (szOf b i) (xs.take h.toNat)⟩)) none
     |some _=>
      match hi with
      |none=>wOpt lo 0 fun l=>br (decide (0 ≤ l) && decide (l ≤ xs.length) && szOf b i == P.cellsOf e) (K (.ltail i ver l.toNat) b) none
      |some _=>none
   |_=>none) none
  |_=>none
def clearK (P:Program) (t:TypeId) (b:List Blk) (x:AVal) (K:List Blk→Option R):Option R:=
 match P.underlying t with
 |some (.slice e)=>
  match x with
  |.nl=>K b
  |.ltail i ver lo=>(arrOf b i ver).bind fun xs=>(zeroT P e).bind fun z=>
   match z with
   |.v c=>br (!(aggT P e) && c.fitsF false (cks P e) && szOf b i == 1 && decide (lo ≤ xs.length) && !(mdOf b i).fix)
     (K (b.set i ⟨ver,.arr ⟨(mdOf b i).deep,(mdOf b i).fix,(mdOf b i).sv + 1⟩ (szOf b i) (xs.take lo ++ List.replicate (xs.length - lo) c)⟩)) none
   |_=>none
  |_=>none
 |_=>none
def unq:AVal→AVal
 |.v (.slq _ xs)=>.v (.sl xs)
 |x=>x
def wApp (D:TypeId→Bool) (fs:Bool) (P:Program) (e:TypeId) (b:List Blk) (x:AVal) (K:List CVal→Bool→List Blk→Option R):Option R:=
  br (flatT P e)
    (wSl b x fun ys=>br (ys.all (CVal.fitsF (aggT P e) (cks P e))) (K ys true b) none)
    (match x with
     | .nl=>K [] (D e) b
     | .lref j ver=>(arrOf b j ver).bind fun ys=>br (mdOf b j).deep
         (br (D e && !(mdOf b j).fix && szOf b j == P.cellsOf e) (K ys true (kill b j)) none)
         (br (ys.all (CVal.fits (aggT P e) (P.cellsOf e))) (K ys false b) none)
     | .v c=>c.asSl.bind fun ys=>br (ys.all (CVal.fits (aggT P e) (P.cellsOf e))) (br (fs && D e) (K (ys.map CVal.toF) true b) (K ys false b)) none
     | _=>none)
def appendK (D:TypeId→Bool) (fs:Bool) (P:Program) (b:List Blk) (ty ty2:TypeId) (s x:AVal) (K:AVal→List Blk→Option R):Option R:=
 match P.underlying ty with
 |some (.slice e)=>br (elemOk P e && isSliceT P ty2)
  (wApp D fs P e b (cond fs (unq x) x) fun ys d b=>
   match s with
   |.nl=>br (decide (ys.length ≤ lim)) (K (.lref b.length 0) (b ++ [⟨0,.arr ⟨d,false,0⟩ (P.cellsOf e) ys⟩])) none
   |.lref i ver=>(arrOf b i ver).bind fun xs=>
     br (decide (xs.length + ys.length ≤ lim) && szOf b i == P.cellsOf e && !(mdOf b i).fix)
      (K (.lref i (ver + 1)) (b.set i ⟨ver + 1,.arr ⟨(mdOf b i).deep && d,false,0⟩ (P.cellsOf e) (xs ++ ys)⟩)) none
   |_=>none) none
 |_=>none
def partsInOrder:(i:Nat)→List (Nat × AVal)→Option (List AVal)
 |_,[]=>some []
 |i,(j,x) :: r=>br (i == j) ((partsInOrder (i + 1) r).bind fun l=>some (x :: l)) none
def buildSliceK (D:TypeId→Bool) (P:Program) (t:TypeId) (len:Nat) (parts:List (Nat × AVal)) (b:List Blk) (K:AVal→List Blk→Option R):Option R:=
  match P.underlying t with
  | some (.slice e)=>
    (partsInOrder 0 parts).bind fun l=>br (l.length == len && decide (len * P.cellsOf e ≤ 16777216) && elemOk P e && decide (P.cellsOf e ≠ 0))
      (match len with
       | 0=>K .nl b
       | _=>br (flatT P e || (D e && l.all (ownA P e b)))
          (takeAllK P e l b fun cs b=>K (.lref b.length 0) (b ++ [⟨0,.arr ⟨true,false,0⟩ (P.cellsOf e) cs⟩]))
          ((closeL b l).bind fun cs=>
            br (cs.all (CVal.fits (aggT P e) (P.cellsOf e)))
              (K (.lref b.length 0) (killL l b ++ [⟨0,.arr ⟨false,false,0⟩ (P.cellsOf e) cs⟩])) none)) none
  | _=>none
def fillK (P:Program) (fs:Array Field):List (Nat × AVal)→List AVal→(List AVal→Option R)→Option R
 |[],cs,K=>K cs
 |(i,x) :: r,cs,K=>
  match fs[i]? with
  |some f=>wCells (aggT P f.type) (P.cellsOf f.type) x fun l=>
    br (decide (f.offset + l.length ≤ cs.length)) (fillK P fs r (splice cs f.offset l) K) none
  |none=>none
def fillArrK (agg:Bool) (sz:Nat):List (Nat × AVal)→List AVal→(List AVal→Option R)→Option R
 |[],cs,K=>K cs
 |(i,x) :: r,cs,K=>wCells agg sz x fun l=>
   br (decide (i * sz + l.length ≤ cs.length)) (fillArrK agg sz r (splice cs (i * sz) l) K) none
def buildK (P:Program) (t:TypeId) (parts:List (Nat × AVal)) (K:AVal→Option R):Option R:=
 (zeroT P t).bind fun z=>wCells true (P.cellsOf t) z fun cs=>
  match P.underlying t with
  |some (.struct fs)=>br (fs.toList.all fun f=>(P.underlying f.type).isSome) (fillK P fs parts cs fun l=>K (mkAgg l)) none
  |some (.array _ e)=>br (P.underlying e).isSome (fillArrK (aggT P e) (P.cellsOf e) parts cs fun l=>K (mkAgg l)) none
  |_=>none
def zCells:List CK→List AVal→Option (List CVal)
 |[],[]=>some []
 |.sl _ :: ks,.nl :: r=>(zCells ks r).bind fun l=>some (.sl [] :: l)
 |k :: ks,.v c :: r=>br (k.ok c) ((zCells ks r).bind fun l=>some (c :: l)) none
 |_,_=>none
def makeSliceK (D:TypeId→Bool) (P:Program) (t:TypeId) (len cap:AVal) (b:List Blk) (K:AVal→List Blk→Option R):Option R:=
 match P.underlying t with
 |some (.slice e)=>wIdx len fun n=>wIdx cap fun m=>
   br (elemOk P e && decide (P.cellsOf e ≠ 0) && decide (0 ≤ n) && decide (n=m) && decide (n ≤ 1048576))
    ((zeroT P e).bind fun z=>wCells (aggT P e) (P.cellsOf e) z fun zs=>
     br (flatT P e || D e)
      ((zCells (cks P e) zs).bind fun cs=>K (.lref b.length 0) (b ++ [⟨0,.arr ⟨true,false,0⟩ (P.cellsOf e) (List.replicate n.toNat (packC (aggT P e) cs))⟩]))
      ((closeA b z).bind fun c=>br (c.fits (aggT P e) (P.cellsOf e)) (K (.lref b.length 0) (killA z b ++ [⟨0,.arr ⟨false,false,0⟩ (P.cellsOf e) (List.replicate n.toNat c)⟩])) none)) none
 |_=>none
def bytesC (s:List UInt8):List CVal:=s.map fun c=>.int .u8 c.toNat
def bytesOfC:List CVal→Option (List UInt8)
 |[]=>some []
 |c :: r=>(c.asInt .u8).bind fun n=>(bytesOfC r).bind fun l=>some (UInt8.ofNat n.toNat :: l)
def convertK (P:Program) (src dst:TypeId) (x:AVal) (b:List Blk) (K:AVal→List Blk→Option R):Option R:=
 match P.underlying src,P.underlying dst with
 |some (.int k),some (.int k')=>wInt k x fun n=>K (.v (.int k' (k'.wrap n))) b
 |some .string,some .string=>wStr x fun s=>K (.v (.str s)) b
 |some (.slice e),some .string=>
  match P.underlying e with
  |some (.int .u8)=>wSl b x fun xs=>(bytesOfC xs).bind fun s=>K (.v (.str s)) b
  |_=>none
 |some .string,some (.slice e)=>
  match P.underlying e with
  |some (.int .u8)=>wStr x fun s=>br (decide (s.length ≤ lim)) (K (.v (.sl (bytesC s))) b) none
  |_=>none
 |_,_=>none
def bAnd (k:IntKind) (a b:Int):Int:=k.wrap (BitVec.ofInt k.bits a &&& BitVec.ofInt k.bits b).toNat
def bOr (k:IntKind) (a b:Int):Int:=k.wrap (BitVec.ofInt k.bits a ||| BitVec.ofInt k.bits b).toNat
def bXor (k:IntKind) (a b:Int):Int:=k.wrap (BitVec.ofInt k.bits a ^^^ BitVec.ofInt k.bits b).toNat
def bAndNot (k:IntKind) (a b:Int):Int:=k.wrap (BitVec.ofInt k.bits a &&& ~~~BitVec.ofInt k.bits b).toNat
def intOp (op:BinOp) (k:IntKind) (a b:Int):Option CVal:=
 match op with
 |.add=>some (.int k (k.wrap (a + b)))
 |.sub=>some (.int k (k.wrap (a - b)))
 |.mul=>some (.int k (k.wrap (a * b)))
 |.quo=>br (decide (b=0)) none (some (.int k (k.wrap (a.tdiv b))))
 |.rem=>br (decide (b=0)) none (some (.int k (a.tmod b)))
 |.and=>some (.int k (bAnd k a b))
 |.or=>some (.int k (bOr k a b))
 |.xor=>some (.int k (bXor k a b))
 |.andNot=>some (.int k (bAndNot k a b))
 |.eql=>some (.bool (decide (a=b)))
 |.neq=>some (.bool (!decide (a=b)))
 |.lss=>some (.bool (decide (a < b)))
 |.leq=>some (.bool (decide (a ≤ b)))
 |.gtr=>some (.bool (decide (b < a)))
 |.geq=>some (.bool (decide (b ≤ a)))
 |_=>none
def shiftOp (op:BinOp) (k:IntKind) (a b:Int):Option CVal:=
  br (decide (b < 0)) none
    (match op with
     | .shl=>some (.int k (k.wrap (a * 2 ^ min b.toNat k.bits)))
     | .shr=>some (.int k (a.fdiv (2 ^ min b.toNat k.bits)))
     | _=>none)
def isShift:BinOp→Bool
 |.shl=>true
 |.shr=>true
 |_=>false
def bytesLt:List UInt8→List UInt8→Bool
 |_,[]=>false
 |[],_ :: _=>true
 |a :: x,b :: y=>decide (a < b) || (decide (a=b) && bytesLt x y)
def eqCellT (P:Program) (t:TypeId) (x y:CVal):Option Bool:=
 match P.underlying t with
 |some .bool=>x.asBool.bind fun a=>y.asBool.bind fun b=>some (a == b)
 |some (.int k)=>(x.asInt k).bind fun a=>(y.asInt k).bind fun b=>some (decide (a=b))
 |some .string=>x.asStr.bind fun a=>y.asStr.bind fun b=>some (decide (a=b))
 |_=>none
def eqFields (P:Program):List Field→List CVal→List CVal→Option Bool
 |[],_,_=>some true
 |f :: r,a,b=>br (f.name != "_") ((a[f.offset]?).bind fun x=>(b[f.offset]?).bind fun y=>(eqCellT P f.type x y).bind fun e=>(eqFields P r a b).bind fun z=>some (e && z)) none
def wAgg {R:Type} (x:AVal) (K:List CVal→Option R):Option R:=
 match x with
 |.v c=>c.asAgg.bind K
 |_=>none
def binK (P:Program) (op:BinOp) (xt:TypeId) (x y:AVal) (yt:TypeId) (K:AVal→Option R):Option R:=
 match P.underlying xt with
 |some (.int k)=>br (isShift op)
   (wInt k x fun a=>wIdx y fun b=>(shiftOp op k a b).bind fun c=>K (.v c))
   (wInt k x fun a=>wInt k y fun b=>(intOp op k a b).bind fun c=>K (.v c))
 |some .string=>wStr x fun a=>wStr y fun b=>
   match op with
   |.add=>br (decide (a.length + b.length ≤ 1152921504606846976)) (K (.v (.str (a ++ b)))) none
   |.eql=>K (.v (.bool (decide (a=b))))
   |.neq=>K (.v (.bool (!decide (a=b))))
   |.lss=>K (.v (.bool (bytesLt a b)))
   |_=>none
 |some .bool=>wBool x fun a=>wBool y fun b=>
   match op with
   |.eql=>K (.v (.bool (a == b)))
   |.neq=>K (.v (.bool (!(a == b))))
   |_=>none
 |some (.struct fs)=>br (P.stoodInHeld xt || P.eqGuardType P.depth xt) none
   (wAgg x fun a=>wAgg y fun b=>(eqFields P fs.toList a b).bind fun z=>
    match op with
    |.eql=>K (.v (.bool z))
    |.neq=>K (.v (.bool (!z)))
    |_=>none)
 |_=>none
def CVal.asNil:CVal→Option Bool
 |.nili=>some true
 |.iface _ _=>some false
 |_=>none
def eqK (P:Program) (op:BinOp) (xt:TypeId) (x y:AVal) (K:AVal→Option R):Option R:=
 match P.underlying xt with
 |some (.slice _)=>
  match y with
  |.nl=>
   match x with
   |.v (.slq q _)=>
    match op with
    |.eql=>K (.v (.bool q))
    |.neq=>K (.v (.bool (!q)))
    |_=>none
   |_=>none
  |_=>none
 |some (.interface _)=>
  match y with
  |.v .nili=>
   match x with
   |.v c=>c.asNil.bind fun b=>
    match op with
    |.eql=>K (.v (.bool b))
    |.neq=>K (.v (.bool (!b)))
    |_=>none
   |_=>none
  |_=>none
 |_=>none
def unK (P:Program) (op:UnOp) (xt:TypeId) (x:AVal) (K:AVal→Option R):Option R:=
 match op with
 |.not=>wBool x fun b=>K (.v (.bool (!b)))
 |.neg=>(kindT P xt).bind fun k=>wInt k x fun n=>K (.v (.int k (k.wrap (0 - n))))
 |_=>none
def lenK (P:Program) (t:TypeId) (b:List Blk) (x:AVal) (K:AVal→Option R):Option R:=
 match P.underlying t with
 |some .string=>wStr x fun s=>K (.v (.int .i64 s.length))
 |some (.slice _)=>wSl b x fun xs=>K (.v (.int .i64 xs.length))
 |some (.array n _)=>K (.v (.int .i64 n))
 |_=>none
def closeRK (b:List Blk) (agg:Bool) (x:AVal) (K:CVal→List Blk→Option R):Option R:=
 match x with
 |.lptr i 0=>(boxOf b i).bind fun cs=>(closeL b cs).bind fun xs=>br (agg || decide (cs.length=1)) (K (packFp agg xs) (kill (killL cs b) i)) none
 |x=>(closeA b x).bind fun c=>K c (killA x b)
def closeCapsK:List Blk→List Bool→List AVal→(List CVal→List Blk→Option R)→Option R
 |b,_,[],K=>K [] b
 |b,ag :: ags,x :: r,K=>closeRK b ag x fun c b=>closeCapsK b ags r fun cs b=>K (c :: cs) b
 |_,[],_ :: _,_=>none
inductive PM where
 |cls | pass | bor | inp | own | nil
 deriving DecidableEq,Inhabited
inductive AM where
 |back | fix | gone
 deriving DecidableEq,Inhabited
def PM.am:PM→AM
 |.inp=>.fix
 |.own=>.gone
 |_=>.back
structure Hand where
 args:List AVal
 ids:List (Nat × AM)
 b:List Blk
def idxOf (ids:List (Nat × AM)) (i:Nat):Option Nat:=
 match ids with
 |[]=>none
 |j :: r=>br (j.1 == i) (some 0) ((idxOf r i).map (· + 1))
def pushRefs (b:List Blk):List AVal→List (Nat × AM)→(List (Nat × AM)→Option R)→Option R
  | [],ids,K=>K ids
  | .lref i ver :: r,ids,K=>
    br ((arrOf b i ver).isSome && (mdOf b i).deep && !(mdOf b i).fix)
      (match idxOf ids i with
       | some _=>none
       | none=>pushRefs b r (ids ++ [(i,.gone)]) K)
      (pushRefs b r ids K)
  | _ :: r,ids,K=>pushRefs b r ids K
def handPtr (h:Hand) (i:Nat) (K:AVal→Hand→Option R):Option R:=
 match idxOf h.ids i with
 |some j=>K (.lptr j 0) h
 |none=>(boxOf h.b i).bind fun cs=>pushRefs h.b cs (h.ids ++ [(i,.back)]) fun ids=>K (.lptr h.ids.length 0) ⟨h.args,ids,h.b⟩
def handCaps:List AVal→Hand→(List AVal→Hand→Option R)→Option R
 |[],h,K=>K [] h
 |.v c :: r,h,K=>handCaps r h fun l h=>K (.v c :: l) h
 |.lptr i 0 :: r,h,K=>handPtr h i fun a h=>handCaps r h fun l h=>K (a :: l) h
 |_ :: _,_,_=>none
def handRef (am:AM) (i ver:Nat) (h:Hand) (K:AVal→Hand→Option R):Option R:=
 (arrOf h.b i ver).bind fun _=>
  match idxOf h.ids i with
  |some _=>none
  |none=>K (.lref h.ids.length 0) ⟨h.args,h.ids ++ [(i,am)],h.b⟩
def handCells (am:AM):List AVal→Hand→(List AVal→Hand→Option R)→Option R
 |[],h,K=>K [] h
 |.v c :: r,h,K=>handCells am r h fun l h=>K (.v c :: l) h
 |.lref i ver :: r,h,K=>handRef am i ver h fun a h=>handCells am r h fun l h=>K (a :: l) h
 |_ :: _,_,_=>none
def handA (m:PM) (x:AVal) (h:Hand) (K:AVal→Hand→Option R):Option R:=
 match x with
 |.v c=>K (.v c) h
 |.nl=>(match m with | .nil=>K .nl h | _=>K (.v (.sl [])) h)
 |.lref i ver=>
  match m with
  |.bor=>(arrOf h.b i ver).bind fun xs=>K (.v (.sl xs)) h
  |.cls=>(arrOf h.b i ver).bind fun xs=>K (.v (.sl xs)) ⟨h.args,h.ids,kill h.b i⟩
  |m=>handRef m.am i ver h K
 |.lsub i ver sv idx off=>
  match m with
  |.bor=>(subOf h.b i ver sv idx off).bind fun xs=>K (.v (.sl xs)) h
  |_=>none
 |.lptr i 0=>handPtr h i K
 |.func g caps=>handCaps caps h fun l h=>K (.func g l) h
 |.agg cs=>
  match m with
  |.bor=>(closeL h.b cs).bind fun l=>K (.v (.agg l)) h
  |.inp=>handCells .fix cs h fun l h=>K (.agg l) h
  |.own=>handCells .gone cs h fun l h=>K (.agg l) h
  |_=>(closeL h.b cs).bind fun l=>K (.v (.agg l)) ⟨h.args,h.ids,killL cs h.b⟩
 |_=>none
theorem handA_nl {m:PM} {h:Hand} {K:AVal→Hand→Option R} (hm:m ≠ .nil):handA m .nl h K=K (.v (.sl [])) h:=by cases m<;>first | rfl | exact (hm rfl).elim
def handAll (pm:Nat→PM):Nat→List AVal→Hand→(Hand→Option R)→Option R
 |_,[],h,K=>K h
 |j,x :: r,h,K=>handA (pm j) x h fun a h=>handAll pm (j + 1) r ⟨h.args ++ [a],h.ids,h.b⟩ K
def boxCells (ids:List (Nat × AM)):List AVal→List Blk→(List AVal→List Blk→Option R)→Option R
 |[],b,K=>K [] b
 |.lref i ver :: r,b,K=>
  match idxOf ids i with
  |some j=>br ((arrOf b i ver).isSome) (boxCells ids r b fun l b=>K (.lref j 0 :: l) b) none
  |none=>(arrOf b i ver).bind fun xs=>boxCells ids r (kill b i) fun l b=>K (.v (.sl xs) :: l) b
 |x :: r,b,K=>(closeA b x).bind fun c=>boxCells ids r (killA x b) fun l b=>K (.v c :: l) b
def handBlks (ids0:List (Nat × AM)):List (Nat × AM)→List Blk→(List PB→List Blk→Option R)→Option R
 |[],b,K=>K [] b
 |i :: r,b,K=>
  match b[i.1]? with
  |some ⟨_,.arr m sz xs⟩=>br (m.fix && decide (i.2 ≠ .fix)) none (handBlks ids0 r b fun l b=>K (.arr ⟨m.deep,decide (i.2=.fix),0⟩ (decide (i.2=.gone)) sz xs :: l) b)
  |some ⟨_,.box cs⟩=>boxCells ids0 cs b fun xs b=>handBlks ids0 r b fun l b=>K (.box xs :: l) b
  |_=>none
def aliveAt (b:List Blk) (i:Nat):Bool:=
 match b[i]? with
 |some ⟨_,.arr _ _ _⟩=>true
 |some ⟨_,.box _⟩=>true
 |_=>false
inductive PSh where
 |arr (m:Md) (gone:Bool) (sz:Nat)
 |box (own:List (Option Nat))
 deriving DecidableEq,Inhabited
def ownSz (pbs:List PB):AVal→Option Nat
 |.lref j _=>
  match pbs[j]? with
  |some (.arr _ _ sz _)=>some sz
  |_=>none
 |_=>none
def PB.sh (pbs:List PB):PB→PSh
 |.arr m g sz _=>.arr m g sz
 |.box cs=>.box (cs.map (ownSz pbs))
def backCells:List (Option Nat)→List CVal→List Blk→(List AVal→List Blk→Option R)→Option R
 |[],[],b,K=>K [] b
 |some sz :: o,c :: l,b,K=>c.asSl.bind fun ys=>backCells o l (b ++ [⟨0,.arr ⟨true,false,0⟩ sz ys⟩]) fun cs b'=>K (.lref b.length 0 :: cs) b'
 |none :: o,c :: l,b,K=>backCells o l b fun cs b=>K (.v c :: cs) b
 |_,_,_,_=>none
def backBlks:List (Nat × AM)→List PSh→List (List CVal)→List Blk→(List Blk→Option R)→Option R
 |[],[],_,b,K=>K b
 |i :: r,.arr _ _ _ :: ps,l :: ls,b,K=>
  match b[i.1]? with
  |some ⟨ver,.arr m sz _⟩=>
   match i.2 with
   |.back=>backBlks r ps ls (b.set i.1 ⟨ver + 1,.arr ⟨m.deep,m.fix,0⟩ sz l⟩) K
   |.fix=>backBlks r ps ls (b.set i.1 ⟨ver,.arr ⟨m.deep,m.fix,m.sv + 1⟩ sz l⟩) K
   |.gone=>backBlks r ps ls (b.set i.1 ⟨ver + 1,.dead⟩) K
  |_=>none
 |i :: r,.box o :: ps,l :: ls,b,K=>
  match b[i.1]? with
  |some ⟨ver,.box _⟩=>explodeL l 0 o.length fun l=>backCells o l b fun cs b=>backBlks r ps ls (b.set i.1 ⟨ver,.box cs⟩) K
  |_=>none
 |_,_,_,_,_=>none
def scalar:CVal→Bool
 |.int _ _=>true
 |.bool _=>true
 |.str _=>true
 |_=>false
structure Env where
 P:Program
 pm:FuncId→Nat→PM
 rm:FuncId→Option Nat
 ow:FuncId→Option (List TypeId)
 cl:Oper→Bool
 deep:Oper→TypeId→Bool
 dp:FuncId→Nat→Bool:=fun _ _=>true
 frz:FuncId→Option (List Bool)
 frzB:Oper→Option Bool
 ext:FuncId→Option (List AVal→List PB→Option (CVal × List (List CVal)))
 prim:FuncId→Option (List AVal→List PB→Option (CVal × List (List CVal)))
 fs:Oper→Bool:=fun _=>false
 thw:Oper→Bool:=fun _=>false
def Env.at (E:Env) (o:Oper):Env:={ E with ow:=fun g=>cond (E.cl o) none (E.ow g),rm:=fun g=>cond (E.cl o && (E.ow g).isSome) none (E.rm g) }
def isLent:AVal→Bool
 |.lref _ _=>true
 |.lsub _ _ _ _ _=>true
 |.agg _=>true
 |_=>false
def borrows (E:Env) (g:FuncId):Nat→List AVal→Bool
 |_,[]=>false
 |j,x :: r=>(decide (E.pm g j=.bor) && isLent x) || borrows E g (j + 1) r
def tyParam (P:Program) (g:FuncId) (j:Nat):Option TypeId:=(P.funcs[g]?).bind fun fn=>fn.params[j]?
def promoCells (dp:Bool) (P:Program):List CK→List AVal→List Blk→(List AVal→List Blk→Option R)→Option R
 |.sl e :: ks,.nl :: r,b,K=>promoCells dp P ks r (b ++ [⟨0,.arr ⟨dp,false,0⟩ (P.cellsOf e) []⟩]) fun l b'=>K (.lref b.length 0 :: l) b'
 |_ :: ks,x :: r,b,K=>promoCells dp P ks r b fun l b=>K (x :: l) b
 |[],r,b,K=>K r b
 |_ :: _,[],b,K=>K [] b
def PM.prom:PM→Bool
 |.pass=>true
 |.inp=>true
 |.own=>true
 |_=>false
def PM.gives (m:PM):Bool:=m.prom || decide (m=.nil)
theorem PM.of_prom {m:PM} (h:m.prom=true):m.gives=true:=by cases m<;>first | rfl | cases h
theorem PM.prom_of {m:PM} (h:m.gives=false):m.prom=false:=by cases m<;>first | rfl | cases h
def promo (E:Env) (g:FuncId):Nat→List AVal→List Blk→(List AVal→List Blk→Option R)→Option R
 |_,[],b,K=>K [] b
 |j,.nl :: r,b,K=>
  br (E.pm g j).prom
   ((tyParam E.P g j).bind fun t=>promoCells (E.dp g j) E.P (cks E.P t) [.nl] b fun l b=>promo E g (j + 1) r b fun l' b=>K (l ++ l') b)
   (promo E g (j + 1) r b fun l b=>K (.nl :: l) b)
 |j,.agg cs :: r,b,K=>
  br (E.pm g j).prom
   ((tyParam E.P g j).bind fun t=>promoCells (E.dp g j) E.P (cks E.P t) cs b fun l b=>promo E g (j + 1) r b fun l' b=>K (.agg l :: l') b)
   (promo E g (j + 1) r b fun l b=>K (.agg cs :: l) b)
 |j,x :: r,b,K=>promo E g (j + 1) r b fun l b=>K (x :: l) b
def focusK (agg:Bool) (n:Nat) (b:List Blk) (i ver sv idx off:Nat) (K:Nat→List Blk→Option R):Option R:=
 (arrOf b i ver).bind fun xs=>br ((mdOf b i).deep && (mdOf b i).sv == sv) ((xs[idx]?).bind fun c=>(c.cell off).bind fun d=>d.asSl.bind fun ys=>
  br (ys.all (CVal.fits agg n)) (K b.length (b.set i ⟨ver,.hole (mdOf b i) (szOf b i) xs c idx off b.length⟩ ++ [⟨0,.arr ⟨true,true,0⟩ n ys⟩])) none) none
def unfocusK (b:List Blk) (i k:Nat) (K:List Blk→Option R):Option R:=
 match b[i]?,b[k]? with
 |some ⟨ver,.hole m sz xs c idx off k'⟩,some ⟨_,.arr m2 _ ys⟩=>br (k' == k && m2.deep && m2.fix)
   (K (kill (b.set i ⟨ver,.arr m sz (xs.set idx (c.putCell off (.sl ys)))⟩) k)) none
 |_,_=>none
def focusArgs (E:Env) (g:FuncId):Nat→List AVal→List Blk→(List AVal→List (Nat × Nat)→List Blk→Option R)→Option R
 |_,[],b,K=>K [] [] b
 |j,.lsub i ver sv idx off :: r,b,K=>
  br (decide (E.pm g j=.inp))
   ((tyParam E.P g j).bind fun t=>
    match E.P.underlying t with
    |some (.slice e)=>focusK (aggT E.P e) (E.P.cellsOf e) b i ver sv idx off fun k b=>focusArgs E g (j + 1) r b fun l fs b=>K (.lref k 0 :: l) ((i,k) :: fs) b
    |_=>none)
   (focusArgs E g (j + 1) r b fun l fs b=>K (.lsub i ver sv idx off :: l) fs b)
 |j,x :: r,b,K=>focusArgs E g (j + 1) r b fun l fs b=>K (x :: l) fs b
def unfocusAll:List (Nat × Nat)→List Blk→(List Blk→Option R)→Option R
 |[],b,K=>K b
 |p :: r,b,K=>unfocusAll r b fun b=>unfocusK b p.1 p.2 K
def apId:FuncId:=1000000007
def backRK (E:Env) (g:FuncId) (ids:List (Nat × AM)) (c:CVal) (b:List Blk) (K:AVal→List Blk→Option R):Option R:=
 match E.ow g with
 |some ts=>openRK E.P ts c b K
 |none=>
  match E.rm g with
  |none=>K (.v c) b
  |some j=>
   match ids[j]? with
   |some i=>K (.lref i.1 (verOf b i.1)) b
   |none=>none
def plainR (P:Program) (ts:List TypeId) (c:CVal):Bool:=cond (ts.all fun t=>(ptrE P t).isNone) c.plain false
def callK (E:Env) (C:CallT) (g:FuncId) (args:List AVal) (b:List Blk) (K:AVal→List Blk→Option R):Option R:=
 br (g == apId) none <| promo E g 0 args b fun args b=>focusArgs E g 0 args b fun args fs b=>
  handAll (E.pm g) 0 args ⟨[],[],b⟩ fun h=>handBlks h.ids h.ids h.b fun pbs b=>
   br (h.ids.all fun i=>aliveAt b i.1)
    ((match E.prim g with | some p=>p h.args pbs | none=>C g h.args pbs).bind fun r=>
     br (borrows E g 0 args && (!h.ids.isEmpty || !(match E.ow g with | some ts=>plainR E.P ts r.1 | none=>scalar r.1))) none
      (explodeL r.2 0 h.ids.length fun ls=>backBlks h.ids (pbs.map (PB.sh pbs)) ls b fun b=>unfocusAll fs b fun b=>backRK E g h.ids r.1 b K)) none
def apF {R:Type} (C:CallT) (c:CVal) (cs:List CVal) (K:CVal→Option R):Option R:=(C apId (.v c :: cs.map .v) []).bind fun r=>K r.1
def callV (E:Env) (C:CallT) (c:CVal) (args:List AVal) (b:List Blk) (K:AVal→List Blk→Option R):Option R:=
 match allV args with
 |some cs=>apF C c cs fun r=>K (.v r) b
 |none=>
  match c with
  |.func g caps=>callK E C g (args ++ caps.map .v) b K
  |_=>none
def mapParts (t:List AVal) (ps:Array (Nat × Operand)):List (Nat × AVal):=ps.toList.map fun p=>(p.1,evalA t p.2)
def allClosed:List AVal→Option (List CVal):=allV
def opK (E:Env) (C:CallT) (o:Oper) (t:List AVal) (b:List Blk) (K:AVal→List Blk→Option R):Option R:=
  match o.op with
  | .move x=>K (evalA t x) b
  | .assign x=>K (evalA t x) b
  | .pick c x y=>wBool (evalA t c) fun g=>
      match evalA t x,evalA t y with
      | .v p,.v r=>K (.v (cond g p r)) b
      | p,r=>br g (K p b) (K r b)
  | .alloc e=>(zeroT E.P e).bind fun z=>wCells (aggT E.P e) (E.P.cellsOf e) z fun cs=>K (.lptr b.length 0) (b ++ [⟨0,.box cs⟩])
  | .box e x=>wCells (aggT E.P e) (E.P.cellsOf e) (evalA t x) fun cs=>
      match E.frzB o with
      | some ag=>closeRK (b ++ [⟨0,.box cs⟩]) ag (.lptr b.length 0) fun c b=>K (.v c) b
      | none=>K (.lptr b.length 0) (b ++ [⟨0,.box cs⟩])
  | .build ty ps=>buildK E.P ty (mapParts t ps) fun x=>K x b
  | .buildSlice ty n ps=>buildSliceK (E.deep o) E.P ty n (mapParts t ps) b K
  | .load ty x=>loadK E.P ty b (evalA t x) fun v=>K v b
  | .store ty x y=>storeK E.P ty (cond (E.thw o) (thawA (evalA t y) b) b) (evalA t x) (evalA t y) fun b=>K .un b
  | .nilCheck x=>
    match evalA t x with
    | .lptr i off=>K (.lptr i off) b
    | .lel i ver idx off=>K (.lel i ver idx off) b
    | .lel2 i ver sv idx off idx2=>K (.lel2 i ver sv idx off idx2) b
    | .v c=>c.asFp.bind fun p=>K (.v (.fp p.1 p.2)) b
    | _=>none
  | .binOp op xt x y yt=>
    match E.P.underlying xt with
    | some (.interface _)=>
      match y with
      | .const _=>eqK E.P op xt (evalA t x) (evalA t y) fun v=>K v b
      | _=>none
    | some (.slice _)=>
      match y with
      | .const _=>eqK E.P op xt (evalA t x) (evalA t y) fun v=>K v b
      | _=>none
    | _=>binK E.P op xt (evalA t x) (evalA t y) yt fun v=>K v b
  | .unOp op xt x=>unK E.P op xt (evalA t x) fun v=>K v b
  | .convert s d x=>convertK E.P s d (evalA t x) b K
  | .makeFunc (.func g) first caps=>
    br (first.size == 0)
      (match E.frz g with
       | some ags=>closeCapsK b ags (caps.toList.map (evalA t)) fun cs b=>K (.v (.func g cs)) b
       | none=>
         match allClosed (caps.toList.map (evalA t)) with
         | some cs=>K (.v (.func g cs)) b
         | none=>K (.func g (caps.toList.map (evalA t))) b) none
  | .makeSlice ty n m=>makeSliceK (E.deep o) E.P ty (evalA t n) (evalA t m) b K
  | .slice ty x lo hi mx=>sliceK E.P ty b (evalA t x) (lo.map (evalA t)) (hi.map (evalA t)) (mx.map (evalA t)) K
  | .fieldAddr ty x f=>fieldK E.P ty (evalA t x) f fun v=>K v b
  | .indexAddr ty x ix=>indexAddrK E.P ty b (evalA t x) (evalA t ix) fun v=>K v b
  | .index ty x ix=>indexK E.P ty (evalA t x) (evalA t ix) fun v=>K v b
  | .extract x i=>
    match evalA t x with
    | .v c=>c.asTup.bind fun cs=>(cs[i]?).bind fun d=>K (.v d) b
    | .tup cs=>(cs[i]?).bind fun d=>K d b
    | _=>none
  | .call c=>
    match c.callee with
    | .value (.func g)=>callK (E.at o) C g (c.args.toList.map (evalA t)) b K
    | .value f=>
      match evalA t f with
      | .v d=>callV (E.at o) C d (c.args.toList.map (evalA t)) b K
      | .func g caps=>callK (E.at o) C g (c.args.toList.map (evalA t) ++ caps) b K
      | _=>none
    | .builtin .len=>
      match c.args.toList,c.argTypes.toList with
      | [x],ty :: _=>lenK E.P ty b (evalA t x) fun v=>K v b
      | _,_=>none
    | .builtin .append=>
      match c.args.toList,c.argTypes.toList with
      | [x,y],[ty,ty2]=>appendK (E.deep o) (E.fs o) E.P b ty ty2 (evalA t x) (evalA t y) K
      | _,_=>none
    | .builtin .clear=>
      match c.args.toList,c.argTypes.toList with
      | [x],ty :: _=>clearK E.P ty b (evalA t x) fun b=>K .un b
      | _,_=>none
    | .builtin .max=>
      match c.args.toList with
      | [x,y]=>(kindT E.P o.type).bind fun k=>wInt k (evalA t x) fun m=>wInt k (evalA t y) fun n=>K (.v (.int k (cond (decide (m < n)) n m))) b
      | _=>none
    | .builtin .min=>
      match c.args.toList with
      | [x,y]=>(kindT E.P o.type).bind fun k=>wInt k (evalA t x) fun m=>wInt k (evalA t y) fun n=>K (.v (.int k (cond (decide (n < m)) n m))) b
      | _=>none
    | _=>none
  | _=>none
end
def closedV:AVal→Bool
 |.v _=>true
 |.nl=>true
 |_=>false
def pureArgs (E:Env) (g:FuncId):Nat→List AVal→Bool
 |_,[]=>(E.ow g).isNone
 |j,.v _ :: r=>pureArgs E g (j + 1) r
 |j,.nl :: r=>!(E.pm g j).gives && pureArgs E g (j + 1) r
 |j,.lref _ _ :: r=>decide (E.pm g j=.bor) && pureArgs E g (j + 1) r
 |j,.lsub _ _ _ _ _ :: r=>decide (E.pm g j=.bor) && pureArgs E g (j + 1) r
 |j,.agg cs :: r=>(decide (E.pm g j=.bor) || (cs.all closedV && !(E.pm g j).gives)) && pureArgs E g (j + 1) r
 |_,_=>false
def keepsF (E:Env) (f:Fn):Bool:=
 match f with
 |.func g=>(E.frz g).isNone
 |_=>true
def pureV (E:Env) (c:CVal) (args:List AVal):Bool:=
 match allV args with
 |some _=>true
 |none=>
  match c with
  |.func g caps=>pureArgs E g 0 (args ++ caps.map .v)
  |_=>false
def roOp (E:Env) (o:Oper) (t:List AVal):Bool:=
 match o.op with
 |.move _=>true
 |.assign _=>true
 |.pick _ _ _=>true
 |.build _ _=>true
 |.load _ _=>true
 |.nilCheck _=>true
 |.binOp _ _ _ _ _=>true
 |.unOp _ _ _=>true
 |.convert _ _ _=>true
 |.makeFunc f _ _=>keepsF E f
 |.fieldAddr _ _ _=>true
 |.indexAddr _ _ _=>true
 |.index _ _ _=>true
 |.extract _ _=>true
 |.slice _ x _ _ _=>closedV (evalA t x)
 |.call c=>
  match c.callee with
  |.value (.func g)=>pureArgs (E.at o) g 0 (c.args.toList.map (evalA t))
  |.value f=>
   match evalA t f with
   |.v d=>pureV (E.at o) d (c.args.toList.map (evalA t))
   |.func g caps=>pureArgs (E.at o) g 0 (c.args.toList.map (evalA t) ++ caps)
   |_=>false
  |.builtin .len=>true
  |.builtin .max=>true
  |.builtin .min=>true
  |_=>false
 |_=>false
def blindArgs (E:Env) (g:FuncId):Nat→List AVal→Bool
 |_,[]=>(E.ow g).isNone
 |j,.v _ :: r=>blindArgs E g (j + 1) r
 |j,.nl :: r=>!(E.pm g j).gives && blindArgs E g (j + 1) r
 |j,.agg cs :: r=>cs.all closedV && !(E.pm g j).gives && blindArgs E g (j + 1) r
 |_,_=>false
def blindV (E:Env) (c:CVal) (args:List AVal):Bool:=
 match allV args with
 |some _=>true
 |none=>
  match c with
  |.func g caps=>blindArgs E g 0 (args ++ caps.map .v)
  |_=>false
def placeV:AVal→Bool
 |.v _=>true
 |.lptr _ _=>true
 |_=>false
def blindOp (E:Env) (o:Oper) (t:List AVal):Bool:=
 match o.op with
 |.move _=>true
 |.assign _=>true
 |.pick _ _ _=>true
 |.build _ _=>true
 |.load _ x=>(match evalA t x with | .v _=>true | _=>false)
 |.nilCheck _=>true
 |.binOp _ _ _ _ _=>true
 |.unOp _ _ _=>true
 |.convert _ _ x=>closedV (evalA t x)
 |.makeFunc f _ _=>keepsF E f
 |.fieldAddr _ _ _=>true
 |.indexAddr _ x _=>placeV (evalA t x)
 |.index _ _ _=>true
 |.extract _ _=>true
 |.slice _ x _ _ _=>closedV (evalA t x)
 |.call c=>
  match c.callee with
  |.value (.func g)=>blindArgs (E.at o) g 0 (c.args.toList.map (evalA t))
  |.value f=>
   match evalA t f with
   |.v d=>blindV (E.at o) d (c.args.toList.map (evalA t))
   |.func g caps=>blindArgs (E.at o) g 0 (c.args.toList.map (evalA t) ++ caps)
   |_=>false
  |.builtin .len=>
   match c.args.toList with
   |[x]=>closedV (evalA t x)
   |_=>false
  |.builtin .max=>true
  |.builtin .min=>true
  |_=>false
 |_=>false
structure Rg where
 n:Nat
 ex:List Nat
def Rg.old (S:Rg) (i:Nat):Bool:=decide (i < S.n) && !(S.ex.contains i)
theorem Rg.old_lt {S:Rg} {i:Nat} (h:S.old i=true):i < S.n:=by
 simp only [Rg.old,Bool.and_eq_true,decide_eq_true_eq] at h
 exact h.1
theorem Rg.ne {S:Rg} {i k:Nat} (h:S.old i=false) (hk:S.old k=true):i ≠ k:=by
 rintro rfl
 rw [h] at hk;cases hk
theorem Rg.new {S:Rg} {i:Nat} (h:S.n ≤ i):S.old i=false:=by
 cases e:S.old i with
 |false=>rfl
 |true=>have:=Rg.old_lt e;omega
mutual
def inOld (n:Rg):AVal→Bool
 |.lptr i _=>n.old i
 |.lel i _ _ _=>n.old i
 |.lref i _=>n.old i
 |.ltail i _ _=>n.old i
 |.lsub i _ _ _ _=>n.old i
 |.lel2 i _ _ _ _ _=>n.old i
 |.agg cs=>inOldL n cs
 |.func _ cs=>inOldL n cs
 |.tup cs=>inOldL n cs
 |.v _=>true
 |.nl=>true
 |.un=>true
def inOldL (n:Rg):List AVal→Bool
 |[]=>true
 |x :: r=>inOld n x && inOldL n r
end
mutual
def inNew (n:Rg):AVal→Bool
 |.lref i _=>!(n.old i)
 |.ltail i _ _=>!(n.old i)
 |.agg cs=>inNewL n cs
 |.func _ cs=>inNewL n cs
 |.tup cs=>inNewL n cs
 |_=>true
def inNewL (n:Rg):List AVal→Bool
 |[]=>true
 |x :: r=>inNew n x && inNewL n r
end
def pushArgs (E:Env) (g:FuncId):Nat→List AVal→Bool
 |_,[]=>true
 |j,.v _ :: r=>pushArgs E g (j + 1) r
 |j,.nl :: r=>!(E.pm g j).gives && pushArgs E g (j + 1) r
 |j,.agg cs :: r=>cs.all closedV && !(E.pm g j).gives && pushArgs E g (j + 1) r
 |_,_=>false
def push1 (E:Env) (n:Rg) (g:FuncId):List AVal→Bool
 |[.lref i _]=>!(n.old i) && decide (E.pm g 0=.pass)
 |_=>false
def pushB (E:Env) (g:FuncId):Nat→List AVal→Bool
 |_,[]=>true
 |j,.v _ :: r=>pushB E g (j + 1) r
 |j,.lref _ _ :: r=>decide (E.pm g j=.bor) && pushB E g (j + 1) r
 |_,_=>false
def pushApp (n:Rg):List AVal→Bool
 |[.nl,y]=>closedV y || inNew n y
 |[.lref i _,y]=>!(n.old i) && (closedV y || inNew n y)
 |_=>false
def flatBox (b:List Blk) (i:Nat):Bool:=
 match b[i]? with
 |some ⟨_,.box cs⟩=>cs.all closedV
 |_=>false
def pushX (E:Env) (n:Rg) (b:List Blk) (g:FuncId):Nat→List AVal→Bool
 |_,[]=>true
 |j,.v _ :: r=>pushX E n b g (j + 1) r
 |j,.nl :: r=>!(E.pm g j).gives && pushX E n b g (j + 1) r
 |j,.agg cs :: r=>cs.all closedV && !(E.pm g j).gives && pushX E n b g (j + 1) r
 |j,.lref i _ :: r=>!(n.old i) && decide (E.pm g j=.cls) && pushX E n b g (j + 1) r
 |j,.lptr i 0 :: r=>!(n.old i) && flatBox b i && pushX E n b g (j + 1) r
 |_,_=>false
def pushOp (E:Env) (n:Rg) (o:Oper) (t:List AVal) (b:List Blk):Bool:=
 match o.op with
 |.buildSlice _ _ ps=>inNewL n ((mapParts t ps).map (·.2))
 |.makeSlice _ _ _=>true
 |.call c=>
  match c.callee with
  |.value (.func g)=>pushArgs (E.at o) g 0 (c.args.toList.map (evalA t)) || (push1 (E.at o) n g (c.args.toList.map (evalA t)) || (pushB (E.at o) g 0 (c.args.toList.map (evalA t)) || pushX (E.at o) n b g 0 (c.args.toList.map (evalA t))))
  |.builtin .append=>pushApp n (c.args.toList.map (evalA t))
  |_=>false
 |_=>false
inductive Cls where
 |blind | old | ro | push | rw
 deriving DecidableEq,Inhabited
def clsOf (E:Env) (n:Rg) (o:Oper) (t:List AVal) (b:List Blk):Cls:=
 cond (blindOp E o t) .blind (cond (roOp E o t) (cond (inOldL n (o.op.operands.toList.map (evalA t))) .old .ro) (cond (pushOp E n o t b) .push .rw))
def Cls.ok:Cls→Cls→Bool
 |.blind,_=>true
 |_,.blind=>true
 |.ro,.ro=>true
 |.ro,.old=>true
 |.old,.ro=>true
 |.old,.old=>true
 |.old,.push=>true
 |.push,.old=>true
 |_,_=>false
end Go.Proofs.Ytognghbhdalckaa.Abs
namespace Go.Proofs.Ytognghbhdalckaa.Abs
open Go
inductive Kd where
 |int (k:IntKind) | bool | str | sl | cv | lp (j:Nat) | lr (j:Nat) | fn (g:Nat)
 |clo (g:Nat) (l:List (Option Nat))
 |le (j off:Nat) | ls (j off:Nat)
 deriving DecidableEq,Inhabited
inductive BK where
 |arr (deep fix:Bool) (sz:Nat) | box (ks:List Kd) | gone
 deriving DecidableEq,Inhabited
structure LK where
 slots:List (Nat × Kd)
 blks:List BK
 deriving DecidableEq,Inhabited
@[reducible] def CapsT:List (Option Nat)→Type
 |[]=>Unit
 |some _ :: r=>CapsT r
 |none :: r=>CVal × CapsT r
@[reducible] def Kd.T:Kd→Type
 |.int _=>Int
 |.bool=>Bool
 |.str=>List UInt8
 |.sl=>List CVal
 |.cv=>CVal
 |.lp _=>Unit
 |.lr _=>Unit
 |.fn _=>Unit
 |.clo _ l=>CapsT l
 |.le _ _=>Nat
 |.ls _ _=>Nat
@[reducible] def KsT:List Kd→Type
 |[]=>Unit
 |k :: r=>k.T × KsT r
@[reducible] def SsT:List (Nat × Kd)→Type
 |[]=>Unit
 |k :: r=>k.2.T × SsT r
@[reducible] def BK.T:BK→Type
 |.arr _ _ _=>List CVal
 |.box ks=>KsT ks
 |.gone=>Unit
@[reducible] def BsT:List BK→Type
 |[]=>Unit
 |k :: r=>k.T × BsT r
@[reducible] def LK.T (k:LK):Type:=SsT k.slots × BsT k.blks
abbrev Bind:=List (Nat × Option Nat)
def Bind.find (m:Bind) (j:Nat):Option (Option Nat):=
 match m with
 |[]=>none
 |(j',x) :: r=>br (j' == j) (some x) (Bind.find r j)
def Bind.holds (m:Bind) (i:Nat):Bool:=
 match m with
 |[]=>false
 |(_,some i') :: r=>(i' == i) || Bind.holds r i
 |(_,none) :: r=>Bind.holds r i
section
variable {R:Type}
def packCaps:(l:List (Option Nat))→List AVal→(m:Bind)→(K:CapsT l→Bind→Option R)→Option R
  | [],[],m,K=>K () m
  | some j :: r,.lptr i 0 :: cs,m,K=>
    (match m.find j with
     | none=>br (m.holds i) none (packCaps r cs ((j,some i) :: m) K)
     | some (some i')=>br (i' == i) (packCaps r cs m K) none
     | some none=>none)
  | none :: r,.v c :: cs,m,K=>packCaps r cs m fun y m=>K (c,y) m
  | _,_,_,_=>none
def packV (b:List Blk) (kd:Kd) (x:AVal) (m:Bind) (K:kd.T→Bind→Option R):Option R:=
  match kd,K with
  | .int k,K=>wInt k x fun n=>K n m
  | .bool,K=>wBool x fun p=>K p m
  | .str,K=>wStr x fun s=>K s m
  | .sl,K=>(match x with | .v c=>c.asSl.bind fun s=>K s m | .nl=>K [] m | _=>none)
  | .cv,K=>(match x with | .v c=>K c m | _=>none)
  | .fn g,K=>(match x with | .v (.func g' [])=>br (decide (g'=g)) (K () m) none | _=>none)
  | .clo g l,K=>(match x with | .func g' cs=>br (decide (g'=g)) (packCaps l cs m K) none | _=>none)
  | .lp j,K=>
    (match x with
     | .lptr i 0=>
       (match m.find j with
        | none=>br (m.holds i) none (K () ((j,some i) :: m))
        | some (some i')=>br (i' == i) (K () m) none
        | some none=>none)
     | _=>none)
  | .lr j,K=>
    (match x with
     | .lref i ver=>(arrOf b i ver).bind fun _=>
       (match m.find j with
        | none=>br (m.holds i) none (K () ((j,some i) :: m))
        | some (some i')=>br (i' == i) (K () m) none
        | some none=>none)
     | .nl=>
       (match m.find j with
        | none=>K () ((j,none) :: m)
        | _=>none)
     | _=>none)
  | .le j o,K=>
    (match x with
     | .lel i ver idx off=>br (off == o) ((arrOf b i ver).bind fun _=>
       (match m.find j with
        | none=>br (m.holds i) none (K idx ((j,some i) :: m))
        | some (some i')=>br (i' == i) (K idx m) none
        | some none=>none)) none
     | _=>none)
  | .ls j o,K=>
    (match x with
     | .lsub i ver sv idx off=>br (off == o) ((subOf b i ver sv idx off).bind fun _=>
       (match m.find j with
        | none=>br (m.holds i) none (K idx ((j,some i) :: m))
        | some (some i')=>br (i' == i) (K idx m) none
        | some none=>none)) none
     | _=>none)
def packSlots (t:List AVal) (b:List Blk):(l:List (Nat × Kd))→(m:Bind)→(K:SsT l→Bind→Option R)→Option R
 |[],m,K=>K () m
 |(i,kd) :: r,m,K=>packV b kd (t.getD i .un) m fun x m=>packSlots t b r m fun xs m=>K (x,xs) m
def packCells (b:List Blk):(l:List Kd)→(cs:List AVal)→(m:Bind)→(K:KsT l→Bind→Option R)→Option R
 |[],[],m,K=>K () m
 |kd :: r,x :: cs,m,K=>packV b kd x m fun x m=>packCells b r cs m fun xs m=>K (x,xs) m
 |_,_,_,_=>none
def packBlks (b:List Blk):(l:List BK)→(j:Nat)→(m:Bind)→(K:BsT l→Bind→Option R)→Option R
 |[],_,m,K=>K () m
 |.arr d f sz :: r,j,m,K=>
  match m.find j with
  |some (some i)=>(arrOf b i (verOf b i)).bind fun xs=>br (szOf b i == sz && (mdOf b i).deep == d && (mdOf b i).fix == f) (packBlks b r (j + 1) m fun ys m=>K (xs,ys) m) none
  |some none=>br f none (packBlks b r (j + 1) m fun ys m=>K ([],ys) m)
  |none=>none
 |.box ks :: r,j,m,K=>
  match m.find j with
  |some (some i)=>(boxOf b i).bind fun cs=>packCells b ks cs m fun x m=>packBlks b r (j + 1) m fun ys m=>K (x,ys) m
  |_=>none
 |.gone :: r,j,m,K=>
  match m.find j with
  |some none=>none
  |_=>packBlks b r (j + 1) m fun ys m=>K ((),ys) m
def skipG (b:List Blk) (l:List BK) (j:Nat):Bool:=
 match l[j]? with
 |some .gone=>
  match b[j]? with
  |some ⟨_,.arr m _ _⟩=>!m.fix
  |_=>false
 |_=>false
def bind0 (b:List Blk) (l:List BK) (np:Nat):Bind:=((List.range np).filter fun j=>!skipG b l j).map fun j=>(j,some j)
def packK (np:Nat) (ks:LK) (s:St) (K:ks.T→Option R):Option R:=
 br (decide (np ≤ ks.blks.length))
  (packSlots s.t s.b ks.slots (bind0 s.b ks.blks np) fun x m=>packBlks s.b ks.blks 0 m fun y m=>br (m.all fun p=>decide (p.1 < ks.blks.length)) (K (x,y)) none) none
end
def unCaps:(l:List (Option Nat))→CapsT l→List AVal
 |[],_=>[]
 |some j :: r,y=>.lptr j 0 :: unCaps r y
 |none :: r,y=>.v y.1 :: unCaps r y.2
def unV:(kd:Kd)→kd.T→AVal
 |.int k,n=>.v (.int k n)
 |.bool,p=>.v (.bool p)
 |.str,s=>.v (.str s)
 |.sl,s=>.v (.sl s)
 |.cv,c=>.v c
 |.lp j,_=>.lptr j 0
 |.lr j,_=>.lref j 0
 |.fn g,_=>.v (.func g [])
 |.clo g l,y=>.func g (unCaps l y)
 |.le j o,n=>.lel j 0 n o
 |.ls j o,n=>.lsub j 0 0 n o
def unSlots:(l:List (Nat × Kd))→SsT l→List AVal→List AVal
 |[],_,t=>t
 |(i,kd) :: r,x,t=>unSlots r x.2 (t.set i (unV kd x.1))
def unCells:(l:List Kd)→KsT l→List AVal
 |[],_=>[]
 |kd :: r,x=>unV kd x.1 :: unCells r x.2
def unBlks:(l:List BK)→BsT l→List Blk
 |[],_=>[]
 |.arr d f sz :: r,x=>⟨0,.arr ⟨d,f,0⟩ sz x.1⟩ :: unBlks r x.2
 |.box ks :: r,x=>⟨0,.box (unCells ks x.1)⟩ :: unBlks r x.2
 |.gone :: r,x=>⟨0,.dead⟩ :: unBlks r x.2
def unpack (nt:Nat) (ks:LK) (p:ks.T):St:=⟨unSlots ks.slots p.1 (List.replicate nt .un),unBlks ks.blks p.2⟩
abbrev Ret:=CVal × List (List CVal)
inductive LO (A:Type) where
 |ret (r:Ret)
 |out (j:Nat) (p:A)
abbrev LoopT:=FuncId→Nat→Code→List PSh→(ks:LK)→ks.T→Option (LO ks.T)
def loK {A R:Type} (o:LO A) (kr:Ret→Option R) (k:Nat→A→Option R):Option R:=
 match o with
 |.ret r=>kr r
 |.out j p=>k j p
def findLoop:Code→Nat→Nat→Option Code
 |.seq a b,bid,n=>(findLoop a bid n).or (findLoop b bid n)
 |.cond _ a b,bid,n=>(findLoop a bid n).or (findLoop b bid n)
 |.block id c,_,n=>findLoop c id n
 |.loop c,bid,n=>cond (bid == n) (some c) (findLoop c bid n)
 |_,_,_=>none
def loopCode (P:Program) (f:FuncId) (n:Nat):Code:=
 (((P.funcs[f]?).bind (·.body)).bind fun c=>findLoop c 0 n).getD .skip
inductive X where
 |N | X (j:Nat)
structure Ann where
 loop:FuncId→Nat→Option LK
 join:FuncId→Nat→Option LK
 reg:FuncId→Nat→Option (List (Nat × Kd))
section
variable {R:Type} (E:Env) (N:Ann) (C:CallT) (L:LoopT) (f:FuncId)
def guardSlot (ops:Array Oper) (j:Nat):Option Nat:=(ops[j]?).bind (·.dst)
def skipped:AVal:=.tup []
def stepK (ro:Bool) (ops:Array Oper) (o:Oper) (t:List AVal) (b:List Blk) (K:Bool→List AVal→List AVal→List Blk→Option R):Option R:=
 match o.guard with
 |none=>br (ro && !roOp E o t) none (opK E C o t b fun x b=>K true t (putA t o.dst x) b)
 |some (j,want)=>
  match guardSlot ops j with
  |none=>none
  |some g=>
   match t.getD g .un with
   |.v c=>c.asBool.bind fun p=>
     br p
      (br want
       (br (ro && !roOp E o (t.set g (.v (.bool true)))) none
        (opK E C o (t.set g (.v (.bool true))) b fun x b=>K true (t.set g (.v (.bool true))) (putA (t.set g (.v (.bool true))) o.dst x) b))
       (K false (t.set g (.v (.bool true))) (putA (t.set g (.v (.bool true))) o.dst skipped) b))
      (br want (K false (t.set g (.v (.bool false))) (putA (t.set g (.v (.bool false))) o.dst skipped) b)
       (br (ro && !roOp E o (t.set g (.v (.bool false)))) none
        (opK E C o (t.set g (.v (.bool false))) b fun x b=>K true (t.set g (.v (.bool false))) (putA (t.set g (.v (.bool false))) o.dst x) b)))
   |.tup []=>K false t (putA t o.dst skipped) b
   |_=>none
def evOps (ro:Bool) (ops:Array Oper):List Oper→List AVal→List Blk→(List AVal→List Blk→Option R)→Option R
 |[],t,b,K=>K t b
 |o :: r,t,b,K=>stepK E C ro ops o t b fun _ _ t b=>evOps ro ops r t b K
def before (ops:Array Oper):Nat→Nat→Nat→Bool
 |0,_,_=>false
 |n + 1,i,p=>
  match ops[i]? with
  |none=>false
  |some o=>o.after.toList.any fun e=>Region.binds .any e && (e.on == p || before ops n e.on p)
def notIn (d:Option Nat) (l:List Nat):Bool:=
 match d with
 |some d=>!(l.contains d)
 |none=>true
def apart (ops:Array Oper) (p o:Oper):Bool:=
 notIn p.dst (o.looksAt ops) && notIn o.dst (p.looksAt ops) && notIn p.dst o.dst.toList
abbrev Cl2:=Cls × Cls
def cls2 (E:Env) (n:Nat) (ex:List Nat) (o:Oper) (t:List AVal) (b:List Blk) (ran:Bool):Cl2:=
 (cond ran (clsOf E ⟨n,[]⟩ o t b) .blind,cond ran (clsOf E ⟨n,ex⟩ o t b) .blind)
def fits (ops:Array Oper) (i:Nat) (o:Oper) (c:Cl2) (p:Nat × Cl2):Bool:=
 before ops ops.size i p.1 || (match ops[p.1]? with | some o'=>apart ops o' o && (p.2.1.ok c.1 || p.2.2.ok c.2) | none=>false)
def resA (ops:List Oper) (t:List AVal):Nat→Operand→AVal
 |0,_=>.un
 |k + 1,.tmp i=>
  match ops.find? (fun o=>o.dst == some i) with
  |some o=>
   match o.op with
   |.move y=>resA ops t k y
   |.assign y=>resA ops t k y
   |_=>.un
  |none=>t.getD i .un
 |_ + 1,_=>.un
def exOf (ops:List Oper) (t:List AVal) (b:List Blk):List Nat:=(ops.flatMap fun o=>
 match o.op with
 |.call c=>
  match c.callee with
  |.value (.func _)=>c.args.toList.filterMap fun x=>match resA ops t 4 x with | .lptr i 0=>some i | _=>none
  |_=>[]
 |_=>[]) ++ cond (ops.any fun o=>match o.op with | .call c=>(match c.callee with | .builtin .append=>true | _=>false) | _=>false)
  (b.flatMap fun x=>match x.body with | .box cs=>cs.filterMap fun y=>(match y with | .lref i _=>some i | _=>none) | _=>[]) []
def evD (ro:Bool) (ops:Array Oper) (n:Nat) (ex:List Nat):List Nat→List (Nat × Cl2)→List AVal→List Blk→(List AVal→List Blk→Option R)→Option R
 |[],_,t,b,K=>K t b
 |i :: r,acc,t,b,K=>
  match ops[i]? with
  |none=>none
  |some o=>stepK E C ro ops o t b fun ran t1 t' b'=>
    br (acc.all (fits ops i o (cls2 E n ex o t1 b ran)) && decide (n ≤ b'.length)) (evD ro ops n ex r ((i,cls2 E n ex o t1 b ran) :: acc) t' b' K) none
def topo (ops:Array Oper):Bool:=(List.range ops.size).all fun i=>
 match ops[i]? with
 |some o=>o.after.toList.all fun e=>!(Region.binds .any e) || decide (e.on < i)
 |none=>true
def wipe (ops:Array Oper) (t:List AVal):List AVal:=ops.toList.foldl (fun t o=>putA t o.dst .un) t
def Kd.closed:Kd→Bool
 |.lp _=>false
 |.lr _=>false
 |.clo _ _=>false
 |.le _ _=>false
 |.ls _ _=>false
 |_=>true
def evReg (id:Nat) (ops:Array Oper) (draw:Bool) (s:St) (K:St→Option R):Option R:=
 match N.reg f id with
 |none=>
  match draw with
  |false=>evOps E C false ops ops.toList s.t s.b fun t b=>K ⟨t,b⟩
  |true=>br (topo ops) (evD E C false ops s.b.length (exOf ops.toList s.t s.b) (List.range ops.size) [] s.t s.b fun t b=>K ⟨t,b⟩) none
 |some ks=>
  br (ks.all fun k=>k.2.closed)
   ((match draw with
    |false=>evOps E C true ops ops.toList s.t s.b fun t b=>packSlots t b ks [] fun x _=>some x
    |true=>br (topo ops) (evD E C true ops s.b.length (exOf ops.toList s.t s.b) (List.range ops.size) [] s.t s.b fun t b=>packSlots t b ks [] fun x _=>some x) none).bind fun x=>
    K ⟨unSlots ks x (wipe ops s.t),s.b⟩) none
def condSet (c:Operand) (g:Bool) (s:St):St:=
 match c with
 |.tmp i=>⟨s.t.set i (.v (.bool g)),s.b⟩
 |_=>s
def ev (nt:Nat) (np:List PSh) (fin:(R:Type)→St→(Ret→Option R)→Option R):Code→(R:Type)→(Ret→Option R)→Nat→(X→St→Option R)→St→Option R
 |.skip,_,_,_,k,s=>k .N s
 |.region id ops draw,_,_,_,k,s=>evReg E N C f id ops draw s fun s=>k .N s
 |.seq a b,R,kr,bid,k,s=>ev nt np fin a R kr bid (fun e s=>match e with | .N=>ev nt np fin b R kr bid k s | .X j=>k (.X j) s) s
 |.cond c a b,R,kr,bid,k,s=>wBool (evalA s.t c) fun g=>br g (ev nt np fin a R kr bid k (condSet c true s)) (ev nt np fin b R kr bid k (condSet c false s))
 |.block id c,R,kr,_,k,s=>
  match N.join f id with
  |none=>ev nt np fin c R kr id (fun e s=>match e with | .N=>k .N s | .X j=>br (j == id) (k .N s) (k (.X j) s)) s
  |some ks=>
   (ev nt np fin c (LO ks.T) (fun r=>some (.ret r)) id (fun e s=>match e with
    |.N=>packK np.length ks s fun p=>some (.out id p)
    |.X j=>packK np.length ks s fun p=>some (.out j p)) s).bind fun o=>
   loK o kr fun j p=>br (j == id) (k .N (unpack nt ks p)) (k (.X j) (unpack nt ks p))
 |.loop c,_,kr,bid,k,s=>
  match N.loop f bid with
  |none=>none
  |some ks=>packK np.length ks s fun p=>(L f bid c np ks p).bind fun o=>
    loK o kr fun j p=>k (.X j) (unpack nt ks p)
 |.exit id,_,_,_,k,s=>k (.X id) s
 |.ret,R,kr,_,_,s=>fin R s kr
 |_,_,_,_,_,_=>none
def ptrAgg (P:Program) (t:TypeId):Bool:=
 match P.underlying t with
 |some (.pointer e)=>aggT P e
 |_=>false
def finVals (t:List AVal):List (ResultVar × TypeId)→List Blk→(List CVal→List Blk→Option R)→Option R
 |[],b,K=>K [] b
 |(.tmp i,ty) :: r,b,K=>closeRK b (ptrAgg E.P ty) (t.getD i .un) fun c b=>finVals t r b fun cs b=>K (c :: cs) b
 |(.cell a ty,_) :: r,b,K=>loadK E.P ty b (t.getD a .un) fun x=>closeRK b false x fun c b=>finVals t r b fun cs b=>K (c :: cs) b
def finOwn (t:List AVal):List (ResultVar × TypeId)→List Blk→(List CVal→List Blk→Option R)→Option R
 |[],b,K=>K [] b
 |(.tmp i,ty) :: r,b,K=>takePK E.P ty (t.getD i .un) b fun c b=>finOwn t r b fun cs b=>K (c :: cs) b
 |(.cell a ty',ty) :: r,b,K=>loadK E.P ty' b (t.getD a .un) fun x=>takePK E.P ty x b fun c b=>finOwn t r b fun cs b=>K (c :: cs) b
def finCells:List (Option Nat)→List AVal→List Blk→(List CVal→List (Option (Nat × Nat))→List Blk→Option R)→Option R
 |[],[],b,K=>K [] [] b
 |some sz :: o,x :: cs,b,K=>
  match x with
  |.lref i ver=>(arrOf b i ver).bind fun xs=>br ((mdOf b i).deep && !(mdOf b i).fix && szOf b i == sz) (finCells o cs b fun l q b=>K (.sl xs :: l) (some (i,ver) :: q) b) none
  |_=>none
 |none :: o,x :: cs,b,K=>(closeA b x).bind fun c=>finCells o cs (killA x b) fun l q b=>K (c :: l) (none :: q) b
 |_,_,_,_=>none
def finBlks:Nat→List PSh→List Blk→(List (List CVal)→List (List (Option (Nat × Nat)))→List Blk→Option R)→Option R
 |_,[],b,K=>K [] [] b
 |j,p :: r,b,K=>
  match p with
  |.arr _ true _=>finBlks (j + 1) r b fun l q b=>K ([] :: l) ([] :: q) b
  |.arr m false sz=>
   match b[j]? with
   |some ⟨_,.arr m' sz' xs⟩=>br (m'.deep == m.deep && m'.fix == m.fix && sz' == sz) (finBlks (j + 1) r b fun l q b=>K (xs :: l) ([] :: q) b) none
   |_=>none
  |.box o=>
   match b[j]? with
   |some ⟨_,.box cs⟩=>finCells o cs b fun xs q b=>finBlks (j + 1) r b fun l qs b=>K (xs :: l) (q :: qs) b
   |_=>none
def ownIds (q:List (List (Option (Nat × Nat)))):List Nat:=q.flatten.filterMap fun x=>x.map (·.1)
def goodIds (n:Nat) (np:List PSh) (b:List Blk) (l:List Nat):Bool:=
 decide l.Nodup && l.all (fun i=>aliveAt b i && (decide (n ≤ i) || (match np[i]? with | some (.arr _ true _)=>true | _=>false)))
def goodMain (np:List PSh) (b:List Blk):Bool:=(List.range np.length).all fun j=>match np[j]? with | some (.arr _ true _)=>true | _=>aliveAt b j
def finK (fn:Func) (np:List PSh) (s:St) (K:Ret→Option R):Option R:=
  match E.ow f with
  | some ts=>
    br (decide (ts.length=fn.results.size))
      (finOwn E s.t (fn.results.toList.zip ts) s.b fun cs b=>finBlks 0 np b fun l q b=>
        br (goodMain np b && goodIds np.length np b (ownIds q))
          (match cs with
           | [c]=>K (c,l)
           | cs=>K (.tup cs,l)) none) none
  | none=>
    match E.rm f with
    | none=>finVals E s.t (fn.results.toList.zip fn.resultTypes.toList) s.b fun cs b=>finBlks 0 np b fun l q b=>
        br (goodMain np b && goodIds np.length np b (ownIds q))
          (match cs with
           | [c]=>K (c,l)
           | cs=>K (.tup cs,l)) none
    | some j=>
      match fn.results.toList with
      | [.tmp i]=>
        match s.t.getD i .un with
        | .lref i' ver=>br (decide (i'=j) && (arrOf s.b j ver).isSome && (match np[j]? with | some (.arr _ false _)=>true | _=>false))
            (finBlks 0 np s.b fun l q b=>br (goodMain np b && goodIds np.length np b (ownIds q)) (K (.nilp,l)) none) none
        | _=>none
      | _=>none
def startBlk:PB→Blk
 |.arr m _ sz xs=>⟨0,.arr m sz xs⟩
 |.box cs=>⟨0,.box cs⟩
def evF (args:List AVal) (pbs:List PB):Option Ret:=
 match E.P.funcs[f]? with
 |none=>none
 |some fn=>
  match fn.body with
  |none=>none
  |some c=>
   br (fn.name == "runtime.NumGoroutine" || !decide (args.length ≤ fn.ntmps) || !decide (fn.results.size=fn.resultTypes.size)) none
    (ev E N C L f fn.ntmps (pbs.map (PB.sh pbs)) (fun R=>finK (R:=R) E f fn (pbs.map (PB.sh pbs))) c Ret some 0
     (fun e s=>match e with | .N=>finK E f fn (pbs.map (PB.sh pbs)) s some | .X _=>none)
     ⟨args ++ List.replicate (fn.ntmps - args.length) .un,pbs.map startBlk⟩)
def evL (bid:Nat) (c:Code) (np:List PSh) (ks:LK) (p:ks.T):Option (LO ks.T):=
 match E.P.funcs[f]? with
 |none=>none
 |some fn=>
  ev E N C L f fn.ntmps np (fun R=>finK (R:=R) E f fn np) c (LO ks.T) (fun r=>some (.ret r)) bid
   (fun e s=>match e with
    |.N=>packK np.length ks s fun p=>L f bid c np ks p
    |.X j=>packK np.length ks s fun p=>some (.out j p))
   (unpack fn.ntmps ks p)
end
def applyV (E:Env) (C:CallT) (args:List AVal) (pbs:List PB):Option Ret:=
  match args,pbs with
  | .v (.func g caps) :: l,[]=>(allV l).bind fun cs=>br (g == apId || (E.rm g).isSome || (E.ow g).isSome) none
      (match E.prim g with
       | some p=>p ((cs ++ caps).map .v) []
       | none=>C g ((cs ++ caps).map .v) [])
  | _,_=>none
def run (E:Env) (N:Ann):Nat→CallT × LoopT
 |0=>(fun _ _ _=>none,fun _ _ _ _ _ _=>none)
 |n + 1=>(fun g args pbs=>cond (g == apId) (applyV E (run E N n).1 args pbs) (match E.ext g with | some p=>p args pbs | none=>evF E N (run E N n).1 (run E N n).2 g args pbs),fun f bid c np ks p=>evL E N (run E N n).1 (run E N n).2 f bid c np ks p)
end Go.Proofs.Ytognghbhdalckaa.Abs
namespace Go.Proofs.Ytognghbhdalckaa.Abs
open Go
section
variable {R:Type}
theorem allV_some:∀ {args:List AVal} {cs:List CVal},allV args=some cs→args=cs.map .v
 |[],cs,h=>by cases h;rfl
 |x :: r,cs,h=>by
  cases x with
  |v c=>
   simp only [allV,Option.bind_eq_some_iff] at h
   obtain ⟨l,hl,h⟩:=h
   cases h
   rw [allV_some hl];rfl
  |_=>cases h
theorem allV_map:∀ {cs:List CVal},allV (cs.map .v)=some cs
 |[]=>rfl
 |c :: r=>by
  show (allV (r.map .v)).bind _=_
  rw [allV_map];rfl
theorem promo_v {E:Env} {g:FuncId}:∀ {cs:List CVal} {j:Nat} {b:List Blk} {K:List AVal→List Blk→Option R},promo E g j (cs.map .v) b K=K (cs.map .v) b
 |[],_,_,_=>rfl
 |c :: r,j,b,K=>promo_v (cs:=r) (K:=fun l b=>K (.v c :: l) b)
theorem focusArgs_v {E:Env} {g:FuncId}:∀ {cs:List CVal} {j:Nat} {b:List Blk} {K:List AVal→List (Nat × Nat)→List Blk→Option R},focusArgs E g j (cs.map .v) b K=K (cs.map .v) [] b
 |[],_,_,_=>rfl
 |c :: r,j,b,K=>focusArgs_v (cs:=r) (K:=fun l fs b=>K (.v c :: l) fs b)
theorem handAll_v {pm:Nat→PM}:∀ {cs:List CVal} {j:Nat} {h:Hand} {K:Hand→Option R},handAll pm j (cs.map .v) h K=K ⟨h.args ++ cs.map .v,h.ids,h.b⟩
 |[],j,h,K=>by simp [handAll]
 |c :: r,j,h,K=>by
  show handAll pm (j + 1) (r.map .v) ⟨h.args ++ [.v c],h.ids,h.b⟩ K=_
  rw [handAll_v];simp
theorem borrows_v {E:Env} {g:FuncId}:∀ {cs:List CVal} {j:Nat},borrows E g j (cs.map .v)=false
 |[],_=>rfl
 |c :: r,j=>by
  simp [borrows,borrows_v (cs:=r),isLent]
theorem callK_v {E:Env} {C:CallT} {g:FuncId} {cs:List CVal} {b:List Blk} {K:AVal→List Blk→Option R} (hg:g ≠ apId) (hrm:E.rm g=none) (how:E.ow g=none) :
  callK E C g (cs.map .v) b K=(match E.prim g with | some p=>p (cs.map .v) [] | none=>C g (cs.map .v) []).bind fun r=>K (.v r.1) b:=by
 unfold callK
 rw [show (g == apId)=false by simpa using hg,promo_v,focusArgs_v,handAll_v]
 simp only [handBlks,List.all_nil,br,List.nil_append,borrows_v,Bool.false_and,List.map_nil,List.length_nil,explodeL,unfocusAll,backRK,hrm,how]
 rfl
theorem callV_some {E:Env} {C:CallT} {c:CVal} {args:List AVal} {b:List Blk} {K:AVal→List Blk→Option R} {r:R} (h:callV E C c args b K=some r) :
  (∃ cs,args=cs.map .v∧apF C c cs (fun r=>K (.v r) b)=some r)∨(allV args=none∧∃ g caps,c=.func g caps∧callK E C g (args ++ caps.map .v) b K=some r):=by
 unfold callV at h
 split at h
 ·rename_i cs hcs
  exact .inl ⟨cs,allV_some hcs,h⟩
 ·rename_i hno
  split at h
  ·exact .inr ⟨hno,_,_,rfl,h⟩
  ·cases h
theorem pureArgs_v {E:Env} {g:FuncId}:∀ {cs:List CVal} {j:Nat},pureArgs E g j (cs.map .v)=(E.ow g).isNone
 |[],_=>rfl
 |c :: r,j=>pureArgs_v (cs:=r)
theorem pureArgs_ow {E:Env} {g:FuncId}:∀ {args:List AVal} {j:Nat},pureArgs E g j args=true→E.ow g=none
 |[],_,h=>by simpa [pureArgs] using h
 |x :: r,j,h=>by
  cases x<;>simp [pureArgs] at h<;>first | exact pureArgs_ow h | exact pureArgs_ow h.2
end
end Go.Proofs.Ytognghbhdalckaa.Abs
namespace Go.Proofs.Ytognghbhdalckaa.Abs
open Go
def flat:Value→Bool
 |.agg _=>false
 |.tuple _=>false
 |_=>true
theorem cells_flat {v:Value} (h:flat v=true):v.cells = #[v]:=by
 cases v<;>first | rfl | (simp [flat] at h)
def noTup:CVal→Bool
 |.tup _=>false
 |_=>true
theorem noTup_fl {c:CVal} (h:noTup c=true):(∃ n,c.isAggN n=true)∨c.isFlat=true:=by
 cases c with
 |agg cs=>exact .inl ⟨cs.length,by simp [CVal.isAggN]⟩
 |tup cs=>simp [noTup] at h
 |_=>exact .inr rfl
theorem fits_noTup {agg:Bool} {n:Nat} {c:CVal} (h:c.fits agg n=true):noTup c=true:=by
 cases c with
 |tup cs=>cases agg<;>simp [CVal.fits,CVal.isAggN,CVal.isFlat] at h
 |_=>rfl
def pl (b o:Nat):Addr:=⟨b,o,none⟩
mutual
def CRel (N:Nat→Prop) (w:World):CVal→Value→Prop
 |.bool b,v=>v=.bool b
 |.int k n,v=>v=.int k n
 |.str s,v=>v=.string ⟨s.toArray⟩
 |.sl xs,v=>∃ base cap,v=.slice base xs.length cap∧xs.length ≤ cap∧
   (xs=[]∨∃ b o sz,base=some (pl b o)∧¬ N b∧b < w.heap.size∧ElRel N w sz b o xs)
 |.agg cs,v=>∃ vs:List Value,v=.agg vs.toArray∧CsRel N w true cs vs
 |.fp c off,v=>∃ b o u,v=.pointer (some (pl b (o + off)))∧¬ N b∧b < w.heap.size∧noTup c=true∧CRel N w c u∧
   ∀ j,j < u.cells.size→w.cell? (pl b (o + j))=u.cells[j]?
 |.func f cs,v=>∃ vs:List Value,v=.func (.func f) #[] vs.toArray∧CsRel N w false cs vs
 |.nilp,v=>v=.pointer none
 |.nilf,v=>v=.nilFunc
 |.nili,v=>v=.nilIface
 |.iface t c,v=>∃ u,v=.iface t u∧CRel N w c u
 |.tup cs,v=>∃ vs:List Value,v=.tuple vs.toArray∧CsRel N w false cs vs
 |.fsl xs,v=>∃ base cap,v=.slice base xs.length cap∧xs.length ≤ cap∧
   (xs=[]∨∃ b o sz,base=some (pl b o)∧¬ N b∧b < w.heap.size∧ElRel N w sz b o xs)
 |.slq q xs,v=>∃ base cap,v=.slice base xs.length cap∧xs.length ≤ cap∧
   (xs=[]∨∃ b o sz,base=some (pl b o)∧¬ N b∧b < w.heap.size∧ElRel N w sz b o xs)∧base.isNone=q
def CsRel (N:Nat→Prop) (w:World):Bool→List CVal→List Value→Prop
 |_,[],vs=>vs=[]
 |fl,c :: r,vs=>∃ u us,vs=u :: us∧CRel N w c u∧(fl=true→flat u=true)∧CsRel N w fl r us
def ElRel (N:Nat→Prop) (w:World):Nat→Nat→Nat→List CVal→Prop
 |_,_,_,[]=>True
 |sz,b,o,c :: r=>(∃ u,noTup c=true∧CRel N w c u∧u.cells.size=sz∧∀ j,j < sz→w.cell? (pl b (o + j))=u.cells[j]?)∧ElRel N w sz b (o + sz) r
end
mutual
def DRel (N:Nat→Prop) (w:World):List Nat→CVal→Value→Prop
 |S,.sl xs,v=>∃ base cap,v=.slice base xs.length cap∧xs.length ≤ cap∧((cap=0∧S=[])∨∃ x cells e sz S',0 < cap∧base=some (pl x 0)∧S=x :: S'∧w.heap[x]? = some (.cells cells e (0,0))∧cap * sz ≤ cells.size∧DEl N w sz x 0 S' xs)
 |S,.agg cs,v=>∃ vs:List Value,v=.agg vs.toArray∧DCs N w true S cs vs
 |S,.bool b,v=>S=[]∧v=.bool b
 |S,.int k n,v=>S=[]∧v=.int k n
 |S,.str s,v=>S=[]∧v=.string ⟨s.toArray⟩
 |S,.fp c off,v=>S=[]∧CRel N w (.fp c off) v
 |S,.func f cs,v=>S=[]∧CRel N w (.func f cs) v
 |S,.nilp,v=>S=[]∧v=.pointer none
 |S,.nilf,v=>S=[]∧v=.nilFunc
 |S,.nili,v=>S=[]∧v=.nilIface
 |S,.iface t c,v=>S=[]∧CRel N w (.iface t c) v
 |S,.tup cs,v=>∃ vs:List Value,v=.tuple vs.toArray∧DCs N w false S cs vs
 |S,.fsl xs,v=>S=[]∧CRel N w (.fsl xs) v
 |S,.slq q xs,v=>S=[]∧CRel N w (.slq q xs) v
def DCs (N:Nat→Prop) (w:World):Bool→List Nat→List CVal→List Value→Prop
 |_,S,[],vs=>S=[]∧vs=[]
 |fl,S,c :: r,vs=>∃ S1 S2 u us,S=S1 ++ S2∧vs=u :: us∧DRel N w S1 c u∧(fl=true→flat u=true)∧DCs N w fl S2 r us
def DEl (N:Nat→Prop) (w:World):Nat→Nat→Nat→List Nat→List CVal→Prop
 |_,_,_,S,[]=>S=[]
 |sz,b,o,S,c :: r=>∃ S1 S2,S=S1 ++ S2∧(∃ u,noTup c=true∧DRel N w S1 c u∧u.cells.size=sz∧∀ j,j < sz→w.cell? (pl b (o + j))=u.cells[j]?)∧DEl N w sz b (o + sz) S2 r
end
def GRel (d:Bool) (N:Nat→Prop) (w:World) (S:List Nat) (c:CVal) (v:Value):Prop:=
 match d with
 |true=>DRel N w S c v
 |false=>S=[]∧CRel N w c v
def GEl (d:Bool) (N:Nat→Prop) (w:World) (sz b:Nat):Nat→List Nat→List CVal→Prop
 |_,S,[]=>S=[]
 |o,S,c :: r=>∃ S1 S2,S=S1 ++ S2∧(∃ u,noTup c=true∧GRel d N w S1 c u∧u.cells.size=sz∧∀ j,j < sz→w.cell? (pl b (o + j))=u.cells[j]?)∧GEl d N w sz b (o + sz) S2 r
def HCs (N:Nat→Prop) (w:World) (hv:Value):Nat→List Nat→List CVal→List Value→Prop
 |_,_,[],_=>False
 |0,S,c :: r,vs=>∃ us,vs=hv :: us∧(∃ ys,c=.sl ys)∧flat hv=true∧DCs N w true S r us
 |off + 1,S,c :: r,vs=>∃ S1 S2 u us,S=S1 ++ S2∧vs=u :: us∧DRel N w S1 c u∧flat u=true∧HCs N w hv off S2 r us
def HRel (N:Nat→Prop) (w:World) (off:Nat) (hv:Value) (S:List Nat) (c:CVal) (u:Value):Prop:=
 (∃ cs vs,c=.agg cs∧u=.agg (List.toArray vs)∧HCs N w hv off S cs vs)∨((∃ ys,c=.sl ys)∧off=0∧S=[]∧u=hv∧flat hv=true)
def HEl (N:Nat→Prop) (w:World) (off:Nat) (hv:Value) (sz b:Nat):Nat→Nat→List Nat→List CVal→Prop
 |_,_,_,[]=>False
 |0,o,S,c :: r=>∃ S1 S2,S=S1 ++ S2∧(∃ u,noTup c=true∧HRel N w off hv S1 c u∧u.cells.size=sz∧∀ j,j < sz→w.cell? (pl b (o + j))=u.cells[j]?)∧DEl N w sz b (o + sz) S2 r
 |idx + 1,o,S,c :: r=>∃ S1 S2,S=S1 ++ S2∧(∃ u,noTup c=true∧DRel N w S1 c u∧u.cells.size=sz∧∀ j,j < sz→w.cell? (pl b (o + j))=u.cells[j]?)∧HEl N w off hv sz b idx (o + sz) S2 r
inductive Hd where
 |none
 |box (b:Nat)
 |arr (base:Option Addr) (len cap sz rs:Nat) (S:List Nat)
def Hd.own:Hd→List Nat
 |.none=>[]
 |.box b=>[b]
 |.arr (some a) _ cap _ _ S=>if cap=0 then S else a.block :: S
 |.arr .none _ _ _ _ S=>S
def Hd.val:Hd→Value
 |.none=>.bool false
 |.box b=>.pointer (some (pl b 0))
 |.arr base len cap _ _ _=>.slice base len cap
def Hd.head:Hd→Hd
 |.arr base len cap sz rs _=>.arr base len cap sz rs []
 |h=>h
def CapOk:Hd→Prop
 |.arr _ len cap sz rs _=>len ≠ 0→cap * sz ≤ rs
 |_=>True
theorem CapOk.head {h h':Hd} (e:h'.head=h.head) (k:CapOk h):CapOk h':=by
 cases h<;>cases h'<;>simp [Hd.head] at e<;>simp [CapOk] at k ⊢
 simpa [e] using k
theorem Hd.val_head {h h':Hd} (e:h'.head=h.head):h'.val=h.val:=by
 cases h<;>cases h'<;>simp [Hd.head] at e<;>simp [Hd.val,e]
def isArr:Body→Bool
 |.arr _ _ _=>true
 |.hole _ _ _ _ _ _ _=>true
 |_=>false
def cont:Body→Option (Md × Nat × List CVal)
 |.arr m sz xs=>some (m,sz,xs)
 |.hole m sz xs _ _ _ _=>some (m,sz,xs)
 |_=>none
def isFix:Body→Bool
 |.arr m _ _=>m.fix
 |.hole m _ _ _ _ _ _=>m.fix
 |_=>false
def alive:Body→Bool
 |.dead=>false
 |_=>true
def slAt (xs:List CVal) (idx off:Nat):Prop:=∃ c ys,xs[idx]? = some c∧c.cell off=some (.sl ys)
def InOk (w:World) (h:Hd) (bd:Body) (sv idx off:Nat) (p:Value→Prop):Prop:=
 ∀ m sz xs,cont bd=some (m,sz,xs)→sv ≤ m.sv∧(m.sv=sv→m.deep=true→slAt xs idx off→∃ x len cap rs S hv,h=.arr (some (pl x 0)) len cap sz rs S∧cap ≠ 0∧w.cell? (pl x (idx * sz + off))=some hv∧p hv)
mutual
def ARel (N:Nat→Prop) (w:World) (μ:List Hd) (b:List Blk):AVal→Value→Prop
 |.v c,v=>CRel N w c v
 |.nl,v=>∃ base,v=.slice base 0 0
 |.lptr i off,v=>∃ x,μ[i]? = some (.box x)∧v=.pointer (some (pl x off))
 |.lel i ver idx off,v=>(∃ a,v=.pointer (some a))∧∃ (blk:Blk) (h:Hd),b[i]? = some blk∧μ[i]? = some h∧h ≠ .none∧ver ≤ blk.ver∧
   (ver=blk.ver→isArr blk.body=true→∃ x len cap sz rs S,h=.arr (some (pl x 0)) len cap sz rs S∧idx < len∧v=.pointer (some (pl x (idx * sz + off))))
 |.lref i ver,v=>flat v=true∧∃ (blk:Blk) (h:Hd),b[i]? = some blk∧μ[i]? = some h∧h ≠ .none∧ver ≤ blk.ver∧(ver=blk.ver→isArr blk.body=true→v=h.val)
 |.lsub i ver sv idx off,v=>flat v=true∧∃ (blk:Blk) (h:Hd),b[i]? = some blk∧μ[i]? = some h∧h ≠ .none∧ver ≤ blk.ver∧(ver=blk.ver→InOk w h blk.body sv idx off fun hv=>hv=v)
 |.lel2 i ver sv idx off idx2,v=>(∃ a,v=.pointer (some a))∧∃ (blk:Blk) (h:Hd),b[i]? = some blk∧μ[i]? = some h∧h ≠ .none∧ver ≤ blk.ver∧
   (ver=blk.ver→InOk w h blk.body sv idx off fun hv=>∃ x len cap,hv=.slice (some (pl x 0)) len cap∧v=.pointer (some (pl x idx2)))
 |.ltail i ver lo,v=>flat v=true∧∃ (blk:Blk) (h:Hd),b[i]? = some blk∧μ[i]? = some h∧h ≠ .none∧ver ≤ blk.ver∧(ver=blk.ver→isArr blk.body=true→∃ base len cap sz rs S,h=.arr base len cap sz rs S∧lo ≤ len∧∃ base',v=.slice base' (len - lo) (cap - lo)∧(lo < len→base'=base.map (·.add (lo * sz))))
 |.agg cs,v=>∃ vs:List Value,v=.agg vs.toArray∧AsRel N w μ b true cs vs
 |.func f cs,v=>∃ vs:List Value,v=.func (.func f) #[] vs.toArray∧AsRel N w μ b false cs vs
 |.tup cs,v=>∃ vs:List Value,v=.tuple vs.toArray∧AsRel N w μ b false cs vs
 |.un,_=>True
def AsRel (N:Nat→Prop) (w:World) (μ:List Hd) (b:List Blk):Bool→List AVal→List Value→Prop
 |_,[],vs=>vs=[]
 |fl,c :: r,vs=>∃ u us,vs=u :: us∧ARel N w μ b c u∧(fl=true→flat u=true)∧AsRel N w μ b fl r us
end
def BRel (N:Nat→Prop) (w:World) (μ:List Hd) (b:List Blk) (h:Hd):Body→Prop
 |.dead=>True
 |.box cs=>∃ x vs e,h=.box x∧w.heap[x]? = some (.cells (List.toArray vs) e (0,0))∧AsRel N w μ b true cs vs
 |.arr m sz xs=>∃ base cap rs S,h=.arr base xs.length cap sz rs S∧xs.length ≤ cap∧
   ((cap=0∧S=[])∨∃ x cells e,0 < cap∧base=some (pl x 0)∧w.heap[x]? = some (.cells cells e (0,0))∧cells.size=rs∧(m.fix=false→cap * sz ≤ rs)∧(x :: S).Nodup∧GEl m.deep N w sz x 0 S xs)
 |.hole m sz xs c idx off k=>m.deep=true∧xs[idx]? = some c∧(∃ ys,c.cell off=some (.sl ys))∧∃ cap rs S x cells e hk,h=.arr (some (pl x 0)) xs.length cap sz rs S∧xs.length ≤ cap∧
   0 < cap∧w.heap[x]? = some (.cells cells e (0,0))∧cells.size=rs∧(m.fix=false→cap * sz ≤ rs)∧(x :: S).Nodup∧μ[k]? = some hk∧(∃ bk,b[k]? = some bk∧CapOk hk∧(isFix bk.body=true∨alive bk.body=false))∧HEl N w off hk.val sz x idx 0 S xs
def Own (μ:List Hd) (b:List Blk) (x:Nat):Prop:=
 ∃ (i:Nat) (blk:Blk) (h:Hd),b[i]? = some blk∧alive blk.body=true∧μ[i]? = some h∧x ∈ h.own
def Or (F O:Nat→Prop) (x:Nat):Prop:=F x∨O x
class Glob where
 ids:Nat→Prop
 ok:World→Prop
 keep:∀ {w w':World},(∀ x,ids x→w'.heap[x]? = w.heap[x]?)→ok w→ok w'
structure Fb [Glob] (F:Nat→Prop) (w:World):Prop where
 lt:∀ x,F x→x < w.heap.size
 idl:∀ x,Glob.ids x→x < w.heap.size
 ok:Glob.ok w
theorem Fb.toM [Glob] {F M:Nat→Prop} {w w':World} (h:Fb F w) (hs:w.heap.size ≤ w'.heap.size) (hm:∀ x,Glob.ids x→w'.heap[x]? = w.heap[x]?) (hM:∀ x,M x→x < w'.heap.size):Fb M w':=
 ⟨hM,fun x hx=>Nat.lt_of_lt_of_le (h.idl x hx) hs,Glob.keep hm h.ok⟩
theorem Fb.to [Glob] {F:Nat→Prop} {w w':World} (h:Fb F w) (hs:w.heap.size ≤ w'.heap.size) (hm:∀ x,Glob.ids x→w'.heap[x]? = w.heap[x]?):Fb F w':=
 h.toM hs hm fun x hx=>Nat.lt_of_lt_of_le (h.lt x hx) hs
variable [Glob]
structure Rel (F:Nat→Prop) (w:World) (μ:List Hd) (b:List Blk):Prop where
 len:μ.length=b.length
 blk:∀ (i:Nat) (blk:Blk) (h:Hd),b[i]? = some blk→μ[i]? = some h→BRel (Or F (Own μ b)) w μ b h blk.body
 inj:∀ (i j:Nat) (blk blk':Blk) (h h':Hd) (x:Nat),b[i]? = some blk→b[j]? = some blk'→alive blk.body=true→alive blk'.body=true→
  μ[i]? = some h→μ[j]? = some h'→x ∈ h.own→x ∈ h'.own→i=j
 fres:∀ x,Own μ b x→¬ F x∧x < w.heap.size
 fbk:Fb F w
 oid:∀ x,Own μ b x→¬ Glob.ids x
theorem Rel.fb {F:Nat→Prop} {w:World} {μ:List Hd} {b:List Blk} (R:Rel F w μ b):∀ x,F x→x < w.heap.size:=R.fbk.lt
structure Fr (O:Nat→Prop) (w w':World):Prop where
 os:w'.os=w.os
 tape:w'.tape=w.tape
 output:w'.output=w.output
 size:w.heap.size ≤ w'.heap.size
 block:∀ x,x < w.heap.size→¬ O x→w'.heap[x]? = w.heap[x]?
theorem Fr.refl (O:Nat→Prop) (w:World):Fr O w w:=⟨rfl,rfl,rfl,Nat.le_refl _,fun _ _ _=>rfl⟩
theorem Fr.trans {O O':Nat→Prop} {a b c:World} (h:Fr O a b) (k:Fr O' b c) (ho:∀ x,x < a.heap.size→O' x→O x):Fr O a c:=
  ⟨k.os.trans h.os,k.tape.trans h.tape,k.output.trans h.output,Nat.le_trans h.size k.size,
   fun x hx hn=>(k.block x (Nat.lt_of_lt_of_le hx h.size) (fun hc=>hn (ho x hx hc))).trans (h.block x hx hn)⟩
theorem cell_block {w w':World} {x:Nat} (h:w'.heap[x]? = w.heap[x]?) (o:Nat):w'.cell? (pl x o)=w.cell? (pl x o):=by
 simp only [World.cell?,pl,h]
structure Keep (N N':Nat→Prop) (w w':World):Prop where
 size:w.heap.size ≤ w'.heap.size
 block:∀ x,x < w.heap.size→¬ N x→w'.heap[x]? = w.heap[x]?∧¬ N' x
theorem cell_lt {w:World} {x o:Nat} {v:Value} (h:w.cell? (pl x o)=some v):x < w.heap.size:=by
 simp only [World.cell?,pl] at h
 rcases Nat.lt_or_ge x w.heap.size with h' | h'
 ·exact h'
 ·simp [Array.getElem?_eq_none h'] at h
section
variable {N N':Nat→Prop} {w w':World} (K:Keep N N' w w')
include K
mutual
theorem CRel.keep:∀ {c:CVal} {v:Value},CRel N w c v→CRel N' w' c v
 |.bool _,_,h=>h
 |.int _ _,_,h=>h
 |.str _,_,h=>h
 |.sl xs,v,h=>by
  obtain ⟨base,cap,hv,hc,h⟩:=h
  refine ⟨base,cap,hv,hc,?_⟩
  rcases h with h | ⟨b,o,sz,hb,hn,hs,he⟩
  ·exact .inl h
  ·exact .inr ⟨b,o,sz,hb,(K.block b hs hn).2,Nat.lt_of_lt_of_le hs K.size,ElRel.keep hs hn he⟩
 |.agg cs,v,h=>by
  obtain ⟨vs,hv,h⟩:=h
  exact ⟨vs,hv,CsRel.keep h⟩
 |.fp c off,v,h=>by
  obtain ⟨b,o,u,hv,hn,hs,ht,hc,hj⟩:=h
  exact ⟨b,o,u,hv,(K.block b hs hn).2,Nat.lt_of_lt_of_le hs K.size,ht,CRel.keep hc,fun j h=>by rw [cell_block (K.block b hs hn).1];exact hj j h⟩
 |.func _ cs,v,h=>by
  obtain ⟨vs,hv,h⟩:=h
  exact ⟨vs,hv,CsRel.keep h⟩
 |.nilp,_,h=>h
 |.nilf,_,h=>h
 |.nili,_,h=>h
 |.iface t c,v,h=>by
  obtain ⟨u,hv,h⟩:=h
  exact ⟨u,hv,CRel.keep h⟩
 |.tup cs,v,h=>by
  obtain ⟨vs,hv,h⟩:=h
  exact ⟨vs,hv,CsRel.keep h⟩
 |.fsl xs,v,h=>by
  obtain ⟨base,cap,hv,hc,h⟩:=h
  refine ⟨base,cap,hv,hc,?_⟩
  rcases h with h | ⟨b,o,sz,hb,hn,hs,he⟩
  ·exact .inl h
  ·exact .inr ⟨b,o,sz,hb,(K.block b hs hn).2,Nat.lt_of_lt_of_le hs K.size,ElRel.keep hs hn he⟩
 |.slq q xs,v,h=>by
  obtain ⟨base,cap,hv,hc,h,hq⟩:=h
  refine ⟨base,cap,hv,hc,?_,hq⟩
  rcases h with h | ⟨b,o,sz,hb,hn,hs,he⟩
  ·exact .inl h
  ·exact .inr ⟨b,o,sz,hb,(K.block b hs hn).2,Nat.lt_of_lt_of_le hs K.size,ElRel.keep hs hn he⟩
theorem CsRel.keep:∀ {fl:Bool} {cs:List CVal} {vs:List Value},CsRel N w fl cs vs→CsRel N' w' fl cs vs
 |_,[],_,h=>h
 |_,c :: r,vs,h=>by
  obtain ⟨u,us,hv,hc,hf,h⟩:=h
  exact ⟨u,us,hv,CRel.keep hc,hf,CsRel.keep h⟩
theorem ElRel.keep:∀ {sz b o:Nat} {cs:List CVal},b < w.heap.size→¬ N b→ElRel N w sz b o cs→ElRel N' w' sz b o cs
 |_,_,_,[],_,_,_=>trivial
 |sz,b,o,c :: r,hs,hn,h=>by
  obtain ⟨⟨u,ht,hc,hz,hj⟩,h⟩:=h
  exact ⟨⟨u,ht,CRel.keep hc,hz,fun j h=>by rw [cell_block (K.block b hs hn).1];exact hj j h⟩,ElRel.keep hs hn h⟩
end
theorem ElRel.keepAt:∀ {sz b o:Nat} {cs:List CVal},w'.heap[b]? = w.heap[b]?→ElRel N w sz b o cs→ElRel N' w' sz b o cs
 |_,_,_,[],_,_=>trivial
 |sz,b,o,c :: r,hb,h=>by
  obtain ⟨⟨u,ht,hc,hz,hj⟩,h⟩:=h
  exact ⟨⟨u,ht,CRel.keep K hc,hz,fun j h=>by rw [cell_block hb];exact hj j h⟩,ElRel.keepAt hb h⟩
end
section
variable {N N':Nat→Prop} {w w':World}
mutual
theorem DRel.keep (K:Keep N N' w w'):∀ {S:List Nat} {c:CVal} {v:Value},(∀ x ∈ S,w'.heap[x]? = w.heap[x]?)→DRel N w S c v→DRel N' w' S c v
 |_,.bool _,_,_,h=>h
 |_,.int _ _,_,_,h=>h
 |_,.str _,_,_,h=>h
 |S,.sl xs,v,hm,h=>by
  obtain ⟨base,cap,hv,hl,h⟩:=h
  refine ⟨base,cap,hv,hl,?_⟩
  rcases h with h | ⟨x,cells,e,sz,S',h0,hb,rfl,hw,hz,he⟩
  ·exact .inl h
  ·exact .inr ⟨x,cells,e,sz,S',h0,hb,rfl,by rw [hm x (by simp)];exact hw,hz,DEl.keep K (hm x (by simp)) (fun y hy=>hm y (by simp [hy])) he⟩
 |S,.agg cs,v,hm,h=>by
  obtain ⟨vs,hv,h⟩:=h
  exact ⟨vs,hv,DCs.keep K hm h⟩
 |S,.fp c off,v,hm,h=>⟨h.1,CRel.keep K h.2⟩
 |S,.func f cs,v,hm,h=>⟨h.1,CRel.keep K h.2⟩
 |_,.nilp,_,_,h=>h
 |_,.nilf,_,_,h=>h
 |_,.nili,_,_,h=>h
 |S,.iface t c,v,hm,h=>⟨h.1,CRel.keep K h.2⟩
 |S,.tup cs,v,hm,h=>by
  obtain ⟨vs,hv,h⟩:=h
  exact ⟨vs,hv,DCs.keep K hm h⟩
 |S,.fsl xs,v,hm,h=>⟨h.1,CRel.keep K h.2⟩
 |S,.slq q xs,v,hm,h=>⟨h.1,CRel.keep K h.2⟩
theorem DCs.keep (K:Keep N N' w w'):∀ {fl:Bool} {S:List Nat} {cs:List CVal} {vs:List Value},(∀ x ∈ S,w'.heap[x]? = w.heap[x]?)→DCs N w fl S cs vs→DCs N' w' fl S cs vs
 |_,_,[],_,_,h=>h
 |_,_,c :: r,vs,hm,h=>by
  obtain ⟨S1,S2,u,us,rfl,hv,hc,hf,h⟩:=h
  exact ⟨S1,S2,u,us,rfl,hv,DRel.keep K (fun x hx=>hm x (by simp [hx])) hc,hf,DCs.keep K (fun x hx=>hm x (by simp [hx])) h⟩
theorem DEl.keep (K:Keep N N' w w'):∀ {sz b o:Nat} {S:List Nat} {cs:List CVal},w'.heap[b]? = w.heap[b]?→(∀ x ∈ S,w'.heap[x]? = w.heap[x]?)→DEl N w sz b o S cs→DEl N' w' sz b o S cs
 |_,_,_,_,[],_,_,h=>h
 |sz,b,o,_,c :: r,hb,hm,h=>by
  obtain ⟨S1,S2,rfl,⟨u,ht,hc,hz,hj⟩,h⟩:=h
  exact ⟨S1,S2,rfl,⟨u,ht,DRel.keep K (fun x hx=>hm x (by simp [hx])) hc,hz,fun j h=>by rw [cell_block hb];exact hj j h⟩,DEl.keep K hb (fun x hx=>hm x (by simp [hx])) h⟩
end
mutual
theorem DRel.close (K:Keep N N' w w'):∀ {S:List Nat} {c:CVal} {v:Value},(∀ x ∈ S,w'.heap[x]? = w.heap[x]?∧¬ N' x∧x < w'.heap.size)→DRel N w S c v→CRel N' w' c v
 |_,.bool _,_,_,h=>h.2
 |_,.int _ _,_,_,h=>h.2
 |_,.str _,_,_,h=>h.2
 |S,.sl xs,v,hm,h=>by
  obtain ⟨base,cap,hv,hl,h⟩:=h
  refine ⟨base,cap,hv,hl,?_⟩
  rcases h with ⟨h,_⟩ | ⟨x,cells,e,sz,S',h0,hb,rfl,hw,hz,he⟩
  ·left;exact List.length_eq_zero_iff.1 (by omega)
  ·exact .inr ⟨x,0,sz,hb,(hm x (by simp)).2.1,(hm x (by simp)).2.2,DEl.close K (hm x (by simp)).1 (fun y hy=>hm y (by simp [hy])) he⟩
 |S,.agg cs,v,hm,h=>by
  obtain ⟨vs,hv,h⟩:=h
  exact ⟨vs,hv,DCs.close K hm h⟩
 |S,.fp c off,v,hm,h=>CRel.keep K h.2
 |S,.func f cs,v,hm,h=>CRel.keep K h.2
 |_,.nilp,_,_,h=>h.2
 |_,.nilf,_,_,h=>h.2
 |_,.nili,_,_,h=>h.2
 |S,.iface t c,v,hm,h=>CRel.keep K h.2
 |S,.tup cs,v,hm,h=>by
  obtain ⟨vs,hv,h⟩:=h
  exact ⟨vs,hv,DCs.close K hm h⟩
 |S,.fsl xs,v,hm,h=>CRel.keep K h.2
 |S,.slq q xs,v,hm,h=>CRel.keep K h.2
theorem DCs.close (K:Keep N N' w w'):∀ {fl:Bool} {S:List Nat} {cs:List CVal} {vs:List Value},(∀ x ∈ S,w'.heap[x]? = w.heap[x]?∧¬ N' x∧x < w'.heap.size)→DCs N w fl S cs vs→CsRel N' w' fl cs vs
 |_,_,[],_,_,h=>h.2
 |_,_,c :: r,vs,hm,h=>by
  obtain ⟨S1,S2,u,us,rfl,hv,hc,hf,h⟩:=h
  exact ⟨u,us,hv,DRel.close K (fun x hx=>hm x (by simp [hx])) hc,hf,DCs.close K (fun x hx=>hm x (by simp [hx])) h⟩
theorem DEl.close (K:Keep N N' w w'):∀ {sz b o:Nat} {S:List Nat} {cs:List CVal},w'.heap[b]? = w.heap[b]?→(∀ x ∈ S,w'.heap[x]? = w.heap[x]?∧¬ N' x∧x < w'.heap.size)→DEl N w sz b o S cs→ElRel N' w' sz b o cs
 |_,_,_,_,[],_,_,_=>trivial
 |sz,b,o,_,c :: r,hb,hm,h=>by
  obtain ⟨S1,S2,rfl,⟨u,ht,hc,hz,hj⟩,h⟩:=h
  exact ⟨⟨u,ht,DRel.close K (fun x hx=>hm x (by simp [hx])) hc,hz,fun j h=>by rw [cell_block hb];exact hj j h⟩,DEl.close K hb (fun x hx=>hm x (by simp [hx])) h⟩
end
theorem GRel.keep {d:Bool} (K:Keep N N' w w') {S:List Nat} {c:CVal} {v:Value} (hm:∀ x ∈ S,w'.heap[x]? = w.heap[x]?) (h:GRel d N w S c v):GRel d N' w' S c v:=by
 cases d
 ·exact ⟨h.1,CRel.keep K h.2⟩
 ·exact DRel.keep K hm h
theorem GEl.keep {d:Bool} (K:Keep N N' w w') {sz b:Nat}:∀ {o:Nat} {S:List Nat} {cs:List CVal},w'.heap[b]? = w.heap[b]?→(∀ x ∈ S,w'.heap[x]? = w.heap[x]?)→GEl d N w sz b o S cs→GEl d N' w' sz b o S cs
 |_,_,[],_,_,h=>h
 |o,_,c :: r,hb,hm,h=>by
  obtain ⟨S1,S2,rfl,⟨u,ht,hc,hz,hj⟩,h⟩:=h
  exact ⟨S1,S2,rfl,⟨u,ht,GRel.keep K (fun x hx=>hm x (by simp [hx])) hc,hz,fun j h=>by rw [cell_block hb];exact hj j h⟩,GEl.keep K hb (fun x hx=>hm x (by simp [hx])) h⟩
theorem GEl.ofD {sz b:Nat}:∀ {o:Nat} {S:List Nat} {cs:List CVal},DEl N w sz b o S cs→GEl true N w sz b o S cs
 |_,_,[],h=>h
 |_,_,c :: r,⟨S1,S2,e,h1,h⟩=>⟨S1,S2,e,h1,GEl.ofD h⟩
theorem GEl.toD {sz b:Nat}:∀ {o:Nat} {S:List Nat} {cs:List CVal},GEl true N w sz b o S cs→DEl N w sz b o S cs
 |_,_,[],h=>h
 |_,_,c :: r,⟨S1,S2,e,h1,h⟩=>⟨S1,S2,e,h1,GEl.toD h⟩
theorem GEl.ofE {sz b:Nat}:∀ {o:Nat} {cs:List CVal},ElRel N w sz b o cs→GEl false N w sz b o [] cs
 |_,[],h=>rfl
 |_,c :: r,⟨⟨u,h1,h2,h3⟩,h⟩=>⟨[],[],rfl,⟨u,h1,⟨rfl,h2⟩,h3⟩,GEl.ofE h⟩
theorem GEl.toE {sz b:Nat}:∀ {o:Nat} {S:List Nat} {cs:List CVal},GEl false N w sz b o S cs→ElRel N w sz b o cs∧S=[]
 |_,_,[],h=>⟨trivial,h⟩
 |_,_,c :: r,⟨S1,S2,e,⟨u,h1,⟨h2,h2'⟩,h3⟩,h⟩=>⟨⟨⟨u,h1,h2',h3⟩,(GEl.toE h).1⟩,by rw [e,h2,(GEl.toE h).2];rfl⟩
theorem HCs.keep {hv:Value} (K:Keep N N' w w'):∀ {off:Nat} {S:List Nat} {cs:List CVal} {vs:List Value},(∀ x ∈ S,w'.heap[x]? = w.heap[x]?)→HCs N w hv off S cs vs→HCs N' w' hv off S cs vs
 |_,_,[],_,_,h=>by simp [HCs] at h
 |0,_,c :: r,vs,hm,h=>by
  obtain ⟨us,hv,hc,hf,h⟩:=h
  exact ⟨us,hv,hc,hf,DCs.keep K hm h⟩
 |off + 1,_,c :: r,vs,hm,h=>by
  obtain ⟨S1,S2,u,us,rfl,hv,hc,hf,h⟩:=h
  exact ⟨S1,S2,u,us,rfl,hv,DRel.keep K (fun x hx=>hm x (by simp [hx])) hc,hf,HCs.keep K (fun x hx=>hm x (by simp [hx])) h⟩
theorem HRel.keep {off:Nat} {hv:Value} (K:Keep N N' w w') {S:List Nat} {c:CVal} {u:Value} (hm:∀ x ∈ S,w'.heap[x]? = w.heap[x]?) (h:HRel N w off hv S c u):HRel N' w' off hv S c u:=by
 rcases h with ⟨cs,vs,h1,h2,h3⟩ | h
 ·exact .inl ⟨cs,vs,h1,h2,HCs.keep K hm h3⟩
 ·exact .inr h
theorem HEl.keep {off:Nat} {hv:Value} (K:Keep N N' w w') {sz b:Nat}:∀ {idx o:Nat} {S:List Nat} {cs:List CVal},w'.heap[b]? = w.heap[b]?→(∀ x ∈ S,w'.heap[x]? = w.heap[x]?)→HEl N w off hv sz b idx o S cs→HEl N' w' off hv sz b idx o S cs
 |_,_,_,[],_,_,h=>by simp [HEl] at h
 |0,o,_,c :: r,hb,hm,h=>by
  obtain ⟨S1,S2,rfl,⟨u,ht,hc,hz,hj⟩,h⟩:=h
  exact ⟨S1,S2,rfl,⟨u,ht,HRel.keep K (fun x hx=>hm x (by simp [hx])) hc,hz,fun j h=>by rw [cell_block hb];exact hj j h⟩,DEl.keep K hb (fun x hx=>hm x (by simp [hx])) h⟩
 |idx + 1,o,_,c :: r,hb,hm,h=>by
  obtain ⟨S1,S2,rfl,⟨u,ht,hc,hz,hj⟩,h⟩:=h
  exact ⟨S1,S2,rfl,⟨u,ht,DRel.keep K (fun x hx=>hm x (by simp [hx])) hc,hz,fun j h=>by rw [cell_block hb];exact hj j h⟩,HEl.keep K hb (fun x hx=>hm x (by simp [hx])) h⟩
end
structure VerOk (w:World) (blk:Blk) (h:Hd) (w':World) (blk':Blk) (h':Hd):Prop where
 le:blk.ver ≤ blk'.ver
 nn:h ≠ .none→h' ≠ .none
 box:∀ x,h=.box x→h'=.box x
 same:blk'.ver=blk.ver→isArr blk'.body=true→h ≠ .none→isArr blk.body=true∧h'.head=h.head
 dead:alive blk.body=false→alive blk'.body=false∧h'=h
 fix:isFix blk.body=true→h'.head=h.head∧(alive blk'.body=true→isFix blk'.body=true)
 inn:blk'.ver=blk.ver→∀ m' sz' xs',cont blk'.body=some (m',sz',xs')→h ≠ .none→∃ m xs,cont blk.body=some (m,sz',xs)∧m.sv ≤ m'.sv∧
  (m'.sv=m.sv→m'.deep=true→m.deep=true∧∀ idx off,slAt xs' idx off→slAt xs idx off∧∀ x len cap rs S,h=.arr (some (pl x 0)) len cap sz' rs S→cap ≠ 0→w'.cell? (pl x (idx * sz' + off))=w.cell? (pl x (idx * sz' + off)))
theorem VerOk.refl {w w':World} {blk:Blk} {h:Hd} (hm:∀ x ∈ h.own,w'.heap[x]? = w.heap[x]?):VerOk w blk h w' blk h:=
 ⟨Nat.le_refl _,id,fun _ h=>h,fun _ h _=>⟨h,rfl⟩,fun h=>⟨h,rfl⟩,fun h=>⟨rfl,fun _=>h⟩,fun _ m' sz' xs' hc _=>⟨m',xs',hc,Nat.le_refl _,fun _ hd=>⟨hd,fun idx off hs=>⟨hs,fun x len cap rs S e h0=>by
  subst e
  exact cell_block (hm x (by simp [Hd.own,h0,pl])) _⟩⟩⟩⟩
structure Upd2 (F G:Nat→Prop) (w:World) (μ:List Hd) (b:List Blk) (w':World) (μ':List Hd) (b':List Blk):Prop where
 len0:μ.length=b.length
 len:μ'.length=b'.length
 old:∀ (i:Nat) (blk:Blk) (h:Hd),b[i]? = some blk→μ[i]? = some h→∃ (blk':Blk) (h':Hd),b'[i]? = some blk'∧μ'[i]? = some h'∧VerOk w blk h w' blk' h'
 size:w.heap.size ≤ w'.heap.size
 own2:∀ x,Own μ' b' x→¬ G x∧x < w'.heap.size∧(w.heap.size ≤ x∨Own μ b x∨F x)
 gs:∀ x,G x→w.heap.size ≤ x∨F x∨Own μ b x
 mem2:∀ x,x < w.heap.size→¬ Own μ b x→¬ (F x∧¬ G x)→w'.heap[x]? = w.heap[x]?
abbrev Upd (F:Nat→Prop):=Upd2 F F
section
variable {F G:Nat→Prop} {w w':World} {μ μ':List Hd} {b b':List Blk}
theorem Upd2.own (U:Upd F w μ b w' μ' b'):∀ x,Own μ' b' x→x < w'.heap.size∧(w.heap.size ≤ x∨Own μ b x):=fun x hx=>by
 obtain ⟨h1,h2,h3⟩:=U.own2 x hx
 exact ⟨h2,h3.imp id fun h=>h.resolve_right h1⟩
theorem Upd2.mem (U:Upd F w μ b w' μ' b'):∀ x,x < w.heap.size→¬ Own μ b x→w'.heap[x]? = w.heap[x]?:=fun x hx hn=>U.mem2 x hx hn fun h=>h.2 h.1
theorem Upd2.keep (U:Upd2 F G w μ b w' μ' b'):Keep (Or F (Own μ b)) (Or G (Own μ' b')) w w':=
 ⟨U.size,fun x hx hn=>⟨U.mem2 x hx (fun h=>hn (.inr h)) fun h=>hn (.inl h.1),fun h=>by
  rcases h with h | h
  ·rcases U.gs x h with h' | h' | h'
   ·omega
   ·exact hn (.inl h')
   ·exact hn (.inr h')
  ·rcases (U.own2 x h).2.2 with h' | h' | h'
   ·omega
   ·exact hn (.inr h')
   ·exact hn (.inl h')⟩⟩
theorem InOk.upd {blk blk':Blk} {h h':Hd} (V:VerOk w blk h w' blk' h') (hn:h ≠ .none) (he:blk'.ver=blk.ver) {sv idx off:Nat} {p:Value→Prop} (k:InOk w h blk.body sv idx off p):InOk w' h' blk'.body sv idx off p:=by
 intro m' sz' xs' hc
 obtain ⟨m,xs,hc0,hle,hin⟩:=V.inn he m' sz' xs' hc hn
 obtain ⟨h1,h2⟩:=k m sz' xs hc0
 refine ⟨by omega,fun hsv hd hs=>?_⟩
 have e:m'.sv=m.sv:=by omega
 obtain ⟨hd0,hin⟩:=hin e hd
 obtain ⟨hs0,hcell⟩:=hin idx off hs
 obtain ⟨x,len,cap,rs,S,hv,rfl,h0,hw,hp⟩:=h2 (by omega) hd0 hs0
 have harr:isArr blk'.body=true:=by
  cases hb:blk'.body<;>simp [hb,cont] at hc<;>rfl
 obtain ⟨_,hh⟩:=V.same he harr hn
 cases h' with
 |arr base' len' cap' sz'' rs' S'=>
  simp only [Hd.head,Hd.arr.injEq] at hh
  obtain ⟨rfl,rfl,rfl,rfl,rfl,_⟩:=hh
  exact ⟨x,_,_,_,S',hv,rfl,h0,by rw [hcell x _ _ _ S rfl h0];exact hw,hp⟩
 |_=>simp [Hd.head] at hh
mutual
theorem ARel.upd (U:Upd2 F G w μ b w' μ' b'):∀ {x:AVal} {v:Value},ARel (Or F (Own μ b)) w μ b x v→ARel (Or G (Own μ' b')) w' μ' b' x v
 |.v c,v,h=>CRel.keep U.keep h
 |.nl,v,h=>h
 |.lptr i off,v,h=>by
  obtain ⟨x,hm,hv⟩:=h
  have hi:i < b.length:=by
   rw [← U.len0]
   exact (List.getElem?_eq_some_iff.1 hm).1
  obtain ⟨blk',h',hb',hm',V⟩:=U.old i b[i] _ (List.getElem?_eq_getElem hi) hm
  exact ⟨x,by rw [hm',V.box x rfl],hv⟩
 |.lel i ver idx off,v,h=>by
  obtain ⟨hfl,blk,hd,hb,hm,hn,hle,hc⟩:=h
  obtain ⟨blk',h',hb',hm',V⟩:=U.old i blk hd hb hm
  refine ⟨hfl,blk',h',hb',hm',V.nn hn,Nat.le_trans hle V.le,fun he ha=>?_⟩
  have e:blk'.ver=blk.ver:=by have:=V.le;omega
  obtain ⟨ha',hh⟩:=V.same e ha hn
  obtain ⟨x,len,cap,sz,rs,S,rfl,h1,h2⟩:=hc (by omega) ha'
  cases h' with
  |arr base' len' cap' sz'' rs' S'=>
   simp only [Hd.head,Hd.arr.injEq] at hh
   obtain ⟨rfl,rfl,rfl,rfl,rfl,_⟩:=hh
   exact ⟨x,_,_,_,_,S',rfl,h1,h2⟩
  |_=>simp [Hd.head] at hh
 |.lref i ver,v,h=>by
  obtain ⟨hfl,blk,hd,hb,hm,hn,hle,hc⟩:=h
  obtain ⟨blk',h',hb',hm',V⟩:=U.old i blk hd hb hm
  refine ⟨hfl,blk',h',hb',hm',V.nn hn,Nat.le_trans hle V.le,fun he ha=>?_⟩
  have e:blk'.ver=blk.ver:=by have:=V.le;omega
  obtain ⟨ha',hh⟩:=V.same e ha hn
  rw [hc (by omega) ha',Hd.val_head hh]
 |.lsub i ver sv idx off,v,h=>by
  obtain ⟨hfl,blk,hd,hb,hm,hn,hle,hc⟩:=h
  obtain ⟨blk',h',hb',hm',V⟩:=U.old i blk hd hb hm
  refine ⟨hfl,blk',h',hb',hm',V.nn hn,Nat.le_trans hle V.le,fun he=>?_⟩
  have e:blk'.ver=blk.ver:=by have:=V.le;omega
  exact InOk.upd V hn e (hc (by omega))
 |.lel2 i ver sv idx off idx2,v,h=>by
  obtain ⟨hfl,blk,hd,hb,hm,hn,hle,hc⟩:=h
  obtain ⟨blk',h',hb',hm',V⟩:=U.old i blk hd hb hm
  refine ⟨hfl,blk',h',hb',hm',V.nn hn,Nat.le_trans hle V.le,fun he=>?_⟩
  have e:blk'.ver=blk.ver:=by have:=V.le;omega
  exact InOk.upd V hn e (hc (by omega))
 |.ltail i ver lo,v,h=>by
  obtain ⟨hfl,blk,hd,hb,hm,hn,hle,hc⟩:=h
  obtain ⟨blk',h',hb',hm',V⟩:=U.old i blk hd hb hm
  refine ⟨hfl,blk',h',hb',hm',V.nn hn,Nat.le_trans hle V.le,fun he ha=>?_⟩
  have e:blk'.ver=blk.ver:=by have:=V.le;omega
  obtain ⟨ha',hh⟩:=V.same e ha hn
  obtain ⟨base,len,cap,sz,rs,S,rfl,h1,h2⟩:=hc (by omega) ha'
  cases h' with
  |arr base' len' cap' sz'' rs' S'=>
   simp only [Hd.head,Hd.arr.injEq] at hh
   obtain ⟨rfl,rfl,rfl,rfl,rfl,_⟩:=hh
   exact ⟨_,_,_,_,_,S',rfl,h1,h2⟩
  |_=>simp [Hd.head] at hh
 |.agg cs,v,h=>by
  obtain ⟨vs,hv,h⟩:=h
  exact ⟨vs,hv,AsRel.upd U h⟩
 |.func f cs,v,h=>by
  obtain ⟨vs,hv,h⟩:=h
  exact ⟨vs,hv,AsRel.upd U h⟩
 |.tup cs,v,h=>by
  obtain ⟨vs,hv,h⟩:=h
  exact ⟨vs,hv,AsRel.upd U h⟩
 |.un,_,_=>trivial
theorem AsRel.upd (U:Upd2 F G w μ b w' μ' b'):∀ {fl:Bool} {cs:List AVal} {vs:List Value},AsRel (Or F (Own μ b)) w μ b fl cs vs→AsRel (Or G (Own μ' b')) w' μ' b' fl cs vs
 |_,[],_,h=>h
 |_,c :: r,vs,h=>by
  obtain ⟨u,us,hv,hc,hf,h⟩:=h
  exact ⟨u,us,hv,ARel.upd U hc,hf,AsRel.upd U h⟩
end
mutual
theorem ARel.keepN {N N':Nat→Prop} (K:Keep N N' w w):∀ {x:AVal} {v:Value},ARel N w μ b x v→ARel N' w μ b x v
 |.v c,v,h=>CRel.keep K h
 |.nl,v,h=>h
 |.lptr i off,v,h=>h
 |.lel i ver idx off,v,h=>h
 |.lref i ver,v,h=>h
 |.lsub i ver sv idx off,v,h=>h
 |.lel2 i ver sv idx off idx2,v,h=>h
 |.ltail i ver lo,v,h=>h
 |.agg cs,v,h=>by
  obtain ⟨vs,hv,h⟩:=h
  exact ⟨vs,hv,AsRel.keepN K h⟩
 |.func f cs,v,h=>by
  obtain ⟨vs,hv,h⟩:=h
  exact ⟨vs,hv,AsRel.keepN K h⟩
 |.tup cs,v,h=>by
  obtain ⟨vs,hv,h⟩:=h
  exact ⟨vs,hv,AsRel.keepN K h⟩
 |.un,_,_=>trivial
theorem AsRel.keepN {N N':Nat→Prop} (K:Keep N N' w w):∀ {fl:Bool} {cs:List AVal} {vs:List Value},AsRel N w μ b fl cs vs→AsRel N' w μ b fl cs vs
 |_,[],_,h=>h
 |_,c :: r,vs,h=>by
  obtain ⟨u,us,hv,hc,hf,h⟩:=h
  exact ⟨u,us,hv,ARel.keepN K hc,hf,AsRel.keepN K h⟩
end
theorem BRel.upd (U:Upd2 F G w μ b w' μ' b') {h:Hd} {bd:Body} (hh:∀ x,x ∈ h.own→alive bd=true→w'.heap[x]? = w.heap[x]?)
  (B:BRel (Or F (Own μ b)) w μ b h bd):BRel (Or G (Own μ' b')) w' μ' b' h bd:=by
 cases bd with
 |dead=>trivial
 |box cs=>
  obtain ⟨x,vs,e,rfl,hw,ha⟩:=B
  exact ⟨x,vs,e,rfl,by rw [hh x (by simp [Hd.own]) rfl];exact hw,AsRel.upd U ha⟩
 |arr m sz xs=>
  obtain ⟨base,cap,rs,S,rfl,hl,hc⟩:=B
  refine ⟨base,cap,rs,S,rfl,hl,?_⟩
  rcases hc with hc | ⟨x,cells,e,h0,rfl,hw,hrs,h1,hnd,h3⟩
  ·exact .inl hc
  ·have h0':cap ≠ 0:=by omega
   have hx:=hh x (by simp [Hd.own,h0',pl]) rfl
   exact .inr ⟨x,cells,e,h0,rfl,by rw [hx];exact hw,hrs,h1,hnd,GEl.keep U.keep hx (fun y hy=>hh y (by simp [Hd.own,h0',hy]) rfl) h3⟩
 |hole m sz xs c idx off k=>
  obtain ⟨hd,hc,hy,cap,rs,S,x,cells,e,hk,rfl,hl,h0,hw,hrs,h1,hnd,hmk,⟨bk,hbk,hcp,hfx⟩,hel⟩:=B
  have h0':cap ≠ 0:=by omega
  have hx:=hh x (by simp [Hd.own,h0',pl]) rfl
  obtain ⟨bk',hk',hbk',hmk',V⟩:=U.old k bk hk hbk hmk
  have hv:hk'.val=hk.val∧CapOk hk'∧(isFix bk'.body=true∨alive bk'.body=false):=by
   rcases hfx with hfx | hfx
   ·obtain ⟨g1,g2⟩:=V.fix hfx
    refine ⟨Hd.val_head g1,CapOk.head g1 hcp,?_⟩
    cases ha:alive bk'.body with
    |true=>exact .inl (g2 ha)
    |false=>exact .inr rfl
   ·obtain ⟨g1,g2⟩:=V.dead hfx
    exact ⟨by rw [g2],by rw [g2];exact hcp,.inr g1⟩
  exact ⟨hd,hc,hy,cap,rs,S,x,cells,e,hk',rfl,hl,h0,by rw [hx];exact hw,hrs,h1,hnd,hmk',⟨bk',hbk',hv.2⟩,by
   rw [hv.1]
   exact HEl.keep U.keep hx (fun y hy=>hh y (by simp [Hd.own,h0',hy]) rfl) hel⟩
structure One (F G:Nat→Prop) (w:World) (μ:List Hd) (b:List Blk) (w':World) (μ':List Hd) (b':List Blk) (k:Nat):Prop where
 rel:Rel F w μ b
 gs:∀ x,G x→F x
 len:μ'.length=b'.length
 grow:b.length ≤ b'.length
 off:∀ i,i < b'.length→i ≠ k→b'[i]? = b[i]?∧μ'[i]? = μ[i]?
 kb:k < b'.length
 at_:∀ blk h,b[k]? = some blk→μ[k]? = some h→∃ (blk':Blk) (h':Hd),b'[k]? = some blk'∧μ'[k]? = some h'∧VerOk w blk h w' blk' h'
 size:w.heap.size ≤ w'.heap.size
 new:∀ (blk':Blk) (h':Hd) x,b'[k]? = some blk'→μ'[k]? = some h'→alive blk'.body=true→x ∈ h'.own→
  x < w'.heap.size∧(w.heap.size ≤ x∨(∃ (blk:Blk) (h:Hd),b[k]? = some blk∧μ[k]? = some h∧alive blk.body=true∧x ∈ h.own)∨(F x∧¬ G x∧¬ Glob.ids x))
 mem:∀ x,x < w.heap.size→(∀ (blk:Blk) (h:Hd),b[k]? = some blk→μ[k]? = some h→alive blk.body=true→x ∉ h.own)→w'.heap[x]? = w.heap[x]?
theorem One.own2 {k:Nat} (O:One F G w μ b w' μ' b' k):∀ x,Own μ' b' x→¬ G x∧x < w'.heap.size∧¬ Glob.ids x∧(w.heap.size ≤ x∨Own μ b x∨F x):=by
 intro x ⟨i,blk,h,hb,ha,hm,ho⟩
 by_cases hk:i=k
 ·subst hk
  obtain ⟨h1,h2⟩:=O.new blk h x hb hm ha ho
  rcases h2 with h2 | ⟨blk0,h0,hb0,hm0,ha0,ho0⟩ | ⟨h2,h3,h4⟩
  ·refine ⟨fun hg=>?_,h1,fun hi=>?_,.inl h2⟩
   ·have:=O.rel.fb x (O.gs x hg);omega
   ·have:=O.rel.fbk.idl x hi;omega
  ·have hown:Own μ b x:=⟨i,blk0,h0,hb0,ha0,hm0,ho0⟩
   exact ⟨fun hg=>(O.rel.fres x hown).1 (O.gs x hg),h1,O.rel.oid x hown,.inr (.inl hown)⟩
  ·exact ⟨h3,h1,h4,.inr (.inr h2)⟩
 ·have hi:i < b'.length:=(List.getElem?_eq_some_iff.1 hb).1
  obtain ⟨e1,e2⟩:=O.off i hi hk
  rw [e1] at hb;rw [e2] at hm
  have hown:Own μ b x:=⟨i,blk,h,hb,ha,hm,ho⟩
  have hx:=(O.rel.fres x hown).2
  exact ⟨fun hg=>(O.rel.fres x hown).1 (O.gs x hg),Nat.lt_of_lt_of_le hx O.size,O.rel.oid x hown,.inr (.inl hown)⟩
theorem One.far {k:Nat} (O:One F G w μ b w' μ' b' k) (i:Nat) (blk:Blk) (h:Hd) (x:Nat) (hne:i ≠ k) (hb:b[i]? = some blk) (hm:μ[i]? = some h) (ha:alive blk.body=true) (ho:x ∈ h.own):w'.heap[x]? = w.heap[x]?:=by
 refine O.mem x (O.rel.fres x ⟨i,blk,h,hb,ha,hm,ho⟩).2 fun blk0 h0 hb0 hm0 ha0 ho0=>hne ?_
 exact O.rel.inj i k blk blk0 h h0 x hb hb0 ha ha0 hm hm0 ho ho0
theorem VerOk.deadRefl {blk:Blk} {h:Hd} (ha:alive blk.body=false):VerOk w blk h w' blk h:=
 ⟨Nat.le_refl _,id,fun _ h=>h,fun _ h _=>⟨h,rfl⟩,fun h=>⟨h,rfl⟩,fun h=>⟨rfl,fun _=>h⟩,fun _ m' sz' xs' hc _=>by cases hb:blk.body<;>simp [hb,alive,cont] at ha hc⟩
theorem One.upd {k:Nat} (O:One F G w μ b w' μ' b' k):Upd2 F G w μ b w' μ' b':=by
 refine ⟨O.rel.len,O.len,?_,O.size,fun x hx=>?_,fun x hx=>.inr (.inl (O.gs x hx)),?_⟩
 ·intro i blk h hb hm
  by_cases hk:i=k
  ·subst hk;exact O.at_ blk h hb hm
  ·have hi:i < b'.length:=Nat.lt_of_lt_of_le (List.getElem?_eq_some_iff.1 hb).1 O.grow
   obtain ⟨e1,e2⟩:=O.off i hi hk
   refine ⟨blk,h,by rw [e1];exact hb,by rw [e2];exact hm,?_⟩
   cases ha:alive blk.body with
   |true=>exact .refl fun x hx=>O.far i blk h x hk hb hm ha hx
   |false=>exact .deadRefl ha
 ·obtain ⟨h1,h2,_,h3⟩:=O.own2 x hx
  exact ⟨h1,h2,h3⟩
 ·intro x hx hn _
  refine O.mem x hx fun blk h hb hm ha ho=>hn ⟨k,blk,h,hb,ha,hm,ho⟩
theorem One.done {k:Nat} (O:One F G w μ b w' μ' b' k)
  (hk:∀ (blk':Blk) (h':Hd),b'[k]? = some blk'→μ'[k]? = some h'→BRel (Or G (Own μ' b')) w' μ' b' h' blk'.body):Rel G w' μ' b':=by
 have U:=O.upd
 have hG:Fb G w:=⟨fun x hx=>O.rel.fbk.lt x (O.gs x hx),O.rel.fbk.idl,O.rel.fbk.ok⟩
 refine ⟨O.len,?_,?_,?_,hG.to O.size fun x hx=>O.mem x (O.rel.fbk.idl x hx) fun blk h hb hm ha ho=>O.rel.oid x ⟨k,blk,h,hb,ha,hm,ho⟩ hx,fun x hx=>(O.own2 x hx).2.2.1⟩
 ·intro i blk h hb hm
  by_cases hki:i=k
  ·subst hki;exact hk blk h hb hm
  ·have hi:i < b'.length:=(List.getElem?_eq_some_iff.1 hb).1
   obtain ⟨e1,e2⟩:=O.off i hi hki
   rw [e1] at hb;rw [e2] at hm
   exact BRel.upd U (fun x ho ha=>O.far i blk h x hki hb hm ha ho) (O.rel.blk i blk h hb hm)
 ·have cross:∀ (i:Nat) (blk:Blk) (h:Hd) (blk':Blk) (h':Hd) (x:Nat),i ≠ k→i < b'.length→b'[i]? = some blk→alive blk.body=true→μ'[i]? = some h→x ∈ h.own→
    b'[k]? = some blk'→alive blk'.body=true→μ'[k]? = some h'→x ∈ h'.own→False:=by
   intro i blk h blk' h' x hne hi hb ha hm ho hb' ha' hm' ho'
   obtain ⟨e1,e2⟩:=O.off i hi hne
   rw [e1] at hb;rw [e2] at hm
   have hx:=O.rel.fres x ⟨i,blk,h,hb,ha,hm,ho⟩
   rcases (O.new blk' h' x hb' hm' ha' ho').2 with h1 | ⟨blk0,h0,hb0,hm0,ha0,ho0⟩ | ⟨h1,_⟩
   ·omega
   ·exact hne (O.rel.inj i k blk blk0 h h0 x hb hb0 ha ha0 hm hm0 ho ho0)
   ·exact hx.1 h1
  intro i j blk blk' h h' x hb hb' ha ha' hm hm' ho ho'
  have hi:i < b'.length:=(List.getElem?_eq_some_iff.1 hb).1
  have hj:j < b'.length:=(List.getElem?_eq_some_iff.1 hb').1
  by_cases hik:i=k
  ·by_cases hjk:j=k
   ·rw [hik,hjk]
   ·subst hik;exact (cross j blk' h' blk h x hjk hj hb' ha' hm' ho' hb ha hm ho).elim
  ·by_cases hjk:j=k
   ·subst hjk;exact (cross i blk h blk' h' x hik hi hb ha hm ho hb' ha' hm' ho').elim
   ·obtain ⟨e1,e2⟩:=O.off i hi hik
    obtain ⟨e3,e4⟩:=O.off j hj hjk
    rw [e1] at hb;rw [e2] at hm;rw [e3] at hb';rw [e4] at hm'
    exact O.rel.inj i j blk blk' h h' x hb hb' ha ha' hm hm' ho ho'
 ·intro x hx
  obtain ⟨h1,h2,_⟩:=O.own2 x hx
  exact ⟨h1,h2⟩
theorem One.fr {k:Nat} (O:One F G w μ b w' μ' b' k) (hos:w'.os=w.os) (ht:w'.tape=w.tape) (ho:w'.output=w.output):Fr (Own μ b) w w':=
 ⟨hos,ht,ho,O.size,fun x hx hn=>O.mem x hx fun blk h hb hm ha ho=>hn ⟨k,blk,h,hb,ha,hm,ho⟩⟩
end
end Go.Proofs.Ytognghbhdalckaa.Abs
namespace Go.Proofs.Ytognghbhdalckaa.Abs
open Go
variable [Glob]
theorem br_some {R:Type} {b:Bool} {x y:Option R} {r:R} (h:br b x y=some r):(b=true∧x=some r)∨(b=false∧y=some r):=by
 cases b
 ·exact .inr ⟨rfl,h⟩
 ·exact .inl ⟨rfl,h⟩
theorem br_none {R:Type} {b:Bool} {x:Option R} {r:R} (h:br b x none=some r):b=true∧x=some r:=by
 cases b
 ·cases h
 ·exact ⟨rfl,h⟩
theorem bind_some' {α R:Type} {x:Option α} {f:α→Option R} {r:R} (h:x.bind f=some r):∃ a,x=some a∧f a=some r:=Option.bind_eq_some_iff.1 h
theorem flat_oneCell {v:Value} (h:flat v=true):v.oneCell'=true:=by
 cases v<;>first | rfl | (simp [flat] at h)
section
variable {N:Nat→Prop} {w:World} {μ:List Hd} {b:List Blk}
theorem CsRel.len:∀ {fl:Bool} {cs:List CVal} {vs:List Value},CsRel N w fl cs vs→vs.length=cs.length
 |_,[],_,h=>by rw [show _=[] from h];rfl
 |_,c :: r,_,h=>by
  obtain ⟨u,us,rfl,_,_,h⟩:=h
  simp [CsRel.len h]
theorem CsRel.get:∀ {fl:Bool} {cs:List CVal} {vs:List Value} {i:Nat} {c:CVal},CsRel N w fl cs vs→cs[i]? = some c→∃ v,vs[i]? = some v∧CRel N w c v∧(fl=true→flat v=true)
 |_,[],_,i,_,_,hi=>by simp at hi
 |_,c :: r,_,0,_,h,hi=>by
  obtain ⟨u,us,rfl,hc,hf,h⟩:=h
  simp at hi;subst hi
  exact ⟨u,rfl,hc,hf⟩
 |_,c :: r,_,i + 1,_,h,hi=>by
  obtain ⟨u,us,rfl,hc,hf,h⟩:=h
  obtain ⟨v,h1,h2⟩:=CsRel.get h (by simpa using hi)
  exact ⟨v,by simpa using h1,h2⟩
theorem CsRel.take:∀ {fl:Bool} {cs:List CVal} {vs:List Value} (n:Nat),CsRel N w fl cs vs→CsRel N w fl (cs.take n) (vs.take n)
 |_,[],_,n,h=>by rw [show _=[] from h];simp [CsRel]
 |_,c :: r,_,0,h=>by simp [CsRel]
 |_,c :: r,_,n + 1,h=>by
  obtain ⟨u,us,rfl,hc,hf,h⟩:=h
  exact ⟨u,us.take n,by simp,hc,hf,CsRel.take n h⟩
theorem CsRel.drop:∀ {fl:Bool} {cs:List CVal} {vs:List Value} (n:Nat),CsRel N w fl cs vs→CsRel N w fl (cs.drop n) (vs.drop n)
 |_,[],_,n,h=>by rw [show _=[] from h];simp [CsRel]
 |_,c :: r,_,0,h=>by simpa using h
 |_,c :: r,_,n + 1,h=>by
  obtain ⟨u,us,rfl,hc,hf,h⟩:=h
  simpa using CsRel.drop n h
theorem CsRel.append:∀ {fl:Bool} {cs ds:List CVal} {vs us:List Value},CsRel N w fl cs vs→CsRel N w fl ds us→CsRel N w fl (cs ++ ds) (vs ++ us)
 |_,[],_,_,_,h,k=>by rw [show _=[] from h];simpa using k
 |_,c :: r,_,_,_,h,k=>by
  obtain ⟨u,us',rfl,hc,hf,h⟩:=h
  exact ⟨u,us' ++ _,by simp,hc,hf,CsRel.append h k⟩
theorem AsRel.len:∀ {fl:Bool} {cs:List AVal} {vs:List Value},AsRel N w μ b fl cs vs→vs.length=cs.length
 |_,[],_,h=>by rw [show _=[] from h];rfl
 |_,c :: r,_,h=>by
  obtain ⟨u,us,rfl,_,_,h⟩:=h
  simp [AsRel.len h]
theorem AsRel.get:∀ {fl:Bool} {cs:List AVal} {vs:List Value} {i:Nat} {c:AVal},AsRel N w μ b fl cs vs→cs[i]? = some c→∃ v,vs[i]? = some v∧ARel N w μ b c v∧(fl=true→flat v=true)
 |_,[],_,i,_,_,hi=>by simp at hi
 |_,c :: r,_,0,_,h,hi=>by
  obtain ⟨u,us,rfl,hc,hf,h⟩:=h
  simp at hi;subst hi
  exact ⟨u,rfl,hc,hf⟩
 |_,c :: r,_,i + 1,_,h,hi=>by
  obtain ⟨u,us,rfl,hc,hf,h⟩:=h
  obtain ⟨v,h1,h2⟩:=AsRel.get h (by simpa using hi)
  exact ⟨v,by simpa using h1,h2⟩
theorem AsRel.take:∀ {fl:Bool} {cs:List AVal} {vs:List Value} (n:Nat),AsRel N w μ b fl cs vs→AsRel N w μ b fl (cs.take n) (vs.take n)
 |_,[],_,n,h=>by rw [show _=[] from h];simp [AsRel]
 |_,c :: r,_,0,h=>by simp [AsRel]
 |_,c :: r,_,n + 1,h=>by
  obtain ⟨u,us,rfl,hc,hf,h⟩:=h
  exact ⟨u,us.take n,by simp,hc,hf,AsRel.take n h⟩
theorem AsRel.drop:∀ {fl:Bool} {cs:List AVal} {vs:List Value} (n:Nat),AsRel N w μ b fl cs vs→AsRel N w μ b fl (cs.drop n) (vs.drop n)
 |_,[],_,n,h=>by rw [show _=[] from h];simp [AsRel]
 |_,c :: r,_,0,h=>by simpa using h
 |_,c :: r,_,n + 1,h=>by
  obtain ⟨u,us,rfl,hc,hf,h⟩:=h
  simpa using AsRel.drop n h
theorem AsRel.append:∀ {fl:Bool} {cs ds:List AVal} {vs us:List Value},AsRel N w μ b fl cs vs→AsRel N w μ b fl ds us→AsRel N w μ b fl (cs ++ ds) (vs ++ us)
 |_,[],_,_,_,h,k=>by rw [show _=[] from h];simpa using k
 |_,c :: r,_,_,_,h,k=>by
  obtain ⟨u,us',rfl,hc,hf,h⟩:=h
  exact ⟨u,us' ++ _,by simp,hc,hf,AsRel.append h k⟩
theorem AsRel.splice {fl:Bool} {cs ds:List AVal} {vs us:List Value} (n:Nat) (h:AsRel N w μ b fl cs vs) (k:AsRel N w μ b fl ds us) :
  AsRel N w μ b fl (splice cs n ds) (vs.take n ++ us ++ vs.drop (n + us.length)):=by
 unfold Abs.splice
 rw [k.len]
 exact ((h.take n).append k).append (h.drop _)
theorem CsRel.splice {fl:Bool} {cs ds:List CVal} {vs us:List Value} (n:Nat) (h:CsRel N w fl cs vs) (k:CsRel N w fl ds us) :
  CsRel N w fl (splice cs n ds) (vs.take n ++ us ++ vs.drop (n + us.length)):=by
 unfold Abs.splice
 rw [k.len]
 exact ((h.take n).append k).append (h.drop _)
theorem AsRel.ofC:∀ {fl:Bool} {cs:List CVal} {vs:List Value},CsRel N w fl cs vs→AsRel N w μ b fl (cs.map .v) vs
 |_,[],_,h=>h
 |_,c :: r,_,h=>by
  obtain ⟨u,us,rfl,hc,hf,h⟩:=h
  exact ⟨u,us,rfl,hc,hf,AsRel.ofC h⟩
theorem allV_eq:∀ {cs:List AVal} {xs:List CVal},allV cs=some xs→cs=xs.map .v
 |[],xs,h=>by simp [allV] at h;subst h;rfl
 |.v c :: r,xs,h=>by
  simp only [allV] at h
  obtain ⟨l,hl,h⟩:=bind_some' h
  simp at h;subst h
  simp [allV_eq hl]
 |.nl :: _,_,h=>by simp [allV] at h
 |.lptr _ _ :: _,_,h=>by simp [allV] at h
 |.lel _ _ _ _ :: _,_,h=>by simp [allV] at h
 |.lref _ _ :: _,_,h=>by simp [allV] at h
 |.agg _ :: _,_,h=>by simp [allV] at h
 |.func _ _ :: _,_,h=>by simp [allV] at h
 |.tup _ :: _,_,h=>by simp [allV] at h
 |.un :: _,_,h=>by simp [allV] at h
theorem AsRel.toC:∀ {fl:Bool} {cs:List CVal} {vs:List Value},AsRel N w μ b fl (cs.map .v) vs→CsRel N w fl cs vs
 |_,[],_,h=>h
 |_,c :: r,_,h=>by
  obtain ⟨u,us,rfl,hc,hf,h⟩:=h
  exact ⟨u,us,rfl,hc,hf,AsRel.toC h⟩
theorem mkAgg_rel {cs:List AVal} {vs:List Value} (h:AsRel N w μ b true cs vs):ARel N w μ b (mkAgg cs) (.agg vs.toArray):=by
 unfold mkAgg
 split
 ·rename_i xs hx
  have e:=allV_eq hx
  subst e
  exact ⟨vs,rfl,AsRel.toC h⟩
 ·exact ⟨vs,rfl,h⟩
theorem CRel.cells {c:CVal} {v:Value} (h:CRel N w c v) (hf:(∃ n,c.isAggN n=true)∨c.isFlat=true):∃ vs:List Value,v.cells=vs.toArray∧CsRel N w true c.cells vs:=by
 cases c with
 |agg cs=>
  obtain ⟨vs,rfl,h⟩:=h
  exact ⟨vs,rfl,h⟩
 |tup cs=>rcases hf with ⟨n,hf⟩ | hf<;>simp [CVal.isAggN,CVal.isFlat] at hf
 |_=>
  have hv:flat v=true:=by
   first
    |(rw [show v=_ from h];rfl)
    |(obtain ⟨_,_,rfl,_⟩:=h;rfl)
    |(obtain ⟨_,rfl,_⟩:=h;rfl)
    |(obtain ⟨_,_,_,rfl,_⟩:=h;rfl)
  exact ⟨[v],by rw [cells_flat hv],v,[],rfl,h,fun _=>hv,rfl⟩
theorem CRel.flat {c:CVal} {v:Value} (h:CRel N w c v) (hf:c.isFlat=true):flat v=true:=by
 cases c with
 |agg cs=>simp [CVal.isFlat] at hf
 |tup cs=>simp [CVal.isFlat] at hf
 |_=>
  first
   |(rw [show v=_ from h];rfl)
   |(obtain ⟨_,_,rfl,_⟩:=h;rfl)
   |(obtain ⟨_,rfl,_⟩:=h;rfl)
   |(obtain ⟨_,_,_,rfl,_⟩:=h;rfl)
theorem isAggN_iff {n:Nat} {c:CVal} (h:c.isAggN n=true):∃ cs,c=.agg cs∧cs.length=n:=by
 cases c<;>simp [CVal.isAggN] at h
 exact ⟨_,rfl,h⟩
theorem CRel.fits {agg:Bool} {n:Nat} {c:CVal} {v:Value} (h:CRel N w c v) (hf:c.fits agg n=true) :
  ∃ vs:List Value,v.cells=vs.toArray∧CsRel N w true c.cells vs∧vs.length=n∧(agg=true→v=.agg vs.toArray)∧(agg=false→vs=[v]∧Abs.flat v=true):=by
 cases agg with
 |true=>
  obtain ⟨cs,rfl,hn⟩:=isAggN_iff (show c.isAggN n=true from hf)
  obtain ⟨vs,rfl,h⟩:=h
  exact ⟨vs,rfl,h,by rw [h.len];exact hn,fun _=>rfl,(fun h=>by cases h)⟩
 |false=>
  have hf':c.isFlat=true∧n=1:=by simpa [CVal.fits] using hf
  have hv:=CRel.flat h hf'.1
  refine ⟨[v],by rw [cells_flat hv],?_,by simp [hf'.2],(fun h=>by cases h),fun _=>⟨rfl,hv⟩⟩
  have:c.cells=[c]:=by cases c<;>first | rfl | (simp [CVal.isFlat] at hf')
  rw [this]
  exact ⟨v,[],rfl,h,fun _=>hv,rfl⟩
theorem ElRel.get:∀ {sz x o:Nat} {cs:List CVal} {i:Nat} {c:CVal},ElRel N w sz x o cs→cs[i]? = some c→
  ∃ u,noTup c=true∧CRel N w c u∧u.cells.size=sz∧∀ j,j < sz→w.cell? (pl x (o + i * sz + j))=u.cells[j]?
 |_,_,_,[],i,_,_,hi=>by simp at hi
 |sz,x,o,c :: r,0,_,h,hi=>by
  obtain ⟨⟨u,ht,hc,hz,hj⟩,h⟩:=h
  simp at hi;subst hi
  exact ⟨u,ht,hc,hz,fun j h=>by simpa using hj j h⟩
 |sz,x,o,c :: r,i + 1,_,h,hi=>by
  obtain ⟨_,h⟩:=h
  obtain ⟨u,ht,hc,hz,hj⟩:=ElRel.get h (by simpa using hi)
  exact ⟨u,ht,hc,hz,fun j h=>by rw [← hj j h];congr 2;rw [Nat.add_mul];omega⟩
theorem ElRel.take:∀ {sz x o:Nat} {cs:List CVal} (n:Nat),ElRel N w sz x o cs→ElRel N w sz x o (cs.take n)
 |_,_,_,[],n,h=>by simp [ElRel]
 |_,_,_,c :: r,0,h=>by simp [ElRel]
 |sz,x,o,c :: r,n + 1,h=>by
  obtain ⟨h1,h⟩:=h
  exact ⟨h1,ElRel.take n h⟩
theorem ElRel.drop:∀ {sz x o:Nat} {cs:List CVal} (n:Nat),ElRel N w sz x o cs→ElRel N w sz x (o + n * sz) (cs.drop n)
 |_,_,_,[],n,h=>by simp [ElRel]
 |_,_,_,c :: r,0,h=>by simpa using h
 |sz,x,o,c :: r,n + 1,h=>by
  obtain ⟨h1,h⟩:=h
  have:=ElRel.drop n h
  simp only [List.drop_succ_cons]
  rw [show o + (n + 1) * sz=o + sz + n * sz by rw [Nat.add_mul];omega]
  exact this
theorem ElRel.append:∀ {sz x o:Nat} {cs ds:List CVal},ElRel N w sz x o cs→ElRel N w sz x (o + cs.length * sz) ds→ElRel N w sz x o (cs ++ ds)
 |_,_,_,[],_,h,k=>by simpa using k
 |sz,x,o,c :: r,_,h,k=>by
  obtain ⟨h1,h⟩:=h
  refine ⟨h1,ElRel.append h ?_⟩
  rw [show o + sz + r.length * sz=o + (c :: r).length * sz by simp [Nat.add_mul];omega]
  exact k
theorem pl_add (x o n:Nat):(pl x o).add n=pl x (o + n):=by
 unfold Addr.add pl
 split
 ·subst_vars;simp
 ·simp
end
section
variable {P:Program} {w:World}
theorem run_und {t:TypeId} {d:TypeDesc} (h:P.underlying t=some d):(underlying t).run P w=.ok d w:=by simp [underlying,h]
theorem info_of {t:TypeId} {d:TypeDesc} (h:P.underlying t=some d):∃ i,P.info? t=some i:=by
 unfold Program.underlying at h
 cases hi:P.info? t with
 |none=>simp [hi] at h
 |some i=>exact ⟨i,rfl⟩
theorem run_size {t:TypeId} {d:TypeDesc} (h:P.underlying t=some d):(sizeOf t).run P w=.ok (P.cellsOf t) w:=by
 obtain ⟨i,hi⟩:=info_of h
 simp [sizeOf,typeInfo,hi,Program.cellsOf]
theorem run_agg {t:TypeId} {d:TypeDesc} (h:P.underlying t=some d):(isAgg t).run P w=.ok (aggT P t) w:=by
 simp only [isAgg,Sem.run_bind,run_und h,Result.andThen_ok,aggT,h]
 cases d<;>rfl
theorem run_zero {t:TypeId} {i:TypeInfo} {z:Value} (hi:P.info? t=some i) (hz:i.zero=some z):(zeroValue t).run P w=.ok z w:=by
 simp [zeroValue,typeInfo,hi,hz]
end
end Go.Proofs.Ytognghbhdalckaa.Abs
namespace Go.Proofs.Ytognghbhdalckaa.Abs
open Go
variable [Glob]
section
variable {N:Nat→Prop} {w:World} {μ:List Hd} {b:List Blk}
theorem DRel.flat {S:List Nat} {c:CVal} {v:Value} (h:DRel N w S c v) (hf:c.isFlat=true):Abs.flat v=true:=by
 cases c with
 |agg cs=>simp [CVal.isFlat] at hf
 |tup cs=>simp [CVal.isFlat] at hf
 |sl xs=>obtain ⟨_,_,rfl,_⟩:=h;rfl
 |fp c o=>exact CRel.flat h.2 rfl
 |func f cs=>exact CRel.flat h.2 rfl
 |iface t c=>exact CRel.flat h.2 rfl
 |fsl xs=>exact CRel.flat h.2 rfl
 |slq q xs=>exact CRel.flat h.2 rfl
 |_=>rw [h.2];rfl
theorem DRel.pt {S:List Nat} {c:CVal} {v:Value} (hf:c.isPt=true):DRel N w S c v↔S=[]∧CRel N w c v:=by
 cases c with
 |agg cs=>simp [CVal.isPt] at hf
 |tup cs=>simp [CVal.isPt] at hf
 |sl xs=>simp [CVal.isPt] at hf
 |_=>exact Iff.rfl
theorem CK.pt {k:CK} {c:CVal} (h:k.ok c=true):c.isPt=true:=by
 cases k<;>cases c<;>simp [CK.ok] at h<;>first | rfl | exact h
theorem CK.isFlat {k:CK} {c:CVal} (h:k.ok c=true):c.isFlat=true:=by
 have:=CK.pt h
 cases c<;>simp [CVal.isPt] at this<;>rfl
theorem flat_isFlat {c:CVal} {v:Value} (h:CRel N w c v) (hf:Abs.flat v=true):c.isFlat=true:=by
 cases c with
 |agg cs=>obtain ⟨vs,rfl,_⟩:=h;simp [Abs.flat] at hf
 |tup cs=>obtain ⟨vs,rfl,_⟩:=h;simp [Abs.flat] at hf
 |_=>rfl
theorem toF1_rel {c:CVal} {v:Value} (h:CRel N w c v) (hf:c.isFlat=true):DRel N w [] c.toF1 v:=by
 cases c with
 |agg cs=>simp [CVal.isFlat] at hf
 |tup cs=>simp [CVal.isFlat] at hf
 |sl xs=>exact ⟨rfl,h⟩
 |_=>exact ⟨rfl,h⟩
theorem toF1_rels:∀ {cs:List CVal} {vs:List Value},CsRel N w true cs vs→DCs N w true [] (cs.map CVal.toF1) vs
 |[],_,h=>⟨rfl,h⟩
 |c :: r,_,h=>by
  obtain ⟨u,us,rfl,hc,hf,h⟩:=h
  exact ⟨[],[],u,us,rfl,rfl,toF1_rel hc (flat_isFlat hc (hf rfl)),hf,toF1_rels h⟩
theorem toF_rel {agg:Bool} {n:Nat} {c:CVal} {v:Value} (h:CRel N w c v) (hf:c.fits agg n=true):noTup c.toF=true∧DRel N w [] c.toF v:=by
 cases c with
 |agg cs=>
  obtain ⟨vs,rfl,h⟩:=h
  exact ⟨rfl,vs,rfl,toF1_rels h⟩
 |tup cs=>cases agg<;>simp [CVal.fits,CVal.isAggN,CVal.isFlat] at hf
 |sl xs=>exact ⟨rfl,toF1_rel h rfl⟩
 |_=>exact ⟨rfl,rfl,h⟩
theorem unF1_rel {S:List Nat} {c:CVal} {v:Value} (h:DRel N w S c v) (hp:c.isPt=true):CRel N w c.unF1 v:=by
 cases c with
 |agg cs=>simp [CVal.isPt] at hp
 |tup cs=>simp [CVal.isPt] at hp
 |sl xs=>simp [CVal.isPt] at hp
 |fsl xs=>exact h.2
 |_=>exact h.2
theorem unF1_rels:∀ {fl:Bool} {S:List Nat} {cs:List CVal} {vs:List Value},DCs N w fl S cs vs→cs.all CVal.isPt=true→CsRel N w fl (cs.map CVal.unF1) vs
 |_,_,[],_,h,_=>h.2
 |_,_,c :: r,_,h,hp=>by
  obtain ⟨S1,S2,u,us,rfl,rfl,hc,hf,h⟩:=h
  simp only [List.all_cons,Bool.and_eq_true] at hp
  exact ⟨u,us,rfl,unF1_rel hc hp.1,hf,unF1_rels h hp.2⟩
theorem DCs.len:∀ {fl:Bool} {S:List Nat} {cs:List CVal} {vs:List Value},DCs N w fl S cs vs→vs.length=cs.length
 |_,_,[],_,h=>by rw [h.2];rfl
 |_,_,c :: r,_,h=>by
  obtain ⟨S1,S2,u,us,_,rfl,_,_,h⟩:=h
  simp [DCs.len h]
theorem DCs.flats:∀ {S:List Nat} {cs:List CVal} {vs:List Value},DCs N w true S cs vs→∀ v ∈ vs,Abs.flat v=true
 |_,[],_,h,v,hv=>by rw [h.2] at hv;cases hv
 |_,c :: r,_,h,v,hv=>by
  obtain ⟨S1,S2,u,us,_,rfl,_,hf,h⟩:=h
  rcases List.mem_cons.1 hv with e | e
  ·subst e;exact hf rfl
  ·exact DCs.flats h v e
theorem DCs.cut:∀ {fl:Bool} {S:List Nat} {cs:List CVal} {vs:List Value} (n:Nat),DCs N w fl S cs vs→∃ S1 S2,S=S1 ++ S2∧DCs N w fl S1 (cs.take n) (vs.take n)∧DCs N w fl S2 (cs.drop n) (vs.drop n)
 |_,_,[],_,n,h=>by rw [h.1,h.2];exact ⟨[],[],rfl,by simp [DCs],by simp [DCs]⟩
 |_,S,c :: r,vs,0,h=>⟨[],S,rfl,by simp [DCs],by simpa using h⟩
 |_,_,c :: r,_,n + 1,h=>by
  obtain ⟨S1,S2,u,us,rfl,rfl,hc,hf,h⟩:=h
  obtain ⟨A,B,rfl,h1,h2⟩:=DCs.cut n h
  exact ⟨S1 ++ A,B,by simp,⟨S1,A,u,us.take n,rfl,by simp,hc,hf,h1⟩,by simpa using h2⟩
theorem DCs.append:∀ {fl:Bool} {S T:List Nat} {cs ds:List CVal} {vs us:List Value},DCs N w fl S cs vs→DCs N w fl T ds us→DCs N w fl (S ++ T) (cs ++ ds) (vs ++ us)
 |_,_,_,[],_,_,_,h,k=>by rw [h.1,h.2];simpa using k
 |_,_,T,c :: r,_,_,_,h,k=>by
  obtain ⟨S1,S2,u,us',rfl,rfl,hc,hf,h⟩:=h
  exact ⟨S1,S2 ++ T,u,us' ++ _,by simp,by simp,hc,hf,DCs.append h k⟩
theorem DCs.get:∀ {fl:Bool} {S:List Nat} {cs:List CVal} {vs:List Value} {i:Nat} {c:CVal},DCs N w fl S cs vs→cs[i]? = some c→∃ v T,(∀ x ∈ T,x ∈ S)∧vs[i]? = some v∧DRel N w T c v∧(fl=true→Abs.flat v=true)
 |_,_,[],_,i,_,_,hi=>by simp at hi
 |_,_,c :: r,_,0,_,h,hi=>by
  obtain ⟨S1,S2,u,us,rfl,rfl,hc,hf,h⟩:=h
  simp at hi;subst hi
  exact ⟨u,S1,fun x hx=>by simp [hx],rfl,hc,hf⟩
 |_,_,c :: r,_,i + 1,_,h,hi=>by
  obtain ⟨S1,S2,u,us,rfl,rfl,hc,hf,h⟩:=h
  obtain ⟨v,T,hT,h1,h2⟩:=DCs.get h (by simpa using hi)
  exact ⟨v,T,fun x hx=>by simp [hT x hx],by simpa using h1,h2⟩
theorem DCs.ofOk:∀ {fl:Bool} {ks:List CK} {cs:List CVal} {vs:List Value},CsRel N w fl cs vs→okCells ks cs=true→DCs N w fl [] cs vs
 |_,ks,[],_,h,_=>⟨rfl,h⟩
 |_,[],c :: r,_,h,hk=>by simp [okCells] at hk
 |_,k :: ks,c :: r,_,h,hk=>by
  obtain ⟨u,us,rfl,hc,hf,h⟩:=h
  simp only [okCells,Bool.and_eq_true] at hk
  exact ⟨[],[],u,us,rfl,rfl,(DRel.pt (CK.pt hk.1)).2 ⟨rfl,hc⟩,hf,DCs.ofOk h hk.2⟩
theorem DCs.toOk:∀ {fl:Bool} {S:List Nat} {ks:List CK} {cs:List CVal} {vs:List Value},DCs N w fl S cs vs→okCells ks cs=true→S=[]∧CsRel N w fl cs vs
 |_,_,ks,[],_,h,_=>h
 |_,_,[],c :: r,_,h,hk=>by simp [okCells] at hk
 |_,_,k :: ks,c :: r,_,h,hk=>by
  obtain ⟨S1,S2,u,us,rfl,rfl,hc,hf,h⟩:=h
  simp only [okCells,Bool.and_eq_true] at hk
  obtain ⟨rfl,hc'⟩:=(DRel.pt (CK.pt hk.1)).1 hc
  obtain ⟨rfl,h'⟩:=DCs.toOk h hk.2
  exact ⟨rfl,u,us,rfl,hc',hf,h'⟩
theorem okCells_len:∀ {ks:List CK} {cs:List CVal},okCells ks cs=true→cs.length=ks.length
 |[],[],_=>rfl
 |[],_ :: _,h=>by simp [okCells] at h
 |_ :: _,[],h=>by simp [okCells] at h
 |k :: ks,c :: cs,h=>by
  simp only [okCells,Bool.and_eq_true] at h
  simp [okCells_len h.2]
theorem DRel.shape {S:List Nat} {c:CVal} {v:Value} (h:DRel N w S c v) (hf:noTup c=true):∃ vs:List Value,v.cells=vs.toArray∧DCs N w true S c.cells vs:=by
 cases c with
 |agg cs=>
  obtain ⟨vs,rfl,h⟩:=h
  exact ⟨vs,rfl,h⟩
 |tup cs=>simp [noTup] at hf
 |_=>
  have hv:=DRel.flat h rfl
  exact ⟨[v],cells_flat hv,S,[],v,[],by simp,rfl,h,fun _=>hv,rfl,rfl⟩
theorem CRel.shape {c:CVal} {v:Value} (h:CRel N w c v) (hf:noTup c=true):∃ vs:List Value,v.cells=vs.toArray∧CsRel N w true c.cells vs:=CRel.cells h (noTup_fl hf)
theorem CsRel.flats:∀ {cs:List CVal} {vs:List Value},CsRel N w true cs vs→∀ v ∈ vs,Abs.flat v=true
 |[],_,h,v,hv=>by rw [show _=[] from h] at hv;cases hv
 |c :: r,_,h,v,hv=>by
  obtain ⟨u,us,rfl,_,hf,h⟩:=h
  rcases List.mem_cons.1 hv with e | e
  ·subst e;exact hf rfl
  ·exact CsRel.flats h v e
theorem GRel.shape {d:Bool} {S:List Nat} {c:CVal} {v:Value} (h:GRel d N w S c v) (hf:noTup c=true):∃ vs:List Value,v.cells=vs.toArray∧vs.length=c.cells.length∧∀ z ∈ vs,Abs.flat z=true:=by
 cases d
 ·obtain ⟨vs,h1,h2⟩:=CRel.shape h.2 hf
  exact ⟨vs,h1,h2.len,CsRel.flats h2⟩
 ·obtain ⟨vs,h1,h2⟩:=DRel.shape h hf
  exact ⟨vs,h1,h2.len,DCs.flats h2⟩
theorem fits_len {agg:Bool} {n:Nat} {c:CVal} (h:c.fits agg n=true):c.cells.length=n:=by
 cases agg with
 |true=>
  obtain ⟨cs,rfl,hn⟩:=isAggN_iff (show c.isAggN n=true from h)
  exact hn
 |false=>
  have hf:c.isFlat=true∧n=1:=by simpa [CVal.fits] using h
  cases c<;>simp [CVal.isFlat] at hf<;>simp [CVal.cells,hf]
theorem GRel.size {d:Bool} {S:List Nat} {c:CVal} {v:Value} {agg:Bool} {n:Nat} (h:GRel d N w S c v) (hf:c.fits agg n=true):v.cells.size=n:=by
 obtain ⟨vs,h1,h2,_⟩:=GRel.shape h (fits_noTup hf)
 rw [h1,← fits_len hf,← h2];simp
theorem fitsF_fits {agg:Bool} {ks:List CK} {c:CVal} (h:c.fitsF agg ks=true):c.fits agg ks.length=true:=by
 cases agg with
 |true=>
  cases c<;>simp [CVal.fitsF] at h
  simp [CVal.fits,CVal.isAggN,okCells_len h]
 |false=>
  simp only [CVal.fitsF,cond_false] at h
  have hl:=okCells_len h
  obtain ⟨k,rfl⟩:∃ k,ks=[k]:=by
   match ks,hl with
   |[k],_=>exact ⟨k,rfl⟩
  simp only [okCells,Bool.and_true] at h
  simp [CVal.fits,CK.isFlat h]
theorem GRel.ofF {d:Bool} {agg:Bool} {ks:List CK} {c:CVal} {v:Value} (h:CRel N w c v) (hf:c.fitsF agg ks=true):GRel d N w [] c v:=by
 cases d with
 |false=>exact ⟨rfl,h⟩
 |true=>
  cases agg with
  |true=>
   cases c<;>simp [CVal.fitsF] at hf
   obtain ⟨vs,hv,h⟩:=h
   exact ⟨vs,hv,DCs.ofOk h hf⟩
  |false=>
   simp only [CVal.fitsF,cond_false] at hf
   cases ks with
   |nil=>simp [okCells] at hf
   |cons k ks=>
    simp only [okCells,Bool.and_eq_true] at hf
    exact (DRel.pt (CK.pt hf.1)).2 ⟨rfl,h⟩
theorem DRel.toF {S:List Nat} {agg:Bool} {ks:List CK} {c:CVal} {v:Value} (h:DRel N w S c v) (hf:c.fitsF agg ks=true):S=[]∧CRel N w c v:=by
 cases agg with
 |true=>
  cases c<;>simp [CVal.fitsF] at hf
  obtain ⟨vs,hv,h⟩:=h
  obtain ⟨e,h⟩:=DCs.toOk h hf
  exact ⟨e,vs,hv,h⟩
 |false=>
  simp only [CVal.fitsF,cond_false] at hf
  cases ks with
  |nil=>simp [okCells] at hf
  |cons k ks=>
   simp only [okCells,Bool.and_eq_true] at hf
   exact (DRel.pt (CK.pt hf.1)).1 h
theorem GEl.get {d:Bool} {sz x:Nat}:∀ {o:Nat} {S:List Nat} {cs:List CVal} {i:Nat} {c:CVal},GEl d N w sz x o S cs→cs[i]? = some c→
  ∃ u T,(∀ y ∈ T,y ∈ S)∧noTup c=true∧GRel d N w T c u∧u.cells.size=sz∧∀ j,j < sz→w.cell? (pl x (o + i * sz + j))=u.cells[j]?
 |_,_,[],i,_,_,hi=>by simp at hi
 |o,_,c :: r,0,_,h,hi=>by
  obtain ⟨S1,S2,rfl,⟨u,ht,hc,hz,hj⟩,h⟩:=h
  simp at hi;subst hi
  exact ⟨u,S1,fun y hy=>by simp [hy],ht,hc,hz,fun j h=>by simpa using hj j h⟩
 |o,_,c :: r,i + 1,_,h,hi=>by
  obtain ⟨S1,S2,rfl,_,h⟩:=h
  obtain ⟨u,T,hT,ht,hc,hz,hj⟩:=GEl.get h (by simpa using hi)
  exact ⟨u,T,fun y hy=>by simp [hT y hy],ht,hc,hz,fun j h=>by rw [← hj j h];congr 2;rw [Nat.add_mul];omega⟩
theorem GEl.take {d:Bool} {sz x:Nat}:∀ {o:Nat} {S:List Nat} {cs:List CVal} (n:Nat),GEl d N w sz x o S cs→∃ S1 S2,S=S1 ++ S2∧GEl d N w sz x o S1 (cs.take n)
 |_,_,[],n,h=>⟨[],[],by rw [show _=[] from h];rfl,by simp [GEl]⟩
 |_,S,c :: r,0,h=>⟨[],S,rfl,by simp [GEl]⟩
 |o,_,c :: r,n + 1,h=>by
  obtain ⟨S1,S2,rfl,h1,h⟩:=h
  obtain ⟨A,B,rfl,h'⟩:=GEl.take n h
  exact ⟨S1 ++ A,B,by simp,S1,A,rfl,h1,h'⟩
def GEs (d:Bool) (N:Nat→Prop) (w:World) (sz:Nat):List Nat→List CVal→List Value→Prop
 |S,[],us=>S=[]∧us=[]
 |S,c :: r,us=>∃ S1 S2 u l,S=S1 ++ S2∧us=u :: l∧noTup c=true∧GRel d N w S1 c u∧u.cells.size=sz∧GEs d N w sz S2 r l
def flatC (us:List Value):List Value:=us.flatMap fun u=>u.cells.toList
variable {d:Bool}
theorem GEs.len {sz:Nat}:∀ {S:List Nat} {xs:List CVal} {us:List Value},GEs d N w sz S xs us→us.length=xs.length
 |_,[],_,h=>by rw [h.2];rfl
 |_,c :: r,_,h=>by
  obtain ⟨S1,S2,u,l,_,rfl,_,_,_,h⟩:=h
  simp [GEs.len h]
theorem GEs.sizes {sz:Nat}:∀ {S:List Nat} {xs:List CVal} {us:List Value},GEs d N w sz S xs us→∀ z ∈ us,z.cells.size=sz
 |_,[],_,h,z,hz=>by rw [h.2] at hz;cases hz
 |_,c :: r,_,h,z,hz=>by
  obtain ⟨S1,S2,u,l,_,rfl,_,_,hs,h⟩:=h
  cases hz with
  |head=>exact hs
  |tail _ hz=>exact GEs.sizes h z hz
theorem flatC_len {sz:Nat}:∀ {us:List Value},(∀ z ∈ us,z.cells.size=sz)→(flatC us).length=us.length * sz
 |[],_=>by simp [flatC]
 |u :: l,h=>by
  have:=flatC_len (us:=l) fun z hz=>h z (by simp [hz])
  unfold flatC at *
  simp only [List.flatMap_cons,List.length_append,this,List.length_cons,Nat.add_mul,Array.length_toList,h u (by simp)]
  omega
theorem GEs.flat_len {sz:Nat} {S:List Nat} {xs:List CVal} {us:List Value} (h:GEs d N w sz S xs us):(flatC us).length=xs.length * sz:=by rw [flatC_len h.sizes,h.len]
theorem GEs.append {sz:Nat}:∀ {S T:List Nat} {xs ys:List CVal} {us vs:List Value},GEs d N w sz S xs us→GEs d N w sz T ys vs→GEs d N w sz (S ++ T) (xs ++ ys) (us ++ vs)
 |_,_,[],_,_,_,h,k=>by rw [h.1,h.2];simpa using k
 |_,T,c :: r,_,_,_,h,k=>by
  obtain ⟨S1,S2,u,l,rfl,rfl,h1,h2,h3,h⟩:=h
  exact ⟨S1,S2 ++ T,u,l ++ _,by simp,rfl,h1,h2,h3,GEs.append h k⟩
theorem GEs.keep {N':Nat→Prop} {w':World} (K:Keep N N' w w') {sz:Nat}:∀ {S:List Nat} {xs:List CVal} {us:List Value},(∀ x ∈ S,w'.heap[x]? = w.heap[x]?)→GEs d N w sz S xs us→GEs d N' w' sz S xs us
 |_,[],_,_,h=>h
 |_,c :: r,_,hm,h=>by
  obtain ⟨S1,S2,u,l,rfl,rfl,h1,h2,h3,h⟩:=h
  exact ⟨S1,S2,u,l,rfl,rfl,h1,GRel.keep K (fun x hx=>hm x (by simp [hx])) h2,h3,GEs.keep K (fun x hx=>hm x (by simp [hx])) h⟩
theorem GEs.close {N':Nat→Prop} {w':World} (K:Keep N N' w w') {sz:Nat}:∀ {S:List Nat} {xs:List CVal} {us:List Value},(∀ x ∈ S,w'.heap[x]? = w.heap[x]?∧¬ N' x∧x < w'.heap.size)→GEs d N w sz S xs us→GEs false N' w' sz [] xs us
 |_,[],_,_,h=>⟨rfl,h.2⟩
 |_,c :: r,_,hm,h=>by
  obtain ⟨S1,S2,u,l,rfl,rfl,h1,h2,h3,h⟩:=h
  refine ⟨[],[],u,l,rfl,rfl,h1,⟨rfl,?_⟩,h3,GEs.close K (fun x hx=>hm x (by simp [hx])) h⟩
  cases d
  ·exact CRel.keep K h2.2
  ·exact DRel.close K (fun x hx=>hm x (by simp [hx])) h2
theorem GEs.put {sz x:Nat}:∀ {S:List Nat} {xs:List CVal} {us:List Value} {o:Nat},GEs d N w sz S xs us→
  (∀ j v,(flatC us)[j]? = some v→w.cell? (pl x (o + j))=some v)→GEl d N w sz x o S xs
 |_,[],_,_,h,_=>h.1
 |_,c :: r,_,o,h,hc=>by
  obtain ⟨S1,S2,u,l,rfl,rfl,h1,h2,h3,h⟩:=h
  have hu:u.cells.toList.length=sz:=by simpa using h3
  refine ⟨S1,S2,rfl,⟨u,h1,h2,h3,fun j hj=>?_⟩,GEs.put h fun j v hv=>?_⟩
  ·have e:u.cells[j]? = some (u.cells[j]'(by omega)):=Array.getElem?_eq_getElem (by omega)
   rw [e]
   refine hc j _ ?_
   unfold flatC
   rw [List.flatMap_cons,List.getElem?_append_left (by omega)]
   simp
  ·rw [Nat.add_assoc]
   refine hc (sz + j) v ?_
   unfold flatC at *
   rw [List.flatMap_cons,List.getElem?_append_right (by omega),show sz + j - u.cells.toList.length=j by omega]
   exact hv
theorem GEl.out {sz x:Nat}:∀ {S:List Nat} {xs:List CVal} {o:Nat},GEl d N w sz x o S xs→
  ∃ us,GEs d N w sz S xs us∧∀ j v,(flatC us)[j]? = some v→w.cell? (pl x (o + j))=some v
 |_,[],_,h=>⟨[],⟨h,rfl⟩,fun j v h=>by simp [flatC] at h⟩
 |_,c :: r,o,h=>by
  obtain ⟨S1,S2,rfl,⟨u,h1,h2,h3,hj⟩,h⟩:=h
  obtain ⟨us,he,hc⟩:=GEl.out h
  have hu:u.cells.toList.length=sz:=by simpa using h3
  refine ⟨u :: us,⟨S1,S2,u,us,rfl,rfl,h1,h2,h3,he⟩,fun j v hv=>?_⟩
  unfold flatC at *
  rw [List.flatMap_cons] at hv
  by_cases hlt:j < sz
  ·rw [List.getElem?_append_left (by omega)] at hv
   rw [hj j hlt]
   simpa using hv
  ·rw [List.getElem?_append_right (by omega)] at hv
   have:=hc (j - sz) v (by rw [← hu];exact hv)
   rw [← this];congr 2;omega
theorem GEs.flatAll {sz:Nat}:∀ {S:List Nat} {xs:List CVal} {us:List Value},GEs d N w sz S xs us→∀ v ∈ flatC us,flat v=true
 |_,[],_,h,v,hv=>by rw [h.2] at hv;simp [flatC] at hv
 |_,c :: r,_,h,v,hv=>by
  obtain ⟨S1,S2,u,l,rfl,rfl,h1,h2,h3,h⟩:=h
  unfold flatC at hv
  rw [List.flatMap_cons,List.mem_append] at hv
  rcases hv with hv | hv
  ·obtain ⟨vs,hvs,_,hfl⟩:=GRel.shape h2 h1
   rw [hvs] at hv
   exact hfl v (by simpa using hv)
  ·exact GEs.flatAll h v hv
theorem GEs.size {sz n:Nat} {agg:Bool} {S:List Nat} {xs:List CVal} {us:List Value} (h:GEs d N w sz S xs us) (hf:xs.all (CVal.fits agg n)=true) (hne:xs ≠ []):sz=n:=by
 cases xs with
 |nil=>exact absurd rfl hne
 |cons c r=>
  obtain ⟨S1,S2,u,l,rfl,rfl,h1,h2,h3,h⟩:=h
  simp at hf
  rw [← h3];exact GRel.size h2 hf.1
theorem GEs.get {sz:Nat}:∀ {S:List Nat} {xs:List CVal} {us:List Value} {i:Nat} {c:CVal},GEs d N w sz S xs us→xs[i]? = some c→∃ u T,(∀ x ∈ T,x ∈ S)∧us[i]? = some u∧noTup c=true∧GRel d N w T c u∧u.cells.size=sz
 |_,[],_,i,_,_,hi=>by simp at hi
 |_,c :: r,_,0,_,h,hi=>by
  obtain ⟨S1,S2,u,l,rfl,rfl,h1,h2,h3,h⟩:=h
  simp at hi;subst hi
  exact ⟨u,S1,fun x hx=>by simp [hx],rfl,h1,h2,h3⟩
 |_,c :: r,_,i + 1,_,h,hi=>by
  obtain ⟨S1,S2,u,l,rfl,rfl,_,_,_,h⟩:=h
  obtain ⟨z,T,hT,hz⟩:=GEs.get h (by simpa using hi)
  exact ⟨z,T,fun x hx=>by simp [hT x hx],by simpa using hz⟩
theorem GEs.set {sz:Nat}:∀ {S:List Nat} {xs:List CVal} {us:List Value} {i:Nat} {c:CVal},GEs d N w sz S xs us→xs[i]? = some c→
  ∃ A T B u0,S=A ++ T ++ B∧us[i]? = some u0∧noTup c=true∧GRel d N w T c u0∧u0.cells.size=sz∧
   ∀ (T':List Nat) (c':CVal) (u:Value),noTup c'=true→GRel d N w T' c' u→u.cells.size=sz→GEs d N w sz (A ++ T' ++ B) (xs.set i c') (us.set i u)
 |_,[],_,i,_,_,hi=>by simp at hi
 |_,c :: r,_,0,_,h,hi=>by
  obtain ⟨S1,S2,u,l,rfl,rfl,h1,h2,h3,h⟩:=h
  simp at hi;subst hi
  exact ⟨[],S1,S2,u,rfl,rfl,h1,h2,h3,fun T' c' u' g1 g2 g3=>⟨T',S2,u',l,by simp,rfl,g1,g2,g3,h⟩⟩
 |_,c :: r,_,i + 1,_,h,hi=>by
  obtain ⟨S1,S2,u,l,rfl,rfl,h1,h2,h3,h⟩:=h
  obtain ⟨A,T,B,u0,rfl,hu,k1,k2,k3,k4⟩:=GEs.set h (by simpa using hi)
  exact ⟨S1 ++ A,T,B,u0,by simp,by simpa using hu,k1,k2,k3,fun T' c' u' g1 g2 g3=>⟨S1,A ++ T' ++ B,u,l.set i u',by simp,rfl,h1,h2,h3,k4 T' c' u' g1 g2 g3⟩⟩
theorem GEs.toF {sz n:Nat} {agg:Bool}:∀ {S:List Nat} {xs:List CVal} {us:List Value},GEs false N w sz S xs us→xs.all (CVal.fits agg n)=true→GEs true N w sz [] (xs.map CVal.toF) us
 |_,[],_,h,_=>⟨rfl,h.2⟩
 |_,c :: r,_,h,hf=>by
  obtain ⟨S1,S2,u,l,rfl,rfl,h1,h2,h3,h⟩:=h
  simp only [List.all_cons,Bool.and_eq_true] at hf
  obtain ⟨g1,g2⟩:=toF_rel h2.2 hf.1
  exact ⟨[],[],u,l,rfl,rfl,g1,g2,h3,GEs.toF h hf.2⟩
theorem GEs.any {sz n:Nat} {S:List Nat} {xs:List CVal} {us:List Value} (h:GEs d N w sz S xs us) (hx:xs=[]):GEs d N w n S xs us:=by
 subst hx;exact h
theorem GEs.ofF {sz:Nat} {agg:Bool} {ks:List CK}:∀ {S:List Nat} {xs:List CVal} {us:List Value},GEs false N w sz S xs us→xs.all (CVal.fitsF agg ks)=true→GEs d N w sz [] xs us∧S=[]
 |_,[],_,h,_=>⟨⟨rfl,h.2⟩,h.1⟩
 |_,c :: r,_,h,hf=>by
  obtain ⟨S1,S2,u,l,rfl,rfl,h1,⟨rfl,h2⟩,h3,h⟩:=h
  simp only [List.all_cons,Bool.and_eq_true] at hf
  obtain ⟨g1,rfl⟩:=GEs.ofF h hf.2
  exact ⟨⟨[],[],u,l,rfl,rfl,h1,GRel.ofF h2 hf.1,h3,g1⟩,rfl⟩
theorem HCs.make:∀ {S:List Nat} {cs:List CVal} {vs:List Value} {off:Nat} {ys:List CVal},DCs N w true S cs vs→cs[off]? = some (.sl ys)→
  ∃ A T B hv,S=A ++ T ++ B∧vs[off]? = some hv∧DRel N w T (.sl ys) hv∧HCs N w hv off (A ++ B) cs vs
 |_,[],_,off,_,_,hi=>by simp at hi
 |_,c :: r,_,0,ys,h,hi=>by
  obtain ⟨S1,S2,u,us,rfl,rfl,hc,hf,h⟩:=h
  simp at hi;subst hi
  exact ⟨[],S1,S2,u,rfl,rfl,hc,us,rfl,⟨ys,rfl⟩,hf rfl,h⟩
 |_,c :: r,_,off + 1,ys,h,hi=>by
  obtain ⟨S1,S2,u,us,rfl,rfl,hc,hf,h⟩:=h
  obtain ⟨A,T,B,hv,rfl,hv',hd,hh⟩:=HCs.make h (by simpa using hi)
  exact ⟨S1 ++ A,T,B,hv,by simp,by simpa using hv',hd,S1,A ++ B,u,us,by simp,rfl,hc,hf rfl,hh⟩
theorem HCs.fill {hv:Value} {T:List Nat} {ys:List CVal} (hd:DRel N w T (.sl ys) hv):∀ {S:List Nat} {cs:List CVal} {vs:List Value} {off:Nat},HCs N w hv off S cs vs→
  ∃ A B,S=A ++ B∧DCs N w true (A ++ T ++ B) (cs.set off (.sl ys)) vs
 |_,[],_,off,h=>by simp [HCs] at h
 |S,c :: r,_,0,h=>by
  obtain ⟨us,rfl,_,hf,h⟩:=h
  exact ⟨[],S,rfl,T,S,hv,us,rfl,rfl,hd,fun _=>hf,h⟩
 |_,c :: r,_,off + 1,h=>by
  obtain ⟨S1,S2,u,us,rfl,rfl,hc,hf,h⟩:=h
  obtain ⟨A,B,rfl,h'⟩:=HCs.fill hd h
  exact ⟨S1 ++ A,B,by simp,S1,A ++ T ++ B,u,us,by simp,rfl,hc,fun _=>hf,h'⟩
theorem HRel.make {S:List Nat} {c:CVal} {u:Value} {off:Nat} {ys:List CVal} (h:DRel N w S c u) (hf:noTup c=true) (hi:c.cell off=some (.sl ys)) :
  ∃ A T B hv,S=A ++ T ++ B∧u.cells[off]? = some hv∧DRel N w T (.sl ys) hv∧HRel N w off hv (A ++ B) c u:=by
 cases c with
 |agg cs=>
  obtain ⟨vs,rfl,h⟩:=h
  obtain ⟨A,T,B,hv,e,hv',hd,hh⟩:=HCs.make h hi
  exact ⟨A,T,B,hv,e,by simpa [Value.cells] using hv',hd,.inl ⟨cs,vs,rfl,rfl,hh⟩⟩
 |tup cs=>simp [noTup] at hf
 |sl xs=>
  cases off with
  |zero=>
   simp [CVal.cell,CVal.cells] at hi;subst hi
   have hfl:=DRel.flat h rfl
   exact ⟨[],S,[],u,by simp,by rw [cells_flat hfl];rfl,h,.inr ⟨⟨_,rfl⟩,rfl,rfl,rfl,hfl⟩⟩
  |succ n=>simp [CVal.cell,CVal.cells] at hi
 |_=>cases off<;>simp [CVal.cell,CVal.cells] at hi
theorem HRel.fill {S T:List Nat} {c:CVal} {u hv:Value} {off:Nat} {ys:List CVal} (hd:DRel N w T (.sl ys) hv) (h:HRel N w off hv S c u) :
  ∃ A B,S=A ++ B∧DRel N w (A ++ T ++ B) (c.putCell off (.sl ys)) u:=by
 rcases h with ⟨cs,vs,rfl,rfl,h⟩ | ⟨⟨zs,rfl⟩,rfl,rfl,rfl,hf⟩
 ·obtain ⟨A,B,e,h⟩:=HCs.fill hd h
  exact ⟨A,B,e,vs,rfl,h⟩
 ·exact ⟨[],[],rfl,by simpa [CVal.putCell] using hd⟩
theorem HEl.make {sz x off:Nat} {ys:List CVal} {c:CVal}:∀ {o:Nat} {S:List Nat} {xs:List CVal} {idx:Nat},DEl N w sz x o S xs→xs[idx]? = some c→c.cell off=some (.sl ys)→
  ∃ A T B hv,S=A ++ T ++ B∧DRel N w T (.sl ys) hv∧off < sz∧w.cell? (pl x (o + idx * sz + off))=some hv∧HEl N w off hv sz x idx o (A ++ B) xs
 |_,_,[],idx,_,hi,_=>by simp at hi
 |o,_,e :: r,0,h,hi,hc=>by
  obtain ⟨S1,S2,rfl,⟨u,ht,hu,hz,hj⟩,h⟩:=h
  simp at hi;subst hi
  obtain ⟨A,T,B,hv,rfl,hv',hd,hh⟩:=HRel.make hu ht hc
  have hlt:off < sz:=by
   rw [← hz]
   exact (Array.getElem?_eq_some_iff.1 hv').1
  refine ⟨A,T,B ++ S2,hv,by simp,hd,hlt,by rw [Nat.zero_mul,Nat.add_zero,hj off hlt];exact hv',A ++ B,S2,by simp,⟨u,ht,hh,hz,hj⟩,h⟩
 |o,_,e :: r,idx + 1,h,hi,hc=>by
  obtain ⟨S1,S2,rfl,h1,h⟩:=h
  obtain ⟨A,T,B,hv,rfl,hd,hlt,hcell,hh⟩:=HEl.make h (by simpa using hi) hc
  refine ⟨S1 ++ A,T,B,hv,by simp,hd,hlt,?_,S1,A ++ B,by simp,h1,hh⟩
  rw [← hcell];congr 2;rw [Nat.add_mul];omega
theorem HEl.fill {sz x off:Nat} {T:List Nat} {ys:List CVal} {c:CVal} {hv:Value} (hd:DRel N w T (.sl ys) hv):∀ {o:Nat} {S:List Nat} {xs:List CVal} {idx:Nat},HEl N w off hv sz x idx o S xs→xs[idx]? = some c→
  ∃ A B,S=A ++ B∧DEl N w sz x o (A ++ T ++ B) (xs.set idx (c.putCell off (.sl ys)))
 |_,_,[],idx,h,_=>by simp [HEl] at h
 |o,_,e :: r,0,h,hi=>by
  obtain ⟨S1,S2,rfl,⟨u,ht,hu,hz,hj⟩,h⟩:=h
  simp at hi;subst hi
  obtain ⟨A,B,rfl,hu'⟩:=HRel.fill hd hu
  refine ⟨A,B ++ S2,by simp,A ++ T ++ B,S2,by simp,⟨u,?_,hu',hz,hj⟩,h⟩
  cases e<;>first | rfl | (simp [noTup] at ht)
 |o,_,e :: r,idx + 1,h,hi=>by
  obtain ⟨S1,S2,rfl,h1,h⟩:=h
  obtain ⟨A,B,rfl,h'⟩:=HEl.fill hd h (by simpa using hi)
  exact ⟨S1 ++ A,B,by simp,S1,A ++ T ++ B,by simp,h1,h'⟩
theorem DCs.replace:∀ {S:List Nat} {cs:List CVal} {vs:List Value} {off:Nat} {ys:List CVal},DCs N w true S cs vs→cs[off]? = some (.sl ys)→
  ∃ A T B hv,S=A ++ T ++ B∧vs[off]? = some hv∧DRel N w T (.sl ys) hv∧
   ∀ (N':Nat→Prop) (w':World) (T':List Nat) (ys':List CVal),Keep N N' w w'→(∀ y ∈ A ++ B,w'.heap[y]? = w.heap[y]?)→DRel N' w' T' (.sl ys') hv→DCs N' w' true (A ++ T' ++ B) (cs.set off (.sl ys')) vs
 |_,[],_,off,_,_,hi=>by simp at hi
 |_,c :: r,_,0,ys,h,hi=>by
  obtain ⟨S1,S2,u,us,rfl,rfl,hc,hf,h⟩:=h
  simp at hi;subst hi
  exact ⟨[],S1,S2,u,rfl,rfl,hc,fun N' w' T' ys' K hm hd=>⟨T',S2,u,us,rfl,rfl,hd,hf,DCs.keep K (fun y hy=>hm y (by simpa using hy)) h⟩⟩
 |_,c :: r,_,off + 1,ys,h,hi=>by
  obtain ⟨S1,S2,u,us,rfl,rfl,hc,hf,h⟩:=h
  obtain ⟨A,T,B,hv,rfl,hv',hd,hgo⟩:=DCs.replace h (by simpa using hi)
  exact ⟨S1 ++ A,T,B,hv,by simp,by simpa using hv',hd,fun N' w' T' ys' K hm hd'=>⟨S1,A ++ T' ++ B,u,us,by simp,rfl,DRel.keep K (fun y hy=>hm y (by simp [hy])) hc,hf,
   hgo N' w' T' ys' K (fun y hy=>hm y (by simp at hy ⊢;rcases hy with hy | hy<;>simp [hy])) hd'⟩⟩
theorem DRel.replace {S:List Nat} {c:CVal} {u:Value} {off:Nat} {ys:List CVal} (h:DRel N w S c u) (hf:noTup c=true) (hi:c.cell off=some (.sl ys)) :
  ∃ A T B hv,S=A ++ T ++ B∧u.cells[off]? = some hv∧DRel N w T (.sl ys) hv∧
   ∀ (N':Nat→Prop) (w':World) (T':List Nat) (ys':List CVal),Keep N N' w w'→(∀ y ∈ A ++ B,w'.heap[y]? = w.heap[y]?)→DRel N' w' T' (.sl ys') hv→noTup (c.putCell off (.sl ys'))=true∧DRel N' w' (A ++ T' ++ B) (c.putCell off (.sl ys')) u:=by
 cases c with
 |agg cs=>
  obtain ⟨vs,rfl,h⟩:=h
  obtain ⟨A,T,B,hv,e,hv',hd,hgo⟩:=DCs.replace h hi
  exact ⟨A,T,B,hv,e,by simpa [Value.cells] using hv',hd,fun N' w' T' ys' K hm hd'=>⟨rfl,vs,rfl,hgo N' w' T' ys' K hm hd'⟩⟩
 |tup cs=>simp [noTup] at hf
 |sl xs=>
  cases off with
  |zero=>
   simp [CVal.cell,CVal.cells] at hi;subst hi
   have hfl:=DRel.flat h rfl
   exact ⟨[],S,[],u,by simp,by rw [cells_flat hfl];rfl,h,fun N' w' T' ys' K hm hd'=>⟨rfl,by simpa [CVal.putCell] using hd'⟩⟩
  |succ n=>simp [CVal.cell,CVal.cells] at hi
 |_=>cases off<;>simp [CVal.cell,CVal.cells] at hi
theorem DEl.replace {sz x off:Nat} {ys:List CVal} {c:CVal}:∀ {o:Nat} {S:List Nat} {xs:List CVal} {idx:Nat},DEl N w sz x o S xs→xs[idx]? = some c→c.cell off=some (.sl ys)→
  ∃ A T B hv,S=A ++ T ++ B∧DRel N w T (.sl ys) hv∧off < sz∧w.cell? (pl x (o + idx * sz + off))=some hv∧
   ∀ (N':Nat→Prop) (w':World) (T':List Nat) (ys':List CVal),Keep N N' w w'→w'.heap[x]? = w.heap[x]?→(∀ y ∈ A ++ B,w'.heap[y]? = w.heap[y]?)→DRel N' w' T' (.sl ys') hv→DEl N' w' sz x o (A ++ T' ++ B) (xs.set idx (c.putCell off (.sl ys')))
 |_,_,[],idx,_,hi,_=>by simp at hi
 |o,_,e :: r,0,h,hi,hc=>by
  obtain ⟨S1,S2,rfl,⟨u,ht,hu,hz,hj⟩,h⟩:=h
  simp at hi;subst hi
  obtain ⟨A,T,B,hv,rfl,hv',hd,hgo⟩:=DRel.replace hu ht hc
  have hlt:off < sz:=by
   rw [← hz]
   exact (Array.getElem?_eq_some_iff.1 hv').1
  refine ⟨A,T,B ++ S2,hv,by simp,hd,hlt,by rw [Nat.zero_mul,Nat.add_zero,hj off hlt];exact hv',fun N' w' T' ys' K hx hm hd'=>?_⟩
  obtain ⟨g1,g2⟩:=hgo N' w' T' ys' K (fun y hy=>hm y (by simp at hy ⊢;rcases hy with hy | hy<;>simp [hy])) hd'
  exact ⟨A ++ T' ++ B,S2,by simp,⟨u,g1,g2,hz,fun j h=>by rw [cell_block hx];exact hj j h⟩,DEl.keep K hx (fun y hy=>hm y (by simp [hy])) h⟩
 |o,_,e :: r,idx + 1,h,hi,hc=>by
  obtain ⟨S1,S2,rfl,⟨u,ht,hu,hz,hj⟩,h⟩:=h
  obtain ⟨A,T,B,hv,rfl,hd,hlt,hcell,hgo⟩:=DEl.replace h (by simpa using hi) hc
  refine ⟨S1 ++ A,T,B,hv,by simp,hd,hlt,?_,fun N' w' T' ys' K hx hm hd'=>?_⟩
  ·rw [← hcell];congr 2;rw [Nat.add_mul];omega
  ·exact ⟨S1,A ++ T' ++ B,by simp,⟨u,ht,DRel.keep K (fun y hy=>hm y (by simp [hy])) hu,hz,fun j h=>by rw [cell_block hx];exact hj j h⟩,
    hgo N' w' T' ys' K hx (fun y hy=>hm y (by simp at hy ⊢;rcases hy with hy | hy<;>simp [hy])) hd'⟩
end
end Go.Proofs.Ytognghbhdalckaa.Abs
namespace Go.Proofs.Ytognghbhdalckaa.Abs
open Go
variable [Glob]
structure Post2 (F G:Nat→Prop) (w:World) (μ:List Hd) (b:List Blk) (w':World) (μ':List Hd) (b':List Blk) (x:AVal) (v:Value):Prop where
 upd:Upd2 F G w μ b w' μ' b'
 rel:Rel G w' μ' b'
 val:ARel (Or G (Own μ' b')) w' μ' b' x v
 fr:Fr (Own μ b) w w'
abbrev Post (F:Nat→Prop):=Post2 F F
theorem Upd.refl {F:Nat→Prop} {w:World} {μ:List Hd} {b:List Blk} (R:Rel F w μ b):Upd F w μ b w μ b:=
 ⟨R.len,R.len,fun i blk h hb hm=>⟨blk,h,hb,hm,.refl fun _ _=>rfl⟩,Nat.le_refl _,fun x hx=>⟨(R.fres x hx).1,(R.fres x hx).2,.inr (.inl hx)⟩,fun x hx=>.inr (.inl hx),fun _ _ _ _=>rfl⟩
theorem Upd2.refl {F:Nat→Prop} {w:World} {μ:List Hd} {b:List Blk} (R:Rel F w μ b):Upd F w μ b w μ b:=Upd.refl R
theorem Post2.same {F:Nat→Prop} {w:World} {μ:List Hd} {b:List Blk} {x:AVal} {v:Value} (R:Rel F w μ b) (h:ARel (Or F (Own μ b)) w μ b x v) :
  Post F w μ b w μ b x v:=⟨.refl R,R,h,.refl _ _⟩
theorem Post.same {F:Nat→Prop} {w:World} {μ:List Hd} {b:List Blk} {x:AVal} {v:Value} (R:Rel F w μ b) (h:ARel (Or F (Own μ b)) w μ b x v):Post F w μ b w μ b x v:=Post2.same R h
theorem Hd.head_arr {h:Hd} {base:Option Addr} {len cap sz rs:Nat} {S:List Nat} (e:h.head=(Hd.arr base len cap sz rs S).head):∃ S',h=.arr base len cap sz rs S':=by
 cases h<;>simp [Hd.head] at e
 obtain ⟨rfl,rfl,rfl,rfl,rfl⟩:=e
 exact ⟨_,rfl⟩
theorem isArr_cont {bd:Body} {m:Md} {sz:Nat} {xs:List CVal} (h:cont bd=some (m,sz,xs)):isArr bd=true:=by
 cases bd<;>simp [cont] at h<;>rfl
theorem VerOk.trans {w w1 w2:World} {a b c:Blk} {h k l:Hd} (x:VerOk w a h w1 b k) (y:VerOk w1 b k w2 c l):VerOk w a h w2 c l:=
 ⟨Nat.le_trans x.le y.le,fun n=>y.nn (x.nn n),fun v e=>y.box v (x.box v e),fun e ha hn=>by
  have e1:=x.le
  have e2:=y.le
  obtain ⟨h1,h2⟩:=y.same (by omega) ha (x.nn hn)
  obtain ⟨h3,h4⟩:=x.same (by omega) h1 hn
  exact ⟨h3,by rw [h2,h4]⟩,fun hd=>by
  obtain ⟨h1,rfl⟩:=x.dead hd
  exact y.dead h1,fun hf=>by
  obtain ⟨h1,h2⟩:=x.fix hf
  cases hb:alive b.body with
  |true=>
   obtain ⟨h3,h4⟩:=y.fix (h2 hb)
   exact ⟨h3.trans h1,h4⟩
  |false=>
   obtain ⟨h3,rfl⟩:=y.dead hb
   exact ⟨h1,fun hc=>by rw [h3] at hc;cases hc⟩,fun e m' sz' xs' hc hn=>by
  have e1:=x.le
  have e2:=y.le
  obtain ⟨m1,xs1,hc1,hle1,hin1⟩:=y.inn (by omega) m' sz' xs' hc (x.nn hn)
  obtain ⟨m,xs,hc0,hle,hin⟩:=x.inn (by omega) m1 sz' xs1 hc1 hn
  refine ⟨m,xs,hc0,Nat.le_trans hle hle1,fun hsv hd=>?_⟩
  obtain ⟨hd1,hin1⟩:=hin1 (by omega) hd
  obtain ⟨hd0,hin⟩:=hin (by omega) hd1
  refine ⟨hd0,fun idx off hs=>?_⟩
  obtain ⟨hs1,hcell1⟩:=hin1 idx off hs
  obtain ⟨hs0,hcell⟩:=hin idx off hs1
  refine ⟨hs0,fun z len cap rs S he h0=>?_⟩
  subst he
  obtain ⟨_,hh⟩:=x.same (by omega) (isArr_cont hc1) hn
  obtain ⟨S',rfl⟩:=Hd.head_arr hh
  rw [hcell1 z len cap rs S' rfl h0,hcell z len cap rs S rfl h0]⟩
theorem Upd2.trans2 {F G H:Nat→Prop} {w w1 w2:World} {μ μ1 μ2:List Hd} {b b1 b2:List Blk} (hFG:∀ x,F x→G x) (U:Upd2 F G w μ b w1 μ1 b1) (V:Upd2 G H w1 μ1 b1 w2 μ2 b2) :
  Upd2 F H w μ b w2 μ2 b2:=by
 have own1:∀ x,Own μ1 b1 x→w.heap.size ≤ x∨Own μ b x:=fun x hx=>by
  obtain ⟨h1,_,h3⟩:=U.own2 x hx
  exact h3.imp id fun h=>h.resolve_right fun hf=>h1 (hFG x hf)
 refine ⟨U.len0,V.len,?_,Nat.le_trans U.size V.size,?_,fun x hx=>?_,?_⟩
 ·intro i blk h hb hm
  obtain ⟨blk1,h1,hb1,hm1,v1⟩:=U.old i blk h hb hm
  obtain ⟨blk2,h2,hb2,hm2,v2⟩:=V.old i blk1 h1 hb1 hm1
  exact ⟨blk2,h2,hb2,hm2,v1.trans v2⟩
 ·intro x hx
  obtain ⟨h1,h2,h3⟩:=V.own2 x hx
  refine ⟨h1,h2,?_⟩
  rcases h3 with h3 | h3 | h3
  ·have:=U.size;exact .inl (by omega)
  ·exact (own1 x h3).imp id .inl
  ·exact (U.gs x h3).imp id Or.symm
 ·rcases V.gs x hx with h | h | h
  ·have:=U.size;exact .inl (by omega)
  ·exact U.gs x h
  ·exact (own1 x h).imp id .inr
 ·intro x hx hn hfh
  rw [V.mem2 x (Nat.lt_of_lt_of_le hx U.size) (fun h=>?_) (fun h=>?_),U.mem2 x hx hn fun h=>h.2 (hFG x h.1)]
  ·rcases own1 x h with h' | h'
   ·omega
   ·exact hn h'
  ·rcases U.gs x h.1 with h' | h' | h'
   ·omega
   ·exact hfh ⟨h',h.2⟩
   ·exact hn h'
theorem Upd2.trans {F:Nat→Prop} {w w1 w2:World} {μ μ1 μ2:List Hd} {b b1 b2:List Blk} (U:Upd F w μ b w1 μ1 b1) (V:Upd F w1 μ1 b1 w2 μ2 b2):Upd F w μ b w2 μ2 b2:=U.trans2 (fun _ h=>h) V
theorem Fr.step {F:Nat→Prop} {w w1 w2:World} {μ μ1:List Hd} {b b1:List Blk} (U:Upd F w μ b w1 μ1 b1) (f:Fr (Own μ b) w w1) (g:Fr (Own μ1 b1) w1 w2) :
  Fr (Own μ b) w w2:=
 f.trans g fun x hx ho=>by
  rcases (U.own x ho).2 with h | h
  ·omega
  ·exact h
section
variable {P:Program} {w:World} {F N:Nat→Prop} {μ:List Hd} {b:List Blk}
theorem run_loadVar_agg {t:TypeId} {d:TypeDesc} {x o:Nat} {vs:List Value} (h:P.underlying t=some d) (ha:aggT P t=true) (hn:vs.length=P.cellsOf t)
  (hc:∀ j v,vs[j]? = some v→w.cell? (pl x (o + j))=some v):(loadVar t (pl x o)).run P w=.ok (.agg vs.toArray) w:=by
 have hl:(loadCells (pl x o) (P.cellsOf t)).run P w=.ok vs.toArray w:=by
  rw [← hn]
  exact run_loadCells_list w (pl x o) vs fun j v hj=>by rw [pl_add];exact hc j v hj
 simp [loadVar,run_agg h,ha,run_size h,hl]
theorem run_loadVar_one {t:TypeId} {d:TypeDesc} {x o:Nat} {v:Value} (h:P.underlying t=some d) (ha:aggT P t=false)
  (hc:w.cell? (pl x o)=some v):(loadVar t (pl x o)).run P w=.ok v w:=by
 simp [loadVar,run_agg h,ha,hc]
theorem cell_of_heap {x o:Nat} {vs:List Value} {e:TypeId} {fr:Nat × Nat} (h:w.heap[x]? = some (.cells vs.toArray e fr)):w.cell? (pl x o)=vs[o]?:=by
 simp [World.cell?,pl,h]
theorem Rel.box {i:Nat} {cs:List AVal} (R:Rel F w μ b) (h:boxOf b i=some cs):∃ ver x vs e,b[i]? = some ⟨ver,.box cs⟩∧μ[i]? = some (.box x)∧
  w.heap[x]? = some (.cells (List.toArray vs) e (0,0))∧AsRel (Or F (Own μ b)) w μ b true cs vs∧Own μ b x:=by
 unfold boxOf at h
 split at h
 ·rename_i ver cs' hb
  simp at h;subst h
  have hi:i < μ.length:=by rw [R.len];exact (List.getElem?_eq_some_iff.1 hb).1
  obtain ⟨x,vs,e,hx,hw,ha⟩:=R.blk i _ _ hb (List.getElem?_eq_getElem hi)
  have hm:μ[i]? = some (.box x):=by rw [List.getElem?_eq_getElem hi,hx]
  exact ⟨ver,x,vs,e,hb,hm,hw,ha,i,_,_,hb,rfl,hm,by simp [Hd.own]⟩
 ·cases h
theorem Rel.arr {i ver:Nat} {xs:List CVal} (R:Rel F w μ b) (h:arrOf b i ver=some xs):∃ m sz base cap rs S,b[i]? = some ⟨ver,.arr m sz xs⟩∧μ[i]? = some (.arr base xs.length cap sz rs S)∧
  mdOf b i=m∧szOf b i=sz∧xs.length ≤ cap∧((cap=0∧S=[])∨∃ x cells e,0 < cap∧base=some (pl x 0)∧w.heap[x]? = some (.cells cells e (0,0))∧cells.size=rs∧(m.fix=false→cap * sz ≤ rs)∧(x :: S).Nodup∧
   GEl m.deep (Or F (Own μ b)) w sz x 0 S xs):=by
 unfold arrOf at h
 split at h
 ·rename_i ver' m sz xs' hb
  obtain ⟨h1,h2⟩:=br_none h
  simp at h1 h2;subst h1 h2
  have hi:i < μ.length:=by rw [R.len];exact (List.getElem?_eq_some_iff.1 hb).1
  obtain ⟨base,cap,rs,S,hx,hl,hc⟩:=R.blk i _ _ hb (List.getElem?_eq_getElem hi)
  exact ⟨m,sz,base,cap,rs,S,hb,by rw [List.getElem?_eq_getElem hi,hx],by simp [mdOf,hb],by simp [szOf,hb],hl,hc⟩
 ·cases h
theorem Rel.arrAt {i ver:Nat} {xs:List CVal} {v:Value} (R:Rel F w μ b) (hx:ARel N w μ b (.lref i ver) v) (h:arrOf b i ver=some xs):∃ m sz base cap rs S,v=.slice base xs.length cap∧b[i]? = some ⟨ver,.arr m sz xs⟩∧μ[i]? = some (.arr base xs.length cap sz rs S)∧
  mdOf b i=m∧szOf b i=sz∧xs.length ≤ cap∧((cap=0∧S=[])∨∃ x cells e,0 < cap∧base=some (pl x 0)∧w.heap[x]? = some (.cells cells e (0,0))∧cells.size=rs∧(m.fix=false→cap * sz ≤ rs)∧(x :: S).Nodup∧
   GEl m.deep (Or F (Own μ b)) w sz x 0 S xs):=by
 obtain ⟨m,sz,base,cap,rs,S,hb,hm,h1,h2,h3⟩:=R.arr h
 obtain ⟨_,blk,hh,hb',hm',_,_,hcur⟩:=hx
 rw [hb] at hb';cases hb'
 rw [hm] at hm';cases hm'
 exact ⟨m,sz,base,cap,rs,S,hcur rfl rfl,hb,hm,h1,h2,h3⟩
theorem Rel.elAt {i ver idx off:Nat} {xs:List CVal} {v:Value} (R:Rel F w μ b) (hx:ARel N w μ b (.lel i ver idx off) v) (h:arrOf b i ver=some xs):∃ m sz x cap rs S cells e,v=.pointer (some (pl x (idx * sz + off)))∧idx < xs.length∧
  b[i]? = some ⟨ver,.arr m sz xs⟩∧μ[i]? = some (.arr (some (pl x 0)) xs.length cap sz rs S)∧mdOf b i=m∧szOf b i=sz∧xs.length ≤ cap∧0 < cap∧w.heap[x]? = some (.cells cells e (0,0))∧cells.size=rs∧(m.fix=false→cap * sz ≤ rs)∧(x :: S).Nodup∧
   GEl m.deep (Or F (Own μ b)) w sz x 0 S xs:=by
 obtain ⟨m,sz,base,cap,rs,S,hb,hm,h1,h2,h3,hc⟩:=R.arr h
 obtain ⟨_,blk,hh,hb',hm',_,_,hcur⟩:=hx
 rw [hb] at hb';cases hb'
 rw [hm] at hm';cases hm'
 obtain ⟨x,len,cap',sz',rs',S',he,hidx,hv⟩:=hcur rfl rfl
 cases he
 rcases hc with ⟨h0,_⟩ | ⟨x',cells,e,h0,hbase,hrest⟩
 ·omega
 ·cases hbase
  exact ⟨m,sz,x,cap,rs,S,cells,e,hv,hidx,hb,hm,h1,h2,h3,h0,hrest⟩
theorem Rel.subAt {i ver sv idx off:Nat} {ys:List CVal} (R:Rel F w μ b) (h:subOf b i ver sv idx off=some ys):∃ xs m sz x cap rs S cells e c hv T,arrOf b i ver=some xs∧xs[idx]? = some c∧c.cell off=some (.sl ys)∧m.deep=true∧m.sv=sv∧
  b[i]? = some ⟨ver,.arr m sz xs⟩∧μ[i]? = some (.arr (some (pl x 0)) xs.length cap sz rs S)∧mdOf b i=m∧szOf b i=sz∧xs.length ≤ cap∧0 < cap∧w.heap[x]? = some (.cells cells e (0,0))∧cells.size=rs∧(m.fix=false→cap * sz ≤ rs)∧(x :: S).Nodup∧
   GEl true (Or F (Own μ b)) w sz x 0 S xs∧w.cell? (pl x (idx * sz + off))=some hv∧(∀ y ∈ T,y ∈ S)∧DRel (Or F (Own μ b)) w T (.sl ys) hv:=by
 unfold subOf at h
 obtain ⟨xs,hxs,h⟩:=bind_some' h
 obtain ⟨hd,h⟩:=br_none h
 obtain ⟨c,hc,h⟩:=bind_some' h
 obtain ⟨d,hdc,h⟩:=bind_some' h
 obtain ⟨m,sz,base,cap,rs,S,hb,hm,h1,h2,h3,hcap⟩:=R.arr hxs
 simp only [h1,Bool.and_eq_true,beq_iff_eq] at hd
 cases d<;>simp [CVal.asSl] at h
 subst h
 have hidx:=(List.getElem?_eq_some_iff.1 hc).1
 rcases hcap with ⟨h0,_⟩ | ⟨x,cells,e,h0,rfl,hw,hrs,hz,hnd,hel⟩
 ·omega
 ·rw [hd.1] at hel
  obtain ⟨A,T,B,hv,e1,hdr,_,hcell,_⟩:=HEl.make (GEl.toD hel) hc hdc
  exact ⟨xs,m,sz,x,cap,rs,S,cells,e,c,hv,T,hxs,hc,hdc,hd.1,hd.2,hb,hm,h1,h2,h3,h0,hw,hrs,hz,hnd,hel,by simpa using hcell,fun y hy=>by rw [e1];simp [hy],hdr⟩
theorem ARel.sub {i ver sv idx off:Nat} {v:Value} {m:Md} {sz x len cap rs:Nat} {S:List Nat} {xs:List CVal} {c:CVal} {ys:List CVal} {hv:Value} (hx:ARel N w μ b (.lsub i ver sv idx off) v) (hb:b[i]? = some ⟨ver,.arr m sz xs⟩)
  (hm:μ[i]? = some (.arr (some (pl x 0)) len cap sz rs S)) (hd:m.deep=true) (hs:m.sv=sv) (hc:xs[idx]? = some c) (hdc:c.cell off=some (.sl ys)) (hw:w.cell? (pl x (idx * sz + off))=some hv):v=hv:=by
 obtain ⟨_,blk,hh,hb',hm',_,_,hcur⟩:=hx
 rw [hb] at hb';cases hb'
 rw [hm] at hm';cases hm'
 obtain ⟨_,h⟩:=hcur rfl m sz xs rfl
 obtain ⟨x',_,_,_,_,hv',he,_,hw',hp⟩:=h hs hd ⟨c,ys,hc,hdc⟩
 cases he
 rw [hw] at hw';cases hw'
 exact hp.symm
theorem load_part {t:TypeId} {d:TypeDesc} {R':Type} {c:CVal} {u:Value} {x o off:Nat} {K:AVal→Option R'} {r:R'} (hd:P.underlying t=some d) (hc:CRel N w c u)
  (hj:∀ j,j < u.cells.size→w.cell? (pl x (o + j))=u.cells[j]?) (hfl:(∃ n,c.isAggN n=true)∨c.isFlat=true)
  (h:br (aggT P t) ((c.sub off (P.cellsOf t)).bind fun d=>K (.v d)) ((c.cell off).bind fun d=>K (.v d))=some r) :
  ∃ y,K (.v y)=some r∧∃ v,(loadVar t (pl x (o + off))).run P w=.ok v w∧CRel N w y v:=by
 obtain ⟨vs,hvs,hcs⟩:=CRel.cells hc hfl
 have hcell:∀ j v,vs[j]? = some v→w.cell? (pl x (o + j))=some v:=by
  intro j v hv
  rw [hj j (by rw [hvs];simpa using (List.getElem?_eq_some_iff.1 hv).1),hvs]
  simpa using hv
 rcases br_some h with ⟨ha,h⟩ | ⟨ha,h⟩
 ·obtain ⟨y,hy,h⟩:=bind_some' h
  refine ⟨y,h,?_⟩
  unfold CVal.sub at hy
  rcases br_some hy with ⟨h1,h2⟩ | ⟨h1,h2⟩
  ·simp only [Option.some.injEq] at h2
   simp only [Bool.and_eq_true,decide_eq_true_eq] at h1
   obtain ⟨h0,h1⟩:=h1
   subst h2 h0
   obtain ⟨cs,rfl,hn⟩:=isAggN_iff h1
   obtain ⟨vs',rfl,hcs'⟩:=hc
   have:vs=vs':=by simpa [Value.cells] using hvs.symm
   subst this
   exact ⟨_,run_loadVar_agg hd ha (by rw [hcs'.len];exact hn) (fun j v hv=>by simpa using hcell j v hv),vs,rfl,hcs'⟩
  ·obtain ⟨h1,h2⟩:=br_none h2
   simp only [Option.some.injEq] at h2
   simp only [decide_eq_true_eq] at h1
   subst h2
   have hcs':=(hcs.drop off).take (P.cellsOf t)
   have hlen:=hcs.len
   refine ⟨.agg ((vs.drop off).take (P.cellsOf t)).toArray,run_loadVar_agg hd ha (by rw [hcs'.len];simp;omega) ?_,_,rfl,hcs'⟩
   intro j v hv
   have hj:j < P.cellsOf t:=by
    have:=(List.getElem?_eq_some_iff.1 hv).1
    simp at this;omega
   rw [List.getElem?_take_of_lt hj,List.getElem?_drop] at hv
   rw [Nat.add_assoc]
   exact hcell _ _ hv
 ·obtain ⟨y,hy,h⟩:=bind_some' h
  obtain ⟨v,hv,hr,_⟩:=hcs.get hy
  exact ⟨y,h,v,run_loadVar_one hd ha (hcell _ _ hv),hr⟩
theorem sureAddr_run {a:Addr}:(Instr.sureAddr (.pointer (some a))).run P w=.ok a w:=rfl
theorem wTyp_sound {R':Type} {k:CK} {d:CVal} {K:CVal→Option R'} {r:R'} (h:wTyp k d K=some r):k.ok d=true∧K d=some r:=by
 cases k with
 |int k=>
  obtain ⟨n,hn,h⟩:=bind_some' (x:=d.asInt k) h
  cases d<;>simp [CVal.asInt] at hn
  obtain ⟨rfl,rfl⟩:=hn
  exact ⟨by simp [CK.ok],h⟩
 |bool=>
  obtain ⟨n,hn,h⟩:=bind_some' (x:=d.asBool) h
  cases d<;>simp [CVal.asBool] at hn
  subst hn
  exact ⟨rfl,h⟩
 |str=>
  obtain ⟨n,hn,h⟩:=bind_some' (x:=d.asStr) h
  cases d<;>simp [CVal.asStr] at hn
  subst hn
  exact ⟨rfl,h⟩
 |any=>
  obtain ⟨hp,h⟩:=br_none (b:=d.isPt) h
  exact ⟨by cases d<;>simp [CVal.isPt] at hp<;>rfl,h⟩
 |sl e=>cases h
theorem wTyp1_sound {R':Type} {ks:List CK} {d:CVal} {K:CVal→Option R'} {r:R'} (h:wTyp1 ks d K=some r):∃ (k:CK) (y:CVal),y=d∧k.ok y=true∧K y=some r:=by
 unfold wTyp1 at h
 split at h
 ·rename_i k
  obtain ⟨h1,h2⟩:=wTyp_sound h
  exact ⟨k,d,rfl,h1,h2⟩
 ·cases h
theorem loadK_sound {t:TypeId} {R':Type} {x:AVal} {v:Value} {K:AVal→Option R'} {r:R'} (R:Rel F w μ b) (hx:ARel (Or F (Own μ b)) w μ b x v)
  (h:loadK P t b x K=some r):∃ y,K y=some r∧∃ u,(Instr.loadAt t v).run P w=.ok u w∧ARel (Or F (Own μ b)) w μ b y u:=by
 unfold loadK at h
 split at h
 ·cases h
 rename_i d hd'
 split at h
 ·rename_i i off
  obtain ⟨cs,hcs,h⟩:=bind_some' h
  obtain ⟨ver,x',vs,e,hb,hm,hw,ha,ho⟩:=R.box hcs
  obtain ⟨x'',hm',rfl⟩:=hx
  rw [hm] at hm';cases hm'
  rcases br_some h with ⟨hag,h⟩ | ⟨hag,h⟩
  ·obtain ⟨hl,h⟩:=br_none h
   simp only [decide_eq_true_eq] at hl
   refine ⟨_,h,.agg ((vs.drop off).take (P.cellsOf t)).toArray,?_,?_⟩
   ·have hlen:=ha.len
    simp only [Instr.loadAt,Sem.run_bind,sureAddr_run,Result.andThen_ok]
    refine run_loadVar_agg hd' hag (by simp;omega) fun j v hv=>?_
    have hj:j < P.cellsOf t:=by
     have:=(List.getElem?_eq_some_iff.1 hv).1
     simp at this;omega
    rw [List.getElem?_take_of_lt hj,List.getElem?_drop] at hv
    rw [cell_of_heap hw];exact hv
   ·exact mkAgg_rel ((ha.drop off).take _)
  ·obtain ⟨y,hy,h⟩:=bind_some' h
   obtain ⟨u,hu,hr,_⟩:=ha.get hy
   refine ⟨y,h,u,?_,hr⟩
   simp only [Instr.loadAt,Sem.run_bind,sureAddr_run,Result.andThen_ok]
   exact run_loadVar_one hd' hag (by rw [cell_of_heap hw];exact hu)
 ·rename_i i ver idx off
  obtain ⟨xs,hxs,h⟩:=bind_some' h
  obtain ⟨c,hc,h⟩:=bind_some' h
  obtain ⟨m,sz,x',cap,rs,S,cells,e,rfl,hidx,hb,hm,hmd,hszb,hl,h0,hw,hrs,hz,hnd,hel⟩:=R.elAt hx hxs
  rw [hmd] at h
  obtain ⟨u,T,hT,ht,hcu,hsu,hj⟩:=hel.get hc
  have hfl:=noTup_fl ht
  rcases br_some h with ⟨hd,h⟩ | ⟨hd,h⟩
  ·rw [hd] at hcu
   obtain ⟨us,hus,hcs⟩:=DRel.shape hcu ht
   have hcell:∀ j v,us[j]? = some v→w.cell? (pl x' (idx * sz + j))=some v:=by
    intro j v hv
    have hj':j < sz:=by rw [← hsu,hus];simpa using (List.getElem?_eq_some_iff.1 hv).1
    have:=hj j hj'
    rw [Nat.zero_add] at this
    rw [this,hus];simpa using hv
   rcases br_some h with ⟨hft,h⟩ | ⟨hft,h⟩
   ·rcases br_some h with ⟨hag,h⟩ | ⟨hag,h⟩
    ·obtain ⟨y,hy,h⟩:=bind_some' h
     obtain ⟨hfit,h⟩:=br_none h
     have part:∃ cs',y=.agg cs'∧cs'=(c.cells.drop off).take (P.cellsOf t)∧cs'.length=P.cellsOf t:=by
      unfold CVal.sub at hy
      rcases br_some hy with ⟨h1,h2⟩ | ⟨h1,h2⟩
      ·simp only [Option.some.injEq] at h2
       simp only [Bool.and_eq_true,decide_eq_true_eq] at h1
       obtain ⟨h0',h1⟩:=h1
       subst h2 h0'
       obtain ⟨cs,rfl,hn⟩:=isAggN_iff h1
       exact ⟨cs,rfl,by simp [CVal.cells,← hn],hn⟩
      ·obtain ⟨h1,h2⟩:=br_none h2
       simp only [Option.some.injEq] at h2
       simp only [decide_eq_true_eq] at h1
       exact ⟨_,h2.symm,rfl,by simp;omega⟩
     obtain ⟨cs',rfl,rfl,hlen⟩:=part
     obtain ⟨S1,S2,rfl,_,hcs2⟩:=DCs.cut off hcs
     obtain ⟨S3,S4,rfl,hcs3,_⟩:=DCs.cut (P.cellsOf t) hcs2
     have hok:okCells (cks P t) ((c.cells.drop off).take (P.cellsOf t))=true:=hfit
     obtain ⟨_,hcr⟩:=DCs.toOk hcs3 hok
     refine ⟨_,h,.agg ((us.drop off).take (P.cellsOf t)).toArray,?_,_,rfl,hcr⟩
     simp only [Instr.loadAt,Sem.run_bind,sureAddr_run,Result.andThen_ok]
     refine run_loadVar_agg hd' hag (by rw [hcr.len];exact hlen) ?_
     intro j v hv
     have hjj:j < P.cellsOf t:=by
      have:=(List.getElem?_eq_some_iff.1 hv).1
      simp at this;omega
     rw [List.getElem?_take_of_lt hjj,List.getElem?_drop] at hv
     rw [Nat.add_assoc]
     exact hcell _ _ hv
    ·obtain ⟨y,hy,h⟩:=bind_some' h
     obtain ⟨v,T',_,hv,hr,hfv⟩:=hcs.get hy
     obtain ⟨k,y',hk,hok,hK⟩:=wTyp1_sound h
     subst hk
     obtain ⟨_,hcr⟩:=(DRel.pt (CK.pt hok)).1 hr
     refine ⟨_,hK,v,?_,hcr⟩
     simp only [Instr.loadAt,Sem.run_bind,sureAddr_run,Result.andThen_ok]
     exact run_loadVar_one hd' hag (hcell _ _ hv)
   ·rcases br_some h with ⟨hst,h⟩ | ⟨_,h⟩
    rotate_left
    ·obtain ⟨hag,h⟩:=br_none h
     obtain ⟨y,hy,h⟩:=bind_some' h
     obtain ⟨hp,h⟩:=br_none h
     have part:∃ cs',y=.agg cs'∧cs'=(c.cells.drop off).take (P.cellsOf t)∧cs'.length=P.cellsOf t:=by
      unfold CVal.sub at hy
      rcases br_some hy with ⟨h1,h2⟩ | ⟨h1,h2⟩
      ·simp only [Option.some.injEq] at h2
       simp only [Bool.and_eq_true,decide_eq_true_eq] at h1
       obtain ⟨h0',h1⟩:=h1
       subst h2 h0'
       obtain ⟨cs,rfl,hn⟩:=isAggN_iff h1
       exact ⟨cs,rfl,by simp [CVal.cells,← hn],hn⟩
      ·obtain ⟨h1,h2⟩:=br_none h2
       simp only [Option.some.injEq] at h2
       simp only [decide_eq_true_eq] at h1
       exact ⟨_,h2.symm,rfl,by simp;omega⟩
     obtain ⟨cs',rfl,rfl,hlen⟩:=part
     simp only [CVal.isAgg,CVal.cells,Bool.true_and] at hp
     obtain ⟨S1,S2,rfl,_,hcs2⟩:=DCs.cut off hcs
     obtain ⟨S3,S4,rfl,hcs3,_⟩:=DCs.cut (P.cellsOf t) hcs2
     have hcr:=unF1_rels hcs3 hp
     refine ⟨_,h,.agg ((us.drop off).take (P.cellsOf t)).toArray,?_,_,rfl,hcr⟩
     simp only [Instr.loadAt,Sem.run_bind,sureAddr_run,Result.andThen_ok]
     refine run_loadVar_agg hd' hag (by rw [hcr.len,List.length_map];exact hlen) ?_
     intro j v hv
     have hjj:j < P.cellsOf t:=by
      have:=(List.getElem?_eq_some_iff.1 hv).1
      simp at this;omega
     rw [List.getElem?_take_of_lt hjj,List.getElem?_drop] at hv
     rw [Nat.add_assoc]
     exact hcell _ _ hv
    obtain ⟨y,hy,h⟩:=bind_some' h
    obtain ⟨ys,hys,h⟩:=bind_some' h
    cases y<;>simp [CVal.asSl] at hys
    subst hys
    obtain ⟨v,T',_,hv,hr,hfv⟩:=hcs.get hy
    have hag:aggT P t=false:=by
     unfold isSliceT at hst
     unfold aggT
     split at hst
     ·rename_i e' he';rw [he']
     ·cases hst
    refine ⟨_,h,v,?_,hfv rfl,_,_,hb,hm,by simp,Nat.le_refl _,fun _=>?_⟩
    ·simp only [Instr.loadAt,Sem.run_bind,sureAddr_run,Result.andThen_ok]
     exact run_loadVar_one hd' hag (hcell _ _ hv)
    ·intro m' sz' xs' hcont
     simp only [cont,Option.some.injEq,Prod.mk.injEq] at hcont
     obtain ⟨rfl,rfl,rfl⟩:=hcont
     exact ⟨Nat.le_refl _,fun _ _ _=>⟨x',_,cap,rs,S,v,rfl,by omega,hcell _ _ hv,rfl⟩⟩
  ·rw [hd] at hcu
   obtain ⟨y,hy,u',hr,hyu⟩:=load_part (x:=x') (o:=0 + idx * sz) (off:=off) hd' hcu.2 (fun j hjj=>hj j (by omega)) hfl h
   refine ⟨_,hy,u',?_,hyu⟩
   simp only [Instr.loadAt,Sem.run_bind,sureAddr_run,Result.andThen_ok]
   simpa using hr
 ·rename_i i ver sv idx off idx2
  obtain ⟨hft,h⟩:=br_none h
  simp only [Bool.and_eq_true,Bool.not_eq_true'] at hft
  obtain ⟨ys,hys,h⟩:=bind_some' h
  obtain ⟨d,hdd,h⟩:=bind_some' h
  obtain ⟨xs,m,sz,x',cap,rs,S,cells,e,c,hv,T,hxs,hc,hdc,hdeep,hsv,hb,hm,hmd,hszb,hl,h0,hw,hrs,hz,hnd,hel,hcell,hT,hdr⟩:=R.subAt hys
  obtain ⟨_,blk,hh,hb',hm',_,_,hcur⟩:=hx
  rw [hb] at hb';cases hb'
  rw [hm] at hm';cases hm'
  obtain ⟨_,hcur⟩:=hcur rfl m sz xs rfl
  obtain ⟨x'',_,_,_,_,hv',he,_,hw',y2,len2,cap2,rfl,rfl⟩:=hcur hsv hdeep ⟨c,ys,hc,hdc⟩
  cases he
  rw [hcell] at hw';cases hw'
  obtain ⟨base,cap',hveq,hl2,hor⟩:=hdr
  cases hveq
  have hidx2:=(List.getElem?_eq_some_iff.1 hdd).1
  rcases hor with ⟨h0',_⟩ | ⟨z,cells2,e2,sz2,S2,_,hbase,_,hw2,_,hel2⟩
  ·omega
  cases hbase
  obtain ⟨u,T2,_,ht2,hu,hsz2,hj⟩:=(GEl.ofD hel2).get hdd
  obtain ⟨k,y',hk,hok,hK⟩:=wTyp1_sound h
  subst hk
  obtain ⟨_,hcr⟩:=(DRel.pt (CK.pt hok)).1 hu
  have hfl:=CRel.flat hcr (CK.isFlat hok)
  have h1:sz2=1:=by rw [← hsz2,cells_flat hfl];rfl
  subst h1
  refine ⟨_,hK,u,?_,hcr⟩
  simp only [Instr.loadAt,Sem.run_bind,sureAddr_run,Result.andThen_ok]
  refine run_loadVar_one hd' hft.2 ?_
  have:=hj 0 (by omega)
  rw [cells_flat hfl] at this
  simpa using this
 ·rename_i p
  obtain ⟨q,hq,h⟩:=bind_some' h
  cases p<;>simp [CVal.asFp] at hq
  rename_i c off
  subst hq
  obtain ⟨x',o,u,rfl,hnb,hs,ht,hcu,hj⟩:=hx
  have hfl:=noTup_fl ht
  obtain ⟨y,hy,u',hr,hyu⟩:=load_part (x:=x') (o:=o) (off:=off) hd' hcu hj hfl h
  exact ⟨_,hy,u',by simp only [Instr.loadAt,Sem.run_bind,sureAddr_run,Result.andThen_ok];exact hr,hyu⟩
 ·cases h
end
end Go.Proofs.Ytognghbhdalckaa.Abs

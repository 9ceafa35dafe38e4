/- A part. -/
import Derived.Test.YtognghbhdalckaaWanted
import Derived.Test.YtognghbhdalckaaWantS
set_option linter.unusedVariables false
set_option linter.unusedSimpArgs false
set_option linter.unusedSectionVars false
set_option maxRecDepth 100000
namespace Go.Proofs.Ytognghbhdalckaa.Abs
open Go Go.Proofs
def addP (T c:Nat→Nat→Bool):Nat→Nat→Bool:=fun x y=>T x y || (decide (x ≠ y) && (c x y || c y x))
theorem addP_addP {T c d:Nat→Nat→Bool}:addP (addP T c) d=addP T fun x y=>c x y || d x y:=by
 funext x y
 unfold addP
 dsimp only
 cases T x y<;>cases decide (x ≠ y)<;>cases c x y<;>cases c y x<;>cases d x y<;>cases d y x<;>rfl
theorem addP_none {T:Nat→Nat→Bool}:addP T (fun _ _=>false)=T:=by
 funext x y;simp [addP]
theorem addP_congr {n R:Nat} {T c d:Nat→Nat→Bool} (h:∀ x,x < n→∀ y,y < R→x ≠ y→(c x y || c y x)=(d x y || d y x)):em n R (addP T c)=em n R (addP T d):=by
 refine em_congr fun x hx y hy=>?_
 unfold addP
 by_cases e:x=y
 ·simp [e]
 ·rw [h x hx y hy e]
theorem addP_fun {T c d:Nat→Nat→Bool} (h:∀ x y,x ≠ y→(c x y || c y x)=(d x y || d y x)):addP T c=addP T d:=by
 funext x y
 unfold addP
 by_cases e:x=y
 ·simp [e]
 ·rw [h x y e]
def pairC (a b:Nat):Nat→Nat→Bool:=fun x y=>decide (x=a) && decide (y=b)
theorem upd2 {T:Nat→Nat→Bool} {a b:Nat} (h:a ≠ b):upd (upd T a b) b a=addP T (pairC a b):=by
 funext x y
 unfold upd addP pairC
 by_cases e:x=y
 ·subst e
  by_cases e1:x=a
  ·subst e1;simp [h]
  ·simp [e1]
 ·have e':decide (x ≠ y)=true:=decide_eq_true e
  rw [e',Bool.true_and,Bool.or_assoc,Bool.and_comm (decide (x=b))]
theorem self_pair {T:Nat→Nat→Bool} {a:Nat}:addP T (pairC a a)=T:=by
 funext x y
 unfold addP pairC
 by_cases e:x=y
 ·simp [e]
 ·by_cases e1:x=a
  ·subst e1;have:¬ y=x:=fun h=>e h.symm;simp [this]
  ·simp [e1]
def memB (xs:List Int) (r:Nat):Bool:=xs.any fun k=>decide (k.toNat=r)
def withC (a:Nat) (xs:List Int):Nat→Nat→Bool:=fun x y=>decide (x=a) && memB xs y
theorem withC_cons {T:Nat→Nat→Bool} {a:Nat} {k:Int} {xs:List Int}:addP (addP T (pairC a k.toNat)) (withC a xs)=addP T (withC a (k :: xs)):=by
 rw [addP_addP]
 refine addP_fun fun x y _=>?_
 unfold pairC withC memB
 simp only [List.any_cons]
 rw [show decide (k.toNat=y)=decide (y=k.toNat) by rw [decide_eq_decide];exact eq_comm,show decide (k.toNat=x)=decide (x=k.toNat) by rw [decide_eq_decide];exact eq_comm]
 cases decide (x=a)<;>cases decide (y=a)<;>simp
theorem withC_nil {T:Nat→Nat→Bool} {a:Nat}:addP T (withC a [])=T:=by
 funext x y;simp [addP,withC,memB]
def listC (xs ys:List Int):Nat→Nat→Bool:=fun x y=>memB xs x && memB ys y
theorem listC_cons {T:Nat→Nat→Bool} {k:Int} {xs ys:List Int}:addP (addP T (withC k.toNat ys)) (listC xs ys)=addP T (listC (k :: xs) ys):=by
 rw [addP_addP]
 refine addP_fun fun x y _=>?_
 unfold listC withC
 simp only [memB,List.any_cons]
 rw [show decide (k.toNat=y)=decide (y=k.toNat) by rw [decide_eq_decide];exact eq_comm,show decide (k.toNat=x)=decide (x=k.toNat) by rw [decide_eq_decide];exact eq_comm]
 generalize (xs.any fun k=>decide (k.toNat=x))=A
 generalize (xs.any fun k=>decide (k.toNat=y))=B
 generalize (ys.any fun k=>decide (k.toNat=x))=D
 generalize (ys.any fun k=>decide (k.toNat=y))=H
 cases decide (x=k.toNat)<;>cases decide (y=k.toNat)<;>cases A<;>cases B<;>cases D<;>cases H<;>rfl
theorem listC_nil {T:Nat→Nat→Bool} {ys:List Int}:addP T (listC [] ys)=T:=by
 funext x y;simp [addP,listC,memB]
theorem set_row {R a b:Nat} {T:Nat→Nat→Bool}:(em R R T).set a (CVal.putCell (.sl (rowL R (T a))) 0 (.sl ((rowL R (T a)).set b (.bool true))))=em R R (upd T a b):=em_upd
theorem both_law {R:Nat} {T:Nat→Nat→Bool} {a b:Int} (ha:0 ≤ a∧a.toNat < R) (hb:0 ≤ b∧b.toNat < R) :
  CC f_i_clashes_1 [.v (.int .i64 a),.v (.int .i64 b),.lptr 0 0] [PB.box [.lref 1 0],PB.arr ⟨true,false,0⟩ true 1 (em R R T)]=some (.tup [],[[.sl (em R R (addP T (pairC a.toNat b.toNat)))],[]]):=by
 have hf:∀ b:Bool,CVal.fitsF false [CK.bool] (.bool b)=true:=fun _=>rfl
 apply go_i_clashes_1
 unfold nf_i_clashes_1
 by_cases e:a=b
 ·subst e
  rw [self_pair,decide_eq_true rfl]
  rfl
 ·have hne:a.toNat ≠ b.toNat:=by omega
  simp only [decide_eq_false e,Bool.not_false,br_true',decide_eq_true ha.1,decide_eq_true hb.1,Bool.and_true,em_len,decide_eq_true ha.2,decide_eq_true hb.2,em_get ha.2,em_get hb.2,Option.bind_some,cell_sl,asSl_sl,rowL_len,rowL_get hb.2,hf,set_row,rowL_get ha.2]
  rw [upd2 hne]
theorem Pair_law {R:Nat} {T:Nat→Nat→Bool} {a b:Int} (ha:0 ≤ a∧a.toNat < R) (hb:0 ≤ b∧b.toNat < R) :
  CC f_s_l11Pair [.lref 0 0,.v (.int .i64 a),.v (.int .i64 b)] [PB.arr ⟨true,true,0⟩ false 1 (em R R T)]=some (.tup [],[em R R (addP T (pairC a.toNat b.toNat))]):=by
 have hf:∀ b:Bool,CVal.fitsF false [CK.bool] (.bool b)=true:=fun _=>rfl
 apply go_s_l11Pair
 unfold nf_s_l11Pair
 by_cases e:a=b
 ·subst e
  rw [self_pair,decide_eq_true rfl]
  rfl
 ·have hne:a.toNat ≠ b.toNat:=by omega
  simp only [decide_eq_false e,Bool.not_false,br_true',decide_eq_true ha.1,decide_eq_true hb.1,Bool.and_true,em_len,decide_eq_true ha.2,decide_eq_true hb.2,em_get ha.2,em_get hb.2,Option.bind_some,cell_sl,asSl_sl,rowL_len,rowL_get hb.2,hf,set_row,rowL_get ha.2]
  rw [upd2 hne]
end Go.Proofs.Ytognghbhdalckaa.Abs

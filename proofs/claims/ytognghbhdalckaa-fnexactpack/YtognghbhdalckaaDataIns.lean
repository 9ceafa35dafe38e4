/- A part. -/
import Derived.Test.YtognghbhdalckaaData
set_option linter.unusedVariables false
set_option linter.unusedSectionVars false
set_option linter.unusedSimpArgs false
namespace Go.Proofs.Ytognghbhdalckaa.Abs
open Go
inductive Ins where
 |mk (op:Int) (d:Int) (x:Int) (y:Int) (n:Int) (l:List Int) (to:Int)
 deriving Inhabited
namespace Ins
def op:Ins→Int | .mk op _ _ _ _ _ _=>op
def d:Ins→Int | .mk _ d _ _ _ _ _=>d
def x:Ins→Int | .mk _ _ x _ _ _ _=>x
def y:Ins→Int | .mk _ _ _ y _ _ _=>y
def n:Ins→Int | .mk _ _ _ _ n _ _=>n
def l:Ins→List Int | .mk _ _ _ _ _ l _=>l
def to:Ins→Int | .mk _ _ _ _ _ _ to=>to
@[simp] theorem op_mk {op:Int} {d:Int} {x:Int} {y:Int} {n:Int} {l:List Int} {to:Int}:(Ins.mk op d x y n l to).op=op:=rfl
@[simp] theorem d_mk {op:Int} {d:Int} {x:Int} {y:Int} {n:Int} {l:List Int} {to:Int}:(Ins.mk op d x y n l to).d=d:=rfl
@[simp] theorem x_mk {op:Int} {d:Int} {x:Int} {y:Int} {n:Int} {l:List Int} {to:Int}:(Ins.mk op d x y n l to).x=x:=rfl
@[simp] theorem y_mk {op:Int} {d:Int} {x:Int} {y:Int} {n:Int} {l:List Int} {to:Int}:(Ins.mk op d x y n l to).y=y:=rfl
@[simp] theorem n_mk {op:Int} {d:Int} {x:Int} {y:Int} {n:Int} {l:List Int} {to:Int}:(Ins.mk op d x y n l to).n=n:=rfl
@[simp] theorem l_mk {op:Int} {d:Int} {x:Int} {y:Int} {n:Int} {l:List Int} {to:Int}:(Ins.mk op d x y n l to).l=l:=rfl
@[simp] theorem to_mk {op:Int} {d:Int} {x:Int} {y:Int} {n:Int} {l:List Int} {to:Int}:(Ins.mk op d x y n l to).to=to:=rfl
theorem eta (t:Ins):Ins.mk t.op t.d t.x t.y t.n t.l t.to=t:=by cases t;rfl
def enc:Ins→CVal
 |.mk op d x y n l to=>.agg [.int .i64 op,.int .i64 d,.int .i64 x,.int .i64 y,.int .i64 n,.sl (l.map (.int .i64)),.int .i64 to]
theorem enc_def (t:Ins):t.enc=.agg [.int .i64 t.op,.int .i64 t.d,.int .i64 t.x,.int .i64 t.y,.int .i64 t.n,.sl (t.l.map (.int .i64)),.int .i64 t.to]:=by
 cases t;rw [enc];rfl
@[simp] theorem enc_eta (t:Ins):CVal.agg [.int .i64 t.op,.int .i64 t.d,.int .i64 t.x,.int .i64 t.y,.int .i64 t.n,.sl (t.l.map (.int .i64)),.int .i64 t.to]=t.enc:=(enc_def t).symm
@[simp] theorem enc_fits (t:Ins):CVal.fits true 7 t.enc=true:=by rw [enc_def];rfl
@[simp] theorem enc_sub (t:Ins):t.enc.sub 0 7=some t.enc:=by rw [enc_def];rfl
@[simp] theorem enc_isAggN (t:Ins):t.enc.isAggN 7=true:=by rw [enc_def];rfl
@[simp] theorem enc_isAgg (t:Ins):t.enc.isAgg=true:=by rw [enc_def];rfl
@[simp] theorem enc_cell0 (t:Ins):t.enc.cell 0=some (.int .i64 t.op):=by rw [enc_def];rfl
@[simp] theorem enc_cell1 (t:Ins):t.enc.cell 1=some (.int .i64 t.d):=by rw [enc_def];rfl
@[simp] theorem enc_cell2 (t:Ins):t.enc.cell 2=some (.int .i64 t.x):=by rw [enc_def];rfl
@[simp] theorem enc_cell3 (t:Ins):t.enc.cell 3=some (.int .i64 t.y):=by rw [enc_def];rfl
@[simp] theorem enc_cell4 (t:Ins):t.enc.cell 4=some (.int .i64 t.n):=by rw [enc_def];rfl
@[simp] theorem enc_cell5 (t:Ins):t.enc.cell 5=some (.sl (t.l.map (.int .i64))):=by rw [enc_def];rfl
@[simp] theorem enc_cell6 (t:Ins):t.enc.cell 6=some (.int .i64 t.to):=by rw [enc_def];rfl
@[simp] theorem enc_asAgg (t:Ins):t.enc.asAgg=some [.int .i64 t.op,.int .i64 t.d,.int .i64 t.x,.int .i64 t.y,.int .i64 t.n,.sl (t.l.map (.int .i64)),.int .i64 t.to]:=by rw [enc_def];rfl
def sz:Ins→Nat
 |.mk op d x y n l to=>l.length
def szL (l:List Ins):Nat:=(l.map sz).sum
theorem sz_def (t:Ins):t.sz=t.l.length:=by cases t;rw [sz];rfl
@[simp] theorem szL_nil:szL []=0:=rfl
@[simp] theorem szL_cons {t:Ins} {l:List Ins}:szL (t :: l)=t.sz + szL l:=by simp [szL]
theorem sz_mem {l:List Ins} {t:Ins} (h:t ∈ l):t.sz ≤ szL l:=by
 induction l with
 |nil=>cases h
 |cons u l ih=>
  rcases List.mem_cons.1 h with e | e
  ·subst e;simp
  ·have:=ih e;simp;omega
def wt:Ins→Prop
 |.mk op d x y n l to=>i64 op∧i64 d∧i64 x∧i64 y∧i64 n∧(l.length ≤ maxLen∧∀ i ∈ l,i64 i)∧i64 to
theorem wt_def (t:Ins):t.wt↔i64 t.op∧i64 t.d∧i64 t.x∧i64 t.y∧i64 t.n∧(t.l.length ≤ maxLen∧∀ i ∈ t.l,i64 i)∧i64 t.to:=by cases t;rw [wt];rfl
def ok (t:Ins):Prop:=t.wt∧t.sz ≤ 1048576
theorem ok.op {t:Ins} (h:t.ok):i64 t.op:=((wt_def t).1 h.1).1
theorem ok.d {t:Ins} (h:t.ok):i64 t.d:=((wt_def t).1 h.1).2.1
theorem ok.x {t:Ins} (h:t.ok):i64 t.x:=((wt_def t).1 h.1).2.2.1
theorem ok.y {t:Ins} (h:t.ok):i64 t.y:=((wt_def t).1 h.1).2.2.2.1
theorem ok.n {t:Ins} (h:t.ok):i64 t.n:=((wt_def t).1 h.1).2.2.2.2.1
theorem ok.l_len {t:Ins} (h:t.ok):t.l.length ≤ 1048576:=by have:=h.2;rw [sz_def] at this;omega
theorem ok.to {t:Ins} (h:t.ok):i64 t.to:=((wt_def t).1 h.1).2.2.2.2.2.2
end Ins
end Go.Proofs.Ytognghbhdalckaa.Abs

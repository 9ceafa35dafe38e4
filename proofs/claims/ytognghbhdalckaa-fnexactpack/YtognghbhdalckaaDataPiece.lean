/- A part. -/
import Derived.Test.YtognghbhdalckaaData
import Derived.Test.YtognghbhdalckaaDataIns
set_option linter.unusedVariables false
set_option linter.unusedSectionVars false
set_option linter.unusedSimpArgs false
namespace Go.Proofs.Ytognghbhdalckaa.Abs
open Go
inductive Piece where
 |mk (lam:Int) (inn:Int) (regs:Int) (ins:List Ins)
 deriving Inhabited
namespace Piece
def lam:Piece→Int | .mk lam _ _ _=>lam
def inn:Piece→Int | .mk _ inn _ _=>inn
def regs:Piece→Int | .mk _ _ regs _=>regs
def ins:Piece→List Ins | .mk _ _ _ ins=>ins
@[simp] theorem lam_mk {lam:Int} {inn:Int} {regs:Int} {ins:List Ins}:(Piece.mk lam inn regs ins).lam=lam:=rfl
@[simp] theorem inn_mk {lam:Int} {inn:Int} {regs:Int} {ins:List Ins}:(Piece.mk lam inn regs ins).inn=inn:=rfl
@[simp] theorem regs_mk {lam:Int} {inn:Int} {regs:Int} {ins:List Ins}:(Piece.mk lam inn regs ins).regs=regs:=rfl
@[simp] theorem ins_mk {lam:Int} {inn:Int} {regs:Int} {ins:List Ins}:(Piece.mk lam inn regs ins).ins=ins:=rfl
theorem eta (t:Piece):Piece.mk t.lam t.inn t.regs t.ins=t:=by cases t;rfl
def enc:Piece→CVal
 |.mk lam inn regs ins=>.agg [.int .i64 lam,.int .i64 inn,.int .i64 regs,.sl (ins.map Ins.enc)]
theorem enc_def (t:Piece):t.enc=.agg [.int .i64 t.lam,.int .i64 t.inn,.int .i64 t.regs,.sl (t.ins.map Ins.enc)]:=by
 cases t;rw [enc];rfl
@[simp] theorem enc_eta (t:Piece):CVal.agg [.int .i64 t.lam,.int .i64 t.inn,.int .i64 t.regs,.sl (t.ins.map Ins.enc)]=t.enc:=(enc_def t).symm
@[simp] theorem enc_fits (t:Piece):CVal.fits true 4 t.enc=true:=by rw [enc_def];rfl
@[simp] theorem enc_sub (t:Piece):t.enc.sub 0 4=some t.enc:=by rw [enc_def];rfl
@[simp] theorem enc_isAggN (t:Piece):t.enc.isAggN 4=true:=by rw [enc_def];rfl
@[simp] theorem enc_isAgg (t:Piece):t.enc.isAgg=true:=by rw [enc_def];rfl
@[simp] theorem enc_cell0 (t:Piece):t.enc.cell 0=some (.int .i64 t.lam):=by rw [enc_def];rfl
@[simp] theorem enc_cell1 (t:Piece):t.enc.cell 1=some (.int .i64 t.inn):=by rw [enc_def];rfl
@[simp] theorem enc_cell2 (t:Piece):t.enc.cell 2=some (.int .i64 t.regs):=by rw [enc_def];rfl
@[simp] theorem enc_cell3 (t:Piece):t.enc.cell 3=some (.sl (t.ins.map Ins.enc)):=by rw [enc_def];rfl
@[simp] theorem enc_asAgg (t:Piece):t.enc.asAgg=some [.int .i64 t.lam,.int .i64 t.inn,.int .i64 t.regs,.sl (t.ins.map Ins.enc)]:=by rw [enc_def];rfl
def sz:Piece→Nat
 |.mk lam inn regs ins=>(ins.length + (ins.map Ins.sz).sum)
def szL (l:List Piece):Nat:=(l.map sz).sum
theorem sz_def (t:Piece):t.sz=(t.ins.length + Ins.szL t.ins):=by cases t;rw [sz];rfl
@[simp] theorem szL_nil:szL []=0:=rfl
@[simp] theorem szL_cons {t:Piece} {l:List Piece}:szL (t :: l)=t.sz + szL l:=by simp [szL]
theorem sz_mem {l:List Piece} {t:Piece} (h:t ∈ l):t.sz ≤ szL l:=by
 induction l with
 |nil=>cases h
 |cons u l ih=>
  rcases List.mem_cons.1 h with e | e
  ·subst e;simp
  ·have:=ih e;simp;omega
def wt:Piece→Prop
 |.mk lam inn regs ins=>i64 lam∧i64 inn∧i64 regs∧(ins.length ≤ maxLen∧∀ u ∈ ins,u.wt)
theorem wt_def (t:Piece):t.wt↔i64 t.lam∧i64 t.inn∧i64 t.regs∧(t.ins.length ≤ maxLen∧∀ u ∈ t.ins,u.wt):=by cases t;rw [wt];rfl
def ok (t:Piece):Prop:=t.wt∧t.sz ≤ 1048576
theorem ok.lam {t:Piece} (h:t.ok):i64 t.lam:=((wt_def t).1 h.1).1
theorem ok.inn {t:Piece} (h:t.ok):i64 t.inn:=((wt_def t).1 h.1).2.1
theorem ok.regs {t:Piece} (h:t.ok):i64 t.regs:=((wt_def t).1 h.1).2.2.1
theorem ok.ins_len {t:Piece} (h:t.ok):t.ins.length ≤ 1048576:=by have:=h.2;rw [sz_def] at this;omega
theorem ok.ins {t:Piece} (h:t.ok) {u:Ins} (hu:u ∈ t.ins):u.ok:=by
 refine ⟨(((wt_def t).1 h.1).2.2.2).2 u hu,?_⟩
 have h1:=h.2
 have h2:=Ins.sz_mem hu
 rw [sz_def] at h1;omega
end Piece
end Go.Proofs.Ytognghbhdalckaa.Abs

/- A part. -/
import Derived.Test.YtognghbhdalckaaOmega
set_option linter.unusedVariables false
set_option linter.unusedSectionVars false
set_option linter.unusedSimpArgs false
namespace Go.Proofs.Ytognghbhdalckaa.Abs
open Go
@[simp] theorem sub_agg0 {n:Nat} {cs:List CVal} (h:cs.length=n):CVal.sub (.agg cs) 0 n=some (.agg cs):=sub_agg h
@[simp] theorem fits_flat {c:CVal} (h:c.isFlat=true):CVal.fits false 1 c=true:=by simp [CVal.fits,h]
@[simp] theorem fits_int {k:IntKind} {n:Int}:CVal.fits false 1 (.int k n)=true:=rfl
@[simp] theorem fits_str {s:List UInt8}:CVal.fits false 1 (.str s)=true:=rfl
@[simp] theorem fits_bool {b:Bool}:CVal.fits false 1 (.bool b)=true:=rfl
@[simp] theorem fits_sl {l:List CVal}:CVal.fits false 1 (.sl l)=true:=rfl
@[simp] theorem fits_fp {c:CVal} {o:Nat}:CVal.fits false 1 (.fp c o)=true:=rfl
@[simp] theorem isFlat_int {k:IntKind} {n:Int}:CVal.isFlat (.int k n)=true:=rfl
@[simp] theorem isFlat_str {s:List UInt8}:CVal.isFlat (.str s)=true:=rfl
@[simp] theorem isFlat_bool {s:Bool}:CVal.isFlat (.bool s)=true:=rfl
@[simp] theorem cell_int {k:IntKind} {n:Int}:CVal.cell (.int k n) 0=some (.int k n):=rfl
@[simp] theorem cell_str {s:List UInt8}:CVal.cell (.str s) 0=some (.str s):=rfl
@[simp] theorem cell_bool {s:Bool}:CVal.cell (.bool s) 0=some (.bool s):=rfl
@[simp] theorem cell_func {f:Nat} {cs:List CVal}:CVal.cell (.func f cs) 0=some (.func f cs):=rfl
@[simp] theorem asTup_tup {cs:List CVal}:CVal.asTup (.tup cs)=some cs:=rfl
@[simp] theorem asAgg_agg {cs:List CVal}:CVal.asAgg (.agg cs)=some cs:=rfl
@[simp] theorem asFp_fp {c:CVal} {o:Nat}:CVal.asFp (.fp c o)=some (c,o):=rfl
@[simp] theorem asIdx_int {k:IntKind} {n:Int}:CVal.asIdx (.int k n)=some n:=rfl
@[simp] theorem scalar_int {k:IntKind} {n:Int}:scalar (.int k n)=true:=rfl
@[simp] theorem scalar_bool {b:Bool}:scalar (.bool b)=true:=rfl
@[simp] theorem scalar_str {b:List UInt8}:scalar (.str b)=true:=rfl
section
variable {α β:Type}
theorem get_mid (f:α→β) (pre suf:List α) (x:α):((pre ++ x :: suf).map f)[((pre.length:Nat):Int).toNat]? = some (f x):=by simp
theorem lt_mid (f:α→β) (pre suf:List α) (x:α):decide ((pre.length:Int) < (((pre ++ x :: suf).map f).length:Int))=true:=by simp;omega
theorem lt_mid' (pre suf:List α) (x:α):decide ((pre.length:Int) < ((pre ++ x :: suf).length:Int))=true:=by simp;omega
theorem lt_end (f:α→β) (pre:List α):decide ((pre.length:Int) < (((pre ++ []).map f).length:Int))=false:=by simp
theorem lt_end' (pre:List α):decide ((pre.length:Int) < ((pre ++ []).length:Int))=false:=by simp
theorem nn_mid (pre:List α):(decide ((0:Int) ≤ (pre.length:Int)) && true)=true:=by simp
theorem wrap_mid (pre suf:List α) (x:α) (h:(pre ++ x :: suf).length ≤ 1048576):IntKind.i64.wrap ((pre.length:Int) + 1)=((pre ++ [x]).length:Int):=by
 rw [wrap_i64]<;>simp at *<;>omega
end
theorem br_decide {R:Type} {p:Prop} [Decidable p] {x y:Option R}:br (decide p) x y=if p then x else y:=by by_cases h:p<;>simp [h]
theorem br_not {R:Type} {b:Bool} {x y:Option R}:br (!b) x y=br b y x:=by cases b<;>rfl
theorem br_self {R:Type} {b:Bool} {x:Option R}:br b x x=x:=by cases b<;>rfl
def i64 (n:Int):Prop:=-9223372036854775808 ≤ n∧n < 9223372036854775808
theorem i64_of_wf {n:Int} (h:(Lit.int .i64 n).wf=true):i64 n:=by
 unfold i64
 simp [Lit.wf,IntKind.min,IntKind.max,IntKind.signed,IntKind.bits] at h
 omega
def left (l:Int) (n:Nat):Int:=if l < (n:Int) then -1 else l - n
theorem left_neg {l:Int} {n:Nat} (h0:0 ≤ l):left l n < 0↔l < (n:Int):=by
 unfold left;split<;>omega
theorem left_ok {l:Int} {n:Nat} (h:¬ l < (n:Int)):left l n=l - n:=by
 unfold left;rw [if_neg h]
inductive Ty where
 |mk (k n:Int) (a:List Ty)
 deriving Inhabited
namespace Ty
def k:Ty→Int | .mk k _ _=>k
def n:Ty→Int | .mk _ n _=>n
def a:Ty→List Ty | .mk _ _ a=>a
@[simp] theorem k_mk {k n:Int} {a:List Ty}:(Ty.mk k n a).k=k:=rfl
@[simp] theorem n_mk {k n:Int} {a:List Ty}:(Ty.mk k n a).n=n:=rfl
@[simp] theorem a_mk {k n:Int} {a:List Ty}:(Ty.mk k n a).a=a:=rfl
theorem eta (t:Ty):Ty.mk t.k t.n t.a=t:=by cases t;rfl
def enc:Ty→CVal
 |.mk k n a=>.agg [.int .i64 k,.int .i64 n,.sl (a.map enc)]
theorem enc_def (t:Ty):t.enc=.agg [.int .i64 t.k,.int .i64 t.n,.sl (t.a.map enc)]:=by
 cases t;rw [enc];rfl
@[simp] theorem enc_eta (t:Ty):CVal.agg [.int .i64 t.k,.int .i64 t.n,.sl (t.a.map enc)]=t.enc:=(enc_def t).symm
@[simp] theorem enc_fits (t:Ty):CVal.fits true 3 t.enc=true:=by rw [enc_def];rfl
@[simp] theorem enc_sub (t:Ty):t.enc.sub 0 3=some t.enc:=by rw [enc_def];rfl
@[simp] theorem enc_isAggN (t:Ty):t.enc.isAggN 3=true:=by rw [enc_def];rfl
@[simp] theorem enc_isAgg (t:Ty):t.enc.isAgg=true:=by rw [enc_def];rfl
@[simp] theorem enc_cell0 (t:Ty):t.enc.cell 0=some (.int .i64 t.k):=by rw [enc_def];rfl
@[simp] theorem enc_cell1 (t:Ty):t.enc.cell 1=some (.int .i64 t.n):=by rw [enc_def];rfl
@[simp] theorem enc_cell2 (t:Ty):t.enc.cell 2=some (.sl (t.a.map enc)):=by rw [enc_def];rfl
@[simp] theorem enc_asAgg (t:Ty):t.enc.asAgg=some [.int .i64 t.k,.int .i64 t.n,.sl (t.a.map enc)]:=by rw [enc_def];rfl
theorem ind {P:Ty→Prop} (h:∀ t:Ty,(∀ u ∈ t.a,P u)→P t):∀ t,P t
 |.mk k n a=>h _ fun u hu=>ind h u
termination_by t=>SizeOf.sizeOf t
decreasing_by
 have:=List.sizeOf_lt_of_mem hu
 simp at *;omega
def sz:Ty→Nat
 |.mk _ _ a=>a.length + (a.map sz).sum
def szL (l:List Ty):Nat:=(l.map sz).sum
theorem sz_def (t:Ty):t.sz=t.a.length + szL t.a:=by cases t;rw [sz];rfl
@[simp] theorem szL_nil:szL []=0:=rfl
@[simp] theorem szL_cons {t:Ty} {l:List Ty}:szL (t :: l)=t.sz + szL l:=by simp [szL]
theorem sz_mem {l:List Ty} {t:Ty} (h:t ∈ l):t.sz ≤ szL l:=by
 induction l with
 |nil=>cases h
 |cons u l ih=>
  rcases List.mem_cons.1 h with e | e
  ·subst e;simp
  ·have:=ih e;simp;omega
def wt:Ty→Prop
 |.mk k n a=>i64 k∧i64 n∧a.length ≤ maxLen∧∀ t ∈ a,t.wt
theorem wt_def (t:Ty):t.wt↔i64 t.k∧i64 t.n∧t.a.length ≤ maxLen∧∀ u ∈ t.a,u.wt:=by cases t;rw [wt];rfl
def ok (t:Ty):Prop:=t.wt∧t.sz ≤ 1048576
theorem ok.len {t:Ty} (h:t.ok):t.a.length ≤ 1048576:=by have:=h.2;rw [sz_def] at this;omega
theorem ok.part {t:Ty} (h:t.ok) {u:Ty} (hu:u ∈ t.a):u.ok:=by
 refine ⟨((wt_def t).1 h.1).2.2.2 u hu,?_⟩
 have h1:=h.2
 have h2:=sz_mem hu
 rw [sz_def] at h1;omega
end Ty
theorem set_done {α:Type} (d:List α) (x y:α) (r:List α):(d ++ x :: r).set d.length y=d ++ y :: r:=by simp [List.set_append]
theorem get_done {α:Type} (d:List α) (x:α) (r:List α):(d ++ x :: r)[d.length]? = some x:=by simp
theorem lt_done {α:Type} (d:List α) (x:α) (r:List α):decide (d.length < (d ++ x :: r).length)=true:=by simp
theorem lti_done {α:Type} (d:List α) (x:α) (r:List α):decide ((d.length:Int) < ((d ++ x :: r).length:Int))=true:=by simp;omega
end Go.Proofs.Ytognghbhdalckaa.Abs

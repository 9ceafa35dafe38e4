/- A part. -/
import Derived.Test.YtognghbhdalckaaPieceFns
import Derived.Test.YtognghbhdalckaaInLaws
import Derived.Test.YtognghbhdalckaaInsLaws
import Derived.Test.YtognghbhdalckaaSlicesIns
import Derived.Test.YtognghbhdalckaaSlicesInt
set_option linter.unusedVariables false
set_option linter.unusedSectionVars false
set_option linter.unusedSimpArgs false
namespace Go.Proofs.Ytognghbhdalckaa.Abs
open Go Go.Proofs
def numB (i:Ins):Bool:=
 if i.op=1 then decide (-1000000 ≤ i.n∧i.n ≤ 1000000) else if i.op=2 then decide (0 ≤ i.n∧i.n ≤ 1) else if i.op=5 then decide (1 ≤ i.n∧i.n ≤ 5) else
 if i.op=8 then decide (0 ≤ i.n∧i.n ≤ 149) && decide (i.l.length < 100) else decide (i.n=0)
def fieldB (v:Int) (had:Bool) (n:Int):Bool:=bif had then decide (0 ≤ v) && decide (v < n) else decide (v=0)
def rise:Option Int→List Int→Bool
 |_,[]=>true
 |none,x :: r=>rise (some x) r
 |some p,x :: r=>decide (p < x) && rise (some x) r
def listB (p:Piece) (i:Ins):Bool:=
 bif decide (i.op=8) then i.l.all (fun r=>decide (0 ≤ r∧r ≤ p.regs - 1)) else
 bif i.l.isEmpty then true else decide (i.op=14) && (decide (i.l.length ≤ 200) && rise none i.l)
def insOkB (p:Piece) (i:Ins):Bool:=
 (insForm i.op).2 && (numB i && (fieldB i.to (hasPart i.op 84) p.ins.length && (fieldB i.d (hasPart i.op 68) p.regs && (fieldB i.x (hasPart i.op 88) p.regs && (fieldB i.y (hasPart i.op 89) p.regs && listB p i)))))
theorem numOk_law (i:Ins):CC f_i_numOk [.v i.enc] []=some (.bool (numB i),[]):=by
 rw [Ins.enc_def]
 apply go_i_numOk
 unfold nf_i_numOk numB
 simp only [in_law,Option.bind_some,asBool_bool,br_decide,List.length_map]
 split
 ·rfl
 split
 ·rfl
 split
 ·rfl
 split
 ·by_cases h:0 ≤ i.n∧i.n ≤ 149
  ·rw [if_pos h,decide_eq_true h]
   simp only [Option.bind_some,Bool.true_and]
   congr 3
   rw [decide_eq_decide];omega
  ·rw [if_neg h,decide_eq_false h];rfl
 ·rfl
theorem fieldOk_law (v:Int) (had:Bool) (n:Int):CC f_i_fieldOk [.v (.int .i64 v),.v (.bool had),.v (.int .i64 n)] []=some (.bool (fieldB v had n),[]):=by
 apply go_i_fieldOk
 unfold nf_i_fieldOk fieldB
 cases had with
 |true=>by_cases h:0 ≤ v<;>simp [h]
 |false=>rfl
theorem get_last (q suf:List Int) (a:Int) (h:(q ++ [a] ++ suf).length ≤ 1048576):((q ++ [a] ++ suf).map (CVal.int .i64))[(IntKind.i64.wrap (((q ++ [a]).length:Int) - 1)).toNat]? = some (.int .i64 a):=by
 have:IntKind.i64.wrap (((q ++ [a]).length:Int) - 1)=(q.length:Int):=by
  rw [wrap_i64]<;>simp at h ⊢<;>omega
 rw [this]
 simp
theorem nn_last (q:List Int) (a:Int) (h:(q ++ [a]).length ≤ 1048576):(decide ((0:Int) ≤ IntKind.i64.wrap (((q ++ [a]).length:Int) - 1)) && true)=true:=by
 have:IntKind.i64.wrap (((q ++ [a]).length:Int) - 1)=(q.length:Int):=by
  rw [wrap_i64]<;>simp at h ⊢<;>omega
 rw [this]
 simp
theorem eq_snoc (l:List Int):l=[]∨∃ q a,l=q ++ [a]:=by
 rcases List.eq_nil_or_concat l with h | ⟨q,a,h⟩
 ·exact .inl h
 ·exact .inr ⟨q,a,by simpa using h⟩
theorem insOk_loop (i:Ins):∀ (suf pre:List Int),i.l=pre ++ suf→i.l.length ≤ 1048576→
  ∃ q,LL f_i_insOk 0 lc_i_insOk_0 [] k_i_insOk_0 (((),i.l.map (.int .i64),(i.l.length:Int),(pre.length:Int),()),(i.op,i.d,i.x,i.y,i.n,i.l.map (.int .i64),i.to,()),()) =
   some (bif suf.isEmpty || (decide (i.op=14) && (decide (i.l.length ≤ 200) && rise pre.getLast? suf)) then .out 0 q else .ret (.bool false,[]))
 |[],pre,he,hl=>by
  refine ⟨(((),i.l.map (.int .i64),(i.l.length:Int),(pre.length:Int),()),(i.op,i.d,i.x,i.y,i.n,i.l.map (.int .i64),i.to,()),()),?_⟩
  apply gl_i_insOk_0
  unfold nl_i_insOk_0
  have:decide ((pre.length:Int) < (i.l.length:Int))=false:=by rw [he];simp
  rw [this];rfl
 |x :: suf,pre,he,hl=>by
  obtain ⟨q,ih⟩:=insOk_loop i suf (pre ++ [x]) (by simp [he]) hl
  refine ⟨q,?_⟩
  apply gl_i_insOk_0
  unfold nl_i_insOk_0
  have h1:decide ((pre.length:Int) < (i.l.length:Int))=true:=by rw [he];simp;omega
  have hl':(pre ++ x :: suf).length ≤ 1048576:=by rw [← he];exact hl
  have h2:(i.l.map (CVal.int .i64))[((pre.length:Nat):Int).toNat]? = some (.int .i64 x):=by rw [he];exact get_mid _ _ _ _
  rw [h1,nn_mid,h2,wrap_mid pre suf x hl']
  have hlen:decide ((200:Int) < (((i.l.map (CVal.int .i64)).length:Nat):Int)) = !decide (i.l.length ≤ 200):=by
   rw [List.length_map]
   by_cases h:i.l.length ≤ 200
   ·rw [decide_eq_true h,decide_eq_false (by omega)];rfl
   ·rw [decide_eq_false h,decide_eq_true (by omega)];rfl
  simp only [br_true',Option.bind_some,fits_int,cell_int,asInt_int,hlen,List.isEmpty_cons,Bool.false_or]
  by_cases hop:i.op=14
  ·simp only [hop,decide_true,Bool.not_true,br_false',Bool.true_and]
   rw [hop] at ih
   by_cases h200:i.l.length ≤ 200
   ·simp only [decide_eq_true h200,Bool.not_true,br_false',Bool.true_and]
    rcases eq_snoc pre with rfl | ⟨p,a,rfl⟩
    ·simp only [List.length_nil,Int.cast_ofNat_Int,Int.lt_irrefl,decide_false,br_false',Option.bind_some,List.getLast?_nil,rise]
     simp only [List.nil_append,decide_true,Bool.true_and,decide_eq_true h200,List.getLast?_singleton] at ih
     simp only [List.nil_append]
     rw [ih]
     cases suf<;>rfl
    ·have hpos:decide ((0:Int) < ((p ++ [a]).length:Int))=true:=decide_eq_true (by simp only [List.length_append,List.length_cons,List.length_nil];omega)
     have hg:=get_last p (x :: suf) a hl'
     have hn:=nn_last p a (by simp at hl' ⊢;omega)
     simp only [hpos,br_true',hn]
     rw [he] at hl ⊢
     rw [hg]
     simp only [Option.bind_some,fits_int,cell_int,br_true',asInt_int,List.getLast?_concat,rise]
     rw [he] at ih
     simp only [decide_true,Bool.true_and,List.getLast?_concat] at ih
     by_cases hax:a < x
     ·have h3:¬ x ≤ a:=by omega
      simp only [decide_eq_false h3,br_false',decide_eq_true hax,Bool.true_and]
      rw [ih]
      rw [he] at h200
      simp only [decide_eq_true h200,Bool.true_and]
      cases suf with
      |nil=>rfl
      |cons y r=>rfl
     ·have h3:x ≤ a:=by omega
      simp [h3,hax]
   ·simp [h200]
  ·simp [hop]
theorem any_not {α:Type} (q:α→Bool):∀ l:List α,(l.any fun t=>!q t) = !l.all q
 |[]=>rfl
 |x :: r=>by simp [any_not q r]
theorem insOk_i {p:Piece} (hok:p.ok) {i:Ins} (hi:i.ok) (hr:0 ≤ p.regs):CC f_i_insOk [.v p.enc,.v i.enc] []=some (.bool (insOkB p i),[]):=by
 have h1:=numOk_law i
 have hloop:=insOk_loop i i.l [] (by simp) hi.l_len
 obtain ⟨q,hloop⟩:=hloop
 have hw:IntKind.i64.wrap (p.regs - 1)=p.regs - 1:=by
  have:=(Piece.wt_def p).1 hok.1
  have h2:=this.2.2.1
  unfold i64 at h2
  rw [wrap_i64]<;>omega
 have hc:∀ t ∈ i.l,CC apId [.v (.func f_i_insOk_1 [.fp p.enc 0]),.v (.int .i64 t)] []=some (.bool (!decide (0 ≤ t∧t ≤ p.regs - 1)),[]):=by
  intro t ht
  refine apC (cs:=[.int .i64 t]) (by decide) rfl rfl rfl ?_
  show CC f_i_insOk_1 [.v (.int .i64 t),.v (.fp p.enc 0)] []=_
  rw [Piece.enc_def]
  apply go_i_insOk_1
  unfold nf_i_insOk_1
  simp only [hw,in_law,Option.bind_some,asBool_bool]
 have h2:=containsInt_law hi.l_len hc
 rw [Piece.enc_def,Ins.enc_def]
 apply go_i_insOk
 unfold nf_i_insOk insOkB listB
 simp only [Ins.enc_eta,Piece.enc_eta,insForm_law,hasPart_law,h1,fieldOk_law,List.length_map,Option.bind_some,asTup_tup,List.getElem?_cons_zero,List.getElem?_cons_succ,asBool_bool,br_not]
 generalize (insForm i.op).2=b1
 cases b1;· rfl
 generalize numB i=b2
 cases b2;· rfl
 generalize fieldB i.to (hasPart i.op 84) (p.ins.length:Int)=b3
 cases b3;· rfl
 generalize fieldB i.d (hasPart i.op 68) p.regs=b4
 cases b4;· rfl
 generalize fieldB i.x (hasPart i.op 88) p.regs=b5
 cases b5;· rfl
 generalize fieldB i.y (hasPart i.op 89) p.regs=b6
 cases b6;· rfl
 simp only [br_true',Bool.not_true,Option.bind_some,br_false',Bool.true_and]
 by_cases h8:i.op=8
 ·simp only [decide_eq_true h8,br_true',cond_true,h2,Option.bind_some,asBool_bool,any_not,Bool.not_not]
 ·simp only [decide_eq_false h8,br_false',cond_false]
  simp only [List.length_nil,Int.cast_ofNat_Int,List.getLast?_nil] at hloop
  rw [hloop]
  cases hb:(i.l.isEmpty || (decide (i.op=14) && (decide (i.l.length ≤ 200) && rise none i.l))) with
  |true=>
   cases he:i.l.isEmpty with
   |true=>rfl
   |false=>rw [he,Bool.false_or] at hb;rw [hb];rfl
  |false=>
   simp only [Bool.or_eq_false_iff] at hb
   rw [hb.1,hb.2];rfl
theorem l9Reg_law (had:Bool) (v n:Int) (h0:0 ≤ n) (h1:i64 n):CC f_s_l9Reg [.v (.bool had),.v (.int .i64 v),.v (.int .i64 n)] []=some (.bool (fieldB v had n),[]):=by
 have hw:IntKind.i64.wrap (n - 1)=n - 1:=by unfold i64 at h1;rw [wrap_i64]<;>omega
 apply go_s_l9Reg
 unfold nf_s_l9Reg fieldB
 cases had with
 |true=>
  simp only [hw,l1In_law,Option.bind_some,Bool.not_true,br_false',cond_true]
  congr 3
  by_cases a:0 ≤ v<;>by_cases b:v < n
  ·rw [decide_eq_true (by omega),decide_eq_true a,decide_eq_true b];rfl
  ·rw [decide_eq_false (by omega),decide_eq_true a,decide_eq_false b];rfl
  ·rw [decide_eq_false (by omega),decide_eq_false a];rfl
  ·rw [decide_eq_false (by omega),decide_eq_false a];rfl
 |false=>rfl
theorem l9Ins_make (i:Ins) (p:Piece) (h0:0 ≤ p.regs) (h1:i64 p.regs):∀ (suf pre:List Int),i.l=pre ++ suf→i.l.length ≤ 1048576→
  ∃ q,LL f_s_l9Ins 1 lc_s_l9Ins_1 [] k_s_l9Ins_1 (((),(),(pre.length:Int),()),(p.lam,p.inn,p.regs,p.ins.map Ins.enc,()),(i.op,i.d,i.x,i.y,i.n,i.l.map (.int .i64),i.to,()),()) =
   some (bif suf.all (fun r=>decide (0 ≤ r∧r ≤ p.regs - 1)) then .out 1 (((),(),q,()),(p.lam,p.inn,p.regs,p.ins.map Ins.enc,()),(i.op,i.d,i.x,i.y,i.n,i.l.map (.int .i64),i.to,()),()) else .ret (.bool false,[]))
 |[],pre,he,hl=>by
  refine ⟨(pre.length:Int),?_⟩
  apply gl_s_l9Ins_1
  unfold nl_s_l9Ins_1
  have:decide ((pre.length:Int) < (((i.l.map (CVal.int .i64)).length:Nat):Int))=false:=by rw [he];simp
  rw [this];rfl
 |x :: suf,pre,he,hl=>by
  obtain ⟨q,ih⟩:=l9Ins_make i p h0 h1 suf (pre ++ [x]) (by simp [he]) hl
  refine ⟨q,?_⟩
  have hw:IntKind.i64.wrap (p.regs - 1)=p.regs - 1:=by unfold i64 at h1;rw [wrap_i64]<;>omega
  apply gl_s_l9Ins_1
  unfold nl_s_l9Ins_1
  have h1:decide ((pre.length:Int) < (((i.l.map (CVal.int .i64)).length:Nat):Int))=true:=by rw [he];simp;omega
  have hl':(pre ++ x :: suf).length ≤ 1048576:=by rw [← he];exact hl
  have h2:(i.l.map (CVal.int .i64))[((pre.length:Nat):Int).toNat]? = some (.int .i64 x):=by rw [he];exact get_mid _ _ _ _
  rw [h1,nn_mid,h2,wrap_mid pre suf x hl']
  simp only [br_true',Option.bind_some,fits_int,cell_int,asInt_int,asFp_fp,Nat.zero_add,Piece.enc_cell2,hw,l1In_law,asBool_bool,List.all_cons,ih]
  by_cases hx:0 ≤ x∧x ≤ p.regs - 1
  ·simp [hx]
  ·simp [hx]
theorem l9Ins_call (i:Ins):∀ (suf pre:List Int) (a:Int),i.l=pre ++ [a] ++ suf→i.l.length ≤ 1048576→
  ∃ q,LL f_s_l9Ins 3 lc_s_l9Ins_3 [] k_s_l9Ins_3 (((),((pre ++ [a]).length:Int),()),(i.op,i.d,i.x,i.y,i.n,i.l.map (.int .i64),i.to,()),()) =
   some (bif rise (some a) suf then .out 3 (((),q,()),(i.op,i.d,i.x,i.y,i.n,i.l.map (.int .i64),i.to,()),()) else .ret (.bool false,[]))
 |[],pre,a,he,hl=>by
  refine ⟨((pre ++ [a]).length:Int),?_⟩
  apply gl_s_l9Ins_3
  unfold nl_s_l9Ins_3
  have:decide (((pre ++ [a]).length:Int) < (((i.l.map (CVal.int .i64)).length:Nat):Int))=false:=by rw [he];simp
  rw [this];rfl
 |x :: suf,pre,a,he,hl=>by
  obtain ⟨q,ih⟩:=l9Ins_call i suf (pre ++ [a]) x (by simp [he]) hl
  refine ⟨q,?_⟩
  apply gl_s_l9Ins_3
  unfold nl_s_l9Ins_3
  have hl':(pre ++ [a] ++ x :: suf).length ≤ 1048576:=by rw [← he];exact hl
  have h1:decide (((pre ++ [a]).length:Int) < (((i.l.map (CVal.int .i64)).length:Nat):Int))=true:=decide_eq_true (by rw [he];simp only [List.length_map,List.length_append,List.length_cons,List.length_nil];omega)
  have h2:(i.l.map (CVal.int .i64))[(((pre ++ [a]).length:Nat):Int).toNat]? = some (.int .i64 x):=by rw [he];exact get_mid _ _ _ _
  have hg:(i.l.map (CVal.int .i64))[(IntKind.i64.wrap (((pre ++ [a]).length:Int) - 1)).toNat]? = some (.int .i64 a):=by rw [he];exact get_last pre (x :: suf) a hl'
  have hn:=nn_last pre a (by simp at hl' ⊢;omega)
  rw [h1,nn_mid,h2,wrap_mid (pre ++ [a]) suf x hl',hn,hg]
  simp only [br_true',Option.bind_some,fits_int,cell_int,asInt_int,ih,rise]
  by_cases hax:a < x
  ·have h3:¬ x ≤ a:=by omega
   simp [h3,hax]
  ·have h3:x ≤ a:=by omega
   simp [h3,hax]
theorem insForm_ok (op:Int):(insForm op).2=decide (1 ≤ op∧op ≤ 18):=by
 rcases opCases op with (rfl | rfl | rfl | rfl | rfl | rfl | rfl | rfl | rfl | rfl | rfl | rfl | rfl | rfl | rfl | rfl | rfl | rfl) | ⟨h1,h2,h3,h4,h5,h6,h7,h8,h9,h10,h11,h12,h13,h14,h15,h16,h17,h18⟩
 all_goals first | decide | skip
 unfold insForm
 simp only [h1,h2,h3,h4,h5,h6,h7,h8,h9,h10,h11,h12,h13,h14,h15,h16,h17,h18,if_false]
 rw [decide_eq_false (by simp),decide_eq_false (by omega)]
theorem fieldB_in (v:Int) (n:Int):decide (0 ≤ v∧v ≤ n - 1)=fieldB v true n:=by
 unfold fieldB
 rw [cond_true]
 by_cases a:0 ≤ v<;>by_cases b:v < n
 ·rw [decide_eq_true (by omega),decide_eq_true a,decide_eq_true b];rfl
 ·rw [decide_eq_false (by omega),decide_eq_true a,decide_eq_false b];rfl
 ·rw [decide_eq_false (by omega),decide_eq_false a];rfl
 ·rw [decide_eq_false (by omega),decide_eq_false a];rfl
theorem insOk_s {p:Piece} (hok:p.ok) {i:Ins} (hi:i.ok) (hr:0 ≤ p.regs):CC f_s_l9Ins [.v p.enc,.v i.enc] []=some (.bool (insOkB p i),[]):=by
 have hp:=(Piece.wt_def p).1 hok.1
 have hreg:i64 p.regs:=hp.2.2.1
 have hl:=hok.ins_len
 have hw:IntKind.i64.wrap ((p.ins.length:Int) - 1)=(p.ins.length:Int) - 1:=by rw [wrap_i64]<;>omega
 obtain ⟨q1,hmake⟩:=l9Ins_make i p hr hreg i.l [] (by simp) hi.l_len
 have hcall:∃ q,LL f_s_l9Ins 3 lc_s_l9Ins_3 [] k_s_l9Ins_3 (((),1,()),(i.op,i.d,i.x,i.y,i.n,i.l.map (.int .i64),i.to,()),()) =
   some (bif rise none i.l then .out 3 (((),q,()),(i.op,i.d,i.x,i.y,i.n,i.l.map (.int .i64),i.to,()),()) else .ret (.bool false,[])):=by
  cases hll:i.l with
  |nil=>
   refine ⟨1,?_⟩
   apply gl_s_l9Ins_3
   unfold nl_s_l9Ins_3
   simp [rise]
  |cons x r=>
   obtain ⟨q,h⟩:=l9Ins_call i r [] x (by simp [hll]) hi.l_len
   refine ⟨q,?_⟩
   rw [hll] at h
   exact h
 obtain ⟨q2,hcall⟩:=hcall
 have hpos:decide ((0:Int) < (i.l.length:Int)) = !i.l.isEmpty:=by cases i.l<;>simp
 rw [Piece.enc_def,Ins.enc_def]
 apply go_s_l9Ins
 unfold nf_s_l9Ins insOkB
 rw [insForm_ok,uses_T,uses_D,uses_X,uses_Y]
 simp only [Piece.enc_eta,uses_law,Option.bind_some,isAggN_agg,cell_agg,l1In_law,l9Reg_law _ _ _ hr hreg,asBool_bool,br_not,List.length_map,hw,List.length_cons,List.length_nil,beq_self_eq_true,br_true',List.getElem?_cons_zero,List.getElem?_cons_succ,hpos]
 generalize fieldB i.d (uses i.op).1 p.regs=b4
 generalize fieldB i.x (uses i.op).2.1 p.regs=b5
 generalize fieldB i.y (uses i.op).2.2.1 p.regs=b6
 have hT:fieldB i.to (uses i.op).2.2.2 p.ins.length=bif (uses i.op).2.2.2 then decide (0 ≤ i.to∧i.to ≤ (p.ins.length:Int) - 1) else decide (i.to=0):=by
  cases (uses i.op).2.2.2 with
  |true=>rw [cond_true,fieldB_in]
  |false=>rfl
 rw [hT]
 generalize decide (0 ≤ i.to∧i.to ≤ (p.ins.length:Int) - 1)=b7
 generalize decide (i.to=0)=b8
 by_cases hop:¬ (1 ≤ i.op∧i.op ≤ 18)
 ·rw [decide_eq_false hop];rfl
 rw [decide_eq_true (Classical.not_not.1 hop)]
 simp only [br_true',Bool.true_and]
 cases b4;· simp
 cases b5;· simp
 cases b6;· simp
 simp only [br_true',Bool.true_and]
 have hb:((br (uses i.op).2.2.2 (br b7 (br (uses i.op).2.2.2 (some (false,PUnit.unit)) (some (!b8,PUnit.unit))) (some (true,PUnit.unit))) (br (uses i.op).2.2.2 (some (false,PUnit.unit)) (some (!b8,PUnit.unit)))):Option (Bool × PUnit)) =
   some (!(bif (uses i.op).2.2.2 then b7 else b8),PUnit.unit):=by
  cases (uses i.op).2.2.2<;>cases b7<;>cases b8<;>rfl
 simp only [List.length_nil,Int.cast_ofNat_Int] at hmake
 rw [hb]
 generalize (bif (uses i.op).2.2.2 then b7 else b8)=b9
 cases b9
 ·simp
 simp only [Option.bind_some,Bool.not_true,br_false',Bool.true_and]
 unfold numB listB
 by_cases h8:i.op=8
 ·have e1:¬ i.op=1:=by omega
  have e2:¬ i.op=2:=by omega
  have e3:¬ i.op=5:=by omega
  rw [if_neg e1,if_neg e2,if_neg e3,if_pos h8]
  simp only [decide_eq_true h8,decide_eq_false e1,decide_eq_false e2,decide_eq_false e3,br_true',br_false',Option.bind_some,cond_true]
  rw [hmake]
  cases i.l.all fun r=>decide (0 ≤ r∧r ≤ p.regs - 1) with
  |false=>simp
  |true=>
   simp only [cond_true,Option.bind_some,loK_out,beq_self_eq_true,br_true',Bool.and_true,List.length_map]
   by_cases hn:0 ≤ i.n∧i.n ≤ 149
   ·rw [decide_eq_true hn]
    simp only [br_true',Option.bind_some,Bool.true_and]
    congr 3
    rw [decide_eq_decide];omega
   ·rw [decide_eq_false hn];rfl
 ·simp only [decide_eq_false h8,br_false',cond_false,if_neg h8]
  by_cases h14:i.op=14
  ·have e1:¬ i.op=1:=by omega
   have e2:¬ i.op=2:=by omega
   have e3:¬ i.op=5:=by omega
   rw [if_neg e1,if_neg e2,if_neg e3]
   simp only [decide_eq_true h14,decide_eq_false e1,decide_eq_false e2,decide_eq_false e3,br_true',br_false',Option.bind_some,Bool.true_and]
   rw [hcall]
   have hr:(bif i.l.isEmpty then true else decide (i.l.length ≤ 200) && rise none i.l)=(decide (i.l.length ≤ 200) && rise none i.l):=by
    cases i.l with
    |nil=>rfl
    |cons=>rfl
   rw [hr]
   cases rise none i.l with
   |false=>simp
   |true=>
    simp only [cond_true,Option.bind_some,loK_out,beq_self_eq_true,br_true',Bool.and_true,List.length_map]
    by_cases hn:i.n=0
    ·rw [decide_eq_true hn]
     simp only [br_true',Option.bind_some,Bool.true_and]
     congr 3
     rw [decide_eq_decide];omega
    ·rw [decide_eq_false hn];rfl
  ·simp only [decide_eq_false h14,br_false',Option.bind_some,Bool.false_and,br_not]
   have hr:(bif i.l.isEmpty then true else false)=i.l.isEmpty:=by cases i.l.isEmpty<;>rfl
   rw [hr]
   cases i.l.isEmpty with
   |false=>simp
   |true=>
    simp only [br_true',Bool.and_true,br_decide]
    split
    ·rfl
    split
    ·rfl
    split
    ·rfl
    ·rfl
def lamB (p:Piece):Bool:=(decide (p.lam = -1) && decide (p.inn=0)) || (decide (0 ≤ p.lam∧p.lam ≤ 149) && decide (1 ≤ p.inn))
def lastB (p:Piece):Bool:=match p.ins.getLast? with | some x=>decide (x.op=15) || decide (x.op=13) | none=>false
def pieceB (p:Piece):Bool:=
 decide (1 ≤ (p.ins.length:Int)∧(p.ins.length:Int) ≤ 600) && (lamB p && (decide (p.inn ≤ p.regs∧p.regs ≤ 400) && (p.ins.all (insOkB p) && lastB p)))
theorem lamOk_law (p:Piece):CC f_i_lamOk [.v p.enc] []=some (.bool (lamB p),[]):=by
 rw [Piece.enc_def]
 apply go_i_lamOk
 unfold nf_i_lamOk lamB
 simp only [in_law,Option.bind_some,asBool_bool]
 generalize decide (p.lam = -1)=b1
 generalize decide (p.inn=0)=b2
 generalize decide (0 ≤ p.lam∧p.lam ≤ 149)=b3
 cases b1<;>cases b2<;>cases b3<;>rfl
theorem last_ins {p:Piece} (hl:p.ins.length ≤ 1048576) (h1:1 ≤ p.ins.length):∃ x,p.ins.getLast? = some x∧(p.ins.map Ins.enc)[(IntKind.i64.wrap ((p.ins.length:Int) - 1)).toNat]? = some x.enc∧(decide ((0:Int) ≤ IntKind.i64.wrap ((p.ins.length:Int) - 1)) && true)=true:=by
 have hw:IntKind.i64.wrap ((p.ins.length:Int) - 1)=(p.ins.length:Int) - 1:=by rw [wrap_i64]<;>omega
 obtain ⟨x,hx⟩:∃ x,p.ins.getLast? = some x:=by
  cases h:p.ins.getLast? with
  |none=>rw [List.getLast?_eq_none_iff] at h;rw [h] at h1;simp at h1
  |some y=>exact ⟨y,rfl⟩
 refine ⟨x,hx,?_,by rw [hw,Bool.and_true];exact decide_eq_true (by omega)⟩
 rw [hw,List.getElem?_map]
 rw [List.getLast?_eq_getElem?] at hx
 rw [show ((p.ins.length:Int) - 1).toNat=p.ins.length - 1 by omega,hx]
 rfl
theorem pieceOk_i {p:Piece} (hok:p.ok):CC f_i_pieceOk [.v p.enc] []=some (.bool (pieceB p),[]):=by
 have h1:=lamOk_law p
 have hl:=hok.ins_len
 rw [Piece.enc_def]
 apply go_i_pieceOk
 unfold nf_i_pieceOk pieceB
 simp only [Piece.enc_eta,h1,in_law,List.length_map,Option.bind_some,asBool_bool,br_not,cond_false]
 by_cases hn:1 ≤ (p.ins.length:Int)∧(p.ins.length:Int) ≤ 600
 ·rw [decide_eq_true hn]
  simp only [br_true',Bool.true_and]
  cases hlam:lamB p with
  |false=>rfl
  |true=>
   simp only [br_true',Bool.true_and]
   by_cases hr:p.inn ≤ p.regs∧p.regs ≤ 400
   ·rw [decide_eq_true hr]
    simp only [br_true',Bool.true_and]
    have h0:0 ≤ p.regs:=by
     unfold lamB at hlam
     simp at hlam
     omega
    have hc:∀ t ∈ p.ins,CC apId [.v (.func f_i_pieceOk_1 [.fp p.enc 0]),.v t.enc] []=some (.bool (!insOkB p t),[]):=by
     intro t ht
     refine apC (cs:=[t.enc]) (by decide) rfl rfl rfl ?_
     show CC f_i_pieceOk_1 [.v t.enc,.v (.fp p.enc 0)] []=_
     have h2:=insOk_i hok (hok.ins ht) h0
     rw [Piece.enc_def,Ins.enc_def]
     apply go_i_pieceOk_1
     unfold nf_i_pieceOk_1
     simp only [Piece.enc_eta,Ins.enc_eta,h2,Option.bind_some,asBool_bool]
    have h3:=containsIns_law hl hc
    simp only [h3,Option.bind_some,asBool_bool,any_not]
    cases p.ins.all (insOkB p) with
    |false=>rfl
    |true=>
     obtain ⟨x,hx,hg,hnn⟩:=last_ins hl (by omega)
     simp only [Bool.not_true,br_false',hg,hnn,br_true',Option.bind_some,Ins.enc_fits,Ins.enc_cell0,asInt_int,Bool.true_and]
     unfold lastB
     rw [hx]
     by_cases h15:x.op=15
     ·simp [h15]
     ·simp [h15]
   ·rw [decide_eq_false hr];rfl
 ·rw [decide_eq_false hn];rfl
theorem lamB_eq (p:Piece):lamB p=decide ((-1 ≤ p.lam∧p.lam ≤ 149)∧¬ p.inn < 0∧(p.lam < 0→p.inn=0)∧(0 ≤ p.lam→¬ p.inn < 1)):=by
 unfold lamB
 rw [Bool.eq_iff_iff]
 simp only [Bool.or_eq_true,Bool.and_eq_true,decide_eq_true_eq]
 omega
theorem l9Piece_loop {p:Piece} (hok:p.ok) (h0:0 ≤ p.regs):∀ (suf pre:List Ins),p.ins=pre ++ suf→
  LL f_s_l9Piece 0 lc_s_l9Piece_0 [] k_s_l9Piece_0 ((.fp p.enc 0,(p.ins.length:Int),(pre.length:Int),()),()) =
   some (bif suf.all (insOkB p) then .out 0 ((.fp p.enc 0,(p.ins.length:Int),(p.ins.length:Int),()),()) else .ret (.bool false,[]))
 |[],pre,he=>by
  apply gl_s_l9Piece_0
  unfold nl_s_l9Piece_0
  have e:p.ins.length=pre.length:=by rw [he];simp
  have:decide ((pre.length:Int) < (p.ins.length:Int))=false:=decide_eq_false (by omega)
  rw [this,e];rfl
 |x :: suf,pre,he=>by
  have ih:=l9Piece_loop hok h0 suf (pre ++ [x]) (by simp [he])
  apply gl_s_l9Piece_0
  unfold nl_s_l9Piece_0
  have hl:=hok.ins_len
  have h1:decide ((pre.length:Int) < (p.ins.length:Int))=true:=by rw [he];simp;omega
  have hl':(pre ++ x :: suf).length ≤ 1048576:=by rw [← he];exact hl
  have h2:(p.ins.map Ins.enc)[((pre.length:Nat):Int).toNat]? = some x.enc:=by rw [he];exact get_mid _ _ _ _
  have h3:=insOk_s hok (hok.ins (show x ∈ p.ins by rw [he];simp)) h0
  rw [h1,nn_mid,wrap_mid pre suf x hl']
  simp only [br_true',Option.bind_some,asFp_fp,Nat.zero_add,Piece.enc_sub,Piece.enc_cell3,asSl_sl,h2,Ins.enc_fits,Ins.enc_sub,h3,asBool_bool,List.all_cons,br_not,ih]
  cases insOkB p x with
  |true=>simp
  |false=>simp
theorem pieceOk_s {p:Piece} (hok:p.ok):CC f_s_l9Piece [.v p.enc] []=some (.bool (pieceB p),[]):=by
 have hl:=hok.ins_len
 rw [Piece.enc_def]
 apply go_s_l9Piece
 unfold nf_s_l9Piece pieceB
 rw [lamB_eq]
 simp only [Piece.enc_eta,l1In_law,List.length_map,Option.bind_some,asBool_bool,br_not]
 generalize hb:(br (decide (-1 ≤ p.lam∧p.lam ≤ 149)) _ _:Option (Bool × PUnit))=blk
 have hblk:blk=some (!(decide (1 ≤ (p.ins.length:Int)∧(p.ins.length:Int) ≤ 600) && (decide ((-1 ≤ p.lam∧p.lam ≤ 149)∧¬ p.inn < 0∧(p.lam < 0→p.inn=0)∧(0 ≤ p.lam→¬ p.inn < 1)) && decide (p.inn ≤ p.regs∧p.regs ≤ 400))),PUnit.unit):=by
  rw [← hb]
  by_cases a1 : -1 ≤ p.lam∧p.lam ≤ 149
  ·by_cases a2:p.inn < 0
   ·simp [a1,a2]
   ·by_cases a3:p.lam < 0
    ·have a5:¬ 0 ≤ p.lam:=by omega
     by_cases a4:p.inn=0
     ·simp only [decide_eq_true a1,decide_eq_false a2,decide_eq_true a3,decide_eq_false a5,decide_eq_true a4,br_true',br_false',Bool.not_true]
      rw [decide_eq_true (show (-1 ≤ p.lam∧p.lam ≤ 149)∧¬ p.inn < 0∧(p.lam < 0→p.inn=0)∧(0 ≤ p.lam→¬ p.inn < 1) by omega)]
      cases decide (p.inn ≤ p.regs∧p.regs ≤ 400)<;>cases decide (1 ≤ (p.ins.length:Int)∧(p.ins.length:Int) ≤ 600)<;>rfl
     ·simp only [decide_eq_true a1,decide_eq_false a2,decide_eq_true a3,decide_eq_false a4,br_true',br_false',Bool.not_false]
      rw [decide_eq_false (show ¬ ((-1 ≤ p.lam∧p.lam ≤ 149)∧¬ p.inn < 0∧(p.lam < 0→p.inn=0)∧(0 ≤ p.lam→¬ p.inn < 1)) by omega)]
      simp
    ·have a5:0 ≤ p.lam:=by omega
     by_cases a6:p.inn < 1
     ·simp only [decide_eq_true a1,decide_eq_false a2,decide_eq_false a3,decide_eq_true a5,decide_eq_true a6,br_true',br_false']
      rw [decide_eq_false (show ¬ ((-1 ≤ p.lam∧p.lam ≤ 149)∧¬ p.inn < 0∧(p.lam < 0→p.inn=0)∧(0 ≤ p.lam→¬ p.inn < 1)) by omega)]
      simp
     ·simp only [decide_eq_true a1,decide_eq_false a2,decide_eq_false a3,decide_eq_true a5,decide_eq_false a6,br_true',br_false']
      rw [decide_eq_true (show (-1 ≤ p.lam∧p.lam ≤ 149)∧¬ p.inn < 0∧(p.lam < 0→p.inn=0)∧(0 ≤ p.lam→¬ p.inn < 1) by omega)]
      cases decide (p.inn ≤ p.regs∧p.regs ≤ 400)<;>cases decide (1 ≤ (p.ins.length:Int)∧(p.ins.length:Int) ≤ 600)<;>rfl
  ·simp [a1]
 rw [hblk]
 generalize hlam:decide ((-1 ≤ p.lam∧p.lam ≤ 149)∧¬ p.inn < 0∧(p.lam < 0→p.inn=0)∧(0 ≤ p.lam→¬ p.inn < 1))=bl
 by_cases hn:1 ≤ (p.ins.length:Int)∧(p.ins.length:Int) ≤ 600
 ·rw [decide_eq_true hn]
  cases bl with
  |false=>rfl
  |true=>
   by_cases hr:p.inn ≤ p.regs∧p.regs ≤ 400
   ·have h0:0 ≤ p.regs:=by
     have:=of_decide_eq_true hlam
     omega
    rw [decide_eq_true hr]
    simp only [Bool.and_self,Bool.not_true,Bool.true_and,Option.bind_some,br_false']
    have hloop:=l9Piece_loop hok h0 p.ins [] (by simp)
    simp only [List.length_nil,Int.cast_ofNat_Int] at hloop
    rw [hloop]
    cases p.ins.all (insOkB p) with
    |false=>rfl
    |true=>
     obtain ⟨x,hx,hg,hnn⟩:=last_ins hl (by omega)
     simp only [cond_true,Option.bind_some,loK_out,beq_self_eq_true,br_true',asFp_fp,Nat.zero_add,Piece.enc_cell3,hnn,asSl_sl,hg,Ins.enc_fits,Ins.enc_cell0,asInt_int,Bool.true_and]
     unfold lastB
     rw [hx]
     by_cases h15:x.op=15
     ·simp [h15]
     ·simp [h15]
   ·rw [decide_eq_false hr];rfl
 ·rw [decide_eq_false hn];rfl
end Go.Proofs.Ytognghbhdalckaa.Abs

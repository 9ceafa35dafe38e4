/- A part. -/
import Derived.Test.YtognghbhdalckaaClashS
set_option linter.unusedVariables false
set_option linter.unusedSimpArgs false
set_option linter.unusedSectionVars false
set_option maxRecDepth 100000
namespace Go.Proofs.Ytognghbhdalckaa.Abs
open Go Go.Proofs
def clS (G:Nat→Nat→Bool) (i:Nat) (x:Ins):Nat→Nat→Bool:=fun a b=>
 (decide (b < a) && (G i a && G i b)) || nextC G (if x.op=17 then x.d else x.wr) (if x.op=17 then [x.to] else normL i x) a b
def csAll (G:Nat→Nat→Bool):Nat→List Ins→(Nat→Nat→Bool)→Nat→Nat→Bool
 |_,[],T=>T
 |i,x :: r,T=>csAll G (i + 1) r (addP T (clS G i x))
theorem cl_same (G:Nat→Nat→Bool) (i:Nat) (x:Ins) {a b:Nat} (h:a ≠ b) (hd:x.op=17→0 ≤ x.d):(clS G i x a b || clS G i x b a)=(clI G i x a b || clI G i x b a):=by
 unfold clS clI nextC behG
 have hlt:decide (b < a) = !decide (a < b):=by
  by_cases h2:a < b
  ·rw [decide_eq_true h2,decide_eq_false (by omega)];rfl
  ·rw [decide_eq_false h2,decide_eq_true (by omega)];rfl
 rw [hlt]
 by_cases h17:x.op=17
 ·rw [if_pos h17,if_pos h17,decide_eq_true (hd h17),decide_eq_true h17,wr_try h17]
  simp only [List.any_cons,List.any_nil,Bool.or_false,Bool.true_and]
  rw [show decide ((0:Int) ≤ -1)=false from rfl]
  generalize decide (a < b)=A
  generalize (decide (a=x.d.toNat) && G x.to.toNat b)=B
  generalize (decide (b=x.d.toNat) && G x.to.toNat a)=C
  cases A<;>cases B<;>cases C<;>cases G i a<;>cases G i b<;>rfl
 ·rw [if_neg h17,if_neg h17,decide_eq_false h17,norm_any,norm_any]
  generalize decide (a < b)=A
  generalize (decide (0 ≤ x.wr) && (decide (a=x.wr.toNat) && (waysL i x).any fun k=>G k.toNat b))=B
  generalize (decide (0 ≤ x.wr) && (decide (b=x.wr.toNat) && (waysL i x).any fun k=>G k.toNat a))=C
  cases A<;>cases B<;>cases C<;>cases G i a<;>cases G i b<;>simp
theorem all_same (G:Nat→Nat→Bool):∀ (l:List Ins) (i:Nat) (T:Nat→Nat→Bool),(∀ x ∈ l,x.op=17→0 ≤ x.d)→csAll G i l T=clAll G i l T
 |[],_,_,_=>rfl
 |x :: r,i,T,h=>by
  unfold csAll clAll
  rw [all_same G r (i + 1) _ fun y hy=>h y (by simp [hy]),addP_fun fun a b hne=>cl_same G i x hne (h x (by simp))]
theorem addP_comm {T c d:Nat→Nat→Bool}:addP (addP T c) d=addP (addP T d) c:=by
 rw [addP_addP,addP_addP]
 refine addP_fun fun x y _=>?_
 try dsimp only
 cases c x y<;>cases c y x<;>cases d x y<;>cases d y x<;>rfl
theorem clAll_addP (G:Nat→Nat→Bool):∀ (l:List Ins) (i:Nat) (T c:Nat→Nat→Bool),clAll G i l (addP T c)=addP (clAll G i l T) c
 |[],_,_,_=>rfl
 |x :: r,i,T,c=>by
  unfold clAll
  rw [addP_comm,clAll_addP G r]
section
variable {p:Piece} (F:Fit p) (G:Nat→Nat→Bool)
include F
theorem t_loop6:∀ (suf pre:List Ins) (T:Nat→Nat→Bool),p.ins=pre ++ suf→
  LL f_s_l11Table 6 lc_s_l11Table_6 [] k_s_l11Table_6 ((.fp p.enc 0,em p.ins.length p.regs.toNat G,(),(pre.length:Int),()),em p.regs.toNat p.regs.toNat T,()) =
   some (.out 6 ((.fp p.enc 0,em p.ins.length p.regs.toNat G,(),(p.ins.length:Int),()),em p.regs.toNat p.regs.toNat (csAll G pre.length suf T),()))
 |[],pre,T,he=>by
  have e:pre.length=p.ins.length:=by rw [he];simp
  rw [e]
  apply gl_s_l11Table_6
  unfold nl_s_l11Table_6
  simp [csAll]
 |x :: suf,pre,T,he=>by
  have ih:=t_loop6 suf (pre ++ [x]) (addP T (clS G pre.length x)) (by simpa using he)
  have hi:pre.length < p.ins.length:=by rw [he];simp
  have hx:p.ins[pre.length]? = some x:=by rw [he];simp
  have hn:=F.n
  have hR:=F.r
  rw [List.length_append,List.length_singleton,show (((pre.length + 1:Nat)):Int)=(pre.length:Int) + 1 by omega] at ih
  have hlt:decide ((pre.length:Int) < (((p.ins.map Ins.enc).length:Nat):Int))=true:=decide_eq_true (by rw [List.length_map];omega)
  have hw:=wrap_succ (i:=pre.length) (by omega)
  have tp:((pre.length:Nat):Int).toNat=pre.length:=by simp
  have hA:=All_law (R:=p.regs.toNat) (by omega) (G pre.length) T
  have hN:=Normal_law F hx
  have ge:((p.ins.map Ins.enc)[((pre.length:Nat):Int).toNat]?)=some x.enc:=ins_get hx
  rw [tp] at ge
  have e:addP (addP T fun a b=>decide (b < a) && (G pre.length a && G pre.length b)) (nextC G (if x.op=17 then x.d else x.wr) (if x.op=17 then [x.to] else normL pre.length x))=addP T (clS G pre.length x):=by
   rw [addP_addP];rfl
  apply gl_s_l11Table_6
  unfold nl_s_l11Table_6
  simp only [asFp_fp,Option.bind_some,Nat.zero_add,Piece.enc_cell3,asSl_sl,hlt,br_true',ge0,tp,em_get hi,fits_sl,cell_sl,hA,List.getElem?_cons_zero,ge,Ins.enc_fits,Ins.enc_sub,Writes_s,Piece.enc_sub,hN,isFlat_sl,Ins.enc_cell0,Ins.enc_cell1,Ins.enc_cell6,asInt_int,isFlat_int,Bool.and_true]
  by_cases h17:x.op=17
  ·have hto:=F.to (ins_mem hx) (by rw [h17];rfl)
   have hd:=F.d (ins_mem hx) (by rw [h17];rfl)
   obtain ⟨q,h8⟩:=t_loop8 F G (pre.length:Int) (w:=x.d) (fun _=>by omega) [x.to] (fun k hk=>by simp at hk;subst hk;exact ⟨hto.1,by omega⟩) (by simp) [x.to] [] (addP T fun a b=>decide (b < a) && (G pre.length a && G pre.length b)) rfl
   simp only [List.length_nil,Int.cast_ofNat_Int,List.map_cons,List.map_nil] at h8
   rw [if_pos h17,if_pos h17] at e
   simp only [decide_eq_true h17,br_true']
   rw [h8]
   simp only [Option.bind_some,loK_out,beq_self_eq_true,br_true',hw]
   rw [e]
   exact ih
  ·obtain ⟨q,h8⟩:=t_loop8 F G (pre.length:Int) (w:=x.wr) (fun h=>F.wr (ins_mem hx) h) (normL pre.length x) (fun k hk=>ways_lt F hx k (norm_mem.1 hk)) (by have:=norm_len (i:=pre.length) (x:=x);omega) (normL pre.length x) [] (addP T fun a b=>decide (b < a) && (G pre.length a && G pre.length b)) rfl
   simp only [List.length_nil,Int.cast_ofNat_Int] at h8
   rw [if_neg h17,if_neg h17] at e
   simp only [decide_eq_false h17,br_false']
   rw [h8]
   simp only [Option.bind_some,loK_out,beq_self_eq_true,br_true',hw]
   rw [e]
   exact ih
theorem Table_law (hG:CC f_s_l10Solve [.v p.enc] []=some (.fp (.agg [.int .i64 p.lam,.int .i64 p.inn,.int .i64 p.regs,.sl (p.ins.map Ins.enc),.sl (em p.ins.length p.regs.toNat G),.bool false]) 0,[])) :
  CC f_s_l11Table [.v p.enc] []=some (.sl (em p.regs.toNat p.regs.toNat (clashT p G)),[]):=by
 have h0:=t_loop0 F G p.regs.toNat 0 (by omega)
 have h2:=t_loop2 F G p.inn.toNat 0 (fun _ _=>false) (by omega)
 have h6:=t_loop6 F G p.ins [] (addP (fun _ _=>false) fun x y=>(decide (0 ≤ x) && decide (x < p.inn.toNat)) && decide (y < x)) rfl
 simp only [List.length_nil,Int.cast_ofNat_Int] at h0 h2 h6
 have e0:em 0 p.regs.toNat (fun _ _=>false)=[]:=rfl
 rw [e0] at h0
 have e:csAll G 0 p.ins (addP (fun _ _=>false) fun x y=>(decide (0 ≤ x) && decide (x < p.inn.toNat)) && decide (y < x))=clashT p G:=by
  rw [all_same G p.ins 0 _ fun x hx h17=>(F.d hx (by rw [h17];rfl)).1,clAll_addP]
  unfold clashT
  refine addP_fun fun x y hne=>?_
  have hlt:decide (y < x) = !decide (x < y):=by
   by_cases h2:x < y
   ·rw [decide_eq_true h2,decide_eq_false (by omega)];rfl
   ·rw [decide_eq_false h2,decide_eq_true (by omega)];rfl
  rw [hlt,decide_eq_true (Nat.zero_le x),decide_eq_true (Nat.zero_le y)]
  by_cases hxy:x < y
  ·have:y < p.inn.toNat→x < p.inn.toNat:=fun h=>by omega
   by_cases hy:y < p.inn.toNat
   ·simp [hxy,hy,this hy]
   ·simp [hxy,hy]
  ·have:x < p.inn.toNat→y < p.inn.toNat:=fun h=>by omega
   by_cases hx:x < p.inn.toNat
   ·simp [hxy,hx,this hx]
   ·simp [hxy,hx]
 rw [e] at h6
 rw [Piece.enc_def]
 apply go_s_l11Table
 unfold nf_s_l11Table
 simp only [Piece.enc_eta,hG,Option.bind_some,asFp_fp,Nat.zero_add,cell_agg,List.getElem?_cons_zero,List.getElem?_cons_succ,asSl_sl]
 rw [h0]
 simp only [Option.bind_some,loK_out,beq_self_eq_true,br_true']
 rw [h2]
 simp only [Option.bind_some,loK_out,beq_self_eq_true,br_true']
 rw [h6]
 rfl
end
end Go.Proofs.Ytognghbhdalckaa.Abs

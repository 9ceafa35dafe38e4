/- A part. -/
import Derived.Test.YtognghbhdalckaaPieceFns
import Derived.Test.YtognghbhdalckaaInLaws
set_option linter.unusedVariables false
set_option linter.unusedSectionVars false
set_option linter.unusedSimpArgs false
namespace Go.Proofs.Ytognghbhdalckaa.Abs
open Go Go.Proofs
open Classical
def guardStep (st:List Int) (k:Int) (x:Ins):List Int:=if x.op=17 then st ++ [k] else if x.op=18 then st.dropLast else st
def guardSt:List Int→Int→List Ins→List Int
 |st,_,[]=>st
 |st,k,x :: r=>guardSt (guardStep st k x) (k + 1) r
theorem guardStep_len {st:List Int} {k:Int} {x:Ins}:(guardStep st k x).length ≤ st.length + 1:=by
 unfold guardStep
 split
 ·simp
 split<;>simp<;>omega
def guardOf (p:Piece) (i:Int):Int:=if 0 ≤ i∧i ≤ (p.ins.length:Int) - 1 then ((guardSt [] 0 (p.ins.take i.toNat)).getLast?).getD (-1) else -1
theorem take_dropLast (l:List Int) (h:l.length ≤ 1048576):List.take (bif decide ((0:Int) < IntKind.i64.wrap (((l.map (CVal.int .i64)).length:Int) - 1)) then IntKind.i64.wrap (((l.map (CVal.int .i64)).length:Int) - 1) else 0).toNat (l.map (CVal.int .i64))=l.dropLast.map (CVal.int .i64):=by
 have hw:IntKind.i64.wrap (((l.map (CVal.int .i64)).length:Int) - 1)=(l.length:Int) - 1:=by rw [List.length_map,wrap_i64]<;>omega
 rw [hw,List.dropLast_eq_take,List.map_take]
 congr 1
 by_cases h0:(0:Int) < (l.length:Int) - 1
 ·rw [decide_eq_true h0,cond_true];omega
 ·rw [decide_eq_false h0,cond_false];omega
theorem guard_i_loop:∀ (suf pre:List Ins) (st:List Int),(pre ++ suf).length ≤ 1048576→st.length ≤ pre.length→
  LL f_i_guardOf 0 lc_i_guardOf_0 [] k_i_guardOf_0 (((),(pre ++ suf).map Ins.enc,((pre ++ suf).length:Int),(pre.length:Int),()),st.map (.int .i64),()) =
   some (.out 0 (((),(pre ++ suf).map Ins.enc,((pre ++ suf).length:Int),((pre ++ suf).length:Int),()),(guardSt st pre.length suf).map (.int .i64),()))
 |[],pre,st,hl,hs=>by
  apply gl_i_guardOf_0
  unfold nl_i_guardOf_0
  rw [lt_end']
  simp [guardSt]
 |x :: suf,pre,st,hl,hs=>by
  have hlen:pre.length + suf.length + 1 ≤ 1048576:=by simpa [Nat.add_assoc] using hl
  have ih:=guard_i_loop suf (pre ++ [x]) (guardStep st pre.length x) (by simpa using hl) (by have:=guardStep_len (st:=st) (k:=pre.length) (x:=x);simp;omega)
  simp only [List.append_assoc,List.singleton_append] at ih
  have e:((pre ++ [x]).length:Int)=(pre.length:Int) + 1:=by simp
  apply gl_i_guardOf_0
  unfold nl_i_guardOf_0
  rw [lt_mid',nn_mid,get_mid,wrap_mid pre suf x hl]
  simp only [br_true',Option.bind_some,Ins.enc_fits,Ins.enc_sub,Ins.enc_isAggN,Ins.enc_cell0,Ins.enc_cell1,Ins.enc_cell2,Ins.enc_cell3,Ins.enc_cell4,Ins.enc_cell5,Ins.enc_cell6,Ins.enc_eta,asSl_sl,asInt_int,Ins.enc_isAggN,Ins.enc_cell0,Ins.enc_cell1,Ins.enc_cell2,Ins.enc_cell3,Ins.enc_cell4,Ins.enc_cell5,Ins.enc_cell6,asInt_int,guardSt]
  rw [← e,← ih]
  unfold guardStep
  by_cases h1:x.op=17
  ·have:decide ((st.map (CVal.int .i64)).length + 1 ≤ 4294967296)=true:=decide_eq_true (by rw [List.length_map];omega)
   simp only [h1,this,decide_true,br_true',Bool.and_true,if_true,List.map_append,List.map_cons,List.map_nil]
  ·by_cases h2:x.op=18
   ·have hw:IntKind.i64.wrap (((st.map (CVal.int .i64)).length:Int) - 1)=(st.length:Int) - 1:=by rw [List.length_map,wrap_i64]<;>omega
    have ht:=take_dropLast st (by omega)
    have h17:¬ (18:Int)=17:=by decide
    simp only [h2,h17,decide_false,decide_true,br_false',br_true',if_false,if_true]
    rw [ht,hw]
    have hb:(decide ((0:Int) ≤ bif decide ((0:Int) < (st.length:Int) - 1) then (st.length:Int) - 1 else 0) && decide ((bif decide ((0:Int) < (st.length:Int) - 1) then (st.length:Int) - 1 else 0) ≤ (((st.map (CVal.int .i64)).length:Nat):Int)))=true:=by
     rw [List.length_map]
     by_cases h0:(0:Int) < (st.length:Int) - 1
     ·rw [decide_eq_true h0,cond_true,decide_eq_true (by omega),decide_eq_true (by omega)];rfl
     ·rw [decide_eq_false h0,cond_false,decide_eq_true (by omega),decide_eq_true (by omega)];rfl
    rw [hb];simp only [Bool.and_self,br_true']
   ·simp [h1,h2]
theorem guard_s_loop (b a0 a1 a2:Int):∀ (suf pre:List Ins) (st:List Int),(pre ++ suf).length ≤ 1048576→st.length ≤ pre.length→
  ∃ q,LL f_s_l10Guard 0 lc_s_l10Guard_0 [] k_s_l10Guard_0 ((b,(),(),(pre.length:Int),()),(a0,a1,a2,(pre ++ suf).map Ins.enc,()),st.map (.int .i64),()) =
   some (.out 0 ((b,(),(),q,()),(a0,a1,a2,(pre ++ suf).map Ins.enc,()),(guardSt st pre.length (suf.take (b - pre.length).toNat)).map (.int .i64),()))
 |[],pre,st,hl,hs=>by
  refine ⟨(pre.length:Int),gl_s_l10Guard_0 _ _ _ _ _ _ _ _ ?_⟩
  unfold nl_s_l10Guard_0
  rw [lt_end]
  simp only [br_decide]
  split<;>simp [guardSt]
 |x :: suf,pre,st,hl,hs=>by
  by_cases hb:(pre.length:Int) < b
  ·have hlen:pre.length + suf.length + 1 ≤ 1048576:=by simpa [Nat.add_assoc] using hl
   obtain ⟨q,ih⟩:=guard_s_loop b a0 a1 a2 suf (pre ++ [x]) (guardStep st pre.length x) (by simpa using hl) (by have:=guardStep_len (st:=st) (k:=pre.length) (x:=x);simp;omega)
   simp only [List.append_assoc,List.singleton_append] at ih
   have e:((pre ++ [x]).length:Int)=(pre.length:Int) + 1:=by simp
   have et:(x :: suf).take (b - pre.length).toNat=x :: suf.take (b - ((pre ++ [x]).length:Int)).toNat:=by
    rw [e,show (b - (pre.length:Int)).toNat=(b - ((pre.length:Int) + 1)).toNat + 1 by omega,List.take_succ_cons]
   refine ⟨q,gl_s_l10Guard_0 _ _ _ _ _ _ _ _ ?_⟩
   unfold nl_s_l10Guard_0
   rw [lt_mid,nn_mid,get_mid,wrap_mid pre suf x hl,et]
   simp only [decide_eq_true hb,br_true',Option.bind_some,Ins.enc_fits,Ins.enc_cell0,asInt_int,guardSt]
   rw [← e,← ih]
   unfold guardStep
   by_cases h1:x.op=17
   ·have:decide ((st.map (CVal.int .i64)).length + 1 ≤ 4294967296)=true:=decide_eq_true (by rw [List.length_map];omega)
    simp only [h1,this,decide_true,br_true',Bool.and_true,if_true,List.map_append,List.map_cons,List.map_nil]
   ·by_cases h2:x.op=18
    ·have hw:IntKind.i64.wrap ((st.length:Int) - 1)=(st.length:Int) - 1:=by rw [wrap_i64]<;>omega
     have h17:¬ (18:Int)=17:=by decide
     simp only [h2,h17,decide_false,decide_true,br_false',br_true',if_false,if_true,List.length_map,hw]
     by_cases h0:(0:Int) < (st.length:Int)
     ·have ht:List.take ((st.length:Int) - 1).toNat (st.map (CVal.int .i64))=st.dropLast.map (CVal.int .i64):=by
       rw [List.dropLast_eq_take,List.map_take];congr 1;omega
      rw [decide_eq_true h0,decide_eq_true (show (0:Int) ≤ (st.length:Int) - 1 by omega),decide_eq_true (show (st.length:Int) - 1 ≤ (st.length:Int) by omega),ht]
      simp
     ·have:st=[]:=List.eq_nil_of_length_eq_zero (by omega)
      subst this
      simp
    ·simp [h1,h2]
  ·refine ⟨(pre.length:Int),gl_s_l10Guard_0 _ _ _ _ _ _ _ _ ?_⟩
   unfold nl_s_l10Guard_0
   simp only [decide_eq_false hb,br_false',Option.bind_some]
   have:(b - (pre.length:Int)).toNat=0:=by omega
   rw [this,List.take_zero,guardSt]
theorem last_get (l:List Int):(l.map (CVal.int .i64))[((l.length:Int) - 1).toNat]? = (l.getLast?).map (CVal.int .i64):=by
 rw [List.getElem?_map,List.getLast?_eq_getElem?]
 congr 2
 omega
theorem guardOf_i {p:Piece} (hok:p.ok) (i:Int):CC f_i_guardOf [.v p.enc,.v (.int .i64 i)] []=some (.int .i64 (guardOf p i),[]):=by
 rw [Piece.enc_def]
 apply go_i_guardOf
 unfold nf_i_guardOf guardOf
 have hl:=hok.ins_len
 have hw:IntKind.i64.wrap (((p.ins.map Ins.enc).length:Int) - 1)=(p.ins.length:Int) - 1:=by rw [List.length_map,wrap_i64]<;>omega
 simp only [hw,in_law,Option.bind_some,asBool_bool,br_not]
 by_cases hi:0 ≤ i∧i ≤ (p.ins.length:Int) - 1
 ·have hall:(p.ins.map Ins.enc).all (CVal.fits true 7)=true:=by simp
  have hd:(decide ((0:Int) ≤ i) && decide (i ≤ (((p.ins.map Ins.enc).length:Nat):Int)) && (p.ins.map Ins.enc).all (CVal.fits true 7))=true:=by
   rw [hall,decide_eq_true hi.1,List.length_map,decide_eq_true (by omega)];rfl
  have hloop:=guard_i_loop (p.ins.take i.toNat) [] [] (by simp;omega) (by simp)
  simp only [List.nil_append,List.length_nil,List.map_nil,Int.cast_ofNat_Int,List.map_take] at hloop
  rw [if_pos hi,decide_eq_true hi,br_true',hd,br_true',List.drop_zero]
  have e5:(((List.take i.toNat (p.ins.map Ins.enc)).length:Nat):Int)=(((p.ins.take i.toNat).length:Nat):Int):=by simp
  rw [e5,hloop]
  simp only [Option.bind_some,loK_out,beq_self_eq_true,br_true',List.length_map]
  generalize hg:guardSt [] 0 (p.ins.take i.toNat)=g
  have hgl:g.length ≤ 1048576:=by
   have:∀ (l:List Ins) (st:List Int) (k:Int),(guardSt st k l).length ≤ st.length + l.length:=by
    intro l
    induction l with
    |nil=>intro st k;simp [guardSt]
    |cons x r ih=>intro st k;have:=ih (guardStep st k x) (k + 1);have:=guardStep_len (st:=st) (k:=k) (x:=x);simp only [guardSt,List.length_cons];omega
   have:=this (p.ins.take i.toNat) [] 0
   rw [hg,List.length_take] at this
   simp at this;omega
  have hw2:IntKind.i64.wrap ((g.length:Int) - 1)=(g.length:Int) - 1:=by rw [wrap_i64]<;>omega
  by_cases h0:g=[]
  ·subst h0;simp
  ·have hpos:0 < g.length:=List.length_pos_iff.2 h0
   obtain ⟨y,hy⟩:∃ y,g.getLast? = some y:=by
    cases h:g.getLast? with
    |none=>rw [List.getLast?_eq_none_iff] at h;exact (h0 h).elim
    |some y=>exact ⟨y,rfl⟩
   have hne:¬ ((g.length:Nat):Int)=0:=by omega
   have hlt:((g.length:Int) - 1).toNat < g.length:=by omega
   have hge:(0:Int) ≤ (g.length:Int) - 1:=by omega
   simp only [decide_eq_false hne,br_false',hw2,decide_eq_true hge,Bool.true_and,br_true',decide_eq_true hlt,last_get,hy,Option.map_some,Option.bind_some,cell_int,asInt_int,Option.getD_some]
 ·rw [if_neg hi,decide_eq_false hi,br_false']
theorem guardOf_s {p:Piece} (hok:p.ok) (i:Int):CC f_s_l10Guard [.v p.enc,.v (.int .i64 i)] []=some (.int .i64 (guardOf p i),[]):=by
 rw [Piece.enc_def]
 apply go_s_l10Guard
 unfold nf_s_l10Guard guardOf
 have hl:=hok.ins_len
 have hw:IntKind.i64.wrap ((p.ins.length:Int) - 1)=(p.ins.length:Int) - 1:=by rw [wrap_i64]<;>omega
 obtain ⟨q,hloop⟩:=guard_s_loop i p.lam p.inn p.regs p.ins [] [] (by simpa using hl) (by simp)
 simp only [List.nil_append,List.length_nil,List.map_nil,Int.cast_ofNat_Int,Int.sub_zero] at hloop
 rw [hloop]
 simp only [Option.bind_some,loK_out,beq_self_eq_true,br_true',l1In_law,asBool_bool,List.length_map,hw]
 generalize hg:guardSt [] 0 (p.ins.take i.toNat)=g
 have hgl:g.length ≤ 1048576:=by
  have:∀ (l:List Ins) (st:List Int) (k:Int),(guardSt st k l).length ≤ st.length + l.length:=by
   intro l
   induction l with
   |nil=>intro st k;simp [guardSt]
   |cons x r ih=>intro st k;have:=ih (guardStep st k x) (k + 1);have:=guardStep_len (st:=st) (k:=k) (x:=x);simp only [guardSt,List.length_cons];omega
  have:=this (p.ins.take i.toNat) [] 0
  rw [hg,List.length_take] at this
  simp at this;omega
 have hw2:IntKind.i64.wrap ((g.length:Int) - 1)=(g.length:Int) - 1:=by rw [wrap_i64]<;>omega
 by_cases h0:g=[]
 ·subst h0;simp
 ·have hpos:0 < g.length:=List.length_pos_iff.2 h0
  have hne:¬ ((g.length:Nat):Int)=0:=by omega
  by_cases hi:0 ≤ i∧i ≤ (p.ins.length:Int) - 1
  ·obtain ⟨y,hy⟩:∃ y,g.getLast? = some y:=by
    cases h:g.getLast? with
    |none=>rw [List.getLast?_eq_none_iff] at h;exact (h0 h).elim
    |some y=>exact ⟨y,rfl⟩
   have hlt:((g.length:Int) - 1).toNat < g.length:=by omega
   have hge:(0:Int) ≤ (g.length:Int) - 1:=by omega
   simp only [decide_eq_false hne,br_false',decide_eq_true hi,Bool.not_true,Option.bind_some,hw2,decide_eq_true hge,Bool.true_and,br_true',decide_eq_true hlt,last_get,hy,Option.map_some,cell_int,asInt_int,Option.getD_some,if_pos hi,Bool.and_true]
  ·simp only [decide_eq_false hne,br_false',decide_eq_false hi,Bool.not_false,Option.bind_some,br_true',if_neg hi]
def guard (p:Piece) (i:Int):Int:=if guardOf p i < 0 then -1 else ((p.ins[(guardOf p i).toNat]?).map Ins.to).getD (-1)
end Go.Proofs.Ytognghbhdalckaa.Abs

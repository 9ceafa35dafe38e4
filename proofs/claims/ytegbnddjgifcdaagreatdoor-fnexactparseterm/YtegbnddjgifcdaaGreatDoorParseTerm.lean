/- A part. -/
import Derived.Test.YtegbnddjgifcdaaGreatDoorTermS2
import Derived.Test.YtegbnddjgifcdaaGreatDoorTermI2
import Derived.Test.YtegbnddjgifcdaaGreatDoorTermText
import Derived.Test.YtegbnddjgifcdaaGreatDoorTermMark
set_option linter.unusedVariables false
set_option linter.unusedSectionVars false
set_option linter.unusedSimpArgs false
set_option maxRecDepth 100000
set_option maxHeartbeats 2000000
namespace Go.Proofs.YtegbnddjgifcdaaGreatDoor.Abs
open Go Go.Proofs
open Classical
theorem primOk:PrimOk E:=⟨fun _=>rfl,fun g p hg args pbs ret hr=>by
 have hg:(match g with | 13=>some xSplit | 65=>some xAtoi | 66=>some xItoa | _=>none:Option _)=some p:=hg
 split at hg
 ·cases hg;exact xSplit_ok hr
 ·cases hg;exact xAtoi_ok hr
 ·cases hg;exact xItoa_ok hr
 ·cases hg⟩
noncomputable def outP (o:Option Term):CVal:=match o with
 |some t=>.tup [t.enc,.bool true]
 |none=>.tup [(noTerm).enc,.bool false]
theorem noTerm_enc:noTerm.enc=.agg [.int .i64 0,.int .i64 0,.str [],.str [],.int .i64 0,.int .i64 0,.sl [],.sl [],.sl []]:=by rw [encZ];rfl
theorem cut_ok {s:List UInt8} (hs:s.length ≤ 1048576):WordsOk (cutP [] s):=by
 intro w hw
 have h1:=W_cut s []
 have h2:w.length + 1 ≤ W (cutP [] s):=by
  unfold W
  have:∀ l:List Nat,∀ x ∈ l,x ≤ l.sum:=by
   intro l
   induction l with
   |nil=>intro x h;cases h
   |cons y l ih=>
    intro x h
    rw [List.sum_cons]
    rcases List.mem_cons.1 h with rfl | h
    ·omega
    ·have:=ih x h;omega
  exact this _ _ (List.mem_map.2 ⟨w,hw,rfl⟩)
 simp at h1
 omega
theorem rdS_ok {s:List UInt8} (hs:s.length ≤ 1048576) {t:Term} {r:Words} (h:rdS 24 (cutP [] s)=some (t,r)):t.ok:=by
 have hw:=W_cut s []
 simp at hw
 have:=rdS_W 24 _ t r h (by omega)
 exact ⟨this.1,by omega⟩
theorem rdI_ok {s:List UInt8} (hs:s.length ≤ 1048576) {t:Term} {r:Words} (h:rdI 24 (cutP [] s)=some (t,r)):t.ok:=by
 have hw:=W_cut s []
 simp at hw
 have:=rdI_W 24 _ t r h (by omega)
 exact ⟨this.1,by omega⟩
theorem parse_ok {s:List UInt8} (hs:s.length ≤ 1048576) {t:Term} (h:Term.parse s=some t):t.ok:=by
 unfold Term.parse at h
 split at h
 ·next u e=>
  split at h
  ·cases h;exact rdI_ok hs e
  ·cases h
 ·cases h
theorem ParseTerm_i {s:List UInt8} (hs:s.length ≤ 1048576):CC f_i_ParseTerm [.v (.str s)] []=some (outP (Term.parse s),[]):=by
 have h2:=term_law 24 (by omega) (cutP [] s) (cut_ok hs)
 apply go_i_ParseTerm
 unfold nf_i_ParseTerm
 refine bd (Split_law hs) (br_T rfl ?_)
 unfold Term.parse
 cases hr:rdI 24 (cutP [] s) with
 |none=>
  obtain ⟨t,r,e⟩:=h2.2 hr
  refine bd e (bd rfl (bd rfl (bd rfl (br_T (Term.enc_isAggN t) (bd (Term.enc_cell0 t) (bd (Term.enc_cell1 t) (bd (Term.enc_cell2 t) (bd (Term.enc_cell3 t) (bd (Term.enc_cell4 t) (bd (Term.enc_cell5 t) (bd (Term.enc_cell6 t) (bd (Term.enc_cell7 t) (bd (Term.enc_cell8 t) (bd rfl (bd rfl (bd rfl (bd (a:=(true,PUnit.unit)) (bd rfl (br_T rfl rfl)) (br_T rfl ?_))))))))))))))))))
  show _=some (CVal.tup [noTerm.enc,.bool false],[])
  rw [noTerm_enc]
 |some x=>
  obtain ⟨t,r⟩:=x
  have hok:=rdI_ok hs hr
  have h3:=TermOk_i hok
  rw [Term.enc_def] at h3
  refine bd (h2.1 t r hr) (bd rfl (bd rfl (bd rfl (br_T (Term.enc_isAggN t) (bd (Term.enc_cell0 t) (bd (Term.enc_cell1 t) (bd (Term.enc_cell2 t) (bd (Term.enc_cell3 t) (bd (Term.enc_cell4 t) (bd (Term.enc_cell5 t) (bd (Term.enc_cell6 t) (bd (Term.enc_cell7 t) (bd (Term.enc_cell8 t) (bd rfl (bd rfl (bd rfl ?_))))))))))))))))
  cases r with
  |nil=>
   by_cases hR:t.right
   ·refine bd (a:=(false,PUnit.unit)) (bd rfl (br_F rfl (bd rfl (br_F (by simp) (bd h3 (br_F rfl (bd rfl (by simp [hR])))))))) (br_F rfl (bd asInt_int (bd asInt_int (bd rfl (bd rfl (bd asInt_int (bd asInt_int ?_)))))))
    show _=some (outP (if t.right then some t else none),[])
    rw [if_pos hR]
    show _=some (CVal.tup [t.enc,.bool true],[])
    rw [Term.enc_def]
   ·refine bd (a:=(true,PUnit.unit)) (bd rfl (br_F rfl (bd rfl (br_F (by simp) (bd h3 (br_F rfl (bd rfl (by simp [hR])))))))) (br_T rfl ?_)
    show _=some (outP (if t.right then some t else none),[])
    rw [if_neg hR]
    show _=some (CVal.tup [noTerm.enc,.bool false],[])
    rw [noTerm_enc]
  |cons w r=>
   refine bd (a:=(true,PUnit.unit)) (bd rfl (br_F rfl (bd rfl (br_T (by simp) rfl)))) (br_T rfl ?_)
   show _=some (CVal.tup [noTerm.enc,.bool false],[])
   rw [noTerm_enc]
theorem ParseTerm_s {s:List UInt8} (hs:s.length ≤ 1048576):CC f_s_ParseTerm [.v (.str s)] []=some (outP (Term.parse s),[]):=by
 have hl:=cutP_len (s:=s) []
 have h2:=l2Read_law (ws:=cutP [] s) (by omega) (cut_ok hs) 24 (by omega) (cutP [] s) 0 ⟨[],rfl⟩ (by omega)
 apply go_s_ParseTerm
 unfold nf_s_ParseTerm
 refine bd (l1Split_law s hs) (br_T rfl ?_)
 cases hr:rdS 24 (cutP [] s) with
 |none=>
  have hp:Term.parse s=none:=by
   cases h:Term.parse s with
   |none=>rfl
   |some t=>
    obtain ⟨q1,q2⟩:=Term.parse_some h
    have:=Term.rdS_toks t q1.1 24 q1.2.1 []
    rw [List.append_nil,← Term.cut_text q1.1,q2,hr] at this
    cases this
  obtain ⟨t,i,e⟩:=h2.2 hr
  rw [hp]
  refine bd e (bd rfl (bd rfl (bd rfl (bd rfl (br_T (Term.enc_isAggN t) (bd (Term.enc_cell0 t) (bd (Term.enc_cell1 t) (bd (Term.enc_cell2 t) (bd (Term.enc_cell3 t) (bd (Term.enc_cell4 t) (bd (Term.enc_cell5 t) (bd (Term.enc_cell6 t) (bd (Term.enc_cell7 t) (bd (Term.enc_cell8 t) (bd rfl (bd rfl (bd rfl (bd (a:=(true,PUnit.unit)) (bd rfl (br_T rfl rfl)) (br_T rfl ?_)))))))))))))))))))
  show _=some (CVal.tup [noTerm.enc,.bool false],[])
  rw [noTerm_enc]
 |some x=>
  obtain ⟨t,r⟩:=x
  have hok:=rdS_ok hs hr
  have h3:=TermOk_s hok
  rw [Term.enc_def] at h3
  refine bd (h2.1 t r hr) (bd rfl (bd rfl (bd rfl (bd rfl (br_T (Term.enc_isAggN t) (bd (Term.enc_cell0 t) (bd (Term.enc_cell1 t) (bd (Term.enc_cell2 t) (bd (Term.enc_cell3 t) (bd (Term.enc_cell4 t) (bd (Term.enc_cell5 t) (bd (Term.enc_cell6 t) (bd (Term.enc_cell7 t) (bd (Term.enc_cell8 t) (bd rfl (bd rfl (bd rfl ?_)))))))))))))))))
  by_cases hR:t.right
  ·have h4:=l2Text_law t hR.1 hok hR.2.2
   rw [Term.enc_def] at h4
   by_cases ht:t.text=s
   ·have hp:Term.parse s=some t:=by rw [← ht];exact Term.parse_text hR
    refine bd (a:=(false,PUnit.unit)) (bd rfl (br_F rfl (bd h3 (br_F rfl (bd rfl (br_F (by simp [hR]) (bd h4 (br_F rfl (bd rfl (by rw [decide_eq_true ht];rfl)))))))))) (br_F rfl ?_)
    rw [hp]
    show _=some (CVal.tup [t.enc,.bool true],[])
    rw [Term.enc_def]
   ·have hp:Term.parse s=none:=by
     cases h:Term.parse s with
     |none=>rfl
     |some u=>
      obtain ⟨q1,q2⟩:=Term.parse_some h
      have:=Term.rdS_toks u q1.1 24 q1.2.1 []
      rw [List.append_nil,← Term.cut_text q1.1,q2,hr] at this
      cases this
      exact (ht q2).elim
    refine bd (a:=(true,PUnit.unit)) (bd rfl (br_F rfl (bd h3 (br_F rfl (bd rfl (br_F (by simp [hR]) (bd h4 (br_F rfl (bd rfl (by rw [decide_eq_false ht];rfl)))))))))) (br_T rfl ?_)
    rw [hp]
    show _=some (CVal.tup [noTerm.enc,.bool false],[])
    rw [noTerm_enc]
  ·have hp:Term.parse s=none:=by
    cases h:Term.parse s with
    |none=>rfl
    |some u=>
     obtain ⟨q1,q2⟩:=Term.parse_some h
     have:=Term.rdS_toks u q1.1 24 q1.2.1 []
     rw [List.append_nil,← Term.cut_text q1.1,q2,hr] at this
     cases this
     exact (hR q1).elim
   refine bd (a:=(true,PUnit.unit)) (bd rfl (br_F rfl (bd h3 (br_F rfl (bd rfl (br_T (by simp [hR]) rfl)))))) (br_T rfl ?_)
   rw [hp]
   show _=some (CVal.tup [noTerm.enc,.bool false],[])
   rw [noTerm_enc]
theorem law_ParseTerm {s:List UInt8} (_:s.length ≤ maxLen):CC f_l_FnExactParseTerm [.v (.str s)] []=some (.bool true,[]):=by
 apply go_l_FnExactParseTerm
 unfold nf_l_FnExactParseTerm
 by_cases hs:(1048576:Int) < (s.length:Int)
 ·simp only [decide_eq_true hs,br_true']
 ·have hS:=ParseTerm_s (s:=s) (by omega)
  have hI:=ParseTerm_i (s:=s) (by omega)
  obtain ⟨o,b,ho,e⟩:∃ (o:Term) (b:Bool),o.ok∧outP (Term.parse s)=.tup [o.enc,.bool b]:=by
   cases hp:Term.parse s with
   |none=>
    refine ⟨noTerm,false,?_,rfl⟩
    have hz:=W_T (k:=0) (c:=[]) (c1:=[]) (t:=Ty.zero) rfl
    have:=term_W (k:=0) (n:=0) (s:=[]) (z:=[]) (t:=Ty.zero) (ts:=[]) (a:=[]) (X:=1000) (by omega) (by omega) hz.1 (by simp) (by simp) (by have:=hz.2;simp at this ⊢;omega) (by omega)
    exact ⟨this.1,Nat.le_trans this.2 (by omega)⟩
   |some t=>exact ⟨t,true,parse_ok (by omega) hp,rfl⟩
  rw [e] at hS hI
  have hE3:=eqTerm_law o ho
  have hz:=numTm_sz o
  have hm:numTm o=6 + numTL o.t.a + numTL o.ts + numTmL o.a:=by cases o;rfl
  have b2:=ho.2
  have b3:(numTm o:Int) ≤ 6 + 6 * 1048576:=by omega
  have m3:=markTerm_law ho 1 (by omega) (by omega)
  have m4:=heldTerm_law ho 1 (by omega) (by omega)
  have n2:¬ (1 + (numTL o.t.a:Int) + (numTL o.ts:Int) + (numTmL o.a:Int) < 0):=by omega
  simp only [decide_eq_false hs,hS,hI,Option.bind_some,asInt_int,br_true',br_false',asTup_tup,List.getElem?_cons_zero,List.getElem?_cons_succ,Term.enc_isAggN,Term.enc_cell0,Term.enc_cell1,Term.enc_cell2,Term.enc_cell3,Term.enc_cell4,Term.enc_cell5,Term.enc_cell6,Term.enc_cell7,Term.enc_cell8,asSl_sl,isFlat_sl,Term.enc_eta,Bool.not_true,isFlat_bool,hE3,scalar_bool,scalar_int,asBool_bool,m3,m4,n2,decide_false,decide_true]
  cases b<;>rfl
end Go.Proofs.YtegbnddjgifcdaaGreatDoor.Abs

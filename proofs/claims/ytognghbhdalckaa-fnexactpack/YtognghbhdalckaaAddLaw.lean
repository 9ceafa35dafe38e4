/- A part. -/
import Derived.Test.YtognghbhdalckaaSortLaw
import Derived.Test.YtognghbhdalckaaData
import Derived.Test.YtognghbhdalckaaK1Eqs
set_option linter.unusedVariables false
set_option linter.unusedSimpArgs false
set_option maxRecDepth 100000
namespace Go.Proofs.Ytognghbhdalckaa.Abs
open Go Go.Proofs
theorem primOk:PrimOk E:=by
 refine ⟨fun _=>rfl,fun g p hg args pbs ret hr=>?_⟩
 unfold E at hg
 simp only at hg
 split at hg
 all_goals first
  |(cases hg;exact xSort_ok hr)
  |(cases hg;exact xCompact_ok hr)
  |(cases hg;exact xClone29_ok hr)
  |(cases hg;exact xClone30_ok hr)
  |cases hg
theorem Sort_law {m:Md} {l:List Int} (h:l.length ≤ 4000000000):CC f_slices_Sort_int [.lref 0 0] [.arr m false 1 (l.map (.int .i64))]=some (.tup [],[(sortE l).map (.int .i64)]):=
 extW (by decide) rfl (xSort_eq h)
theorem Compact_law {m:Md} (hm:m.fix=false) {l:List Int} (h:l.length ≤ 4000000000):CC f_slices_Compact_int [.lref 0 0] [.arr m false 1 (l.map (.int .i64))]=some (.nilp,[(Lib.compact l).map (.int .i64)]):=
 extW (by decide) rfl (xCompact_eq hm h)
theorem l10Add_loop (n:Int):∀ (suf pre:List Int) (p:Bool) (out:List Int),(pre ++ suf).length ≤ 100000000→out.length + 2 * suf.length ≤ 1000000000→
  ∃ (p':Bool) (out':List Int),LL f_s_l10Add 0 lc_s_l10Add_0 [] k_s_l10Add_0 (((pre ++ suf).map (.int .i64),n,(),p,(pre.length:Int),()),out.map (.int .i64),()) =
   some (.out 0 (((pre ++ suf).map (.int .i64),n,(),p',((pre ++ suf).length:Int),()),out'.map (.int .i64),()))∧out' ++ (if p' then [] else [n])=out ++ insB n p suf∧out'.length ≤ out.length + 2 * suf.length
 |[],pre,p,out,hl,ho=>by
  refine ⟨p,out,?_,rfl,by simp⟩
  apply gl_s_l10Add_0
  unfold nl_s_l10Add_0
  rw [lt_end]
  simp
 |x :: suf,pre,p,out,hl,ho=>by
  simp only [List.length_cons] at ho
  have hw:IntKind.i64.wrap ((pre.length:Int) + 1)=((pre ++ [x]).length:Int):=by
   simp only [List.length_append,List.length_cons] at hl
   rw [wrap_i64 (by omega) (by omega)];simp
  have m1:∀ (l:List Int) (y:Int),l.map (CVal.int .i64) ++ [CVal.int .i64 y]=(l ++ [y]).map (.int .i64):=by simp
  have d1:∀ l:List Int,l.length ≤ out.length + 1→decide (l.length + 1 ≤ 4294967296)=true:=fun l hl=>decide_eq_true (by omega)
  have q1:=d1 out (by omega)
  have q2:=d1 (out ++ [n]) (by simp)
  by_cases hp:p=false∧n ≤ x
  ·obtain ⟨rfl,hx⟩:=hp
   by_cases he:x=n
   ·have hd:decide (x=n)=true:=decide_eq_true he
    obtain ⟨p',out',ih,e1,e2⟩:=l10Add_loop n suf (pre ++ [x]) true (out ++ [n]) (by simpa using hl) (by simp;omega)
    simp only [List.append_assoc,List.singleton_append] at ih
    refine ⟨p',out',?_,?_,by simp at e2;simp;omega⟩
    ·apply gl_s_l10Add_0
     unfold nl_s_l10Add_0
     rw [lt_mid,nn_mid,get_mid,hw]
     simp only [br_true',Option.bind_some,Bool.not_false,fits_int,cell_int,asInt_int,hx,decide_true,List.length_map,q1,Bool.and_true,hd,Bool.not_true,br_false',m1,q2]
     exact ih
    ·rw [e1];simp [insB,hx,he]
   ·obtain ⟨p',out',ih,e1,e2⟩:=l10Add_loop n suf (pre ++ [x]) true (out ++ [n] ++ [x]) (by simpa using hl) (by simp;omega)
    simp only [List.append_assoc,List.singleton_append] at ih
    refine ⟨p',out',?_,?_,by simp at e2;simp;omega⟩
    ·apply gl_s_l10Add_0
     unfold nl_s_l10Add_0
     rw [lt_mid,nn_mid,get_mid,hw]
     simp only [br_true',Option.bind_some,Bool.not_false,fits_int,cell_int,asInt_int,hx,decide_true,List.length_map,q1,Bool.and_true,he,decide_false,isFlat_int,m1,q2,List.append_assoc,List.singleton_append]
     exact ih
    ·rw [e1];simp [insB,hx,he]
  ·have hc:(br (!p) (some (decide (n ≤ x),PUnit.unit)) (some (false,PUnit.unit)):Option (Bool × PUnit))=some (false,PUnit.unit):=by
    cases p
    ·have:¬ n ≤ x:=fun h=>hp ⟨rfl,h⟩
     simp [this]
    ·rfl
   have hpx:(p || decide (n ≤ x))=p:=by
    cases p
    ·have:¬ n ≤ x:=fun h=>hp ⟨rfl,h⟩
     simp [this]
    ·rfl
   by_cases he:x=n
   ·have hd:decide (x=n)=true:=decide_eq_true he
    obtain ⟨p',out',ih,e1,e2⟩:=l10Add_loop n suf (pre ++ [x]) p out (by simpa using hl) (by omega)
    simp only [List.append_assoc,List.singleton_append] at ih
    refine ⟨p',out',?_,?_,by simp;omega⟩
    ·apply gl_s_l10Add_0
     unfold nl_s_l10Add_0
     rw [lt_mid,nn_mid,get_mid,hw]
     simp only [br_true',Option.bind_some,fits_int,cell_int,asInt_int,hc,br_false',hd,Bool.not_true]
     exact ih
    ·rw [e1];simp only [insB,if_neg hp,hpx,if_pos he,List.nil_append]
   ·obtain ⟨p',out',ih,e1,e2⟩:=l10Add_loop n suf (pre ++ [x]) p (out ++ [x]) (by simpa using hl) (by simp;omega)
    simp only [List.append_assoc,List.singleton_append] at ih
    refine ⟨p',out',?_,?_,by simp at e2;simp;omega⟩
    ·apply gl_s_l10Add_0
     unfold nl_s_l10Add_0
     rw [lt_mid,nn_mid,get_mid,hw]
     simp only [br_true',Option.bind_some,fits_int,cell_int,asInt_int,hc,br_false',he,decide_false,Bool.not_false,isFlat_int,Bool.and_true,List.length_map,q1,m1]
     exact ih
    ·rw [e1];simp only [insB,if_neg hp,hpx,if_neg he,List.nil_append,List.append_assoc]
theorem l10Add_law {l:List Int} (hl:l.length ≤ 100000000) (n:Int):CC f_s_l10Add [.v (.sl (l.map (.int .i64))),.v (.int .i64 n)] []=some (.sl ((insB n false l).map (.int .i64)),[]):=by
 obtain ⟨p',out',hloop,e1,e2⟩:=l10Add_loop n l [] false [] (by simpa using hl) (by simp;omega)
 simp only [List.nil_append,List.length_nil,List.map_nil,Int.cast_ofNat_Int] at hloop
 apply go_s_l10Add
 unfold nf_s_l10Add
 rw [hloop]
 rw [List.nil_append] at e1
 simp only [Option.bind_some,loK_out,beq_self_eq_true,br_true',List.length_map]
 have q:decide (out'.length + 1 ≤ 4294967296)=true:=decide_eq_true (by simp at e2;omega)
 cases p' with
 |true=>simp only [Bool.not_true,br_false'];rw [← e1];simp
 |false=>simp only [Bool.not_false,br_true',q,Bool.and_true];rw [← e1];simp
end Go.Proofs.Ytognghbhdalckaa.Abs

/- A part. -/
import Derived.Test.YtognghbhdalckaaAddLaw
import Derived.Test.YtognghbhdalckaaInsLaws
import Derived.Test.YtognghbhdalckaaInsFns
import Derived.Test.YtognghbhdalckaaIntMark
set_option linter.unusedVariables false
set_option linter.unusedSimpArgs false
set_option maxRecDepth 100000
namespace Go.Proofs.Ytognghbhdalckaa.Abs
open Go Go.Proofs
def Ins.parts (i:Ins):List Int:=(if (uses i.op).2.1=true then [i.x] else []) ++ ((if (uses i.op).2.2.1=true then [i.y] else []) ++ (if i.op=8 then i.l else []))
theorem parts_len (i:Ins):i.parts.length ≤ max 2 i.l.length:=by
 unfold Ins.parts
 by_cases h8:i.op=8
 ·have e:uses i.op=(true,false,false,false):=by rw [h8];rfl
  rw [e,if_pos h8]
  simp
  omega
 ·rw [if_neg h8]
  simp only [List.length_append]
  have h1:(if (uses i.op).2.1=true then [i.x] else []).length ≤ 1:=by split<;>simp
  have h2:(if (uses i.op).2.2.1=true then [i.y] else []).length ≤ 1:=by split<;>simp
  simp only [List.length_nil]
  omega
theorem Reads_i {i:Ins} (hok:i.ok):CC f_i_Reads [.v i.enc] []=some (.sl ((srt i.parts).map (.int .i64)),[]):=by
 have hX:=hasPart_law i.op 88
 have hY:=hasPart_law i.op 89
 rw [uses_X] at hX
 rw [uses_Y] at hY
 have hl:=hok.l_len
 have fin:∀ l:List Int,l.length ≤ 100000000→((CC f_slices_Sort_int [.lref 0 0] [.arr ⟨true,true,0⟩ false 1 (l.map (.int .i64))]).bind fun r=>
   r.2[0]?.bind fun y=>(CC f_slices_Compact_int [.lref 0 0] [.arr ⟨true,false,0⟩ false 1 y]).bind fun r=>r.2[0]?.bind fun y=>some (CVal.sl y,([]:List (List CVal))))=some (.sl ((srt l).map (.int .i64)),[]):=by
  intro l hl
  have hs:(sortE l).length ≤ 4000000000:=by rw [sortE_len];omega
  rw [Sort_law (by omega)]
  simp only [Option.bind_some,List.getElem?_cons_zero]
  rw [Compact_law rfl hs]
  rfl
 have e1:(i.l.map (CVal.int .i64)).all (CVal.fitsF false [CK.int .i64])=true:=by simp [CVal.fitsF,okCells,CK.ok]
 have d0:decide (i.l.length ≤ 4294967296)=true:=decide_eq_true (by omega)
 have d1:decide (1 + i.l.length ≤ 4294967296)=true:=decide_eq_true (by omega)
 have d2:decide (2 + i.l.length ≤ 4294967296)=true:=decide_eq_true (by omega)
 have f0:=fin i.l (by omega)
 have f1:=fun x=>fin (x :: i.l) (by simp;omega)
 have f2:=fun x y=>fin (x :: y :: i.l) (by simp;omega)
 have g0:=fin [] (by simp)
 have g1:=fun x=>fin [x] (by simp)
 have g2:=fun x y=>fin [x,y] (by simp)
 simp only [List.map_cons,List.map_nil] at f0 f1 f2 g0 g1 g2
 have z:=(Sort_law (m:=⟨true,true,0⟩) (l:=[]) (by simp))
 have zz:(sortE [])=[]:=by simp [sortE]
 rw [zz] at z
 simp only [List.map_nil] at z
 rw [z] at g0
 simp only [Option.bind_some,List.getElem?_cons_zero] at g0
 rw [Ins.enc_def]
 apply go_i_Reads
 unfold nf_i_Reads Ins.parts
 simp only [hX,hY,Option.bind_some,asBool_bool,br_decide,List.length_map,e1,d0,d1,d2,br_true',Bool.and_true]
 cases (uses i.op).2.1<;>cases (uses i.op).2.2.1<;>by_cases h8:i.op=8 <;>
  simp only [h8,if_true,if_false,br_true',br_false',reduceIte,f0,f1,f2,z,g1,g2,g0,Option.bind_some,List.getElem?_cons_zero,List.nil_append,List.append_nil,List.singleton_append,List.cons_append,Bool.false_eq_true]
theorem Reads_s_loop (i:Ins) (h8:i.op=8):∀ (suf pre acc:List Int),i.l=pre ++ suf→(pre ++ suf).length ≤ 1048576→acc.length + suf.length ≤ 100000000→
  LL f_s_Reads 0 lc_s_Reads_0 [] k_s_Reads_0 (((),acc.map (.int .i64),(pre.length:Int),()),(i.op,i.d,i.x,i.y,i.n,(pre ++ suf).map (.int .i64),i.to,()),()) =
   some (.out 0 (((),(insAll acc suf).map (.int .i64),((pre ++ suf).length:Int),()),(i.op,i.d,i.x,i.y,i.n,(pre ++ suf).map (.int .i64),i.to,()),()))
 |[],pre,acc,hi,hl,hb=>by
  apply gl_s_Reads_0
  unfold nl_s_Reads_0
  rw [lt_end]
  simp [insAll]
 |x :: suf,pre,acc,hi,hl,hb=>by
  simp only [List.length_cons] at hb
  have hq:=insB_len x acc false
  have ih:=Reads_s_loop i h8 suf (pre ++ [x]) (insB x false acc) (by simpa using hi) (by simpa using hl) (by omega)
  simp only [List.append_assoc,List.singleton_append] at ih
  apply gl_s_Reads_0
  unfold nl_s_Reads_0
  rw [lt_mid,nn_mid,get_mid,wrap_mid pre suf x hl]
  simp only [br_true',Option.bind_some,h8,decide_true,fits_int,cell_int,l10Add_law (l:=acc) (by omega) x,asSl_sl]
  rw [h8] at ih
  exact ih
theorem Reads_s {i:Ins} (hok:i.ok):CC f_s_Reads [.v i.enc] []=some (.sl ((srt i.parts).map (.int .i64)),[]):=by
 have hl:=hok.l_len
 have hu:=uses_law i.op
 have fin:∀ acc:List Int,acc.length ≤ 2→((LL f_s_Reads 0 lc_s_Reads_0 [] k_s_Reads_0 (((),acc.map (.int .i64),(0:Int),()),(i.op,i.d,i.x,i.y,i.n,i.l.map (.int .i64),i.to,()),())).bind fun r=>
   loK r (fun r=>some r) fun j p=>br (j == (0:Nat)) (some (CVal.sl p.fst.snd.1,([]:List (List CVal)))) none)=some (.sl ((insAll acc (if i.op=8 then i.l else [])).map (.int .i64)),[]):=by
  intro acc ha
  by_cases h8:i.op=8
  ·have hloop:=Reads_s_loop i h8 i.l [] acc rfl (by simpa using hl) (by omega)
   simp only [List.nil_append,List.length_nil,Int.cast_ofNat_Int] at hloop
   rw [hloop,if_pos h8]
   rfl
  ·have hloop:LL f_s_Reads 0 lc_s_Reads_0 [] k_s_Reads_0 (((),acc.map (.int .i64),(0:Int),()),(i.op,i.d,i.x,i.y,i.n,i.l.map (.int .i64),i.to,()),()) =
     some (.out 0 (((),acc.map (.int .i64),(0:Int),()),(i.op,i.d,i.x,i.y,i.n,i.l.map (.int .i64),i.to,()),())):=by
    apply gl_s_Reads_0
    unfold nl_s_Reads_0
    simp only [h8,decide_false,br_self,Option.bind_some,br_false']
   rw [hloop,if_neg h8]
   rfl
 have a1:=l10Add_law (l:=[]) (by simp) i.x
 have a2:=l10Add_law (l:=[]) (by simp) i.y
 have a3:=l10Add_law (l:=insB i.x false []) (by simp [insB]) i.y
 have k1:=fin (insB i.x false []) (by simp [insB])
 have k2:=fin (insB i.y false []) (by simp [insB])
 have k3:=fin (insB i.y false (insB i.x false [])) (by have:=insB_len i.y (insB i.x false []) false;simp [insB] at this ⊢;omega)
 have k0:=fin [] (by simp)
 simp only [List.map_nil] at a1 a2 k0
 rw [← srt_ins]
 rw [Ins.enc_def]
 apply go_s_Reads
 unfold nf_s_Reads Ins.parts
 have c4:∀ a b c d:CVal,CVal.isAggN 4 (.agg [a,b,c,d])=true:=fun _ _ _ _=>rfl
 have c40:∀ a b c d:CVal,CVal.cell (.agg [a,b,c,d]) 0=some a:=fun _ _ _ _=>rfl
 have c41:∀ a b c d:CVal,CVal.cell (.agg [a,b,c,d]) 1=some b:=fun _ _ _ _=>rfl
 have c42:∀ a b c d:CVal,CVal.cell (.agg [a,b,c,d]) 2=some c:=fun _ _ _ _=>rfl
 have c43:∀ a b c d:CVal,CVal.cell (.agg [a,b,c,d]) 3=some d:=fun _ _ _ _=>rfl
 simp only [hu,Option.bind_some,c4,c40,c41,c42,c43,br_true',asBool_bool]
 cases (uses i.op).2.1<;>cases (uses i.op).2.2.1 <;>
  simp only [br_true',br_false',a1,a2,a3,Option.bind_some,asSl_sl,if_true,reduceIte,List.nil_append,List.singleton_append,Bool.false_eq_true,if_false]
 ·exact k0
 ·exact k2
 ·exact k1
 ·exact k3
theorem plain_ints:∀ l:List Int,plainL (l.map (CVal.int .i64))=true
 |[]=>rfl
 |s :: l=>by simp [plainL,CVal.plain,plain_ints l]
end Go.Proofs.Ytognghbhdalckaa.Abs

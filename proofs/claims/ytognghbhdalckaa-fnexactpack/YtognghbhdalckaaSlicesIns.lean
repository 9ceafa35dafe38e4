/- A part. -/
import Derived.Test.YtognghbhdalckaaDataIns
import Derived.Test.YtognghbhdalckaaK1Eqs
set_option linter.unusedVariables false
set_option linter.unusedSectionVars false
set_option linter.unusedSimpArgs false
namespace Go.Proofs.Ytognghbhdalckaa.Abs
open Go Go.Proofs
theorem indexIns_loop {c:CVal} {p:Ins→Bool}:∀ (suf pre:List Ins),(pre ++ suf).length ≤ 1048576→(∀ t ∈ suf,CC apId [.v c,.v t.enc] []=some (.bool (p t),[]))→
  LL f_slices_IndexFunc_Ins 0 lc_slices_IndexFunc_Ins_0 [] k_slices_IndexFunc_Ins_0 (((pre ++ suf).map Ins.enc,c,((pre ++ suf).length:Int),(pre.length:Int),()),()) =
   some (if suf.any p then .ret (.int .i64 ((pre.length + suf.findIdx p:Nat):Int),[]) else .out 0 (((pre ++ suf).map Ins.enc,c,((pre ++ suf).length:Int),((pre ++ suf).length:Int),()),()))
 |[],pre,hl,h=>by
  apply gl_slices_IndexFunc_Ins_0
  unfold nl_slices_IndexFunc_Ins_0
  rw [lt_end']
  simp
 |t :: suf,pre,hl,h=>by
  apply gl_slices_IndexFunc_Ins_0
  unfold nl_slices_IndexFunc_Ins_0
  have ih:=indexIns_loop suf (pre ++ [t]) (by simpa using hl) (fun u hu=>h u (by simp [hu]))
  simp only [List.append_assoc,List.singleton_append] at ih
  rw [lt_mid',nn_mid,get_mid,wrap_mid pre suf t hl]
  simp only [br_true',Option.bind_some,Ins.enc_fits,Ins.enc_sub,h t (by simp),asBool_bool,List.any_cons,List.findIdx_cons]
  cases hp:p t with
  |true=>simp
  |false=>
   simp only [br_false',Bool.false_or,cond_false]
   rw [ih]
   simp only [List.length_append,List.length_cons,List.length_nil]
   rw [show pre.length + (0 + 1) + suf.findIdx p=pre.length + (suf.findIdx p + 1) by omega]
theorem indexIns_law {c:CVal} {p:Ins→Bool} {ts:List Ins} (hl:ts.length ≤ 1048576) (h:∀ t ∈ ts,CC apId [.v c,.v t.enc] []=some (.bool (p t),[])) :
  CC f_slices_IndexFunc_Ins [.v (.sl (ts.map Ins.enc)),.v c] []=some (.int .i64 (if ts.any p then (ts.findIdx p:Int) else -1),[]):=by
 have hloop:=indexIns_loop ts [] (by simpa using hl) h
 simp only [List.nil_append,List.length_nil,Int.cast_ofNat_Int,Nat.zero_add] at hloop
 apply go_slices_IndexFunc_Ins
 unfold nf_slices_IndexFunc_Ins
 simp only [List.length_map,hloop]
 split<;>rfl
theorem containsIns_law {c:CVal} {p:Ins→Bool} {ts:List Ins} (hl:ts.length ≤ 1048576) (h:∀ t ∈ ts,CC apId [.v c,.v t.enc] []=some (.bool (p t),[])) :
  CC f_slices_ContainsFunc_Ins [.v (.sl (ts.map Ins.enc)),.v c] []=some (.bool (ts.any p),[]):=by
 apply go_slices_ContainsFunc_Ins
 unfold nf_slices_ContainsFunc_Ins
 simp only [indexIns_law hl h,Option.bind_some,asInt_int]
 split
 ·rename_i hh
  rw [hh]
  have:(0:Int) ≤ (ts.findIdx p:Int):=by omega
  simp
 ·rename_i hh
  have:ts.any p=false:=by simpa using hh
  rw [this];rfl
end Go.Proofs.Ytognghbhdalckaa.Abs

/- A part. -/
import Derived.Test.YtegbnddjgifcdaaGreatDoorTyText
import Derived.Test.YtegbnddjgifcdaaGreatDoorL2Int
set_option linter.unusedVariables false
set_option linter.unusedSectionVars false
set_option linter.unusedSimpArgs false
set_option maxRecDepth 100000
namespace Go.Proofs.YtegbnddjgifcdaaGreatDoor.Abs
open Go Go.Proofs
open Classical
theorem l1Text_loop (k n:Int):∀ (suf pre:List Ty) (acc:List UInt8),(pre ++ suf).length ≤ 1048576→(∀ t ∈ suf,t.text.length + 1 ≤ 3 * t.nodes)→
  (∀ t ∈ suf,CC f_s_l1Text [.v t.enc] []=some (.str t.text,[]))→acc.length + 3 * Ty.nodesL suf ≤ 4000000→
  ∃ q,LL f_s_l1Text 0 lc_s_l1Text_0 [] k_s_l1Text_0 (((),acc,(pre.length:Int),()),(k,n,(pre ++ suf).map Ty.enc,()),()) =
   some (.out 0 (((),acc ++ Ty.textL suf,q,()),(k,n,(pre ++ suf).map Ty.enc,()),()))
 |[],pre,acc,hl,hx,h,hb=>by
  refine ⟨(pre.length:Int),?_⟩
  apply gl_s_l1Text_0
  unfold nl_s_l1Text_0
  rw [lt_end]
  simp
 |t :: suf,pre,acc,hl,hx,h,hb=>by
  simp only [Ty.nodesL_cons] at hb
  have htl:=hx t (by simp)
  have ht:=h t (by simp)
  obtain ⟨q,ih⟩:=l1Text_loop k n suf (pre ++ [t]) (acc ++ [32] ++ t.text) (by simpa using hl) (fun u hu=>hx u (by simp [hu])) (fun u hu=>h u (by simp [hu])) (by simp only [List.length_append,List.length_cons,List.length_nil];omega)
  refine ⟨q,?_⟩
  simp only [List.append_assoc,List.singleton_append] at ih
  apply gl_s_l1Text_0
  unfold nl_s_l1Text_0
  have h3:(acc ++ [(32:UInt8)]).length + t.text.length ≤ 1152921504606846976:=by simp only [List.length_append,List.length_cons,List.length_nil];omega
  rw [lt_mid,nn_mid,get_mid,wrap_mid pre suf t hl,decide_eq_true (show acc.length + 1 ≤ 1152921504606846976 by omega)]
  simp only [br_true',Option.bind_some,Ty.enc_fits,Ty.enc_sub,ht,asStr_str,h3,decide_true,Ty.textL_cons,List.append_assoc,List.singleton_append,List.cons_append,List.nil_append]
  exact ih
theorem l1Text_law:∀ t:Ty,t.good→t.ok→t.nodes ≤ 1000000→CC f_s_l1Text [.v t.enc] []=some (.str t.text,[]):=Ty.ind fun t ih hg hok hb=>by
 obtain ⟨hh,hp⟩:=(Ty.good_def t).1 hg
 have hw:=Ty.word_len hh
 rw [Ty.nodes_def] at hb
 have hsub:∀ u ∈ t.a,u.nodes ≤ 1000000:=by
  intro u hu
  have h1:=Ty.sz_mem hu
  unfold Ty.nodesL at hb
  have:t.a ≠ []:=fun e=>by rw [e] at hu;cases hu
  have:=List.length_pos_iff.2 this
  unfold Ty.nodes;omega
 obtain ⟨q,hloop⟩:=l1Text_loop t.k t.n t.a [] (Ty.word t.k t.n) (by simpa using hok.len) (fun u hu=>Ty.text_len u (hp u hu)) (fun u hu=>ih u hu (hp u hu) (hok.part hu) (hsub u hu)) (by omega)
 simp only [List.nil_append,List.length_nil,Int.cast_ofNat_Int] at hloop
 have h0:decide ((0:Int) ≤ t.k)=true:=decide_eq_true (by rcases hh.kind with e | e | e | e | e | e<;>omega)
 have h7:decide (t.k.toNat < 7)=true:=decide_eq_true (by rcases hh.kind with e | e | e | e | e | e<;>omega)
 have hn:=hh.num
 rw [Ty.enc_def]
 apply go_s_l1Text
 unfold nf_s_l1Text
 rw [h0,h7,word_at hh,Ty.text_def]
 simp only [Bool.and_true,br_true',Option.bind_some,cell_str,asStr_str,br_decide]
 by_cases h3:t.k=3
 ·have e:[(118:UInt8)] ++ [UInt8.ofNat (IntKind.u8.wrap (IntKind.i64.wrap ((48:Int) + t.n))).toNat]=Ty.word t.k t.n:=by
   rw [digit_wrap t.n (by omega) (by omega),h3]
   show _=(118:UInt8) :: Lib.itoa t.n
   rw [Ty.itoa_digit hn];rfl
  have hl2:[(118:UInt8)].length + 1 ≤ 1152921504606846976:=by simp
  simp only [h3,if_true,hl2]
  rw [h3] at e hloop
  rw [e,hloop]
  simp
 ·simp only [h3,if_false]
  rw [hloop]
  simp
theorem l1Text_right {x:Ty} (h:x.right) (hok:x.ok):CC f_s_l1Text [.v x.enc] []=some (.str x.text,[]):=l1Text_law x h.1 hok (by have:=h.2.2;omega)
end Go.Proofs.YtegbnddjgifcdaaGreatDoor.Abs

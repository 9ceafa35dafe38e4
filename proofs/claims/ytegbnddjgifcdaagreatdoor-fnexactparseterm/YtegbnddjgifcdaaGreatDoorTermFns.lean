/- A part. -/
import Derived.Test.YtegbnddjgifcdaaGreatDoorDataTerm
import Derived.Test.YtegbnddjgifcdaaGreatDoorC1Eqs
import Derived.Test.YtegbnddjgifcdaaGreatDoorTyFns
set_option linter.unusedVariables false
set_option linter.unusedSectionVars false
set_option linter.unusedSimpArgs false
namespace Go.Proofs.YtegbnddjgifcdaaGreatDoor.Abs
open Go Go.Proofs
theorem eqTermS_loop:∀ (suf pre:List Term),(pre ++ suf).length ≤ 1048576→(∀ t ∈ suf,CC f_l_eqTerm [.v t.enc,.v t.enc] []=some (.bool true,[]))→
  LL f_l_eqTermS 0 lc_l_eqTermS_0 [] k_l_eqTermS_0 (((pre ++ suf).map Term.enc,(pre ++ suf).map Term.enc,(pre.length:Int),()),()) =
   some (.out 0 (((pre ++ suf).map Term.enc,(pre ++ suf).map Term.enc,((pre ++ suf).length:Int),()),()))
 |[],pre,hl,h=>by
  apply gl_l_eqTermS_0
  unfold nl_l_eqTermS_0
  rw [lt_end]
  simp
 |t :: suf,pre,hl,h=>by
  apply gl_l_eqTermS_0
  unfold nl_l_eqTermS_0
  have ih:=eqTermS_loop suf (pre ++ [t]) (by simpa using hl) (fun u hu=>h u (by simp [hu]))
  simp only [List.append_assoc,List.singleton_append] at ih
  rw [lt_mid,nn_mid,get_mid,wrap_mid pre suf t hl]
  simp only [br_true',Option.bind_some,Term.enc_fits,Term.enc_sub,Term.enc_isAggN,Term.enc_cell0,Term.enc_cell1,Term.enc_cell2,Term.enc_cell3,Term.enc_cell4,Term.enc_cell5,Term.enc_cell6,Term.enc_cell7,Term.enc_cell8,Term.enc_eta,h t (by simp),asBool_bool,Bool.not_true,br_false',Term.enc_isAggN,Term.enc_cell0,Term.enc_cell1,Term.enc_cell2,Term.enc_cell3,Term.enc_cell4,Term.enc_cell5,Term.enc_cell6,Term.enc_cell7,Term.enc_cell8,Term.enc_eta]
  exact ih
theorem eqTermS_law {ts:List Term} (hl:ts.length ≤ 1048576) (h:∀ t ∈ ts,CC f_l_eqTerm [.v t.enc,.v t.enc] []=some (.bool true,[])):CC f_l_eqTermS [.v (.sl (ts.map Term.enc)),.v (.sl (ts.map Term.enc))] []=some (.bool true,[]):=by
 apply go_l_eqTermS
 unfold nf_l_eqTermS
 have hloop:=eqTermS_loop ts [] (by simpa using hl) h
 simp only [List.nil_append,List.length_nil,Int.cast_ofNat_Int] at hloop
 simp only [hloop,decide_true,Bool.not_true,br_false',Option.bind_some,loK_out]
 rfl
theorem eqTerm_law:∀ t:Term,t.ok→CC f_l_eqTerm [.v t.enc,.v t.enc] []=some (.bool true,[]):=Term.ind fun t ih hok=>by
 have h0:=eqTy_law t.t hok.t
 have h1:=eqTyS_law hok.ts_len (fun u hu=>eqTy_law u (hok.ts hu))
 have h2:=eqTermS_law hok.a_len (fun u hu=>ih u hu (hok.a hu))
 rw [Term.enc_def]
 apply go_l_eqTerm
 unfold nf_l_eqTerm
 simp only [h0,h1,h2,Option.bind_some,decide_true,Bool.not_true,br_false',br_true',asBool_bool,Ty.enc_eta]
end Go.Proofs.YtegbnddjgifcdaaGreatDoor.Abs

/- A part. -/
import Derived.Test.YtegbnddjgifcdaaGreatDoorData
import Derived.Test.YtegbnddjgifcdaaGreatDoorC1Eqs
set_option linter.unusedVariables false
set_option linter.unusedSectionVars false
set_option linter.unusedSimpArgs false
namespace Go.Proofs.YtegbnddjgifcdaaGreatDoor.Abs
open Go Go.Proofs
theorem eqTyS_loop:∀ (suf pre:List Ty),(pre ++ suf).length ≤ 1048576→(∀ t ∈ suf,CC f_l_eqTy [.v t.enc,.v t.enc] []=some (.bool true,[]))→
  LL f_l_eqTyS 0 lc_l_eqTyS_0 [] k_l_eqTyS_0 (((pre ++ suf).map Ty.enc,(pre ++ suf).map Ty.enc,(pre.length:Int),()),()) =
   some (.out 0 (((pre ++ suf).map Ty.enc,(pre ++ suf).map Ty.enc,((pre ++ suf).length:Int),()),()))
 |[],pre,hl,h=>by
  apply gl_l_eqTyS_0
  unfold nl_l_eqTyS_0
  rw [lt_end]
  simp
 |t :: suf,pre,hl,h=>by
  apply gl_l_eqTyS_0
  unfold nl_l_eqTyS_0
  have ih:=eqTyS_loop suf (pre ++ [t]) (by simpa using hl) (fun u hu=>h u (by simp [hu]))
  simp only [List.append_assoc,List.singleton_append] at ih
  rw [lt_mid,nn_mid,get_mid,wrap_mid pre suf t hl]
  simp only [br_true',Option.bind_some,Ty.enc_fits,Ty.enc_sub,h t (by simp),asBool_bool,Bool.not_true,br_false',Ty.enc_isAggN,Ty.enc_cell0,Ty.enc_cell1,Ty.enc_cell2,Ty.enc_eta]
  exact ih
theorem eqTyS_law {ts:List Ty} (hl:ts.length ≤ 1048576) (h:∀ t ∈ ts,CC f_l_eqTy [.v t.enc,.v t.enc] []=some (.bool true,[])):CC f_l_eqTyS [.v (.sl (ts.map Ty.enc)),.v (.sl (ts.map Ty.enc))] []=some (.bool true,[]):=by
 apply go_l_eqTyS
 unfold nf_l_eqTyS
 have hloop:=eqTyS_loop ts [] (by simpa using hl) h
 simp only [List.nil_append,List.length_nil,Int.cast_ofNat_Int] at hloop
 simp only [hloop,decide_true,Bool.not_true,br_false',Option.bind_some,loK_out]
 rfl
theorem eqTy_law:∀ t:Ty,t.ok→CC f_l_eqTy [.v t.enc,.v t.enc] []=some (.bool true,[]):=Ty.ind fun t ih hok=>by
 have h:=eqTyS_law hok.len fun u hu=>ih u hu (hok.part hu)
 rw [Ty.enc_def]
 apply go_l_eqTy
 unfold nf_l_eqTy
 simp only [h,Option.bind_some,decide_true,Bool.not_true,br_false',asBool_bool]
end Go.Proofs.YtegbnddjgifcdaaGreatDoor.Abs

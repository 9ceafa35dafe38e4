/- A part. -/
import Derived.Test.YtegbnddjgifcdaaGreatDoorParse
import Derived.Test.YtegbnddjgifcdaaGreatDoorTyOwn
import Derived.Test.YtegbnddjgifcdaaGreatDoorTyLaws
set_option linter.unusedVariables false
set_option linter.unusedSimpArgs false
set_option linter.unusedSectionVars false
set_option maxRecDepth 100000
namespace Go.Proofs.YtegbnddjgifcdaaGreatDoor.Abs
open Go Go.Proofs
open Classical
abbrev strsC (c:List (List UInt8)):List CVal:=c.map .str
theorem strs_fits (c:List (List UInt8)):(strsC c).all (CVal.fits false 1)=true:=by simp [strsC]
def idx:List (List UInt8)→List UInt8→Int→Int
 |[],_,_=>-1
 |x :: l,w,i=>if w=x then i else idx l w (i + 1)
theorem index_loop (w:List UInt8):∀ (suf pre:List (List UInt8)),(pre ++ suf).length ≤ 1048576→∃ r,LL f_slices_Index_string 0 lc_slices_Index_string_0 [] k_slices_Index_string_0 ((strsC (pre ++ suf),w,((pre ++ suf).length:Int),(pre.length:Int),()),())=some r∧
  (loK r (fun r=>some r) fun j p=>br (j == 0) (some (CVal.int .i64 (-1:Int),[])) none)=some (.int .i64 (idx suf w pre.length),[])
 |[],pre,hl=>by
  refine ⟨_,gl_slices_Index_string_0 _ _ _ _ _ (by unfold nl_slices_Index_string_0;rw [lt_end'];rfl),rfl⟩
 |x :: suf,pre,hl=>by
  by_cases hw:w=x
  ·refine ⟨.ret (.int .i64 pre.length,[]),gl_slices_Index_string_0 _ _ _ _ _ ?_,?_⟩
   ·unfold nl_slices_Index_string_0
    rw [lt_mid',nn_mid,get_mid]
    simp only [br_true',Option.bind_some,fits_str,cell_str,asStr_str,decide_eq_true hw]
   ·rw [idx,if_pos hw];rfl
  ·obtain ⟨r,ih,hr⟩:=index_loop w suf (pre ++ [x]) (by simpa using hl)
   simp only [List.append_assoc,List.singleton_append] at ih
   refine ⟨r,gl_slices_Index_string_0 _ _ _ _ _ ?_,?_⟩
   ·unfold nl_slices_Index_string_0
    rw [lt_mid',nn_mid,get_mid,wrap_mid pre suf x hl]
    simp only [br_true',br_false',Option.bind_some,fits_str,cell_str,asStr_str,decide_eq_false hw]
    exact ih
   ·rw [hr,idx,if_neg hw];simp
theorem index_law (l:List (List UInt8)) (w:List UInt8) (hl:l.length ≤ 1048576):CC f_slices_Index_string [.v (.sl (strsC l)),.v (.str w)] []=some (.int .i64 (idx l w 0),[]):=by
 obtain ⟨r,h,hr⟩:=index_loop w l [] hl
 apply go_slices_Index_string
 unfold nf_slices_Index_string
 simp only [List.nil_append,List.length_nil,Int.cast_ofNat_Int] at h hr
 rw [List.length_map,h]
 exact hr
def tyWords:List (List UInt8):=[[],[105],[98],[118,48],[102],[112],[108]]
theorem idx_none {w:List UInt8} (h:kw w=none):idx tyWords w 0 < 1∧w ≠ [118,49]:=by
 unfold kw at h
 repeat' split at h
 all_goals first | (cases h;done) | skip
 refine ⟨?_,by assumption⟩
 simp only [tyWords,idx]
 repeat' split
 all_goals first | omega | (exfalso;simp_all;done)
theorem idx_some {w:List UInt8} {k n:Int} (h:kw w=some (k,n)) (hw:w ≠ [118,49]):idx tyWords w 0=k∧n=0:=by
 unfold kw at h
 repeat' split at h
 all_goals first | (cases h;done) | skip
 all_goals (simp only [Option.some.injEq,Prod.mk.injEq] at h;obtain ⟨rfl,rfl⟩:=h;subst_vars)
 all_goals first | exact ⟨by decide,rfl⟩ | exact absurd rfl hw
theorem next_bad (c:List (List UInt8)):CC f_i_tokens_next [.lptr 0 0] [.box [.v (.sl (strsC c)),.v (.bool true)]]=some (.str [],[[.sl (strsC c),.bool true]]):=by
 apply go_i_tokens_next
 unfold nf_i_tokens_next
 simp only [br_true',Option.bind_some]
theorem next_nil:CC f_i_tokens_next [.lptr 0 0] [.box [.v (.sl (strsC [])),.v (.bool false)]]=some (.str [],[[.sl (strsC []),.bool true]]):=by
 apply go_i_tokens_next
 unfold nf_i_tokens_next
 simp
theorem next_cons (w:List UInt8) (c:List (List UInt8)):CC f_i_tokens_next [.lptr 0 0] [.box [.v (.sl (strsC (w :: c))),.v (.bool false)]]=some (.str w,[[.sl (strsC c),.bool false]]):=by
 apply go_i_tokens_next
 unfold nf_i_tokens_next
 have e:=strs_fits (w :: c)
 have h0:¬ (((strsC (w :: c)).length:Int)=0):=by simp;omega
 have h1:decide ((1:Int) ≤ ((strsC (w :: c)).length:Int))=true:=decide_eq_true (by simp;omega)
 have h2:decide (((strsC (w :: c)).length:Int) ≤ ((strsC (w :: c)).length:Int))=true:=decide_eq_true (Int.le_refl _)
 have h3:List.take ((strsC (w :: c)).length:Int).toNat (strsC (w :: c))=strsC (w :: c):=by rw [Int.toNat_natCast];exact List.take_length
 have h4:(strsC (w :: c))[0]? = some (.str w):=rfl
 simp only [br_false',Option.bind_some,h0,h1,h2,h3,h4,e,decide_false,Bool.and_true,br_true',fits_str,cell_str]
 rfl
def ReadsI (d:Nat):Prop:=∀ c:List (List UInt8),
 (∀ t r,rd d c=some (t,r)→CC f_i_tokens_ty [.lptr 0 0,.v (.int .i64 d)] [.box [.v (.sl (strsC c)),.v (.bool false)]]=some (t.enc,[[.sl (strsC r),.bool false]]))∧
 (rd d c=none→∃ (t:Ty) (r:List (List UInt8)),CC f_i_tokens_ty [.lptr 0 0,.v (.int .i64 d)] [.box [.v (.sl (strsC c)),.v (.bool false)]]=some (t.enc,[[.sl (strsC r),.bool true]]))
theorem ty_bad (c:List (List UInt8)) (d:Int):CC f_i_tokens_ty [.lptr 0 0,.v (.int .i64 d)] [.box [.v (.sl (strsC c)),.v (.bool true)]]=some ((Ty.mk 0 0 []).enc,[[.sl (strsC c),.bool true]]):=by
 have h1:=next_bad c
 have h2:=index_law tyWords [] (by decide)
 have e2:idx tyWords [] 0=0:=rfl
 rw [e2] at h2
 simp only [tyWords,strsC,List.map_cons,List.map_nil] at h2
 have ez:(Ty.mk 0 0 []).enc=.agg [.int .i64 0,.int .i64 0,.sl []]:=by rw [Ty.enc_def];rfl
 apply go_i_tokens_ty
 unfold nf_i_tokens_ty
 have d1:decide (([]:List UInt8)=[118,49])=false:=by decide
 simp only [h1,h2,ez,d1,Option.bind_some,List.getElem?_cons_zero,List.getElem?_cons_succ,br_true',br_false',scalar_int,Bool.not_true,isFlat_int,Bool.and_true,asStr_str,asBool_bool]
theorem tyI_loop (d:Nat) (hd:d ≤ 50) (ih:ReadsI d) (k n p q:Int):∀ (m:Nat) (a:Int) (pre:List Ty) (c:List (List UInt8)),0 ≤ a→a + m ≤ 10→pre.length + m ≤ 1000→
  (∀ l r,seqR (rd d) m c=some (l,r)→
   LL f_i_tokens_ty 0 lc_i_tokens_ty_0 [PSh.box [none,none]] k_i_tokens_ty_0 (((),((d + 1:Nat):Int),(),(),a + m,a,()),(strsC c,false,()),(p,q,(),()),[],(k,n,(),()),pre.map Ty.enc,()) =
    some (.out 0 (((),((d + 1:Nat):Int),(),(),a + m,a + m,()),(strsC r,false,()),(p,q,(),()),[],(k,n,(),()),(pre ++ l).map Ty.enc,())))∧
  (seqR (rd d) m c=none→∃ (l:List Ty) (r:List (List UInt8)),
   LL f_i_tokens_ty 0 lc_i_tokens_ty_0 [PSh.box [none,none]] k_i_tokens_ty_0 (((),((d + 1:Nat):Int),(),(),a + m,a,()),(strsC c,false,()),(p,q,(),()),[],(k,n,(),()),pre.map Ty.enc,()) =
    some (.out 0 (((),((d + 1:Nat):Int),(),(),a + m,a + m,()),(strsC r,true,()),(p,q,(),()),[],(k,n,(),()),l.map Ty.enc,())))∧
  (∃ (l:List Ty) (r:List (List UInt8)),
   LL f_i_tokens_ty 0 lc_i_tokens_ty_0 [PSh.box [none,none]] k_i_tokens_ty_0 (((),((d + 1:Nat):Int),(),(),a + m,a,()),(strsC c,true,()),(p,q,(),()),[],(k,n,(),()),pre.map Ty.enc,()) =
    some (.out 0 (((),((d + 1:Nat):Int),(),(),a + m,a + m,()),(strsC r,true,()),(p,q,(),()),[],(k,n,(),()),l.map Ty.enc,())))
 |0,a,pre,c,h0,h1,h2=>by
  have e:decide (a < a + ((0:Nat):Int))=false:=decide_eq_false (by omega)
  have e2:a + ((0:Nat):Int)=a:=by omega
  refine ⟨fun l r h=>?_,(fun h=>by cases h),pre,c,?_⟩
  ·cases h
   apply gl_i_tokens_ty_0
   unfold nl_i_tokens_ty_0
   simp only [e,br_false']
   rw [e2,List.append_nil]
  ·apply gl_i_tokens_ty_0
   unfold nl_i_tokens_ty_0
   simp only [e,br_false']
   rw [e2]
 |m + 1,a,pre,c,h0,h1,h2=>by
  have e:decide (a < a + ((m + 1:Nat):Int))=true:=decide_eq_true (by omega)
  have ea:a + ((m + 1:Nat):Int)=(a + 1) + (m:Int):=by omega
  have w1:IntKind.i64.wrap (((d + 1:Nat):Int) - 1)=(d:Int):=by rw [wrap_i64]<;>omega
  have w2:IntKind.i64.wrap (a + 1)=a + 1:=by rw [wrap_i64]<;>omega
  have e2:decide ((pre.map Ty.enc).length + 1 ≤ 4294967296)=true:=decide_eq_true (by simp;omega)
  have e3:∀ t:Ty,pre.map Ty.enc ++ [t.enc]=(pre ++ [t]).map Ty.enc:=fun t=>by simp
  have step:∀ (t:Ty) (r:List (List UInt8)) (b0 b:Bool),CC f_i_tokens_ty [.lptr 0 0,.v (.int .i64 d)] [.box [.v (.sl (strsC c)),.v (.bool b0)]]=some (t.enc,[[.sl (strsC r),.bool b]])→∀ X,
    LL f_i_tokens_ty 0 lc_i_tokens_ty_0 [PSh.box [none,none]] k_i_tokens_ty_0 (((),((d + 1:Nat):Int),(),(),(a + 1) + (m:Int),a + 1,()),(strsC r,b,()),(p,q,(),()),[],(k,n,(),()),(pre ++ [t]).map Ty.enc,())=some X→
    LL f_i_tokens_ty 0 lc_i_tokens_ty_0 [PSh.box [none,none]] k_i_tokens_ty_0 (((),((d + 1:Nat):Int),(),(),a + ((m + 1:Nat):Int),a,()),(strsC c,b0,()),(p,q,(),()),[],(k,n,(),()),pre.map Ty.enc,())=some X:=by
   intro t r b0 b hc X hX
   apply gl_i_tokens_ty_0
   unfold nl_i_tokens_ty_0
   rw [← ea] at hX
   simp only [e,br_true',w1,hc,Option.bind_some,List.getElem?_cons_zero,List.getElem?_cons_succ,Ty.enc_isAggN,Ty.enc_cell0,Ty.enc_cell1,Ty.enc_cell2,asSl_sl,asInt_int,e2,Bool.and_true,asBool_bool,w2,Ty.enc_eta,e3]
   first
    |exact hX
    |(simp only [show ([t.enc].all (CVal.fits true 3))=true by simp,br_true'];exact hX)
  have bad:=(tyI_loop d hd ih k n p q m (a + 1) (pre ++ [Ty.mk 0 0 []]) c (by omega) (by omega) (by simp;omega)).2.2
  refine ⟨fun l r h=>?_,fun h=>?_,?_⟩
  ·unfold seqR at h
   obtain ⟨⟨t,r1⟩,h1,h⟩:=Option.bind_eq_some_iff.1 h
   obtain ⟨⟨l2,r2⟩,h3,h⟩:=Option.map_eq_some_iff.1 h
   obtain ⟨q1,q2⟩:=Prod.mk.inj h
   have:=(tyI_loop d hd ih k n p q m (a + 1) (pre ++ [t]) r1 (by omega) (by omega) (by simp;omega)).1 l2 r2 h3
   rw [ea,← q1,← q2]
   rw [List.append_assoc,List.singleton_append] at this
   rw [← ea]
   have h9:=step t r1 false false ((ih c).1 t r1 h1) _ this
   rw [h9,ea]
  ·unfold seqR at h
   cases h3:rd d c with
   |none=>
    obtain ⟨t,r1,h4⟩:=(ih c).2 h3
    obtain ⟨l,r,h5⟩:=(tyI_loop d hd ih k n p q m (a + 1) (pre ++ [t]) r1 (by omega) (by omega) (by simp;omega)).2.2
    refine ⟨l,r,?_⟩
    rw [step t r1 false true h4 _ h5,ea]
   |some x=>
    obtain ⟨t,r1⟩:=x
    rw [h3] at h
    simp only [Option.bind_some,Option.map_eq_none_iff] at h
    obtain ⟨l,r,h5⟩:=(tyI_loop d hd ih k n p q m (a + 1) (pre ++ [t]) r1 (by omega) (by omega) (by simp;omega)).2.1 h
    refine ⟨l,r,?_⟩
    rw [step t r1 false false ((ih c).1 t r1 h3) _ h5,ea]
  ·obtain ⟨l,r,h5⟩:=bad
   refine ⟨l,r,?_⟩
   rw [step _ c true true (ty_bad c d) _ h5,ea]
theorem parts_ar {k:Int} (h:1 ≤ k∧k ≤ 6):tyParts k=(ar k:Int):=by
 have:k=1∨k=2∨k=3∨k=4∨k=5∨k=6:=by omega
 rcases this with rfl | rfl | rfl | rfl | rfl | rfl<;>rfl
theorem ty_law:∀ d:Nat,d ≤ 50→ReadsI d:=by
 intro d
 have ez:(Ty.mk 0 0 []).enc=.agg [.int .i64 0,.int .i64 0,.sl []]:=by rw [Ty.enc_def];rfl
 have none0:∀ (d:Int),∃ (t:Ty) (r:List (List UInt8)),CC f_i_tokens_ty [.lptr 0 0,.v (.int .i64 d)] [.box [.v (.sl (strsC [])),.v (.bool false)]]=some (t.enc,[[.sl (strsC r),.bool true]]):=by
  intro d
  refine ⟨Ty.mk 0 0 [],[],?_⟩
  have h1:=next_nil
  have h2:=index_law tyWords [] (by decide)
  have e2:idx tyWords [] 0=0:=rfl
  rw [e2] at h2
  simp only [tyWords,strsC,List.map_cons,List.map_nil] at h1 h2
  apply go_i_tokens_ty
  unfold nf_i_tokens_ty
  have d1:decide (([]:List UInt8)=[118,49])=false:=by decide
  simp only [strsC,List.map_nil,h1,h2,ez,d1,Option.bind_some,List.getElem?_cons_zero,List.getElem?_cons_succ,br_true',br_false',scalar_int,Bool.not_true,isFlat_int,Bool.and_true,asStr_str,asBool_bool]
 have kind:∀ (w:List UInt8) (c:List (List UInt8)) (d:Int),(kw w=none∨d=0)→∃ (t:Ty) (r:List (List UInt8)),CC f_i_tokens_ty [.lptr 0 0,.v (.int .i64 d)] [.box [.v (.sl (strsC (w :: c))),.v (.bool false)]]=some (t.enc,[[.sl (strsC r),.bool true]]):=by
  intro w c d h
  refine ⟨Ty.mk 0 0 [],c,?_⟩
  have h1:=next_cons w c
  have h2:=index_law tyWords w (by decide)
  simp only [tyWords,strsC,List.map_cons,List.map_nil] at h1 h2
  apply go_i_tokens_ty
  unfold nf_i_tokens_ty
  simp only [strsC,List.map_cons,h1,h2,Option.bind_some,List.getElem?_cons_zero,List.getElem?_cons_succ,br_true',br_false',scalar_int,Bool.not_true,isFlat_int,Bool.and_true,asStr_str,asBool_bool,asInt_int]
  rcases h with h | h
  ·obtain ⟨h3,h4⟩:=idx_none h
   simp only [tyWords] at h3
   simp only [decide_eq_false h4,decide_eq_true h3,br_true',br_false',Option.bind_some,ez]
  ·subst h
   cases hw:decide (w=[118,49])
   ·simp only [hw,decide_true,br_true',br_false',Option.bind_some,ez]
    cases hx:decide (idx [[],[105],[98],[118,48],[102],[112],[108]] w 0 < 1)<;>simp only [hx,br_true',br_false',Option.bind_some]
   ·simp only [hw,decide_true,br_true',br_false',Option.bind_some,ez]
 induction d with
 |zero=>
  intro _ c
  refine ⟨(fun t r h=>by cases h),fun _=>?_⟩
  cases c with
  |nil=>exact none0 0
  |cons w c=>exact kind w c 0 (.inr rfl)
 |succ d ih=>
  intro hd c
  have ih:=ih (by omega)
  cases c with
  |nil=>exact ⟨(fun t r h=>by cases h),fun _=>none0 _⟩
  |cons w c=>
   cases hk:kw w with
   |none=>exact ⟨(fun t r h=>by unfold rd at h;rw [hk] at h;cases h),fun _=>kind w c _ (.inl hk)⟩
   |some x=>
    obtain ⟨k,n⟩:=x
    have hr:=kw_rng hk
    have h1:=next_cons w c
    have h2:=index_law tyWords w (by decide)
    simp only [tyWords,strsC,List.map_cons,List.map_nil] at h1 h2
    have hp:=tyParts_i k
    rw [parts_ar ⟨hr.1,hr.2.1⟩] at hp
    have hl:=tyI_loop d (by omega) ih k n 0 0 (ar k) 0 [] c (by omega) (by have:=ar_le k;omega) (by have:=ar_le k;simp;omega)
    simp only [Int.zero_add,List.map_nil,List.nil_append] at hl
    have d0:decide (((d + 1:Nat):Int)=0)=false:=decide_eq_false (by omega)
    have main:∀ (l:List Ty) (r:List (List UInt8)) (b:Bool),LL f_i_tokens_ty 0 lc_i_tokens_ty_0 [PSh.box [none,none]] k_i_tokens_ty_0 (((),((d + 1:Nat):Int),(),(),(ar k:Int),0,()),(strsC c,false,()),(0,0,(),()),[],(k,n,(),()),[],()) =
      some (.out 0 (((),((d + 1:Nat):Int),(),(),(ar k:Int),(ar k:Int),()),(strsC r,b,()),(0,0,(),()),[],(k,n,(),()),l.map Ty.enc,()))→
      CC f_i_tokens_ty [.lptr 0 0,.v (.int .i64 ((d + 1:Nat):Int))] [.box [.v (.sl (strsC (w :: c))),.v (.bool false)]]=some ((Ty.mk k n l).enc,[[.sl (strsC r),.bool b]]):=by
     intro l r b h
     apply go_i_tokens_ty
     unfold nf_i_tokens_ty
     simp only [strsC,List.map_cons,h1,h2,Option.bind_some,List.getElem?_cons_zero,List.getElem?_cons_succ,br_true',br_false',scalar_int,Bool.not_true,isFlat_int,Bool.and_true,asStr_str,asBool_bool,asInt_int,d0]
     by_cases hw:w=[118,49]
     ·subst hw
      have:k=3∧n=1:=by
       have e:kw [118,49]=some (3,1):=by decide
       rw [e] at hk
       simp only [Option.some.injEq,Prod.mk.injEq] at hk
       omega
      obtain ⟨rfl,rfl⟩:=this
      simp only [decide_true,br_true',br_false',Option.bind_some,hp,asInt_int,asSl_sl,h,loK_out,beq_self_eq_true,Ty.enc_def,Ty.k_mk,Ty.n_mk,Ty.a_mk]
     ·obtain ⟨h3,rfl⟩:=idx_some hk hw
      simp only [tyWords] at h3
      have h4:decide (k < 1)=false:=decide_eq_false (by omega)
      simp only [decide_eq_false hw,br_true',br_false',Option.bind_some,h3,h4,hp,asInt_int,asSl_sl,h,loK_out,beq_self_eq_true,Ty.enc_def,Ty.k_mk,Ty.n_mk,Ty.a_mk]
    refine ⟨fun t r h=>?_,fun h=>?_⟩
    ·unfold rd at h
     rw [hk] at h
     obtain ⟨⟨l,r1⟩,h3,h⟩:=Option.map_eq_some_iff.1 h
     obtain ⟨q1,q2⟩:=Prod.mk.inj h
     rw [← q1,← q2]
     exact main l r1 false (hl.1 l r1 h3)
    ·unfold rd at h
     rw [hk] at h
     simp only [Option.bind_some,Option.map_eq_none_iff] at h
     obtain ⟨l,r,h5⟩:=hl.2.1 h
     exact ⟨_,r,main l r true h5⟩
end Go.Proofs.YtegbnddjgifcdaaGreatDoor.Abs

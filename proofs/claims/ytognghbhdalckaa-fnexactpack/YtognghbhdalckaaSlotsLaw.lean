/- A part. -/
import Derived.Test.YtognghbhdalckaaClashS2
import Derived.Test.YtognghbhdalckaaInsMarks
set_option linter.unusedVariables false
set_option linter.unusedSimpArgs false
set_option linter.unusedSectionVars false
set_option maxRecDepth 100000
namespace Go.Proofs.Ytognghbhdalckaa.Abs
open Go Go.Proofs
def nt (n:Nat):CVal:=.int .i64 n
@[simp] theorem nt_fits {n:Nat}:CVal.fits false 1 (nt n)=true:=rfl
@[simp] theorem nt_cell {n:Nat}:(nt n).cell 0=some (nt n):=rfl
@[simp] theorem nt_asInt {n:Nat}:(nt n).asInt .i64=some (n:Int):=rfl
def IsMex (l:List Nat) (m:Nat):Prop:=m ∉ l∧∀ k,k < m→k ∈ l
theorem mex_uniq {l:List Nat} {a b:Nat} (ha:IsMex l a) (hb:IsMex l b):a=b:=by
 rcases Nat.lt_trichotomy a b with h | h | h
 ·exact (ha.1 (hb.2 a h)).elim
 ·exact h
 ·exact (hb.1 (ha.2 b h)).elim
theorem all_below:∀ (s:Nat) (l:List Nat),(∀ k,k < s→k ∈ l)→s ≤ l.length
 |0,_,_=>Nat.zero_le _
 |s + 1,l,h=>by
  have hs:=h s (by omega)
  have:=all_below s (l.erase s) fun k hk=>(List.mem_erase_of_ne (by omega)).2 (h k (by omega))
  rw [List.length_erase_of_mem hs] at this
  have:0 < l.length:=List.length_pos_of_mem hs
  omega
theorem mex_le {l:List Nat} {m:Nat} (h:IsMex l m):m ≤ l.length:=all_below m l h.2
theorem Index_loop (s:Nat):∀ (suf pre:List Nat),(pre ++ suf).length ≤ 1048576→
  ∃ k:Nat,LL f_slices_Index_int 0 lc_slices_Index_int_0 [] k_slices_Index_int_0 (((pre ++ suf).map nt,(s:Int),((pre ++ suf).length:Int),(pre.length:Int),()),()) =
   some (bif suf.contains s then .ret (nt k,[]) else .out 0 (((pre ++ suf).map nt,(s:Int),((pre ++ suf).length:Int),((pre ++ suf).length:Int),()),()))
 |[],pre,hl=>by
  refine ⟨0,?_⟩
  apply gl_slices_Index_int_0
  unfold nl_slices_Index_int_0
  rw [lt_end']
  simp
 |x :: suf,pre,hl=>by
  obtain ⟨k,ih⟩:=Index_loop s suf (pre ++ [x]) (by simpa using hl)
  simp only [List.append_assoc,List.singleton_append] at ih
  by_cases e:s=x
  ·subst e
   refine ⟨pre.length,?_⟩
   apply gl_slices_Index_int_0
   unfold nl_slices_Index_int_0
   rw [lt_mid',nn_mid,get_mid]
   simp [nt]
  ·have e2:¬ (s:Int)=(x:Int):=by omega
   have e3:(x :: suf).contains s=suf.contains s:=by simp [e]
   refine ⟨k,?_⟩
   apply gl_slices_Index_int_0
   unfold nl_slices_Index_int_0
   rw [lt_mid',nn_mid,get_mid,wrap_mid pre suf x hl,e3]
   simp only [br_true',Option.bind_some,nt_fits,nt_cell,nt_asInt,decide_eq_false e2,br_false']
   exact ih
theorem ContainsN_law {l:List Nat} (hl:l.length ≤ 1048576) (s:Nat):CC f_slices_Contains_int [.v (.sl (l.map nt)),.v (.int .i64 s)] []=some (.bool (l.contains s),[]):=by
 obtain ⟨k,hloop⟩:=Index_loop s l [] (by simpa using hl)
 simp only [List.nil_append,List.length_nil,Int.cast_ofNat_Int] at hloop
 have hI:CC f_slices_Index_int [.v (.sl (l.map nt)),.v (.int .i64 s)] []=some (bif l.contains s then nt k else .int .i64 (-1),[]):=by
  apply go_slices_Index_int
  unfold nf_slices_Index_int
  rw [List.length_map,hloop]
  cases l.contains s<;>rfl
 apply go_slices_Contains_int
 unfold nf_slices_Contains_int
 rw [hI]
 cases l.contains s with
 |true=>simp [nt]
 |false=>rfl
def takenFrom (g:Nat→Bool):Nat→List Nat→List Nat
 |_,[]=>[]
 |b,o :: l=>(if g b=true then [o] else []) ++ takenFrom g (b + 1) l
theorem taken_len {g:Nat→Bool}:∀ {l:List Nat} {b:Nat},(takenFrom g b l).length ≤ l.length
 |[],_=>Nat.le_refl _
 |o :: l,b=>by
  have:=taken_len (g:=g) (l:=l) (b:=b + 1)
  unfold takenFrom
  rw [List.length_append,List.length_cons]
  split<;>simp<;>omega
section
variable {R:Nat} (hR:R ≤ 400) (T:Nat→Nat→Bool)
include hR
theorem sl_loop2 {r:Nat} (hr:r < R) (out:List Nat) (ho:out.length=r):∀ (suf pre:List Nat) (acc:List Nat),out=pre ++ suf→acc.length ≤ pre.length→
  LL f_i_Slots 2 lc_i_Slots_2 [] k_i_Slots_2 (((),rowL R (T r),(),em R R T,(R:Int),(r:Int),(r:Int),(pre.length:Int),()),out.map nt,acc.map nt,()) =
   some (.out 2 (((),rowL R (T r),(),em R R T,(R:Int),(r:Int),(r:Int),(r:Int),()),out.map nt,(acc ++ takenFrom (T r) pre.length suf).map nt,()))
 |[],pre,acc,he,hl=>by
  have e:pre.length=r:=by rw [← ho,he];simp
  rw [e]
  apply gl_i_Slots_2
  unfold nl_i_Slots_2
  simp [takenFrom]
 |o :: suf,pre,acc,he,hl=>by
  have hb:pre.length < r:=by rw [← ho,he];simp
  have hw:=wrap_succ (i:=pre.length) (by omega)
  have hlt:decide ((pre.length:Int) < (r:Int))=true:=decide_eq_true (by omega)
  have tb:((pre.length:Nat):Int).toNat=pre.length:=by simp
  have hg:(out.map nt)[pre.length]? = some (nt o):=by rw [he];simp
  have hlt2:decide (pre.length < out.length)=true:=decide_eq_true (by omega)
  have b2:(decide ((acc.map nt).length + 1 ≤ 4294967296) && true && true)=true:=by
   rw [decide_eq_true (by rw [List.length_map];omega)];rfl
  have ih0:=sl_loop2 hr out ho suf (pre ++ [o]) acc (by simpa using he) (by simp;omega)
  have ih1:=sl_loop2 hr out ho suf (pre ++ [o]) (acc ++ [o]) (by simpa using he) (by simp;omega)
  rw [List.length_append,List.length_singleton,show (((pre.length + 1:Nat)):Int)=(pre.length:Int) + 1 by omega] at ih0 ih1
  simp only [List.map_append,List.map_cons,List.map_nil,List.append_assoc] at ih1
  apply gl_i_Slots_2
  unfold nl_i_Slots_2
  simp only [hlt,br_true',ge0,tb,rowL_get (show pre.length < R by omega),Option.bind_some,fits_bool,cell_bool,asBool_bool,hw]
  cases hgb:T r pre.length with
  |true=>
   simp only [br_true',List.length_map,hlt2,Bool.and_true,hg,Option.bind_some,nt_cell,nt_asInt,takenFrom,hgb,if_true,List.map_append,List.map_cons,List.map_nil]
   simp only [List.length_map,Bool.and_true] at b2
   rw [b2]
   exact ih1
  |false=>
   simp only [br_false',takenFrom,hgb,Bool.false_eq_true,if_false,List.nil_append]
   exact ih0
theorem sl_loop4 (tb:List CVal) (q r:Int) (out:List CVal) {l:List Nat} (hl:l.length ≤ 400):∀ (d s:Nat),s + d=l.length + 1→(∀ k,k < s→k ∈ l)→
  ∃ m,IsMex l m∧LL f_i_Slots 4 lc_i_Slots_4 [] k_i_Slots_4 (((),(),(s:Int),tb,q,r,()),out,l.map nt,()) =
   some (.out 4 (((),(),(m:Int),tb,q,r,()),out,l.map nt,()))
 |0,s,h,hs=>by have:=all_below s l hs;omega
 |d + 1,s,h,hs=>by
  have hC:=ContainsN_law (l:=l) (by omega) s
  have hw:=wrap_succ (i:=s) (by omega)
  by_cases e:s ∈ l
  ·have hc:l.contains s=true:=by simpa using e
   obtain ⟨m,hm,ih⟩:=sl_loop4 tb q r out hl d (s + 1) (by omega) (fun k hk=>by
    by_cases e2:k=s
    ·subst e2;exact e
    ·exact hs k (by omega))
   rw [show (((s + 1:Nat)):Int)=(s:Int) + 1 by omega] at ih
   refine ⟨m,hm,?_⟩
   apply gl_i_Slots_4
   unfold nl_i_Slots_4
   simp only [hC,hc,Option.bind_some,scalar_bool,Bool.not_true,br_false',asBool_bool,br_true',hw]
   exact ih
  ·have hc:l.contains s=false:=by simpa using e
   refine ⟨s,⟨e,hs⟩,?_⟩
   apply gl_i_Slots_4
   unfold nl_i_Slots_4
   simp only [hC,hc,Option.bind_some,scalar_bool,Bool.not_true,br_false',asBool_bool]
end
def passF (g:Nat→Bool):Nat→List Nat→Nat→Bool→Nat × Bool
 |_,[],s,ag=>(s,ag)
 |k,o :: l,s,ag=>if (g k && decide (o=s))=true then passF g (k + 1) l (s + 1) true else passF g (k + 1) l s ag
theorem pass_le {g:Nat→Bool}:∀ {l:List Nat} {k s:Nat} {ag:Bool},s ≤ (passF g k l s ag).1
 |[],_,_,_=>Nat.le_refl _
 |o :: l,k,s,ag=>by
  unfold passF
  split
  ·have:=pass_le (g:=g) (l:=l) (k:=k + 1) (s:=s + 1) (ag:=true);omega
  ·exact pass_le
theorem pass_ag {g:Nat→Bool}:∀ {l:List Nat} {k s:Nat},(passF g k l s true).2=true
 |[],_,_=>rfl
 |o :: l,k,s=>by
  unfold passF
  split<;>exact pass_ag
theorem taken_cons {g:Nat→Bool} {k o x:Nat} {l:List Nat}:x ∈ takenFrom g k (o :: l)↔(g k=true∧x=o)∨x ∈ takenFrom g (k + 1) l:=by
 rw [takenFrom,List.mem_append]
 constructor
 ·rintro (h | h)
  ·split at h
   ·rename_i hg
    exact .inl ⟨hg,by simpa using h⟩
   ·cases h
  ·exact .inr h
 ·rintro (⟨hg,e⟩ | h)
  ·exact .inl (by rw [if_pos hg,e];simp)
  ·exact .inr h
theorem pass_spec {g:Nat→Bool} {tk:List Nat}:∀ {l:List Nat} {k s:Nat},(∀ x ∈ takenFrom g k l,x ∈ tk)→(∀ j,j < s→j ∈ tk)→
  (∀ j,j < (passF g k l s false).1→j ∈ tk)∧((passF g k l s false).2=true→s < (passF g k l s false).1)∧((passF g k l s false).2=false→(passF g k l s false).1=s∧s ∉ takenFrom g k l)
 |[],k,s,ht,hs=>⟨hs,(fun h=>by cases h),fun _=>⟨rfl,by simp [takenFrom]⟩⟩
 |o :: l,k,s,ht,hs=>by
  unfold passF
  split
  ·rename_i hc
   simp only [Bool.and_eq_true,decide_eq_true_eq] at hc
   have hs':∀ j,j < s + 1→j ∈ tk:=fun j hj=>by
    by_cases e:j=s
    ·exact ht j (taken_cons.2 (.inl ⟨hc.1,by rw [e,hc.2]⟩))
    ·exact hs j (by omega)
   have hle:=pass_le (g:=g) (l:=l) (k:=k + 1) (s:=s + 1) (ag:=true)
   have hag:=pass_ag (g:=g) (l:=l) (k:=k + 1) (s:=s + 1)
   refine ⟨?_,fun _=>by omega,fun h=>by rw [hag] at h;cases h⟩
   have key:∀ {l:List Nat} {k s:Nat} {ag:Bool},(∀ x ∈ takenFrom g k l,x ∈ tk)→(∀ j,j < s→j ∈ tk)→∀ j,j < (passF g k l s ag).1→j ∈ tk:=by
    intro l
    induction l with
    |nil=>intro k s ag _ h;exact h
    |cons o l ih=>
     intro k s ag ht hs
     unfold passF
     split
     ·rename_i hc
      simp only [Bool.and_eq_true,decide_eq_true_eq] at hc
      exact ih (fun x hx=>ht x (taken_cons.2 (.inr hx))) fun j hj=>by
       by_cases e:j=s
       ·exact ht j (taken_cons.2 (.inl ⟨hc.1,by rw [e,hc.2]⟩))
       ·exact hs j (by omega)
     ·exact ih (fun x hx=>ht x (taken_cons.2 (.inr hx))) hs
   exact key (fun x hx=>ht x (taken_cons.2 (.inr hx))) hs'
  ·rename_i hc
   obtain ⟨h1,h2,h3⟩:=pass_spec (g:=g) (tk:=tk) (l:=l) (k:=k + 1) (s:=s) (fun x hx=>ht x (taken_cons.2 (.inr hx))) hs
   refine ⟨h1,h2,fun h=>⟨(h3 h).1,fun hm=>?_⟩⟩
   rcases taken_cons.1 hm with ⟨hg,e⟩ | hm
   ·exact hc (by rw [hg,e];simp)
   ·exact (h3 h).2 hm
section
variable {p:Piece} (F:Fit p) (T:Nat→Nat→Bool)
include F
theorem ss_loop4 {r:Nat} (hr:r < p.regs.toNat) (out:List Nat) (ho:out.length=r):∀ (suf pre:List Nat) (s:Nat) (ag:Bool),out=pre ++ suf→s + suf.length ≤ 1000→
  LL f_s_l11Slots 4 lc_s_l11Slots_4 [] k_s_l11Slots_4 ((.fp p.enc 0,em p.regs.toNat p.regs.toNat T,(),(r:Int),(s:Int),ag,(pre.length:Int),()),out.map nt,()) =
   some (.out 4 ((.fp p.enc 0,em p.regs.toNat p.regs.toNat T,(),(r:Int),((passF (T r) pre.length suf s ag).1:Int),(passF (T r) pre.length suf s ag).2,(r:Int),()),out.map nt,()))
 |[],pre,s,ag,he,hs=>by
  have e:pre.length=r:=by rw [← ho,he];simp
  rw [e]
  apply gl_s_l11Slots_4
  unfold nl_s_l11Slots_4
  simp [passF]
 |o :: suf,pre,s,ag,he,hs=>by
  have hR:=F.r
  simp only [List.length_cons] at hs
  have hb:pre.length < r:=by rw [← ho,he];simp
  have hw:=wrap_succ (i:=pre.length) (by omega)
  have hw2:=wrap_succ (i:=s) (by omega)
  have hlt:decide ((pre.length:Int) < (r:Int))=true:=decide_eq_true (by omega)
  have tb:((pre.length:Nat):Int).toNat=pre.length:=by simp
  have tr:((r:Nat):Int).toNat=r:=by simp
  have hg:(out.map nt)[pre.length]? = some (nt o):=by rw [he];simp
  have hlt2:decide (pre.length < out.length)=true:=decide_eq_true (by omega)
  have hos:decide ((o:Int)=(s:Int))=decide (o=s):=by rw [decide_eq_decide];omega
  have ih0:=ss_loop4 hr out ho suf (pre ++ [o]) s ag (by simpa using he) (by omega)
  have ih1:=ss_loop4 hr out ho suf (pre ++ [o]) (s + 1) true (by simpa using he) (by omega)
  rw [List.length_append,List.length_singleton,show (((pre.length + 1:Nat)):Int)=(pre.length:Int) + 1 by omega] at ih0 ih1
  rw [show (((s + 1:Nat)):Int)=(s:Int) + 1 by omega] at ih1
  apply gl_s_l11Slots_4
  unfold nl_s_l11Slots_4
  simp only [hlt,br_true',ge0',tb,tr,em_get hr,Option.bind_some,fits_sl,cell_sl,asSl_sl,rowL_get (show pre.length < p.regs.toNat by omega),fits_bool,cell_bool,asBool_bool,List.length_map,hlt2,Bool.and_true,hg,nt_cell,nt_asInt,hw,hw2,hos,passF]
  cases hgb:T r pre.length with
  |true=>
   cases hd:decide (o=s) with
   |true=>
    simp only [br_true',Option.bind_some,Bool.and_self,if_true]
    exact ih1
   |false=>
    simp only [br_true',br_false',Option.bind_some,Bool.and_false,Bool.false_eq_true,if_false]
    exact ih0
  |false=>
   simp only [br_false',Option.bind_some,Bool.false_and,Bool.false_eq_true,if_false]
   exact ih0
theorem ss_loop2 {r:Nat} (hr:r < p.regs.toNat) (out:List Nat) (ho:out.length=r):∀ (d s:Nat),s + d=(takenFrom (T r) 0 out).length + 1→(∀ j,j < s→j ∈ takenFrom (T r) 0 out)→
  ∃ m,IsMex (takenFrom (T r) 0 out) m∧LL f_s_l11Slots 2 lc_s_l11Slots_2 [] k_s_l11Slots_2 ((.fp p.enc 0,em p.regs.toNat p.regs.toNat T,(),(r:Int),(s:Int),true,()),out.map nt,()) =
   some (.out 2 ((.fp p.enc 0,em p.regs.toNat p.regs.toNat T,(),(r:Int),(m:Int),false,()),out.map nt,())):=by
 intro d
 induction d using Nat.strongRecOn with
 |ind d ih=>
  intro s h hs
  have hR:=F.r
  have hsl:=all_below s _ hs
  have htl:=taken_len (g:=T r) (l:=out) (b:=0)
  obtain ⟨p1,p2,p3⟩:=pass_spec (g:=T r) (tk:=takenFrom (T r) 0 out) (l:=out) (k:=0) (s:=s) (fun x hx=>hx) hs
  have h4:=ss_loop4 F T hr out ho out [] s false rfl (by omega)
  simp only [List.length_nil,Int.cast_ofNat_Int] at h4
  have hpl:=all_below _ _ p1
  cases hag:(passF (T r) 0 out s false).2 with
  |true=>
   obtain ⟨m,hm,ih⟩:=ih ((takenFrom (T r) 0 out).length + 1 - (passF (T r) 0 out s false).1) (by have:=p2 hag;omega) (passF (T r) 0 out s false).1 (by omega) p1
   refine ⟨m,hm,?_⟩
   rw [hag] at h4
   apply gl_s_l11Slots_2
   unfold nl_s_l11Slots_2
   rw [h4]
   simp only [br_true',Option.bind_some,loK_out,beq_self_eq_true]
   exact ih
  |false=>
   obtain ⟨q1,q2⟩:=p3 hag
   refine ⟨s,⟨q2,hs⟩,?_⟩
   rw [hag,q1] at h4
   apply gl_s_l11Slots_2
   unfold nl_s_l11Slots_2
   rw [h4]
   simp only [br_true',Option.bind_some,loK_out,beq_self_eq_true]
   apply gl_s_l11Slots_2
   unfold nl_s_l11Slots_2
   rfl
theorem slots_loops:∀ (d r:Nat) (out:List Nat),r + d=p.regs.toNat→out.length=r→(∀ x ∈ out,x ≤ 400)→∃ O:List Nat,O.length=p.regs.toNat∧(∀ x ∈ O,x ≤ 400)∧
  LL f_i_Slots 0 lc_i_Slots_0 [] k_i_Slots_0 (((),em p.regs.toNat p.regs.toNat T,p.regs,(r:Int),()),out.map nt,())=some (.out 0 (((),em p.regs.toNat p.regs.toNat T,p.regs,p.regs,()),O.map nt,()))∧
  LL f_s_l11Slots 0 lc_s_l11Slots_0 [] k_s_l11Slots_0 ((.fp p.enc 0,em p.regs.toNat p.regs.toNat T,(),(r:Int),()),out.map nt,())=some (.out 0 ((.fp p.enc 0,em p.regs.toNat p.regs.toNat T,(),p.regs,()),O.map nt,()))
 |0,r,out,h,ho,hx=>by
  have hr0:=F.r0
  have e:(r:Int)=p.regs:=by omega
  refine ⟨out,by omega,hx,?_,?_⟩
  ·rw [e]
   apply gl_i_Slots_0
   unfold nl_i_Slots_0
   simp
  ·rw [e]
   apply gl_s_l11Slots_0
   unfold nl_s_l11Slots_0
   simp
 |d + 1,r,out,h,ho,hx=>by
  have hR:=F.r
  have hr0:=F.r0
  have hr:r < p.regs.toNat:=by omega
  have hRR:((p.regs.toNat:Nat):Int)=p.regs:=by omega
  have htl:=taken_len (g:=T r) (l:=out) (b:=0)
  have h2:=sl_loop2 (R:=p.regs.toNat) (by omega) T hr out ho out [] [] rfl (Nat.le_refl _)
  simp only [List.length_nil,Int.cast_ofNat_Int,List.map_nil,List.nil_append,hRR] at h2
  obtain ⟨m,hm,h4⟩:=sl_loop4 (R:=p.regs.toNat) (by omega) (em p.regs.toNat p.regs.toNat T) p.regs (r:Int) (out.map nt) (l:=takenFrom (T r) 0 out) (by omega) ((takenFrom (T r) 0 out).length + 1) 0 (by omega) (fun k hk=>by omega)
  obtain ⟨m',hm',h2'⟩:=ss_loop2 F T hr out ho ((takenFrom (T r) 0 out).length + 1) 0 (by omega) (fun k hk=>by omega)
  have e:=mex_uniq hm' hm
  subst e
  have hml:=mex_le hm
  simp only [Int.cast_ofNat_Int] at h4 h2'
  obtain ⟨O,o1,o2,i1,i2⟩:=slots_loops d (r + 1) (out ++ [m']) (by omega) (by simp;omega) (fun x hx'=>by
   rcases List.mem_append.1 hx' with h | h
   ·exact hx x h
   ·simp at h;omega)
  rw [show (((r + 1:Nat)):Int)=(r:Int) + 1 by omega] at i1 i2
  simp only [List.map_append,List.map_cons,List.map_nil] at i1 i2
  have hw:=wrap_succ (i:=r) (by omega)
  have tr:((r:Nat):Int).toNat=r:=by simp
  have hlt:decide ((r:Int) < p.regs)=true:=decide_eq_true (by omega)
  have b2:(decide ((out.map nt).length + 1 ≤ 4294967296) && true && true)=true:=by
   rw [decide_eq_true (by rw [List.length_map];omega)];rfl
  refine ⟨O,o1,o2,?_,?_⟩
  ·apply gl_i_Slots_0
   unfold nl_i_Slots_0
   simp only [hlt,br_true',ge0,tr,em_get hr,Option.bind_some,fits_sl,cell_sl,asSl_sl]
   rw [h2]
   simp only [Option.bind_some,loK_out,beq_self_eq_true,br_true']
   rw [h4]
   simp only [Option.bind_some,loK_out,beq_self_eq_true,br_true',b2,hw]
   exact i1
  ·apply gl_s_l11Slots_0
   unfold nl_s_l11Slots_0
   simp only [asFp_fp,Option.bind_some,Nat.zero_add,Piece.enc_cell2,asInt_int,hlt,br_true']
   rw [h2']
   simp only [Option.bind_some,loK_out,beq_self_eq_true,br_true',b2,hw]
   exact i2
end
end Go.Proofs.Ytognghbhdalckaa.Abs

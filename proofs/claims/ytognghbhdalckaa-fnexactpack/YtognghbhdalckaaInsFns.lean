/- A part. -/
import Derived.Test.YtognghbhdalckaaDataIns
import Derived.Test.YtognghbhdalckaaK1Eqs
import Derived.Test.YtognghbhdalckaaIntsFns
set_option linter.unusedVariables false
set_option linter.unusedSectionVars false
set_option linter.unusedSimpArgs false
namespace Go.Proofs.Ytognghbhdalckaa.Abs
open Go Go.Proofs
def SzIns (t:Ins):Prop:=∀ l:Int,0 ≤ l→l ≤ 1048576→CC f_l_szIns [.v t.enc,.v (.int .i64 l)] []=some (.int .i64 (left l t.sz),[])
theorem szInsS_loop:∀ (suf pre:List Ins) (l:Int),(pre ++ suf).length ≤ 1048576→(∀ t ∈ suf,SzIns t)→0 ≤ l→l ≤ 1048576→
  LL f_l_szInsS 0 lc_l_szInsS_0 [] k_l_szInsS_0 (((pre ++ suf).map Ins.enc,l,(pre.length:Int),()),()) =
   some (if l < (Ins.szL suf:Int) then .ret (.int .i64 (-1),[]) else .out 0 (((pre ++ suf).map Ins.enc,l - Ins.szL suf,((pre ++ suf).length:Int),()),()))
 |[],pre,l,hl,h,h0,h1=>by
  apply gl_l_szInsS_0
  unfold nl_l_szInsS_0
  rw [lt_end]
  have:¬ l < 0:=by omega
  simp [this]
 |t :: suf,pre,l,hl,h,h0,h1=>by
  apply gl_l_szInsS_0
  unfold nl_l_szInsS_0
  rw [lt_mid,nn_mid,get_mid,wrap_mid pre suf t hl]
  have ht:=h t (by simp) l h0 h1
  simp only [br_true',Option.bind_some,Ins.enc_fits,Ins.enc_sub,Ins.enc_isAggN,Ins.enc_cell0,Ins.enc_cell1,Ins.enc_cell2,Ins.enc_cell3,Ins.enc_cell4,Ins.enc_cell5,Ins.enc_cell6,Ins.enc_eta,asSl_sl,asInt_int,ht,asInt_int]
  by_cases hn:l < (t.sz:Int)
  ·have h2:l < (Ins.szL (t :: suf):Int):=by simp;omega
   rw [if_pos h2,show decide (left l t.sz < 0)=true from decide_eq_true ((left_neg h0).2 hn)]
   rfl
  ·have h3:¬ left l t.sz < 0:=fun hc=>hn ((left_neg h0).1 hc)
   have ih:=szInsS_loop suf (pre ++ [t]) (l - t.sz) (by simpa using hl) (fun u hu=>h u (by simp [hu])) (by omega) (by omega)
   simp only [List.append_assoc,List.singleton_append] at ih
   rw [left_ok hn] at h3 ⊢
   simp only [h3,decide_false,br_false']
   rw [ih]
   have e:(l - (t.sz:Int) < (Ins.szL suf:Int))↔(l < (Ins.szL (t :: suf):Int)):=by simp;omega
   have e2:l - (t.sz:Int) - (Ins.szL suf:Int)=l - (Ins.szL (t :: suf):Int):=by simp;omega
   simp only [e,e2]
theorem szInsS_law {ts:List Ins} (hl:ts.length ≤ maxLen) (h:∀ t ∈ ts,SzIns t) (l:Int) (h0:0 ≤ l) (h1:l ≤ 1048576) :
  CC f_l_szInsS [.v (.sl (ts.map Ins.enc)),.v (.int .i64 l)] []=some (.int .i64 (left l (ts.length + Ins.szL ts)),[]):=by
 apply go_l_szInsS
 unfold nf_l_szInsS
 have hw:IntKind.i64.wrap (l - ((ts.map Ins.enc).length:Int))=l - (ts.length:Int):=by
  unfold maxLen at hl
  rw [List.length_map,wrap_i64]<;>omega
 rw [hw]
 by_cases hs:l < (ts.length:Int)
 ·have:l - (ts.length:Int) < 0:=by omega
  have h2:left l (ts.length + Ins.szL ts) = -1:=by unfold left;rw [if_pos (by omega)]
  simp [this,h2]
 ·have h3:¬ l - (ts.length:Int) < 0:=by omega
  have hloop:=szInsS_loop ts [] (l - ts.length) (by simp;omega) h (by omega) (by omega)
  simp only [List.nil_append,List.length_nil] at hloop
  simp only [h3,decide_false,br_false']
  rw [show ((0:Int))=((0:Nat):Int) from rfl,hloop]
  by_cases h4:l - (ts.length:Int) < (Ins.szL ts:Int)
  ·have h2:left l (ts.length + Ins.szL ts) = -1:=by unfold left;rw [if_pos (by omega)]
   simp [h4,h2]
  ·have h2:left l (ts.length + Ins.szL ts)=l - (ts.length:Int) - (Ins.szL ts:Int):=by unfold left;rw [if_neg (by omega)];omega
   simp [h4,h2]
theorem szIns_law:∀ t:Ins,t.wt→SzIns t:=fun t hw l h0 h1=>by
 have hw:=(Ins.wt_def t).1 hw
 have hsz:=Ins.sz_def t
 rw [Ins.enc_def]
 apply go_l_szIns
 unfold nf_l_szIns
 have c0:=szIntS_law (hw.2.2.2.2.2.1).1 (l) (by omega) (by omega)
 simp only [c0,Option.bind_some,asInt_int]
 by_cases g0:l < ((t.l.length:Nat):Int)
 ·rw [show decide (left (l) t.l.length < 0)=true from decide_eq_true ((left_neg (by omega)).2 g0),br_true']
  have:left l t.sz = -1:=by unfold left;rw [if_pos (by omega)]
  rw [this]
 rw [show decide (left (l) t.l.length < 0)=false from decide_eq_false (fun hc=>g0 ((left_neg (by omega)).1 hc)),br_false',left_ok g0]
 have:left l t.sz=(l - ((t.l.length:Nat):Int)):=by unfold left;rw [if_neg (by omega)];omega
 rw [this]
theorem toInsS_loop:∀ (suf pre:List Ins) (zs:List CVal),(pre ++ suf).length ≤ 1048576→(∀ t ∈ suf,CC f_l_toIns [.v t.enc] []=some (t.enc,[]))→zs.length=suf.length→(∀ z ∈ zs,∃ cs,z=.agg cs∧cs.length=7)→
  LL f_l_toInsS 0 lc_l_toInsS_0 [] k_l_toInsS_0 (((pre ++ suf).map Ins.enc,(),(pre.length:Int),()),pre.map Ins.enc ++ zs,()) =
   some (.out 0 (((pre ++ suf).map Ins.enc,(),((pre ++ suf).length:Int),()),(pre ++ suf).map Ins.enc,()))
 |[],pre,zs,hl,h,hz,hs=>by
  apply gl_l_toInsS_0
  unfold nl_l_toInsS_0
  rw [lt_end]
  have:zs=[]:=List.eq_nil_of_length_eq_zero (by simpa using hz)
  subst this
  simp
 |t :: suf,pre,[],hl,h,hz,hs=>by simp at hz
 |t :: suf,pre,z :: zs,hl,h,hz,hs=>by
  apply gl_l_toInsS_0
  unfold nl_l_toInsS_0
  obtain ⟨cs,rfl,hcs⟩:=hs z (by simp)
  have e1:(pre.map Ins.enc ++ CVal.agg cs :: zs)[((pre.length:Nat):Int).toNat]? = some (.agg cs):=by simp
  have e2:(pre.map Ins.enc ++ CVal.agg cs :: zs).set ((pre.length:Nat):Int).toNat t.enc=(pre ++ [t]).map Ins.enc ++ zs:=by
   simp [List.set_append]
  have e3:decide (((pre.length:Nat):Int).toNat < (pre.map Ins.enc ++ CVal.agg cs :: zs).length)=true:=by simp
  have ih:=toInsS_loop suf (pre ++ [t]) zs (by simpa using hl) (fun u hu=>h u (by simp [hu])) (by simpa using hz) (fun z hz=>hs z (by simp [hz]))
  simp only [List.append_assoc,List.singleton_append] at ih
  rw [lt_mid,nn_mid,get_mid,wrap_mid pre suf t hl,e1,e3]
  simp only [br_true',Option.bind_some,Ins.enc_fits,Ins.enc_sub,Ins.enc_isAggN,Ins.enc_cell0,Ins.enc_cell1,Ins.enc_cell2,Ins.enc_cell3,Ins.enc_cell4,Ins.enc_cell5,Ins.enc_cell6,Ins.enc_eta,asSl_sl,asInt_int,h t (by simp),e2,Bool.and_true,fits_agg,hcs,beq_self_eq_true]
  exact ih
theorem toInsS_law {ts:List Ins} (hl:ts.length ≤ 1048576) (h:∀ t ∈ ts,CC f_l_toIns [.v t.enc] []=some (t.enc,[])):CC f_l_toInsS [.v (.sl (ts.map Ins.enc))] []=some (.sl (ts.map Ins.enc),[]):=by
 apply go_l_toInsS
 unfold nf_l_toInsS
 have hloop:=toInsS_loop ts [] (List.replicate ts.length (.agg [.int .i64 0,.int .i64 0,.int .i64 0,.int .i64 0,.int .i64 0,.sl [],.int .i64 0])) (by simpa using hl) h (by simp) (fun z hz=>⟨_,(List.eq_of_mem_replicate hz),rfl⟩)
 simp only [List.nil_append,List.length_nil,List.map_nil,Int.cast_ofNat_Int] at hloop
 simp only [List.length_map,Int.toNat_natCast,hloop,decide_true,Bool.true_and,show decide ((ts.length:Int) ≤ 1048576)=true by simpa using (by omega),br_true',Option.bind_some,loK_out]
 rfl
theorem eqInsS_loop:∀ (suf pre:List Ins),(pre ++ suf).length ≤ 1048576→(∀ t ∈ suf,CC f_l_eqIns [.v t.enc,.v t.enc] []=some (.bool true,[]))→
  LL f_l_eqInsS 0 lc_l_eqInsS_0 [] k_l_eqInsS_0 (((pre ++ suf).map Ins.enc,(pre ++ suf).map Ins.enc,(pre.length:Int),()),()) =
   some (.out 0 (((pre ++ suf).map Ins.enc,(pre ++ suf).map Ins.enc,((pre ++ suf).length:Int),()),()))
 |[],pre,hl,h=>by
  apply gl_l_eqInsS_0
  unfold nl_l_eqInsS_0
  rw [lt_end]
  simp
 |t :: suf,pre,hl,h=>by
  apply gl_l_eqInsS_0
  unfold nl_l_eqInsS_0
  have ih:=eqInsS_loop suf (pre ++ [t]) (by simpa using hl) (fun u hu=>h u (by simp [hu]))
  simp only [List.append_assoc,List.singleton_append] at ih
  rw [lt_mid,nn_mid,get_mid,wrap_mid pre suf t hl]
  simp only [br_true',Option.bind_some,Ins.enc_fits,Ins.enc_sub,Ins.enc_isAggN,Ins.enc_cell0,Ins.enc_cell1,Ins.enc_cell2,Ins.enc_cell3,Ins.enc_cell4,Ins.enc_cell5,Ins.enc_cell6,Ins.enc_eta,asSl_sl,asInt_int,h t (by simp),asBool_bool,Bool.not_true,br_false',Ins.enc_isAggN,Ins.enc_cell0,Ins.enc_cell1,Ins.enc_cell2,Ins.enc_cell3,Ins.enc_cell4,Ins.enc_cell5,Ins.enc_cell6,Ins.enc_eta]
  exact ih
theorem eqInsS_law {ts:List Ins} (hl:ts.length ≤ 1048576) (h:∀ t ∈ ts,CC f_l_eqIns [.v t.enc,.v t.enc] []=some (.bool true,[])):CC f_l_eqInsS [.v (.sl (ts.map Ins.enc)),.v (.sl (ts.map Ins.enc))] []=some (.bool true,[]):=by
 apply go_l_eqInsS
 unfold nf_l_eqInsS
 have hloop:=eqInsS_loop ts [] (by simpa using hl) h
 simp only [List.nil_append,List.length_nil,Int.cast_ofNat_Int] at hloop
 simp only [hloop,decide_true,Bool.not_true,br_false',Option.bind_some,loK_out]
 rfl
theorem toIns_law:∀ t:Ins,t.ok→CC f_l_toIns [.v t.enc] []=some (t.enc,[]):=fun t hok=>by
 have h0:=toIntS_law hok.l_len
 rw [Ins.enc_def]
 apply go_l_toIns
 unfold nf_l_toIns
 simp only [h0,Option.bind_some,isFlat_sl,asSl_sl,asInt_int,Bool.and_true,br_true']
theorem eqIns_law:∀ t:Ins,t.ok→CC f_l_eqIns [.v t.enc,.v t.enc] []=some (.bool true,[]):=fun t hok=>by
 have h0:=eqIntS_law hok.l_len
 rw [Ins.enc_def]
 apply go_l_eqIns
 unfold nf_l_eqIns
 simp only [h0,Option.bind_some,decide_true,Bool.not_true,br_false',br_true',asBool_bool]
end Go.Proofs.Ytognghbhdalckaa.Abs

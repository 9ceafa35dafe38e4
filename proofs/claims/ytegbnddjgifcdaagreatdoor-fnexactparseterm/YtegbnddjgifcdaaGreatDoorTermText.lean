/- A part. -/
import Derived.Test.YtegbnddjgifcdaaGreatDoorTermPlain
import Derived.Test.YtegbnddjgifcdaaGreatDoorTextS
set_option linter.unusedVariables false
set_option linter.unusedSectionVars false
set_option linter.unusedSimpArgs false
set_option maxRecDepth 100000
set_option maxHeartbeats 1000000
namespace Go.Proofs.YtegbnddjgifcdaaGreatDoor.Abs
open Go Go.Proofs
open Classical
theorem textTs_loop {c0 c1 c4 c5:Int} {c2 c3:List UInt8} {c6 c8:List CVal}:∀ (suf pre:List Ty) (acc:List UInt8),(pre ++ suf).length ≤ 1048576→(∀ t ∈ suf,t.right∧t.ok)→acc.length + 200 * suf.length ≤ 3000000→
  LL f_s_l2Text 1 lc_s_l2Text_1 [] k_s_l2Text_1 (((),acc,(pre.length:Int),()),(c0,c1,c2,c3,c4,c5,c6,(pre ++ suf).map Ty.enc,c8,()),()) =
   some (.out 1 (((),acc ++ Ty.textL suf,((pre ++ suf).length:Int),()),(c0,c1,c2,c3,c4,c5,c6,(pre ++ suf).map Ty.enc,c8,()),()))
 |[],pre,acc,hl,h,hb=>by
  apply gl_s_l2Text_1
  unfold nl_s_l2Text_1
  rw [lt_end]
  simp
 |t :: suf,pre,acc,hl,h,hb=>by
  apply gl_s_l2Text_1
  unfold nl_s_l2Text_1
  obtain ⟨hr,hok⟩:=h t (by simp)
  simp only [List.length_cons] at hb
  have ht:=l1Text_right hr hok
  have hlt:=Term.right_text hr
  have ih:=textTs_loop (c0:=c0) (c1:=c1) (c2:=c2) (c3:=c3) (c4:=c4) (c5:=c5) (c6:=c6) (c8:=c8) suf (pre ++ [t]) (acc ++ [32] ++ t.text) (by simpa using hl) (fun u hu=>h u (by simp [hu])) (by simp only [List.length_append,List.length_cons,List.length_nil];omega)
  simp only [List.append_assoc,List.singleton_append] at ih
  have h3:(acc ++ [(32:UInt8)]).length + t.text.length ≤ 1152921504606846976:=by simp only [List.length_append,List.length_cons,List.length_nil];omega
  rw [lt_mid,nn_mid,get_mid,wrap_mid pre suf t hl,decide_eq_true (show acc.length + 1 ≤ 1152921504606846976 by omega)]
  simp only [br_true',Option.bind_some,Ty.enc_fits,Ty.enc_sub,ht,asStr_str,h3,decide_true,Ty.textL_cons,List.append_assoc,List.singleton_append,List.cons_append,List.nil_append]
  exact ih
theorem textA_loop {c0 c1 c4 c5:Int} {c2 c3:List UInt8} {c6 c7:List CVal}:∀ (suf pre:List Term) (acc:List UInt8),(pre ++ suf).length ≤ 1048576→(∀ t ∈ suf,CC f_s_l2Text [.v t.enc] []=some (.str t.text,[]))→(∀ t ∈ suf,t.text.length + 1 ≤ 800 * t.nodes)→acc.length + 800 * Term.nodesL suf ≤ 3000000→
  LL f_s_l2Text 3 lc_s_l2Text_3 [] k_s_l2Text_3 (((),acc,(pre.length:Int),()),(c0,c1,c2,c3,c4,c5,c6,c7,(pre ++ suf).map Term.enc,()),()) =
   some (.out 3 (((),acc ++ Lib.joinTail [32] (Term.toksL suf),((pre ++ suf).length:Int),()),(c0,c1,c2,c3,c4,c5,c6,c7,(pre ++ suf).map Term.enc,()),()))
 |[],pre,acc,hl,h,hm,hb=>by
  apply gl_s_l2Text_3
  unfold nl_s_l2Text_3
  rw [lt_end]
  simp [Term.joinTail_nil]
 |t :: suf,pre,acc,hl,h,hm,hb=>by
  apply gl_s_l2Text_3
  unfold nl_s_l2Text_3
  simp only [Term.nodesL_cons] at hb
  have ht:=h t (by simp)
  have hlt:=hm t (by simp)
  have ih:=textA_loop (c0:=c0) (c1:=c1) (c2:=c2) (c3:=c3) (c4:=c4) (c5:=c5) (c6:=c6) (c7:=c7) suf (pre ++ [t]) (acc ++ [32] ++ t.text) (by simpa using hl) (fun u hu=>h u (by simp [hu])) (fun u hu=>hm u (by simp [hu])) (by simp only [List.length_append,List.length_cons,List.length_nil];omega)
  simp only [List.append_assoc,List.singleton_append] at ih
  have h3:(acc ++ [(32:UInt8)]).length + t.text.length ≤ 1152921504606846976:=by simp only [List.length_append,List.length_cons,List.length_nil];omega
  rw [lt_mid,nn_mid,get_mid,wrap_mid pre suf t hl,decide_eq_true (show acc.length + 1 ≤ 1152921504606846976 by omega)]
  simp only [br_true',Option.bind_some,Term.enc_fits,Term.enc_sub,ht,asStr_str,h3,decide_true,Term.toksL_cons,Ty.joinTail_append,Term.joinTail_toks,List.append_assoc,List.singleton_append,List.cons_append,List.nil_append]
  exact ih
theorem l2Text_law:∀ t:Term,t.good→t.ok→t.nodes ≤ 150→CC f_s_l2Text [.v t.enc] []=some (.str t.text,[]):=Term.ind fun t ih hg hok hb=>by
 obtain ⟨hh,hp⟩:=(Term.good_def t).1 hg
 have H:=Term.head_of hh
 have hk:=H.k
 have hn:=H.num
 have hs:=H.s_iff
 have hz:=H.z_iff
 have hT:=H.t_pos
 have hty:=H.ty
 have hni:=H.i
 have hsl:=H.s_len
 have hzl:=H.z_len
 have htl:=Term.ts_len H
 have hI:=l2Int_law t.n (by omega) (by omega)
 have hI2:=l2Int_law (t.ts.length:Int) (by omega) (by omega)
 have hI3:CC f_s_l2Int [.v (.int .i64 ((t.ts.map Ty.enc).length:Int))] []=some (.str (Lib.itoa (t.ts.length:Int)),[]):=by rw [List.length_map];exact hI2
 have hIl:=Term.itoa_short hni
 have hIl2:(Lib.itoa (t.ts.length:Int)).length ≤ 21:=itoa_len _ (by unfold i64;omega)
 have hkl:=Term.kword_len t.k
 have hsg:=Term.sign_len t.n
 rw [Term.nodes_def] at hb
 have hnodes:∀ u ∈ t.a,u.nodes ≤ 150:=fun u hu=>by
  have:u.nodes ≤ Term.nodesL t.a:=Term.nodes_mem hu
  omega
 have hlA:∀ acc:List UInt8,acc.length ≤ 2000→LL f_s_l2Text 3 lc_s_l2Text_3 [] k_s_l2Text_3 (((),acc,0,()),(t.k,t.n,t.s,t.z,t.t.k,t.t.n,t.t.a.map Ty.enc,t.ts.map Ty.enc,t.a.map Term.enc,()),()) =
   some (.out 3 (((),acc ++ Lib.joinTail [32] (Term.toksL t.a),(t.a.length:Int),()),(t.k,t.n,t.s,t.z,t.t.k,t.t.n,t.t.a.map Ty.enc,t.ts.map Ty.enc,t.a.map Term.enc,()),())):=fun acc ha=>
  textA_loop t.a [] acc (by simpa using hok.a_len) (fun u hu=>ih u hu (hp u hu) (hok.a hu) (hnodes u hu)) (fun u hu=>Term.text_len u (hp u hu)) (by omega)
 have hlT:∀ acc:List UInt8,acc.length ≤ 1000→LL f_s_l2Text 1 lc_s_l2Text_1 [] k_s_l2Text_1 (((),acc,0,()),(t.k,t.n,t.s,t.z,t.t.k,t.t.n,t.t.a.map Ty.enc,t.ts.map Ty.enc,t.a.map Term.enc,()),()) =
   some (.out 1 (((),acc ++ Ty.textL t.ts,(t.ts.length:Int),()),(t.k,t.n,t.s,t.z,t.t.k,t.t.n,t.t.a.map Ty.enc,t.ts.map Ty.enc,t.a.map Term.enc,()),())):=fun acc ha=>
  textTs_loop t.ts [] acc (by simp;omega) (fun x hx=>⟨H.tsr x hx,hok.ts hx⟩) (by omega)
 have htsl:=Term.textL_len t.ts H.tsr
 have fin:∀ acc:List UInt8,acc=Term.first t ++ (Lib.joinTail [32] (Term.opt t.s) ++ (Lib.joinTail [32] (Term.opt t.z) ++ (Lib.joinTail [32] (Term.numW t)))) ++ (if hasT t.k=true then 32 :: t.t.text else [])→acc.length ≤ 1000→(hasT t.k=true→t.ts=[])→
   ((LL f_s_l2Text 1 lc_s_l2Text_1 [] k_s_l2Text_1 (((),acc,0,()),(t.k,t.n,t.s,t.z,t.t.k,t.t.n,t.t.a.map Ty.enc,t.ts.map Ty.enc,t.a.map Term.enc,()),())).bind fun r=>
    loK r (fun r=>some r) fun j p=>br (j == 1)
     ((LL f_s_l2Text 3 lc_s_l2Text_3 [] k_s_l2Text_3 (((),p.fst.snd.1,0,()),(p.snd.fst.1,p.snd.fst.snd.1,p.snd.fst.snd.snd.1,p.snd.fst.snd.snd.snd.1,p.snd.fst.snd.snd.snd.snd.1,p.snd.fst.snd.snd.snd.snd.snd.1,p.snd.fst.snd.snd.snd.snd.snd.snd.1,p.snd.fst.snd.snd.snd.snd.snd.snd.snd.1,p.snd.fst.snd.snd.snd.snd.snd.snd.snd.snd.1,()),())).bind fun r=>
      loK r (fun r=>some r) fun j p=>br (j == 3) (some (CVal.str p.fst.snd.1,[])) none) none)=some (CVal.str t.text,[]):=by
  intro acc he hl hts
  refine bd (hlT acc hl) (lo_out (br_T rfl (bd (hlA _ (by simp only [List.length_append];omega)) (lo_out (br_T rfl ?_)))))
  show some (CVal.str (acc ++ Ty.textL t.ts ++ Lib.joinTail [32] (Term.toksL t.a)),[])=_
  rw [Term.text_eq,he]
  unfold Term.rest
  simp only [Ty.joinTail_append,Ty.joinTail_toksL]
  cases e:hasT t.k with
  |true=>
   rw [hts e]
   simp only [if_true,Ty.joinTail_toks,Ty.textL_nil,List.append_assoc,List.nil_append,List.append_nil]
  |false=>simp [Term.joinTail_nil]
 rw [Term.enc_def]
 apply go_s_l2Text
 unfold nf_s_l2Text
 refine bd (l2Word_law hk) ?_
 have kc:t.k=1∨t.k=2∨t.k=3∨t.k=4∨t.k=5∨t.k=6∨t.k=7∨t.k=8∨t.k=9∨t.k=10∨t.k=11∨t.k=12∨t.k=13∨t.k=14∨t.k=15∨t.k=16∨t.k=17:=by omega
 obtain ⟨A,hA,hAl,hj⟩:∃ A:List UInt8,A=Term.first t ++ (if t.k=1∨t.k=15 then Lib.joinTail [32] (Term.numW t) else [])∧A.length ≤ 50∧
   (br (decide (t.k=1)) ((CVal.str (Term.kword t.k)).asStr.bind fun s=>br (decide (s.length + 1 ≤ 1152921504606846976)) ((CC f_s_l2Int [AVal.v (CVal.int .i64 t.n)] []).bind fun r=>r.1.asStr.bind fun s_1=>br (decide ((s ++ [(32:UInt8)]).length + s_1.length ≤ 1152921504606846976))
     (some (LO.out 0 (((),s ++ [(32:UInt8)] ++ s_1,()),(t.k,t.n,t.s,t.z,t.t.k,t.t.n,t.t.a.map Ty.enc,t.ts.map Ty.enc,t.a.map Term.enc,()),()))) none) none)
    (br (decide (t.k=2)) (br (decide (t.n=0)) (some (LO.out 0 (((),[(117:UInt8)],()),(t.k,t.n,t.s,t.z,t.t.k,t.t.n,t.t.a.map Ty.enc,t.ts.map Ty.enc,t.a.map Term.enc,()),())))
      ((CVal.str (Term.kword t.k)).asStr.bind fun s=>some (LO.out 0 (((),s,()),(t.k,t.n,t.s,t.z,t.t.k,t.t.n,t.t.a.map Ty.enc,t.ts.map Ty.enc,t.a.map Term.enc,()),()))))
     (br (decide (t.k=15)) ((CVal.str (Term.kword t.k)).asStr.bind fun s=>br (decide (s.length + 1 ≤ 1152921504606846976)) (br (decide (0 ≤ t.n) && true) (br (decide (t.n.toNat < 6) && true)
       ([CVal.str [],CVal.str [(43:UInt8)],CVal.str [(45:UInt8)],CVal.str [(42:UInt8)],CVal.str [(60:UInt8)],CVal.str [(61:UInt8)]][t.n.toNat]?.bind fun y=>(y.cell 0).bind fun c=>c.asStr.bind fun s_1=>
        br (decide ((s ++ [(32:UInt8)]).length + s_1.length ≤ 1152921504606846976)) (some (LO.out 0 (((),s ++ [(32:UInt8)] ++ s_1,()),(t.k,t.n,t.s,t.z,t.t.k,t.t.n,t.t.a.map Ty.enc,t.ts.map Ty.enc,t.a.map Term.enc,()),()))) none) none) none) none)
      ((CVal.str (Term.kword t.k)).asStr.bind fun s=>some (LO.out 0 (((),s,()),(t.k,t.n,t.s,t.z,t.t.k,t.t.n,t.t.a.map Ty.enc,t.ts.map Ty.enc,t.a.map Term.enc,()),())))) ):Option (LO kj_s_l2Text_0.T))=some (LO.out 0 (((),A,()),(t.k,t.n,t.s,t.z,t.t.k,t.t.n,t.t.a.map Ty.enc,t.ts.map Ty.enc,t.a.map Term.enc,()),())):=by
  refine ⟨_,rfl,?_,?_⟩
  ·have h5:=Term.first_len t
   have h6:=Term.numW_len H
   split
   ·rw [List.length_append];omega
   ·simp;omega
  ·by_cases h1:t.k=1
   ·refine br_T (decide_eq_true h1) (bd rfl ?_)
    lenT
    refine bd hI (bd rfl ?_)
    lenT
    rw [if_pos (.inl h1)]
    unfold Term.first Term.numW
    rw [if_neg (by omega),if_pos (.inl h1),Term.joinTail_one]
    simp
   ·refine br_F (decide_eq_false h1) ?_
    by_cases h2:t.k=2
    ·have hn2:t.n=0∨t.n=1:=by rw [h2] at hn;unfold numberOk at hn;simp at hn;omega
     refine br_T (decide_eq_true h2) ?_
     rw [if_neg (by omega)]
     unfold Term.first
     rw [if_pos h2,h2]
     rcases hn2 with e | e<;>rw [e]<;>rfl
    ·refine br_F (decide_eq_false h2) ?_
     by_cases h15:t.k=15
     ·have hn2:1 ≤ t.n∧t.n ≤ 5:=by rw [h15] at hn;exact of_decide_eq_true hn
      refine br_T (decide_eq_true h15) (bd rfl ?_)
      lenT
      refine br_T (by simp;omega) (br_T (by simp;omega) (bd (Term.sign_at hn2) (bd rfl (bd rfl ?_))))
      lenT
      rw [if_pos (.inr h15)]
      unfold Term.first Term.numW
      rw [if_neg (by omega),if_neg (by omega),if_pos h15,Term.joinTail_one]
      simp
     ·refine br_F (decide_eq_false h15) (bd rfl ?_)
      rw [if_neg (by omega)]
      unfold Term.first
      rw [if_neg h2,List.append_nil]
 refine bd hj (lo_out (br_T rfl ?_))
 clear hj
 rcases kc with e | e | e | e | e | e | e | e | e | e | e | e | e | e | e | e | e
 all_goals (rw [e] at hs hz hT hn hty)
 all_goals first
  |have hs:t.s ≠ []:=fun q=>(hs.1 q) (by decide)
   refine br_T (by simp [hs]) ?_
   lenT
   lenT
  |have hs:t.s=[]:=hs.2 (by decide)
   refine br_F (by simp [hs]) ?_
 all_goals first
  |have hz:t.z=[]:=hz.2 (by decide)
   refine br_F (by simp [hz]) ?_
  |have hz:t.z ≠ []:=fun q=>(hz.1 q) (by decide)
   refine br_T (by simp [hz]) ?_
   lenT
   lenT
 all_goals refine bd (a:=(decide (t.k=6∨t.k=7),PUnit.unit)) (by simp [e]) ?_
 all_goals first
  |have q:¬ (t.k=6∨t.k=7):=by omega
   refine br_F (decide_eq_false q) ?_
  |have q:t.k=6∨t.k=7:=by omega
   refine br_T (decide_eq_true q) ?_
   lenT
   refine bd hI (bd rfl ?_)
   lenT
 all_goals first
  |have q:¬ t.k=3:=by omega
   refine br_F (decide_eq_false q) ?_
  |have q:t.k=3:=by omega
   refine br_T (decide_eq_true q) ?_
   lenT
   refine bd hI3 (bd rfl ?_)
   lenT
 all_goals first
  |have hd:hasT t.k=false:=by rw [e];decide
   have hT0:¬ 0 < t.t.k:=by
    intro q
    have:=H.t_pos.1 q
    rw [hd] at this
    cases this
   refine br_F (decide_eq_false hT0) ?_
   refine fin _ ?_ ?_ ?_
   ·rw [hA,e]
    simp [Term.opt,Term.numW,hs,hz,e,Term.joinTail_one,Term.joinTail_nil,hasT,List.append_assoc]
   ·simp only [List.length_append,List.length_cons,List.length_nil];omega
   ·intro q
    rw [e] at q
    exact absurd q (by decide)
  |have hr:=hty (by decide)
   have hx:=l1Text_right hr hok.t
   have hxl:=Term.right_text hr
   rw [Ty.enc_def] at hx
   refine br_T (decide_eq_true (hT.2 (by decide))) ?_
   lenT
   refine bd hx (bd rfl ?_)
   lenT
   refine fin _ ?_ ?_ ?_
   ·rw [hA,e]
    simp [Term.opt,Term.numW,hs,hz,e,Term.joinTail_one,Term.joinTail_nil,hasT,List.append_assoc]
   ·simp only [List.length_append,List.length_cons,List.length_nil];omega
   ·intro q
    exact H.ts_nil (by omega)
end Go.Proofs.YtegbnddjgifcdaaGreatDoor.Abs

/- A part. -/
import Derived.Test.YtognghbhdalckaaPackI
set_option linter.unusedVariables false
set_option linter.unusedSimpArgs false
set_option linter.unusedSectionVars false
set_option maxRecDepth 100000
set_option maxHeartbeats 1000000
namespace Go.Proofs.Ytognghbhdalckaa.Abs
open Go Go.Proofs
theorem spack_max (O:List Nat) (a b c l i:Int) (x2 x4:List CVal) (hx:∀ x ∈ O,x ≤ 400) (hO:O.length ≤ 1048576):∀ (suf pre:List Nat) (m:Int),O=pre ++ suf→
  LL f_s_l11Pack 0 lc_s_l11Pack_0 [] k_s_l11Pack_0 (((),O.map nt,(),(pre.length:Int),()),(a,b,c,(),()),x2,(l,i,m,(),()),x4,()) =
   some (.out 0 (((),O.map nt,(),(O.length:Int),()),(a,b,c,(),()),x2,(l,i,maxR m suf,(),()),x4,()))
 |[],pre,m,h=>by
  have hp:pre=O:=by simpa using h.symm
  subst hp
  apply gl_s_l11Pack_0
  unfold nl_s_l11Pack_0
  exact pF (by simp) rfl
 |s :: suf,pre,m,h=>by
  have hs:=hx s (by rw [h];simp)
  have ih:=spack_max O a b c l i x2 x4 hx hO suf (pre ++ [s]) (bif decide (m < (s:Int) + 1) then (s:Int) + 1 else m) (by simpa using h)
  have hg:(O.map nt)[((pre.length:Nat):Int).toNat]? = some (nt s):=by rw [h];simp
  have hl:pre.length < O.length:=by rw [h];simp
  have hw:IntKind.i64.wrap ((pre.length:Int) + 1)=((pre ++ [s]).length:Int):=by rw [wrap_i64 (by omega) (by omega)];simp
  have hw2:IntKind.i64.wrap ((s:Int) + 1)=(s:Int) + 1:=by rw [wrap_i64]<;>omega
  apply gl_s_l11Pack_0
  unfold nl_s_l11Pack_0
  refine pT (decide_eq_true (by rw [List.length_map];omega)) (pT (by simp) (pB hg (pT rfl (pB (a:=.int .i64 (s:Int)) rfl (pB asInt_int ?_)))))
  rw [hw]
  by_cases hm:m ≤ (s:Int)
  ·rw [decide_eq_true (show m < (s:Int) + 1 by omega),cond_true] at ih
   refine pT (decide_eq_true hm) (pT (by simp) (pB hg (pT rfl (pB (a:=.int .i64 (s:Int)) rfl (pB asInt_int ?_)))))
   rw [hw2,show maxR m (s :: suf)=maxR ((s:Int) + 1) suf by show maxR (bif _ then _ else _) suf=_;rw [decide_eq_true (show m < (s:Int) + 1 by omega),cond_true]]
   exact ih
  ·rw [decide_eq_false (show ¬ m < (s:Int) + 1 by omega),cond_false] at ih
   refine pF (decide_eq_false hm) ?_
   rw [show maxR m (s :: suf)=maxR m suf by show maxR (bif _ then _ else _) suf=_;rw [decide_eq_false (show ¬ m < (s:Int) + 1 by omega),cond_false]]
   exact ih
section
variable (O:List Nat) (x:Nat) (n1 a b c r0 r1 r2:Int) (x2 B C:List CVal) (hB:B.length=x)
include hB
theorem spack_list (op d xx y n to:Int) (h8:op=8) (hO:O.length ≤ 1048576):∀ (suf pre:List Int),(pre ++ suf).length ≤ 1048576→(∀ r ∈ suf,0 ≤ r∧r < O.length)→
  LL f_s_l11Pack 4 lc_s_l11Pack_4 [] k_s_l11Pack_4 (((),O.map nt,(),n1,x,(pre.length:Int),()),(a,b,c,(),()),x2,(r0,r1,r2,(),()),B ++ (Ins.mk op d xx y n (pre.map (atO O) ++ suf) to).enc :: C,()) =
   some (.out 4 (((),O.map nt,(),n1,x,((pre ++ suf).length:Int),()),(a,b,c,(),()),x2,(r0,r1,r2,(),()),B ++ (Ins.mk op d xx y n ((pre ++ suf).map (atO O)) to).enc :: C,()))
 |[],pre,hl,h=>by
  have hA:=fun e=>arr_get x B C hB e
  have hsub:∀ l,((B ++ (Ins.mk op d xx y n l to).enc :: C)[x]?.bind fun y=>(y.cell 5).bind fun c=>c.asSl)=some (l.map (.int .i64)):=fun l=>by rw [hA];rfl
  apply gl_s_l11Pack_4
  unfold nl_s_l11Pack_4
  refine pB (a:=(false,())) ?_ (pF rfl (by simp))
  refine pB (hA _) (pB (a:=.sl ((pre.map (atO O) ++ []).map (.int .i64))) rfl (pB rfl (pB (hsub _) (pF (by simp) rfl))))
 |r :: suf,pre,hl,h=>by
  obtain ⟨hr0,hr1⟩:=h r (by simp)
  have ih:=spack_list op d xx y n to h8 hO suf (pre ++ [r]) (by simpa using hl) (fun u hu=>h u (by simp [hu]))
  have hA:=fun e=>arr_get x B C hB e
  have hsub:∀ l,((B ++ (Ins.mk op d xx y n l to).enc :: C)[x]?.bind fun y=>(y.cell 5).bind fun c=>c.asSl)=some (l.map (.int .i64)):=fun l=>by rw [hA];rfl
  have hg:((pre.map (atO O) ++ r :: suf).map (CVal.int .i64))[((pre.length:Nat):Int).toNat]? = some (.int .i64 r):=by simp
  have hlt:decide (((pre.length:Nat):Int).toNat < ((pre.map (atO O) ++ r :: suf).map (CVal.int .i64)).length)=true:=by simp
  have hn:(decide ((0:Int) ≤ (pre.length:Int)) && true)=true:=by simp
  have hw:IntKind.i64.wrap ((pre.length:Int) + 1)=((pre ++ [r]).length:Int):=by simp at hl ⊢;rw [wrap_i64]<;>omega
  have hset:(B ++ (Ins.mk op d xx y n (pre.map (atO O) ++ r :: suf) to).enc :: C).set x ((Ins.mk op d xx y n (pre.map (atO O) ++ r :: suf) to).enc.putCell 5 (.sl (((pre.map (atO O) ++ r :: suf).map (CVal.int .i64)).set ((pre.length:Nat):Int).toNat (.int .i64 (atO O r))))) =
    B ++ (Ins.mk op d xx y n ((pre ++ [r]).map (atO O) ++ suf) to).enc :: C:=by
   rw [arr_set x B C hB]
   have:(((pre.map (atO O) ++ r :: suf).map (CVal.int .i64)).set ((pre.length:Nat):Int).toNat (.int .i64 (atO O r)))=((pre ++ [r]).map (atO O) ++ suf).map (CVal.int .i64):=by
    rw [Int.toNat_natCast,List.map_append,List.set_append_right _ _ (by simp)]
    simp
   rw [this]
   rfl
  have hL:∀ l,(Ins.mk op d xx y n l to).enc.cell 5=some (.sl (l.map (.int .i64))):=fun l=>rfl
  apply gl_s_l11Pack_4
  unfold nl_s_l11Pack_4
  refine pB (a:=(true,())) ?_ (pT rfl ?_)
  ·refine pB (hA _) (pB (hL _) (pB rfl (pB (hsub _) (pT (by simp;omega) (pB (hA _) (pB (a:=.int .i64 op) rfl (pB asInt_int ?_)))))))
   rw [decide_eq_true h8]
  ·refine pB (hA _) (pB (hL _) (pB rfl (pB (hA _) (pB (hL _) (pB rfl (pT hn (pB (hsub _) (pT hlt (pB (hsub _) (pB hg (pB asInt_int ?_)))))))))))
   refine pT (by simp [hr0]) (pB (atO_get hr0 hr1) (pT rfl (pB (a:=.int .i64 (atO O r)) rfl (pT hn (pB (hsub _) (pT hlt (pT rfl (pB asInt_int ?_))))))))
   refine pB (hA _) (pB (hL _) (pB rfl (pB hg (pT (by simp [CVal.fitsF,okCells,CK.ok]) ?_))))
   rw [hset,hw]
   simp only [List.append_assoc,List.singleton_append] at ih
   exact ih
theorem spack_keep (i:Ins) (h8:i.op ≠ 8):LL f_s_l11Pack 4 lc_s_l11Pack_4 [] k_s_l11Pack_4 (((),O.map nt,(),n1,x,0,()),(a,b,c,(),()),x2,(r0,r1,r2,(),()),B ++ i.enc :: C,()) =
   some (.out 4 (((),O.map nt,(),n1,x,0,()),(a,b,c,(),()),x2,(r0,r1,r2,(),()),B ++ i.enc :: C,())):=by
 have hA:=arr_get x B C hB i.enc
 have hsub:((B ++ i.enc :: C)[x]?.bind fun y=>(y.cell 5).bind fun c=>c.asSl)=some (i.l.map (.int .i64)):=by rw [hA];simp only [Option.bind_some,Ins.enc_cell5,asSl_sl]
 apply gl_s_l11Pack_4
 unfold nl_s_l11Pack_4
 refine pB (a:=(false,())) ?_ (pF rfl rfl)
 refine pB hA (pB (Ins.enc_cell5 i) (pB rfl (pB hsub ?_)))
 by_cases h0:(0:Int) < ((i.l.map (CVal.int .i64)).length:Int)
 ·refine pT (decide_eq_true h0) (pB hA (pB (Ins.enc_cell0 i) (pB asInt_int ?_)))
  rw [decide_eq_false h8]
 ·exact pF (decide_eq_false h0) rfl
end
end Go.Proofs.Ytognghbhdalckaa.Abs

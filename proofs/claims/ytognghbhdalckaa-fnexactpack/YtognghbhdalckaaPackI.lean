/- A part. -/
import Derived.Test.YtognghbhdalckaaPackCopy
set_option linter.unusedVariables false
set_option linter.unusedSimpArgs false
set_option linter.unusedSectionVars false
set_option maxRecDepth 100000
set_option maxHeartbeats 1000000
namespace Go.Proofs.Ytognghbhdalckaa.Abs
open Go Go.Proofs
theorem pack_max (O:List Nat) (a b c l i:Int) (x2 x4:List CVal) (hx:∀ x ∈ O,x ≤ 400) (hO:O.length ≤ 1048576):∀ (suf pre:List Nat) (m:Int),O=pre ++ suf→
  LL f_i_Pack 0 lc_i_Pack_0 [] k_i_Pack_0 (((),(),O.map nt,O.map nt,(O.length:Int),(pre.length:Int),()),(a,b,c,(),()),x2,(l,i,m,(),()),x4,()) =
   some (.out 0 (((),(),O.map nt,O.map nt,(O.length:Int),(O.length:Int),()),(a,b,c,(),()),x2,(l,i,maxR m suf,(),()),x4,()))
 |[],pre,m,h=>by
  have hp:pre=O:=by simpa using h.symm
  subst hp
  apply gl_i_Pack_0
  unfold nl_i_Pack_0
  exact pF (by simp) rfl
 |s :: suf,pre,m,h=>by
  have hs:=hx s (by rw [h];simp)
  have ih:=pack_max O a b c l i x2 x4 hx hO suf (pre ++ [s]) (bif decide (m < (s:Int) + 1) then (s:Int) + 1 else m) (by simpa using h)
  have hg:(O.map nt)[((pre.length:Nat):Int).toNat]? = some (nt s):=by rw [h];simp
  have hl:pre.length < O.length:=by rw [h];simp
  have hw:IntKind.i64.wrap ((pre.length:Int) + 1)=((pre ++ [s]).length:Int):=by rw [wrap_i64 (by omega) (by omega)];simp
  have hw2:IntKind.i64.wrap ((s:Int) + 1)=(s:Int) + 1:=by rw [wrap_i64]<;>omega
  apply gl_i_Pack_0
  unfold nl_i_Pack_0
  refine pT (decide_eq_true (by omega)) (pT (by simp) (pB hg (pT rfl (pB (a:=.int .i64 (s:Int)) rfl (pB asInt_int ?_)))))
  rw [hw,hw2]
  exact ih
section
variable (O:List Nat) (x:Nat) (n1 n2 a b c r0 r1 r2:Int) (x2 B C:List CVal) (hB:B.length=x)
include hB
theorem arr_get (e:CVal):(B ++ e :: C)[x]? = some e:=by rw [← hB];simp
theorem arr_set (e e':CVal):(B ++ e :: C).set x e'=B ++ e' :: C:=by rw [← hB];simp
theorem pack_list (op d xx y n to:Int) (h8:op=8) (hO:O.length ≤ 1048576):∀ (suf pre:List Int),(pre ++ suf).length ≤ 1048576→(∀ r ∈ suf,0 ≤ r∧r < O.length)→
  LL f_i_Pack 4 lc_i_Pack_4 [] k_i_Pack_4 (((),(),O.map nt,x,n1,n2,x,((pre ++ suf).length:Int),(pre.length:Int),()),(a,b,c,(),()),x2,(r0,r1,r2,(),()),B ++ (Ins.mk op d xx y n (pre.map (atO O) ++ suf) to).enc :: C,()) =
   some (.out 4 (((),(),O.map nt,x,n1,n2,x,((pre ++ suf).length:Int),((pre ++ suf).length:Int),()),(a,b,c,(),()),x2,(r0,r1,r2,(),()),B ++ (Ins.mk op d xx y n ((pre ++ suf).map (atO O)) to).enc :: C,()))
 |[],pre,hl,h=>by
  have hA:=arr_get x B C hB (Ins.mk op d xx y n (pre.map (atO O) ++ []) to).enc
  have hsub:((B ++ (Ins.mk op d xx y n (pre.map (atO O) ++ []) to).enc :: C)[x]?.bind fun y=>(y.cell 5).bind fun c=>c.asSl)=some ((pre.map (atO O) ++ []).map (.int .i64)):=by rw [hA];rfl
  apply gl_i_Pack_4
  unfold nl_i_Pack_4
  refine pF (by simp) (pB hsub ?_)
  simp
 |r :: suf,pre,hl,h=>by
  obtain ⟨hr0,hr1⟩:=h r (by simp)
  have ih:=pack_list op d xx y n to h8 hO suf (pre ++ [r]) (by simpa using hl) (fun u hu=>h u (by simp [hu]))
  have hA:=fun e=>arr_get x B C hB e
  have hsub:∀ l,((B ++ (Ins.mk op d xx y n l to).enc :: C)[x]?.bind fun y=>(y.cell 5).bind fun c=>c.asSl)=some (l.map (.int .i64)):=fun l=>by rw [hA];rfl
  have hg:((pre.map (atO O) ++ r :: suf).map (CVal.int .i64))[((pre.length:Nat):Int).toNat]? = some (.int .i64 r):=by simp
  have hlt:decide (((pre.length:Nat):Int).toNat < ((pre.map (atO O) ++ r :: suf).map (CVal.int .i64)).length)=true:=by simp
  have hn:(decide ((0:Int) ≤ (pre.length:Int)) && true)=true:=by simp
  have hw:IntKind.i64.wrap ((pre.length:Int) + 1)=((pre ++ [r]).length:Int):=by simp at hl ⊢;rw [wrap_i64]<;>omega
  have hset:(B ++ (Ins.mk op d xx y n (pre.map (atO O) ++ r :: suf) to).enc :: C).set x ((Ins.mk op d xx y n (pre.map (atO O) ++ r :: suf) to).enc.putCell 5 (.sl (((pre.map (atO O) ++ r :: suf).map (CVal.int .i64)).set ((pre.length:Nat):Int).toNat (.int .i64 (atO O r))))) =
    B ++ (Ins.mk op d xx y n ((pre ++ [r]).map (atO O) ++ suf) to).enc :: C:=by
   rw [arr_set x B C hB]
   have:(((pre.map (atO O) ++ r :: suf).map (CVal.int .i64)).set ((pre.length:Nat):Int).toNat (.int .i64 (atO O r)))=((pre ++ [r]).map (atO O) ++ suf).map (CVal.int .i64):=by
    rw [Int.toNat_natCast,List.map_append,List.set_append_right _ _ (by simp)]
    simp
   rw [this]
   rfl
  apply gl_i_Pack_4
  unfold nl_i_Pack_4
  refine pT (by simp;omega) (pT hn (pB (hsub _) (pT hlt (pB (hsub _) (pB hg (pB asInt_int (pB (hA _) (pB (a:=.int .i64 op) rfl (pB asInt_int (pT (decide_eq_true h8) ?_))))))))))
  refine pB (hA _) (pB (a:=.sl ((pre.map (atO O) ++ r :: suf).map (.int .i64))) rfl (pB rfl (pT (by simp [hr0]) (pB (atO_get hr0 hr1) (pT rfl (pB (a:=.int .i64 (atO O r)) rfl (pT hn (pB (hsub _) (pT hlt (pT rfl (pB asInt_int ?_)))))))))))
  refine pB (hA _) (pB (a:=.sl ((pre.map (atO O) ++ r :: suf).map (.int .i64))) rfl (pB rfl (pB hg (pT (by simp [CVal.fitsF,okCells,CK.ok]) ?_))))
  rw [hset]
  refine pB (hsub _) ?_
  rw [hw]
  simp only [List.append_assoc,List.singleton_append] at ih
  exact ih
theorem pack_keep (i:Ins) (h8:i.op ≠ 8) (hl:i.l.length ≤ 1048576):∀ (m k:Nat),k + m=i.l.length→
  LL f_i_Pack 4 lc_i_Pack_4 [] k_i_Pack_4 (((),(),O.map nt,x,n1,n2,x,(i.l.length:Int),(k:Int),()),(a,b,c,(),()),x2,(r0,r1,r2,(),()),B ++ i.enc :: C,()) =
   some (.out 4 (((),(),O.map nt,x,n1,n2,x,(i.l.length:Int),(i.l.length:Int),()),(a,b,c,(),()),x2,(r0,r1,r2,(),()),B ++ i.enc :: C,()))
 |0,k,h=>by
  have hA:=arr_get x B C hB i.enc
  have hsub:((B ++ i.enc :: C)[x]?.bind fun y=>(y.cell 5).bind fun c=>c.asSl)=some (i.l.map (.int .i64)):=by rw [hA];simp only [Option.bind_some,Ins.enc_cell5,asSl_sl]
  have e:(k:Int)=(i.l.length:Int):=by omega
  apply gl_i_Pack_4
  unfold nl_i_Pack_4
  refine pF (decide_eq_false (by omega)) (pB hsub ?_)
  rw [e]
 |m + 1,k,h=>by
  have ih:=pack_keep i h8 hl m (k + 1) (by omega)
  have hA:=arr_get x B C hB i.enc
  have hsub:((B ++ i.enc :: C)[x]?.bind fun y=>(y.cell 5).bind fun c=>c.asSl)=some (i.l.map (.int .i64)):=by rw [hA];simp only [Option.bind_some,Ins.enc_cell5,asSl_sl]
  have hk:k < i.l.length:=by omega
  have hg:(i.l.map (CVal.int .i64))[((k:Nat):Int).toNat]? = some (.int .i64 i.l[k]):=by
   rw [Int.toNat_natCast,List.getElem?_map,List.getElem?_eq_getElem hk];rfl
  have hw:IntKind.i64.wrap ((k:Int) + 1)=((k + 1:Nat):Int):=by rw [wrap_i64]<;>omega
  apply gl_i_Pack_4
  unfold nl_i_Pack_4
  refine pT (decide_eq_true (by omega)) (pT (by simp) (pB hsub (pT (by simp;omega) (pB hsub (pB hg (pB asInt_int (pB hA (pB (Ins.enc_cell0 i) (pB asInt_int (pF (decide_eq_false h8) (pB hsub ?_)))))))))))
  rw [hw]
  exact ih
end
end Go.Proofs.Ytognghbhdalckaa.Abs

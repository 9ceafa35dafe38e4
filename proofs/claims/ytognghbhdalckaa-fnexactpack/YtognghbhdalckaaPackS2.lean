/- A part. -/
import Derived.Test.YtognghbhdalckaaPackS
set_option linter.unusedVariables false
set_option linter.unusedSimpArgs false
set_option linter.unusedSectionVars false
set_option maxRecDepth 100000
set_option maxHeartbeats 1000000
namespace Go.Proofs.Ytognghbhdalckaa.Abs
open Go Go.Proofs
theorem spack_ins (O:List Nat) (hO:O.length ≤ 1048576) (a b c r0 r1 r2:Int) (x2:List CVal):∀ (suf pre:List Ins),(pre ++ suf).length ≤ 1048576→(∀ i ∈ suf,i.l.length ≤ 1048576∧InR (O.length:Int) i)→
    LL f_s_l11Pack 2 lc_s_l11Pack_2 [] k_s_l11Pack_2 (((),O.map nt,(),(pre.length:Int),()),(a,b,c,(),()),x2,(r0,r1,r2,(),()),pre.map (fun i=>(packI O i).enc) ++ suf.map Ins.enc,()) =
      some (.out 2 (((),O.map nt,(),((pre ++ suf).length:Int),()),(a,b,c,(),()),x2,(r0,r1,r2,(),()),(pre ++ suf).map (fun i=>(packI O i).enc),()))
  | [],pre,hl,h=>by
    apply gl_s_l11Pack_2
    unfold nl_s_l11Pack_2
    exact pF (by simp) (by simp)
  | .mk op d xx y n l to :: suf,pre,hl,h=>by
    obtain ⟨hil,hin⟩:=h _ List.mem_cons_self
    have ih:=spack_ins O hO a b c r0 r1 r2 x2 suf (pre ++ [.mk op d xx y n l to]) (by simpa using hl) (fun u hu=>h u (by simp [hu]))
    simp only [List.append_assoc,List.singleton_append] at ih
    generalize hB:pre.map (fun i=>(packI O i).enc)=B
    have hBl:B.length=pre.length:=by rw [← hB];simp
    generalize hC:suf.map Ins.enc=C
    have hk:((pre.length:Nat):Int).toNat=pre.length:=Int.toNat_natCast _
    have hA:∀ e:CVal,(B ++ e :: C)[((pre.length:Nat):Int).toNat]? = some e:=fun e=>by rw [hk];exact arr_get pre.length B C hBl e
    have hS:∀ e e':CVal,(B ++ e :: C).set ((pre.length:Nat):Int).toNat e'=B ++ e' :: C:=fun e e'=>by rw [hk];exact arr_set pre.length B C hBl e e'
    have hsub:∀ d xx y,((B ++ (Ins.mk op d xx y n l to).enc :: C)[((pre.length:Nat):Int).toNat]?.bind fun y=>(y.cell 5).bind fun c=>c.asSl)=some (l.map (.int .i64)):=fun d xx y=>by rw [hA];rfl
    have hw:IntKind.i64.wrap ((pre.length:Int) + 1)=((pre ++ [Ins.mk op d xx y n l to]).length:Int):=by simp at hl ⊢;rw [wrap_i64]<;>omega
    have hL:∀ d' xx' y',LL f_s_l11Pack 4 lc_s_l11Pack_4 [] k_s_l11Pack_4 (((),O.map nt,(),(pre.length:Int),((pre.length:Nat):Int).toNat,0,()),(a,b,c,(),()),x2,(r0,r1,r2,(),()),B ++ (Ins.mk op d' xx' y' n l to).enc :: C,()) =
        some (.out 4 (((),O.map nt,(),(pre.length:Int),((pre.length:Nat):Int).toNat,(bif decide (op=8) then (l.length:Int) else 0),()),(a,b,c,(),()),x2,(r0,r1,r2,(),()),B ++ (Ins.mk op d' xx' y' n (bif decide (op=8) then l.map (atO O) else l) to).enc :: C,())):=by
      intro d' xx' y'
      by_cases h8:op=8
      · have:=spack_list O pre.length (pre.length:Int) a b c r0 r1 r2 x2 B C hBl op d' xx' y' n to h8 hO l [] (by simpa using hil) (by
          have:=hin.l h8
          exact this)
        simp only [List.map_nil,List.nil_append,List.length_nil,Int.cast_ofNat_Int] at this
        rw [decide_eq_true h8,cond_true,cond_true,hk]
        exact this
      · have:=spack_keep O pre.length (pre.length:Int) a b c r0 r1 r2 x2 B C hBl (.mk op d' xx' y' n l to) h8
        rw [decide_eq_false h8,cond_false,cond_false,hk]
        exact this
    have gd:(uses op).1=true→0 ≤ d∧d < (O.length:Int):=hin.d
    have gx:(uses op).2.1=true→0 ≤ xx∧xx < (O.length:Int):=hin.x
    have gy:(uses op).2.2.1=true→0 ≤ y∧y < (O.length:Int):=hin.y
    have hP1:∀ d xx y z,CVal.agg (splice (Ins.mk op d xx y n l to).enc.cells 1 [.int .i64 z])=(Ins.mk op z xx y n l to).enc:=fun _ _ _ _=>rfl
    have hP2:∀ d xx y z,CVal.agg (splice (Ins.mk op d xx y n l to).enc.cells 2 [.int .i64 z])=(Ins.mk op d z y n l to).enc:=fun _ _ _ _=>rfl
    have hP3:∀ d xx y z,CVal.agg (splice (Ins.mk op d xx y n l to).enc.cells 3 [.int .i64 z])=(Ins.mk op d xx z n l to).enc:=fun _ _ _ _=>rfl
    have nn:∀ z:Int,0 ≤ z→(decide (0 ≤ z) && true)=true:=fun z hz=>by simp [hz]
    have hU:=uses_law op
    have fin:∀ d' xx' y',Ins.mk op d' xx' y' n (bif decide (op=8) then l.map (atO O) else l) to=packI O (.mk op d xx y n l to)→
        LL f_s_l11Pack 2 lc_s_l11Pack_2 [] k_s_l11Pack_2 (((),O.map nt,(),IntKind.i64.wrap ((pre.length:Int) + 1),()),(a,b,c,(),()),x2,(r0,r1,r2,(),()),B ++ (Ins.mk op d' xx' y' n (bif decide (op=8) then l.map (atO O) else l) to).enc :: C,()) =
      some (.out 2 (((),O.map nt,(),((pre ++ Ins.mk op d xx y n l to :: suf).length:Int),()),(a,b,c,(),()),x2,(r0,r1,r2,(),()),(pre ++ Ins.mk op d xx y n l to :: suf).map (fun i=>(packI O i).enc),())):=by
      intro d' xx' y' he
      rw [he,hw,← hB,← hC]
      rw [← ih]
      simp
    have nd:∀ {R:Type} {v:Bool} {K:Bool→Option R} {z:Option R},K v=z→(CVal.asBool (.bool v)).bind K=z:=fun h=>h
    apply gl_s_l11Pack_2
    unfold nl_s_l11Pack_2
    rw [List.map_cons,hC]
    refine pT (by simp;omega) (pT (by simp) (pT (by simp;omega) (pB (hA _) (pB (a:=.int .i64 op) rfl (pB asInt_int (pB hU (pT rfl (pB rfl (pB rfl (pB rfl (pB rfl (nd ?_))))))))))))
    cases hu1:(uses op).1<;>cases hu2:(uses op).2.1<;>cases hu3:(uses op).2.2.1
    all_goals first
      | refine pF rfl ?_
      | (refine pT rfl (pB (hA _) (pB (a:=.int .i64 d) rfl (pB asInt_int (pT (nn _ (gd hu1).1) (pB (atO_get (gd hu1).1 (gd hu1).2) (pT rfl (pB (a:=.int .i64 (atO O d)) rfl (pT rfl (pB asInt_int (pB (hA _) (pT rfl ?_)))))))))))
         rw [hS,hP1])
    all_goals refine nd ?_
    all_goals first
      | refine pF rfl ?_
      | (refine pT rfl (pB (hA _) (pB (a:=.int .i64 xx) rfl (pB asInt_int (pT (nn _ (gx hu2).1) (pB (atO_get (gx hu2).1 (gx hu2).2) (pT rfl (pB (a:=.int .i64 (atO O xx)) rfl (pT rfl (pB asInt_int (pB (hA _) (pT rfl ?_)))))))))))
         rw [hS,hP2])
    all_goals refine nd ?_
    all_goals first
      | refine pF rfl ?_
      | (refine pT rfl (pB (hA _) (pB (a:=.int .i64 y) rfl (pB asInt_int (pT (nn _ (gy hu3).1) (pB (atO_get (gy hu3).1 (gy hu3).2) (pT rfl (pB (a:=.int .i64 (atO O y)) rfl (pT rfl (pB asInt_int (pB (hA _) (pT rfl ?_)))))))))))
         rw [hS,hP3])
    all_goals refine pB (hL _ _ _) ?_
    all_goals refine pO ?_
    all_goals refine pT rfl ?_
    all_goals exact fin _ _ _ (by unfold packI;simp only [Ins.op_mk,Ins.d_mk,Ins.x_mk,Ins.y_mk,Ins.n_mk,Ins.l_mk,Ins.to_mk,hu1,hu2,hu3,cond_true,cond_false];congr)
end Go.Proofs.Ytognghbhdalckaa.Abs

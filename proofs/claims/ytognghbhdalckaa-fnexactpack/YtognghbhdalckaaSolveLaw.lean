/- A part. -/
import Derived.Test.YtognghbhdalckaaWantI
import Derived.Test.YtognghbhdalckaaWantS
set_option linter.unusedVariables false
set_option linter.unusedSimpArgs false
set_option linter.unusedSectionVars false
set_option maxRecDepth 100000
namespace Go.Proofs.Ytognghbhdalckaa.Abs
open Go Go.Proofs
def eqFrom (g g':Nat→Bool):Nat→Nat→Bool
 |_,0=>true
 |r,d + 1=>(g r == g' r) && eqFrom g g' (r + 1) d
theorem eqFrom_iff {g g':Nat→Bool}:∀ {d r:Nat},eqFrom g g' r d=true↔∀ r',r ≤ r'→r' < r + d→g r'=g' r'
 |0,r=>by
  simp only [eqFrom,true_iff]
  intro r' h1 h2;omega
 |d + 1,r=>by
  simp only [eqFrom,Bool.and_eq_true,eqFrom_iff (d:=d) (r:=r + 1),beq_iff_eq]
  constructor
  ·rintro ⟨h1,h2⟩ r' h3 h4
   by_cases e:r'=r
   ·subst e;exact h1
   ·exact h2 r' (by omega) (by omega)
  ·intro h
   exact ⟨h r (by omega) (by omega),fun r' h1 h2=>h r' (by omega) (by omega)⟩
theorem Equal_loop (R:Nat) (hR:R ≤ 1048576) (g g':Nat→Bool):∀ (d r:Nat),r + d=R→
  LL f_slices_Equal_bool 0 lc_slices_Equal_bool_0 [] k_slices_Equal_bool_0 ((rowL R g,rowL R g',(R:Int),(r:Int),()),()) =
   some (bif eqFrom g g' r d then .out 0 ((rowL R g,rowL R g',(R:Int),(R:Int),()),()) else .ret (.bool false,[]))
 |0,r,h=>by
  have e:r=R:=by omega
  subst e
  apply gl_slices_Equal_bool_0
  unfold nl_slices_Equal_bool_0
  simp [eqFrom]
 |d + 1,r,h=>by
  have hr:r < R:=by omega
  have ih:=Equal_loop R hR g g' d (r + 1) (by omega)
  have hw:=wrap_succ (i:=r) (by omega)
  rw [show (((r + 1:Nat)):Int)=(r:Int) + 1 by omega] at ih
  have hlt:decide ((r:Int) < (R:Int))=true:=decide_eq_true (by omega)
  have tr:((r:Nat):Int).toNat=r:=by simp
  apply gl_slices_Equal_bool_0
  unfold nl_slices_Equal_bool_0
  simp only [hlt,br_true',ge0,tr,rowL_get hr,Option.bind_some,fits_bool,cell_bool,asBool_bool,hw,eqFrom]
  cases g r<;>cases g' r<;>first | exact ih | rfl
theorem Equal_law {R:Nat} (hR:R ≤ 1048576) (g g':Nat→Bool):CC f_slices_Equal_bool [.v (.sl (rowL R g)),.v (.sl (rowL R g'))] []=some (.bool (eqFrom g g' 0 R),[]):=by
 have hloop:=Equal_loop R hR g g' R 0 (by omega)
 simp only [Int.cast_ofNat_Int] at hloop
 apply go_slices_Equal_bool
 unfold nf_slices_Equal_bool
 simp only [rowL_len,decide_true,Bool.not_true,br_false',hloop]
 cases eqFrom g g' 0 R<;>rfl
def downF (p:Piece):Nat→(Nat→Nat→Bool)→Nat→Nat→Bool
 |0,f=>f
 |k + 1,f=>downF p k (nodeF p k f)
def Inv (p:Piece) (f:Nat→Nat→Bool):Prop:=∀ i,i < p.ins.length→∀ r,r < p.regs.toNat→f i r=true→wantB p f i r=true
section
variable {p:Piece} (F:Fit p)
include F
theorem Inv.node {f:Nat→Nat→Bool} (h:Inv p f) (k:Nat):Inv p (nodeF p k f):=by
 intro i hi r hr e
 refine wantB_mono F nodeF_le hr ?_
 unfold nodeF at e
 rw [Bool.or_eq_true,Bool.and_eq_true,decide_eq_true_eq] at e
 rcases e with e | ⟨rfl,e⟩
 ·exact h i hi r hr e
 ·exact e
theorem Inv.down {f:Nat→Nat→Bool} (h:Inv p f):∀ {k:Nat},Inv p (downF p k f):=by
 intro k
 induction k generalizing f with
 |zero=>exact h
 |succ k ih=>exact ih (Inv.node F h k)
theorem Inv.set {f:Nat→Nat→Bool} (h:Inv p f) {k:Nat} (hk:k < p.ins.length):em p.ins.length p.regs.toNat (fun i r=>if i=k then wantB p f k r else f i r)=em p.ins.length p.regs.toNat (nodeF p k f):=by
 refine em_congr fun i hi r hr=>?_
 unfold nodeF
 by_cases e:i=k
 ·subst e
  rw [if_pos rfl]
  have:=h i hi r hr
  cases hf:f i r with
  |false=>simp
  |true=>rw [this hf];simp
 ·rw [if_neg e];simp [e]
theorem Inv.same {f:Nat→Nat→Bool} {k:Nat} (e:eqFrom (wantB p f k) (f k) 0 p.regs.toNat=true):∀ i,i < p.ins.length→∀ r,r < p.regs.toNat→f i r=nodeF p k f i r:=by
 intro i hi r hr
 rw [eqFrom_iff] at e
 unfold nodeF
 by_cases e2:i=k
 ·subst e2
  rw [e r (Nat.zero_le _) (by omega)];simp
 ·simp [e2]
theorem Inv.more {f:Nat→Nat→Bool} (h:Inv p f) {k:Nat} (hk:k < p.ins.length) (e:eqFrom (wantB p f k) (f k) 0 p.regs.toNat=false):cnt p.ins.length p.regs.toNat f < cnt p.ins.length p.regs.toNat (nodeF p k f):=by
 have:∃ r,r < p.regs.toNat∧wantB p f k r ≠ f k r:=by
  apply Classical.byContradiction
  intro hc
  have:eqFrom (wantB p f k) (f k) 0 p.regs.toNat=true:=eqFrom_iff.2 fun r' _ h2=>by
   apply Classical.byContradiction
   intro hne
   exact hc ⟨r',by omega,hne⟩
  rw [e] at this;cases this
 obtain ⟨r,hr,hne⟩:=this
 have hk':=h k hk r hr
 refine cnt_lt nodeF_le hk hr (i:=k) (r:=r) ?_ ?_
 ·cases hf:f k r with
  |true=>simp [nodeF,hf]
  |false=>
   rw [hf] at hne
   have:wantB p f k r=true:=by cases h:wantB p f k r with | true=>rfl | false=>exact (hne h).elim
   simp [nodeF,this]
 ·cases hf:f k r with
  |false=>rfl
  |true=>rw [hk' hf,hf] at hne;exact (hne rfl).elim
theorem pred_wrap {k:Nat} (hk:k ≤ 1048576):IntKind.i64.wrap ((k:Int) - 1)=(k:Int) - 1:=by rw [wrap_i64]<;>omega
theorem sets_loop4 {c0:Nat}:∀ (k:Nat) (f:Nat→Nat→Bool),k ≤ p.ins.length→Inv p f→c0 ≤ cnt p.ins.length p.regs.toNat f→
  LL f_i_liveSets 4 lc_i_liveSets_4 [] k_i_liveSets_4 ((.fp p.enc 0,(),decide (c0 < cnt p.ins.length p.regs.toNat f),(k:Int) - 1,()),em p.ins.length p.regs.toNat f,()) =
   some (.out 4 ((.fp p.enc 0,(),decide (c0 < cnt p.ins.length p.regs.toNat (downF p k f)),-1,()),em p.ins.length p.regs.toNat (downF p k f),()))
 |0,f,hk,hI,hc=>by
  apply gl_i_liveSets_4
  unfold nl_i_liveSets_4
  rfl
 |k + 1,f,hk,hI,hc=>by
  have hn:=F.n
  have hR:=F.r
  have hkl:k < p.ins.length:=by omega
  have ih:=sets_loop4 (c0:=c0) k (nodeF p k f) (by omega) (Inv.node F hI k) (Nat.le_trans hc (cnt_mono nodeF_le))
  have e1:(((k + 1:Nat)):Int) - 1=(k:Int):=by omega
  have hw:=pred_wrap F (k:=k) (by omega)
  have hW:=wanted_law F f hkl
  have hE:=Equal_law (R:=p.regs.toNat) (by omega) (wantB p f k) (f k)
  have tk:((k:Nat):Int).toNat=k:=by simp
  rw [e1]
  apply gl_i_liveSets_4
  unfold nl_i_liveSets_4
  simp only [ge0',br_true',asFp_fp,Option.bind_some,Piece.enc_sub,hW,rowL_plain,Bool.not_true,br_false',isFlat_sl,asSl_sl,Bool.and_true,tk,em_len,decide_eq_true hkl,em_get hkl,cell_sl,hE,scalar_bool,asBool_bool,fits_sl,hw]
  cases he:eqFrom (wantB p f k) (f k) 0 p.regs.toNat with
  |true=>
   simp only [Bool.not_true,br_false']
   rw [em_congr (Inv.same F he),cnt_congr (Inv.same F he)]
   exact ih
  |false=>
   have hm:=Inv.more F hI hkl he
   simp only [Bool.not_false,br_true']
   rw [em_set,Inv.set F hI hkl]
   rw [decide_eq_true (show c0 < cnt p.ins.length p.regs.toNat (nodeF p k f) by omega)] at ih
   exact ih
theorem solve_loop2 {c0:Nat}:∀ (k:Nat) (f:Nat→Nat→Bool),k ≤ p.ins.length→c0 ≤ cnt p.ins.length p.regs.toNat f→
  LL f_s_l10Solve 2 lc_s_l10Solve_2 [] k_s_l10Solve_2 ((.fp p.enc 0,(),(k:Int) - 1,()),(p.lam,p.inn,p.regs,p.ins.map Ins.enc,(),decide (c0 < cnt p.ins.length p.regs.toNat f),()),em p.ins.length p.regs.toNat f,()) =
   some (.out 2 ((.fp p.enc 0,(),-1,()),(p.lam,p.inn,p.regs,p.ins.map Ins.enc,(),decide (c0 < cnt p.ins.length p.regs.toNat (downF p k f)),()),em p.ins.length p.regs.toNat (downF p k f),()))
 |0,f,hk,hc=>by
  apply gl_s_l10Solve_2
  unfold nl_s_l10Solve_2
  rfl
 |k + 1,f,hk,hc=>by
  have hn:=F.n
  have hkl:k < p.ins.length:=by omega
  have ih:=solve_loop2 (c0:=c0) k (nodeF p k f) (by omega) (Nat.le_trans hc (cnt_mono nodeF_le))
  have e1:(((k + 1:Nat)):Int) - 1=(k:Int):=by omega
  have hw:=pred_wrap F (k:=k) (by omega)
  have hN:=Node_law F hc hkl
  unfold boxP boxR at hN
  rw [e1]
  apply gl_s_l10Solve_2
  unfold nl_s_l10Solve_2
  simp only [ge0',br_true',hN,Option.bind_some,List.getElem?_cons_zero,List.getElem?_cons_succ,asSl_sl,asInt_int,asBool_bool,hw]
  exact ih
theorem solve_loops:∀ (m:Nat) (f:Nat→Nat→Bool),(cells p.ins.length p.regs.toNat).length ≤ m + cnt p.ins.length p.regs.toNat f→Inv p f→∃ G,
  LL f_i_liveSets 2 lc_i_liveSets_2 [] k_i_liveSets_2 ((.fp p.enc 0,(),true,()),em p.ins.length p.regs.toNat f,())=some (.out 2 ((.fp p.enc 0,(),false,()),em p.ins.length p.regs.toNat G,()))∧
  LL f_s_l10Solve 0 lc_s_l10Solve_0 [] k_s_l10Solve_0 ((.fp p.enc 0,(),()),(p.lam,p.inn,p.regs,p.ins.map Ins.enc,(),true,()),em p.ins.length p.regs.toNat f,())=some (.out 0 ((.fp p.enc 0,(),()),(p.lam,p.inn,p.regs,p.ins.map Ins.enc,(),false,()),em p.ins.length p.regs.toNat G,())):=by
 intro m
 induction m with
 |zero=>
  intro f hm hI
  refine ⟨downF p p.ins.length f,?_⟩
  have hmax:=cnt_max (n:=p.ins.length) (R:=p.regs.toNat) (f:=downF p p.ins.length f)
  have hn:=F.n
  have hw:=pred_wrap F (k:=p.ins.length) (by omega)
  have h4:=sets_loop4 F (c0:=cnt p.ins.length p.regs.toNat f) p.ins.length f (Nat.le_refl _) hI (Nat.le_refl _)
  have h2:=solve_loop2 F (c0:=cnt p.ins.length p.regs.toNat f) p.ins.length f (Nat.le_refl _) (Nat.le_refl _)
  have hd:decide (cnt p.ins.length p.regs.toNat f < cnt p.ins.length p.regs.toNat (downF p p.ins.length f))=false:=decide_eq_false (by omega)
  simp only [Nat.lt_irrefl,decide_false,hd] at h4 h2
  constructor
  ·apply gl_i_liveSets_2
   unfold nl_i_liveSets_2
   simp only [br_true',asFp_fp,Option.bind_some,Nat.zero_add,Piece.enc_cell3,asSl_sl,List.length_map,hw]
   rw [h4]
   simp only [Option.bind_some,loK_out,beq_self_eq_true,br_true']
   apply gl_i_liveSets_2
   unfold nl_i_liveSets_2
   rfl
  ·apply gl_s_l10Solve_0
   unfold nl_s_l10Solve_0
   simp only [br_true',asFp_fp,Option.bind_some,Nat.zero_add,Piece.enc_cell3,asSl_sl,List.length_map,hw]
   rw [h2]
   simp only [Option.bind_some,loK_out,beq_self_eq_true,br_true']
   apply gl_s_l10Solve_0
   unfold nl_s_l10Solve_0
   rfl
 |succ m ih=>
  intro f hm hI
  have hn:=F.n
  have hw:=pred_wrap F (k:=p.ins.length) (by omega)
  have h4:=sets_loop4 F (c0:=cnt p.ins.length p.regs.toNat f) p.ins.length f (Nat.le_refl _) hI (Nat.le_refl _)
  have h2:=solve_loop2 F (c0:=cnt p.ins.length p.regs.toNat f) p.ins.length f (Nat.le_refl _) (Nat.le_refl _)
  simp only [Nat.lt_irrefl,decide_false] at h4 h2
  by_cases hlt:cnt p.ins.length p.regs.toNat f < cnt p.ins.length p.regs.toNat (downF p p.ins.length f)
  ·obtain ⟨G,g1,g2⟩:=ih (downF p p.ins.length f) (by omega) (Inv.down F hI)
   rw [decide_eq_true hlt] at h4 h2
   refine ⟨G,?_,?_⟩
   ·apply gl_i_liveSets_2
    unfold nl_i_liveSets_2
    simp only [br_true',asFp_fp,Option.bind_some,Nat.zero_add,Piece.enc_cell3,asSl_sl,List.length_map,hw]
    rw [h4]
    simp only [Option.bind_some,loK_out,beq_self_eq_true,br_true']
    exact g1
   ·apply gl_s_l10Solve_0
    unfold nl_s_l10Solve_0
    simp only [br_true',asFp_fp,Option.bind_some,Nat.zero_add,Piece.enc_cell3,asSl_sl,List.length_map,hw]
    rw [h2]
    simp only [Option.bind_some,loK_out,beq_self_eq_true,br_true']
    exact g2
  ·rw [decide_eq_false hlt] at h4 h2
   refine ⟨downF p p.ins.length f,?_,?_⟩
   ·apply gl_i_liveSets_2
    unfold nl_i_liveSets_2
    simp only [br_true',asFp_fp,Option.bind_some,Nat.zero_add,Piece.enc_cell3,asSl_sl,List.length_map,hw]
    rw [h4]
    simp only [Option.bind_some,loK_out,beq_self_eq_true,br_true']
    apply gl_i_liveSets_2
    unfold nl_i_liveSets_2
    rfl
   ·apply gl_s_l10Solve_0
    unfold nl_s_l10Solve_0
    simp only [br_true',asFp_fp,Option.bind_some,Nat.zero_add,Piece.enc_cell3,asSl_sl,List.length_map,hw]
    rw [h2]
    simp only [Option.bind_some,loK_out,beq_self_eq_true,br_true']
    apply gl_s_l10Solve_0
    unfold nl_s_l10Solve_0
    rfl
theorem sets_loop0:∀ (d k:Nat),k + d=p.ins.length→
  LL f_i_liveSets 0 lc_i_liveSets_0 [] k_i_liveSets_0 ((.fp p.enc 0,(),(p.ins.length:Int),(k:Int),()),em k p.regs.toNat (fun _ _=>false),()) =
   some (.out 0 ((.fp p.enc 0,(),(p.ins.length:Int),(p.ins.length:Int),()),em p.ins.length p.regs.toNat (fun _ _=>false),()))
 |0,k,h=>by
  have e:k=p.ins.length:=by omega
  subst e
  apply gl_i_liveSets_0
  unfold nl_i_liveSets_0
  simp
 |d + 1,k,h=>by
  have ih:=sets_loop0 d (k + 1) (by omega)
  have hn:=F.n
  have hr:=F.r
  have hw:=wrap_succ (i:=k) (by omega)
  rw [show (((k + 1:Nat)):Int)=(k:Int) + 1 by omega] at ih
  have hlt:decide ((k:Int) < (p.ins.length:Int))=true:=decide_eq_true (by omega)
  have b1:(decide ((0:Int) ≤ p.regs) && decide True && decide (p.regs ≤ (1048576:Int)))=true:=by
   rw [decide_eq_true F.r0,decide_eq_true trivial,decide_eq_true (show p.regs ≤ 1048576 by omega)];rfl
  have b2:(decide ((em k p.regs.toNat fun _ _=>false).length + 1 ≤ 4294967296) && true && true)=true:=by
   rw [decide_eq_true (by rw [em_len];omega)];rfl
  have e3:em k p.regs.toNat (fun _ _=>false) ++ [.sl (List.replicate p.regs.toNat (CVal.bool false))]=em (k + 1) p.regs.toNat (fun _ _=>false):=by
   rw [rowL_false,em_snoc]
   exact em_congr fun i _ r _=>by split<;>rfl
  apply gl_i_liveSets_0
  unfold nl_i_liveSets_0
  simp only [asFp_fp,Option.bind_some,Nat.zero_add,Piece.enc_cell2,hlt,br_true',asIdx_int]
  rw [b1]
  simp only [br_true',b2,hw,e3]
  exact ih
theorem solve_law:∃ G,CC f_i_liveSets [.v p.enc] []=some (.sl (em p.ins.length p.regs.toNat G),[])∧
  CC f_s_l10Solve [.v p.enc] []=some (.fp (.agg [.int .i64 p.lam,.int .i64 p.inn,.int .i64 p.regs,.sl (p.ins.map Ins.enc),.sl (em p.ins.length p.regs.toNat G),.bool false]) 0,[]):=by
 obtain ⟨G,g1,g2⟩:=solve_loops F (cells p.ins.length p.regs.toNat).length (fun _ _=>false) (by omega) (fun _ _ _ _ h=>by cases h)
 refine ⟨G,?_,?_⟩
 ·have hloop:=sets_loop0 F p.ins.length 0 (by omega)
  simp only [Int.cast_ofNat_Int] at hloop
  have e0:em 0 p.regs.toNat (fun _ _=>false)=[]:=rfl
  rw [e0] at hloop
  rw [Piece.enc_def]
  apply go_i_liveSets
  unfold nf_i_liveSets
  simp only [Piece.enc_eta,List.length_map]
  rw [hloop]
  simp only [Option.bind_some,loK_out,beq_self_eq_true,br_true']
  rw [g1]
  rfl
 ·have hN:=New_law F
  have a6:∀ a b c d e g:CVal,CVal.isAggN 6 (.agg [a,b,c,d,e,g])=true:=fun _ _ _ _ _ _=>rfl
  rw [Piece.enc_def]
  apply go_s_l10Solve
  unfold nf_s_l10Solve
  simp only [Piece.enc_eta,hN,Option.bind_some,asFp_fp,decide_true,Bool.true_and,a6,br_true',cell_agg,List.getElem?_cons_zero,List.getElem?_cons_succ,asSl_sl,asInt_int]
  rw [g2]
  rfl
end
end Go.Proofs.Ytognghbhdalckaa.Abs

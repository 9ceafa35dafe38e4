/- A part. -/
import Derived.Test.YtognghbhdalckaaClashI
import Derived.Test.YtognghbhdalckaaSolveLaw
set_option linter.unusedVariables false
set_option linter.unusedSimpArgs false
set_option linter.unusedSectionVars false
set_option maxRecDepth 100000
namespace Go.Proofs.Ytognghbhdalckaa.Abs
open Go Go.Proofs
def clI (G:Nat→Nat→Bool) (i:Nat) (x:Ins):Nat→Nat→Bool:=fun a b=>
 (G i a && G i b) || ((decide (0 ≤ x.wr) && (decide (a=x.wr.toNat) && behG G i x b)) || (decide (x.op=17) && (decide (a=x.d.toNat) && G x.to.toNat b)))
def clAll (G:Nat→Nat→Bool):Nat→List Ins→(Nat→Nat→Bool)→Nat→Nat→Bool
 |_,[],T=>T
 |i,x :: r,T=>clAll G (i + 1) r (addP T (clI G i x))
theorem memB_things {g:Nat→Bool} {R r:Nat} (h:r < R):memB (thingsFrom g 0 R) r=g r:=by
 rw [Bool.eq_iff_iff]
 unfold memB
 rw [List.any_eq_true]
 constructor
 ·rintro ⟨k,hk,e⟩
  obtain ⟨m,h1,_,h3,h4⟩:=things_mem.1 hk
  rw [decide_eq_true_eq] at e
  have:m=r:=by omega
  rw [← this];exact h4
 ·intro e
  exact ⟨(r:Int),things_mem.2 ⟨r,rfl,Nat.zero_le _,by omega,e⟩,by simp⟩
theorem things_rng {g:Nat→Bool} {R:Nat}:∀ k ∈ thingsFrom g 0 R,0 ≤ k∧k.toNat < R:=by
 intro k hk
 obtain ⟨m,h1,_,h3,_⟩:=things_mem.1 hk
 omega
theorem wr_try {x:Ins} (h:x.op=17):x.wr = -1:=by simp [Ins.wr,h]
theorem Fit.wr {p:Piece} (F:Fit p) {x:Ins} (hx:x ∈ p.ins) (h:0 ≤ x.wr):x.wr.toNat < p.regs.toNat:=by
 unfold Ins.wr at h ⊢
 split
 ·rename_i hc
  simp only [Bool.and_eq_true] at hc
  have:=F.d hx hc.1
  omega
 ·rename_i hc
  rw [if_neg hc] at h;omega
section
variable {p:Piece} (F:Fit p) (G:Nat→Nat→Bool)
include F
theorem c_loop2:∀ (suf pre:List Ins) (T:Nat→Nat→Bool),p.ins=pre ++ suf→
  LL f_i_clashes 2 lc_i_clashes_2 [] k_i_clashes_2 ((.fp p.enc 0,(),(),em p.ins.length p.regs.toNat G,p.ins.map Ins.enc,(p.ins.length:Int),(pre.length:Int),()),((),()),em p.regs.toNat p.regs.toNat T,()) =
   some (.out 2 ((.fp p.enc 0,(),(),em p.ins.length p.regs.toNat G,p.ins.map Ins.enc,(p.ins.length:Int),(p.ins.length:Int),()),((),()),em p.regs.toNat p.regs.toNat (clAll G pre.length suf T),()))
 |[],pre,T,he=>by
  have e:pre.length=p.ins.length:=by rw [he];simp
  rw [e]
  apply gl_i_clashes_2
  unfold nl_i_clashes_2
  simp [clAll]
 |x :: suf,pre,T,he=>by
  have ih:=c_loop2 suf (pre ++ [x]) (addP T (clI G pre.length x)) (by simpa using he)
  have hi:pre.length < p.ins.length:=by rw [he];simp
  have hx:p.ins[pre.length]? = some x:=by rw [he];simp
  have hn:=F.n
  have hR:=F.r
  have hr0:=F.r0
  rw [List.length_append,List.length_singleton,show (((pre.length + 1:Nat)):Int)=(pre.length:Int) + 1 by omega] at ih
  have hlt:decide ((pre.length:Int) < (p.ins.length:Int))=true:=decide_eq_true (by omega)
  have hw:=wrap_succ (i:=pre.length) (by omega)
  have tp:((pre.length:Nat):Int).toNat=pre.length:=by simp
  have hth:=things_law (R:=p.regs.toNat) (by omega) (G pre.length)
  have hlen:∀ g:Nat→Bool,(thingsFrom g 0 p.regs.toNat).length ≤ 1048576:=fun g=>by have:=things_len (g:=g) (d:=p.regs.toNat) (r:=0);omega
  have h4:=c_loop4 F G (pre.length:Int) (pre.length:Int) x (thingsFrom (G pre.length) 0 p.regs.toNat) things_rng (thingsFrom (G pre.length) 0 p.regs.toNat) [] T rfl (hlen _)
  simp only [List.length_nil,Int.cast_ofNat_Int] at h4
  have fin:∀ c:Nat→Nat→Bool,(∀ a,a < p.regs.toNat→∀ b,b < p.regs.toNat→c a b=clI G pre.length x a b)→em p.regs.toNat p.regs.toNat (addP T c)=em p.regs.toNat p.regs.toNat (addP T (clI G pre.length x)):=
   fun c hc=>addP_congr fun a ha b hb _=>by rw [hc a ha b hb,hc b hb a ha]
  apply gl_i_clashes_2
  unfold nl_i_clashes_2
  rw [hlt,nn_mid,ins_get hx]
  simp only [br_true',Option.bind_some,Ins.enc_fits,Ins.enc_sub,Ins.enc_isAggN,Ins.enc_cell0,Ins.enc_cell1,Ins.enc_cell2,Ins.enc_cell3,Ins.enc_cell4,Ins.enc_cell5,Ins.enc_cell6,tp,em_get hi,fits_sl,cell_sl,hth,ei_asSl,asInt_int,asSl_sl,List.length_map]
  rw [h4]
  simp only [Option.bind_some,loK_out,beq_self_eq_true,br_true',Ins.enc_eta,Writes_i,asInt_int]
  by_cases hwr:0 ≤ x.wr
  ·have hne:¬ x.op=17:=fun h=>by rw [wr_try h] at hwr;omega
   have hB:=behind_law F G hx
   have h8:=c_loop8 F G (pre.length:Int) x ⟨hwr,F.wr (ins_mem hx) hwr⟩ (thingsFrom (behG G pre.length x) 0 p.regs.toNat) [] (addP T (listC (thingsFrom (G pre.length) 0 p.regs.toNat) (thingsFrom (G pre.length) 0 p.regs.toNat))) (by simpa using hlen _) things_rng
   simp only [List.nil_append,List.length_nil,Int.cast_ofNat_Int] at h8
   have e:=fin (fun a b=>listC (thingsFrom (G pre.length) 0 p.regs.toNat) (thingsFrom (G pre.length) 0 p.regs.toNat) a b || withC x.wr.toNat (thingsFrom (behG G pre.length x) 0 p.regs.toNat) a b) (fun a ha b hb=>by
    unfold listC withC clI
    rw [memB_things ha,memB_things hb,memB_things hb,decide_eq_true hwr,decide_eq_false hne]
    simp)
   rw [← addP_addP] at e
   simp only [decide_eq_true hwr,br_true',asFp_fp,Option.bind_some,Piece.enc_sub,hB,ei_asSl,asInt_int,List.length_map]
   rw [h8]
   simp only [Option.bind_some,loK_out,beq_self_eq_true,br_true',decide_eq_false hne,br_false',hw]
   rw [e]
   exact ih
  ·simp only [decide_eq_false hwr,br_false']
   by_cases h17:x.op=17
   ·have hto:=F.to (ins_mem hx) (by rw [h17];rfl)
    have hd:=F.d (ins_mem hx) (by rw [h17];rfl)
    have hth2:=things_law (R:=p.regs.toNat) (by omega) (G x.to.toNat)
    have h10:=c_loop10 F G (pre.length:Int) x ⟨hd.1,by omega⟩ (thingsFrom (G x.to.toNat) 0 p.regs.toNat) [] (addP T (listC (thingsFrom (G pre.length) 0 p.regs.toNat) (thingsFrom (G pre.length) 0 p.regs.toNat))) (by simpa using hlen _) things_rng
    simp only [List.nil_append,List.length_nil,Int.cast_ofNat_Int] at h10
    have e:=fin (fun a b=>listC (thingsFrom (G pre.length) 0 p.regs.toNat) (thingsFrom (G pre.length) 0 p.regs.toNat) a b || withC x.d.toNat (thingsFrom (G x.to.toNat) 0 p.regs.toNat) a b) (fun a ha b hb=>by
     unfold listC withC clI
     rw [memB_things ha,memB_things hb,memB_things hb,decide_eq_false hwr,decide_eq_true h17]
     simp)
    rw [← addP_addP] at e
    simp only [decide_eq_true h17,br_true',decide_eq_true hto.1,Bool.and_true,em_get (show x.to.toNat < p.ins.length by omega),Option.bind_some,fits_sl,cell_sl,hth2,ei_asSl,List.length_map]
    rw [h10]
    simp only [Option.bind_some,loK_out,beq_self_eq_true,br_true',hw]
    rw [e]
    exact ih
   ·have e:=fin (listC (thingsFrom (G pre.length) 0 p.regs.toNat) (thingsFrom (G pre.length) 0 p.regs.toNat)) (fun a ha b hb=>by
     unfold listC clI
     rw [memB_things ha,memB_things hb,decide_eq_false hwr,decide_eq_false h17]
     simp)
    simp only [decide_eq_false h17,br_false',hw]
    rw [e]
    exact ih
theorem c_loop0:∀ (d k:Nat),k + d=p.regs.toNat→
  LL f_i_clashes 0 lc_i_clashes_0 [] k_i_clashes_0 ((.fp p.enc 0,(),p.regs,(k:Int),()),((),()),em k p.regs.toNat (fun _ _=>false),()) =
   some (.out 0 ((.fp p.enc 0,(),p.regs,p.regs,()),((),()),em p.regs.toNat p.regs.toNat (fun _ _=>false),()))
 |0,k,h=>by
  have hr0:=F.r0
  have e:k=p.regs.toNat:=by omega
  have e2:(k:Int)=p.regs:=by omega
  rw [e2,e]
  apply gl_i_clashes_0
  unfold nl_i_clashes_0
  simp
 |d + 1,k,h=>by
  have ih:=c_loop0 d (k + 1) (by omega)
  have hr:=F.r
  have hw:=wrap_succ (i:=k) (by omega)
  rw [show (((k + 1:Nat)):Int)=(k:Int) + 1 by omega] at ih
  have hlt:decide ((k:Int) < p.regs)=true:=decide_eq_true (by omega)
  have b1:(decide ((0:Int) ≤ p.regs) && decide True && decide (p.regs ≤ (1048576:Int)))=true:=by
   rw [decide_eq_true F.r0,decide_eq_true trivial,decide_eq_true (show p.regs ≤ 1048576 by omega)];rfl
  have b2:(decide ((em k p.regs.toNat fun _ _=>false).length + 1 ≤ 4294967296) && true && true)=true:=by
   rw [decide_eq_true (by rw [em_len];omega)];rfl
  have e3:em k p.regs.toNat (fun _ _=>false) ++ [.sl (List.replicate p.regs.toNat (CVal.bool false))]=em (k + 1) p.regs.toNat (fun _ _=>false):=by
   rw [rowL_false,em_snoc]
   exact em_congr fun i _ r _=>by split<;>rfl
  apply gl_i_clashes_0
  unfold nl_i_clashes_0
  simp only [asFp_fp,Option.bind_some,Nat.zero_add,Piece.enc_cell2,hlt,br_true',asIdx_int]
  rw [b1]
  simp only [br_true',b2,hw,e3]
  exact ih
def clashT (p:Piece) (G:Nat→Nat→Bool):Nat→Nat→Bool:=addP (clAll G 0 p.ins fun _ _=>false) fun x y=>decide (0 ≤ x) && (decide (x < p.inn.toNat) && decide (y < p.inn.toNat))
theorem clashes_law (hG:CC f_i_liveSets [.v p.enc] []=some (.sl (em p.ins.length p.regs.toNat G),[])):CC f_i_clashes [.v p.enc] []=some (.sl (em p.regs.toNat p.regs.toNat (clashT p G)),[]):=by
 have h0:=c_loop0 F p.regs.toNat 0 (by omega)
 have h2:=c_loop2 F G p.ins [] (fun _ _=>false) rfl
 have h12:=c_loop12 F p.inn.toNat 0 (clAll G 0 p.ins fun _ _=>false) (by omega)
 simp only [List.length_nil,Int.cast_ofNat_Int] at h0 h2 h12
 have e0:em 0 p.regs.toNat (fun _ _=>false)=[]:=rfl
 rw [e0] at h0
 rw [Piece.enc_def]
 apply go_i_clashes
 unfold nf_i_clashes
 simp only [Piece.enc_eta]
 rw [h0]
 simp only [Option.bind_some,loK_out,beq_self_eq_true,br_true',asFp_fp,Piece.enc_sub,hG,Nat.zero_add,Piece.enc_cell3,asSl_sl,List.length_map]
 rw [h2]
 simp only [Option.bind_some,loK_out,beq_self_eq_true,br_true',asFp_fp,Nat.zero_add,Piece.enc_cell1,asInt_int]
 rw [h12]
 rfl
end
end Go.Proofs.Ytognghbhdalckaa.Abs

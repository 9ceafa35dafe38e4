/- A part. -/
import Derived.Test.YtognghbhdalckaaClashI2
set_option linter.unusedVariables false
set_option linter.unusedSimpArgs false
set_option linter.unusedSectionVars false
set_option maxRecDepth 100000
namespace Go.Proofs.Ytognghbhdalckaa.Abs
open Go Go.Proofs
theorem All_loop2 {R:Nat} (hR:R ≤ 1048576) (g:Nat→Bool) {a:Nat} (ha:a < R):∀ (d b:Nat) (T:Nat→Nat→Bool),b + d=a→
  ∃ q,LL f_s_l11All 2 lc_s_l11All_2 [PSh.arr ⟨true,true,0⟩ false 1] k_s_l11All_2 (((),rowL R g,(a:Int),(b:Int),()),em R R T,()) =
   some (.out 2 (((),rowL R g,(a:Int),q,()),em R R (addP T fun x y=>decide (x=a) && ((decide (b ≤ y) && decide (y < a)) && (g a && g y))),()))
 |0,b,T,h=>by
  have e:b=a:=by omega
  subst e
  have e2:addP T (fun x y=>decide (x=b) && ((decide (b ≤ y) && decide (y < b)) && (g b && g y)))=T:=by
   rw [show (fun x y=>decide (x=b) && ((decide (b ≤ y) && decide (y < b)) && (g b && g y)))=fun _ _=>false from ?_,addP_none]
   funext x y
   by_cases hy:b ≤ y
   ·rw [decide_eq_false (show ¬ y < b by omega)];simp
   ·simp [hy]
  rw [e2]
  refine ⟨(b:Int),?_⟩
  apply gl_s_l11All_2
  unfold nl_s_l11All_2
  simp
 |d + 1,b,T,h=>by
  have hb:b < a:=by omega
  have hw:=wrap_succ (i:=b) (by omega)
  have hlt:decide ((b:Int) < (a:Int))=true:=decide_eq_true (by omega)
  have ta:((a:Nat):Int).toNat=a:=by simp
  have tb:((b:Nat):Int).toNat=b:=by simp
  cases hga:g a with
  |false=>
   have e2:addP T (fun x y=>decide (x=a) && ((decide (b ≤ y) && decide (y < a)) && (false && g y)))=T:=by
    rw [show (fun x y=>decide (x=a) && ((decide (b ≤ y) && decide (y < a)) && (false && g y)))=fun _ _=>false from ?_,addP_none]
    funext x y;simp
   rw [e2]
   refine ⟨(b:Int),?_⟩
   apply gl_s_l11All_2
   unfold nl_s_l11All_2
   simp only [hlt,br_true',ge0,ta,rowL_get ha,Option.bind_some,fits_bool,cell_bool,asBool_bool,hga,br_false']
  |true=>
   cases hgb:g b with
   |true=>
    obtain ⟨q,ih⟩:=All_loop2 hR g ha d (b + 1) (addP T (pairC a b)) (by omega)
    have e3:addP (addP T (pairC a b)) (fun x y=>decide (x=a) && ((decide (b + 1 ≤ y) && decide (y < a)) && (g a && g y)))=addP T (fun x y=>decide (x=a) && ((decide (b ≤ y) && decide (y < a)) && (true && g y))):=by
     rw [addP_addP,hga]
     refine addP_fun fun x y _=>?_
     have s:∀ x y:Nat,(pairC a b x y || decide (x=a) && ((decide (b + 1 ≤ y) && decide (y < a)) && (true && g y)))=(decide (x=a) && ((decide (b ≤ y) && decide (y < a)) && (true && g y))):=by
      intro x y
      unfold pairC
      by_cases e:y=b
      ·subst e;cases decide (x=a)<;>simp [hb,hgb]
      ·have:decide (b ≤ y)=decide (b + 1 ≤ y):=by rw [decide_eq_decide];omega
       simp [e,this]
     simp only [s]
    rw [e3,show (((b + 1:Nat)):Int)=(b:Int) + 1 by omega] at ih
    have hP:=Pair_law (R:=R) (T:=T) (a:=(a:Int)) (b:=(b:Int)) ⟨by omega,by omega⟩ ⟨by omega,by omega⟩
    rw [ta,tb] at hP
    refine ⟨q,?_⟩
    apply gl_s_l11All_2
    unfold nl_s_l11All_2
    simp only [hlt,br_true',ge0,ta,tb,rowL_get ha,rowL_get (show b < R by omega),Option.bind_some,fits_bool,cell_bool,asBool_bool,hga,hgb,hP,List.getElem?_cons_zero,hw]
    exact ih
   |false=>
    obtain ⟨q,ih⟩:=All_loop2 hR g ha d (b + 1) T (by omega)
    have e3:addP T (fun x y=>decide (x=a) && ((decide (b + 1 ≤ y) && decide (y < a)) && (g a && g y)))=addP T (fun x y=>decide (x=a) && ((decide (b ≤ y) && decide (y < a)) && (true && g y))):=by
     rw [hga]
     refine addP_fun fun x y _=>?_
     have s:∀ x y:Nat,(decide (x=a) && ((decide (b + 1 ≤ y) && decide (y < a)) && (true && g y)))=(decide (x=a) && ((decide (b ≤ y) && decide (y < a)) && (true && g y))):=by
      intro x y
      by_cases e:y=b
      ·subst e;simp [hgb]
      ·have:decide (b ≤ y)=decide (b + 1 ≤ y):=by rw [decide_eq_decide];omega
       rw [this]
     simp only [s]
    rw [e3,show (((b + 1:Nat)):Int)=(b:Int) + 1 by omega] at ih
    refine ⟨q,?_⟩
    apply gl_s_l11All_2
    unfold nl_s_l11All_2
    simp only [hlt,br_true',br_false',ge0,ta,tb,rowL_get ha,rowL_get (show b < R by omega),Option.bind_some,fits_bool,cell_bool,asBool_bool,hga,hgb,hw]
    exact ih
theorem All_loop0 {R:Nat} (hR:R ≤ 1048576) (g:Nat→Bool):∀ (d a:Nat) (T:Nat→Nat→Bool),a + d=R→
  LL f_s_l11All 0 lc_s_l11All_0 [PSh.arr ⟨true,true,0⟩ false 1] k_s_l11All_0 (((),rowL R g,(a:Int),()),em R R T,()) =
   some (.out 0 (((),rowL R g,(R:Int),()),em R R (addP T fun x y=>(decide (a ≤ x) && decide (x < R)) && (decide (y < x) && (g x && g y))),()))
 |0,a,T,h=>by
  have e:a=R:=by omega
  subst e
  have e2:addP T (fun x y=>(decide (a ≤ x) && decide (x < a)) && (decide (y < x) && (g x && g y)))=T:=by
   rw [show (fun x y=>(decide (a ≤ x) && decide (x < a)) && (decide (y < x) && (g x && g y)))=fun _ _=>false from ?_,addP_none]
   funext x y
   by_cases hy:a ≤ x
   ·rw [decide_eq_false (show ¬ x < a by omega)];simp
   ·simp [hy]
  rw [e2]
  apply gl_s_l11All_0
  unfold nl_s_l11All_0
  simp
 |d + 1,a,T,h=>by
  have ha:a < R:=by omega
  obtain ⟨q,h2⟩:=All_loop2 hR g ha a 0 T (by omega)
  simp only [Int.cast_ofNat_Int] at h2
  have ih:=All_loop0 hR g d (a + 1) (addP T fun x y=>decide (x=a) && ((decide (0 ≤ y) && decide (y < a)) && (g a && g y))) (by omega)
  have e3:addP (addP T fun x y=>decide (x=a) && ((decide (0 ≤ y) && decide (y < a)) && (g a && g y))) (fun x y=>(decide (a + 1 ≤ x) && decide (x < R)) && (decide (y < x) && (g x && g y)))=addP T (fun x y=>(decide (a ≤ x) && decide (x < R)) && (decide (y < x) && (g x && g y))):=by
   rw [addP_addP]
   refine addP_fun fun x y _=>?_
   have s:∀ x y:Nat,((decide (x=a) && ((decide (0 ≤ y) && decide (y < a)) && (g a && g y))) || (decide (a + 1 ≤ x) && decide (x < R)) && (decide (y < x) && (g x && g y)))=((decide (a ≤ x) && decide (x < R)) && (decide (y < x) && (g x && g y))):=by
    intro x y
    by_cases e:x=a
    ·subst e;simp [ha]
    ·have:decide (a ≤ x)=decide (a + 1 ≤ x):=by rw [decide_eq_decide];omega
     simp [e,this]
   simp only [s]
  rw [e3,show (((a + 1:Nat)):Int)=(a:Int) + 1 by omega] at ih
  have hw:=wrap_succ (i:=a) (by omega)
  have hlt:decide ((a:Int) < (((rowL R g).length:Nat):Int))=true:=decide_eq_true (by rw [rowL_len];omega)
  apply gl_s_l11All_0
  unfold nl_s_l11All_0
  rw [hlt,h2]
  simp only [br_true',Option.bind_some,loK_out,beq_self_eq_true,hw]
  exact ih
theorem All_law {R:Nat} (hR:R ≤ 1048576) (g:Nat→Bool) (T:Nat→Nat→Bool):CC f_s_l11All [.lref 0 0,.v (.sl (rowL R g))] [PB.arr ⟨true,true,0⟩ false 1 (em R R T)] =
  some (.tup [],[em R R (addP T fun x y=>decide (y < x) && (g x && g y))]):=by
 have h0:=All_loop0 hR g R 0 T (by omega)
 simp only [Int.cast_ofNat_Int] at h0
 have e:em R R (addP T fun x y=>(decide (0 ≤ x) && decide (x < R)) && (decide (y < x) && (g x && g y)))=em R R (addP T fun x y=>decide (y < x) && (g x && g y)):=
  addP_congr fun x hx y hy _=>by simp [hx,hy]
 rw [e] at h0
 apply go_s_l11All
 unfold nf_s_l11All
 rw [h0]
 rfl
section
variable {p:Piece} (F:Fit p) (G:Nat→Nat→Bool)
include F
theorem t_loop0:∀ (d k:Nat),k + d=p.regs.toNat→
  LL f_s_l11Table 0 lc_s_l11Table_0 [] k_s_l11Table_0 ((.fp p.enc 0,em p.ins.length p.regs.toNat G,(),(k:Int),()),em k p.regs.toNat (fun _ _=>false),()) =
   some (.out 0 ((.fp p.enc 0,em p.ins.length p.regs.toNat G,(),p.regs,()),em p.regs.toNat p.regs.toNat (fun _ _=>false),()))
 |0,k,h=>by
  have hr0:=F.r0
  have e:k=p.regs.toNat:=by omega
  have e2:(k:Int)=p.regs:=by omega
  rw [e2,e]
  apply gl_s_l11Table_0
  unfold nl_s_l11Table_0
  simp
 |d + 1,k,h=>by
  have ih:=t_loop0 d (k + 1) (by omega)
  have hr:=F.r
  have hw:=wrap_succ (i:=k) (by omega)
  rw [show (((k + 1:Nat)):Int)=(k:Int) + 1 by omega] at ih
  have hlt:decide ((k:Int) < p.regs)=true:=decide_eq_true (by omega)
  have b1:(decide ((0:Int) ≤ p.regs) && decide True && decide (p.regs ≤ (1048576:Int)))=true:=by
   rw [decide_eq_true F.r0,decide_eq_true trivial,decide_eq_true (show p.regs ≤ 1048576 by omega)];rfl
  have b2:(decide ((em k p.regs.toNat fun _ _=>false).length + 1 ≤ 4294967296) && true && true)=true:=by
   rw [decide_eq_true (by rw [em_len];omega)];rfl
  have e3:em k p.regs.toNat (fun _ _=>false) ++ [.sl (List.replicate p.regs.toNat (CVal.bool false))]=em (k + 1) p.regs.toNat (fun _ _=>false):=by
   rw [rowL_false,em_snoc]
   exact em_congr fun i _ r _=>by split<;>rfl
  apply gl_s_l11Table_0
  unfold nl_s_l11Table_0
  simp only [asFp_fp,Option.bind_some,Nat.zero_add,Piece.enc_cell2,asInt_int,hlt,br_true',asIdx_int]
  rw [b1]
  simp only [br_true',b2,hw,e3]
  exact ih
theorem t_loop4 {a:Nat} (ha:a < p.regs.toNat):∀ (d b:Nat) (T:Nat→Nat→Bool),b + d=a→
  LL f_s_l11Table 4 lc_s_l11Table_4 [] k_s_l11Table_4 ((.fp p.enc 0,em p.ins.length p.regs.toNat G,(),(a:Int),(b:Int),()),em p.regs.toNat p.regs.toNat T,()) =
   some (.out 4 ((.fp p.enc 0,em p.ins.length p.regs.toNat G,(),(a:Int),(a:Int),()),em p.regs.toNat p.regs.toNat (addP T fun x y=>decide (x=a) && (decide (b ≤ y) && decide (y < a))),()))
 |0,b,T,h=>by
  have e:b=a:=by omega
  subst e
  have e2:addP T (fun x y=>decide (x=b) && (decide (b ≤ y) && decide (y < b)))=T:=by
   rw [show (fun x y=>decide (x=b) && (decide (b ≤ y) && decide (y < b)))=fun _ _=>false from ?_,addP_none]
   funext x y
   by_cases hy:b ≤ y
   ·rw [decide_eq_false (show ¬ y < b by omega)];simp
   ·simp [hy]
  rw [e2]
  apply gl_s_l11Table_4
  unfold nl_s_l11Table_4
  simp
 |d + 1,b,T,h=>by
  have hR:=F.r
  have hb:b < a:=by omega
  have hw:=wrap_succ (i:=b) (by omega)
  have hlt:decide ((b:Int) < (a:Int))=true:=decide_eq_true (by omega)
  have ta:((a:Nat):Int).toNat=a:=by simp
  have tb:((b:Nat):Int).toNat=b:=by simp
  have ih:=t_loop4 ha d (b + 1) (addP T (pairC a b)) (by omega)
  have e3:addP (addP T (pairC a b)) (fun x y=>decide (x=a) && (decide (b + 1 ≤ y) && decide (y < a)))=addP T (fun x y=>decide (x=a) && (decide (b ≤ y) && decide (y < a))):=by
   rw [addP_addP]
   refine addP_fun fun x y _=>?_
   have s:∀ x y:Nat,(pairC a b x y || decide (x=a) && (decide (b + 1 ≤ y) && decide (y < a)))=(decide (x=a) && (decide (b ≤ y) && decide (y < a))):=by
    intro x y
    unfold pairC
    by_cases e:y=b
    ·subst e;cases decide (x=a)<;>simp [hb]
    ·have:decide (b ≤ y)=decide (b + 1 ≤ y):=by rw [decide_eq_decide];omega
     simp [e,this]
   simp only [s]
  rw [e3,show (((b + 1:Nat)):Int)=(b:Int) + 1 by omega] at ih
  have hP:=Pair_law (R:=p.regs.toNat) (T:=T) (a:=(a:Int)) (b:=(b:Int)) ⟨by omega,by omega⟩ ⟨by omega,by omega⟩
  rw [ta,tb] at hP
  apply gl_s_l11Table_4
  unfold nl_s_l11Table_4
  simp only [hlt,br_true',hP,Option.bind_some,List.getElem?_cons_zero,hw]
  exact ih
theorem t_loop2:∀ (d a:Nat) (T:Nat→Nat→Bool),a + d=p.inn.toNat→
  LL f_s_l11Table 2 lc_s_l11Table_2 [] k_s_l11Table_2 ((.fp p.enc 0,em p.ins.length p.regs.toNat G,(),(a:Int),()),em p.regs.toNat p.regs.toNat T,()) =
   some (.out 2 ((.fp p.enc 0,em p.ins.length p.regs.toNat G,(),p.inn,()),em p.regs.toNat p.regs.toNat (addP T fun x y=>(decide (a ≤ x) && decide (x < p.inn.toNat)) && decide (y < x)),()))
 |0,a,T,h=>by
  have e:(a:Int)=p.inn:=by have:=F.i0;omega
  have e2:addP T (fun x y=>(decide (a ≤ x) && decide (x < p.inn.toNat)) && decide (y < x))=T:=by
   rw [show (fun x y=>(decide (a ≤ x) && decide (x < p.inn.toNat)) && decide (y < x))=fun _ _=>false from ?_,addP_none]
   funext x y
   by_cases hy:a ≤ x
   ·rw [decide_eq_false (show ¬ x < p.inn.toNat by omega)];simp
   ·simp [hy]
  rw [e2,e]
  apply gl_s_l11Table_2
  unfold nl_s_l11Table_2
  simp
 |d + 1,a,T,h=>by
  have hi:=F.i0
  have hi1:=F.i1
  have hR:=F.r
  have hal:a < p.inn.toNat:=by omega
  have h4:=t_loop4 F G (a:=a) (by omega) a 0 T (by omega)
  simp only [Int.cast_ofNat_Int] at h4
  have ih:=t_loop2 d (a + 1) (addP T fun x y=>decide (x=a) && (decide (0 ≤ y) && decide (y < a))) (by omega)
  have e3:addP (addP T fun x y=>decide (x=a) && (decide (0 ≤ y) && decide (y < a))) (fun x y=>(decide (a + 1 ≤ x) && decide (x < p.inn.toNat)) && decide (y < x))=addP T (fun x y=>(decide (a ≤ x) && decide (x < p.inn.toNat)) && decide (y < x)):=by
   rw [addP_addP]
   refine addP_fun fun x y _=>?_
   have s:∀ x y:Nat,((decide (x=a) && (decide (0 ≤ y) && decide (y < a))) || (decide (a + 1 ≤ x) && decide (x < p.inn.toNat)) && decide (y < x))=((decide (a ≤ x) && decide (x < p.inn.toNat)) && decide (y < x)):=by
    intro x y
    by_cases e:x=a
    ·subst e;simp [hal]
    ·have:decide (a ≤ x)=decide (a + 1 ≤ x):=by rw [decide_eq_decide];omega
     simp [e,this]
   simp only [s]
  rw [e3,show (((a + 1:Nat)):Int)=(a:Int) + 1 by omega] at ih
  have hlt:decide ((a:Int) < p.inn)=true:=decide_eq_true (by omega)
  have hw:=wrap_succ (i:=a) (by omega)
  apply gl_s_l11Table_2
  unfold nl_s_l11Table_2
  simp only [asFp_fp,Option.bind_some,Nat.zero_add,Piece.enc_cell1,asInt_int,hlt,br_true']
  rw [h4]
  simp only [Option.bind_some,loK_out,beq_self_eq_true,br_true',hw]
  exact ih
theorem t_loop10 (i:Int) (xs:List Int) {w:Int} (hwr:0 ≤ w∧w.toNat < p.regs.toNat) {k:Nat} {nk:Int} (hk:xs[k]? = some nk) (hnk:0 ≤ nk∧nk.toNat < p.ins.length):∀ (d r:Nat) (T:Nat→Nat→Bool),r + d=p.regs.toNat→
  LL f_s_l11Table 10 lc_s_l11Table_10 [] k_s_l11Table_10 ((.fp p.enc 0,em p.ins.length p.regs.toNat G,(),i,w,(),(k:Int),(r:Int),()),em p.regs.toNat p.regs.toNat T,xs.map (.int .i64),()) =
   some (.out 10 ((.fp p.enc 0,em p.ins.length p.regs.toNat G,(),i,w,(),(k:Int),p.regs,()),em p.regs.toNat p.regs.toNat (addP T fun x y=>decide (x=w.toNat) && ((decide (r ≤ y) && decide (y < p.regs.toNat)) && G nk.toNat y)),xs.map (.int .i64),()))
 |0,r,T,h=>by
  have hr0:=F.r0
  have e:(r:Int)=p.regs:=by omega
  have e2:addP T (fun x y=>decide (x=w.toNat) && ((decide (r ≤ y) && decide (y < p.regs.toNat)) && G nk.toNat y))=T:=by
   rw [show (fun x y=>decide (x=w.toNat) && ((decide (r ≤ y) && decide (y < p.regs.toNat)) && G nk.toNat y))=fun _ _=>false from ?_,addP_none]
   funext x y
   by_cases hy:r ≤ y
   ·rw [decide_eq_false (show ¬ y < p.regs.toNat by omega)];simp
   ·simp [hy]
  rw [e2,e]
  apply gl_s_l11Table_10
  unfold nl_s_l11Table_10
  simp
 |d + 1,r,T,h=>by
  have hR:=F.r
  have hr:r < p.regs.toNat:=by omega
  have hw:=wrap_succ (i:=r) (by omega)
  have hlt:decide ((r:Int) < p.regs)=true:=decide_eq_true (by omega)
  have tr:((r:Nat):Int).toNat=r:=by simp
  have tk:((k:Nat):Int).toNat=k:=by simp
  have hkl:k < xs.length:=(List.getElem?_eq_some_iff.1 hk).1
  have hg:(xs.map (CVal.int .i64))[k]? = some (.int .i64 nk):=by simp [hk]
  apply gl_s_l11Table_10
  unfold nl_s_l11Table_10
  simp only [asFp_fp,Option.bind_some,Nat.zero_add,Piece.enc_cell2,asInt_int,hlt,br_true',ge0,tk,List.length_map,decide_eq_true hkl,Bool.and_true,hg,cell_int,decide_eq_true hnk.1,em_get hnk.2,fits_sl,cell_sl,asSl_sl,tr,rowL_get hr,fits_bool,cell_bool,asBool_bool,hw]
  cases hG:G nk.toNat r with
  |true=>
   have ih:=t_loop10 i xs hwr hk hnk d (r + 1) (addP T (pairC w.toNat r)) (by omega)
   have e3:addP (addP T (pairC w.toNat r)) (fun x y=>decide (x=w.toNat) && ((decide (r + 1 ≤ y) && decide (y < p.regs.toNat)) && G nk.toNat y))=addP T (fun x y=>decide (x=w.toNat) && ((decide (r ≤ y) && decide (y < p.regs.toNat)) && G nk.toNat y)):=by
    rw [addP_addP]
    refine addP_fun fun x y _=>?_
    have s:∀ x y:Nat,(pairC w.toNat r x y || decide (x=w.toNat) && ((decide (r + 1 ≤ y) && decide (y < p.regs.toNat)) && G nk.toNat y))=(decide (x=w.toNat) && ((decide (r ≤ y) && decide (y < p.regs.toNat)) && G nk.toNat y)):=by
     intro x y
     unfold pairC
     by_cases e:y=r
     ·subst e;cases decide (x=w.toNat)<;>simp [hr,hG]
     ·have:decide (r ≤ y)=decide (r + 1 ≤ y):=by rw [decide_eq_decide];omega
      simp [e,this]
    simp only [s]
   rw [e3,show (((r + 1:Nat)):Int)=(r:Int) + 1 by omega] at ih
   have hP:=Pair_law (R:=p.regs.toNat) (T:=T) (a:=w) (b:=(r:Int)) hwr ⟨by omega,by omega⟩
   rw [tr] at hP
   simp only [br_true',hP,Option.bind_some,List.getElem?_cons_zero]
   exact ih
  |false=>
   have ih:=t_loop10 i xs hwr hk hnk d (r + 1) T (by omega)
   have e3:addP T (fun x y=>decide (x=w.toNat) && ((decide (r + 1 ≤ y) && decide (y < p.regs.toNat)) && G nk.toNat y))=addP T (fun x y=>decide (x=w.toNat) && ((decide (r ≤ y) && decide (y < p.regs.toNat)) && G nk.toNat y)):=by
    refine addP_fun fun x y _=>?_
    have s:∀ x y:Nat,(decide (x=w.toNat) && ((decide (r + 1 ≤ y) && decide (y < p.regs.toNat)) && G nk.toNat y))=(decide (x=w.toNat) && ((decide (r ≤ y) && decide (y < p.regs.toNat)) && G nk.toNat y)):=by
     intro x y
     by_cases e:y=r
     ·subst e;simp [hG]
     ·have:decide (r ≤ y)=decide (r + 1 ≤ y):=by rw [decide_eq_decide];omega
      rw [this]
    simp only [s]
   rw [e3,show (((r + 1:Nat)):Int)=(r:Int) + 1 by omega] at ih
   simp only [br_false']
   exact ih
def nextC (G:Nat→Nat→Bool) (w:Int) (xs:List Int):Nat→Nat→Bool:=fun x y=>decide (0 ≤ w) && (decide (x=w.toNat) && xs.any fun k=>G k.toNat y)
theorem t_loop8 (i:Int) {w:Int} (hwr:0 ≤ w→w.toNat < p.regs.toNat) (xs:List Int) (hxs:∀ k ∈ xs,0 ≤ k∧k.toNat < p.ins.length) (hl:xs.length ≤ 1048576):∀ (suf pre:List Int) (T:Nat→Nat→Bool),xs=pre ++ suf→
  ∃ q,LL f_s_l11Table 8 lc_s_l11Table_8 [] k_s_l11Table_8 ((.fp p.enc 0,em p.ins.length p.regs.toNat G,(),i,w,(),(pre.length:Int),()),em p.regs.toNat p.regs.toNat T,xs.map (.int .i64),()) =
   some (.out 8 ((.fp p.enc 0,em p.ins.length p.regs.toNat G,(),i,w,(),q,()),em p.regs.toNat p.regs.toNat (addP T (nextC G w suf)),xs.map (.int .i64),()))
 |[],pre,T,he=>by
  have e:pre.length=xs.length:=by rw [he];simp
  have e2:addP T (nextC G w [])=T:=by
   rw [show nextC G w []=fun _ _=>false from ?_,addP_none]
   funext x y;simp [nextC]
  rw [e2,e]
  refine ⟨(xs.length:Int),?_⟩
  apply gl_s_l11Table_8
  unfold nl_s_l11Table_8
  simp
 |k :: suf,pre,T,he=>by
  have hlt:decide ((pre.length:Int) < (((xs.map (CVal.int .i64)).length:Nat):Int))=true:=decide_eq_true (by rw [List.length_map,he];simp;omega)
  by_cases h0:0 ≤ w
  ·have hk:xs[pre.length]? = some k:=by rw [he];simp
   have h10:=t_loop10 F G i xs ⟨h0,hwr h0⟩ hk (hxs k (by rw [he];simp)) p.regs.toNat 0 T (by omega)
   simp only [Int.cast_ofNat_Int] at h10
   obtain ⟨q,ih⟩:=t_loop8 i hwr xs hxs hl suf (pre ++ [k]) (addP T fun x y=>decide (x=w.toNat) && ((decide (0 ≤ y) && decide (y < p.regs.toNat)) && G k.toNat y)) (by simpa using he)
   have e3:em p.regs.toNat p.regs.toNat (addP (addP T fun x y=>decide (x=w.toNat) && ((decide (0 ≤ y) && decide (y < p.regs.toNat)) && G k.toNat y)) (nextC G w suf))=em p.regs.toNat p.regs.toNat (addP T (nextC G w (k :: suf))):=by
    rw [addP_addP]
    refine addP_congr fun x hx y hy _=>?_
    have s:∀ x y:Nat,y < p.regs.toNat→((decide (x=w.toNat) && ((decide (0 ≤ y) && decide (y < p.regs.toNat)) && G k.toNat y)) || nextC G w suf x y)=nextC G w (k :: suf) x y:=by
     intro x y hy
     unfold nextC
     rw [List.any_cons,decide_eq_true h0,decide_eq_true hy,decide_eq_true (Nat.zero_le y)]
     cases decide (x=w.toNat)<;>simp
    rw [s x y hy,s y x hx]
   rw [e3] at ih
   have hw:=wrap_mid pre suf k (by rw [← he];exact hl)
   refine ⟨q,?_⟩
   apply gl_s_l11Table_8
   unfold nl_s_l11Table_8
   simp only [hlt,br_true',Option.bind_some,decide_eq_true h0]
   rw [h10]
   simp only [Option.bind_some,loK_out,beq_self_eq_true,br_true',hw]
   exact ih
  ·have e2:addP T (nextC G w (k :: suf))=T:=by
    rw [show nextC G w (k :: suf)=fun _ _=>false from ?_,addP_none]
    funext x y;simp [nextC,h0]
   rw [e2]
   refine ⟨(pre.length:Int),?_⟩
   apply gl_s_l11Table_8
   unfold nl_s_l11Table_8
   simp only [hlt,br_true',Option.bind_some,decide_eq_false h0,br_false']
end
end Go.Proofs.Ytognghbhdalckaa.Abs

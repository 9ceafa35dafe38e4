/- A part. -/
import Derived.Test.YtognghbhdalckaaClash
import Derived.Test.YtognghbhdalckaaWantI
import Derived.Test.YtognghbhdalckaaThings
set_option linter.unusedVariables false
set_option linter.unusedSimpArgs false
set_option linter.unusedSectionVars false
set_option maxRecDepth 100000
namespace Go.Proofs.Ytognghbhdalckaa.Abs
open Go Go.Proofs
def behG (G:Nat→Nat→Bool) (i:Nat) (x:Ins) (r:Nat):Bool:=(waysL i x).any fun k=>G k.toNat r
theorem behind_loop2 (R:Nat) (hR:R ≤ 1048576) (e1 e2:List CVal) (q1 q2:Int) (a b:Nat→Bool):∀ (d r:Nat),r + d=R→
  LL f_i_behind 2 lc_i_behind_2 [] k_i_behind_2 ((e1,(),e2,q1,q2,rowL R b,(R:Int),(r:Int),()),rowL R (takeN r a b (-1)),()) =
   some (.out 2 ((e1,(),e2,q1,q2,rowL R b,(R:Int),(R:Int),()),rowL R (takeN R a b (-1)),()))
 |0,r,h=>by
  have:r=R:=by omega
  subst this
  apply gl_i_behind_2
  unfold nl_i_behind_2
  simp
 |d + 1,r,h=>by
  have hr:r < R:=by omega
  have ih:=behind_loop2 R hR e1 e2 q1 q2 a b d (r + 1) (by omega)
  have hw:=wrap_succ (i:=r) (by omega)
  have hlt:decide ((r:Int) < (R:Int))=true:=decide_eq_true (by omega)
  rw [show (((r + 1:Nat)):Int)=(r:Int) + 1 by omega] at ih
  have hne:decide ((r:Int) ≠ -1)=true:=decide_eq_true (by omega)
  have s1:=takeN_set (R:=R) (r:=r) (a:=a) (b:=b) (but:=-1) (v:=true)
  have s2:=takeN_set (R:=R) (r:=r) (a:=a) (b:=b) (but:=-1) (v:=b r)
  have g1:=rowL_get (g:=b) hr
  have g2:=rowL_get (g:=takeN r a b (-1)) hr
  rw [takeN_at] at g2
  have tn:((r:Nat):Int).toNat=r:=by simp
  apply gl_i_behind_2
  unfold nl_i_behind_2
  simp only [hlt,br_true',ge0,tn,g1,g2,Option.bind_some,fits_bool,cell_bool,asBool_bool,rowL_len,decide_eq_true hr,Bool.and_true,hw]
  cases ha:a r with
  |true=>
   rw [ha] at s1
   simp only [br_true']
   rw [s1 (by simp)]
   exact ih
  |false=>
   rw [ha,hne] at s2
   simp only [br_false']
   cases hb:b r with
   |true=>
    rw [hb] at s2
    first
     |(simp only [br_true'];rw [s2 (by simp)];exact ih)
     |(rw [s2 (by simp)];exact ih)
   |false=>
    rw [hb] at s2
    first
     |(simp only [br_false'];rw [s2 (by simp)];exact ih)
     |(rw [s2 (by simp)];exact ih)
theorem behind_loop0 {n R:Nat} (hn:n ≤ 1048576) (hR:R ≤ 1048576) (G:Nat→Nat→Bool):∀ (suf pre:List Int) (g:Nat→Bool),(pre ++ suf).length ≤ 1048576→(∀ k ∈ suf,0 ≤ k∧k.toNat < n)→
  LL f_i_behind 0 lc_i_behind_0 [] k_i_behind_0 ((em n R G,(),(pre ++ suf).map (.int .i64),((pre ++ suf).length:Int),(pre.length:Int),()),rowL R g,()) =
   some (.out 0 ((em n R G,(),(pre ++ suf).map (.int .i64),((pre ++ suf).length:Int),((pre ++ suf).length:Int),()),rowL R (takeAll R G (-1) suf g),()))
 |[],pre,g,hl,hk=>by
  apply gl_i_behind_0
  unfold nl_i_behind_0
  rw [lt_end']
  simp [takeAll]
 |k :: suf,pre,g,hl,hk=>by
  have ih:=behind_loop0 hn hR G suf (pre ++ [k]) (takeN R g (G k.toNat) (-1)) (by simpa using hl) (fun q hq=>hk q (by simp [hq]))
  simp only [List.append_assoc,List.singleton_append] at ih
  obtain ⟨k0,k1⟩:=hk k (by simp)
  have h2:=behind_loop2 R hR (em n R G) ((pre ++ k :: suf).map (.int .i64)) ((pre ++ k :: suf).length:Int) (pre.length:Int) g (G k.toNat) R 0 (by omega)
  rw [takeN_zero] at h2
  simp only [Int.cast_ofNat_Int] at h2
  apply gl_i_behind_0
  unfold nl_i_behind_0
  rw [lt_mid',nn_mid,get_mid]
  simp only [br_true',Option.bind_some,fits_int,cell_int,asIdx_int,decide_eq_true k0,Bool.and_true,em_get k1,fits_sl,cell_sl,asSl_sl,rowL_len]
  rw [h2]
  simp only [Option.bind_some,loK_out,beq_self_eq_true,br_true',wrap_mid pre suf k hl]
  exact ih
theorem plain_ei1 (l:List Int):CVal.plain (ei l)=true:=by simp [ei,CVal.plain,plain_ints]
theorem behind_law {p:Piece} (F:Fit p) (G:Nat→Nat→Bool) {i:Nat} {x:Ins} (hx:p.ins[i]? = some x) :
  CC f_i_behind [.v p.enc,.v (.int .i64 i),.v (.sl (em p.ins.length p.regs.toNat G))] []=some (ei (thingsFrom (behG G i x) 0 p.regs.toNat),[]):=by
 have hn:=F.n
 have hr0:=F.r0
 have hr:=F.r
 have hW:=ways_law F hx
 have hl1:=behind_loop0 (n:=p.ins.length) (R:=p.regs.toNat) (by omega) (by omega) G (waysL i x) [] (fun _=>false) (by have:=ways_len (i:=i) (x:=x);simp;omega) (ways_lt F hx)
 simp only [List.nil_append,List.length_nil,Int.cast_ofNat_Int] at hl1
 have b1:(decide ((0:Int) ≤ p.regs) && decide (p.regs=p.regs) && decide (p.regs ≤ (1048576:Int)))=true:=by
  rw [decide_eq_true hr0,decide_eq_true rfl,decide_eq_true (show p.regs ≤ 1048576 by omega)];rfl
 have hth:=things_law (R:=p.regs.toNat) (by omega) (takeAll p.regs.toNat G (-1) (waysL i x) fun _=>false)
 have he:thingsFrom (takeAll p.regs.toNat G (-1) (waysL i x) fun _=>false) 0 p.regs.toNat=thingsFrom (behG G i x) 0 p.regs.toNat:=by
  refine things_congr fun r h1 h2=>?_
  rw [takeAll_at (by omega)]
  unfold behG
  rw [Bool.false_or]
  congr 1
  funext k
  have:decide ((r:Int) ≠ -1)=true:=decide_eq_true (by omega)
  rw [this,Bool.and_true]
 rw [Piece.enc_def]
 apply go_i_behind
 unfold nf_i_behind
 rw [b1]
 simp only [br_true',Piece.enc_eta,hW,Option.bind_some,asSl_sl,rowL_false,List.length_map]
 rw [hl1]
 simp only [Option.bind_some,loK_out,beq_self_eq_true,br_true',hth,he,plain_ei1,Bool.not_true,br_false',ei_flat,ei_asSl]
 rfl
section
variable {p:Piece} (F:Fit p) (G:Nat→Nat→Bool)
include F
theorem c_loop8 (i:Int) (x:Ins) {d:Int} (hd:0 ≤ d∧d.toNat < p.regs.toNat):∀ (suf pre:List Int) (T:Nat→Nat→Bool),(pre ++ suf).length ≤ 1048576→(∀ k ∈ suf,0 ≤ k∧k.toNat < p.regs.toNat)→
  LL f_i_clashes 8 lc_i_clashes_8 [] k_i_clashes_8 ((.fp p.enc 0,(),(),em p.ins.length p.regs.toNat G,(),d,p.ins.map Ins.enc,(p.ins.length:Int),i,(pre ++ suf).map (.int .i64),((pre ++ suf).length:Int),(pre.length:Int),()),((),()),em p.regs.toNat p.regs.toNat T,(x.op,x.d,x.x,x.y,x.n,x.l.map (.int .i64),x.to,()),()) =
   some (.out 8 ((.fp p.enc 0,(),(),em p.ins.length p.regs.toNat G,(),d,p.ins.map Ins.enc,(p.ins.length:Int),i,(pre ++ suf).map (.int .i64),((pre ++ suf).length:Int),((pre ++ suf).length:Int),()),((),()),em p.regs.toNat p.regs.toNat (addP T (withC d.toNat suf)),(x.op,x.d,x.x,x.y,x.n,x.l.map (.int .i64),x.to,()),()))
 |[],pre,T,hl,hk=>by
  rw [withC_nil]
  apply gl_i_clashes_8
  unfold nl_i_clashes_8
  rw [lt_end']
  simp
 |k :: suf,pre,T,hl,hk=>by
  have ih:=c_loop8 i x hd suf (pre ++ [k]) (addP T (pairC d.toNat k.toNat)) (by simpa using hl) (fun q hq=>hk q (by simp [hq]))
  rw [withC_cons] at ih
  simp only [List.append_assoc,List.singleton_append] at ih
  apply gl_i_clashes_8
  unfold nl_i_clashes_8
  rw [lt_mid',nn_mid,get_mid,wrap_mid pre suf k hl]
  simp only [br_true',Option.bind_some,fits_int,cell_int,both_law hd (hk k (by simp)),List.getElem?_cons_zero,List.getElem?_cons_succ,asSl_sl]
  exact ih
theorem c_loop10 (i:Int) (x:Ins) (hd:0 ≤ x.d∧x.d.toNat < p.regs.toNat):∀ (suf pre:List Int) (T:Nat→Nat→Bool),(pre ++ suf).length ≤ 1048576→(∀ k ∈ suf,0 ≤ k∧k.toNat < p.regs.toNat)→
  LL f_i_clashes 10 lc_i_clashes_10 [] k_i_clashes_10 ((.fp p.enc 0,(),(),em p.ins.length p.regs.toNat G,(),p.ins.map Ins.enc,(p.ins.length:Int),i,(pre ++ suf).map (.int .i64),((pre ++ suf).length:Int),(pre.length:Int),()),((),()),em p.regs.toNat p.regs.toNat T,(x.op,x.d,x.x,x.y,x.n,x.l.map (.int .i64),x.to,()),()) =
   some (.out 10 ((.fp p.enc 0,(),(),em p.ins.length p.regs.toNat G,(),p.ins.map Ins.enc,(p.ins.length:Int),i,(pre ++ suf).map (.int .i64),((pre ++ suf).length:Int),((pre ++ suf).length:Int),()),((),()),em p.regs.toNat p.regs.toNat (addP T (withC x.d.toNat suf)),(x.op,x.d,x.x,x.y,x.n,x.l.map (.int .i64),x.to,()),()))
 |[],pre,T,hl,hk=>by
  rw [withC_nil]
  apply gl_i_clashes_10
  unfold nl_i_clashes_10
  rw [lt_end']
  simp
 |k :: suf,pre,T,hl,hk=>by
  have ih:=c_loop10 i x hd suf (pre ++ [k]) (addP T (pairC x.d.toNat k.toNat)) (by simpa using hl) (fun q hq=>hk q (by simp [hq]))
  rw [withC_cons] at ih
  simp only [List.append_assoc,List.singleton_append] at ih
  apply gl_i_clashes_10
  unfold nl_i_clashes_10
  rw [lt_mid',nn_mid,get_mid,wrap_mid pre suf k hl]
  simp only [br_true',Option.bind_some,fits_int,cell_int,both_law hd (hk k (by simp)),List.getElem?_cons_zero,List.getElem?_cons_succ,asSl_sl]
  exact ih
theorem c_loop6 (i j q:Int) (x:Ins) (own:List Int) {a:Int} (ha:0 ≤ a∧a.toNat < p.regs.toNat):∀ (suf pre:List Int) (T:Nat→Nat→Bool),own=pre ++ suf→own.length ≤ 1048576→(∀ k ∈ suf,0 ≤ k∧k.toNat < p.regs.toNat)→
  LL f_i_clashes 6 lc_i_clashes_6 [] k_i_clashes_6 ((.fp p.enc 0,(),(),em p.ins.length p.regs.toNat G,i,(),own.map (.int .i64),a,p.ins.map Ins.enc,(p.ins.length:Int),j,own.map (.int .i64),(own.length:Int),q,own.map (.int .i64),(own.length:Int),(pre.length:Int),()),((),()),em p.regs.toNat p.regs.toNat T,(x.op,x.d,x.x,x.y,x.n,x.l.map (.int .i64),x.to,()),()) =
   some (.out 6 ((.fp p.enc 0,(),(),em p.ins.length p.regs.toNat G,i,(),own.map (.int .i64),a,p.ins.map Ins.enc,(p.ins.length:Int),j,own.map (.int .i64),(own.length:Int),q,own.map (.int .i64),(own.length:Int),(own.length:Int),()),((),()),em p.regs.toNat p.regs.toNat (addP T (withC a.toNat suf)),(x.op,x.d,x.x,x.y,x.n,x.l.map (.int .i64),x.to,()),()))
 |[],pre,T,he,hl,hk=>by
  have e:pre.length=own.length:=by rw [he];simp
  rw [withC_nil,e]
  apply gl_i_clashes_6
  unfold nl_i_clashes_6
  simp
 |k :: suf,pre,T,he,hl,hk=>by
  have ih:=c_loop6 i j q x own ha suf (pre ++ [k]) (addP T (pairC a.toNat k.toNat)) (by simpa using he) hl (fun q hq=>hk q (by simp [hq]))
  rw [withC_cons] at ih
  have h1:decide ((pre.length:Int) < (own.length:Int))=true:=decide_eq_true (by rw [he];simp;omega)
  have h2:(own.map (CVal.int .i64))[((pre.length:Nat):Int).toNat]? = some (.int .i64 k):=by rw [he];exact get_mid _ _ _ _
  have hw:=wrap_mid pre suf k (by rw [← he];exact hl)
  apply gl_i_clashes_6
  unfold nl_i_clashes_6
  rw [h1,nn_mid,h2,hw]
  simp only [br_true',Option.bind_some,fits_int,cell_int,both_law ha (hk k (by simp)),List.getElem?_cons_zero,List.getElem?_cons_succ,asSl_sl]
  exact ih
theorem c_loop4 (i j:Int) (x:Ins) (own:List Int) (ho:∀ k ∈ own,0 ≤ k∧k.toNat < p.regs.toNat):∀ (suf pre:List Int) (T:Nat→Nat→Bool),own=pre ++ suf→own.length ≤ 1048576→
  LL f_i_clashes 4 lc_i_clashes_4 [] k_i_clashes_4 ((.fp p.enc 0,(),(),em p.ins.length p.regs.toNat G,i,(),own.map (.int .i64),p.ins.map Ins.enc,(p.ins.length:Int),j,own.map (.int .i64),(own.length:Int),(pre.length:Int),()),((),()),em p.regs.toNat p.regs.toNat T,(x.op,x.d,x.x,x.y,x.n,x.l.map (.int .i64),x.to,()),()) =
   some (.out 4 ((.fp p.enc 0,(),(),em p.ins.length p.regs.toNat G,i,(),own.map (.int .i64),p.ins.map Ins.enc,(p.ins.length:Int),j,own.map (.int .i64),(own.length:Int),(own.length:Int),()),((),()),em p.regs.toNat p.regs.toNat (addP T (listC suf own)),(x.op,x.d,x.x,x.y,x.n,x.l.map (.int .i64),x.to,()),()))
 |[],pre,T,he,hl=>by
  have e:pre.length=own.length:=by rw [he];simp
  rw [listC_nil,e]
  apply gl_i_clashes_4
  unfold nl_i_clashes_4
  simp
 |k :: suf,pre,T,he,hl=>by
  have ih:=c_loop4 i j x own ho suf (pre ++ [k]) (addP T (withC k.toNat own)) (by simpa using he) hl
  rw [listC_cons] at ih
  have h6:=c_loop6 F G i j (pre.length:Int) x own (ho k (by rw [he];simp)) own [] T rfl hl ho
  simp only [List.length_nil,Int.cast_ofNat_Int] at h6
  have h1:decide ((pre.length:Int) < (own.length:Int))=true:=decide_eq_true (by rw [he];simp;omega)
  have h2:(own.map (CVal.int .i64))[((pre.length:Nat):Int).toNat]? = some (.int .i64 k):=by rw [he];exact get_mid _ _ _ _
  have hw:=wrap_mid pre suf k (by rw [← he];exact hl)
  apply gl_i_clashes_4
  unfold nl_i_clashes_4
  rw [h1,nn_mid,h2]
  simp only [br_true',Option.bind_some,fits_int,cell_int,asInt_int,List.length_map]
  rw [h6]
  simp only [Option.bind_some,loK_out,beq_self_eq_true,br_true',hw]
  exact ih
theorem c_loop14 {a:Nat} (ha:a < p.inn.toNat):∀ (d b:Nat) (T:Nat→Nat→Bool),b + d=p.inn.toNat→
  LL f_i_clashes 14 lc_i_clashes_14 [] k_i_clashes_14 ((.fp p.enc 0,(),(),(a:Int),p.inn,(a:Int),p.inn,(b:Int),()),((),()),em p.regs.toNat p.regs.toNat T,()) =
   some (.out 14 ((.fp p.enc 0,(),(),(a:Int),p.inn,(a:Int),p.inn,p.inn,()),((),()),em p.regs.toNat p.regs.toNat (addP T fun x y=>decide (x=a) && (decide (b ≤ y) && decide (y < p.inn.toNat))),()))
 |0,b,T,h=>by
  have e:(b:Int)=p.inn:=by have:=F.i0;omega
  have e2:addP T (fun x y=>decide (x=a) && (decide (b ≤ y) && decide (y < p.inn.toNat)))=T:=by
   rw [show (fun x y=>decide (x=a) && (decide (b ≤ y) && decide (y < p.inn.toNat)))=fun _ _=>false from ?_,addP_none]
   funext x y
   have:(decide (b ≤ y) && decide (y < p.inn.toNat))=false:=by
    rw [Bool.and_eq_false_iff]
    by_cases hy:b ≤ y
    ·exact .inr (decide_eq_false (by omega))
    ·exact .inl (decide_eq_false hy)
   rw [this,Bool.and_false]
  rw [e2,e]
  apply gl_i_clashes_14
  unfold nl_i_clashes_14
  simp
 |d + 1,b,T,h=>by
  have hi:=F.i0
  have hi1:=F.i1
  have hR:=F.r
  have hbl:b < p.inn.toNat:=by omega
  have ih:=c_loop14 ha d (b + 1) (addP T (pairC a b)) (by omega)
  have e3:addP (addP T (pairC a b)) (fun x y=>decide (x=a) && (decide (b + 1 ≤ y) && decide (y < p.inn.toNat)))=addP T (fun x y=>decide (x=a) && (decide (b ≤ y) && decide (y < p.inn.toNat))):=by
   rw [addP_addP]
   refine addP_fun fun x y _=>?_
   have q:∀ x y:Nat,(pairC a b x y || decide (x=a) && (decide (b + 1 ≤ y) && decide (y < p.inn.toNat)))=(decide (x=a) && (decide (b ≤ y) && decide (y < p.inn.toNat))):=by
    intro x y
    unfold pairC
    by_cases e:x=a
    ·by_cases e2:y=b
     ·subst e2;simp [e,hbl]
     ·have:decide (b ≤ y)=decide (b + 1 ≤ y):=by rw [decide_eq_decide];omega
      simp [e,e2,this]
    ·simp [e]
   simp only [q]
  rw [e3,show (((b + 1:Nat)):Int)=(b:Int) + 1 by omega] at ih
  have hlt:decide ((b:Int) < p.inn)=true:=decide_eq_true (by omega)
  have hw:=wrap_succ (i:=b) (by omega)
  have hb:=both_law (R:=p.regs.toNat) (T:=T) (a:=(a:Int)) (b:=(b:Int)) ⟨by omega,by omega⟩ ⟨by omega,by omega⟩
  have t1:((a:Nat):Int).toNat=a:=by simp
  have t2:((b:Nat):Int).toNat=b:=by simp
  rw [t1,t2] at hb
  apply gl_i_clashes_14
  unfold nl_i_clashes_14
  simp only [hlt,br_true',hb,Option.bind_some,List.getElem?_cons_zero,List.getElem?_cons_succ,asSl_sl,hw]
  exact ih
theorem c_loop12:∀ (d a:Nat) (T:Nat→Nat→Bool),a + d=p.inn.toNat→
  LL f_i_clashes 12 lc_i_clashes_12 [] k_i_clashes_12 ((.fp p.enc 0,(),(),p.inn,(a:Int),()),((),()),em p.regs.toNat p.regs.toNat T,()) =
   some (.out 12 ((.fp p.enc 0,(),(),p.inn,p.inn,()),((),()),em p.regs.toNat p.regs.toNat (addP T fun x y=>decide (a ≤ x) && (decide (x < p.inn.toNat) && decide (y < p.inn.toNat))),()))
 |0,a,T,h=>by
  have e:(a:Int)=p.inn:=by have:=F.i0;omega
  have e2:addP T (fun x y=>decide (a ≤ x) && (decide (x < p.inn.toNat) && decide (y < p.inn.toNat)))=T:=by
   rw [show (fun x y=>decide (a ≤ x) && (decide (x < p.inn.toNat) && decide (y < p.inn.toNat)))=fun _ _=>false from ?_,addP_none]
   funext x y
   by_cases hy:a ≤ x
   ·rw [decide_eq_false (show ¬ x < p.inn.toNat by omega)];simp
   ·simp [hy]
  rw [e2,e]
  apply gl_i_clashes_12
  unfold nl_i_clashes_12
  simp
 |d + 1,a,T,h=>by
  have hi:=F.i0
  have hi1:=F.i1
  have hR:=F.r
  have hal:a < p.inn.toNat:=by omega
  have h14:=c_loop14 F hal p.inn.toNat 0 T (by omega)
  simp only [Int.cast_ofNat_Int] at h14
  have ih:=c_loop12 d (a + 1) (addP T fun x y=>decide (x=a) && (decide (0 ≤ y) && decide (y < p.inn.toNat))) (by omega)
  have e3:addP (addP T fun x y=>decide (x=a) && (decide (0 ≤ y) && decide (y < p.inn.toNat))) (fun x y=>decide (a + 1 ≤ x) && (decide (x < p.inn.toNat) && decide (y < p.inn.toNat)))=addP T (fun x y=>decide (a ≤ x) && (decide (x < p.inn.toNat) && decide (y < p.inn.toNat))):=by
   rw [addP_addP]
   refine addP_fun fun x y _=>?_
   have q:∀ x y:Nat,((decide (x=a) && (decide (0 ≤ y) && decide (y < p.inn.toNat))) || decide (a + 1 ≤ x) && (decide (x < p.inn.toNat) && decide (y < p.inn.toNat)))=(decide (a ≤ x) && (decide (x < p.inn.toNat) && decide (y < p.inn.toNat))):=by
    intro x y
    by_cases e:x=a
    ·subst e;simp [hal]
    ·have:decide (a ≤ x)=decide (a + 1 ≤ x):=by rw [decide_eq_decide];omega
     simp [e,this]
   simp only [q]
  rw [e3,show (((a + 1:Nat)):Int)=(a:Int) + 1 by omega] at ih
  have hlt:decide ((a:Int) < p.inn)=true:=decide_eq_true (by omega)
  have hw:=wrap_succ (i:=a) (by omega)
  apply gl_i_clashes_12
  unfold nl_i_clashes_12
  simp only [hlt,br_true',asFp_fp,Option.bind_some,Nat.zero_add,Piece.enc_cell1,asInt_int]
  rw [h14]
  simp only [Option.bind_some,loK_out,beq_self_eq_true,br_true',hw]
  exact ih
end
end Go.Proofs.Ytognghbhdalckaa.Abs

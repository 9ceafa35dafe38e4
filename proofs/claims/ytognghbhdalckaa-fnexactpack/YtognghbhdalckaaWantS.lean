/- A part. -/
import Derived.Test.YtognghbhdalckaaWanted
set_option linter.unusedVariables false
set_option linter.unusedSimpArgs false
set_option maxRecDepth 100000
namespace Go.Proofs.Ytognghbhdalckaa.Abs
open Go Go.Proofs
def boxP (c0:Nat) (p:Piece) (f:Nat→Nat→Bool):List PB:=
  [PB.box [.v (.int .i64 p.lam),.v (.int .i64 p.inn),.v (.int .i64 p.regs),.v (.sl (p.ins.map Ins.enc)),.lref 1 0,.v (.bool (decide (c0 < cnt p.ins.length p.regs.toNat f)))],
   PB.arr ⟨true,false,0⟩ true 1 (em p.ins.length p.regs.toNat f)]
def boxR (c0:Nat) (p:Piece) (f:Nat→Nat→Bool):Ret:=
 (.tup [],[[.int .i64 p.lam,.int .i64 p.inn,.int .i64 p.regs,.sl (p.ins.map Ins.enc),.sl (em p.ins.length p.regs.toNat f),.bool (decide (c0 < cnt p.ins.length p.regs.toNat f))],[]])
theorem ge0' (i:Nat):decide ((0:Int) ≤ (i:Int))=true:=by simp
theorem cell_sl (l:List CVal):CVal.cell (.sl l) 0=some (.sl l):=rfl
theorem Set_law {c0:Nat} {p:Piece} {f:Nat→Nat→Bool} (hc:c0 ≤ cnt p.ins.length p.regs.toNat f) {i r:Nat} (hi:i < p.ins.length) (hr:r < p.regs.toNat) :
  CC f_s_l10Set [.lptr 0 0,.v (.int .i64 i),.v (.int .i64 r)] (boxP c0 p f)=some (boxR c0 p (upd f i r)):=by
 have ti:((i:Nat):Int).toNat=i:=by simp
 have tr:((r:Nat):Int).toNat=r:=by simp
 unfold boxP boxR
 apply go_s_l10Set
 unfold nf_s_l10Set
 simp only [ge0',br_true',ti,tr,em_len,decide_eq_true hi,Bool.and_true,em_get hi,Option.bind_some,cell_sl,asSl_sl,rowL_len,decide_eq_true hr,rowL_get hr,asBool_bool]
 cases h:f i r with
 |true=>
  rw [upd_self h]
  simp only [Bool.not_true,br_false']
 |false=>
  have hlt:cnt p.ins.length p.regs.toNat f < cnt p.ins.length p.regs.toNat (upd f i r):=cnt_lt upd_le hi hr (by simp [upd]) h
  have hd:decide (c0 < cnt p.ins.length p.regs.toNat (upd f i r))=true:=decide_eq_true (by omega)
  have hf:CVal.fitsF false [CK.bool] (.bool false)=true:=rfl
  have hp:CVal.putCell (.sl (rowL p.regs.toNat (f i))) 0 (.sl ((rowL p.regs.toNat (f i)).set r (.bool true)))=.sl ((rowL p.regs.toNat (f i)).set r (.bool true)):=rfl
  simp only [Bool.not_false,br_true',hf,hd,hp,em_upd]
def orN (f:Nat→Nat→Bool) (i k:Nat) (but:Int) (r:Nat):Nat→Nat→Bool:=fun i' r'=>f i' r' || (decide (i'=i) && (decide (r' < r) && (f k r' && decide ((r':Int) ≠ but))))
theorem orN_zero {f:Nat→Nat→Bool} {i k:Nat} {but:Int}:orN f i k but 0=f:=by funext i' r';simp [orN]
theorem orN_at {f:Nat→Nat→Bool} {i k:Nat} {but:Int} {r:Nat}:orN f i k but r k r=f k r:=by simp [orN]
theorem orN_succ {f:Nat→Nat→Bool} {i k:Nat} {but:Int} {r:Nat} (h:(f k r && decide ((r:Int) ≠ but))=true):upd (orN f i k but r) i r=orN f i k but (r + 1):=by
 funext i' r'
 unfold upd orN
 by_cases e:i'=i
 ·by_cases e2:r'=r
  ·subst e2
   rw [h]
   simp [e]
  ·have:decide (r' < r)=decide (r' < r + 1):=by rw [decide_eq_decide];omega
   simp [e,e2,this]
 ·simp [e]
theorem orN_stay {f:Nat→Nat→Bool} {i k:Nat} {but:Int} {r:Nat} (h:(f k r && decide ((r:Int) ≠ but))=false):orN f i k but r=orN f i k but (r + 1):=by
 funext i' r'
 unfold orN
 by_cases e2:r'=r
 ·subst e2
  rw [h]
  simp
 ·have:decide (r' < r)=decide (r' < r + 1):=by rw [decide_eq_decide];omega
  rw [this]
theorem orN_le {n R:Nat} {f:Nat→Nat→Bool} {i k:Nat} {but:Int} {r:Nat}:MLe n R f (orN f i k but r):=fun i' _ r' _ h=>by simp [orN,h]
theorem From_loop {c0:Nat} {p:Piece} (hr0:0 ≤ p.regs) (hR:p.regs ≤ 1048576) {f:Nat→Nat→Bool} (hc:c0 ≤ cnt p.ins.length p.regs.toNat f) {i k:Nat} (hi:i < p.ins.length) (hk:k < p.ins.length) (but:Int):∀ (d r:Nat),r + d=p.regs.toNat→
  LL f_s_l10From 0 lc_s_l10From_0 [PSh.box [none,none,none,none,some 1,none],PSh.arr ⟨true,false,0⟩ true 1] k_s_l10From_0
   (((),(i:Int),(k:Int),but,(r:Int),()),(p.lam,p.inn,p.regs,p.ins.map Ins.enc,(),decide (c0 < cnt p.ins.length p.regs.toNat (orN f i k but r)),()),(),em p.ins.length p.regs.toNat (orN f i k but r),()) =
  some (.out 0 (((),(i:Int),(k:Int),but,p.regs,()),(p.lam,p.inn,p.regs,p.ins.map Ins.enc,(),decide (c0 < cnt p.ins.length p.regs.toNat (orN f i k but p.regs.toNat)),()),(),em p.ins.length p.regs.toNat (orN f i k but p.regs.toNat),()))
 |0,r,h=>by
  have e:r=p.regs.toNat:=by omega
  subst e
  have:((p.regs.toNat:Nat):Int)=p.regs:=by omega
  rw [this]
  apply gl_s_l10From_0
  unfold nl_s_l10From_0
  rw [show decide (p.regs < p.regs)=false by simp]
  rfl
 |d + 1,r,h=>by
  have hr:r < p.regs.toNat:=by omega
  have ih:=From_loop hr0 hR hc hi hk but d (r + 1) (by omega)
  rw [show (((r + 1:Nat)):Int)=(r:Int) + 1 by omega] at ih
  have hw:=wrap_succ (i:=r) (by omega)
  have tk:((k:Nat):Int).toNat=k:=by simp
  have tr:((r:Nat):Int).toNat=r:=by simp
  have hlt:decide ((r:Int) < p.regs)=true:=decide_eq_true (by omega)
  have hset:=Set_law (c0:=c0) (p:=p) (f:=orN f i k but r) (Nat.le_trans hc (cnt_mono orN_le)) hi hr
  unfold boxP boxR at hset
  apply gl_s_l10From_0
  unfold nl_s_l10From_0
  simp only [hlt,br_true',ge0',tk,tr,em_len,decide_eq_true hk,Bool.and_true,em_get hk,Option.bind_some,cell_sl,asSl_sl,rowL_len,decide_eq_true hr,rowL_get hr,asBool_bool,orN_at,hw]
  cases hb:f k r with
  |true=>
   simp only [br_true',Option.bind_some]
   by_cases hbut:(r:Int)=but
   ·simp only [decide_eq_true hbut,Bool.not_true,br_false']
    rw [orN_stay (by rw [hb];simp [hbut])]
    exact ih
   ·simp only [decide_eq_false hbut,Bool.not_false,br_true',hset,List.getElem?_cons_zero,List.getElem?_cons_succ,Option.bind_some,asInt_int,asSl_sl,asBool_bool]
    rw [orN_succ (by rw [hb];simp [hbut])]
    exact ih
  |false=>
   simp only [br_false',Option.bind_some]
   rw [orN_stay (by rw [hb];rfl)]
   exact ih
theorem From_law {c0:Nat} {p:Piece} (hr0:0 ≤ p.regs) (hR:p.regs ≤ 1048576) {f:Nat→Nat→Bool} (hc:c0 ≤ cnt p.ins.length p.regs.toNat f) {i:Nat} {k:Int} (hi:i < p.ins.length) (h0:0 ≤ k) (hk:k.toNat < p.ins.length) (but:Int) :
  CC f_s_l10From [.lptr 0 0,.v (.int .i64 i),.v (.int .i64 k),.v (.int .i64 but)] (boxP c0 p f)=some (boxR c0 p (orN f i k.toNat but p.regs.toNat)):=by
 have hloop:=From_loop hr0 hR hc hi hk but p.regs.toNat 0 (by omega)
 rw [orN_zero,show ((k.toNat:Nat):Int)=k by omega] at hloop
 simp only [Int.cast_ofNat_Int] at hloop
 unfold boxP boxR
 apply go_s_l10From
 unfold nf_s_l10From
 rw [hloop]
 rfl
def updAll (i:Nat) (ks:List Int) (f:Nat→Nat→Bool):Nat→Nat→Bool:=ks.foldl (fun f k=>upd f i k.toNat) f
theorem updAll_at {i i' r:Nat}:∀ {ks:List Int} {f:Nat→Nat→Bool},updAll i ks f i' r=(f i' r || (decide (i'=i) && ks.any fun k=>decide (k.toNat=r)))
 |[],f=>by simp [updAll]
 |k :: ks,f=>by
  have ih:=updAll_at (i:=i) (i':=i') (r:=r) (ks:=ks) (f:=upd f i k.toNat)
  unfold updAll at ih ⊢
  rw [List.foldl_cons,ih]
  unfold upd
  by_cases e:i'=i
  ·have:decide (r=k.toNat)=decide (k.toNat=r):=by rw [decide_eq_decide];exact ⟨Eq.symm,Eq.symm⟩
   simp [e,this,Bool.or_assoc]
  ·simp [e]
theorem Node_loop0 {c0:Nat} {p:Piece} {i:Nat} (hi:i < p.ins.length):∀ (suf pre:List Int) (f:Nat→Nat→Bool),(pre ++ suf).length ≤ 1048576→(∀ k ∈ suf,0 ≤ k∧k < p.regs)→c0 ≤ cnt p.ins.length p.regs.toNat f→
  LL f_s_l10Node 0 lc_s_l10Node_0 [PSh.box [none,none,none,none,some 1,none],PSh.arr ⟨true,false,0⟩ true 1] k_s_l10Node_0
   (((),(i:Int),(pre ++ suf).map (.int .i64),(pre.length:Int),()),(p.lam,p.inn,p.regs,p.ins.map Ins.enc,(),decide (c0 < cnt p.ins.length p.regs.toNat f),()),(),em p.ins.length p.regs.toNat f,()) =
  some (.out 0 (((),(i:Int),(pre ++ suf).map (.int .i64),((pre ++ suf).length:Int),()),(p.lam,p.inn,p.regs,p.ins.map Ins.enc,(),decide (c0 < cnt p.ins.length p.regs.toNat (updAll i suf f)),()),(),em p.ins.length p.regs.toNat (updAll i suf f),()))
 |[],pre,f,hl,hk,hc=>by
  apply gl_s_l10Node_0
  unfold nl_s_l10Node_0
  rw [lt_end]
  simp [updAll]
  rfl
 |k :: suf,pre,f,hl,hk,hc=>by
  obtain ⟨k0,k1⟩:=hk k (by simp)
  have ih:=Node_loop0 (c0:=c0) hi suf (pre ++ [k]) (upd f i k.toNat) (by simpa using hl) (fun q hq=>hk q (by simp [hq])) (Nat.le_trans hc (cnt_mono upd_le))
  simp only [List.append_assoc,List.singleton_append] at ih
  have hset:=Set_law (c0:=c0) (p:=p) (f:=f) hc hi (r:=k.toNat) (by omega)
  unfold boxP boxR at hset
  rw [show ((k.toNat:Nat):Int)=k by omega] at hset
  apply gl_s_l10Node_0
  unfold nl_s_l10Node_0
  rw [lt_mid,nn_mid,get_mid,wrap_mid pre suf k hl]
  simp only [br_true',Option.bind_some,fits_int,cell_int,hset,List.getElem?_cons_zero,List.getElem?_cons_succ,asInt_int,asSl_sl,asBool_bool]
  exact ih
def orAll (R i:Nat) (but:Int) (ks:List Int) (f:Nat→Nat→Bool):Nat→Nat→Bool:=ks.foldl (fun f k=>orN f i k.toNat but R) f
theorem orAll_at {R i i' r:Nat} {but:Int} (hr:r < R):∀ {ks:List Int} {f:Nat→Nat→Bool},orAll R i but ks f i' r=(f i' r || (decide (i'=i) && ks.any fun k=>f k.toNat r && decide ((r:Int) ≠ but)))
 |[],f=>by simp [orAll]
 |k :: ks,f=>by
  have ih:=orAll_at (i:=i) (i':=i') (but:=but) hr (ks:=ks) (f:=orN f i k.toNat but R)
  unfold orAll at ih ⊢
  rw [List.foldl_cons,ih,List.any_cons]
  by_cases e:i'=i
  ·subst e
   have hf:∀ k',orN f i' k.toNat but R k' r=(f k' r || (decide (k'=i') && (f k.toNat r && decide ((r:Int) ≠ but)))):=by intro k';simp [orN,hr]
   simp only [hf,decide_true,Bool.true_and]
   cases h1:(f k.toNat r && decide ((r:Int) ≠ but)) with
   |true=>simp
   |false=>simp
  ·have hf:∀ k',orN f i k.toNat but R k' r=(f k' r || (decide (k'=i) && (f k.toNat r && decide ((r:Int) ≠ but)))):=by intro k';simp [orN,hr]
   simp [hf,e]
theorem orAll_le {n R i:Nat} {but:Int} {ks:List Int} {f:Nat→Nat→Bool}:MLe n R f (orAll R i but ks f):=fun i' _ r' hr h=>by rw [orAll_at hr,h];rfl
theorem updAll_le {n R i:Nat} {ks:List Int} {f:Nat→Nat→Bool}:MLe n R f (updAll i ks f):=fun i' _ r' hr h=>by rw [updAll_at,h];rfl
theorem Node_loop2 {c0:Nat} {p:Piece} (hr0:0 ≤ p.regs) (hR:p.regs ≤ 1048576) {i:Nat} (hi:i < p.ins.length) (but:Int):∀ (suf pre:List Int) (f:Nat→Nat→Bool),(pre ++ suf).length ≤ 1048576→(∀ k ∈ suf,0 ≤ k∧k.toNat < p.ins.length)→c0 ≤ cnt p.ins.length p.regs.toNat f→
  LL f_s_l10Node 2 lc_s_l10Node_2 [PSh.box [none,none,none,none,some 1,none],PSh.arr ⟨true,false,0⟩ true 1] k_s_l10Node_2
   (((),(i:Int),but,(pre ++ suf).map (.int .i64),(pre.length:Int),()),(p.lam,p.inn,p.regs,p.ins.map Ins.enc,(),decide (c0 < cnt p.ins.length p.regs.toNat f),()),(),em p.ins.length p.regs.toNat f,()) =
  some (.out 2 (((),(i:Int),but,(pre ++ suf).map (.int .i64),((pre ++ suf).length:Int),()),(p.lam,p.inn,p.regs,p.ins.map Ins.enc,(),decide (c0 < cnt p.ins.length p.regs.toNat (orAll p.regs.toNat i but suf f)),()),(),em p.ins.length p.regs.toNat (orAll p.regs.toNat i but suf f),()))
 |[],pre,f,hl,hk,hc=>by
  apply gl_s_l10Node_2
  unfold nl_s_l10Node_2
  rw [lt_end]
  simp [orAll]
  rfl
 |k :: suf,pre,f,hl,hk,hc=>by
  obtain ⟨k0,k1⟩:=hk k (by simp)
  have ih:=Node_loop2 (c0:=c0) hr0 hR hi but suf (pre ++ [k]) (orN f i k.toNat but p.regs.toNat) (by simpa using hl) (fun q hq=>hk q (by simp [hq])) (Nat.le_trans hc (cnt_mono orN_le))
  simp only [List.append_assoc,List.singleton_append] at ih
  have hset:=From_law (c0:=c0) (p:=p) (f:=f) hr0 hR hc hi k0 k1 but
  unfold boxP boxR at hset
  apply gl_s_l10Node_2
  unfold nl_s_l10Node_2
  rw [lt_mid,nn_mid,get_mid,wrap_mid pre suf k hl]
  simp only [br_true',Option.bind_some,fits_int,cell_int,hset,List.getElem?_cons_zero,List.getElem?_cons_succ,asInt_int,asSl_sl,asBool_bool]
  exact ih
def nodeF (p:Piece) (i:Nat) (f:Nat→Nat→Bool):Nat→Nat→Bool:=fun i' r=>f i' r || (decide (i'=i) && wantB p f i r)
theorem nodeF_le {n R:Nat} {p:Piece} {i:Nat} {f:Nat→Nat→Bool}:MLe n R f (nodeF p i f):=fun i' _ r' hr h=>by simp [nodeF,h]
theorem boxR_congr {c0:Nat} {p:Piece} {f g:Nat→Nat→Bool} (h:∀ i,i < p.ins.length→∀ r,r < p.regs.toNat→f i r=g i r):boxR c0 p f=boxR c0 p g:=by
 unfold boxR
 rw [em_congr h,cnt_congr h]
theorem Node_law {c0:Nat} {p:Piece} (F:Fit p) {f:Nat→Nat→Bool} (hc:c0 ≤ cnt p.ins.length p.regs.toNat f) {i:Nat} (hi:i < p.ins.length) :
  CC f_s_l10Node [.lptr 0 0,.v (.int .i64 i)] (boxP c0 p f)=some (boxR c0 p (nodeF p i f)):=by
 obtain ⟨x,hx⟩:∃ x,p.ins[i]? = some x:=⟨_,List.getElem?_eq_getElem hi⟩
 have hn:=F.n
 have hr0:=F.r0
 have hr:=F.r
 have hxo:=F.ok.ins (ins_mem hx)
 have hRd:=Reads_s hxo
 have hG:=guardOf_s F.ok (i:Int)
 have hRs:=May_law x.op
 have hN:=Normal_law F hx
 have hsl:=srt_len x.parts
 have hpl:=parts_len x
 have hll:=hxo.l_len
 have hl0:=Node_loop0 (c0:=c0) hi (srt x.parts) [] f (by simp;omega) (F.reads (ins_mem hx)) hc
 have hl2:=Node_loop2 (c0:=c0) hr0 (by omega) hi x.wr (normL i x) [] (updAll i (srt x.parts) f) (by have:=norm_len (i:=i) (x:=x);simp;omega) (fun k hk=>ways_lt F hx k (norm_mem.1 hk)) (Nat.le_trans hc (cnt_mono updAll_le))
 simp only [List.nil_append,List.length_nil,Int.cast_ofNat_Int] at hl0 hl2
 have hc2:=Nat.le_trans (Nat.le_trans hc (cnt_mono (updAll_le (i:=i) (ks:=srt x.parts) (f:=f)))) (cnt_mono (orAll_le (i:=i) (but:=x.wr) (ks:=normL i x)))
 have fin:∀ g:Nat→Nat→Bool,(∀ i',i' < p.ins.length→∀ r,r < p.regs.toNat→g i' r=(orAll p.regs.toNat i x.wr (normL i x) (updAll i (srt x.parts) f) i' r || (decide (i'=i) && grdB p f i x r)))→boxR c0 p g=boxR c0 p (nodeF p i f):=by
  intro g hg
  refine boxR_congr fun i' hi' r hr=>?_
  rw [hg i' hi' r hr,orAll_at hr]
  unfold nodeF wantB
  rw [hx]
  by_cases e:i'=i
  ·subst e
   simp only [decide_true,Bool.true_and,norm_any]
   have e1:((waysL i' x).any fun k=>updAll i' (srt x.parts) f k.toNat r && decide ((r:Int) ≠ x.wr))=((behB f i' x r) || ((waysL i' x).any fun k=>decide (k.toNat=i') && (readsB x r && decide ((r:Int) ≠ x.wr)))):=by
    unfold behB
    rw [Bool.eq_iff_iff]
    simp only [List.any_eq_true,Bool.or_eq_true,Bool.and_eq_true,updAll_at,readsB]
    constructor
    ·rintro ⟨k,hk,(h | ⟨h1,h2⟩),h3⟩
     ·exact .inl ⟨k,hk,h,h3⟩
     ·exact .inr ⟨k,hk,h1,h2,h3⟩
    ·rintro (⟨k,hk,h,h3⟩ | ⟨k,hk,h1,h2,h3⟩)
     ·exact ⟨k,hk,.inl h,h3⟩
     ·exact ⟨k,hk,.inr ⟨h1,h2⟩,h3⟩
   rw [e1,updAll_at]
   simp only [decide_true,Bool.true_and]
   rw [show ((srt x.parts).any fun k=>decide (k.toNat=r))=readsB x r from rfl]
   cases f i' r<;>cases readsB x r<;>cases behB f i' x r<;>cases grdB p f i' x r<;>simp
  ·rw [updAll_at]
   simp [e]
 unfold boxP
 apply go_s_l10Node
 unfold nf_s_l10Node
 simp only [ge0,br_true',ins_get hx,Option.bind_some,Ins.enc_fits,Ins.enc_sub,hRd,asSl_sl]
 rw [hl0]
 simp only [Option.bind_some,loK_out,beq_self_eq_true,ge0,br_true',ins_get hx,Ins.enc_fits,Ins.enc_sub,Writes_s,Piece.enc_eta,hN,asInt_int,asSl_sl]
 rw [hl2]
 simp only [Option.bind_some,loK_out,beq_self_eq_true,br_true',Piece.enc_eta,hG,asInt_int,ge0,ins_get hx,Ins.enc_fits,Ins.enc_cell0,hRs,cond_true,asBool_bool,asIdx_int]
 by_cases hg:0 ≤ guardOf p i
 ·obtain ⟨y,hy,hy17⟩:=guardX_op (p:=p) (i:=i) hg
  have hyg:(p.ins.map Ins.enc)[(guardOf p i).toNat]? = some y.enc:=by simp [hy]
  have hto:=F.to (List.mem_of_getElem? hy) (by rw [hy17];rfl)
  have hset:=From_law (c0:=c0) (p:=p) (f:=orAll p.regs.toNat i x.wr (normL i x) (updAll i (srt x.parts) f)) hr0 (by omega) hc2 hi hto.1 (by omega) y.d
  unfold boxP boxR at hset
  simp only [decide_eq_true hg,br_true',Option.bind_some,Bool.and_true]
  cases hrs:raisesB x.op with
  |true=>
   have hX:guardX p i x=some y:=by unfold guardX;rw [if_pos (by simp [hg,hrs]),hy]
   simp only [br_true',hyg,Option.bind_some,Ins.enc_fits,Ins.enc_cell6,Ins.enc_cell1,hset,List.getElem?_cons_zero,List.getElem?_cons_succ,asSl_sl]
   refine congrArg some (fin _ fun i' hi' r hr=>?_)
   unfold grdB
   rw [hX]
   unfold orN
   by_cases e:i'=i
   ·subst e
    simp only [decide_true,Bool.true_and,decide_eq_true hr]
    rw [orAll_at (i':=y.to.toNat) hr,orAll_at (i':=i') hr]
    simp only [decide_true,Bool.true_and]
    by_cases e2:y.to.toNat=i'
    ·rw [e2]
     simp only [decide_true,Bool.true_and]
     generalize ((normL i' x).any fun k=>updAll i' (srt x.parts) f k.toNat r && decide ((r:Int) ≠ x.wr))=A
     rw [updAll_at]
     simp only [decide_true,Bool.true_and]
     cases A<;>cases f i' r<;>cases ((srt x.parts).any fun k=>decide (k.toNat=r))<;>simp
    ·rw [updAll_at (i':=y.to.toNat)]
     simp [e2]
   ·simp [e]
  |false=>
   have hX:guardX p i x=none:=by unfold guardX;rw [if_neg (by simp [hrs])]
   simp only [br_false']
   refine congrArg some (fin _ fun i' hi' r hr=>?_)
   unfold grdB
   rw [hX]
   simp
 ·have hX:guardX p i x=none:=by unfold guardX;rw [if_neg (by simp [hg])]
  simp only [decide_eq_false hg,br_false',Option.bind_some]
  refine congrArg some (fin _ fun i' hi' r hr=>?_)
  unfold grdB
  rw [hX]
  simp
theorem New_loop {p:Piece} (F:Fit p):∀ (d k:Nat),k + d=p.ins.length→
  LL f_s_l10New 0 lc_s_l10New_0 [] k_s_l10New_0 ((.fp p.enc 0,(),(k:Int),()),(p.lam,p.inn,p.regs,p.ins.map Ins.enc,(),false,()),em k p.regs.toNat (fun _ _=>false),()) =
   some (.out 0 ((.fp p.enc 0,(),(p.ins.length:Int),()),(p.lam,p.inn,p.regs,p.ins.map Ins.enc,(),false,()),em p.ins.length p.regs.toNat (fun _ _=>false),()))
 |0,k,h=>by
  have e:k=p.ins.length:=by omega
  subst e
  apply gl_s_l10New_0
  unfold nl_s_l10New_0
  simp
 |d + 1,k,h=>by
  have ih:=New_loop F d (k + 1) (by omega)
  have hn:=F.n
  have hr:=F.r
  have hw:=wrap_succ (i:=k) (by omega)
  rw [show (((k + 1:Nat)):Int)=(k:Int) + 1 by omega] at ih
  have hlt:decide ((k:Int) < (((p.ins.map Ins.enc).length:Nat):Int))=true:=decide_eq_true (by rw [List.length_map];omega)
  have b1:(decide ((0:Int) ≤ p.regs) && decide True && decide (p.regs ≤ (1048576:Int)))=true:=by
   rw [decide_eq_true F.r0,decide_eq_true trivial,decide_eq_true (show p.regs ≤ 1048576 by omega)];rfl
  have b2:(decide ((em k p.regs.toNat fun _ _=>false).length + 1 ≤ 4294967296) && true && true)=true:=by
   rw [decide_eq_true (by rw [em_len];omega)];rfl
  have e3:em k p.regs.toNat (fun _ _=>false) ++ [.sl (List.replicate p.regs.toNat (CVal.bool false))]=em (k + 1) p.regs.toNat (fun _ _=>false):=by
   rw [rowL_false,em_snoc]
   exact em_congr fun i _ r _=>by split<;>rfl
  apply gl_s_l10New_0
  unfold nl_s_l10New_0
  simp only [asFp_fp,Option.bind_some,Nat.zero_add,Piece.enc_cell3,Piece.enc_cell2,asSl_sl,hlt,br_true',asIdx_int]
  rw [b1]
  simp only [br_true',b2,hw,e3]
  exact ih
theorem New_law {p:Piece} (F:Fit p):CC f_s_l10New [.v p.enc] []=some (.fp (.agg [.int .i64 p.lam,.int .i64 p.inn,.int .i64 p.regs,.sl (p.ins.map Ins.enc),.sl (em p.ins.length p.regs.toNat fun _ _=>false),.bool false]) 0,[]):=by
 have hloop:=New_loop F p.ins.length 0 (by omega)
 simp only [Int.cast_ofNat_Int] at hloop
 have e0:em 0 p.regs.toNat (fun _ _=>false)=[]:=rfl
 rw [e0] at hloop
 rw [Piece.enc_def]
 apply go_s_l10New
 unfold nf_s_l10New
 simp only [Piece.enc_eta]
 rw [hloop]
 rfl
end Go.Proofs.Ytognghbhdalckaa.Abs

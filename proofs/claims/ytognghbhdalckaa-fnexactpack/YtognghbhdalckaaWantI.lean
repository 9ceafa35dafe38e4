/- A part. -/
import Derived.Test.YtognghbhdalckaaWanted
set_option linter.unusedVariables false
set_option linter.unusedSimpArgs false
set_option maxRecDepth 100000
namespace Go.Proofs.Ytognghbhdalckaa.Abs
open Go Go.Proofs
def takeN (n:Nat) (a b:Nat→Bool) (but:Int):Nat→Bool:=fun r=>a r || (decide (r < n) && (b r && decide ((r:Int) ≠ but)))
theorem takeN_zero {a b:Nat→Bool} {but:Int}:takeN 0 a b but=a:=by funext r;simp [takeN]
theorem takeN_at {r:Nat} {a b:Nat→Bool} {but:Int}:takeN r a b but r=a r:=by simp [takeN]
theorem takeN_set {R r:Nat} {a b:Nat→Bool} {but:Int} {v:Bool} (hv:v=(a r || (b r && decide ((r:Int) ≠ but)))):(rowL R (takeN r a b but)).set r (.bool v)=rowL R (takeN (r + 1) a b but):=by
 rw [rowL_set]
 refine rowL_congr fun r' _=>?_
 by_cases e:r'=r
 ·subst e
  rw [if_pos rfl,hv]
  simp [takeN]
 ·rw [if_neg e]
  unfold takeN
  have:decide (r' < r)=decide (r' < r + 1):=by
   rw [decide_eq_decide];omega
  rw [this]
theorem take_loop (R:Nat) (hR:R ≤ 1048576) (but:Int) (a b:Nat→Bool):∀ (d r:Nat),r + d=R→
  LL f_i_wanted_1 0 lc_i_wanted_1_0 [PSh.box [some 1],PSh.arr ⟨true,false,0⟩ true 1] k_i_wanted_1_0 ((but,(),rowL R b,(R:Int),(r:Int),()),((),()),(),rowL R (takeN r a b but),()) =
   some (.out 0 ((but,(),rowL R b,(R:Int),(R:Int),()),((),()),(),rowL R (takeN R a b but),()))
 |0,r,h=>by
  have:r=R:=by omega
  subst this
  apply gl_i_wanted_1_0
  unfold nl_i_wanted_1_0
  simp
 |d + 1,r,h=>by
  have hr:r < R:=by omega
  have ih:=take_loop R hR but a b d (r + 1) (by omega)
  have hw:=wrap_succ (i:=r) (by omega)
  have hlt:decide ((r:Int) < (R:Int))=true:=decide_eq_true (by omega)
  have hlt2:decide (((r:Nat):Int).toNat < (rowL R (takeN r a b but)).length)=true:=by simp [hr]
  rw [show (((r + 1:Nat)):Int)=(r:Int) + 1 by omega] at ih
  have s1:=takeN_set (R:=R) (r:=r) (a:=a) (b:=b) (but:=but) (v:=true)
  have s2:=takeN_set (R:=R) (r:=r) (a:=a) (b:=b) (but:=but) (v:=!decide ((r:Int)=but))
  have s3:=takeN_set (R:=R) (r:=r) (a:=a) (b:=b) (but:=but) (v:=false)
  have g1:=rowL_get (g:=b) hr
  have g2:=rowL_get (g:=takeN r a b but) hr
  rw [takeN_at] at g2
  have tn:((r:Nat):Int).toNat=r:=by simp
  apply gl_i_wanted_1_0
  unfold nl_i_wanted_1_0
  simp only [hlt,br_true',ge0,tn,g1,g2,Option.bind_some,fits_bool,cell_bool,asBool_bool,rowL_len,decide_eq_true hr,Bool.and_true,hw]
  cases ha:a r with
  |true=>
   rw [ha] at s1
   simp only [br_true']
   rw [s1 (by simp)]
   exact ih
  |false=>
   simp only [br_false']
   cases hb:b r with
   |true=>
    rw [ha,hb] at s2
    simp only [br_true']
    rw [s2 (by simp)]
    exact ih
   |false=>
    rw [ha,hb] at s3
    simp only [br_false']
    rw [s3 (by simp)]
    exact ih
theorem take_law {n R:Nat} (hn:n ≤ 1048576) (hR:R ≤ 1048576) (k but:Int) (h0:0 ≤ k) (hk:k.toNat < n) (f:Nat→Nat→Bool) (a:Nat→Bool) :
  CC f_i_wanted_1 [.v (.int .i64 k),.v (.int .i64 but),.v (.fp (.sl (em n R f)) 0),.lptr 0 0] [PB.box [.lref 1 0],PB.arr ⟨true,false,0⟩ true 1 (rowL R a)]=some (.tup [],[[.sl (rowL R (takeN R a (f k.toNat) but))],[]]):=by
 have hloop:=take_loop R hR but a (f k.toNat) R 0 (by omega)
 rw [takeN_zero] at hloop
 simp only [Int.cast_ofNat_Int] at hloop
 apply go_i_wanted_1
 unfold nf_i_wanted_1
 simp only [decide_eq_true h0,Bool.and_true,br_true',em_get hk,Option.bind_some,fits_sl,show ∀ l,CVal.cell (.sl l) 0=some (.sl l) from fun _=>rfl,asSl_sl,rowL_len]
 rw [hloop]
 rfl
def takeAll (R:Nat) (f:Nat→Nat→Bool) (but:Int) (ks:List Int) (g:Nat→Bool):Nat→Bool:=ks.foldl (fun g k=>takeN R g (f k.toNat) but) g
theorem takeAll_at {R:Nat} {f:Nat→Nat→Bool} {but:Int} {r:Nat} (hr:r < R):∀ {ks:List Int} {g:Nat→Bool},takeAll R f but ks g r=(g r || ks.any fun k=>f k.toNat r && decide ((r:Int) ≠ but))
 |[],g=>by simp [takeAll]
 |k :: ks,g=>by
  have ih:=takeAll_at (f:=f) (but:=but) hr (ks:=ks) (g:=takeN R g (f k.toNat) but)
  unfold takeAll at ih ⊢
  rw [List.foldl_cons,ih]
  simp [takeN,hr,Bool.or_assoc]
theorem wanted_loop {n R:Nat} (hn:n ≤ 1048576) (hR:R ≤ 1048576) (p:Piece) (i:Int) (x:Ins) (f:Nat→Nat→Bool):∀ (suf pre:List Int) (g:Nat→Bool),(pre ++ suf).length ≤ 1048576→(∀ k ∈ suf,0 ≤ k∧k.toNat < n)→
  LL f_i_wanted 0 lc_i_wanted_0 [] k_i_wanted_0 ((i,(),(),(),(.fp (.sl (em n R f)) 0,()),(pre ++ suf).map (.int .i64),((pre ++ suf).length:Int),(pre.length:Int),()),(p.lam,p.inn,p.regs,p.ins.map Ins.enc,()),((),()),rowL R g,(x.op,x.d,x.x,x.y,x.n,x.l.map (.int .i64),x.to,()),()) =
   some (.out 0 ((i,(),(),(),(.fp (.sl (em n R f)) 0,()),(pre ++ suf).map (.int .i64),((pre ++ suf).length:Int),((pre ++ suf).length:Int),()),(p.lam,p.inn,p.regs,p.ins.map Ins.enc,()),((),()),rowL R (takeAll R f x.wr suf g),(x.op,x.d,x.x,x.y,x.n,x.l.map (.int .i64),x.to,()),()))
 |[],pre,g,hl,hk=>by
  apply gl_i_wanted_0
  unfold nl_i_wanted_0
  rw [lt_end']
  simp [takeAll]
 |k :: suf,pre,g,hl,hk=>by
  have ih:=wanted_loop hn hR p i x f suf (pre ++ [k]) (takeN R g (f k.toNat) x.wr) (by simpa using hl) (fun q hq=>hk q (by simp [hq]))
  simp only [List.append_assoc,List.singleton_append] at ih
  obtain ⟨k0,k1⟩:=hk k (by simp)
  apply gl_i_wanted_0
  unfold nl_i_wanted_0
  rw [lt_mid',nn_mid,get_mid,wrap_mid pre suf k hl]
  simp only [br_true',Option.bind_some,fits_int,cell_int,Ins.enc_eta,Writes_i,take_law hn hR k x.wr k0 k1 f g,List.getElem?_cons_zero,List.getElem?_cons_succ,asSl_sl]
  exact ih
def setAll (ks:List Int) (g:Nat→Bool):Nat→Bool:=ks.foldl (fun g k=>fun r=>if r=k.toNat then true else g r) g
theorem setAll_at {r:Nat}:∀ {ks:List Int} {g:Nat→Bool},setAll ks g r=(g r || ks.any fun k=>decide (k.toNat=r))
 |[],g=>by simp [setAll]
 |k :: ks,g=>by
  have ih:=setAll_at (r:=r) (ks:=ks) (g:=fun r=>if r=k.toNat then true else g r)
  unfold setAll at ih ⊢
  rw [List.foldl_cons,ih]
  by_cases e:r=k.toNat
  ·simp [e]
  ·have:¬ k.toNat=r:=fun h=>e h.symm
   simp [e,this]
theorem wanted_loop2 {R:Nat}:∀ (suf pre:List Int) (g:Nat→Bool),(pre ++ suf).length ≤ 1048576→(∀ k ∈ suf,0 ≤ k∧k.toNat < R)→
  LL f_i_wanted 2 lc_i_wanted_2 [] k_i_wanted_2 (((),(pre ++ suf).map (.int .i64),((pre ++ suf).length:Int),(pre.length:Int),()),((),()),rowL R g,()) =
   some (.out 2 (((),(pre ++ suf).map (.int .i64),((pre ++ suf).length:Int),((pre ++ suf).length:Int),()),((),()),rowL R (setAll suf g),()))
 |[],pre,g,hl,hk=>by
  apply gl_i_wanted_2
  unfold nl_i_wanted_2
  rw [lt_end']
  simp [setAll]
 |k :: suf,pre,g,hl,hk=>by
  have ih:=wanted_loop2 (R:=R) suf (pre ++ [k]) (fun r=>if r=k.toNat then true else g r) (by simpa using hl) (fun q hq=>hk q (by simp [hq]))
  simp only [List.append_assoc,List.singleton_append] at ih
  obtain ⟨k0,k1⟩:=hk k (by simp)
  apply gl_i_wanted_2
  unfold nl_i_wanted_2
  rw [lt_mid',nn_mid,get_mid,wrap_mid pre suf k hl]
  simp only [br_true',Option.bind_some,fits_int,cell_int,asIdx_int,decide_eq_true k0,Bool.and_true,rowL_len,decide_eq_true k1,rowL_get k1,fits_bool,rowL_set]
  exact ih
theorem wanted_law {p:Piece} (F:Fit p) (f:Nat→Nat→Bool) {i:Nat} (hi:i < p.ins.length) :
  CC f_i_wanted [.v p.enc,.v (.int .i64 i),.v (.sl (em p.ins.length p.regs.toNat f))] []=some (.sl (rowL p.regs.toNat (wantB p f i)),[]):=by
 obtain ⟨x,hx⟩:∃ x,p.ins[i]? = some x:=⟨_,List.getElem?_eq_getElem hi⟩
 have hn:=F.n
 have hr0:=F.r0
 have hr:=F.r
 have hxo:=F.ok.ins (ins_mem hx)
 have hW:=ways_law F hx
 have hRd:=Reads_i hxo
 have hG:=guardOf_i F.ok (i:Int)
 have hRs:=raises_law x.op
 have hl1:=wanted_loop (n:=p.ins.length) (R:=p.regs.toNat) (by omega) (by omega) p i x f (waysL i x) [] (fun _=>false) (by have:=ways_len (i:=i) (x:=x);simp;omega) (ways_lt F hx)
 have hsl:=srt_len x.parts
 have hpl:=parts_len x
 have hll:=hxo.l_len
 have hl2:=fun g=>wanted_loop2 (R:=p.regs.toNat) (srt x.parts) [] g (by simp;omega) (fun k hk=>by have:=F.reads (ins_mem hx) k hk;omega)
 simp only [List.nil_append,List.length_nil,Int.cast_ofNat_Int] at hl1 hl2
 have fin:∀ g:Nat→Bool,(∀ r,r < p.regs.toNat→g r=(behB f i x r || grdB p f i x r))→
   ((LL f_i_wanted 2 lc_i_wanted_2 [] k_i_wanted_2 (((),(srt x.parts).map (.int .i64),((srt x.parts).length:Int),(0:Int),()),((),()),rowL p.regs.toNat g,())).bind fun r=>
    loK r (fun r=>some r) fun j p=>br (j == (2:Nat)) (some (CVal.sl p.snd.snd.1,([]:List (List CVal)))) none)=some (.sl (rowL p.regs.toNat (wantB p f i)),[]):=by
  intro g hg
  rw [hl2 g]
  have:rowL p.regs.toNat (setAll (srt x.parts) g)=rowL p.regs.toNat (wantB p f i):=by
   refine rowL_congr fun r hr=>?_
   rw [setAll_at,hg r hr]
   unfold wantB readsB
   rw [hx]
   simp only [Bool.or_assoc]
  simp only [Option.bind_some,loK_out,beq_self_eq_true,br_true',this]
 have b1:(decide ((0:Int) ≤ p.regs) && decide (p.regs=p.regs) && decide (p.regs ≤ (1048576:Int)))=true:=by
  rw [decide_eq_true hr0,decide_eq_true rfl,decide_eq_true (show p.regs ≤ 1048576 by omega)];rfl
 have hbeh:∀ r,r < p.regs.toNat→takeAll p.regs.toNat f x.wr (waysL i x) (fun _=>false) r=behB f i x r:=by
  intro r hr
  rw [takeAll_at hr]
  simp [behB]
 rw [Piece.enc_def]
 apply go_i_wanted
 unfold nf_i_wanted
 rw [b1]
 simp only [br_true',ge0,ins_get hx,Option.bind_some,Ins.enc_fits,Ins.enc_sub,Ins.enc_isAggN,Ins.enc_cell0,Ins.enc_cell1,Ins.enc_cell2,Ins.enc_cell3,Ins.enc_cell4,Ins.enc_cell5,Ins.enc_cell6,asInt_int,asSl_sl,Piece.enc_eta,hW,rowL_false,List.length_map]
 rw [hl1]
 simp only [Option.bind_some,loK_out,beq_self_eq_true,br_true',Piece.enc_eta,hG,asInt_int,hRs,cond_true,asBool_bool,asIdx_int,Ins.enc_eta,hRd,asSl_sl,List.length_map]
 by_cases hg:0 ≤ guardOf p i
 ·obtain ⟨y,hy,hy17⟩:=guardX_op (p:=p) (i:=i) hg
  have hyg:(p.ins.map Ins.enc)[(guardOf p i).toNat]? = some y.enc:=by simp [hy]
  have hto:=F.to (List.mem_of_getElem? hy) (by rw [hy17];rfl)
  simp only [decide_eq_true hg,br_true',Option.bind_some,Bool.and_true]
  cases hrs:raisesB x.op with
  |true=>
   have hX:guardX p i x=some y:=by unfold guardX;rw [if_pos (by simp [hg,hrs]),hy]
   simp only [br_true',hyg,Option.bind_some,Ins.enc_fits,Ins.enc_cell6,Ins.enc_cell1,take_law (n:=p.ins.length) (R:=p.regs.toNat) (by omega) (by omega) y.to y.d hto.1 (by omega) f (takeAll p.regs.toNat f x.wr (waysL i x) fun _=>false),List.getElem?_cons_zero,List.getElem?_cons_succ,asSl_sl]
   refine fin _ fun r hr=>?_
   unfold takeN
   rw [hbeh r hr]
   unfold grdB
   rw [hX]
   simp [hr]
  |false=>
   have hX:guardX p i x=none:=by unfold guardX;rw [if_neg (by simp [hrs])]
   simp only [br_false']
   refine fin _ fun r hr=>?_
   rw [hbeh r hr]
   unfold grdB
   rw [hX]
   simp
 ·have hX:guardX p i x=none:=by unfold guardX;rw [if_neg (by simp [hg])]
  simp only [decide_eq_false hg,br_false',Option.bind_some]
  refine fin _ fun r hr=>?_
  rw [hbeh r hr]
  unfold grdB
  rw [hX]
  simp
end Go.Proofs.Ytognghbhdalckaa.Abs

/- A part. -/
import Derived.Test.YtognghbhdalckaaMarks
import Derived.Test.YtognghbhdalckaaGuardLaws
import Derived.Test.YtognghbhdalckaaReadsLaw
import Derived.Test.YtognghbhdalckaaPieceOk
set_option linter.unusedVariables false
set_option linter.unusedSimpArgs false
set_option maxRecDepth 100000
namespace Go.Proofs.Ytognghbhdalckaa.Abs
open Go Go.Proofs
structure Fit (p:Piece):Prop where
 ok:p.ok
 n:p.ins.length ≤ 600
 n1:1 ≤ p.ins.length
 r0:0 ≤ p.regs
 r:p.regs ≤ 400
 i0:0 ≤ p.inn
 i1:p.inn ≤ p.regs
 ins:∀ x ∈ p.ins,insOkB p x=true
 last:lastB p=true
theorem fit_of {p:Piece} (hok:p.ok) (h:pieceB p=true):Fit p:=by
 unfold pieceB at h
 simp only [Bool.and_eq_true,decide_eq_true_eq,List.all_eq_true] at h
 obtain ⟨⟨h1,h2⟩,hl,⟨h3,h4⟩,h5,h6⟩:=h
 have hi:0 ≤ p.inn:=by
  unfold lamB at hl
  simp at hl
  omega
 exact ⟨hok,by omega,by omega,by omega,h4,hi,h3,h5,h6⟩
section
variable {p:Piece} (F:Fit p) {x:Ins}
include F
theorem Fit.parts6 (hx:x ∈ p.ins):fieldB x.to (uses x.op).2.2.2 p.ins.length=true∧fieldB x.d (uses x.op).1 p.regs=true∧fieldB x.x (uses x.op).2.1 p.regs=true∧fieldB x.y (uses x.op).2.2.1 p.regs=true∧listB p x=true:=by
 have h:=F.ins x hx
 unfold insOkB at h
 rw [uses_T,uses_D,uses_X,uses_Y] at h
 simp only [Bool.and_eq_true] at h
 exact ⟨h.2.2.1,h.2.2.2.1,h.2.2.2.2.1,h.2.2.2.2.2.1,h.2.2.2.2.2.2⟩
theorem Fit.to (hx:x ∈ p.ins) (h:(uses x.op).2.2.2=true):0 ≤ x.to∧x.to < p.ins.length:=by
 have:=(F.parts6 hx).1
 rw [h] at this
 simpa [fieldB] using this
theorem Fit.d (hx:x ∈ p.ins) (h:(uses x.op).1=true):0 ≤ x.d∧x.d < p.regs:=by
 have:=(F.parts6 hx).2.1
 rw [h] at this
 simpa [fieldB] using this
theorem Fit.parts (hx:x ∈ p.ins):∀ r ∈ x.parts,0 ≤ r∧r < p.regs:=by
 intro r hr
 obtain ⟨_,_,h3,h4,h5⟩:=F.parts6 hx
 unfold Ins.parts at hr
 simp only [List.mem_append] at hr
 rcases hr with hr | hr | hr
 ·split at hr
  ·rename_i h;rw [h] at h3
   simp at hr;subst hr
   simpa [fieldB] using h3
  ·cases hr
 ·split at hr
  ·rename_i h;rw [h] at h4
   simp at hr;subst hr
   simpa [fieldB] using h4
  ·cases hr
 ·split at hr
  ·rename_i h
   unfold listB at h5
   rw [decide_eq_true h,cond_true,List.all_eq_true] at h5
   have:=h5 r hr
   simp at this;omega
  ·cases hr
theorem Fit.reads (hx:x ∈ p.ins):∀ r ∈ srt x.parts,0 ≤ r∧r < p.regs:=fun r hr=>F.parts hx r (((srt_spec x.parts).2 r).1 hr)
end
def Ins.wr (t:Ins):Int:=if (uses t.op).1 && !decide (t.op=17) then t.d else -1
theorem Writes_i (t:Ins):CC f_i_Writes [.v t.enc] []=some (.int .i64 t.wr,[]):=by
 rw [Ins.enc_def]
 apply go_i_Writes
 unfold nf_i_Writes Ins.wr
 simp only [hasPart_law,uses_D,Option.bind_some,asBool_bool]
 cases (uses t.op).1 with
 |true=>by_cases h:t.op=17<;>simp [h]
 |false=>simp
theorem Writes_s (t:Ins):CC f_s_Writes [.v t.enc] []=some (.int .i64 t.wr,[]):=by
 rw [Ins.enc_def]
 apply go_s_Writes
 unfold nf_s_Writes Ins.wr
 simp only [uses_law,Option.bind_some,isAgg_agg,cell_agg,List.getElem?_cons_zero,asBool_bool,br_true']
 by_cases h:t.op=17
 ·simp [h]
 ·cases (uses t.op).1<;>simp [h]
def raisesB (op:Int):Bool:=bif decide (op=5) then true else bif decide (op=14) then true else bif decide (op=16) then true else bif decide (op=9) then true else bif decide (op=10) then true else bif decide (op=11) then true else bif decide (op=12) then true else false
theorem br_bool {b c d:Bool} {l:List (List CVal)}:br b (some (CVal.bool c,l)) (some (CVal.bool d,l))=some (CVal.bool (bif b then c else d),l):=by cases b<;>rfl
theorem raises_law (op:Int):CC f_i_raises [.v (.int .i64 op)] []=some (.bool (raisesB op),[]):=by
 apply go_i_raises
 unfold nf_i_raises raisesB
 simp only [br_bool]
theorem May_law (op:Int):CC f_s_l10May [.v (.int .i64 op)] []=some (.bool (raisesB op),[]):=by
 apply go_s_l10May
 unfold nf_s_l10May raisesB
 simp only [br_bool]
def waysL (i:Nat) (x:Ins):List Int:=(if x.op=13∨x.op=11∨x.op=12 then [x.to] else []) ++ (if x.op=13∨x.op=15∨x.op=16 then [] else [(i:Int) + 1])
def normL (i:Nat) (x:Ins):List Int:=
 if x.op=15 then [] else if x.op=16 then [] else if x.op=13 then [x.to] else
 if x.op=11∨x.op=12 then (if x.to < (i:Int) + 1 then [x.to,(i:Int) + 1] else if (i:Int) + 1 < x.to then [(i:Int) + 1,x.to] else [(i:Int) + 1]) else [(i:Int) + 1]
theorem ins_get {p:Piece} {i:Nat} {x:Ins} (hx:p.ins[i]? = some x):(p.ins.map Ins.enc)[((i:Nat):Int).toNat]? = some x.enc:=by simp [hx]
theorem ins_lt {p:Piece} {i:Nat} {x:Ins} (hx:p.ins[i]? = some x):i < p.ins.length:=(List.getElem?_eq_some_iff.1 hx).1
theorem ins_mem {p:Piece} {i:Nat} {x:Ins} (hx:p.ins[i]? = some x):x ∈ p.ins:=List.mem_of_getElem? hx
theorem wrap_succ {i:Nat} (h:i ≤ 1048576):IntKind.i64.wrap ((i:Int) + 1)=(i:Int) + 1:=by rw [wrap_i64]<;>omega
theorem ge0 (i:Nat):(decide ((0:Int) ≤ (i:Int)) && true)=true:=by simp
theorem ways_law {p:Piece} (F:Fit p) {i:Nat} {x:Ins} (hx:p.ins[i]? = some x):CC f_i_ways [.v p.enc,.v (.int .i64 i)] []=some (.sl ((waysL i x).map (.int .i64)),[]):=by
 have hi:=ins_lt hx
 have hn:=F.n
 have hw:=wrap_succ (i:=i) (by omega)
 rw [Piece.enc_def]
 apply go_i_ways
 unfold nf_i_ways waysL
 simp only [ge0,br_true',ins_get hx,Option.bind_some,Ins.enc_fits,Ins.enc_sub,Ins.enc_isAggN,Ins.enc_cell0,Ins.enc_cell1,Ins.enc_cell2,Ins.enc_cell3,Ins.enc_cell4,Ins.enc_cell5,Ins.enc_cell6,asInt_int,isFlat_int,Bool.and_self,hw]
 by_cases h13:x.op=13
 ·simp [h13]
 ·by_cases h11:x.op=11
  ·simp [h11]
  ·by_cases h12:x.op=12
   ·simp [h12]
   ·by_cases h15:x.op=15
    ·simp [h15]
    ·by_cases h16:x.op=16
     ·simp [h16]
     ·simp [h13,h11,h12,h15,h16]
theorem Normal_law {p:Piece} (F:Fit p) {i:Nat} {x:Ins} (hx:p.ins[i]? = some x):CC f_s_l10Normal [.v p.enc,.v (.int .i64 i)] []=some (.sl ((normL i x).map (.int .i64)),[]):=by
 have hi:=ins_lt hx
 have hn:=F.n
 have hw:=wrap_succ (i:=i) (by omega)
 rw [Piece.enc_def]
 apply go_s_l10Normal
 unfold nf_s_l10Normal normL
 simp only [ge0,br_true',ins_get hx,Option.bind_some,Ins.enc_fits,Ins.enc_sub,Ins.enc_isAggN,Ins.enc_cell0,Ins.enc_cell1,Ins.enc_cell2,Ins.enc_cell3,Ins.enc_cell4,Ins.enc_cell5,Ins.enc_cell6,asInt_int,isFlat_int,Bool.and_self,hw]
 by_cases h15:x.op=15
 ·simp [h15]
 by_cases h16:x.op=16
 ·simp [h16]
 by_cases h13:x.op=13
 ·simp [h13]
 by_cases h11:x.op=11
 ·simp only [h11,br_decide]
  by_cases a:x.to < (i:Int) + 1
  ·simp [a]
  ·by_cases b:(i:Int) + 1 < x.to<;>simp [a,b]
 by_cases h12:x.op=12
 ·simp only [h12,br_decide]
  by_cases a:x.to < (i:Int) + 1
  ·simp [a]
  ·by_cases b:(i:Int) + 1 < x.to<;>simp [a,b]
 simp [h13,h11,h12,h15,h16]
theorem norm_mem {i:Nat} {x:Ins} {k:Int}:k ∈ normL i x↔k ∈ waysL i x:=by
 unfold normL waysL
 by_cases h15:x.op=15
 ·simp [h15]
 by_cases h16:x.op=16
 ·simp [h16]
 by_cases h13:x.op=13
 ·simp [h13]
 by_cases h11:x.op=11
 ·simp only [h11]
  by_cases a:x.to < (i:Int) + 1
  ·simp [a]
  ·by_cases b:(i:Int) + 1 < x.to
   ·simp [a,b,or_comm]
   ·have:x.to=(i:Int) + 1:=by omega
    simp [this]
 by_cases h12:x.op=12
 ·simp only [h12]
  by_cases a:x.to < (i:Int) + 1
  ·simp [a]
  ·by_cases b:(i:Int) + 1 < x.to
   ·simp [a,b,or_comm]
   ·have:x.to=(i:Int) + 1:=by omega
    simp [this]
 simp [h13,h11,h12,h15,h16]
theorem norm_any {i:Nat} {x:Ins} (q:Int→Bool):(normL i x).any q=(waysL i x).any q:=by
 rw [Bool.eq_iff_iff]
 simp only [List.any_eq_true,norm_mem]
theorem ways_len {i:Nat} {x:Ins}:(waysL i x).length ≤ 2:=by
 unfold waysL
 rw [List.length_append]
 have h1:(if x.op=13∨x.op=11∨x.op=12 then [x.to] else []).length ≤ 1:=by split<;>simp
 have h2:(if x.op=13∨x.op=15∨x.op=16 then [] else [(i:Int) + 1]).length ≤ 1:=by split<;>simp
 omega
theorem norm_len {i:Nat} {x:Ins}:(normL i x).length ≤ 2:=by
 unfold normL
 repeat' split
 all_goals simp
theorem ways_lt {p:Piece} (F:Fit p) {i:Nat} {x:Ins} (hx:p.ins[i]? = some x):∀ k ∈ waysL i x,0 ≤ k∧k.toNat < p.ins.length:=by
 intro k hk
 unfold waysL at hk
 rw [List.mem_append] at hk
 rcases hk with hk | hk
 ·split at hk
  ·rename_i h
   simp at hk;subst hk
   have:=F.to (ins_mem hx) (by rcases h with h | h | h<;>rw [h]<;>rfl)
   omega
  ·cases hk
 ·split at hk
  ·cases hk
  ·rename_i h
   simp at hk;subst hk
   have hi:=ins_lt hx
   refine ⟨by omega,?_⟩
   rcases Nat.lt_or_ge (i + 1) p.ins.length with h' | h'
   ·omega
   ·exfalso
    have hl:=F.last
    unfold lastB at hl
    rw [List.getLast?_eq_getElem?,show p.ins.length - 1=i by omega,hx] at hl
    simp only [Bool.or_eq_true,decide_eq_true_eq] at hl
    omega
theorem guardStep_op {st:List Int} {k y:Int} {x:Ins} (h:y ∈ guardStep st k x):y ∈ st∨(y=k∧x.op=17):=by
 unfold guardStep at h
 split at h
 ·rename_i h17
  simp at h
  exact h.imp id fun e=>⟨e,h17⟩
 split at h
 ·exact .inl ((List.dropLast_subset _ h))
 ·exact .inl h
theorem guardSt_op:∀ {l:List Ins} {st:List Int} {k y:Int},y ∈ guardSt st k l→y ∈ st∨(k ≤ y∧∃ x,l[(y - k).toNat]? = some x∧x.op=17)
 |[],st,k,y,h=>.inl h
 |x :: r,st,k,y,h=>by
  rcases guardSt_op (l:=r) h with h | ⟨h,z,hz,h17⟩
  ·rcases guardStep_op h with h | ⟨e,h17⟩
   ·exact .inl h
   ·exact .inr ⟨by omega,x,by rw [e];simp,h17⟩
  ·refine .inr ⟨by omega,z,?_,h17⟩
   rw [show (y - k).toNat=(y - (k + 1)).toNat + 1 by omega]
   simpa using hz
def guardX (p:Piece) (i:Nat) (x:Ins):Option Ins:=if (decide (0 ≤ guardOf p i) && raisesB x.op)=true then p.ins[(guardOf p i).toNat]? else none
theorem guardX_op {p:Piece} {i:Nat} (hn:0 ≤ guardOf p i):∃ y,p.ins[(guardOf p i).toNat]? = some y∧y.op=17:=by
 unfold guardOf at hn ⊢
 split at hn
 ·rename_i hi
  rw [if_pos hi]
  cases hl:(guardSt [] 0 (p.ins.take (i:Int).toNat)).getLast? with
  |none=>rw [hl] at hn;simp at hn
  |some y=>
   rw [hl] at hn
   simp only [Option.getD_some] at hn ⊢
   have hm:y ∈ guardSt [] 0 (p.ins.take (i:Int).toNat):=List.mem_of_getLast? hl
   rcases guardSt_op hm with h2 | ⟨_,z,hz,h17⟩
   ·cases h2
   ·rw [Int.sub_zero,List.getElem?_take] at hz
    split at hz
    ·exact ⟨z,hz,h17⟩
    ·cases hz
 ·omega
theorem guardX_lt {p:Piece} (F:Fit p) {i:Nat} {x y:Ins} (h:guardX p i x=some y):0 ≤ y.to∧y.to.toNat < p.ins.length:=by
 unfold guardX at h
 split at h
 ·rename_i hg
  simp only [Bool.and_eq_true,decide_eq_true_eq] at hg
  obtain ⟨z,hz,h17⟩:=guardX_op (p:=p) (i:=i) hg.1
  rw [hz] at h;cases h
  have:=F.to (x:=y) (List.mem_of_getElem? hz) (by rw [h17];rfl)
  omega
 ·cases h
def readsB (x:Ins) (r:Nat):Bool:=(srt x.parts).any fun k=>decide (k.toNat=r)
def behB (f:Nat→Nat→Bool) (i:Nat) (x:Ins) (r:Nat):Bool:=(waysL i x).any fun k=>f k.toNat r && decide ((r:Int) ≠ x.wr)
def grdB (p:Piece) (f:Nat→Nat→Bool) (i:Nat) (x:Ins) (r:Nat):Bool:=
 match guardX p i x with
 |some y=>f y.to.toNat r && decide ((r:Int) ≠ y.d)
 |none=>false
def wantB (p:Piece) (f:Nat→Nat→Bool) (i r:Nat):Bool:=
 match p.ins[i]? with
 |some x=>behB f i x r || (grdB p f i x r || readsB x r)
 |none=>false
theorem wantB_mono {p:Piece} (F:Fit p) {f g:Nat→Nat→Bool} (h:MLe p.ins.length p.regs.toNat f g) {i r:Nat} (hr:r < p.regs.toNat) (e:wantB p f i r=true):wantB p g i r=true:=by
 unfold wantB at e ⊢
 cases hx:p.ins[i]? with
 |none=>rw [hx] at e;cases e
 |some x=>
  rw [hx] at e
  simp only [Bool.or_eq_true] at e ⊢
  rcases e with e | e | e
  ·refine .inl ?_
   unfold behB at e ⊢
   rw [List.any_eq_true] at e ⊢
   obtain ⟨k,hk,e⟩:=e
   rw [Bool.and_eq_true] at e
   exact ⟨k,hk,by rw [h _ (ways_lt F hx k hk).2 r hr e.1,e.2];rfl⟩
  ·refine .inr (.inl ?_)
   unfold grdB at e ⊢
   split at e
   ·rename_i y hy
    rw [Bool.and_eq_true] at e
    rw [h _ (guardX_lt F hy).2 r hr e.1,e.2];rfl
   ·cases e
  ·exact .inr (.inr e)
end Go.Proofs.Ytognghbhdalckaa.Abs

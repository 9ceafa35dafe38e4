/- A part. -/
import Derived.Test.YtognghbhdalckaaSlotsLaw
import Derived.Test.YtognghbhdalckaaPackMarks
set_option linter.unusedVariables false
set_option linter.unusedSimpArgs false
set_option linter.unusedSectionVars false
set_option maxRecDepth 100000
namespace Go.Proofs.Ytognghbhdalckaa.Abs
open Go Go.Proofs
def atO (O:List Nat) (r:Int):Int:=(((O[r.toNat]?).getD 0:Nat):Int)
def packI (O:List Nat) (i:Ins):Ins:=
 .mk i.op (bif (uses i.op).1 then atO O i.d else i.d) (bif (uses i.op).2.1 then atO O i.x else i.x) (bif (uses i.op).2.2.1 then atO O i.y else i.y) i.n (bif decide (i.op=8) then i.l.map (atO O) else i.l) i.to
def maxR (m:Int):List Nat→Int
 |[]=>m
 |s :: r=>maxR (bif decide (m < (s:Int) + 1) then (s:Int) + 1 else m) r
def packP (O:List Nat) (p:Piece):Piece:=.mk p.lam p.inn (maxR p.inn O) (p.ins.map (packI O))
theorem atO_get {O:List Nat} {r:Int} (h0:0 ≤ r) (h1:r < O.length):(O.map nt)[r.toNat]? = some (.int .i64 (atO O r)):=by
 have hl:r.toNat < O.length:=by omega
 unfold atO
 rw [List.getElem?_map,List.getElem?_eq_getElem hl]
 rfl
theorem atO_rng {O:List Nat} (h:∀ x ∈ O,x ≤ 400) (r:Int):0 ≤ atO O r∧atO O r ≤ 400:=by
 unfold atO
 cases hg:O[r.toNat]? with
 |none=>simp
 |some x=>
  have:=h x (List.mem_of_getElem? hg)
  simp;omega
theorem maxR_rng:∀ {O:List Nat} {m:Int},(∀ x ∈ O,x ≤ 400)→m ≤ 401→m ≤ maxR m O∧maxR m O ≤ 401
 |[],m,h,hm=>⟨Int.le_refl _,hm⟩
 |s :: r,m,h,hm=>by
  have hs:=h s (by simp)
  have hc:m ≤ (bif decide (m < (s:Int) + 1) then (s:Int) + 1 else m)∧(bif decide (m < (s:Int) + 1) then (s:Int) + 1 else m) ≤ 401:=by
   by_cases hd:m < (s:Int) + 1
   ·simp [hd];omega
   ·simp [hd];omega
  obtain ⟨h1,h2⟩:=maxR_rng (O:=r) (fun x hx=>h x (by simp [hx])) hc.2
  exact ⟨Int.le_trans hc.1 h1,h2⟩
structure InR (R:Int) (i:Ins):Prop where
 d:(uses i.op).1=true→0 ≤ i.d∧i.d < R
 x:(uses i.op).2.1=true→0 ≤ i.x∧i.x < R
 y:(uses i.op).2.2.1=true→0 ≤ i.y∧i.y < R
 l:i.op=8→∀ r ∈ i.l,0 ≤ r∧r < R
theorem inR_of {p:Piece} {i:Ins} (h:insOkB p i=true):InR p.regs i:=by
 unfold insOkB at h
 simp only [Bool.and_eq_true,uses_D,uses_X,uses_Y] at h
 obtain ⟨_,_,_,hd,hx,hy,hl⟩:=h
 refine ⟨fun e=>?_,fun e=>?_,fun e=>?_,fun e r hr=>?_⟩
 ·rw [e] at hd;simpa [fieldB] using hd
 ·rw [e] at hx;simpa [fieldB] using hx
 ·rw [e] at hy;simpa [fieldB] using hy
 ·unfold listB at hl
  rw [e] at hl
  simp only [decide_true,cond_true,List.all_eq_true,decide_eq_true_eq] at hl
  have:=hl r hr;omega
theorem packI_l {O:List Nat} {i:Ins}:(packI O i).l.length=i.l.length:=by
 unfold packI
 cases decide (i.op=8)<;>simp
theorem packI_szL {O:List Nat}:∀ l:List Ins,Ins.szL (l.map (packI O))=Ins.szL l
 |[]=>rfl
 |i :: l=>by
  rw [List.map_cons,Ins.szL_cons,Ins.szL_cons,packI_szL l,Ins.sz_def,Ins.sz_def,packI_l]
theorem packI_wt {O:List Nat} (h:∀ x ∈ O,x ≤ 400) {i:Ins} (hi:i.wt):(packI O i).wt:=by
 obtain ⟨a,b,c,d,e,⟨f1,f2⟩,g⟩:=(Ins.wt_def i).1 hi
 have hr:∀ r,i64 (atO O r):=fun r=>by have:=atO_rng h r;unfold i64;omega
 rw [Ins.wt_def]
 unfold packI
 refine ⟨a,?_,?_,?_,e,⟨?_,?_⟩,g⟩
 ·show i64 (bif _ then _ else _);cases (uses i.op).1;exact b;exact hr _
 ·show i64 (bif _ then _ else _);cases (uses i.op).2.1;exact c;exact hr _
 ·show i64 (bif _ then _ else _);cases (uses i.op).2.2.1;exact d;exact hr _
 ·show (bif _ then _ else _:List Int).length ≤ _;cases decide (i.op=8);exact f1;simpa using f1
 ·show ∀ z ∈ (bif _ then _ else _:List Int),i64 z
  cases decide (i.op=8)
  ·exact f2
  ·intro z hz
   simp only [cond_true,List.mem_map] at hz
   obtain ⟨r,_,rfl⟩:=hz
   exact hr r
theorem packP_ok {O:List Nat} (h:∀ x ∈ O,x ≤ 400) {p:Piece} (hok:p.ok) (hi:p.inn ≤ 401):(packP O p).ok:=by
 obtain ⟨a,b,c,d1,d2⟩:=(Piece.wt_def p).1 hok.1
 obtain ⟨m1,m2⟩:=maxR_rng h hi
 refine ⟨?_,?_⟩
 ·rw [Piece.wt_def]
  refine ⟨a,b,?_,by simpa [packP] using d1,?_⟩
  ·show i64 (maxR p.inn O)
   unfold i64 at b ⊢;omega
  ·intro x hx
   simp only [packP,Piece.ins_mk,List.mem_map] at hx
   obtain ⟨i,hi,rfl⟩:=hx
   exact packI_wt h (d2 i hi)
 ·have:=hok.2
  rw [Piece.sz_def] at this ⊢
  simp only [packP,Piece.ins_mk,List.length_map,packI_szL]
  exact this
theorem Slots_pack {p:Piece} (hok:p.ok) (hb:pieceB p=true):∃ O:List Nat,(O.length:Int)=p.regs∧(∀ x ∈ O,x ≤ 400)∧CC f_i_Slots [.v p.enc] []=some (.sl (O.map nt),[])∧CC f_s_l11Slots [.v p.enc] []=some (.sl (O.map nt),[]):=by
 have hP:=pieceOk_i hok
 have F:=fit_of hok hb
 have hR:=F.r
 have hr0:=F.r0
 have hRR:((p.regs.toNat:Nat):Int)=p.regs:=by omega
 obtain ⟨G,g1,g2⟩:=solve_law F
 have hC:=clashes_law F G g1
 have hT:=Table_law F G g2
 obtain ⟨O,o1,o2,h1,h2⟩:=slots_loops F (clashT p G) p.regs.toNat 0 [] (by omega) rfl (by simp)
 simp only [Int.cast_ofNat_Int,List.map_nil] at h1 h2
 refine ⟨O,by omega,o2,?_,?_⟩
 ·rw [Piece.enc_def]
  apply go_i_Slots
  unfold nf_i_Slots
  simp only [Piece.enc_eta,hP,hb,Option.bind_some,asBool_bool,Bool.not_true,br_false',hC,asSl_sl,em_len,hRR]
  rw [h1]
  rfl
 ·rw [Piece.enc_def]
  apply go_s_l11Slots
  unfold nf_s_l11Slots
  simp only [Piece.enc_eta,hT,Option.bind_some,asSl_sl]
  rw [h2]
  rfl
end Go.Proofs.Ytognghbhdalckaa.Abs

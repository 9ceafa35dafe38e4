/- A part. -/
import Derived.Test.YtognghbhdalckaaOmega
import Derived.ChangeReads
import Derived.ChangeOld
import Derived.Below
set_option linter.unusedVariables false
set_option linter.unusedSectionVars false
set_option linter.unusedSimpArgs false
namespace Go.Proofs.Ytognghbhdalckaa.Abs
open Go
variable [Glob]
section
variable {P:Program} {w w':World} {H:Type} {enc:TypeId × Value→H}
theorem step_eq {r:TypeId→List Value→Option (DataW H × List MemPlace)} {t:TypeId} {cs:List Value} {n:Nat}
  (hs:∀ e a len cap,P.underlying t=some (.slice e)→cs=[.slice (some a) len cap]→cap ≤ len∨a.block < n) :
  DataW.trodStep enc P w 0 (fun _=>true) true r t cs=DataW.trodStep enc P w 0 (fun b=>decide (b < n)) true r t cs:=by
 unfold DataW.trodStep
 split<;>try rfl
 rename_i e a len cap hu
 rcases hs e a len cap hu rfl with h | h
 ·have:cap - len=0:=by omega
  simp [this]
 ·simp [h]
theorem mapM_congr' {α β:Type} {f g:α→Option β}:∀ {l:List α},(∀ x ∈ l,f x=g x)→l.mapM f=l.mapM g
 |[],_=>rfl
 |x :: r,h=>by
  rw [List.mapM_cons,List.mapM_cons,h x (by simp),mapM_congr' fun y hy=>h y (by simp [hy])]
theorem step_good {good:List TypeId} {t:TypeId} (hg:goodT P good t=true) {r r':TypeId→List Value→Option (DataW H × List MemPlace)} {sp:Nat→Bool} {cs:List Value} (hr:∀ t cs,good.contains t=true→r t cs=r' t cs) :
  DataW.trodStep enc P w 0 sp true r t cs=DataW.trodStep enc P w 0 sp true r' t cs:=by
 unfold goodT at hg
 unfold DataW.trodStep
 split<;>try rfl
 ·rename_i e a hu
  rw [hu] at hg
  simp only [Bool.and_eq_true] at hg
  have:r e=r' e:=funext fun cs=>hr e cs hg.1.1
  rw [this]
 ·rename_i e a len cap hu
  rw [hu] at hg
  simp only [Bool.and_eq_true] at hg
  have:r e=r' e:=funext fun cs=>hr e cs hg.1.1
  rw [this]
 ·rename_i fs hu
  rw [hu] at hg
  simp only [Bool.and_eq_true] at hg
  rw [mapM_congr' fun f hf=>hr f.type _ (List.all_eq_true.1 hg.1 f hf)]
 ·rename_i n e hu
  rw [hu] at hg
  simp only [Bool.and_eq_true] at hg
  have:r e=r' e:=funext fun cs=>hr e cs hg.1
  rw [this]
 all_goals (rename_i hu;rw [hu] at hg;cases hg)
theorem add_block (a:Addr) (n:Nat):(a.add n).block=a.block:=by
 unfold Addr.add;split<;>rfl
theorem trod_back {good:List TypeId} (hg:good.all (goodT P good)=true) (hb:RowKit.Below w.heap.size w w'):∀ (fuel:Nat) {t:TypeId} {cs:List Value} {x:DataW H × List MemPlace},good.contains t=true→
  DataW.trod enc P w 0 (fun _=>true) true fuel t cs=some x→DataW.trod enc P w' 0 (fun b=>decide (b < w.heap.size)) true fuel t cs=some x
 |0,t,cs,x,ht,h=>by simp [DataW.trod] at h
 |fuel + 1,t,cs,x,ht,h=>by
  have hsame:∀ p ∈ x.2,w.sameAt w' p:=fun p hp=>hb.same (DataW.trod_lt _ _ _ _ h p hp)
  have hgt:=List.all_eq_true.1 hg t (by simpa using ht)
  rw [DataW.trod_step] at h ⊢
  have hs:∀ e a len cap,P.underlying t=some (.slice e)→cs=[.slice (some a) len cap]→cap ≤ len∨a.block < w.heap.size:=by
   intro e a len cap hu hcs
   by_cases hc:cap ≤ len
   ·exact .inl hc
   ·right
    subst hcs
    have hz:P.cellsOf e ≠ 0:=by
     unfold goodT at hgt
     rw [hu] at hgt
     simp only [Bool.and_eq_true,decide_eq_true_eq] at hgt
     exact hgt.1.2
    unfold DataW.trodStep at h
    rw [hu] at h
    simp only at h
    split at h
    ·simp only [Option.bind_eq_some_iff,if_true,Option.map_eq_some_iff] at h
     obtain ⟨elems,_,rest,hr,_⟩:=h
     obtain ⟨_,h2⟩:=mapM_some hr
     obtain ⟨y,_,hy⟩:=h2 0 0 (List.getElem?_range (by omega))
     obtain ⟨cs',hc',_⟩:=Option.bind_eq_some_iff.1 hy
     have:=World.cells?_block hc' (Nat.pos_of_ne_zero hz)
     rw [add_block] at this
     exact this
    ·cases h
  rw [step_eq (n:=w.heap.size) hs,step_good hgt (r':=fun t cs=>if good.contains t then DataW.trod enc P w 0 (fun _=>true) true fuel t cs else none) fun t cs ht=>by rw [if_pos ht]] at h
  refine DataW.trodStep_carry (fun t cs x hx _=>?_) h hsame
  split at hx
  ·rename_i ht';exact trod_back hg hb fuel ht' hx
  ·cases hx
theorem trodAll_back {good:List TypeId} (hg:good.all (goodT P good)=true) (hb:RowKit.Below w.heap.size w w'):∀ {ts:List TypeId} {vs:List Value} {ds:List (DataW H)} {ps:List MemPlace},ts.all (good.contains ·)=true→
  DataW.TrodAll enc P w 0 (fun _=>true) true ts vs ds ps→DataW.TrodAll enc P w' 0 (fun b=>decide (b < w.heap.size)) true ts vs ds ps
 |[],[],[],_,_,h=>h
 |t :: ts,v :: vs,d :: ds,ps,ht,⟨p,q,⟨n,h⟩,hs,e⟩=>by
  simp only [List.all_cons,Bool.and_eq_true] at ht
  exact ⟨p,q,⟨n,trod_back hg hb n ht.1 h⟩,trodAll_back hg hb ht.2 hs,e⟩
end
end Go.Proofs.Ytognghbhdalckaa.Abs

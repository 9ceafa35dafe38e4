/- A part. -/
import Derived.Test.YtegbnddjgifcdaaGreatDoorTyD
set_option linter.unusedVariables false
set_option linter.unusedSimpArgs false
set_option linter.unusedSectionVars false
set_option maxRecDepth 100000
namespace Go.Proofs.YtegbnddjgifcdaaGreatDoor.Abs
open Go Go.Proofs
def kw (w:List UInt8):Option (Int × Int):=
 if w=[105] then some (1,0) else if w=[98] then some (2,0) else if w=[118,48] then some (3,0) else if w=[118,49] then some (3,1)
 else if w=[102] then some (4,0) else if w=[112] then some (5,0) else if w=[108] then some (6,0) else none
def ar (k:Int):Nat:=if k=6 then 1 else if k=4∨k=5 then 2 else 0
theorem ar_le (k:Int):ar k ≤ 2:=by unfold ar;split;omega;split<;>omega
theorem kw_rng {w:List UInt8} {k n:Int} (h:kw w=some (k,n)):1 ≤ k∧k ≤ 6∧(n=0∨n=1):=by
 unfold kw at h
 repeat' split at h
 all_goals first | (cases h;done) | (simp only [Option.some.injEq,Prod.mk.injEq] at h;omega)
def seqR {α:Type} (f:List (List UInt8)→Option (α × List (List UInt8))):Nat→List (List UInt8)→Option (List α × List (List UInt8))
 |0,c=>some ([],c)
 |m + 1,c=>(f c).bind fun p=>(seqR f m p.2).map fun q=>(p.1 :: q.1,q.2)
def rd:Nat→List (List UInt8)→Option (Ty × List (List UInt8))
 |0,_=>none
 |_ + 1,[]=>none
 |d + 1,w :: c=>(kw w).bind fun p=>(seqR (rd d) (ar p.1) c).map fun q=>(.mk p.1 p.2 q.1,q.2)
theorem seqR_used {α:Type} {f:List (List UInt8)→Option (α × List (List UInt8))} (hf:∀ c t r,f c=some (t,r)→∃ u,c=u ++ r):∀ m c l r,seqR f m c=some (l,r)→l.length=m∧∃ u,c=u ++ r
 |0,c,l,r,h=>by cases h;exact ⟨rfl,[],rfl⟩
 |m + 1,c,l,r,h=>by
  unfold seqR at h
  obtain ⟨⟨t,r1⟩,h1,h⟩:=Option.bind_eq_some_iff.1 h
  obtain ⟨⟨l2,r2⟩,h2,h⟩:=Option.map_eq_some_iff.1 h
  obtain ⟨e1,e2⟩:=Prod.mk.inj h
  obtain ⟨u,hu⟩:=hf c t r1 h1
  obtain ⟨hl,v,hv⟩:=seqR_used hf m r1 l2 r2 h2
  exact ⟨by rw [← e1];simp [hl],u ++ v,by rw [hu,hv,← e2];simp⟩
theorem rd_used:∀ d c t r,rd d c=some (t,r)→∃ u,c=u ++ r
 |0,c,t,r,h=>by cases h
 |d + 1,[],t,r,h=>by cases h
 |d + 1,w :: c,t,r,h=>by
  unfold rd at h
  obtain ⟨⟨k,n⟩,h1,h⟩:=Option.bind_eq_some_iff.1 h
  obtain ⟨⟨l,r1⟩,h2,h⟩:=Option.map_eq_some_iff.1 h
  obtain ⟨e1,e2⟩:=Prod.mk.inj h
  obtain ⟨_,u,hu⟩:=seqR_used (rd_used d) _ _ _ _ h2
  exact ⟨w :: u,by rw [hu,← e2];simp⟩
theorem seqR_all {α:Type} {f:List (List UInt8)→Option (α × List (List UInt8))} {P:α→Prop} (hf:∀ c t r,f c=some (t,r)→P t):∀ m c l r,seqR f m c=some (l,r)→∀ t ∈ l,P t
 |0,c,l,r,h=>by cases h;simp
 |m + 1,c,l,r,h=>by
  unfold seqR at h
  obtain ⟨⟨t,r1⟩,h1,h⟩:=Option.bind_eq_some_iff.1 h
  obtain ⟨⟨l2,r2⟩,h2,h⟩:=Option.map_eq_some_iff.1 h
  obtain ⟨e1,e2⟩:=Prod.mk.inj h
  rw [← e1]
  intro x hx
  rcases List.mem_cons.1 hx with rfl | hx
  ·exact hf _ _ _ h1
  ·exact seqR_all hf m _ _ _ h2 x hx
theorem rd_tyD:∀ d c t r,rd d c=some (t,r)→tyD d t
 |0,c,t,r,h=>by cases h
 |d + 1,[],t,r,h=>by cases h
 |d + 1,w :: c,t,r,h=>by
  unfold rd at h
  obtain ⟨⟨k,n⟩,h1,h⟩:=Option.bind_eq_some_iff.1 h
  obtain ⟨⟨l,r1⟩,h2,h⟩:=Option.map_eq_some_iff.1 h
  obtain ⟨e1,e2⟩:=Prod.mk.inj h
  rw [← e1]
  have hk:=kw_rng h1
  have hl:=(seqR_used (rd_used d) _ _ _ _ h2).1
  have:=ar_le k
  exact tyD_mk (n:=l.length) rfl (by simp only;omega) (by simp only;omega) (by simp only at hl ⊢;omega) (seqR_all (rd_tyD d) _ _ _ _ h2)
end Go.Proofs.YtegbnddjgifcdaaGreatDoor.Abs

/- A part. -/
import Derived.Test.YtognghbhdalckaaData
set_option linter.unusedVariables false
set_option linter.unusedSimpArgs false
namespace Go.Proofs.Ytognghbhdalckaa.Abs
open Go
def rowL (R:Nat) (g:Nat→Bool):List CVal:=(List.range R).map fun r=>.bool (g r)
def em (n R:Nat) (f:Nat→Nat→Bool):List CVal:=(List.range n).map fun i=>.sl (rowL R (f i))
@[simp] theorem rowL_len {R:Nat} {g:Nat→Bool}:(rowL R g).length=R:=by simp [rowL]
@[simp] theorem em_len {n R:Nat} {f:Nat→Nat→Bool}:(em n R f).length=n:=by simp [em]
theorem rowL_get {R:Nat} {g:Nat→Bool} {r:Nat} (h:r < R):(rowL R g)[r]? = some (.bool (g r)):=by simp [rowL,h]
theorem em_get {n R:Nat} {f:Nat→Nat→Bool} {i:Nat} (h:i < n):(em n R f)[i]? = some (.sl (rowL R (f i))):=by simp [em,h]
theorem rowL_plain {R:Nat} {g:Nat→Bool}:CVal.plain (.sl (rowL R g))=true:=by
 have:∀ l:List Nat,plainL (l.map fun r=>CVal.bool (g r))=true:=fun l=>by
  induction l with
  |nil=>rfl
  |cons x r ih=>simp [plainL,CVal.plain,ih]
 simp [CVal.plain,rowL,this]
theorem rowL_congr {R:Nat} {g g':Nat→Bool} (h:∀ r,r < R→g r=g' r):rowL R g=rowL R g':=by
 unfold rowL
 exact List.map_congr_left fun r hr=>by rw [h r (List.mem_range.1 hr)]
theorem em_congr {n R:Nat} {f f':Nat→Nat→Bool} (h:∀ i,i < n→∀ r,r < R→f i r=f' i r):em n R f=em n R f':=by
 unfold em
 exact List.map_congr_left fun i hi=>by rw [rowL_congr (h i (List.mem_range.1 hi))]
theorem rowL_set {R:Nat} {g:Nat→Bool} {r:Nat} {v:Bool}:(rowL R g).set r (.bool v)=rowL R fun r'=>if r'=r then v else g r':=by
 apply List.ext_getElem?
 intro k
 rw [List.getElem?_set]
 by_cases hk:k < R
 ·rw [rowL_get hk]
  by_cases e:r=k
  ·subst e
   rw [if_pos rfl,if_pos (by simpa using hk),rowL_get hk]
   exact congrArg (fun z=>some (CVal.bool z)) (if_pos rfl).symm
  ·have:¬ k=r:=fun h=>e h.symm
   rw [if_neg e,rowL_get hk]
   exact congrArg (fun z=>some (CVal.bool z)) (if_neg this).symm
 ·have h1:(rowL R g)[k]? = none:=List.getElem?_eq_none (by simp;omega)
  have h2:(rowL R fun r'=>if r'=r then v else g r')[k]? = none:=List.getElem?_eq_none (by simp;omega)
  rw [h1,h2]
  split
  ·rw [if_neg (by simp;omega)]
  ·rfl
theorem em_set {n R:Nat} {f:Nat→Nat→Bool} {i:Nat} {g:Nat→Bool}:(em n R f).set i (.sl (rowL R g))=em n R fun i' r=>if i'=i then g r else f i' r:=by
 apply List.ext_getElem?
 intro k
 rw [List.getElem?_set]
 by_cases hk:k < n
 ·rw [em_get hk]
  by_cases e:i=k
  ·subst e
   rw [if_pos rfl,if_pos (by simpa using hk),em_get hk]
   exact congrArg (fun z=>some (CVal.sl z)) (rowL_congr fun r _=>(if_pos rfl).symm)
  ·rw [if_neg e,em_get hk]
   have:¬ k=i:=fun h=>e h.symm
   exact congrArg (fun z=>some (CVal.sl z)) (rowL_congr fun r _=>(if_neg this).symm)
 ·have h1:(em n R f)[k]? = none:=List.getElem?_eq_none (by simp;omega)
  have h2:(em n R fun i' r=>if i'=i then g r else f i' r)[k]? = none:=List.getElem?_eq_none (by simp;omega)
  rw [h1,h2]
  split
  ·rw [if_neg (by simp;omega)]
  ·rfl
theorem rowL_false {R:Nat}:List.replicate R (CVal.bool false)=rowL R fun _=>false:=by
 apply List.ext_getElem?
 intro k
 by_cases hk:k < R
 ·rw [rowL_get hk];simp [hk]
 ·rw [List.getElem?_eq_none (by simp;omega),List.getElem?_eq_none (by simp;omega)]
theorem em_snoc {n R:Nat} {f:Nat→Nat→Bool} {g:Nat→Bool}:em n R f ++ [.sl (rowL R g)]=em (n + 1) R fun i r=>if i=n then g r else f i r:=by
 unfold em
 rw [List.range_succ,List.map_append]
 congr 1
 ·refine List.map_congr_left fun i hi=>?_
  have:i < n:=List.mem_range.1 hi
  have hne:¬ i=n:=by omega
  rw [rowL_congr (g':=fun r=>if i=n then g r else f i r) fun r _=>by simp only [hne,if_false]]
 ·simp
def MLe (n R:Nat) (f g:Nat→Nat→Bool):Prop:=∀ i,i < n→∀ r,r < R→f i r=true→g i r=true
theorem MLe.refl {n R:Nat} {f:Nat→Nat→Bool}:MLe n R f f:=fun _ _ _ _ h=>h
theorem MLe.trans {n R:Nat} {f g h:Nat→Nat→Bool} (a:MLe n R f g) (b:MLe n R g h):MLe n R f h:=fun i hi r hr e=>b i hi r hr (a i hi r hr e)
def cells (n R:Nat):List (Nat × Nat):=(List.range n).flatMap fun i=>(List.range R).map fun r=>(i,r)
theorem cells_mem {n R i r:Nat}:(i,r) ∈ cells n R↔i < n∧r < R:=by
 simp [cells,List.mem_flatMap]
def cnt (n R:Nat) (f:Nat→Nat→Bool):Nat:=(cells n R).countP fun x=>f x.1 x.2
theorem countP_le {α:Type} {p q:α→Bool}:∀ {l:List α},(∀ x ∈ l,p x=true→q x=true)→l.countP p ≤ l.countP q
 |[],_=>by simp
 |x :: r,h=>by
  have ih:=countP_le (l:=r) fun y hy=>h y (by simp [hy])
  have hx:=h x (by simp)
  rw [List.countP_cons,List.countP_cons]
  cases hp:p x
  ·simp;split<;>omega
  ·rw [hx hp];simp;omega
theorem countP_lt {α:Type} {p q:α→Bool}:∀ {l:List α},(∀ x ∈ l,p x=true→q x=true)→(∃ x ∈ l,q x=true∧p x=false)→l.countP p < l.countP q
 |[],_,⟨x,hx,_⟩=>by cases hx
 |x :: r,h,⟨y,hy,hq,hp⟩=>by
  rw [List.countP_cons,List.countP_cons]
  have ih0:=countP_le (l:=r) fun y hy=>h y (by simp [hy])
  rcases List.mem_cons.1 hy with e | hy
  ·subst e
   rw [hq,hp];simp;omega
  ·have ih:=countP_lt (l:=r) (fun y hy=>h y (by simp [hy])) ⟨y,hy,hq,hp⟩
   have hx:=h x (by simp)
   cases hp:p x
   ·simp;split<;>omega
   ·rw [hx hp];simp;omega
theorem cnt_mono {n R:Nat} {f g:Nat→Nat→Bool} (h:MLe n R f g):cnt n R f ≤ cnt n R g:=
 countP_le fun x hx e=>h x.1 (cells_mem.1 hx).1 x.2 (cells_mem.1 hx).2 e
theorem cnt_lt {n R:Nat} {f g:Nat→Nat→Bool} (h:MLe n R f g) {i r:Nat} (hi:i < n) (hr:r < R) (h1:g i r=true) (h2:f i r=false):cnt n R f < cnt n R g:=
 countP_lt (fun x hx e=>h x.1 (cells_mem.1 hx).1 x.2 (cells_mem.1 hx).2 e) ⟨(i,r),cells_mem.2 ⟨hi,hr⟩,h1,h2⟩
theorem cnt_max {n R:Nat} {f:Nat→Nat→Bool}:cnt n R f ≤ (cells n R).length:=List.countP_le_length
theorem cnt_congr {n R:Nat} {f g:Nat→Nat→Bool} (h:∀ i,i < n→∀ r,r < R→f i r=g i r):cnt n R f=cnt n R g:=
 Nat.le_antisymm (cnt_mono fun i hi r hr e=>by rw [← h i hi r hr];exact e) (cnt_mono fun i hi r hr e=>by rw [h i hi r hr];exact e)
def upd (f:Nat→Nat→Bool) (i r:Nat):Nat→Nat→Bool:=fun i' r'=>f i' r' || (decide (i'=i) && decide (r'=r))
theorem upd_le {n R:Nat} {f:Nat→Nat→Bool} {i r:Nat}:MLe n R f (upd f i r):=fun i' _ r' _ h=>by simp [upd,h]
theorem upd_self {f:Nat→Nat→Bool} {i r:Nat} (h:f i r=true):upd f i r=f:=by
 funext i' r'
 unfold upd
 by_cases e:i'=i
 ·by_cases e2:r'=r
  ·subst e e2;simp [h]
  ·simp [e2]
 ·simp [e]
theorem em_upd {n R:Nat} {f:Nat→Nat→Bool} {i r:Nat}:(em n R f).set i (.sl ((rowL R (f i)).set r (.bool true)))=em n R (upd f i r):=by
 rw [rowL_set,em_set]
 refine em_congr fun i' _ r' _=>?_
 unfold upd
 by_cases e:i'=i
 ·subst e
  by_cases e2:r'=r<;>simp [e2]
 ·simp [e]
end Go.Proofs.Ytognghbhdalckaa.Abs

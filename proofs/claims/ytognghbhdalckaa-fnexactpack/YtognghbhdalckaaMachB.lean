/- A part. -/
import Derived.Test.YtognghbhdalckaaMachA
set_option linter.unusedVariables false
set_option linter.unusedSectionVars false
set_option linter.unusedSimpArgs false
namespace Go.Proofs.Ytognghbhdalckaa.Abs
open Go
variable [Glob]
section
variable {P:Program} {w:World} {F N:Nat→Prop} {μ:List Hd} {b:List Blk} {R':Type} {r:R'}
theorem take_set {l:List Value} {p:Nat} {v:Value} (h:p < l.length):(l.set p v).take (p + 1)=l.take p ++ [v]:=by
 rw [List.take_add_one,List.take_set_of_le (Nat.le_refl _),List.getElem?_set_self h]
 rfl
theorem zip_set:∀ (vs:List Value) (k off:Nat) (cs:Array Value),off + k + vs.length ≤ cs.size→
  ((vs.zipIdx k).foldl (fun (cs:Array Value) (p:Value × Nat)=>cs.setIfInBounds (off + p.2) p.1) cs).toList=cs.toList.take (off + k) ++ vs ++ cs.toList.drop (off + k + vs.length)
 |[],k,off,cs,h=>by simp
 |v :: r,k,off,cs,h=>by
  simp only [List.zipIdx_cons,List.foldl_cons]
  have hk:off + k < cs.toList.length:=by simp at h ⊢;omega
  rw [zip_set r (k + 1) off _ (by simp at h ⊢;omega)]
  simp only [Array.toList_setIfInBounds]
  rw [show off + (k + 1)=off + k + 1 by omega,take_set hk,List.drop_set_of_lt (by omega)]
  simp only [List.append_assoc,List.singleton_append,List.cons_append,List.nil_append,List.length_cons]
  rw [show off + k + 1 + r.length=off + k + (r.length + 1) by omega]
theorem fill_step {vs:List Value} {off:Nat} {cs:List Value} (h:off + vs.length ≤ cs.length) :
  (vs.toArray.zipIdx.foldl (fun (cs:Array Value) (p:Value × Nat)=>cs.setIfInBounds (off + p.2) p.1) cs.toArray)=(cs.take off ++ vs ++ cs.drop (off + vs.length)).toArray:=by
 apply Array.ext'
 rw [← Array.foldl_toList,Array.toList_zipIdx]
 have:=zip_set vs 0 off cs.toArray (by simpa using h)
 simpa using this
theorem fill_one {place:Nat→Option (Nat × Nat)} {i off sz:Nat} {u:Value} {us cs:List Value} {rest:List (Nat × Value)} (hp:place i=some (off,sz)) (hu:u.cells=us.toArray) (hs:us.length=sz)
  (h:off + us.length ≤ cs.length):Instr.fill place cs.toArray ((i,u) :: rest)=Instr.fill place (cs.take off ++ us ++ cs.drop (off + us.length)).toArray rest:=by
 have h1:¬ (off + us.length > cs.length):=by omega
 simp only [Instr.fill,hp,hu,List.size_toArray,hs,ne_eq,not_true_eq_false,decide_false,Bool.false_or]
 rw [if_neg (by simp;omega)]
 have:=fill_step h
 rw [← hs]
 congr 1
def Parts (N:Nat→Prop) (w:World) (μ:List Hd) (b:List Blk):List (Nat × AVal)→List (Nat × Value)→Prop
 |[],pv=>pv=[]
 |p :: r,pv=>∃ u l,pv=(p.1,u) :: l∧ARel N w μ b p.2 u∧Parts N w μ b r l
theorem fillK_sound {fs:Array Field}:∀ {parts:List (Nat × AVal)} {pv:List (Nat × Value)} {cs:List AVal} {vs:List Value} {K:List AVal→Option R'},
  Parts N w μ b parts pv→AsRel N w μ b true cs vs→fillK P fs parts cs K=some r→
  ∃ cs' vs',K cs'=some r∧AsRel N w μ b true cs' vs'∧Instr.fill ((fs.map fun f=>(f.offset,P.cellsOf f.type))[·]?) vs.toArray pv=some vs'.toArray
 |[],_,cs,vs,K,hp,hc,h=>by
  rw [show _=[] from hp]
  exact ⟨cs,vs,h,hc,rfl⟩
 |(i,x) :: rest,_,cs,vs,K,hp,hc,h=>by
  obtain ⟨u,l,rfl,hx,hp⟩:=hp
  simp only [fillK] at h
  split at h
  ·rename_i f hf
   obtain ⟨l',us,h,hl,hus,hn,_,_⟩:=wCells_sound hx h
   obtain ⟨h0,h⟩:=br_none h
   simp only [decide_eq_true_eq] at h0
   have hsp:=hc.splice f.offset hl
   obtain ⟨cs',vs',h1,h2,h3⟩:=fillK_sound hp hsp h
   refine ⟨cs',vs',h1,h2,?_⟩
   rw [fill_one (off:=f.offset) (sz:=P.cellsOf f.type) (by simp [hf]) hus hn (by rw [hl.len,hc.len];exact h0)]
   exact h3
  ·cases h
theorem fillArrK_sound {agg:Bool} {sz:Nat}:∀ {parts:List (Nat × AVal)} {pv:List (Nat × Value)} {cs:List AVal} {vs:List Value} {K:List AVal→Option R'},
  Parts N w μ b parts pv→AsRel N w μ b true cs vs→fillArrK agg sz parts cs K=some r→
  ∃ cs' vs',K cs'=some r∧AsRel N w μ b true cs' vs'∧Instr.fill (fun i=>some (i * sz,sz)) vs.toArray pv=some vs'.toArray
 |[],_,cs,vs,K,hp,hc,h=>by
  rw [show _=[] from hp]
  exact ⟨cs,vs,h,hc,rfl⟩
 |(i,x) :: rest,_,cs,vs,K,hp,hc,h=>by
  obtain ⟨u,l,rfl,hx,hp⟩:=hp
  simp only [fillArrK] at h
  obtain ⟨l',us,h,hl,hus,hn,_,_⟩:=wCells_sound hx h
  obtain ⟨h0,h⟩:=br_none h
  simp only [decide_eq_true_eq] at h0
  have hsp:=hc.splice (i * sz) hl
  obtain ⟨cs',vs',h1,h2,h3⟩:=fillArrK_sound hp hsp h
  refine ⟨cs',vs',h1,h2,?_⟩
  rw [fill_one (off:=i * sz) (sz:=sz) rfl hus hn (by rw [hl.len,hc.len];exact h0)]
  exact h3
theorem run_mapM {α β:Type} (f:α→Sem β) (g:α→β):∀ (l:List α),(∀ x ∈ l,(f x).run P w=.ok (g x) w)→(l.mapM f).run P w=.ok (l.map g) w
 |[],_=>by simp
 |x :: r,h=>by
  have ih:=run_mapM f g r fun y hy=>h y (by simp [hy])
  simp [List.mapM_cons,h x (by simp),ih]
theorem buildK_sound {t:TypeId} {parts:List (Nat × AVal)} {pv:List (Nat × Value)} {K:AVal→Option R'} (hp:Parts N w μ b parts pv) (h:buildK P t parts K=some r) :
  Yld P N w μ b K r (Instr.build t pv.toArray):=by
 unfold buildK at h
 obtain ⟨z,hz,h⟩:=bind_some' h
 obtain ⟨zv,hzr,hzrel⟩:=zeroT_spec (P:=P) (N:=N) (w:=w) (μ:=μ) (b:=b) hz
 obtain ⟨cs,vs,h,hcs,hvs,_,_,_⟩:=wCells_sound hzrel h
 split at h
 ·rename_i fs hfs
  obtain ⟨hall,h⟩:=br_none h
  obtain ⟨cs',vs',h1,h2,h3⟩:=fillK_sound hp hcs h
  refine ⟨_,h1,_,?_,mkAgg_rel h2⟩
  have hm:(fs.mapM (m:=Sem) fun f=>do pure (f.offset,← sizeOf f.type)).run P w=.ok (fs.map fun f=>(f.offset,P.cellsOf f.type)) w:=by
   rw [Array.mapM_eq_mapM_toList]
   have:=run_mapM (P:=P) (w:=w) (fun f:Field=>(do pure (f.offset,← sizeOf f.type):Sem (Nat × Nat))) (fun f=>(f.offset,P.cellsOf f.type)) fs.toList fun f hf=>by
    have:=List.all_eq_true.1 hall f hf
    obtain ⟨d,hd⟩:=Option.isSome_iff_exists.1 this
    simp [run_size hd]
   simp only [Sem.run_map,this,Result.andThen_ok]
   congr 1
   apply Array.ext'
   simp
  simp only [Instr.build,Sem.run_bind,hzr,Result.andThen_ok,run_und hfs,hm,hvs]
  rw [h3]
  rfl
 ·rename_i n e he
  obtain ⟨hd0,h⟩:=br_none h
  obtain ⟨d,hd⟩:=Option.isSome_iff_exists.1 hd0
  obtain ⟨cs',vs',h1,h2,h3⟩:=fillArrK_sound hp hcs h
  refine ⟨_,h1,_,?_,mkAgg_rel h2⟩
  simp only [Instr.build,Sem.run_bind,hzr,Result.andThen_ok,run_und he,run_size hd,hvs]
  rw [h3]
  rfl
 ·cases h
theorem Post.grow {w':World} {x:AVal} {v:Value} (R:Rel F w μ b) (hs:w.heap.size ≤ w'.heap.size) (hm:∀ x,x < w.heap.size→w'.heap[x]? = w.heap[x]?)
  (hos:w'.os=w.os) (ht:w'.tape=w.tape) (ho:w'.output=w.output) (hv:ARel (Or F (Own μ b)) w' μ b x v):Post F w μ b w' μ b x v:=by
 have hmo:∀ (i:Nat) (blk:Blk) (h:Hd),b[i]? = some blk→μ[i]? = some h→alive blk.body=true→∀ x ∈ h.own,w'.heap[x]? = w.heap[x]?:=fun i blk h hb hm' ha x hx=>hm x (R.fres x ⟨i,blk,h,hb,ha,hm',hx⟩).2
 have U:Upd F w μ b w' μ b:=⟨R.len,R.len,fun i blk h hb hm'=>⟨blk,h,hb,hm',by
  cases ha:alive blk.body with
  |true=>exact .refl (hmo i blk h hb hm' ha)
  |false=>exact .deadRefl ha⟩,hs,fun x hx=>⟨(R.fres x hx).1,Nat.lt_of_lt_of_le (R.fres x hx).2 hs,.inr (.inl hx)⟩,fun x hx=>.inr (.inl hx),fun x hx _ _=>hm x hx⟩
 refine ⟨U,⟨R.len,?_,R.inj,fun x hx=>⟨(R.fres x hx).1,Nat.lt_of_lt_of_le (R.fres x hx).2 hs⟩,R.fbk.to hs fun x hx=>hm x (R.fbk.idl x hx),R.oid⟩,hv,⟨hos,ht,ho,hs,fun x hx _=>hm x hx⟩⟩
 intro i blk h hb hm'
 exact BRel.upd U (fun x hx ha=>hmo i blk h hb hm' ha x hx) (R.blk i blk h hb hm')
theorem arr_post {d:Bool} {S:List Nat} {n cap:Nat} {e:TypeId} {xs:List CVal} {us:List Value} {cells:List Value} (R:Rel (FS F S) w μ b) (hn:S.Nodup) (hS:∀ x ∈ S,¬ F x∧¬ Glob.ids x) (hes:GEs d (Or (FS F S) (Own μ b)) w n S xs us)
  (hcap:xs.length ≤ cap) (hroom:cap * n ≤ cells.length) (hp:∀ (j:Nat) (v:Value),(flatC us)[j]? = some v→cells[j]? = some v) :
  ∃ μ',Post2 (FS F S) F w μ b (w.alloc (.cells cells.toArray e (0,0))) μ' (b ++ [⟨0,.arr ⟨d,false,0⟩ n xs⟩]) (.lref b.length 0) (.slice (some (pl w.heap.size 0)) xs.length cap):=by
 have hSlt:∀ x ∈ S,x < w.heap.size:=fun x hx=>R.fb x (.inr hx)
 have hG:∀ x,F x→FS F S x:=fun x hx=>.inl hx
 by_cases h0:cap=0
 ·subst h0
  have hx0:xs=[]:=List.length_eq_zero_iff.1 (by omega)
  subst hx0
  obtain ⟨rfl,_⟩:=hes
  refine ⟨μ ++ [.arr (some (pl w.heap.size 0)) 0 0 n 0 []],push_post R hG (by rw [alloc_size];omega) (fun x hx=>alloc_old w _ x hx) ?_ rfl rfl rfl ?_ ?_⟩
  ·intro x hx;rw [own_arr0] at hx;cases hx
  ·intro U;exact ⟨_,0,0,[],rfl,Nat.le_refl _,.inl ⟨rfl,rfl⟩⟩
  ·exact ⟨rfl,_,_,push_at,pushμ_at R,by simp,Nat.le_refl _,fun _ _=>rfl⟩
 ·refine ⟨μ ++ [.arr (some (pl w.heap.size 0)) xs.length cap n cells.length S],push_post R hG (by rw [alloc_size];omega) (fun x hx=>alloc_old w _ x hx) ?_ rfl rfl rfl ?_ ?_⟩
  ·intro x hx
   rcases own_sub hx with hx | ⟨_,a,ha,hx⟩
   ·exact ⟨by rw [alloc_size];have:=hSlt x hx;omega,.inr ⟨.inr hx,(hS x hx).1,(hS x hx).2⟩⟩
   ·cases ha;subst hx;simp only [pl];rw [alloc_size];exact ⟨by omega,.inl (Nat.le_refl _)⟩
  ·intro U
   refine ⟨_,cap,_,S,rfl,hcap,.inr ⟨w.heap.size,_,e,by omega,rfl,alloc_heap w _,by simp,fun _=>by simpa using hroom,?_,?_⟩⟩
   ·rw [List.nodup_cons];exact ⟨fun hx=>by have:=hSlt _ hx;omega,hn⟩
   ·exact GEl.inBlock (hes.keep U.keep fun x hx=>alloc_old w _ x (hSlt x hx)) (alloc_heap w _) hp
  ·exact ⟨rfl,_,_,push_at,pushμ_at R,by simp,Nat.le_refl _,fun _ _=>rfl⟩
theorem GEs.ofCs {fl:Bool} {agg:Bool} {n:Nat}:∀ {cs:List CVal} {us:List Value},CsRel N w fl cs us→cs.all (CVal.fits agg n)=true→GEs false N w n [] cs us
 |[],_,h,_=>⟨rfl,h⟩
 |c :: r,_,h,hf=>by
  obtain ⟨u,l,rfl,h1,_,h2⟩:=h
  simp at hf
  exact ⟨[],[],u,l,rfl,rfl,fits_noTup hf.1,⟨rfl,h1⟩,GRel.size (d:=false) (S:=[]) ⟨rfl,h1⟩ hf.1,GEs.ofCs h2 (by simpa using hf.2)⟩
theorem parts_vals:∀ {parts:List (Nat × AVal)} {pv:List (Nat × Value)} {i:Nat} {l:List AVal},Parts N w μ b parts pv→partsInOrder i parts=some l→AsRel N w μ b false l (pv.map (·.2))
 |[],_,_,l,hp,h=>by
  rw [show _=[] from hp]
  simp [partsInOrder] at h;subst h;rfl
 |(j,x) :: r,_,i,l,hp,h=>by
  obtain ⟨u,pv,rfl,hx,hp⟩:=hp
  simp only [partsInOrder] at h
  obtain ⟨_,h⟩:=br_none h
  obtain ⟨l',hl,h⟩:=bind_some' h
  simp at h;subst h
  exact ⟨u,_,rfl,hx,(fun h=>by cases h),parts_vals hp hl⟩
theorem fill_all {sz:Nat}:∀ {parts:List (Nat × AVal)} {pv:List (Nat × Value)} {i:Nat} {l:List AVal} {vs:List Value},Parts N w μ b parts pv→partsInOrder i parts=some l→
  (∀ p ∈ pv,∃ us:List Value,p.2.cells=us.toArray∧us.length=sz)→(i + pv.length) * sz ≤ vs.length→
  Instr.fill (fun i=>some (i * sz,sz)) vs.toArray pv=some (vs.take (i * sz) ++ flatC (pv.map (·.2)) ++ vs.drop ((i + pv.length) * sz)).toArray
 |[],_,i,l,vs,hp,h,hs,hl=>by
  rw [show _=[] from hp]
  simp [Instr.fill,flatC]
 |(j,x) :: r,_,i,l,vs,hp,h,hs,hl=>by
  obtain ⟨u,pv,rfl,hx,hp⟩:=hp
  simp only [partsInOrder] at h
  obtain ⟨hij,h⟩:=br_none h
  obtain ⟨l',hl',h⟩:=bind_some' h
  have hij:i=j:=by simpa using hij
  subst hij
  obtain ⟨us,hus,hun⟩:=hs (i,u) (by simp)
  simp only at hus
  have e1:(i + (pv.length + 1)) * sz=i * sz + sz + pv.length * sz:=by rw [Nat.add_mul,Nat.add_mul];omega
  have e2:(i + 1) * sz=i * sz + sz:=by rw [Nat.add_mul];omega
  have e3:(i + 1 + pv.length) * sz=i * sz + sz + pv.length * sz:=by rw [Nat.add_mul,Nat.add_mul];omega
  simp only [List.length_cons,e1] at hl
  rw [fill_one (off:=i * sz) (sz:=sz) rfl hus hun (by omega)]
  rw [fill_all (i:=i + 1) hp hl' (fun p hp=>hs p (by simp [hp])) (by simp;rw [e3];omega)]
  congr 2
  rw [e2,e3]
  have h1:(List.take (i * sz) vs ++ us ++ List.drop (i * sz + us.length) vs).take (i * sz + sz)=vs.take (i * sz) ++ us:=by
   rw [List.take_append_of_le_length (by simp;omega),List.take_of_length_le (by simp;omega)]
  have h2:(List.take (i * sz) vs ++ us ++ List.drop (i * sz + us.length) vs).drop (i * sz + sz + pv.length * sz)=vs.drop (i * sz + sz + pv.length * sz):=by
   rw [List.drop_append,List.drop_of_length_le (by simp;omega),List.drop_drop]
   simp only [List.nil_append,List.length_append,List.length_take,hun]
   congr 1;omega
  rw [h1,h2]
  simp only [List.map_cons,flatC,List.flatMap_cons,hus,List.append_assoc,List.length_cons,e1]
theorem buildSliceK_sound {D:TypeId→Bool} {t:TypeId} {len:Nat} {parts:List (Nat × AVal)} {pv:List (Nat × Value)} {K:AVal→List Blk→Option R'} (R:Rel F w μ b)
  (hp:Parts (Or F (Own μ b)) w μ b parts pv) (h:buildSliceK D P t len parts b K=some r):Acts P F w μ b K r (Instr.buildSlice t len pv.toArray) false:=by
 unfold buildSliceK at h
 split at h
 ·rename_i e he
  obtain ⟨l,hl,h⟩:=bind_some' h
  obtain ⟨h0,h⟩:=br_none h
  simp only [Bool.and_eq_true,decide_eq_true_eq,beq_iff_eq] at h0
  obtain ⟨⟨⟨h0,h1⟩,h2⟩,h3⟩:=h0
  obtain ⟨d,i,z,hd,hi,hz,hzs,_⟩:=elemOk_spec h2
  have hvals:=parts_vals hp hl
  have hlen:=hvals.len
  simp only [List.length_map] at hlen
  have hbig:¬ (len * P.cellsOf e > 2 ^ 24):=by omega
  split at h
  ·
   have hpv:pv=[]:=List.length_eq_zero_iff.1 (by omega)
   subst hpv
   refine ⟨_,_,h,by simp,.slice (some (pl w.heap.size 0)) 0 0,w.alloc (.cells #[] e (0,0)),μ,?_,Post.grow R (by rw [alloc_size];omega) (fun x hx=>alloc_old w _ x hx) rfl rfl rfl ⟨_,rfl⟩⟩
   simp [Instr.buildSlice,run_und he,run_size hd,Instr.fill,newRow]
   exact ⟨rfl,by first | rfl | (congr 2;apply Array.ext';simp)⟩
  ·rename_i hne
   have fin:∀ {dp:Bool} {S:List Nat} {cs:List CVal} {b1:List Blk},K (.lref b1.length 0) (b1 ++ [⟨0,.arr ⟨dp,false,0⟩ (P.cellsOf e) cs⟩])=some r→Taken F w μ b S b1∨(S=[]∧Upd F w μ b w μ b1∧Rel F w μ b1)→
     GEs dp (Or (FS F S) (Own μ b1)) w (P.cellsOf e) S cs (pv.map (·.2))→Acts P F w μ b K r (Instr.buildSlice t len pv.toArray) false:=by
    intro dp S cs b1 h hT hes
    have hlc:cs.length=len:=by have:=hes.len;simp at this;omega
    have hpl:pv.length=len:=by omega
    have hsz:∀ p ∈ pv,∃ us:List Value,p.2.cells=us.toArray∧us.length=P.cellsOf e:=by
     intro p hp'
     have:=hes.sizes p.2 (List.mem_map.2 ⟨p,hp',rfl⟩)
     exact ⟨p.2.cells.toList,by simp,by simpa using this⟩
    have hfill:=fill_all (i:=0) (vs:=((Array.range (len * P.cellsOf e)).map (z.cells[· % z.cells.size]!)).toList) hp hl hsz (by simp [hpl])
    simp only [Nat.zero_mul,List.take_zero,List.nil_append,Nat.zero_add,hpl] at hfill
    rw [List.drop_of_length_le (by simp)] at hfill
    simp only [List.append_nil,Array.toArray_toList] at hfill
    have hn0:¬ (len * P.cellsOf e=0):=by
     rw [Nat.mul_eq_zero]
     rintro (h | h)
     ·exact hne h
     ·exact h3 h
    have hrun:∀ cells,cells=flatC (pv.map (·.2))→(Instr.buildSlice t len pv.toArray).run P w=.ok (.slice (some (pl w.heap.size 0)) cs.length cs.length) (w.alloc (.cells cells.toArray e (0,0))):=by
     intro cells hcells
     subst hcells
     simp only [Instr.buildSlice,Sem.run_bind,run_und he,Result.andThen_ok,run_size hd,if_neg hbig,if_neg hn0,run_zero hi hz,Sem.run_pure,Sem.run_ite,hfill,newRow,run_newObj]
     rw [hlc]
     rfl
    rcases hT with T | ⟨rfl,U,R1⟩
    ·obtain ⟨μ',hpost⟩:=arr_post (e:=e) (cap:=cs.length) (cells:=flatC (pv.map (·.2))) T.rel T.nodup (T.adopt R) hes (Nat.le_refl _) (by rw [hes.flat_len];exact Nat.le_refl _) (fun _ _ h=>h)
     exact ⟨_,_,h,by simp,_,_,μ',hrun _ rfl,T.post hpost⟩
    ·have e0:FS F []=F:=FS_nil
     obtain ⟨μ',hpost⟩:=arr_post (F:=F) (S:=[]) (e:=e) (cap:=cs.length) (cells:=flatC (pv.map (·.2))) (by rw [e0];exact R1) List.nodup_nil (by simp) hes (Nat.le_refl _) (by rw [hes.flat_len];exact Nat.le_refl _) (fun _ _ h=>h)
     rw [e0] at hpost
     exact ⟨_,_,h,by simp,_,_,μ',hrun _ rfl,Post.pre U (.refl _ _) hpost⟩
   rcases br_some h with ⟨_,h⟩ | ⟨_,h⟩
   ·obtain ⟨cs,b1,S,h,T,hes⟩:=takeAllK_sound R hvals h
    exact fin h (.inl T) hes
   ·obtain ⟨cs,hcs,h⟩:=bind_some' h
    obtain ⟨hf,h⟩:=br_none h
    obtain ⟨U0,R0⟩:=killL_upd l R
    have hcl:=closeL_sound R (killL_sub l b) hcs hvals (killL_dead l b)
    have e0:FS F []=F:=FS_nil
    exact fin (by rw [(killL_sub l b).len];exact h) (.inr ⟨rfl,U0,R0⟩) (by rw [e0];exact GEs.ofCs hcl hf)
 ·cases h
theorem zeros_one (z:Value) (hz:z.cells = #[z]) (n:Nat):(Builtin.zeroCells z.cells n).toList=flatC (List.replicate n z):=by
 have e:flatC (List.replicate n z)=List.replicate n z:=by
  unfold flatC
  rw [List.flatMap_replicate,hz]
  simp
 rw [e,hz]
 simp only [Builtin.zeroCells,List.size_toArray,List.length_singleton,Nat.mul_one,Array.toList_map,Array.toList_range]
 apply List.ext_getElem
 ·simp
 ·intro i h1 h2
  simp [Nat.mod_one]
theorem GEs.replicate {d:Bool} {sz:Nat} {c:CVal} {z:Value} (ht:noTup c=true) (h:GRel d N w [] c z) (hz:z.cells.size=sz):∀ n:Nat,GEs d N w sz [] (List.replicate n c) (List.replicate n z)
 |0=>⟨rfl,rfl⟩
 |n + 1=>⟨[],[],z,List.replicate n z,rfl,rfl,ht,h,hz,GEs.replicate ht h hz n⟩
theorem clearK_sound {t out:TypeId} {ts:Array TypeId} {x:AVal} {v:Value} {K:List Blk→Option R'} (R:Rel F w μ b) (hx:ARel (Or F (Own μ b)) w μ b x v) (hts:ts[0]? = some t)
  (h:clearK P t b x K=some r):∃ b',K b'=some r∧∃ w' μ',(Builtin.clear_ ts out #[v]).run P w=.ok (.tuple #[]) w'∧∀ z,Post F w μ b w' μ' b' .un z:=by
 unfold clearK at h
 split at h
 ·rename_i e ht
  have hnone:∀ (base:Option Addr) (cap:Nat),(Builtin.clear_ ts out #[.slice base 0 cap]).run P w=.ok (.tuple #[]) w:=by
   intro base cap
   cases base<;>simp [Builtin.clear_,hts,run_und ht]
  split at h
  ·obtain ⟨base,rfl⟩:=hx
   exact ⟨b,h,w,μ,hnone base 0,fun z=>.same R trivial⟩
  ·rename_i i ver lo
   obtain ⟨xs,hxs,h⟩:=bind_some' h
   obtain ⟨z,hz,h⟩:=bind_some' h
   obtain ⟨zv,hzv,hzr⟩:=zeroT_spec (N:=Or F (Own μ b)) (w:=w) (μ:=μ) (b:=b) hz
   split at h
   ·rename_i c
    obtain ⟨h0,h⟩:=br_none h
    simp only [Bool.and_eq_true,decide_eq_true_eq,beq_iff_eq,Bool.not_eq_true'] at h0
    obtain ⟨⟨⟨⟨hag,hfit⟩,hs1⟩,hlo⟩,hfx⟩:=h0
    obtain ⟨m,sz,base,cap,rs,S,hb,hm,hmd,hsz,hl,hc⟩:=R.arr hxs
    obtain ⟨_,blk,hd,hb',hm',_,_,hv⟩:=hx
    rw [hb] at hb';cases hb'
    rw [hm] at hm';cases hm'
    obtain ⟨base1,len1,cap1,sz1,rs1,S1,he,hlo1,base',rfl,hbase⟩:=hv rfl rfl
    cases he
    rw [hmd] at h hfx
    rw [hsz] at h hs1
    subst hs1
    have hzc:CRel (Or F (Own μ b)) w c zv:=hzr
    have hft:=fitsF_fits hfit
    obtain ⟨vs1,hvs1,_,hvl1,_,hva⟩:=CRel.fits hzc hft
    obtain ⟨rfl,hzfl⟩:=hva rfl
    have hfl:zv.cells = #[zv]:=hvs1
    have hnt:noTup c=true:=fits_noTup hft
    have hi:=(List.getElem?_eq_some_iff.1 hb).1
    have hi':=(List.getElem?_eq_some_iff.1 hm).1
    have hlx:(xs.take lo ++ List.replicate (xs.length - lo) c).length=xs.length:=by simp;omega
    have V:∀ {w':World} {S':List Nat},VerOk w ⟨ver,.arr m 1 xs⟩ (.arr base xs.length cap 1 rs S) w' ⟨ver,.arr ⟨m.deep,m.fix,m.sv + 1⟩ 1 (xs.take lo ++ List.replicate (xs.length - lo) c)⟩ (.arr base xs.length cap 1 rs S'):=by
     intro w' S'
     refine ⟨Nat.le_refl _,(fun _ h=>by cases h),(fun _ h=>by cases h),fun _ _ _=>⟨rfl,rfl⟩,(fun h=>by simp [alive] at h),(fun h=>by simp [isFix,hfx] at h),fun _ m' sz' xs' hcont _=>?_⟩
     simp only [cont,Option.some.injEq,Prod.mk.injEq] at hcont
     obtain ⟨rfl,rfl,rfl⟩:=hcont
     exact ⟨m,xs,rfl,Nat.le_succ _,fun e=>absurd e (Nat.succ_ne_self _)⟩
    rcases Nat.lt_or_ge lo xs.length with hlt | hge
    ·have hbs:=hbase hlt
     rcases hc with ⟨h0,_⟩ | ⟨x,cells,e',h0,rfl,hw,hrs,hz',hnd,hel⟩
     ·omega
     have hb0:base'=some (pl x lo):=by rw [hbs];simp [pl_add]
     subst hb0
     have hroom:cap * 1 ≤ rs:=hz' hfx
     have hroom':0 + lo + (List.replicate (xs.length - lo) zv).length ≤ cells.size:=by simp;omega
     have hst:=run_storeCells_at (P:=P) x lo e' (List.replicate (xs.length - lo) zv) 0 cells w hw (by simpa using hroom') fun v hv=>by
      rw [List.mem_replicate] at hv;rw [hv.2];exact flat_oneCell hzfl
     simp only [Nat.add_zero] at hst
     have hzl:=zeros_one zv hfl (xs.length - lo)
     have hfr:flatC (List.replicate (xs.length - lo) zv)=List.replicate (xs.length - lo) zv:=by
      unfold flatC
      rw [List.flatMap_replicate,hfl]
      simp
     have hrun:(Builtin.clear_ ts out #[.slice (some (pl x lo)) (xs.length - lo) (cap - lo)]).run P w=.ok (.tuple #[]) (w.setRow x (cells.toList.take lo ++ List.replicate (xs.length - lo) zv ++ cells.toList.drop (lo + (List.replicate (xs.length - lo) zv).length)).toArray):=by
      obtain ⟨k,hk⟩:∃ k,xs.length - lo=k + 1:=⟨xs.length - lo - 1,by omega⟩
      rw [hfr] at hzl
      rw [hk] at hzl hst ⊢
      have hst2:(storeCells (pl x lo) (List.replicate (k + 1) zv)).run P w=_:=hst
      simp [Builtin.clear_,hts,run_und ht,hzv,hzl,hst2]
     obtain ⟨S1,S2,rfl,htk⟩:=GEl.take lo hel
     obtain ⟨vs,hvs,hcell⟩:=htk.out
     have hflen:=hvs.flat_len
     have hmin:min lo xs.length=lo:=by omega
     rw [List.length_take,hmin,Nat.mul_one] at hflen
     have hown:Own μ b x:=⟨i,_,_,hb,rfl,hm,by rw [own_arr h0];simp⟩
     have hnd1:=List.nodup_cons.1 hnd
     have hne:∀ y ∈ S1,y ≠ x:=fun y hy e=>hnd1.1 (by rw [← e];simp [hy])
     refine ⟨_,h,_,μ.set i (.arr (some (pl x 0)) xs.length cap 1 rs S1),hrun,fun z=>?_⟩
     refine set_post2 (F:=F) (G:=F) (x:=.un) (v:=z) R (fun _ h=>h) hb hm V (by simp) ?_ ?_ rfl rfl rfl ?_ (fun _=>trivial)
     ·intro y _ hy
      rw [own_arr h0] at hy
      rcases List.mem_cons.1 hy with hy | hy
      ·subst hy
       exact ⟨by simpa using (R.fres y hown).2,.inr (.inl ⟨rfl,by rw [own_arr h0];simp⟩)⟩
      ·have:Own μ b y:=⟨i,_,_,hb,rfl,hm,own_mem (by simp [hy])⟩
       exact ⟨by simpa using (R.fres y this).2,.inr (.inl ⟨rfl,own_mem (by simp [hy])⟩)⟩
     ·intro y _ hne'
      exact setRow_off fun e=>hne' rfl (by rw [e,own_arr h0];simp)
     ·intro U
      refine ⟨some (pl x 0),cap,rs,S1,by rw [hlx],by rw [hlx];exact hl,.inr ⟨x,_,e',h0,rfl,setRow_heap' hw,?_,fun _=>hroom,?_,?_⟩⟩
      ·rw [← hrs]
       simp only [List.size_toArray,List.length_append,List.length_take,List.length_drop,Array.length_toList,List.length_replicate]
       simp at hroom';omega
      ·rw [List.nodup_cons];exact ⟨fun h=>hne x h rfl,(List.nodup_append.1 hnd1.2).1⟩
      ·have hall:GEs m.deep (Or F (Own μ b)) w 1 (S1 ++ []) (xs.take lo ++ List.replicate (xs.length - lo) c) (vs ++ List.replicate (xs.length - lo) zv):=
        hvs.append (GEs.replicate hnt (GRel.ofF hzc hfit) (by rw [hfl];rfl) _)
       rw [List.append_nil] at hall
       refine GEl.inBlock (hall.keep U.keep fun y hy=>setRow_off (hne y hy)) (setRow_heap' hw) fun j v hv=>?_
       rw [flatC_append,hfr] at hv
       by_cases hj:j < (flatC vs).length
       ·rw [List.getElem?_append_left hj] at hv
        have h1:=hcell j v hv
        simp only [World.cell?,pl,hw,Nat.zero_add] at h1
        rw [List.append_assoc,List.getElem?_append_left (by simp;omega),List.getElem?_take_of_lt (by omega)]
        simpa using h1
       ·rw [List.getElem?_append_right (by omega)] at hv
        have hj2:=(List.getElem?_eq_some_iff.1 hv).1
        simp at hroom'
        have hmin:min lo cells.size=lo:=by omega
        rw [List.append_assoc,List.getElem?_append_right (by simp;omega)]
        simp only [List.length_take,Array.length_toList,hmin]
        rw [hflen] at hv
        rw [List.getElem?_append_left (by omega)];exact hv
    ·have hlo2:xs.length - lo=0:=by omega
     have hxt:xs.take lo ++ List.replicate (xs.length - lo) c=xs:=by rw [hlo2,List.take_of_length_le hge];simp
     rw [hxt] at V h
     have hrun:(Builtin.clear_ ts out #[.slice base' (xs.length - lo) (cap - lo)]).run P w=.ok (.tuple #[]) w:=by rw [hlo2];exact hnone _ _
     refine ⟨_,h,w,μ,hrun,fun z=>?_⟩
     have key:=set_post2 (F:=F) (G:=F) (x:=.un) (v:=z) (h':=.arr base xs.length cap 1 rs S) (w':=w) R (fun _ h=>h) hb hm V (Nat.le_refl _)
      (fun y _ hy=>⟨(R.fres y ⟨i,_,_,hb,rfl,hm,hy⟩).2,.inr (.inl ⟨rfl,hy⟩)⟩) (fun _ _ _=>rfl) rfl rfl rfl
      (fun U=>⟨base,cap,rs,S,rfl,hl,?_⟩) (fun _=>trivial)
     ·rw [set_self hm] at key;exact key
     ·rcases hc with hc | ⟨x,cells,e',h0,rfl,hw,hrs,hz',hnd,hel⟩
      ·exact .inl hc
      ·exact .inr ⟨x,cells,e',h0,rfl,hw,hrs,hz',hnd,GEl.keep U.keep rfl (fun _ _=>rfl) hel⟩
   ·cases h
  ·cases h
 ·cases h
end
end Go.Proofs.Ytognghbhdalckaa.Abs
namespace Go.Proofs.Ytognghbhdalckaa.Abs
open Go
variable [Glob]
section
variable {P:Program} {w:World} {F N:Nat→Prop} {μ:List Hd} {b:List Blk} {R':Type} {r:R'}
theorem Acts.ofYld {K:AVal→List Blk→Option R'} {S:Sem Value} (R:Rel F w μ b) (h:Yld P (Or F (Own μ b)) w μ b (fun y=>K y b) r S) {ro:Bool}:Acts P F w μ b K r S ro:=by
 obtain ⟨y,hy,u,hr,ha⟩:=h
 exact ⟨y,b,hy,fun _=>rfl,u,w,μ,hr,.same R ha⟩
theorem flatC_rep (z:Value) (sz:Nat) (hz:z.cells.size=sz) (h0:sz ≠ 0):∀ (n:Nat),
  flatC (List.replicate n z)=((Array.range (n * sz)).map (z.cells[· % z.cells.size]!)).toList
 |0=>by simp [flatC]
 |n + 1=>by
  have ih:=flatC_rep z sz hz h0 n
  unfold flatC at *
  rw [List.replicate_succ',List.flatMap_append,ih]
  apply List.ext_getElem?
  intro j
  have hl:((Array.range (n * sz)).map (z.cells[· % z.cells.size]!)).toList.length=n * sz:=by simp
  have e:(n + 1) * sz=n * sz + sz:=by rw [Nat.add_mul];omega
  by_cases hj:j < n * sz
  ·rw [List.getElem?_append_left (by omega)]
   simp [hj,e,Nat.lt_of_lt_of_le hj (Nat.le_add_right (n * sz) sz)]
  ·rw [List.getElem?_append_right (by omega),hl]
   by_cases hj2:j < n * sz + sz
   ·have hm:j % sz=j - n * sz:=by
     have:j=(j - n * sz) + n * sz:=by omega
     rw [this,Nat.add_mul_mod_self_right,Nat.mod_eq_of_lt (by omega)];omega
    have h1:j - n * sz < z.cells.size:=by omega
    simp [e,hj2,hz,hm,h1]
    rw [getElem!_pos z.cells _ h1,Array.getElem?_eq_getElem h1]
   ·have h1:¬ (j - n * sz < z.cells.size):=by omega
    simp [e,hj2,h1]
theorem GEs.rep {d:Bool} {sz:Nat} {c:CVal} {z:Value} (h1:noTup c=true) (h2:GRel d N w [] c z) (h3:z.cells.size=sz):∀ n,GEs d N w sz [] (List.replicate n c) (List.replicate n z)
 |0=>⟨rfl,rfl⟩
 |n + 1=>⟨[],[],z,List.replicate n z,rfl,rfl,h1,h2,h3,GEs.rep h1 h2 h3 n⟩
theorem zCells_sound:∀ {ks:List CK} {xs:List AVal} {cs:List CVal} {vs:List Value},AsRel N w μ b true xs vs→zCells ks xs=some cs→DCs N w true [] cs vs∧cs.length=ks.length
 |[],[],cs,vs,ha,h=>by
  simp [zCells] at h;subst h
  exact ⟨⟨rfl,ha⟩,rfl⟩
 |[],_ :: _,_,_,_,h=>by simp [zCells] at h
 |_ :: _,[],_,_,_,h=>by simp [zCells] at h
 |k :: ks,x :: xs,cs,vs,ha,h=>by
  obtain ⟨u,us,rfl,hx,hf,ha⟩:=ha
  have pt:∀ {c:CVal},x=.v c→(br (k.ok c) ((zCells ks xs).bind fun l=>some (c :: l)) none)=some cs→DCs N w true [] cs (u :: us)∧cs.length=(k :: ks).length:=by
   intro c e g
   subst e
   obtain ⟨hk,g⟩:=br_none g
   obtain ⟨l,hl,g⟩:=bind_some' g
   simp at g;subst g
   obtain ⟨g1,g2⟩:=zCells_sound ha hl
   exact ⟨⟨[],[],u,us,rfl,rfl,(DRel.pt (CK.pt hk)).2 ⟨rfl,hx⟩,hf,g1⟩,by simp [g2]⟩
  cases x with
  |v c=>cases k<;>exact pt rfl h
  |nl=>
   cases k with
   |sl e=>
    have h:(zCells ks xs).bind (fun l=>some (CVal.sl [] :: l))=some cs:=h
    obtain ⟨l,hl,h⟩:=bind_some' h
    simp at h;subst h
    obtain ⟨base,rfl⟩:=hx
    obtain ⟨g1,g2⟩:=zCells_sound ha hl
    exact ⟨⟨[],[],_,us,rfl,rfl,⟨base,0,rfl,Nat.le_refl _,.inl ⟨rfl,rfl⟩⟩,hf,g1⟩,by simp [g2]⟩
   |_=>simp [zCells] at h
  |_=>cases k<;>simp [zCells] at h
theorem makeSliceK_sound {D:TypeId→Bool} {t:TypeId} {x y:AVal} {v u:Value} {K:AVal→List Blk→Option R'} (R:Rel F w μ b)
  (hx:ARel (Or F (Own μ b)) w μ b x v) (hy:ARel (Or F (Own μ b)) w μ b y u) (h:makeSliceK D P t x y b K=some r):Acts P F w μ b K r (Instr.makeSlice t v u) false:=by
 unfold makeSliceK at h
 split at h
 ·rename_i e he
  obtain ⟨k,n,rfl,h⟩:=wIdx_sound hx h
  obtain ⟨k',m,rfl,h⟩:=wIdx_sound hy h
  obtain ⟨h0,g⟩:=br_none h
  clear h
  simp only [Bool.and_eq_true,decide_eq_true_eq] at h0
  obtain ⟨⟨⟨⟨h1,h2⟩,h3⟩,h4⟩,h5⟩:=h0
  subst h4
  have h:=g
  clear g
  obtain ⟨d,i,z,hd,hi,hz,hzs,hby⟩:=elemOk_spec h1
  obtain ⟨z',hz',h⟩:=bind_some' h
  obtain ⟨zv,hzr,hzrel⟩:=zeroT_spec (P:=P) (N:=Or F (Own μ b)) (w:=w) (μ:=μ) (b:=b) hz'
  have hzz:zv=z:=by
   have h6:=hzr w
   have h7:(zeroValue e).run P w=.ok z w:=run_zero hi hz
   rw [h7] at h6;cases h6;rfl
  subst hzz
  obtain ⟨zs,zvs,h,hzc,hzv,hzn,hag,hna⟩:=wCells_sound hzrel h
  have hcells:=flatC_rep zv (P.cellsOf e) hzs h2 n.toNat
  have hwrap:IntKind.i64.wrap n=n:=by
   have:n < 9223372036854775808:=by omega
   simp only [IntKind.wrap,IntKind.signed,IntKind.bits]
   simp
   omega
  have hb1:(i.bytes:Int) * n ≤ 4096 * 1048576:=by
   have hh1:(i.bytes:Int) ≤ 4096:=by omega
   calc (i.bytes:Int) * n ≤ 4096 * n:=Int.mul_le_mul_of_nonneg_right hh1 h3
    _ ≤ 4096 * 1048576:=by omega
  have hbig:¬ ((i.bytes:Int) * n > 2 ^ 48):=by omega
  have hneg:¬ (n < 0):=by omega
  have hask:∀ k:Nat,(askRoom k).run P w=.ok () w:=by
   intro k;unfold askRoom;split<;>rfl
  have hn:((n.toNat * P.cellsOf e=0)=False)∨n.toNat=0:=by
   by_cases h0:n.toNat=0
   ·exact .inr h0
   ·left;simp [Nat.mul_eq_zero,h0,h2]
  have hinfo:(typeInfo e).run P w=.ok i w:=by simp [typeInfo,hi]
  have hai:∀ (k:IntKind) (n:Int),(asInt (.int k n)).run P w=.ok n w:=fun _ _=>rfl
  have hb2:¬ (281474976710656 < (i.bytes:Int) * n):=by omega
  have hrun:(Instr.makeSlice t (.int k n) (.int k' n)).run P w=.ok (.slice (some (pl w.heap.size 0)) n.toNat n.toNat) (w.alloc (.cells (flatC (List.replicate n.toNat zv)).toArray e (0,0))):=by
   rw [hcells]
   rcases hn with hn | hn
   ·simp [Instr.makeSlice,run_und he,hai,hinfo,hwrap,hneg,hb2,hask,run_size hd,hn,hzr,newRow]
    refine ⟨rfl,?_⟩
    congr 2
    apply Array.ext';simp
   ·simp [Instr.makeSlice,run_und he,hai,hinfo,hwrap,hneg,hb2,hask,run_size hd,hn,hzr,newRow]
    exact ⟨rfl,by first | rfl | (congr 2;apply Array.ext';simp)⟩
  have e0:FS F []=F:=FS_nil
  have fin:∀ {dp:Bool} {c:CVal} {b1:List Blk},K (.lref b1.length 0) (b1 ++ [⟨0,.arr ⟨dp,false,0⟩ (P.cellsOf e) (List.replicate n.toNat c)⟩])=some r→Upd F w μ b w μ b1→Rel F w μ b1→noTup c=true→GRel dp (Or F (Own μ b1)) w [] c zv→
    Acts P F w μ b K r (Instr.makeSlice t (.int k n) (.int k' n)) false:=by
   intro dp c b1 h U R1 hnt hg
   have hes:=GEs.rep (N:=Or F (Own μ b1)) (w:=w) hnt hg hzs n.toNat
   obtain ⟨μ',hpost⟩:=arr_post (F:=F) (S:=[]) (e:=e) (cap:=n.toNat) (cells:=flatC (List.replicate n.toNat zv)) (by rw [e0];exact R1) List.nodup_nil (by simp) (by rw [e0];exact hes) (by simp) (by rw [hes.flat_len];simp) (fun _ _ h=>h)
   rw [e0] at hpost
   have hlen:(List.replicate n.toNat c).length=n.toNat:=by simp
   rw [hlen] at hpost
   exact ⟨_,_,h,by simp,_,_,μ',hrun,Post.pre U (.refl _ _) hpost⟩
  rcases br_some h with ⟨_,hK⟩ | ⟨_,h⟩
  ·obtain ⟨cs,hcs,hK⟩:=bind_some' hK
   obtain ⟨hdc,hlen⟩:=zCells_sound hzc hcs
   have key:noTup (packC (aggT P e) cs)=true∧DRel (Or F (Own μ b)) w [] (packC (aggT P e) cs) zv:=by
    unfold packC
    cases ha:aggT P e with
    |true=>
     have:=hag ha
     subst this
     exact ⟨rfl,_,rfl,hdc⟩
    |false=>
     obtain ⟨_,hz1⟩:=hna ha
     rw [hz1] at hdc
     obtain ⟨c,rfl⟩:∃ c,cs=[c]:=List.length_eq_one_iff.1 (by have:=hdc.len;simpa using this.symm)
     obtain ⟨hc,hfl⟩:=DCs.one hdc
     simp only [cond_false,List.headD_cons]
     refine ⟨?_,hc⟩
     cases c with
     |tup l=>obtain ⟨z,hz2,_⟩:=hc;rw [hz2] at hfl;simp [flat] at hfl
     |_=>rfl
   exact fin hK (.refl R) R key.1 key.2
  ·obtain ⟨c,hc,h⟩:=bind_some' h
   obtain ⟨hf,h⟩:=br_none h
   obtain ⟨U0,R0⟩:=killA_upd z' R
   have hcl:=closeA_sound R (killA_sub z' b) hc hzrel (killA_dead z' b)
   exact fin (dp:=false) (by rw [(killA_sub z' b).len];exact h) U0 R0 (fits_noTup hf) ⟨rfl,hcl⟩
 ·cases h
theorem bytes_loop {d:Bool}:∀ (S:List Nat) (xs:List CVal) (us:List Value) (s acc:List UInt8),GEs d N w 1 S xs us→bytesOfC xs=some s→
  ((forIn (flatC us) (⟨acc.toArray⟩:ByteArray) fun c (s:ByteArray)=>(do
   let .int .u8 n:=c | stuck "bytesToString: byte expected"
   pure (.yield (s.push (UInt8.ofNat n.toNat))):Sem (ForInStep ByteArray))):Sem ByteArray).run P w=.ok ⟨(acc ++ s).toArray⟩ w
 |_,[],_,s,acc,he,h=>by
  rw [he.2]
  simp [bytesOfC] at h;subst h
  simp [flatC]
 |_,c :: r,_,s,acc,he,h=>by
  obtain ⟨S1,S2,u,l,rfl,rfl,h1,h2,h3,he⟩:=he
  simp only [bytesOfC] at h
  obtain ⟨n,hn,h⟩:=bind_some' h
  obtain ⟨s',hs,h⟩:=bind_some' h
  simp at h;subst h
  cases c<;>simp [CVal.asInt] at hn
  rename_i k n'
  obtain ⟨rfl,rfl⟩:=hn
  have hu:u=.int .u8 n':=by
   cases d
   ·exact h2.2
   ·exact h2.2
  subst hu
  have ih:=bytes_loop S2 r l s' (acc ++ [UInt8.ofNat n'.toNat]) he hs
  have hp:(⟨acc.toArray⟩:ByteArray).push (UInt8.ofNat n'.toNat)=⟨(acc ++ [UInt8.ofNat n'.toNat]).toArray⟩:=by
   apply ByteArray.ext;simp [ByteArray.push]
  have hfl:flatC (Value.int .u8 n' :: l)=Value.int .u8 n' :: flatC l:=by simp [flatC,Value.cells]
  rw [hfl,List.forIn_cons]
  simp only [Sem.run_bind,Sem.run_pure,Result.andThen_ok,hp]
  rw [ih,List.append_assoc]
  rfl
theorem bytes_fit:∀ {ys:List CVal} {s:List UInt8},bytesOfC ys=some s→ys.all (CVal.fits false 1)=true
 |[],_,_=>rfl
 |c :: r,s,h=>by
  simp only [bytesOfC] at h
  obtain ⟨n,hn,h⟩:=bind_some' h
  obtain ⟨s',hs,h⟩:=bind_some' h
  cases c<;>simp [CVal.asInt] at hn
  rw [List.all_cons,bytes_fit hs]
  rfl
theorem run_bytes {e:TypeId} (s:List UInt8):∃ w' cap pad fr,(Conv.stringToBytes e ⟨s.toArray⟩).run P w=.ok (.slice (some (pl w.heap.size 0)) s.length cap) w'∧s.length ≤ cap∧
  w'.heap.size=w.heap.size + 1∧(∀ x,x < w.heap.size→w'.heap[x]? = w.heap[x]?)∧w'.os=w.os∧w'.tape=w.tape∧w'.output=w.output∧
  w'.heap[w.heap.size]? = some (.cells (List.toArray (s.map (fun c=>Value.int .u8 c.toNat) ++ pad)) e fr):=by
 let cap:=(Question.appendCap s.length 0 e).cut (w.tape w.drawn (Question.appendCap s.length 0 e))
 have hge:s.length ≤ cap:=by
  show _ ≤ s.length + _
  omega
 let cells:Array Value:=List.toArray (s.map (fun c=>Value.int .u8 c.toNat) ++ List.replicate (cap - s.length) (Value.int .u8 0))
 let w1:World:=({ w with drawn:=w.drawn + 1 }:World).alloc (.cells cells e (0,0))
 refine ⟨w1.freeze ⟨w.heap.size,cells.size,none⟩ 1,cap,List.replicate (cap - s.length) (Value.int .u8 0),(cells.size,cells.size + 1),?_,hge,?_,?_,rfl,rfl,rfl,?_⟩
 ·have hf:(Question.appendCap s.length 0 e).forced=false:=rfl
  have hsz:(⟨s.toArray⟩:ByteArray).size=s.length:=rfl
  have hcells:(Array.map (fun b:UInt8=>Value.int .u8 ↑b.toNat) s.toArray ++ Array.replicate (cap - s.length) (Value.int .u8 0))=cells:=by
   apply Array.ext';simp [cells]
  have hshape:w1.shape? w.heap.size=some (e,cells.size):=by
   unfold World.shape?
   rw [drew_at]
  simp only [Conv.stringToBytes,Sem.run_bind,hsz]
  simp [hf,newRow,markStringish]
  have hc2:((List.map (fun b:UInt8=>Value.int .u8 ↑b.toNat) s).toArray ++ Array.replicate ((Question.appendCap s.length 0 e).cut (w.tape w.drawn (Question.appendCap s.length 0 e)) - s.length) (Value.int .u8 0))=cells:=by
   apply Array.ext';simp [cells,cap]
  rw [hc2]
  have hsh:(w.drew.alloc (Obj.cells cells e)).shape? w.heap.size=some (e,cells.size):=hshape
  rw [hsh]
  rfl
 ·simp [World.freeze,w1]
 ·intro x hx
  have:x ≠ w.heap.size:=by omega
  simp only [World.freeze,Nat.one_ne_zero,if_false]
  rw [Array.getElem?_modify,if_neg (by simpa using Ne.symm this)]
  exact drew_old w _ x hx
 ·simp only [World.freeze,Nat.one_ne_zero,if_false]
  rw [Array.getElem?_modify,if_pos rfl,drew_at]
  rfl
theorem convertK_sound {src dst:TypeId} {x:AVal} {v:Value} {K:AVal→List Blk→Option R'} (R:Rel F w μ b) (hx:ARel (Or F (Own μ b)) w μ b x v)
  (h:convertK P src dst x b K=some r):Acts P F w μ b K r (convert src dst v) true:=by
 unfold convertK at h
 split at h
 ·rename_i k k' h1 h2
  obtain ⟨n,rfl,h⟩:=wInt_sound hx h
  exact ⟨_,_,h,fun _=>rfl,.int k' (k'.wrap n),w,μ,by simp [convert,run_und h1,run_und h2,Conv.intToInt],.same R rfl⟩
 ·rename_i h1 h2
  obtain ⟨s,rfl,h⟩:=wStr_sound hx h
  exact ⟨_,_,h,fun _=>rfl,.string ⟨s.toArray⟩,w,μ,by simp [convert,run_und h1,run_und h2],.same R rfl⟩
 ·rename_i e h1 h2
  split at h
  ·rename_i h3
   obtain ⟨ys,base,cap,h,rfl,hl,hc⟩:=wSl_sound R hx h
   obtain ⟨s,hs,h⟩:=bind_some' h
   refine ⟨_,_,h,fun _=>rfl,.string ⟨s.toArray⟩,w,μ,?_,.same R rfl⟩
   have hfit:ys.all (CVal.fits false 1)=true:=bytes_fit hs
   obtain ⟨dd,hc⟩:∃ d,ys=[]∨∃ z o sz S,base=some (pl z o)∧z < w.heap.size∧GEl d (Or F (Own μ b)) w sz z o S ys:=by
    rcases hc with hc | ⟨z,o,sz,d,S,h1,h2,h3⟩
    ·exact ⟨false,.inl hc⟩
    ·exact ⟨d,.inr ⟨z,o,sz,S,h1,h2,h3⟩⟩
   obtain ⟨us,S,hus,_,hrun⟩:=run_firstCells (P:=P) (agg:=false) hc hfit
   have hloop:=bytes_loop (P:=P) S ys us s [] hus hs
   have hr:=hrun cap w rfl
   cases base with
   |none=>
    have:ys=[]:=by
     rcases hc with hc | ⟨z,o,sz,S,h,_⟩
     ·exact hc
     ·cases h
    subst this
    simp [bytesOfC] at hs;subst hs
    simp [convert,run_und h1,run_und h2,run_und h3,Conv.bytesToString]
    rfl
   |some a=>
    simp only [Builtin.firstCells,Nat.mul_one] at hr
    simp only [convert,Sem.run_bind,run_und h1,run_und h2,run_und h3,Result.andThen_ok,Conv.bytesToString,hr,List.forIn_toArray,Sem.run_pure]
    have h0:(⟨([]:List UInt8).toArray⟩:ByteArray)=ByteArray.empty:=rfl
    rw [h0] at hloop
    erw [hloop]
    rfl
  ·cases h
 ·rename_i e h1 h2
  split at h
  ·rename_i h3
   obtain ⟨s,rfl,h⟩:=wStr_sound hx h
   obtain ⟨h0,h⟩:=br_none h
   obtain ⟨w',cap,pad,fr,hrun,hcap,hsz,hold,ho,ht,hout,hat⟩:=run_bytes (P:=P) (w:=w) (e:=e) s
   refine ⟨_,_,h,fun _=>rfl,_,w',μ,by simp only [convert,Sem.run_bind,run_und h1,run_und h2,run_und h3,Result.andThen_ok];exact hrun,
    Post.grow R (by omega) hold ho ht hout ⟨_,cap,by simp [bytesC],by simpa [bytesC] using hcap,.inr ⟨w.heap.size,0,1,rfl,?_,by omega,?_⟩⟩⟩
   ·rintro (hf | hf)
    ·have:=R.fb _ hf;omega
    ·have:=(R.fres _ hf).2;omega
   ·have hes:∀ s:List UInt8,GEs false (Or F (Own μ b)) w' 1 [] (bytesC s) (s.map fun c=>Value.int .u8 c.toNat):=by
     intro s
     induction s with
     |nil=>exact ⟨rfl,rfl⟩
     |cons c r ih=>exact ⟨[],[],_,_,rfl,rfl,rfl,⟨rfl,rfl⟩,rfl,ih⟩
    refine (GEl.toE (GEl.inBlock (hes s) hat fun j v hv=>?_)).1
    have hfl:∀ s:List UInt8,flatC (s.map fun c=>Value.int .u8 c.toNat)=s.map fun c=>Value.int .u8 c.toNat:=by
     intro s
     induction s with
     |nil=>rfl
     |cons c r ih=>unfold flatC at *;rw [List.map_cons,List.flatMap_cons,ih];rfl
    rw [hfl] at hv
    rw [List.getElem?_append_left (List.getElem?_eq_some_iff.1 hv).1]
    exact hv
  ·cases h
 ·cases h
end
end Go.Proofs.Ytognghbhdalckaa.Abs
namespace Go.Proofs.Ytognghbhdalckaa.Abs
open Go
variable [Glob]
section
variable {P:Program} {w:World} {F N:Nat→Prop} {μ:List Hd} {b:List Blk} {R':Type} {r:R'}
theorem AsRel.set:∀ {fl:Bool} {cs:List AVal} {vs:List Value} {i:Nat} {x:AVal} {v:Value},AsRel N w μ b fl cs vs→ARel N w μ b x v→(fl=true→flat v=true)→
  AsRel N w μ b fl (cs.set i x) (vs.set i v)
 |_,[],_,i,x,v,h,_,_=>by rw [show _=[] from h];simp [AsRel]
 |_,c :: r,_,0,x,v,h,hx,hf=>by
  obtain ⟨u,us,rfl,_,_,h⟩:=h
  exact ⟨v,us,rfl,hx,hf,h⟩
 |_,c :: r,_,i + 1,x,v,h,hx,hf=>by
  obtain ⟨u,us,rfl,h1,h2,h⟩:=h
  exact ⟨u,us.set i v,rfl,h1,h2,AsRel.set h hx hf⟩
def TRel (N:Nat→Prop) (w:World) (μ:List Hd) (b:List Blk) (t:List AVal) (a:Act):Prop:=AsRel N w μ b false t a.tmps.toList∧a.defers=[]
theorem TRel.eval {t:List AVal} {a:Act} (h:TRel N w μ b t a) (x:Operand):ARel N w μ b (evalA t x) (a.eval x):=by
 cases x with
 |tmp i=>
  simp only [evalA,Act.eval,List.getD_eq_getElem?_getD,Array.getD_eq_getD_getElem?]
  cases hi:t[i]? with
  |none=>trivial
  |some c=>
   obtain ⟨v,hv,hr,_⟩:=AsRel.get h.1 hi
   have:a.tmps[i]? = some v:=by simpa using hv
   rw [this];exact hr
 |const c=>
  simp only [evalA,Act.eval]
  cases hc:ofVal c with
  |none=>trivial
  |some x=>exact ofVal_rel hc
 |func f=>exact ⟨[],rfl,rfl⟩
 |global g=>trivial
theorem TRel.put {t:List AVal} {a:Act} (h:TRel N w μ b t a) (d:Option Nat) {x:AVal} {v:Value} (hx:ARel N w μ b x v):TRel N w μ b (putA t d x) (a.put d v):=by
 cases d with
 |none=>exact h
 |some i=>
  unfold TRel putA Act.put
  simp only [Array.toList_setIfInBounds]
  exact ⟨AsRel.set h.1 hx (by simp),h.2⟩
theorem TRel.set {t:List AVal} {a:Act} (h:TRel N w μ b t a) (i:Nat) {x:AVal} (hx:∀ v,a.tmps[i]? = some v→ARel N w μ b x v):TRel N w μ b (t.set i x) a:=by
 refine ⟨?_,h.2⟩
 replace h:=h.1
 by_cases hi:i < a.tmps.size
 ·have:a.tmps.toList=a.tmps.toList.set i a.tmps[i]:=by
   rw [set_self];simp [hi]
  rw [this]
  exact AsRel.set h (hx _ (Array.getElem?_eq_getElem hi)) (by simp)
 ·rw [List.set_eq_of_length_le (by have:=AsRel.len h;simp at this;omega)]
  exact h
theorem TRel.upd {w':World} {μ':List Hd} {b':List Blk} {t:List AVal} {a:Act} (U:Upd F w μ b w' μ' b') (h:TRel (Or F (Own μ b)) w μ b t a):TRel (Or F (Own μ' b')) w' μ' b' t a:=
 ⟨AsRel.upd U h.1,h.2⟩
theorem mapParts_rel {t:List AVal} {a:Act} (h:TRel N w μ b t a) (ps:Array (Nat × Operand)) :
  ∃ pv:List (Nat × Value),(ps.map fun (i,x)=>(i,a.eval x))=pv.toArray∧Parts N w μ b (mapParts t ps) pv:=by
 refine ⟨ps.toList.map fun p=>(p.1,a.eval p.2),by apply Array.ext';simp,?_⟩
 unfold mapParts
 generalize ps.toList=l
 induction l with
 |nil=>rfl
 |cons p l ih=>exact ⟨_,_,rfl,h.eval p.2,ih⟩
theorem args_rel {t:List AVal} {a:Act} (h:TRel N w μ b t a):∀ l:List Operand,AsRel N w μ b false (l.map (evalA t)) (l.map a.eval)
 |[]=>rfl
 |x :: r=>⟨_,_,rfl,h.eval x,(by simp),args_rel h r⟩
def Goes (P:Program) (F:Nat→Prop) (w:World) (μ:List Hd) (b:List Blk) (K:AVal→List Blk→Option R') (r:R') (o:Oper) (a:Act) (ro:Bool):Prop:=
 ∃ y b',K y b'=some r∧(ro=true→b'=b)∧∀ (next:Act→World→Prop) (Q:Exit→Act→World→Prop),(∀ v w' μ',Post F w μ b w' μ' b' y v→next (a.put o.dst v) w')→o.wp P a w next Q
theorem Goes.ofActs {K:AVal→List Blk→Option R'} {o:Oper} {a:Act} {S:Sem Value} {ro ro':Bool} (h:Acts P F w μ b K r S ro) (ho:execOp a.eval o=(do pure (.value (← S)))) (hro:ro'=true→ro=true):Goes P F w μ b K r o a ro':=by
 obtain ⟨y,b',hK,hb,u,w',μ',hr,hp⟩:=h
 refine ⟨y,b',hK,fun h=>hb (hro h),fun next Q hn=>?_⟩
 unfold Oper.wp
 rw [ho]
 simp only [Sem.run_bind,hr,Result.andThen_ok,Sem.run_pure,Oper.upon_value]
 exact hn _ _ _ hp
theorem Goes.ofYld {K:AVal→List Blk→Option R'} {o:Oper} {a:Act} {S:Sem Value} (R:Rel F w μ b) {ro:Bool} (h:Yld P (Or F (Own μ b)) w μ b (fun y=>K y b) r S)
  (ho:execOp a.eval o=(do pure (.value (← S)))):Goes P F w μ b K r o a ro:=by
 obtain ⟨y,hK,u,hr,hp⟩:=h
 refine ⟨y,b,hK,fun _=>rfl,fun next Q hn=>?_⟩
 unfold Oper.wp
 rw [ho]
 simp only [Sem.run_bind,hr,Result.andThen_ok,Sem.run_pure,Oper.upon_value]
 exact hn _ _ _ (.same R hp)
theorem Goes.ofVal {K:AVal→List Blk→Option R'} {o:Oper} {a:Act} {y:AVal} {v:Value} (R:Rel F w μ b) (h:K y b=some r) (hv:ARel (Or F (Own μ b)) w μ b y v)
  {ro:Bool} (ho:(execOp a.eval o).run P w=.ok (.value v) w):Goes P F w μ b K r o a ro:=by
 refine ⟨y,b,h,fun _=>rfl,fun next Q hn=>?_⟩
 unfold Oper.wp
 rw [ho]
 exact hn _ _ _ (.same R hv)
def CallGoes (P:Program) (F:Nat→Prop) (w:World) (μ:List Hd) (b:List Blk) (K:AVal→List Blk→Option R') (r:R') (g:FuncId) (vs:List Value) (ro:Bool):Prop:=
 ∃ y b',K y b'=some r∧(ro=true→b'=b)∧∀ (o:Oper) (a:Act) (next:Act→World→Prop) (Q:Exit→Act→World→Prop),(execOp a.eval o).run P w=(callFunc g vs.toArray).run P w→
  (∀ v w' μ',Post F w μ b w' μ' b' y v→next (a.put o.dst v) w')→o.wp P a w next Q
theorem allV_rel {cs:List AVal} {xs:List CVal} {fl:Bool} {vs:List Value} (h:allV cs=some xs) (hr:AsRel N w μ b fl cs vs):CsRel N w fl xs vs:=by
 rw [allV_eq h] at hr
 exact hr.toC
theorem flats {t:List AVal} {a:Act}:∀ {l:List Operand},AsRel N w μ b false (l.map (evalA t)) (l.map a.eval)→(∀ x ∈ l,flatX (evalA t x) )→AsRel N w μ b true (l.map (evalA t)) (l.map a.eval)
 |[],h,_=>h
 |x :: r,h,hf=>by
  obtain ⟨u,us,he,h1,_,h2⟩:=h
  simp at he
  obtain ⟨rfl,rfl⟩:=he
  exact ⟨_,_,rfl,h1,fun _=>h1.flatOf (hf x (by simp)),flats h2 fun y hy=>hf y (by simp [hy])⟩
theorem equalIn_nil (d:Nat) {xt:TypeId} {ms:Array (String × TypeId)} (hk:P.underlying xt=some (.interface ms)):(Op.equalIn (d + 1) xt .nilIface .nilIface).run P w=.ok true w:=by simp [Op.equalIn,run_und hk]
theorem equalIn_iface (d:Nat) {xt:TypeId} {ms:Array (String × TypeId)} {t:TypeId} {z:Value} (hk:P.underlying xt=some (.interface ms)):(Op.equalIn (d + 1) xt (.iface t z) .nilIface).run P w=.ok false w:=by simp [Op.equalIn,run_und hk]
theorem equal_nil {xt:TypeId} {ms:Array (String × TypeId)} (hk:P.underlying xt=some (.interface ms)):(Op.equal xt .nilIface .nilIface).run P w=.ok true w:=equalIn_nil 9999 hk
theorem equal_iface {xt:TypeId} {ms:Array (String × TypeId)} {t:TypeId} {z:Value} (hk:P.underlying xt=some (.interface ms)):(Op.equal xt (.iface t z) .nilIface).run P w=.ok false w:=equalIn_iface 9999 hk
theorem const_nl {t:List AVal} {c:Value} (h:evalA t (.const c)=.nl):c=.slice none 0 0:=by
 unfold evalA at h
 cases c with
 |agg cs=>
  simp only [ofVal] at h
  cases hl:ofCells cs.toList with
  |none=>rw [hl] at h;simp at h
  |some l=>
   rw [hl] at h
   simp only [Option.bind_some,Option.getD_some] at h
   unfold mkAgg at h
   split at h<;>cases h
 |slice a l k=>
  cases a with
  |some a=>simp [ofVal,ofCell] at h
  |none=>
   cases l with
   |succ l=>simp [ofVal,ofCell] at h
   |zero=>
    cases k with
    |succ k=>simp [ofVal,ofCell] at h
    |zero=>rfl
 |pointer p=>cases p<;>simp [ofVal,ofCell] at h
 |_=>simp [ofVal,ofCell] at h
theorem unq_rel {x:AVal} {v:Value} (h:ARel N w μ b x v):ARel N w μ b (unq x) v:=by
 cases x with
 |v c=>
  cases c with
  |slq q xs=>
   obtain ⟨base,cap,hv,hc,h,_⟩:=h
   exact ⟨base,cap,hv,hc,h⟩
  |_=>exact h
 |_=>exact h
theorem eqK_sound {op:BinOp} {xt:TypeId} {x y:AVal} {v u:Value} {ox oy:Operand} {K:AVal→Option R'} (hx:ARel N w μ b x v) (hy:ARel N w μ b y u)
  (hc:∃ c,oy=.const c) (hq:y=.nl→u=.slice none 0 0) (h:eqK P op xt x y K=some r):Yld P N w μ b K r (do eqGuard op xt ox oy v u;Go.binOp op xt v u):=by
 obtain ⟨c,rfl⟩:=hc
 unfold eqK at h
 split at h
 ·rename_i e hms
  split at h
  ·obtain rfl:=hq rfl
   split at h
   ·rename_i q xs
    obtain ⟨base,cap,rfl,_,_,rfl⟩:=hx
    have hg:∀ op,(eqGuard op xt ox (.const c) (.slice base xs.length cap) (.slice none 0 0)).run P w=.ok () w:=by
     intro op;unfold eqGuard;cases op<;>simp
    split at h
    ·exact ⟨_,h,.bool base.isNone,by simp only [Sem.run_bind,hg,Result.andThen_ok];exact Lib.run_eql_slice_nil w xt e base _ _ _ _ hms,rfl⟩
    ·refine ⟨_,h,.bool (!base.isNone),?_,rfl⟩
     simp only [Sem.run_bind,hg,Result.andThen_ok,Go.binOp,Op.equal,Op.maxDepth,Lib.run_equalIn_slice_nil w 9999 xt e base _ _ _ _ hms,Sem.run_pure]
    ·cases h
   ·cases h
  ·cases h
 ·rename_i ms hms
  split at h
  ·have hu:u=.nilIface:=hy
   subst hu
   split at h
   ·rename_i k
    cases k with
    |nili=>
     have hv:v=.nilIface:=hx
     subst hv
     have hg:∀ op,(eqGuard op xt ox (.const c) .nilIface .nilIface).run P w=.ok () w:=by
      intro op;unfold eqGuard;cases op<;>simp
     simp only [CVal.asNil,Option.bind_some] at h
     split at h
     ·exact ⟨_,h,.bool true,by simp only [Sem.run_bind,hg,Result.andThen_ok,Go.binOp,equal_nil hms,Sem.run_pure],rfl⟩
     ·exact ⟨_,h,.bool false,by simp only [Sem.run_bind,hg,Result.andThen_ok,Go.binOp,equal_nil hms,Sem.run_pure];rfl,rfl⟩
     ·cases h
    |iface t z'=>
     obtain ⟨z,hv,_⟩:=hx
     subst hv
     have hg:∀ op t,(eqGuard op xt ox (.const c) (.iface t z) .nilIface).run P w=.ok () w:=by
      intro op t;unfold eqGuard;cases op<;>simp
     simp only [CVal.asNil,Option.bind_some] at h
     split at h
     ·exact ⟨_,h,.bool false,by simp only [Sem.run_bind,hg,Result.andThen_ok,Go.binOp,equal_iface hms,Sem.run_pure],rfl⟩
     ·exact ⟨_,h,.bool true,by simp only [Sem.run_bind,hg,Result.andThen_ok,Go.binOp,equal_iface hms,Sem.run_pure];rfl,rfl⟩
     ·cases h
    |_=>cases h
   ·cases h
  ·cases h
 ·cases h
theorem AsRel.weak:∀ {fl:Bool} {cs:List AVal} {vs:List Value},AsRel N w μ b fl cs vs→AsRel N w μ b false cs vs
 |_,[],_,h=>h
 |_,x :: r,_,h=>by
  obtain ⟨u,us,rfl,h1,_,h2⟩:=h
  exact ⟨u,us,rfl,h1,by simp,AsRel.weak h2⟩
theorem CsRel.weak:∀ {fl:Bool} {cs:List CVal} {vs:List Value},CsRel N w fl cs vs→CsRel N w false cs vs
 |_,[],_,h=>h
 |_,x :: r,_,h=>by
  obtain ⟨u,us,rfl,h1,_,h2⟩:=h
  exact ⟨u,us,rfl,h1,by simp,CsRel.weak h2⟩
theorem Keep.sub {N M:Nat→Prop} (h:∀ x,M x→N x):Keep N M w w:=⟨Nat.le_refl _,fun x _ hn=>⟨rfl,fun k=>hn (h x k)⟩⟩
theorem Taken.drop {S:List Nat} {b1:List Blk} (R:Rel F w μ b) (T:Taken F w μ b S b1):Upd F w μ b w μ b1∧Rel F w μ b1:=by
 refine ⟨⟨T.upd.len0,T.upd.len,T.upd.old,Nat.le_refl _,fun x hx=>⟨fun h=>(T.rel.fres x hx).1 (.inl h),(T.rel.fres x hx).2,.inr (.inl (T.sub.own hx))⟩,fun x hx=>.inr (.inl hx),fun _ _ _ _=>rfl⟩,?_⟩
 have U:Upd2 (FS F S) F w μ b1 w μ b1:=⟨T.rel.len,T.rel.len,fun i blk h hb hm=>⟨blk,h,hb,hm,.refl fun _ _=>rfl⟩,Nat.le_refl _,fun x hx=>⟨fun h=>(T.rel.fres x hx).1 (.inl h),(T.rel.fres x hx).2,.inr (.inl hx)⟩,fun x hx=>.inr (.inl (.inl hx)),fun _ _ _ _=>rfl⟩
 exact ⟨T.rel.len,fun i blk h hb hm=>BRel.upd U (fun _ _ _=>rfl) (T.rel.blk i blk h hb hm),T.rel.inj,fun x hx=>⟨fun h=>(T.rel.fres x hx).1 (.inl h),(T.rel.fres x hx).2⟩,R.fbk,T.rel.oid⟩
theorem wApp_sound {D:TypeId→Bool} {fs:Bool} {e:TypeId} {y:AVal} {u:Value} {K:List CVal→Bool→List Blk→Option R'} (R:Rel F w μ b) (hy:ARel (Or F (Own μ b)) w μ b y u) (h:wApp D fs P e b y K=some r) (hn0:aggT P e=false→(cks P e).length=1) :
  ∃ ys d b1 S base cap us,K ys d b1=some r∧Taken F w μ b S b1∧u=.slice base ys.length cap∧GEs d (Or (FS F S) (Own μ b1)) w (P.cellsOf e) S ys us∧
   ∀ (cap:Nat) (w1:World),w1.heap=w.heap→(Builtin.firstCells (P.cellsOf e) ys.length (.slice base ys.length cap)).run P w1=.ok (flatC us).toArray w1:=by
 have e0:FS F []=F:=FS_nil
 unfold wApp at h
 rcases br_some h with ⟨hft,h⟩ | ⟨hft,h⟩
 ·obtain ⟨ys,base,cap,h,rfl,hl,hc⟩:=wSl_sound R hy h
  obtain ⟨hall,h⟩:=br_none h
  have hfl:=hft
  unfold flatT at hfl
  simp only [Bool.and_eq_true,beq_iff_eq] at hfl
  have hfit:ys.all (CVal.fits (aggT P e) (P.cellsOf e))=true:=by
   rw [List.all_eq_true] at hall ⊢
   intro c hc'
   have:=fitsF_fits (hall c hc')
   rwa [hfl.2] at this
  obtain ⟨dd,hc⟩:∃ d,ys=[]∨∃ z o sz S,base=some (pl z o)∧z < w.heap.size∧GEl d (Or F (Own μ b)) w sz z o S ys:=by
   rcases hc with hc | ⟨z,o,sz,d,S,h1,h2,h3⟩
   ·exact ⟨false,.inl hc⟩
   ·exact ⟨d,.inr ⟨z,o,sz,S,h1,h2,h3⟩⟩
  obtain ⟨us,S,hus,_,hrun⟩:=run_firstCells (P:=P) hc hfit
  have hus':GEs true (Or F (Own μ b)) w (P.cellsOf e) [] ys us:=by
   cases dd with
   |false=>exact (GEs.ofF hus hall).1
   |true=>
    have:∀ {S:List Nat} {xs:List CVal} {us:List Value},GEs true (Or F (Own μ b)) w (P.cellsOf e) S xs us→xs.all (CVal.fitsF (aggT P e) (cks P e))=true→S=[]∧GEs true (Or F (Own μ b)) w (P.cellsOf e) [] xs us:=by
     intro S xs
     induction xs generalizing S with
     |nil=>intro us h _;exact ⟨h.1,rfl,h.2⟩
     |cons c r ih=>
      intro us h hf
      obtain ⟨S1,S2,u,l,rfl,rfl,h1,h2,h3,h⟩:=h
      simp only [List.all_cons,Bool.and_eq_true] at hf
      obtain ⟨rfl,hcr⟩:=DRel.toF h2 hf.1
      obtain ⟨rfl,h4⟩:=ih h hf.2
      exact ⟨rfl,[],[],u,l,rfl,rfl,h1,h2,h3,h4⟩
    exact (this hus hall).2
  exact ⟨ys,true,b,[],base,cap,us,h,.nil R,rfl,by rw [e0];exact hus',hrun⟩
 ·have closed:∀ {ys:List CVal} {base:Option Addr} {cap:Nat},u=.slice base ys.length cap→(ys=[]∨∃ z o sz,base=some (pl z o)∧z < w.heap.size∧ElRel (Or F (Own μ b)) w sz z o ys)→br (ys.all (CVal.fits (aggT P e) (P.cellsOf e))) (K ys false b) none=some r→
    ∃ ys d b1 S base cap us,K ys d b1=some r∧Taken F w μ b S b1∧u=.slice base ys.length cap∧GEs d (Or (FS F S) (Own μ b1)) w (P.cellsOf e) S ys us∧
     ∀ (cap:Nat) (w1:World),w1.heap=w.heap→(Builtin.firstCells (P.cellsOf e) ys.length (.slice base ys.length cap)).run P w1=.ok (flatC us).toArray w1:=by
   intro ys base cap hu hc h
   obtain ⟨hfit,h⟩:=br_none h
   obtain ⟨us,S,hus,hS,hrun⟩:=run_firstCells (P:=P) (d:=false) (hc.imp id fun ⟨z,o,sz,h1,h2,h3⟩=>⟨z,o,sz,[],h1,h2,GEl.ofE h3⟩) hfit
   have hS0:S=[]:=by
    rcases hS with hS | ⟨z,o,sz,_,hS⟩
    ·exact hS
    ·exact (GEl.toE hS).2
   subst hS0
   exact ⟨ys,false,b,[],base,cap,us,h,.nil R,hu,by rw [e0];exact hus,hrun⟩
  cases y with
  |nl=>
   obtain ⟨base,rfl⟩:=hy
   exact ⟨[],_,b,[],base,0,[],h,.nil R,rfl,⟨rfl,rfl⟩,fun cap w1 _=>firstCells_nil cap w1⟩
  |lref j ver=>
   obtain ⟨ys,hys,h⟩:=bind_some' (x:=arrOf b j ver) h
   rcases br_some h with ⟨hd,h⟩ | ⟨hd,h⟩
   ·obtain ⟨h1,h⟩:=br_none h
    simp only [Bool.and_eq_true,Bool.not_eq_true',beq_iff_eq] at h1
    obtain ⟨S,T,base,cap,rfl,hl,hor⟩:=Taken.arr R hy hys hd h1.1.2
    rw [h1.2] at hor
    rcases hor with ⟨rfl,rfl⟩ | ⟨x,cells,ee,S',hcap,rfl,rfl,hw,hz,hel⟩
    ·have hy0:ys=[]:=List.length_eq_zero_iff.1 (by omega)
     subst hy0
     exact ⟨[],true,_,[],base,0,[],h,T,rfl,⟨rfl,rfl⟩,fun cap w1 _=>firstCells_nil cap w1⟩
    ·obtain ⟨us,hus,hcell⟩:=hel.out
     have hn:=T.nodup
     have T':Taken F w μ b S' (kill b j):=by
      obtain ⟨U0,R0⟩:=T.drop R
      exact R.take R0 T.sub U0 (fun y hy=>⟨T.own y (by simp [hy]),fun ho=>(T.rel.fres y ho).1 (.inr (by simp [hy]))⟩) (List.nodup_cons.1 hn).2
     refine ⟨ys,true,_,S',some (pl x 0),cap,us,h,T',rfl,hus.keep (Keep.sub fun y hy=>?_) fun _ _=>rfl,fun cap w1 hw1=>?_⟩
     ·exact hy.imp (fun h=>h.imp id fun h=>by simp [h]) id
     ·have hlen:=hus.flat_len
      have:=run_loadCells_list (P:=P) w1 (pl x 0) (flatC us) fun j v hj=>by rw [pl_add,cell_heap hw1];exact hcell j v hj
      simp only [Builtin.firstCells]
      rw [← hlen];exact this
   ·obtain ⟨m,sz,base,cap,rs,S,rfl,hb,hm,hm1,hs1,hl,hc⟩:=R.arrAt hy hys
    rw [hm1] at hd
    refine closed rfl ?_ h
    rcases hc with ⟨hc,_⟩ | ⟨z,cells,ee,_,rfl,hw,_,_,_,he⟩
    ·left;exact List.length_eq_zero_iff.1 (by omega)
    ·rw [hd] at he
     exact .inr ⟨z,0,sz,rfl,(Array.getElem?_eq_some_iff.1 hw).1,(GEl.toE he).1⟩
  |v c=>
   obtain ⟨ys,hys,h⟩:=bind_some' (x:=c.asSl) h
   cases c<;>simp [CVal.asSl] at hys
   subst hys
   obtain ⟨base,cap,rfl,hl,hc⟩:=hy
   obtain ⟨hfit,h⟩:=br_none h
   rcases br_some h with ⟨_,h⟩ | ⟨_,h⟩
   ·obtain ⟨us,S,hus,hS,hrun⟩:=run_firstCells (P:=P) (d:=false) (hc.imp id fun ⟨z,o,sz,h1,_,h2,h3⟩=>⟨z,o,sz,[],h1,h2,GEl.ofE h3⟩) hfit
    exact ⟨_,true,b,[],base,cap,us,h,.nil R,by rw [List.length_map],by rw [e0];exact GEs.toF hus hfit,by rw [List.length_map];exact hrun⟩
   ·exact closed rfl (hc.imp id fun ⟨z,o,sz,h1,_,h2,h3⟩=>⟨z,o,sz,h1,h2,h3⟩) (by rw [hfit];exact h)
  |_=>cases h
theorem appendK_sound {D:TypeId→Bool} {fs:Bool} {ty ty2 out:TypeId} {x y:AVal} {v u:Value} {K:AVal→List Blk→Option R'} (R:Rel F w μ b) (hx:ARel (Or F (Own μ b)) w μ b x v)
  (hy:ARel (Or F (Own μ b)) w μ b y u) (h:appendK D fs P b ty ty2 x y K=some r):Acts P F w μ b K r (Builtin.append_ #[ty,ty2] out #[v,u]) false:=by
 have e0:FS F []=F:=FS_nil
 unfold appendK at h
 split at h
 ·rename_i e he
  obtain ⟨h0,h⟩:=br_none h
  simp only [Bool.and_eq_true] at h0
  obtain ⟨ys,d,b1,S,base2,cap2,us,h,T,rfl,hus,hrun⟩:=wApp_sound R (show ARel (Or F (Own μ b)) w μ b (cond fs (unq y) y) u by cases fs;exact hy;exact unq_rel hy) h cks_one
  have hx1:=ARel.upd T.upd hx
  cases x with
  |nl=>
   obtain ⟨base,rfl⟩:=hx
   obtain ⟨h1,h⟩:=br_none h
   simp only [decide_eq_true_eq] at h1
   obtain ⟨v,w',μ',hr,hp⟩:=append_new (out:=out) (base:=base) (cap2:=cap2) T.rel T.nodup (T.adopt R) he h0.2 h0.1 h1 hus hrun
   exact ⟨_,_,h,by simp,v,w',μ',hr,T.post hp⟩
  |lref i ver=>
   obtain ⟨xs,hxs,h⟩:=bind_some' (x:=arrOf b1 i ver) h
   obtain ⟨h1,h⟩:=br_none h
   simp only [Bool.and_eq_true,decide_eq_true_eq,beq_iff_eq,Bool.not_eq_true'] at h1
   obtain ⟨⟨h1,hsz⟩,hfx⟩:=h1
   cases hmd:(mdOf b1 i).deep with
   |true=>
    rw [hmd,Bool.true_and] at h
    cases d with
    |true=>
     obtain ⟨v',w',μ',hr,hp⟩:=append_own (out:=out) (cap2:=cap2) T.rel T.nodup (T.adopt R) hx1 hxs hsz hmd hfx he h0.2 h0.1 h1 hus hrun
     exact ⟨_,_,h,by simp,v',w',μ',hr,T.post hp⟩
    |false=>
     have hS:S=[]:=by
      have:∀ {S:List Nat} {xs:List CVal} {us:List Value} {N:Nat→Prop} {n:Nat},GEs false N w n S xs us→S=[]:=by
       intro S xs
       induction xs generalizing S with
       |nil=>intro us N n h;exact h.1
       |cons c r ih=>
        intro us N n h
        obtain ⟨S1,S2,u,l,rfl,rfl,_,⟨rfl,_⟩,_,h⟩:=h
        rw [ih h];rfl
      exact this hus
     subst hS
     obtain ⟨U1,R1⟩:=T.drop R
     obtain ⟨μ2,U2,R2⟩:=thaw_sound R1 i
     rw [e0] at hus hx1
     have hx2:=ARel.upd U2 hx1
     obtain ⟨m,sz,hb,hm1,hs1⟩:=own_arrOf hxs
     have hi:=(List.getElem?_eq_some_iff.1 hb).1
     have hth:thaw b1 i=b1.set i ⟨ver,.arr ⟨false,m.fix,m.sv⟩ sz xs⟩:=by simp [thaw,hb]
     have hat:(thaw b1 i)[i]? = some ⟨ver,.arr ⟨false,m.fix,m.sv⟩ sz xs⟩:=by rw [hth,List.getElem?_set_self hi]
     have hxs2:arrOf (thaw b1 i) i ver=some xs:=by simp [arrOf,hat,br]
     obtain ⟨v',w',μ',hr,hp⟩:=append_own (F:=F) (S:=[]) (d:=false) (out:=out) (cap2:=cap2) (by rw [e0];exact R2) List.nodup_nil (by simp) hx2 hxs2 (by simp [szOf,hat];rw [← hs1];exact hsz) (by simp [mdOf,hat]) (by simp [mdOf,hat];rw [← hm1];exact hfx) he h0.2 h0.1 h1 (by rw [e0];exact hus.keep U2.keep fun _ h=>by cases h) hrun
     rw [e0,hth,List.set_set] at hp
     rw [hth] at U2
     exact ⟨_,_,h,by simp,v',w',μ',hr,Post.pre (U1.trans U2) (.refl _ _) hp⟩
   |false=>
    rw [hmd,Bool.false_and] at h
    obtain ⟨U1,R1⟩:=T.drop R
    have hus':GEs false (Or F (Own μ b1)) w (P.cellsOf e) [] ys us:=hus.close (N':=Or F (Own μ b1)) (w':=w) (Keep.sub fun y hy=>hy.imp .inl id) fun y hy=>⟨rfl,fun h=>by
     rcases h with h | h
     ·exact (T.adopt R y hy).1 h
     ·exact (T.rel.fres y h).1 (.inr hy),T.rel.fb y (.inr hy)⟩
    obtain ⟨v',w',μ',hr,hp⟩:=append_own (F:=F) (S:=[]) (d:=false) (out:=out) (cap2:=cap2) (by rw [e0];exact R1) List.nodup_nil (by simp) (ARel.upd U1 hx) hxs hsz hmd hfx he h0.2 h0.1 h1 (by rw [e0];exact hus') hrun
    rw [e0] at hp
    exact ⟨_,_,h,by simp,v',w',μ',hr,Post.pre U1 (.refl _ _) hp⟩
  |_=>cases h
 ·cases h
theorem not_own_dead {b':List Blk} {i x:Nat} (R:Rel F w μ b) (s:Sub b' b) {blk:Blk} {h:Hd} (hb:b[i]? = some blk) (ha:alive blk.body=true) (hm:μ[i]? = some h) (ho:x ∈ h.own)
  (hd:∀ blk,b'[i]? = some blk→alive blk.body=false):¬ Or F (Own μ b') x:=by
 have hown:Own μ b x:=⟨i,blk,h,hb,ha,hm,ho⟩
 rintro (hf | ⟨j,blk',h',hb',ha',hm',ho'⟩)
 ·exact (R.fres x hown).1 hf
 ·have:=R.inj i j blk blk' h h' x hb (s.at_ j blk' hb' ha') ha ha' hm hm' ho ho'
  subst this
  have:=hd blk' hb'
  rw [ha'] at this;cases this
theorem closeRK_sound {agg:Bool} {x:AVal} {v:Value} {K:CVal→List Blk→Option R'} (R:Rel F w μ b) (hx:ARel (Or F (Own μ b)) w μ b x v) (h:closeRK b agg x K=some r) :
  ∃ c b',K c b'=some r∧Sub b' b∧Upd F w μ b w μ b'∧Rel F w μ b'∧CRel (Or F (Own μ b')) w c v:=by
 have other:∀ {x:AVal},ARel (Or F (Own μ b)) w μ b x v→((closeA b x).bind fun c=>K c (killA x b))=some r→∃ c b',K c b'=some r∧Sub b' b∧Upd F w μ b w μ b'∧Rel F w μ b'∧CRel (Or F (Own μ b')) w c v:=by
  intro x hx h
  obtain ⟨c,hc,h⟩:=bind_some' h
  obtain ⟨U,R1⟩:=killA_upd x R
  exact ⟨c,_,h,killA_sub x b,U,R1,closeA_sound R (killA_sub x b) hc hx (killA_dead x b)⟩
 unfold closeRK at h
 split at h
 ·rename_i i
  obtain ⟨cs,hcs,h⟩:=bind_some' h
  obtain ⟨xs,hxs,h⟩:=bind_some' h
  obtain ⟨h0,h⟩:=br_none h
  obtain ⟨ver,x,vs,e,hb,hm,hw,ha,_⟩:=R.box hcs
  obtain ⟨x',hm',rfl⟩:=hx
  rw [hm] at hm';cases hm'
  obtain ⟨U0,R0⟩:=killL_upd cs R
  obtain ⟨U1,R1⟩:=kill_upd R0 i
  have hs1:=kill_sub (killL cs b) i
  have hcl0:=closeL_sound R (killL_sub cs b) hxs ha (killL_dead cs b)
  have hcl:CsRel (Or F (Own μ (kill (killL cs b) i))) w true xs vs:=CsRel.keep (Keep.sub fun z hz=>hz.imp id fun ho=>hs1.own ho) hcl0
  have hno:¬ Or F (Own μ (kill (killL cs b) i)) x:=not_own_dead R (hs1.trans (killL_sub cs b)) hb rfl hm (by simp [Hd.own]) fun blk hb=>kill_dead hb
  have hlt:x < w.heap.size:=(Array.getElem?_eq_some_iff.1 hw).1
  have hcell:∀ j,w.cell? (pl x (0 + j))=vs[j]?:=fun j=>by rw [Nat.zero_add];exact cell_of_heap hw
  have hl1:=hcl.len
  have hl2:=ha.len
  refine ⟨_,_,h,hs1.trans (killL_sub cs b),U0.trans U1,R1,?_⟩
  unfold packFp
  cases agg with
  |true=>
   refine ⟨x,0,.agg vs.toArray,rfl,hno,hlt,rfl,⟨vs,rfl,hcl⟩,fun j hj=>?_⟩
   rw [hcell j];simp [Value.cells]
  |false=>
   simp at h0
   obtain ⟨c,rfl⟩:∃ c,xs=[c]:=by
    match xs,hl1 with
    |[c],_=>exact ⟨c,rfl⟩
    |[],hl1=>simp only [List.length_nil] at hl1;omega
    |_ :: _ :: _,hl1=>simp only [List.length_cons] at hl1;omega
   obtain ⟨u,us,rfl,hu,hf,hus⟩:=hcl
   have hfl:=hf rfl
   refine ⟨x,0,u,rfl,hno,hlt,?_,hu,fun j hj=>?_⟩
   ·cases c with
    |tup l=>obtain ⟨z,rfl,_⟩:=hu;simp [flat] at hfl
    |_=>rfl
   ·rw [hcell j,cells_flat hfl]
    rw [cells_flat hfl] at hj
    simp at hj;subst hj;rfl
 ·exact other hx h
theorem closeCapsK_sound:∀ {caps:List AVal} {ags:List Bool} {b:List Blk} {vs:List Value} {K:List CVal→List Blk→Option R'},Rel F w μ b→AsRel (Or F (Own μ b)) w μ b false caps vs→closeCapsK b ags caps K=some r→
  ∃ cs b',K cs b'=some r∧Sub b' b∧Upd F w μ b w μ b'∧Rel F w μ b'∧CsRel (Or F (Own μ b')) w false cs vs
 |[],ags,b,vs,K,R,ha,h=>by
  have hv:vs=[]:=ha
  subst hv
  have h':K [] b=some r:=by cases ags<;>exact h
  exact ⟨[],b,h',.refl _,.refl R,R,rfl⟩
 |x :: l,[],b,vs,K,R,ha,h=>by cases h
 |x :: l,ag :: ags,b,vs,K,R,ha,h=>by
  obtain ⟨u,us,rfl,hu,_,hus⟩:=ha
  obtain ⟨c,b1,h,s1,U1,R1,hc⟩:=closeRK_sound R hu h
  obtain ⟨cs,b2,h,s2,U2,R2,hcs⟩:=closeCapsK_sound R1 (AsRel.upd U1 hus) h
  exact ⟨c :: cs,b2,h,s2.trans s1,U1.trans U2,R2,u,us,rfl,CRel.keep U2.keep hc,by simp,hcs⟩
theorem roOp_val {E:Env} {o:Oper} {t:List AVal} {c:Call} {f:Operand} (ho:o.op=.call c) (hc:c.callee=.value f) (hne:∀ g,f ≠ .func g):roOp E o t=(match evalA t f with
   |.v d=>pureV (E.at o) d (c.args.toList.map (evalA t))
   |.func g caps=>pureArgs (E.at o) g 0 (c.args.toList.map (evalA t) ++ caps)
   |_=>false):=by
 unfold roOp
 cases f with
 |func g=>exact absurd rfl (hne g)
 |_=>simp only [ho,hc];rfl
theorem opK_sound {E:Env} {C:CallT} {o:Oper} {t:List AVal} {a:Act} {K:AVal→List Blk→Option R'} (hP:E.P=P) (R:Rel F w μ b)
  (ht:TRel (Or F (Own μ b)) w μ b t a)
  (hcall:∀ g args vs,callK (E.at o) C g args b K=some r→AsRel (Or F (Own μ b)) w μ b false args vs→CallGoes P F w μ b K r g vs (pureArgs (E.at o) g 0 args))
  (hap:∀ c cs,apF C c cs (fun y=>K (.v y) b)=some r→∃ g caps,c=.func g caps∧∀ vs,AsRel (Or F (Own μ b)) w μ b false ((cs ++ caps).map .v) vs→CallGoes P F w μ b K r g vs true)
  (h:opK E C o t b K=some r):Goes P F w μ b K r o a (roOp E o t):=by
 subst hP
 unfold opK at h
 split at h
 ·
  rename_i x ho
  exact .ofVal R h (ht.eval x) (by simp [execOp,ho])
 ·rename_i x ho
  exact .ofVal R h (ht.eval x) (by simp [execOp,ho])
 ·
  rename_i c x y ho
  obtain ⟨g,hg,h⟩:=wBool_sound (ht.eval c) h
  have hx:=ht.eval x
  have hy:=ht.eval y
  have hrun:(execOp a.eval o).run E.P w=.ok (.value (if g then a.eval x else a.eval y)) w:=by simp [execOp,ho,hg,asBool]
  split at h
  ·rename_i p s e1 e2
   rw [e1] at hx;rw [e2] at hy
   refine .ofVal R h ?_ hrun
   cases g
   ·exact hy
   ·exact hx
  ·cases g
   ·rcases br_some h with ⟨h,_⟩ | ⟨_,h⟩
    ·cases h
    exact .ofVal R h hy hrun
   ·rcases br_some h with ⟨_,h⟩ | ⟨h,_⟩
    ·exact .ofVal R h hx hrun
    ·cases h
 ·
  rename_i e ho
  obtain ⟨z,hz,h⟩:=bind_some' h
  obtain ⟨zv,hzr,hzrel⟩:=zeroT_spec (P:=E.P) (N:=Or F (Own μ b)) (w:=w) (μ:=μ) (b:=b) hz
  obtain ⟨cs,vs,h,hcs,hvs,_,_,_⟩:=wCells_sound hzrel h
  obtain ⟨μ',hp⟩:=box_post (e:=e) R hcs
  refine .ofActs (ro:=false) ⟨_,_,h,by simp,_,_,μ',?_,hp⟩ (S:=Instr.alloc e true (.tuple #[])) (by simp [execOp,ho]) (by simp [roOp,ho])
  simp only [Instr.alloc,Sem.run_bind,hzr,Result.andThen_ok]
  simp [newVar,newRow,hvs]
  rfl
 ·
  rename_i e x ho
  obtain ⟨cs,vs,h,hcs,hvs,_,_,_⟩:=wCells_sound (ht.eval x) h
  obtain ⟨μ',hp⟩:=box_post (e:=e) R hcs
  split at h
  ·rename_i ag hfr
   obtain ⟨c,b',h,s1,U1,R1,hc⟩:=closeRK_sound hp.rel hp.val h
   refine .ofActs (ro:=false) ⟨_,_,h,by simp,_,_,μ',?_,⟨hp.upd.trans U1,R1,hc,hp.fr⟩⟩ (S:=Instr.box e (a.eval x)) (by simp [execOp,ho]) (by simp [roOp,ho])
   simp [Instr.box,newVar,newRow,hvs]
   rfl
  ·refine .ofActs (ro:=false) ⟨_,_,h,by simp,_,_,μ',?_,hp⟩ (S:=Instr.box e (a.eval x)) (by simp [execOp,ho]) (by simp [roOp,ho])
   simp [Instr.box,newVar,newRow,hvs]
   rfl
 ·
  rename_i ty ps ho
  obtain ⟨pv,hpv,hparts⟩:=mapParts_rel ht ps
  exact .ofYld R (buildK_sound hparts h) (by simp only [execOp,ho];rw [hpv])
 ·rename_i ty n ps ho
  obtain ⟨pv,hpv,hparts⟩:=mapParts_rel ht ps
  exact .ofActs (buildSliceK_sound R hparts h) (by simp only [execOp,ho];rw [hpv]) (by simp [roOp,ho])
 ·
  rename_i ty x ho
  exact .ofYld R (loadK_sound R (ht.eval x) h) (by simp only [execOp,ho])
 ·
  rename_i ty x y ho
  obtain ⟨μ1,U1,R1⟩:∃ μ1,Upd F w μ b w μ1 (cond (E.thw o) (thawA (evalA t y) b) b)∧Rel F w μ1 (cond (E.thw o) (thawA (evalA t y) b) b):=by
   cases E.thw o with
   |true=>exact thawA_sound _ R
   |false=>exact ⟨μ,.refl R,R⟩
  obtain ⟨b',hK,w',μ',hr,hp⟩:=storeK_sound R1 (ARel.upd U1 (ht.eval x)) (ARel.upd U1 (ht.eval y)) h
  refine ⟨_,b',hK,by simp [roOp,ho],fun next Q hn=>?_⟩
  unfold Oper.wp
  simp only [execOp,ho,Sem.run_bind,hr,Result.andThen_ok,Sem.run_pure,Oper.upon_skip]
  exact hn _ _ _ (Post.pre U1 (.refl _ _) (hp _))
 ·
  rename_i x ho
  have hx:=ht.eval x
  split at h
  ·rename_i i off e1
   rw [e1] at hx
   refine .ofVal R h hx ?_
   obtain ⟨z,_,hv⟩:=hx
   simp [execOp,ho,hv]
  ·rename_i i ver idx off e1
   rw [e1] at hx
   refine .ofVal R h hx ?_
   obtain ⟨⟨z,hv⟩,_⟩:=hx
   simp [execOp,ho,hv]
  ·rename_i i ver sv idx off idx2 e1
   rw [e1] at hx
   refine .ofVal R h hx ?_
   obtain ⟨⟨z,hv⟩,_⟩:=hx
   simp [execOp,ho,hv]
  ·rename_i c e1
   rw [e1] at hx
   obtain ⟨p,hp,h⟩:=bind_some' h
   have:=asFp_sound hx hp
   subst this
   refine .ofVal R h hx ?_
   obtain ⟨z,o',u,hv,_⟩:=hx
   simp [execOp,ho,hv]
  ·cases h
 ·
  rename_i op xt x y yt ho
  split at h
  ·split at h
   ·rename_i yo yc
    exact .ofYld R (eqK_sound (ox:=x) (oy:=.const yc) (ht.eval x) (ht.eval _) ⟨_,rfl⟩ (fun e=>const_nl e) h) (by simp only [execOp,ho])
   ·cases h
  ·split at h
   ·rename_i yo yc
    exact .ofYld R (eqK_sound (ox:=x) (oy:=.const yc) (ht.eval x) (ht.eval _) ⟨_,rfl⟩ (fun e=>const_nl e) h) (by simp only [execOp,ho])
   ·cases h
  ·exact .ofYld R (binK_sound (ox:=x) (oy:=y) (ht.eval x) (ht.eval y) h) (by simp only [execOp,ho])
 ·rename_i op xt x ho
  exact .ofYld R (unK_sound (ht.eval x) h) (by simp only [execOp,ho])
 ·rename_i s d x ho
  exact .ofActs (convertK_sound R (ht.eval x) h) (by simp only [execOp,ho]) (fun _=>rfl)
 ·
  rename_i g first caps ho
  obtain ⟨h0,h⟩:=br_none h
  have hfirst:first = #[]:=by simpa using h0
  subst hfirst
  have hargs:=args_rel ht caps.toList
  have hrun:(execOp a.eval o).run E.P w=.ok (.value (.func (.func g) #[] (List.toArray (caps.toList.map a.eval)))) w:=by
   simp [execOp,ho,Instr.makeFunc]
   apply Array.ext';simp
  split at h
  ·rename_i ags hfr
   obtain ⟨cs,b',h,s1,U1,R1,hcs⟩:=closeCapsK_sound R hargs h
   refine ⟨_,b',h,fun hro=>?_,fun next Q hn=>?_⟩
   ·simp [roOp,ho,keepsF,hfr] at hro
   ·unfold Oper.wp
    rw [hrun]
    simp only [Oper.upon_value]
    exact hn _ _ μ ⟨U1,R1,⟨_,rfl,hcs⟩,.refl _ _⟩
  ·split at h
   ·rename_i cs hcs
    exact .ofVal R h ⟨_,rfl,allV_rel hcs hargs⟩ hrun
   ·exact .ofVal R h ⟨_,rfl,hargs⟩ hrun
 ·rename_i ty n m ho
  exact .ofActs (makeSliceK_sound R (ht.eval n) (ht.eval m) h) (by simp only [execOp,ho]) (by simp [roOp,ho])
 ·
  rename_i ty x lo hi mx ho
  refine .ofActs (sliceK_sound (vlo:=lo.map a.eval) (vhi:=hi.map a.eval) (vmx:=mx.map a.eval) R (ht.eval x) ?_ ?_ ?_ ?_ ?_ ?_ h) (by simp only [execOp,ho]) (by simp [roOp,ho])
  ·intro z hz
   cases lo<;>simp at hz
   subst hz
   exact ⟨_,rfl,ht.eval _⟩
  ·cases lo<;>simp
  ·intro z hz
   cases hi<;>simp at hz
   subst hz
   exact ⟨_,rfl,ht.eval _⟩
  ·cases hi<;>simp
  ·intro z hz
   cases mx<;>simp at hz
   subst hz
   exact ⟨_,rfl,ht.eval _⟩
  ·cases mx<;>simp
 ·rename_i ty x f ho
  exact .ofYld R (fieldK_sound (ht.eval x) h) (by simp only [execOp,ho])
 ·rename_i ty x ix ho
  exact .ofYld R (indexAddrK_sound R (ht.eval x) (ht.eval ix) h) (by simp only [execOp,ho])
 ·rename_i ty x ix ho
  exact .ofYld R (indexK_sound (ht.eval x) (ht.eval ix) h) (by simp only [execOp,ho])
 ·
  rename_i x i ho
  have hx:=ht.eval x
  split at h
  ·rename_i c e1
   rw [e1] at hx
   obtain ⟨cs,hcs,g⟩:=bind_some' h
   clear h
   cases c<;>simp [CVal.asTup] at hcs
   subst hcs
   obtain ⟨d,hd,h⟩:=bind_some' g
   obtain ⟨vs,hv,hr⟩:=hx
   obtain ⟨u,hu,hr,_⟩:=hr.get hd
   refine .ofVal R h hr ?_
   simp [execOp,ho,hv,Instr.extract,hu]
  ·rename_i cs e1
   rw [e1] at hx
   obtain ⟨d,hd,h⟩:=bind_some' h
   obtain ⟨vs,hv,hr⟩:=hx
   obtain ⟨u,hu,hr,_⟩:=hr.get hd
   refine .ofVal R h hr ?_
   simp [execOp,ho,hv,Instr.extract,hu]
  ·cases h
 ·
  rename_i c ho
  split at h
  ·rename_i g hc
   have hargs:=args_rel ht c.args.toList
   obtain ⟨y,b',hK,hro,hgo⟩:=hcall g _ _ h hargs
   refine ⟨y,b',hK,fun h=>hro (by simpa [roOp,ho,hc] using h),fun next Q hn=>hgo o a next Q ?_ hn⟩
   simp [execOp,ho,resolve,hc,Act.eval,Deferred.ofValue,invoke]
   congr 2
   apply Array.ext';simp
  ·rename_i f hne hc
   have hne:∀ g,f ≠ .func g:=by assumption
   have hf:=ht.eval f
   have hargs:=args_rel ht c.args.toList
   split at h
   ·rename_i d e1
    rw [e1] at hf
    rcases callV_some h with ⟨cs,hcs,h2⟩ | ⟨hno,g,caps,rfl,h2⟩
    ·obtain ⟨g,caps,rfl,h3⟩:=hap d cs h2
     obtain ⟨vs,hv,hcr⟩:=hf
     have hall:=hargs.append (AsRel.ofC (μ:=μ) (b:=b) (hcr.weak))
     rw [hcs,← List.map_append] at hall
     obtain ⟨y,b',hK,hro,hgo⟩:=h3 _ hall
     refine ⟨y,b',hK,fun h=>hro rfl,fun next Q hn=>hgo o a next Q ?_ hn⟩
     simp [execOp,ho,resolve,hc,hv,Deferred.ofValue,invoke]
     congr 2
     apply Array.ext';simp
    ·obtain ⟨vs,hv,hcs⟩:=hf
     have hall:=hargs.append (AsRel.ofC (μ:=μ) (b:=b) (hcs.weak))
     obtain ⟨y,b',hK,hro,hgo⟩:=hcall g _ _ h2 hall
     refine ⟨y,b',hK,fun h=>hro (by simpa [roOp_val ho hc hne,e1,pureV,hno] using h),fun next Q hn=>hgo o a next Q ?_ hn⟩
     simp [execOp,ho,resolve,hc,hv,Deferred.ofValue,invoke]
     congr 2
     apply Array.ext';simp
   ·rename_i g caps e1
    rw [e1] at hf
    obtain ⟨vs,hv,hcs⟩:=hf
    have hall:=hargs.append hcs.weak
    obtain ⟨y,b',hK,hro,hgo⟩:=hcall g _ _ h hall
    refine ⟨y,b',hK,fun h=>hro (by simpa [roOp_val ho hc hne,e1] using h),fun next Q hn=>hgo o a next Q ?_ hn⟩
    simp [execOp,ho,resolve,hc,hv,Deferred.ofValue,invoke]
    congr 2
    apply Array.ext';simp
   ·cases h
  ·
   rename_i hc
   split at h
   ·rename_i x ty rest hx hty
    have hargs:c.args.map a.eval = #[a.eval x]:=by apply Array.ext';simp [hx]
    refine .ofYld R (lenK_sound (ts:=c.argTypes) (out:=o.type) R (ht.eval x) (by rw [← Array.getElem?_toList,hty];rfl) h) ?_
    simp [execOp,ho,resolve,hc,invoke,hargs,builtin]
   ·cases h
  ·
   rename_i hc
   split at h
   ·rename_i x y ty ty2 hx hty
    have hargs:c.args.map a.eval = #[a.eval x,a.eval y]:=by apply Array.ext';simp [hx]
    have hts:c.argTypes = #[ty,ty2]:=by apply Array.ext';simp [hty]
    refine .ofActs (appendK_sound (out:=o.type) R (ht.eval x) (ht.eval y) h) ?_ (by simp [roOp,ho,hc])
    simp [execOp,ho,resolve,hc,invoke,hargs,builtin,hts]
   ·cases h
  ·
   rename_i hc
   split at h
   ·rename_i x ty rest hx hty
    have hargs:c.args.map a.eval = #[a.eval x]:=by apply Array.ext';simp [hx]
    obtain ⟨b',hK,w',μ',hr,hp⟩:=clearK_sound (ts:=c.argTypes) (out:=o.type) R (ht.eval x) (by rw [← Array.getElem?_toList,hty];rfl) h
    refine .ofActs (ro:=false) ⟨_,b',hK,(fun h=>by cases h),_,w',μ',hr,hp _⟩ ?_ (by simp [roOp,ho,hc])
    simp [execOp,ho,resolve,hc,invoke,hargs,builtin]
   ·cases h
  ·rename_i hc
   split at h
   ·rename_i x y hx
    have hargs:c.args.map a.eval = #[a.eval x,a.eval y]:=by apply Array.ext';simp [hx]
    obtain ⟨k,_,h⟩:=bind_some' h
    obtain ⟨m,hm,h⟩:=wInt_sound (ht.eval x) h
    obtain ⟨n,hn,h⟩:=wInt_sound (ht.eval y) h
    refine .ofVal R h (v:=.int k (if n > m then n else m)) ?_ ?_
    ·by_cases hlt:m < n<;>simp [ARel,CRel,hlt]
    ·simp [execOp,ho,resolve,hc,invoke,hargs,builtin,Builtin.max_,hm,hn,Builtin.max2]
   ·cases h
  ·rename_i hc
   split at h
   ·rename_i x y hx
    have hargs:c.args.map a.eval = #[a.eval x,a.eval y]:=by apply Array.ext';simp [hx]
    obtain ⟨k,_,h⟩:=bind_some' h
    obtain ⟨m,hm,h⟩:=wInt_sound (ht.eval x) h
    obtain ⟨n,hn,h⟩:=wInt_sound (ht.eval y) h
    refine .ofVal R h (v:=.int k (if n < m then n else m)) ?_ ?_
    ·by_cases hlt:n < m<;>simp [ARel,CRel,hlt]
    ·simp [execOp,ho,resolve,hc,invoke,hargs,builtin,Builtin.min_,hm,hn,Builtin.min2]
   ·cases h
  ·cases h
 ·cases h
end
end Go.Proofs.Ytognghbhdalckaa.Abs
namespace Go.Proofs.Ytognghbhdalckaa.Abs
open Go
variable [Glob]
section
variable {P:Program} {w w':World} {F G N:Nat→Prop} {μ μ':List Hd} {b b':List Blk} {R':Type} {r:R'}
structure Tr (F G:Nat→Prop) (w:World) (μ:List Hd) (b:List Blk) (w':World) (μ':List Hd) (b':List Blk) (C:Nat→Prop):Prop where
 rel:Rel F w μ b
 len:μ'.length=b'.length
 grow:b.length ≤ b'.length
 off:∀ i,i < b'.length→¬ C i→b'[i]? = b[i]?∧μ'[i]? = μ[i]?
 at_:∀ i blk h,C i→b[i]? = some blk→μ[i]? = some h→∃ (blk':Blk) (h':Hd),b'[i]? = some blk'∧μ'[i]? = some h'∧VerOk w blk h w' blk' h'
 size:w.heap.size ≤ w'.heap.size
 gs:∀ x,G x→x < w'.heap.size∧(F x∨w.heap.size ≤ x∨∃ (j:Nat) (blk:Blk) (h:Hd),C j∧b[j]? = some blk∧μ[j]? = some h∧alive blk.body=true∧x ∈ h.own)
 new:∀ (i:Nat) (blk':Blk) (h':Hd) x,C i→b'[i]? = some blk'→μ'[i]? = some h'→alive blk'.body=true→x ∈ h'.own→
  ¬ G x∧x < w'.heap.size∧(w.heap.size ≤ x∨(∃ (j:Nat) (blk:Blk) (h:Hd),C j∧b[j]? = some blk∧μ[j]? = some h∧alive blk.body=true∧x ∈ h.own)∨(F x∧¬ Glob.ids x))
 dis:∀ (i j:Nat) (blk blk':Blk) (h h':Hd) x,C i→C j→b'[i]? = some blk→b'[j]? = some blk'→alive blk.body=true→alive blk'.body=true→μ'[i]? = some h→μ'[j]? = some h'→x ∈ h.own→x ∈ h'.own→i=j
 mem:∀ x,x < w.heap.size→(∀ (j:Nat) (blk:Blk) (h:Hd),C j→b[j]? = some blk→μ[j]? = some h→alive blk.body=true→x ∉ h.own)→w'.heap[x]? = w.heap[x]?
variable {C:Nat→Prop}
theorem Tr.far (T:Tr F G w μ b w' μ' b' C) (i:Nat) (blk:Blk) (h:Hd) (x:Nat) (hne:¬ C i) (hb:b[i]? = some blk) (hm:μ[i]? = some h) (ha:alive blk.body=true) (ho:x ∈ h.own):w'.heap[x]? = w.heap[x]?:=by
 refine T.mem x (T.rel.fres x ⟨i,blk,h,hb,ha,hm,ho⟩).2 fun j blk0 h0 hc hb0 hm0 ha0 ho0=>hne ?_
 rw [T.rel.inj i j blk blk0 h h0 x hb hb0 ha ha0 hm hm0 ho ho0];exact hc
theorem Tr.own2 (T:Tr F G w μ b w' μ' b' C):∀ x,Own μ' b' x→¬ G x∧x < w'.heap.size∧¬ Glob.ids x∧(w.heap.size ≤ x∨Own μ b x∨F x):=by
 intro x ⟨i,blk,h,hb,ha,hm,ho⟩
 by_cases hc:C i
 ·obtain ⟨h0,h1,h2⟩:=T.new i blk h x hc hb hm ha ho
  rcases h2 with h2 | ⟨j,blk0,h0',hc0,hb0,hm0,ha0,ho0⟩ | ⟨h2,h4⟩
  ·exact ⟨h0,h1,fun hi=>by have:=T.rel.fbk.idl x hi;omega,.inl h2⟩
  ·have hown:Own μ b x:=⟨j,blk0,h0',hb0,ha0,hm0,ho0⟩
   exact ⟨h0,h1,T.rel.oid x hown,.inr (.inl hown)⟩
  ·exact ⟨h0,h1,h4,.inr (.inr h2)⟩
 ·have hi:i < b'.length:=(List.getElem?_eq_some_iff.1 hb).1
  obtain ⟨e1,e2⟩:=T.off i hi hc
  rw [e1] at hb;rw [e2] at hm
  have hown:Own μ b x:=⟨i,blk,h,hb,ha,hm,ho⟩
  have hx:=T.rel.fres x hown
  refine ⟨fun hg=>?_,Nat.lt_of_lt_of_le hx.2 T.size,T.rel.oid x hown,.inr (.inl hown)⟩
  rcases (T.gs x hg).2 with h1 | h1 | ⟨j,blk0,h0,hc0,hb0,hm0,ha0,ho0⟩
  ·exact hx.1 h1
  ·omega
  ·have:=T.rel.inj i j blk blk0 h h0 x hb hb0 ha ha0 hm hm0 ho ho0
   subst this
   exact hc hc0
theorem Tr.upd (T:Tr F G w μ b w' μ' b' C):Upd2 F G w μ b w' μ' b':=by
 refine ⟨T.rel.len,T.len,?_,T.size,fun x hx=>?_,fun x hx=>?_,?_⟩
 ·intro i blk h hb hm
  by_cases hc:C i
  ·exact T.at_ i blk h hc hb hm
  ·have hi:i < b'.length:=Nat.lt_of_lt_of_le (List.getElem?_eq_some_iff.1 hb).1 T.grow
   obtain ⟨e1,e2⟩:=T.off i hi hc
   refine ⟨blk,h,by rw [e1];exact hb,by rw [e2];exact hm,?_⟩
   cases ha:alive blk.body with
   |true=>exact .refl fun x hx=>T.far i blk h x hc hb hm ha hx
   |false=>exact .deadRefl ha
 ·obtain ⟨h1,h2,_,h3⟩:=T.own2 x hx
  exact ⟨h1,h2,h3⟩
 ·rcases (T.gs x hx).2 with h | h | ⟨j,blk,hh,_,h1,h2,h3,h4⟩
  ·exact .inr (.inl h)
  ·exact .inl h
  ·exact .inr (.inr ⟨j,blk,hh,h1,h3,h2,h4⟩)
 ·intro x hx hn _
  exact T.mem x hx fun j blk h _ hb hm ha ho=>hn ⟨j,blk,h,hb,ha,hm,ho⟩
theorem Tr.done (T:Tr F G w μ b w' μ' b' C) (hk:∀ (i:Nat) (blk':Blk) (h':Hd),C i→b'[i]? = some blk'→μ'[i]? = some h'→BRel (Or G (Own μ' b')) w' μ' b' h' blk'.body):Rel G w' μ' b':=by
 have U:=T.upd
 refine ⟨T.len,?_,?_,fun x hx=>⟨(T.own2 x hx).1,(T.own2 x hx).2.1⟩,⟨fun x hx=>(T.gs x hx).1,fun x hx=>Nat.lt_of_lt_of_le (T.rel.fbk.idl x hx) T.size,Glob.keep (fun x hx=>?_) T.rel.fbk.ok⟩,fun x hx=>(T.own2 x hx).2.2.1⟩
 ·intro i blk h hb hm
  by_cases hc:C i
  ·exact hk i blk h hc hb hm
  ·have hi:i < b'.length:=(List.getElem?_eq_some_iff.1 hb).1
   obtain ⟨e1,e2⟩:=T.off i hi hc
   rw [e1] at hb;rw [e2] at hm
   exact BRel.upd U (fun x ho ha=>T.far i blk h x hc hb hm ha ho) (T.rel.blk i blk h hb hm)
 ·have cross:∀ (i k:Nat) (blk:Blk) (h:Hd) (blk':Blk) (h':Hd) (x:Nat),¬ C i→C k→i < b'.length→b'[i]? = some blk→alive blk.body=true→μ'[i]? = some h→x ∈ h.own→
    b'[k]? = some blk'→alive blk'.body=true→μ'[k]? = some h'→x ∈ h'.own→False:=by
   intro i k blk h blk' h' x hci hck hi hb ha hm ho hb' ha' hm' ho'
   obtain ⟨e1,e2⟩:=T.off i hi hci
   rw [e1] at hb;rw [e2] at hm
   have hx:=T.rel.fres x ⟨i,blk,h,hb,ha,hm,ho⟩
   rcases (T.new k blk' h' x hck hb' hm' ha' ho').2.2 with h1 | ⟨j,blk0,h0,hc0,hb0,hm0,ha0,ho0⟩ | ⟨h1,_⟩
   ·omega
   ·have:=T.rel.inj i j blk blk0 h h0 x hb hb0 ha ha0 hm hm0 ho ho0
    subst this
    exact hci hc0
   ·exact hx.1 h1
  intro i j blk blk' h h' x hb hb' ha ha' hm hm' ho ho'
  have hi:i < b'.length:=(List.getElem?_eq_some_iff.1 hb).1
  have hj:j < b'.length:=(List.getElem?_eq_some_iff.1 hb').1
  by_cases hci:C i
  ·by_cases hcj:C j
   ·exact T.dis i j blk blk' h h' x hci hcj hb hb' ha ha' hm hm' ho ho'
   ·exact (cross j i blk' h' blk h x hcj hci hj hb' ha' hm' ho' hb ha hm ho).elim
  ·by_cases hcj:C j
   ·exact (cross i j blk h blk' h' x hci hcj hi hb ha hm ho hb' ha' hm' ho').elim
   ·obtain ⟨e1,e2⟩:=T.off i hi hci
    obtain ⟨e3,e4⟩:=T.off j hj hcj
    rw [e1] at hb;rw [e2] at hm;rw [e3] at hb';rw [e4] at hm'
    exact T.rel.inj i j blk blk' h h' x hb hb' ha ha' hm hm' ho ho'
 ·exact T.mem x (T.rel.fbk.idl x hx) fun j blk h _ hb hm ha ho=>T.rel.oid x ⟨j,blk,h,hb,ha,hm,ho⟩ hx
theorem Tr.fr (T:Tr F G w μ b w' μ' b' C) (hos:w'.os=w.os) (ht:w'.tape=w.tape) (ho:w'.output=w.output):Fr (Own μ b) w w':=
 ⟨hos,ht,ho,T.size,fun x hx hn=>T.mem x hx fun j blk h _ hb hm ha ho=>hn ⟨j,blk,h,hb,ha,hm,ho⟩⟩
theorem cont_hole {m:Md} {sz:Nat} {xs:List CVal} {c:CVal} {idx off k:Nat}:cont (.hole m sz xs c idx off k)=some (m,sz,xs):=rfl
theorem focusK_sound {agg:Bool} {n i ver sv idx off:Nat} {v:Value} {K:Nat→List Blk→Option R'} (R:Rel F w μ b) (hx:ARel (Or F (Own μ b)) w μ b (.lsub i ver sv idx off) v) (h:focusK agg n b i ver sv idx off K=some r) :
  ∃ b' μ',K b.length b'=some r∧Upd F w μ b w μ' b'∧Rel F w μ' b'∧ARel (Or F (Own μ' b')) w μ' b' (.lref b.length 0) v∧
   ∃ ver m sz xs c ys,b'[i]? = some ⟨ver,.hole m sz xs c idx off b.length⟩∧b'[b.length]? = some ⟨0,.arr ⟨true,true,0⟩ n ys⟩∧i < b.length:=by
 unfold focusK at h
 obtain ⟨xs,hxs,h⟩:=bind_some' h
 obtain ⟨hd,h⟩:=br_none h
 obtain ⟨c,hc,h⟩:=bind_some' h
 obtain ⟨d,hdc,h⟩:=bind_some' h
 obtain ⟨ys,hys,h⟩:=bind_some' h
 obtain ⟨hall,h⟩:=br_none h
 have hdy:d=.sl ys:=by cases d<;>simp [CVal.asSl] at hys;rw [hys]
 rw [hdy] at hdc;clear hdy hys
 obtain ⟨m,sz,base,cap,rs,S,hb,hm,hm1,hs1,hl,hcap⟩:=R.arr hxs
 simp only [hm1,Bool.and_eq_true,beq_iff_eq] at hd
 rw [hm1,hs1] at h
 have hidx:=(List.getElem?_eq_some_iff.1 hc).1
 have hi:=(List.getElem?_eq_some_iff.1 hb).1
 have hi':=(List.getElem?_eq_some_iff.1 hm).1
 rcases hcap with ⟨h0,_⟩ | ⟨x,cells,e,h0,rfl,hw,hrs,hz,hnd,hel⟩
 ·omega
 rw [hd.1] at hel
 obtain ⟨A,T,B,hv,rfl,hdr,hoff,hcell,hH⟩:=HEl.make (GEl.toD hel) hc hdc
 have hvv:v=hv:=ARel.sub hx hb hm hd.1 hd.2 hc hdc (by simpa using hcell)
 subst hvv
 obtain ⟨base2,cap2,rfl,hl2,hor⟩:=hdr
 obtain ⟨hk,T',hkv,hkC,hkown,hkB⟩:∃ (hk:Hd) (T':Nat × List Nat),hk=.arr base2 ys.length cap2 n T'.1 T'.2∧CapOk hk∧(∀ y,y ∈ hk.own↔y ∈ T)∧(T.Nodup→∀ (N':Nat→Prop) (μ':List Hd) (b':List Blk),Keep (Or F (Own μ b)) N' w w→BRel N' w μ' b' hk (.arr ⟨true,true,0⟩ n ys)):=by
  rcases hor with ⟨rfl,rfl⟩ | ⟨z,cells2,e2,sz2,S2,hcap0,rfl,rfl,hw2,hz2,hel2⟩
  ·refine ⟨_,(0,[]),rfl,(fun h=>by simp),fun y=>by rw [own_arr0],fun _ N' μ' b' K=>⟨base2,0,0,[],rfl,hl2,.inl ⟨rfl,rfl⟩⟩⟩
  ·refine ⟨_,(cells2.size,S2),rfl,?_,fun y=>by rw [own_arr hcap0],fun hn N' μ' b' K=>⟨_,cap2,_,S2,rfl,hl2,.inr ⟨z,cells2,e2,hcap0,rfl,hw2,rfl,(fun h=>by cases h),hn,?_⟩⟩⟩
   ·intro hne
    obtain ⟨us,hus,hcell2⟩:=(GEl.ofD hel2).out
    have:=hus.size hall (fun e=>hne (by rw [e];rfl))
    subst this
    exact hz2
   have hel3:=GEl.keep K rfl (fun _ _=>rfl) (GEl.ofD hel2)
   obtain ⟨us,hus,hcell2⟩:=hel3.out
   by_cases hy:ys=[]
   ·exact (hus.any hy).put hcell2
   ·have:=hus.size hall hy
    subst this
    exact hel3
 have hnS:=(List.nodup_cons.1 hnd).2
 have hTn:T.Nodup:=(List.nodup_append.1 (List.nodup_append.1 hnS).1).2.1
 have hABn:(A ++ B).Nodup:=by
  simp only [List.nodup_append,List.mem_append] at hnS ⊢
  exact ⟨hnS.1.1,hnS.2.1,fun a ha c hc=>hnS.2.2 a (.inl ha) c hc⟩
 have hTAB:∀ y ∈ T,y ∉ A ++ B∧y ≠ x:=by
  intro y hy
  refine ⟨fun h=>?_,fun h=>?_⟩
  ·simp only [List.nodup_append,List.mem_append] at hnS h
   rcases h with h | h
   ·exact hnS.1.2.2 y h y hy rfl
   ·exact hnS.2.2 y (.inr hy) y h rfl
  ·subst h;exact (List.nodup_cons.1 hnd).1 (by simp [hy])
 have hxAB:x ∉ A ++ B:=fun h=>(List.nodup_cons.1 hnd).1 (by simp at h ⊢;rcases h with h | h<;>simp [h])
 have hown:∀ y,(y=x∨y ∈ A ++ B∨y ∈ T)→y ∈ (Hd.arr (some (pl x 0)) xs.length cap sz rs (A ++ T ++ B)).own:=by
  intro y hy
  rw [own_arr h0]
  simp at hy ⊢
  rcases hy with h | (h | h) | h<;>simp [h]
 let b':=b.set i ⟨ver,.hole m sz xs c idx off b.length⟩ ++ [⟨0,.arr ⟨true,true,0⟩ n ys⟩]
 let μ':=μ.set i (.arr (some (pl x 0)) xs.length cap sz rs (A ++ B)) ++ [hk]
 have hbi:b'[i]? = some ⟨ver,.hole m sz xs c idx off b.length⟩:=by simp [b',List.getElem?_append_left,hi]
 have hμi:μ'[i]? = some (.arr (some (pl x 0)) xs.length cap sz rs (A ++ B)):=by simp [μ',List.getElem?_append_left,hi']
 have hbk:b'[b.length]? = some ⟨0,.arr ⟨true,true,0⟩ n ys⟩:=by simp [b']
 have hμk:μ'[b.length]? = some hk:=by simp [μ',← R.len]
 have hCb:∀ {j:Nat} {blk:Blk} {h:Hd},(j=i∨j=b.length)→b'[j]? = some blk→μ'[j]? = some h→(j=i∧blk=⟨ver,.hole m sz xs c idx off b.length⟩∧h=.arr (some (pl x 0)) xs.length cap sz rs (A ++ B))∨(j=b.length∧blk=⟨0,.arr ⟨true,true,0⟩ n ys⟩∧h=hk):=by
  rintro j blk h (rfl | rfl) h1 h2
  ·rw [hbi] at h1;rw [hμi] at h2;cases h1;cases h2;exact .inl ⟨rfl,rfl,rfl⟩
  ·rw [hbk] at h1;rw [hμk] at h2;cases h1;cases h2;exact .inr ⟨rfl,rfl,rfl⟩
 have hdis:∀ y,y ∈ (Hd.arr (some (pl x 0)) xs.length cap sz rs (A ++ B)).own→y ∉ T:=by
  intro y hy hyT
  rw [own_arr h0] at hy
  rcases List.mem_cons.1 hy with e | e
  ·exact (hTAB y hyT).2 e
  ·exact (hTAB y hyT).1 e
 have TR:Tr F F w μ b w μ' b' fun j=>j=i∨j=b.length:=by
  refine ⟨R,by simp [b',μ',R.len],by simp [b'],fun j hj hne=>?_,?_,Nat.le_refl _,fun x hx=>⟨R.fb x hx,.inl hx⟩,?_,?_,fun _ _ _=>rfl⟩
  ·have h1:j ≠ i:=fun e=>hne (.inl e)
   have h2:j ≠ b.length:=fun e=>hne (.inr e)
   have h3:j < b.length:=by simp [b'] at hj;omega
   refine ⟨?_,?_⟩
   ·simp only [b']
    rw [List.getElem?_append_left (by simpa using h3),List.getElem?_set_ne (Ne.symm h1)]
   ·simp only [μ']
    rw [List.getElem?_append_left (by simpa [R.len] using h3),List.getElem?_set_ne (Ne.symm h1)]
  ·rintro j blk h (rfl | rfl) hbj hmj
   ·rw [hb] at hbj;cases hbj
    rw [hm] at hmj;cases hmj
    refine ⟨_,_,hbi,hμi,Nat.le_refl _,(fun _ h=>by cases h),(fun _ h=>by cases h),fun _ _ _=>⟨rfl,rfl⟩,(fun h=>by simp [alive] at h),fun h=>⟨rfl,fun _=>h⟩,fun _ m' sz' xs' hcont _=>?_⟩
    simp only [cont_hole,Option.some.injEq,Prod.mk.injEq] at hcont
    obtain ⟨rfl,rfl,rfl⟩:=hcont
    exact ⟨m,xs,rfl,Nat.le_refl _,fun _ hd=>⟨hd,fun _ _ hs=>⟨hs,fun _ _ _ _ _ _ _=>rfl⟩⟩⟩
   ·simp at hbj
  ·intro j blk h y hC h1 h2 h3 h4
   have hyo:y ∈ (Hd.arr (some (pl x 0)) xs.length cap sz rs (A ++ T ++ B)).own:=by
    rcases hCb hC h1 h2 with ⟨_,_,rfl⟩ | ⟨_,_,rfl⟩
    ·rw [own_arr h0] at h4
     rcases List.mem_cons.1 h4 with e | e
     ·exact hown y (.inl e)
     ·exact hown y (.inr (.inl e))
    ·exact hown y (.inr (.inr ((hkown y).1 h4)))
   have hyow:Own μ b y:=⟨i,_,_,hb,rfl,hm,hyo⟩
   exact ⟨(R.fres y hyow).1,(R.fres y hyow).2,.inr (.inl ⟨i,_,_,.inl rfl,hb,hm,rfl,hyo⟩)⟩
  ·intro j k blk blk' h h' y hC hC' h1 h1' h3 h3' h2 h2' h4 h4'
   rcases hCb hC h1 h2 with ⟨rfl,_,rfl⟩ | ⟨rfl,_,rfl⟩<;>rcases hCb hC' h1' h2' with ⟨rfl,_,rfl⟩ | ⟨rfl,_,rfl⟩
   ·rfl
   ·exact (hdis y h4 ((hkown y).1 h4')).elim
   ·exact (hdis y h4' ((hkown y).1 h4)).elim
   ·rfl
 have U:=TR.upd
 have Kp:=U.keep
 refine ⟨b',μ',h,U,TR.done ?_,?_,ver,m,sz,xs,c,ys,hbi,hbk,hi⟩
 ·intro j blk h hC h1 h2
  rcases hCb hC h1 h2 with ⟨rfl,rfl,rfl⟩ | ⟨rfl,rfl,rfl⟩
  ·refine ⟨hd.1,hc,⟨ys,hdc⟩,cap,rs,A ++ B,x,cells,e,hk,rfl,hl,h0,hw,hrs,hz,?_,hμk,⟨_,hbk,hkC,.inl rfl⟩,?_⟩
   ·rw [List.nodup_cons];exact ⟨hxAB,hABn⟩
   ·have:hk.val=.slice base2 ys.length cap2:=by rw [hkv];rfl
    rw [this]
    exact HEl.keep Kp rfl (fun _ _=>rfl) hH
  ·exact hkB hTn _ _ _ Kp
 ·refine ⟨rfl,_,_,hbk,hμk,by rw [hkv];simp,Nat.le_refl _,fun _ _=>by rw [hkv];rfl⟩
def VerKeep (b b':List Blk):Prop:=∀ (j:Nat) (blk':Blk),b'[j]? = some blk'→(blk'.ver=verOf b j∧(∀ blk,b[j]? = some blk→alive blk.body=false→alive blk'.body=false))∨alive blk'.body=false
theorem VerKeep.refl (b:List Blk):VerKeep b b:=fun j blk' hj=>.inl ⟨by simp [verOf,hj],fun blk hb ha=>by rw [hj] at hb;cases hb;exact ha⟩
theorem VerKeep.trans {a b c:List Blk} (hl:b.length=c.length) (x:VerKeep a b) (y:VerKeep b c):VerKeep a c:=fun j blk' hj=>by
 have hjl:j < b.length:=by rw [hl];exact (List.getElem?_eq_some_iff.1 hj).1
 have hb:=List.getElem?_eq_getElem hjl
 rcases y j blk' hj with ⟨h1,h2⟩ | h
 ·rcases x j _ hb with ⟨h3,h4⟩ | h3
  ·exact .inl ⟨by rw [h1,← h3];simp [verOf,hb],fun blk ha hd=>h2 _ hb (h4 blk ha hd)⟩
  ·exact .inr (h2 _ hb h3)
 ·exact .inr h
theorem unfocusK_sound {i k:Nat} {K:List Blk→Option R'} (R:Rel F w μ b) (hik:i ≠ k) (h:unfocusK b i k K=some r) :
  ∃ b' μ',K b'=some r∧Upd F w μ b w μ' b'∧Rel F w μ' b'∧b'.length=b.length∧(∀ j,j ≠ i→j ≠ k→b'[j]? = b[j]?)∧VerKeep b b':=by
 unfold unfocusK at h
 split at h
 ·rename_i ver m sz xs c idx off k' verk m2 szk ys hb hbk
  obtain ⟨hcond,h⟩:=br_none h
  simp only [Bool.and_eq_true,beq_iff_eq] at hcond
  obtain ⟨⟨rfl,hd2⟩,hf2⟩:=hcond
  have hi:=(List.getElem?_eq_some_iff.1 hb).1
  have hkl:=(List.getElem?_eq_some_iff.1 hbk).1
  have hi':i < μ.length:=by rw [R.len];exact hi
  have hk':k' < μ.length:=by rw [R.len];exact hkl
  obtain ⟨hdeep,hc,⟨ys0,hcy⟩,cap,rs,S,x,cells,e,hk,hμi,hl,h0,hw,hrs,hz,hnd,hmk,⟨bk,hbk2,hcp,_⟩,hH⟩:=R.blk i _ _ hb (List.getElem?_eq_getElem hi')
  have hm:μ[i]? = some (.arr (some (pl x 0)) xs.length cap sz rs S):=by rw [List.getElem?_eq_getElem hi',hμi]
  obtain ⟨base2,cap2,rs2,S2,hke,hl2,hor⟩:=R.blk k' _ _ hbk hmk
  obtain ⟨T,hTown,hTn,hdT⟩:∃ T:List Nat,(∀ y ∈ T,y ∈ hk.own)∧T.Nodup∧DRel (Or F (Own μ b)) w T (.sl ys) hk.val:=by
   subst hke
   rcases hor with ⟨h1,h2⟩ | ⟨x2,cells2,e2,h02,rfl,hw2,hrs2,hz2,hnd2,hel2⟩
   ·exact ⟨[],by simp,by simp,_,_,rfl,hl2,.inl ⟨h1,rfl⟩⟩
   ·simp only [hd2] at hel2
    refine ⟨x2 :: S2,fun y hy=>by rw [own_arr h02];exact hy,hnd2,_,_,rfl,hl2,.inr ⟨x2,cells2,e2,cond ys.isEmpty 0 szk,S2,h02,rfl,rfl,hw2,?_,?_⟩⟩
    ·cases ys with
     |nil=>simp
     |cons a l=>simpa [hrs2] using hcp (by simp)
    ·cases ys with
     |nil=>exact hel2
     |cons a l=>exact GEl.toD hel2
  obtain ⟨A,B,rfl,hF⟩:=HEl.fill hdT hH hc
  have hown:∀ y,y ∈ (Hd.arr (some (pl x 0)) xs.length cap sz rs (A ++ T ++ B)).own→(y ∈ (Hd.arr (some (pl x 0)) xs.length cap sz rs (A ++ B)).own)∨y ∈ T:=by
   intro y hy
   rw [own_arr h0] at hy ⊢
   simp at hy ⊢
   rcases hy with h | h | h | h<;>simp [h]
  have hdisT:∀ y ∈ T,y ∉ (Hd.arr (some (pl x 0)) xs.length cap sz rs (A ++ B)).own:=fun y hy ho=>
   hik (R.inj i k' _ _ _ _ y hb hbk rfl rfl hm hmk ho (hTown y hy))
  have hnd':(x :: (A ++ T ++ B)).Nodup:=by
   rw [own_arr h0] at hdisT
   have hxT:x ∉ T:=fun h=>hdisT x h (by simp)
   have hAT:∀ a ∈ A,∀ t ∈ T,a ≠ t:=fun a ha t ht e=>hdisT t ht (by simp [← e,ha])
   have hTB:∀ t ∈ T,∀ a ∈ B,t ≠ a:=fun t ht a ha e=>hdisT t ht (by simp [e,ha])
   simp only [List.nodup_cons,List.nodup_append,List.mem_append,not_or] at hnd ⊢
   refine ⟨⟨⟨hnd.1.1,hxT⟩,hnd.1.2⟩,⟨hnd.2.1,hTn,hAT⟩,hnd.2.2.1,fun a ha c hc=>?_⟩
   rcases ha with ha | ha
   ·exact hnd.2.2.2 a ha c hc
   ·exact hTB a ha c hc
  let b':=kill (b.set i ⟨ver,.arr m sz (xs.set idx (c.putCell off (.sl ys)))⟩) k'
  let μ':=μ.set i (.arr (some (pl x 0)) xs.length cap sz rs (A ++ T ++ B))
  have hbk':(b.set i ⟨ver,.arr m sz (xs.set idx (c.putCell off (.sl ys)))⟩)[k']? = some ⟨verk,.arr m2 szk ys⟩:=by rw [List.getElem?_set_ne hik];exact hbk
  have hb'e:b'=(b.set i ⟨ver,.arr m sz (xs.set idx (c.putCell off (.sl ys)))⟩).set k' ⟨verk + 1,.dead⟩:=by simp only [b',kill,hbk']
  have hbi:b'[i]? = some ⟨ver,.arr m sz (xs.set idx (c.putCell off (.sl ys)))⟩:=by rw [hb'e,List.getElem?_set_ne (Ne.symm hik)];simp [hi]
  have hbkk:b'[k']? = some ⟨verk + 1,.dead⟩:=by rw [hb'e];simp [hkl]
  have hμi':μ'[i]? = some (.arr (some (pl x 0)) xs.length cap sz rs (A ++ T ++ B)):=by simp [μ',hi']
  have hμk:μ'[k']? = some hk:=by simp only [μ'];rw [List.getElem?_set_ne hik];exact hmk
  have hlen:b'.length=b.length:=by rw [hb'e];simp
  have hoff:∀ j,j ≠ i→j ≠ k'→b'[j]? = b[j]?:=fun j h1 h2=>by rw [hb'e,List.getElem?_set_ne (Ne.symm h2),List.getElem?_set_ne (Ne.symm h1)]
  have hvk:VerKeep b b':=fun j blk' hj=>by
   by_cases hjk:j=k'
   ·subst hjk;rw [hbkk] at hj;cases hj;exact .inr rfl
   ·by_cases hji:j=i
    ·subst hji
     rw [hbi] at hj;cases hj
     exact .inl ⟨by simp [verOf,hb],fun blk hblk ha=>by rw [hb] at hblk;cases hblk;cases ha⟩
    ·rw [hoff j hji hjk] at hj
     exact .inl ⟨by simp [verOf,hj],fun blk hblk ha=>by rw [hj] at hblk;cases hblk;exact ha⟩
  have TR:Tr F F w μ b w μ' b' fun j=>j=i∨j=k':=by
   refine ⟨R,by rw [hlen];simp [μ',R.len],by rw [hlen];exact Nat.le_refl _,fun j hj hne=>?_,?_,Nat.le_refl _,fun x hx=>⟨R.fb x hx,.inl hx⟩,?_,?_,fun _ _ _=>rfl⟩
   ·have h1:j ≠ i:=fun e=>hne (.inl e)
    have h2:j ≠ k':=fun e=>hne (.inr e)
    refine ⟨hoff j h1 h2,?_⟩
    simp only [μ']
    rw [List.getElem?_set_ne (Ne.symm h1)]
   ·rintro j blk h (rfl | rfl) hbj hmj
    ·rw [hb] at hbj;cases hbj
     rw [hm] at hmj;cases hmj
     refine ⟨_,_,hbi,hμi',Nat.le_refl _,(fun _ h=>by cases h),(fun _ h=>by cases h),fun _ _ _=>⟨rfl,rfl⟩,(fun h=>by simp [alive] at h),fun h=>⟨rfl,fun _=>h⟩,fun _ m' sz' xs' hcont _=>?_⟩
     simp only [cont,Option.some.injEq,Prod.mk.injEq] at hcont
     obtain ⟨rfl,rfl,rfl⟩:=hcont
     exact ⟨m,xs,rfl,Nat.le_refl _,fun _ hd=>⟨hd,fun idx' off' hs=>⟨slAt_putCell hc hcy hs,fun _ _ _ _ _ _ _=>rfl⟩⟩⟩
    ·rw [hbk] at hbj;cases hbj
     rw [hmk] at hmj;cases hmj
     refine ⟨_,_,hbkk,hμk,Nat.le_succ _,id,fun _ h=>h,fun he=>?_,(fun h=>by simp [alive] at h),fun _=>⟨rfl,fun h=>by simp [alive] at h⟩,fun he=>?_⟩
     ·exact absurd he (by simp)
     ·exact absurd he (by simp)
   ·intro j blk h y hC h1 h2 h3 h4
    have hyow:Own μ b y∧(y ∈ (Hd.arr (some (pl x 0)) xs.length cap sz rs (A ++ B)).own∨y ∈ hk.own):=by
     rcases hC with rfl | rfl
     ·rw [hμi'] at h2;cases h2
      rcases hown y h4 with h | h
      ·exact ⟨⟨j,_,_,hb,rfl,hm,h⟩,.inl h⟩
      ·exact ⟨⟨k',_,_,hbk,rfl,hmk,hTown y h⟩,.inr (hTown y h)⟩
     ·rw [hbkk] at h1;cases h1
      simp [alive] at h3
    refine ⟨(R.fres y hyow.1).1,(R.fres y hyow.1).2,.inr (.inl ?_)⟩
    rcases hyow.2 with h | h
    ·exact ⟨i,_,_,.inl rfl,hb,hm,rfl,h⟩
    ·exact ⟨k',_,_,.inr rfl,hbk,hmk,rfl,h⟩
   ·intro j k blk blk' h h' y hC hC' h1 h1' h3 h3' h2 h2' h4 h4'
    rcases hC with rfl | rfl
    ·rcases hC' with rfl | rfl
     ·rfl
     ·rw [hbkk] at h1';cases h1'
      simp [alive] at h3'
    ·rw [hbkk] at h1;cases h1
     simp [alive] at h3
  have U:=TR.upd
  refine ⟨b',μ',h,U,TR.done ?_,hlen,hoff,hvk⟩
  intro j blk h hC h1 h2
  rcases hC with rfl | rfl
  ·rw [hbi] at h1;cases h1
   rw [hμi'] at h2;cases h2
   refine ⟨_,cap,rs,A ++ T ++ B,by simp,by simpa using hl,.inr ⟨x,cells,e,h0,rfl,hw,hrs,hz,hnd',?_⟩⟩
   rw [hdeep]
   exact GEl.keep U.keep rfl (fun _ _=>rfl) (GEl.ofD hF)
  ·rw [hbkk] at h1;cases h1
   trivial
 ·cases h
end
end Go.Proofs.Ytognghbhdalckaa.Abs
namespace Go.Proofs.Ytognghbhdalckaa.Abs
open Go
variable [Glob]
section
variable {P:Program} {w:World} {F N M:Nat→Prop} {μ:List Hd} {b:List Blk} {R':Type} {r:R'}
theorem empty_post {dp:Bool} {sz:Nat} {base:Option Addr} (R:Rel F w μ b):∃ μ',Post F w μ b w μ' (b ++ [⟨0,.arr ⟨dp,false,0⟩ sz []⟩]) (.lref b.length 0) (.slice base 0 0):=by
 refine ⟨μ ++ [.arr base 0 0 sz 0 []],push_post R (fun _ h=>h) (Nat.le_refl _) (fun _ _=>rfl) ?_ rfl rfl rfl ?_ ?_⟩
 ·intro x hx;rw [own_arr0] at hx;cases hx
 ·intro U;exact ⟨base,0,0,[],rfl,Nat.le_refl _,.inl ⟨rfl,rfl⟩⟩
 ·exact ⟨rfl,_,_,push_at,pushμ_at R,by simp,Nat.le_refl _,fun _ _=>rfl⟩
theorem promoCells_sound {dp fl:Bool}:∀ {ks:List CK} {cs:List AVal} {b:List Blk} {μ:List Hd} {vs:List Value} {K:List AVal→List Blk→Option R'},
  Rel F w μ b→AsRel (Or F (Own μ b)) w μ b fl cs vs→promoCells dp P ks cs b K=some r→
  ∃ l b1 μ1,K l b1=some r∧Upd F w μ b w μ1 b1∧Rel F w μ1 b1∧AsRel (Or F (Own μ1 b1)) w μ1 b1 fl l vs
 |ks,[],b,μ,vs,K,R,ha,h=>by
  have h:K [] b=some r:=by cases ks<;>simpa [promoCells] using h
  exact ⟨[],b,μ,h,.refl R,R,ha⟩
 |[],x :: rest,b,μ,vs,K,R,ha,h=>⟨_,b,μ,by simpa [promoCells] using h,.refl R,R,ha⟩
 |k :: ks,x :: rest,b,μ,vs,K,R,ha,h=>by
  obtain ⟨u,us,rfl,hx,hf,ha⟩:=ha
  have other:(promoCells dp P ks rest b fun l b=>K (x :: l) b)=some r→
    ∃ l b1 μ1,K l b1=some r∧Upd F w μ b w μ1 b1∧Rel F w μ1 b1∧AsRel (Or F (Own μ1 b1)) w μ1 b1 fl l (u :: us):=by
   intro h
   obtain ⟨l,b1,μ1,h,U,R1,ha1⟩:=promoCells_sound R ha h
   exact ⟨_,b1,μ1,h,U,R1,u,us,rfl,ARel.upd U hx,hf,ha1⟩
  cases k with
  |sl e=>
   cases x with
   |nl=>
    simp only [promoCells] at h
    obtain ⟨base,rfl⟩:=hx
    obtain ⟨μ0,p⟩:=empty_post (dp:=dp) (base:=base) (sz:=P.cellsOf e) R
    obtain ⟨l,b1,μ1,h,U,R1,ha1⟩:=promoCells_sound p.rel (AsRel.upd p.upd ha) h
    exact ⟨_,b1,μ1,h,p.upd.trans U,R1,_,us,rfl,ARel.upd U p.val,hf,ha1⟩
   |_=>exact other (by simpa only [promoCells] using h)
  |_=>exact other (by simpa only [promoCells] using h)
theorem promo_sound {E:Env} {g:FuncId}:∀ {j:Nat} {args:List AVal} {b:List Blk} {μ:List Hd} {vs:List Value} {K:List AVal→List Blk→Option R'},
  Rel F w μ b→AsRel (Or F (Own μ b)) w μ b false args vs→promo E g j args b K=some r→
  ∃ args1 b1 μ1,K args1 b1=some r∧Upd F w μ b w μ1 b1∧Rel F w μ1 b1∧AsRel (Or F (Own μ1 b1)) w μ1 b1 false args1 vs∧(pureArgs E g j args=true→b1=b∧args1=args)
 |j,[],b,μ,vs,K,R,ha,h=>⟨[],b,μ,h,.refl R,R,ha,fun _=>⟨rfl,rfl⟩⟩
 |j,x :: rest,b,μ,vs,K,R,ha,h=>by
  obtain ⟨u,us,rfl,hx,_,ha⟩:=ha
  have other:(promo E g (j + 1) rest b fun l b=>K (x :: l) b)=some r→
    ∃ args1 b1 μ1,K args1 b1=some r∧Upd F w μ b w μ1 b1∧Rel F w μ1 b1∧AsRel (Or F (Own μ1 b1)) w μ1 b1 false args1 (u :: us)∧(pureArgs E g j (x :: rest)=true→b1=b∧args1=x :: rest):=by
   intro h
   obtain ⟨args1,b1,μ1,h,U,R1,ha1,hp⟩:=promo_sound R ha h
   refine ⟨_,b1,μ1,h,U,R1,⟨_,_,rfl,ARel.upd U hx,by simp,ha1⟩,fun hpu=>?_⟩
   have:pureArgs E g (j + 1) rest=true:=by
    cases x<;>simp [pureArgs] at hpu<;>first | exact hpu | exact hpu.2
   exact ⟨(hp this).1,by rw [(hp this).2]⟩
  cases x with
  |nl=>
   simp only [promo] at h
   rcases br_some h with ⟨hpass,h⟩ | ⟨_,h⟩
   ·obtain ⟨t,ht,h⟩:=bind_some' h
    obtain ⟨l,b1,μ1,h,U1,R1,hl⟩:=promoCells_sound (fl:=false) (vs:=[u]) R (show AsRel (Or F (Own μ b)) w μ b false [AVal.nl] [u] from ⟨u,[],rfl,hx,by simp,rfl⟩) h
    obtain ⟨args2,b2,μ2,h,U2,R2,ha2,_⟩:=promo_sound R1 (AsRel.upd U1 ha) h
    exact ⟨_,b2,μ2,h,U1.trans U2,R2,(AsRel.upd U2 hl).append ha2,fun hpu=>by simp [pureArgs,PM.of_prom hpass] at hpu⟩
   ·exact other h
  |agg cs=>
   simp only [promo] at h
   rcases br_some h with ⟨hpass,h⟩ | ⟨_,h⟩
   ·obtain ⟨t,ht,h⟩:=bind_some' h
    obtain ⟨vs0,rfl,hcs⟩:=hx
    obtain ⟨l,b1,μ1,h,U1,R1,hl⟩:=promoCells_sound R hcs h
    obtain ⟨args2,b2,μ2,h,U2,R2,ha2,_⟩:=promo_sound R1 (AsRel.upd U1 ha) h
    refine ⟨_,b2,μ2,h,U1.trans U2,R2,⟨_,us,rfl,⟨vs0,rfl,AsRel.upd U2 hl⟩,by simp,ha2⟩,fun hpu=>?_⟩
    simp only [pureArgs,PM.of_prom hpass,Bool.not_true,Bool.and_false,Bool.or_false,Bool.and_eq_true,decide_eq_true_eq] at hpu
    rw [hpu.1] at hpass
    cases hpass
   ·exact other h
  |_=>simp only [promo] at h;exact other h
theorem focusArgs_sound {E:Env} {g:FuncId}:∀ {j:Nat} {args:List AVal} {b:List Blk} {μ:List Hd} {vs:List Value} {K:List AVal→List (Nat × Nat)→List Blk→Option R'},
  Rel F w μ b→AsRel (Or F (Own μ b)) w μ b false args vs→focusArgs E g j args b K=some r→
  ∃ args1 fs b1 μ1,K args1 fs b1=some r∧Upd F w μ b w μ1 b1∧Rel F w μ1 b1∧AsRel (Or F (Own μ1 b1)) w μ1 b1 false args1 vs∧(∀ p ∈ fs,p.1 ≠ p.2)∧(pureArgs E g j args=true→b1=b∧args1=args∧fs=[])
 |j,[],b,μ,vs,K,R,ha,h=>⟨[],[],b,μ,h,.refl R,R,ha,by simp,fun _=>⟨rfl,rfl,rfl⟩⟩
 |j,x :: rest,b,μ,vs,K,R,ha,h=>by
  obtain ⟨u,us,rfl,hx,_,ha⟩:=ha
  have other:(focusArgs E g (j + 1) rest b fun l fs b=>K (x :: l) fs b)=some r→
    ∃ args1 fs b1 μ1,K args1 fs b1=some r∧Upd F w μ b w μ1 b1∧Rel F w μ1 b1∧AsRel (Or F (Own μ1 b1)) w μ1 b1 false args1 (u :: us)∧(∀ p ∈ fs,p.1 ≠ p.2)∧(pureArgs E g j (x :: rest)=true→b1=b∧args1=x :: rest∧fs=[]):=by
   intro h
   obtain ⟨args1,fs,b1,μ1,h,U,R1,ha1,hne,hp⟩:=focusArgs_sound R ha h
   refine ⟨_,fs,b1,μ1,h,U,R1,⟨_,_,rfl,ARel.upd U hx,by simp,ha1⟩,hne,fun hpu=>?_⟩
   have:pureArgs E g (j + 1) rest=true:=by
    cases x<;>simp [pureArgs] at hpu<;>first | exact hpu | exact hpu.2
   exact ⟨(hp this).1,by rw [(hp this).2.1],(hp this).2.2⟩
  cases x with
  |lsub i ver sv idx off=>
   simp only [focusArgs] at h
   rcases br_some h with ⟨hin,h⟩ | ⟨_,h⟩
   ·obtain ⟨t,ht,h⟩:=bind_some' h
    split at h
    ·rename_i e he
     obtain ⟨b1,μ1,h,U1,R1,hv,ver',m,sz,xs,c,ys,_,_,hi⟩:=focusK_sound R hx h
     obtain ⟨args2,fs,b2,μ2,h,U2,R2,ha2,hne,_⟩:=focusArgs_sound R1 (AsRel.upd U1 ha) h
     refine ⟨_,_,b2,μ2,h,U1.trans U2,R2,⟨u,us,rfl,ARel.upd U2 hv,by simp,ha2⟩,?_,fun hpu=>?_⟩
     ·intro p hp
      rcases List.mem_cons.1 hp with rfl | hp
      ·exact Nat.ne_of_lt hi
      ·exact hne p hp
     ·have hin:E.pm g j=.inp:=by simpa using hin
      simp [pureArgs,hin] at hpu
    ·cases h
   ·exact other h
  |_=>simp only [focusArgs] at h;exact other h
theorem unfocusAll_sound:∀ {fs:List (Nat × Nat)} {b:List Blk} {μ:List Hd} {K:List Blk→Option R'},Rel F w μ b→(∀ p ∈ fs,p.1 ≠ p.2)→unfocusAll fs b K=some r→
  ∃ b' μ',K b'=some r∧Upd F w μ b w μ' b'∧Rel F w μ' b'∧(fs=[]→b'=b)∧b'.length=b.length∧VerKeep b b'
 |[],b,μ,K,R,_,h=>⟨b,μ,h,.refl R,R,fun _=>rfl,rfl,.refl b⟩
 |p :: rest,b,μ,K,R,hne,h=>by
  simp only [unfocusAll] at h
  obtain ⟨b1,μ1,h,U1,R1,_,hl1,hv1⟩:=unfocusAll_sound R (fun p hp=>hne p (List.mem_cons_of_mem _ hp)) h
  obtain ⟨b2,μ2,h,U2,R2,hlen,hoff,hv2⟩:=unfocusK_sound R1 (hne p (by simp)) h
  exact ⟨b2,μ2,h,U1.trans U2,R2,by simp,hlen.trans hl1,hv1.trans hlen.symm hv2⟩
def hsOf (μ:List Hd) (ids:List (Nat × AM)):List Hd:=ids.map fun i=>(μ[i.1]?).getD .none
def HA1 (M:Nat→Prop) (w:World) (hs:List Hd):AVal→Value→Prop
 |.v c,v=>CRel M w c v
 |.lptr j o,v=>o=0∧∃ x,hs[j]? = some (.box x)∧v=.pointer (some (pl x 0))
 |.lref j ver,v=>ver=0∧∃ base len cap sz rs S,hs[j]? = some (.arr base len cap sz rs S)∧v=.slice base len cap
 |.nl,v=>∃ base,v=.slice base 0 0
 |_,_=>False
def HAs1 (fl:Bool) (M:Nat→Prop) (w:World) (hs:List Hd):List AVal→List Value→Prop
 |[],vs=>vs=[]
 |x :: r,vs=>∃ u us,vs=u :: us∧HA1 M w hs x u∧(fl=true→flat u=true)∧HAs1 fl M w hs r us
def HA (M:Nat→Prop) (w:World) (hs:List Hd):AVal→Value→Prop
 |.func g cs,v=>∃ vs:List Value,v=.func (.func g) #[] vs.toArray∧HAs1 false M w hs cs vs
 |.agg cs,v=>∃ vs:List Value,v=.agg vs.toArray∧HAs1 true M w hs cs vs
 |x,v=>HA1 M w hs x v
def HAs (M:Nat→Prop) (w:World) (hs:List Hd):List AVal→List Value→Prop
 |[],vs=>vs=[]
 |x :: r,vs=>∃ u us,vs=u :: us∧HA M w hs x u∧HAs M w hs r us
theorem HA.of1 {hs:List Hd} {x:AVal} {v:Value} (h:HA1 M w hs x v):HA M w hs x v:=by
 cases x<;>first | exact h | exact h.elim
theorem idxOf_some:∀ {ids:List (Nat × AM)} {i j:Nat},idxOf ids i=some j→∃ am,ids[j]? = some (i,am)
 |[],_,_,h=>by simp [idxOf] at h
 |k :: r,i,j,h=>by
  simp only [idxOf] at h
  rcases br_some h with ⟨h1,h2⟩ | ⟨_,h⟩
  ·simp at h1 h2;subst h1 h2;exact ⟨k.2,rfl⟩
  ·cases hr:idxOf r i with
   |none=>simp [hr] at h
   |some j'=>
    simp [hr] at h;subst h
    obtain ⟨am,ha⟩:=idxOf_some hr
    exact ⟨am,by simpa using ha⟩
theorem idxOf_none:∀ {ids:List (Nat × AM)} {i:Nat},idxOf ids i=none→i ∉ ids.map (·.1)
 |[],_,_=>by simp
 |k :: r,i,h=>by
  simp only [idxOf] at h
  cases hk:k.1 == i with
  |true=>simp [hk,br] at h
  |false=>
   simp only [hk,br,Option.map_eq_none_iff] at h
   simp only [List.map_cons,List.mem_cons,not_or]
   exact ⟨fun e=>by simp [e] at hk,idxOf_none h⟩
structure HStep (F:Nat→Prop) (w:World) (μ:List Hd) (h h':Hand):Prop where
 ext:∃ e,h'.ids=h.ids ++ e
 nodup:(h.ids.map (·.1)).Nodup→(h'.ids.map (·.1)).Nodup
 sub:Sub h'.b h.b
 upd:Upd F w μ h.b w μ h'.b
 rel:Rel F w μ h'.b
 args:h'.args=h.args
theorem HStep.refl {h:Hand} (R:Rel F w μ h.b):HStep F w μ h h:=⟨⟨[],by simp⟩,id,.refl _,.refl R,R,rfl⟩
theorem HStep.trans {h h' h'':Hand} (x:HStep F w μ h h') (y:HStep F w μ h' h''):HStep F w μ h h'':=by
 obtain ⟨e,he⟩:=x.ext
 obtain ⟨e',he'⟩:=y.ext
 exact ⟨⟨e ++ e',by rw [he',he,List.append_assoc]⟩,fun n=>y.nodup (x.nodup n),y.sub.trans x.sub,x.upd.trans y.upd,y.rel,y.args.trans x.args⟩
theorem nodup_snoc {ids:List (Nat × AM)} {i:Nat} {am:AM} (h:i ∉ ids.map (·.1)) (n:(ids.map (·.1)).Nodup):((ids ++ [(i,am)]).map (·.1)).Nodup:=by
 rw [List.map_append,List.nodup_append]
 exact ⟨n,by simp,by intro a ha b hb;simp at hb;subst hb;intro e;subst e;exact h ha⟩
theorem hs_at {ids e:List (Nat × AM)} {i j:Nat} {am:AM} {hd:Hd} (h:ids[j]? = some (i,am)) (hm:μ[i]? = some hd):(hsOf μ (ids ++ e))[j]? = some hd:=by
 unfold hsOf
 rw [List.getElem?_map,List.getElem?_append_left (List.getElem?_eq_some_iff.1 h).1,h]
 simp [hm]
theorem pushRefs_sound:∀ {cs:List AVal} {ids:List (Nat × AM)} {K:List (Nat × AM)→Option R'},pushRefs b cs ids K=some r→∃ e,K (ids ++ e)=some r∧((ids.map (·.1)).Nodup→((ids ++ e).map (·.1)).Nodup)
 |[],ids,K,h=>⟨[],by simpa [pushRefs] using h,by simp⟩
 |x :: rest,ids,K,h=>by
  have other:pushRefs b rest ids K=some r→∃ e,K (ids ++ e)=some r∧((ids.map (·.1)).Nodup→((ids ++ e).map (·.1)).Nodup):=fun h=>pushRefs_sound h
  cases x with
  |lref i ver=>
   simp only [pushRefs] at h
   rcases br_some h with ⟨_,h⟩ | ⟨_,h⟩
   ·split at h
    ·cases h
    ·rename_i hj
     obtain ⟨e,hK,hn⟩:=pushRefs_sound h
     exact ⟨(i,.gone) :: e,by simpa using hK,fun n=>by simpa using hn (nodup_snoc (idxOf_none hj) n)⟩
   ·exact other h
  |_=>exact other (by simpa only [pushRefs] using h)
theorem handPtr_sound {h:Hand} {i:Nat} {x:Nat} {K:AVal→Hand→Option R'} (R:Rel F w μ h.b) (hm:μ[i]? = some (.box x)) (hh:handPtr h i K=some r) :
  ∃ a h',K a h'=some r∧HStep F w μ h h'∧h'.b=h.b∧∀ M e,HA1 M w (hsOf μ (h'.ids ++ e)) a (.pointer (some (pl x 0))):=by
 unfold handPtr at hh
 split at hh
 ·rename_i j hj
  obtain ⟨am,ha⟩:=idxOf_some hj
  exact ⟨_,_,hh,.refl R,rfl,fun M e=>⟨rfl,x,hs_at ha hm,rfl⟩⟩
 ·rename_i hj
  obtain ⟨cs,hcs,hh⟩:=bind_some' hh
  obtain ⟨e,hh,hn⟩:=pushRefs_sound hh
  refine ⟨_,_,hh,⟨⟨[(i,.back)] ++ e,by simp⟩,fun n=>hn (nodup_snoc (idxOf_none hj) n),.refl _,.refl R,R,rfl⟩,rfl,fun M e'=>⟨rfl,x,hs_at (i:=i) (am:=.back) ?_ hm,rfl⟩⟩
  simp
theorem handCaps_sound:∀ {caps:List AVal} {h:Hand} {vs:List Value} {fl:Bool} {K:List AVal→Hand→Option R'},Rel F w μ h.b→AsRel (Or F (Own μ h.b)) w μ h.b fl caps vs→handCaps caps h K=some r→
  ∃ l h',K l h'=some r∧HStep F w μ h h'∧h'.b=h.b∧∀ (M:Nat→Prop) e,(∀ x,M x→Or F (Own μ h.b) x)→HAs1 fl M w (hsOf μ (h'.ids ++ e)) l vs
 |[],h,vs,fl,K,R,ha,hh=>⟨[],h,hh,.refl R,rfl,fun M e _=>ha⟩
 |x :: rest,h,vs,fl,K,R,ha,hh=>by
  obtain ⟨u,us,rfl,hx,hf,ha⟩:=ha
  cases x with
  |v c=>
   simp only [handCaps] at hh
   obtain ⟨l,h',hh,hs,hb,hl⟩:=handCaps_sound R ha hh
   exact ⟨_,h',hh,hs,hb,fun M e hM=>⟨u,us,rfl,CRel.keep (Keep.sub hM) hx,hf,hl M e hM⟩⟩
  |lptr i off=>
   cases off with
   |zero=>
    simp only [handCaps] at hh
    obtain ⟨x,hm,rfl⟩:=hx
    obtain ⟨a,h1,hh,hs1,hb1,hp⟩:=handPtr_sound R hm hh
    obtain ⟨l,h',hh,hs,hb,hl⟩:=handCaps_sound hs1.rel (by rw [hb1];exact ha) hh
    obtain ⟨e1,he1⟩:=hs.ext
    exact ⟨_,h',hh,hs1.trans hs,hb.trans hb1,fun M e hM=>⟨_,us,rfl,by rw [he1,List.append_assoc];exact hp M _,hf,hl M e (by rw [hb1];exact hM)⟩⟩
   |succ n=>simp [handCaps] at hh
  |_=>simp [handCaps] at hh
theorem handRef_sound {am:AM} {i ver:Nat} {h:Hand} {v:Value} {K:AVal→Hand→Option R'} (R:Rel F w μ h.b) (hx:ARel N w μ h.b (.lref i ver) v) (hh:handRef am i ver h K=some r) :
  ∃ a h',K a h'=some r∧HStep F w μ h h'∧h'.b=h.b∧∀ M e,HA1 M w (hsOf μ (h'.ids ++ e)) a v:=by
 unfold handRef at hh
 obtain ⟨xs,hxs,hh⟩:=bind_some' hh
 obtain ⟨m,sz,base,cap,rs,S,rfl,hb,hm,_⟩:=R.arrAt hx hxs
 split at hh
 ·cases hh
 ·rename_i hj
  exact ⟨_,_,hh,⟨⟨[(i,am)],rfl⟩,nodup_snoc (idxOf_none hj),.refl _,.refl R,R,rfl⟩,rfl,fun M e=>⟨rfl,base,xs.length,cap,sz,rs,S,hs_at (i:=i) (am:=am) (by simp) hm,rfl⟩⟩
theorem handCells_sound {am:AM}:∀ {cs:List AVal} {h:Hand} {vs:List Value} {fl:Bool} {K:List AVal→Hand→Option R'},Rel F w μ h.b→AsRel (Or F (Own μ h.b)) w μ h.b fl cs vs→handCells am cs h K=some r→
  ∃ l h',K l h'=some r∧HStep F w μ h h'∧h'.b=h.b∧∀ (M:Nat→Prop) e,(∀ x,M x→Or F (Own μ h.b) x)→HAs1 fl M w (hsOf μ (h'.ids ++ e)) l vs
 |[],h,vs,fl,K,R,ha,hh=>⟨[],h,hh,.refl R,rfl,fun M e _=>ha⟩
 |x :: rest,h,vs,fl,K,R,ha,hh=>by
  obtain ⟨u,us,rfl,hx,hf,ha⟩:=ha
  cases x with
  |v c=>
   simp only [handCells] at hh
   obtain ⟨l,h',hh,hs,hb,hl⟩:=handCells_sound R ha hh
   exact ⟨_,h',hh,hs,hb,fun M e hM=>⟨u,us,rfl,CRel.keep (Keep.sub hM) hx,hf,hl M e hM⟩⟩
  |lref i ver=>
   simp only [handCells] at hh
   obtain ⟨a,h1,hh,hs1,hb1,hp⟩:=handRef_sound R hx hh
   obtain ⟨l,h',hh,hs,hb,hl⟩:=handCells_sound hs1.rel (by rw [hb1];exact ha) hh
   obtain ⟨e1,he1⟩:=hs.ext
   exact ⟨_,h',hh,hs1.trans hs,hb.trans hb1,fun M e hM=>⟨_,us,rfl,by rw [he1,List.append_assoc];exact hp M _,hf,hl M e (by rw [hb1];exact hM)⟩⟩
  |_=>simp [handCells] at hh
theorem killL_closed:∀ {cs:List AVal} {b:List Blk},cs.all closedV=true→killL cs b=b
 |[],_,_=>rfl
 |x :: r,b,h=>by
  simp only [List.all_cons,Bool.and_eq_true] at h
  cases x with
  |v c=>exact killL_closed (cs:=r) (b:=b) h.2
  |nl=>exact killL_closed (cs:=r) (b:=b) h.2
  |_=>simp [closedV] at h
mutual
theorem closeA_lent (R:Rel F w μ b) (hM:∀ x,M x→F x):∀ {x:AVal} {c:CVal} {v:Value},closeA b x=some c→ARel (Or F (Own μ b)) w μ b x v→CRel M w c v
 |.v c,_,v,h,hx=>by
  simp only [closeA,Option.some.injEq] at h;subst h
  exact CRel.keep (Keep.sub fun x hx=>.inl (hM x hx)) hx
 |.nl,_,v,h,hx=>by
  simp only [closeA,Option.some.injEq] at h;subst h
  obtain ⟨base,rfl⟩:=hx
  exact ⟨base,0,rfl,Nat.le_refl _,.inl rfl⟩
 |.lptr _ _,_,_,h,_=>by simp [closeA] at h
 |.lel _ _ _ _,_,_,h,_=>by simp [closeA] at h
 |.lsub _ _ _ _ _,_,_,h,_=>by simp [closeA] at h
 |.ltail _ _ _,_,_,h,_=>by simp [closeA] at h
 |.lel2 _ _ _ _ _ _,_,_,h,_=>by simp [closeA] at h
 |.un,_,_,h,_=>by simp [closeA] at h
 |.lref i ver,_,v,h,hx=>by
  simp only [closeA] at h
  obtain ⟨xs,hxs,h⟩:=bind_some' h
  simp only [Option.some.injEq] at h;subst h
  obtain ⟨m,sz,base,cap,rs,S,rfl,hb,hm,_,_,hl,hc⟩:=R.arrAt hx hxs
  refine ⟨base,cap,rfl,hl,?_⟩
  rcases hc with ⟨hc,_⟩ | ⟨x,cells,e,h0,rfl,hw,hrs,hz,hnd,he⟩
  ·left;have:xs.length=0:=by omega
   exact List.length_eq_zero_iff.1 this
  ·have h0':cap ≠ 0:=by omega
   have gone:∀ y,y ∈ (Hd.arr (some (pl x 0)) xs.length cap sz rs S).own→¬ M y∧y < w.heap.size:=by
    intro y hy
    have hown:Own μ b y:=⟨i,_,_,hb,rfl,hm,hy⟩
    exact ⟨fun h=>(R.fres y hown).1 (hM y h),(R.fres y hown).2⟩
   have hx0:=gone x (by simp [Hd.own,h0',pl])
   have Kp:Keep (Or F (Own μ b)) M w w:=Keep.sub fun x hx=>.inl (hM x hx)
   refine .inr ⟨x,0,sz,rfl,hx0.1,hx0.2,?_⟩
   cases hmd:m.deep with
   |false=>
    rw [hmd] at he
    exact ElRel.keepAt Kp rfl (GEl.toE he).1
   |true=>
    rw [hmd] at he
    refine DEl.close Kp rfl (fun y hy=>?_) (GEl.toD he)
    obtain ⟨g1,g2⟩:=gone y (by simp [Hd.own,h0',hy])
    exact ⟨rfl,g1,g2⟩
 |.agg cs,_,v,h,hx=>by
  simp only [closeA] at h
  obtain ⟨xs,hxs,h⟩:=bind_some' h
  simp only [Option.some.injEq] at h;subst h
  obtain ⟨vs,rfl,hc⟩:=hx
  exact ⟨vs,rfl,closeL_lent R hM hxs hc⟩
 |.func f cs,_,v,h,hx=>by
  simp only [closeA] at h
  obtain ⟨xs,hxs,h⟩:=bind_some' h
  simp only [Option.some.injEq] at h;subst h
  obtain ⟨vs,rfl,hc⟩:=hx
  exact ⟨vs,rfl,closeL_lent R hM hxs hc⟩
 |.tup cs,_,v,h,hx=>by
  simp only [closeA] at h
  obtain ⟨xs,hxs,h⟩:=bind_some' h
  simp only [Option.some.injEq] at h;subst h
  obtain ⟨vs,rfl,hc⟩:=hx
  exact ⟨vs,rfl,closeL_lent R hM hxs hc⟩
theorem closeL_lent (R:Rel F w μ b) (hM:∀ x,M x→F x):∀ {fl:Bool} {cs:List AVal} {xs:List CVal} {vs:List Value},closeL b cs=some xs→
  AsRel (Or F (Own μ b)) w μ b fl cs vs→CsRel M w fl xs vs
 |_,[],_,vs,h,hx=>by
  simp only [closeL,Option.some.injEq] at h;subst h
  exact hx
 |_,x :: r,_,vs,h,hx=>by
  simp only [closeL] at h
  obtain ⟨c,hc,h⟩:=bind_some' h
  obtain ⟨cs,hcs,h⟩:=bind_some' h
  simp only [Option.some.injEq] at h;subst h
  obtain ⟨u,us,rfl,hu,hf,hr⟩:=hx
  exact ⟨u,us,rfl,closeA_lent R hM hc hu,hf,closeL_lent R hM hcs hr⟩
end
def pureA (m:PM):AVal→Bool
 |.v _=>true
 |.nl=>true
 |.lref _ _=>decide (m=.bor)
 |.lsub _ _ _ _ _=>decide (m=.bor)
 |.ltail _ _ _=>decide (m=.bor)
 |.agg cs=>decide (m=.bor) || (cs.all closedV && !m.gives)
 |_=>false
theorem handA_sound {m:PM} {x:AVal} {h:Hand} {v:Value} {K:AVal→Hand→Option R'} (R:Rel F w μ h.b) (hx:ARel (Or F (Own μ h.b)) w μ h.b x v) (hh:handA m x h K=some r) :
  ∃ a h',K a h'=some r∧HStep F w μ h h'∧(pureA m x=true→h'=h)∧∀ (M:Nat→Prop) e,(∀ x,M x→Or F (Own μ h'.b) x)→(m=.bor→isLent x=true→∀ x,M x→F x)→HA M w (hsOf μ (h'.ids ++ e)) a v:=by
 cases x with
 |v c=>exact ⟨_,_,hh,.refl R,fun _=>rfl,fun M e hM _=>CRel.keep (Keep.sub hM) hx⟩
 |nl=>
  obtain ⟨base,rfl⟩:=hx
  by_cases hm:m=.nil
  ·subst hm
   exact ⟨_,_,hh,.refl R,fun _=>rfl,fun M e hM _=>⟨base,rfl⟩⟩
  ·rw [handA_nl hm] at hh
   exact ⟨_,_,hh,.refl R,fun _=>rfl,fun M e hM _=>⟨base,0,rfl,Nat.le_refl _,.inl rfl⟩⟩
 |lref i ver=>
  have ref:∀ {am:AM},m ≠ .bor→handRef am i ver h K=some r→∃ a h',K a h'=some r∧HStep F w μ h h'∧(pureA m (.lref i ver)=true→h'=h)∧∀ (M:Nat→Prop) e,(∀ x,M x→Or F (Own μ h'.b) x)→(m=.bor→isLent (.lref i ver)=true→∀ x,M x→F x)→HA M w (hsOf μ (h'.ids ++ e)) a v:=by
   intro am hmb hh
   obtain ⟨a,h',hh,hs,_,hp⟩:=handRef_sound R hx hh
   exact ⟨a,h',hh,hs,fun hp=>by simp [pureA,hmb] at hp,fun M e _ _=>.of1 (hp M e)⟩
  cases m with
  |bor=>
   simp only [handA] at hh
   obtain ⟨xs,hxs,hh⟩:=bind_some' hh
   exact ⟨_,_,hh,.refl R,fun _=>rfl,fun M e hM hF=>closeA_lent (x:=.lref i ver) (c:=.sl xs) R (hF rfl rfl) (by simp [closeA,hxs]) hx⟩
  |cls=>
   simp only [handA] at hh
   obtain ⟨xs,hxs,hh⟩:=bind_some' hh
   obtain ⟨U,R1⟩:=kill_upd R i
   have hcl:=closeA_sound R (kill_sub h.b i) (x:=.lref i ver) (c:=.sl xs) (by simp [closeA,hxs]) hx (fun blk hb=>kill_dead hb)
   exact ⟨_,_,hh,⟨⟨[],by simp⟩,id,kill_sub _ _,U,R1,rfl⟩,by simp [pureA],fun M e hM _=>CRel.keep (Keep.sub hM) hcl⟩
  |pass=>exact ref (by simp) hh
  |inp=>exact ref (by simp) hh
  |own=>exact ref (by simp) hh
  |nil=>exact ref (by simp) hh
 |lsub i ver sv idx off=>
  cases m with
  |bor=>
   simp only [handA] at hh
   obtain ⟨ys,hys,hh⟩:=bind_some' hh
   refine ⟨_,_,hh,.refl R,fun _=>rfl,fun M e hM hF=>?_⟩
   have hF:=hF rfl rfl
   obtain ⟨xs,m,sz,x,cap,rs,S,cells,ee,c,hv,T,hxs,hc,hdc,hd,hs,hb,hm,_,_,_,h0,_,_,_,hnd,_,hcell,hT,hdr⟩:=R.subAt hys
   have:=ARel.sub hx hb hm hd hs hc hdc hcell
   subst this
   refine DRel.close (Keep.sub hM) (fun y hy=>?_) hdr
   have hown:Own μ h.b y:=⟨i,_,_,hb,rfl,hm,by rw [own_arr h0];exact List.mem_cons_of_mem _ (hT y hy)⟩
   exact ⟨rfl,fun h=>(R.fres y hown).1 (hF y h),(R.fres y hown).2⟩
  |_=>simp [handA] at hh
 |lptr i off=>
  cases off with
  |zero=>
   obtain ⟨x,hm,rfl⟩:=hx
   obtain ⟨a,h',hh,hs,_,hp⟩:=handPtr_sound R hm hh
   exact ⟨a,h',hh,hs,by simp [pureA],fun M e _ _=>.of1 (hp M e)⟩
  |succ n=>simp [handA] at hh
 |func g caps=>
  obtain ⟨vs,rfl,hc⟩:=hx
  obtain ⟨l,h',hh,hs,hb,hl⟩:=handCaps_sound R hc hh
  exact ⟨_,h',hh,hs,by simp [pureA],fun M e hM _=>⟨vs,rfl,hl M e (by rw [← hb];exact hM)⟩⟩
 |agg cs=>
  obtain ⟨vs,rfl,hc⟩:=hx
  have cls:m ≠ .bor→(closeL h.b cs).bind (fun l=>K (.v (.agg l)) ⟨h.args,h.ids,killL cs h.b⟩)=some r→∃ a h',K a h'=some r∧HStep F w μ h h'∧(pureA m (.agg cs)=true→h'=h)∧∀ (M:Nat→Prop) e,(∀ x,M x→Or F (Own μ h'.b) x)→(m=.bor→isLent (.agg cs)=true→∀ x,M x→F x)→HA M w (hsOf μ (h'.ids ++ e)) a (.agg vs.toArray):=by
   intro hmb hh
   obtain ⟨l,hl,hh⟩:=bind_some' hh
   obtain ⟨U,R1⟩:=killL_upd cs R
   have hcl:=closeL_sound R (killL_sub cs h.b) hl hc (killL_dead cs h.b)
   refine ⟨_,_,hh,⟨⟨[],by simp⟩,id,killL_sub _ _,U,R1,rfl⟩,fun hp=>?_,fun M e hM _=>⟨vs,rfl,CsRel.keep (Keep.sub hM) hcl⟩⟩
   simp [pureA,hmb] at hp
   rw [killL_closed (by simpa using hp.1)]
  have cells:∀ {am:AM},m ≠ .bor→m.gives=true→handCells am cs h (fun l h=>K (.agg l) h)=some r→∃ a h',K a h'=some r∧HStep F w μ h h'∧(pureA m (.agg cs)=true→h'=h)∧∀ (M:Nat→Prop) e,(∀ x,M x→Or F (Own μ h'.b) x)→(m=.bor→isLent (.agg cs)=true→∀ x,M x→F x)→HA M w (hsOf μ (h'.ids ++ e)) a (.agg vs.toArray):=by
   intro am hmb hg hh
   obtain ⟨l,h',hh,hs,hb,hl⟩:=handCells_sound R hc hh
   exact ⟨_,h',hh,hs,fun hp=>by simp [pureA,hmb,hg] at hp,fun M e hM _=>⟨vs,rfl,hl M e (by rw [← hb];exact hM)⟩⟩
  cases m with
  |bor=>
   simp only [handA] at hh
   obtain ⟨l,hl,hh⟩:=bind_some' hh
   exact ⟨_,_,hh,.refl R,fun _=>rfl,fun M e hM hF=>⟨vs,rfl,closeL_lent R (hF rfl rfl) hl hc⟩⟩
  |inp=>exact cells (by simp) rfl hh
  |own=>exact cells (by simp) rfl hh
  |cls=>exact cls (by simp) hh
  |pass=>exact cls (by simp) hh
  |nil=>exact cls (by simp) hh
 |_=>simp [handA] at hh
theorem handAll_sound {E:Env} {g:FuncId}:∀ {args:List AVal} {j:Nat} {h:Hand} {vs:List Value} {K:Hand→Option R'},Rel F w μ h.b→AsRel (Or F (Own μ h.b)) w μ h.b false args vs→
  handAll (E.pm g) j args h K=some r→
  ∃ (h':Hand) (l:List AVal),K h'=some r∧HStep F w μ h ⟨h.args,h'.ids,h'.b⟩∧h'.args=h.args ++ l∧(pureArgs E g j args=true→h'.ids=h.ids∧h'.b=h.b)∧
   ∀ (M:Nat→Prop) e,(∀ x,M x→Or F (Own μ h'.b) x)→(borrows E g j args=true→∀ x,M x→F x)→HAs M w (hsOf μ (h'.ids ++ e)) l vs
 |[],j,h,vs,K,R,ha,hh=>⟨h,[],hh,.refl R,by simp,fun _=>⟨rfl,rfl⟩,fun M e _ _=>ha⟩
 |x :: rest,j,h,vs,K,R,ha,hh=>by
  obtain ⟨u,us,rfl,hx,_,ha⟩:=ha
  simp only [handAll] at hh
  obtain ⟨a,h1,hh,hs1,hpu1,hp⟩:=handA_sound R hx hh
  obtain ⟨h',l,hh,hs,hargs,hpu,hl⟩:=handAll_sound (h:=⟨h1.args ++ [a],h1.ids,h1.b⟩) hs1.rel (AsRel.upd hs1.upd ha) hh
  obtain ⟨e1,he1⟩:=hs.ext
  refine ⟨h',a :: l,hh,⟨?_,fun n=>hs.nodup (hs1.nodup n),hs.sub.trans hs1.sub,hs1.upd.trans hs.upd,hs.rel,rfl⟩,by rw [hargs];simp [hs1.args],fun hh=>?_,fun M e hM hb=>⟨u,us,rfl,?_,hl M e hM fun hb'=>hb ?_⟩⟩
  ·obtain ⟨e0,he0⟩:=hs1.ext
   exact ⟨e0 ++ e1,by rw [he1];simp [he0]⟩
  ·have h2:pureA (E.pm g j) x=true∧pureArgs E g (j + 1) rest=true:=by
    cases x<;>simp [pureArgs] at hh<;>first | exact ⟨rfl,hh⟩ | exact ⟨rfl,hh.2⟩ | exact ⟨by simpa [pureA] using hh.1,hh.2⟩
   obtain ⟨h3,h4⟩:=hpu h2.2
   have:=hpu1 h2.1
   subst this
   exact ⟨h3,h4⟩
  ·simp only at he1
   rw [he1,List.append_assoc]
   refine hp M _ (fun x hx=>(hM x hx).imp id fun ho=>hs.sub.own ho) fun hm hr=>hb ?_
   unfold borrows
   simp [hm,hr]
  ·unfold borrows;simp [hb']
end
end Go.Proofs.Ytognghbhdalckaa.Abs
namespace Go.Proofs.Ytognghbhdalckaa.Abs
open Go
variable [Glob]
section
variable {P:Program} {w:World} {F N M:Nat→Prop} {μ:List Hd} {b:List Blk} {R':Type} {r:R'}
def PBok (F:Nat→Prop) (w:World) (μ:List Hd) (b:List Blk) (ids:List (Nat × AM)) (i:Nat × AM) (p:PB):Prop:=
 ∃ blk,b[i.1]? = some blk∧((∃ m sz xs,p=.arr ⟨m.deep,decide (i.2=.fix),0⟩ (decide (i.2=.gone)) sz xs∧blk.body=.arr m sz xs∧(m.fix=true→i.2=.fix))∨
  (∃ cs ys,p=.box ys∧blk.body=.box cs∧∃ x vs e,μ[i.1]? = some (.box x)∧w.heap[x]? = some (.cells (List.toArray vs) e (0,0))∧
   ∀ (M:Nat→Prop),(∀ x,M x→Or F (Own μ b) x)→HAs1 true M w (hsOf μ ids) ys vs))
theorem PBok.alive {ids:List (Nat × AM)} {i:Nat × AM} {p:PB} (h:PBok F w μ b ids i p):∃ blk,b[i.1]? = some blk∧Abs.alive blk.body=true:=by
 obtain ⟨blk,hb,hor⟩:=h
 refine ⟨blk,hb,?_⟩
 rcases hor with ⟨m,sz,xs,_,e,_⟩ | ⟨cs,xs,_,e,_⟩<;>rw [e]<;>rfl
theorem aliveAt_some {i:Nat} (h:aliveAt b i=true):∃ blk,b[i]? = some blk∧alive blk.body=true:=by
 unfold aliveAt at h
 split at h
 ·rename_i ver m sz xs hb;exact ⟨_,hb,rfl⟩
 ·rename_i ver cs hb;exact ⟨_,hb,rfl⟩
 ·cases h
theorem boxCells_sound {ids:List (Nat × AM)}:∀ {cs:List AVal} {b:List Blk} {vs:List Value} {K:List AVal→List Blk→Option R'},Rel F w μ b→AsRel (Or F (Own μ b)) w μ b true cs vs→boxCells ids cs b K=some r→
  ∃ l b',K l b'=some r∧Sub b' b∧Upd F w μ b w μ b'∧Rel F w μ b'∧∀ (M:Nat→Prop),(∀ x,M x→Or F (Own μ b') x)→HAs1 true M w (hsOf μ ids) l vs
 |[],b,vs,K,R,ha,h=>⟨[],b,h,.refl _,.refl R,R,fun M _=>ha⟩
 |x :: rest,b,vs,K,R,ha,h=>by
  obtain ⟨u,us,rfl,hx,hf,ha⟩:=ha
  have other:((closeA b x).bind fun c=>boxCells ids rest (killA x b) fun l b=>K (.v c :: l) b)=some r→
    ∃ l b',K l b'=some r∧Sub b' b∧Upd F w μ b w μ b'∧Rel F w μ b'∧∀ (M:Nat→Prop),(∀ x,M x→Or F (Own μ b') x)→HAs1 true M w (hsOf μ ids) l (u :: us):=by
   intro h
   obtain ⟨c,hc,h⟩:=bind_some' h
   obtain ⟨U,R1⟩:=killA_upd x R
   have hcl:=closeA_sound R (killA_sub x b) hc hx (killA_dead x b)
   obtain ⟨l,b',h,s,U2,R2,hl⟩:=boxCells_sound R1 (AsRel.upd U ha) h
   exact ⟨_,b',h,s.trans (killA_sub x b),U.trans U2,R2,fun M hM=>⟨u,us,rfl,CRel.keep (Keep.sub fun x hx=>(hM x hx).imp id fun ho=>s.own ho) hcl,hf,hl M hM⟩⟩
  cases x with
  |lref i ver=>
   simp only [boxCells] at h
   split at h
   ·rename_i j hj
    obtain ⟨hsome,h⟩:=br_none h
    obtain ⟨xs,hxs⟩:=Option.isSome_iff_exists.1 hsome
    obtain ⟨m,sz,base,cap,rs,S,rfl,hb,hm,_⟩:=R.arrAt hx hxs
    obtain ⟨am,hi⟩:=idxOf_some hj
    obtain ⟨l,b',h,s,U2,R2,hl⟩:=boxCells_sound R ha h
    exact ⟨_,b',h,s,U2,R2,fun M hM=>⟨_,us,rfl,⟨rfl,base,xs.length,cap,sz,rs,S,by simpa using hs_at (e:=[]) hi hm,rfl⟩,hf,hl M hM⟩⟩
   ·refine other ?_
    simpa only [closeA,killA,Option.bind_assoc,Option.bind_some] using h
  |_=>exact other (by simpa only [boxCells] using h)
theorem handBlks_sound {ids0:List (Nat × AM)}:∀ {ids:List (Nat × AM)} {b:List Blk} {K:List PB→List Blk→Option R'},Rel F w μ b→handBlks ids0 ids b K=some r→
  ∃ pbs b3,K pbs b3=some r∧Sub b3 b∧Upd F w μ b w μ b3∧Rel F w μ b3∧pbs.length=ids.length∧(ids=[]→b3=b)∧∀ (j:Nat) (i:Nat × AM) (p:PB),ids[j]? = some i→pbs[j]? = some p→aliveAt b3 i.1=true→PBok F w μ b3 ids0 i p
 |[],b,K,R,h=>⟨[],b,h,.refl _,.refl R,R,rfl,fun _=>rfl,fun j i p hj _ _=>by simp at hj⟩
 |i :: rest,b,K,R,h=>by
  simp only [handBlks] at h
  split at h
  ·rename_i ver m sz xs hb
   rcases br_some h with ⟨_,h⟩ | ⟨hfx,h⟩
   ·cases h
   obtain ⟨pbs,b3,h,hs,U,R3,hl,_,hp⟩:=handBlks_sound R h
   refine ⟨_,b3,h,hs,U,R3,by simp [hl],by simp,fun j k p hj hpj ha=>?_⟩
   cases j with
   |zero=>
    simp at hj hpj;subst hj hpj
    obtain ⟨blk,hb3,hal⟩:=aliveAt_some ha
    have:=hs.at_ _ _ hb3 hal
    rw [hb] at this;cases this
    exact ⟨_,hb3,.inl ⟨m,sz,xs,rfl,rfl,fun hm=>by simpa [hm] using hfx⟩⟩
   |succ j=>exact hp j k p (by simpa using hj) (by simpa using hpj) ha
  ·rename_i ver cs hb
   have hbox:boxOf b i.1=some cs:=by simp [boxOf,hb]
   obtain ⟨ver',x,vs,e,_,hm,hw,har,_⟩:=R.box hbox
   obtain ⟨ys,b1,h,s1,U0,R0,hys⟩:=boxCells_sound R har h
   obtain ⟨pbs,b3,h,hs,U,R3,hl,_,hp⟩:=handBlks_sound R0 h
   refine ⟨_,b3,h,hs.trans s1,U0.trans U,R3,by simp [hl],by simp,fun j k p hj hpj ha=>?_⟩
   cases j with
   |zero=>
    simp at hj hpj;subst hj hpj
    obtain ⟨blk,hb3,hal⟩:=aliveAt_some ha
    have:=(hs.trans s1).at_ _ _ hb3 hal
    rw [hb] at this;cases this
    exact ⟨_,hb3,.inr ⟨cs,ys,rfl,rfl,x,vs,e,hm,hw,fun M hM=>hys M fun x hx=>(hM x hx).imp id fun ho=>hs.own ho⟩⟩
   |succ j=>exact hp j k p (by simpa using hj) (by simpa using hpj) ha
  ·cases h
theorem hsOf_at {ids:List (Nat × AM)} {j:Nat} {hd:Hd} (h:(hsOf μ ids)[j]? = some hd):∃ i,ids[j]? = some i∧hd=(μ[i.1]?).getD .none:=by
 unfold hsOf at h
 rw [List.getElem?_map] at h
 cases hi:ids[j]? with
 |none=>simp [hi] at h
 |some i=>simp [hi] at h;exact ⟨i,rfl,h.symm⟩
theorem nodup_inj:∀ {l:List (Nat × AM)} {j k:Nat} {i i':Nat × AM},(l.map (·.1)).Nodup→l[j]? = some i→l[k]? = some i'→i.1=i'.1→j=k
 |[],j,_,_,_,_,h,_,_=>by simp at h
 |x :: r,0,0,_,_,_,_,_,_=>rfl
 |x :: r,0,k + 1,i,i',n,h,h',e=>by
  simp at h h';subst h
  rw [List.map_cons,List.nodup_cons] at n
  exact (n.1 (List.mem_map.2 ⟨i',List.mem_of_getElem? h',e.symm⟩)).elim
 |x :: r,j + 1,0,i,i',n,h,h',e=>by
  simp at h h';subst h'
  rw [List.map_cons,List.nodup_cons] at n
  exact (n.1 (List.mem_map.2 ⟨i,List.mem_of_getElem? h,e⟩)).elim
 |x :: r,j + 1,k + 1,i,i',n,h,h',e=>by
  rw [List.map_cons,List.nodup_cons] at n
  have e:j=k:=nodup_inj n.2 (by simpa using h) (by simpa using h') e
  rw [e]
structure Hidden (F M:Nat→Prop) (μ:List Hd) (b:List Blk) (ids:List (Nat × AM)):Prop where
 low:∀ x,F x→M x
 up:∀ x,M x→Or F (Own μ b) x
 off:∀ (x:Nat) (i:Nat × AM) (h:Hd),M x→i ∈ ids→μ[i.1]? = some h→x ∉ h.own
theorem start_at {pbs:List PB} {j:Nat} {blk:Blk} (h:(pbs.map startBlk)[j]? = some blk):∃ p,pbs[j]? = some p∧blk=startBlk p:=by
 rw [List.getElem?_map] at h
 cases hp:pbs[j]? with
 |none=>simp [hp] at h
 |some p=>simp [hp] at h;exact ⟨p,rfl,h.symm⟩
theorem start_own {ids:List (Nat × AM)} {pbs:List PB} (hp:∀ (j:Nat) (i:Nat × AM) (p:PB),ids[j]? = some i→pbs[j]? = some p→PBok F w μ b ids i p) {x:Nat}
  (h:Own (hsOf μ ids) (pbs.map startBlk) x):∃ (j:Nat) (i:Nat × AM) (blk:Blk) (hd:Hd),ids[j]? = some i∧b[i.1]? = some blk∧alive blk.body=true∧μ[i.1]? = some hd∧x ∈ hd.own:=by
 obtain ⟨j,blk,hd,hb,ha,hm,ho⟩:=h
 obtain ⟨i,hi,rfl⟩:=hsOf_at hm
 obtain ⟨p,hpj,rfl⟩:=start_at hb
 obtain ⟨blk,hb3,hal⟩:=(hp j i p hi hpj).alive
 cases hmi:μ[i.1]? with
 |none=>simp [hmi,Hd.own] at ho
 |some h0=>simp [hmi] at ho;exact ⟨j,i,blk,h0,hi,hb3,hal,hmi,ho⟩
theorem HA1.rel {hs:List Hd} {bs:List Blk} (hv:∀ (j:Nat) (hd:Hd),hs[j]? = some hd→∃ blk,bs[j]? = some blk∧blk.ver=0) {x:AVal} {v:Value} (h:HA1 M w hs x v) (hM:∀ x,N x→M x):ARel N w hs bs x v:=by
 cases x with
 |v c=>exact CRel.keep (Keep.sub hM) h
 |lptr j o=>
  obtain ⟨rfl,x,hm,rfl⟩:=h
  exact ⟨x,hm,rfl⟩
 |lref j ver=>
  obtain ⟨rfl,base,len,cap,sz,rs,S,hm,rfl⟩:=h
  obtain ⟨blk,hb,h0⟩:=hv j _ hm
  exact ⟨rfl,blk,_,hb,hm,by simp,Nat.zero_le _,fun _ _=>rfl⟩
 |nl=>exact h
 |_=>exact h.elim
theorem HAs1.rel {fl:Bool} {hs:List Hd} {bs:List Blk} (hv:∀ (j:Nat) (hd:Hd),hs[j]? = some hd→∃ blk,bs[j]? = some blk∧blk.ver=0):∀ {l:List AVal} {vs:List Value},HAs1 fl M w hs l vs→(∀ x,N x→M x)→AsRel N w hs bs fl l vs
 |[],_,h,_=>h
 |x :: r,_,h,hM=>by
  obtain ⟨u,us,rfl,h1,hf,h2⟩:=h
  exact ⟨u,us,rfl,h1.rel hv hM,hf,HAs1.rel hv h2 hM⟩
theorem HA.rel {hs:List Hd} {bs:List Blk} (hv:∀ (j:Nat) (hd:Hd),hs[j]? = some hd→∃ blk,bs[j]? = some blk∧blk.ver=0) {x:AVal} {v:Value} (h:HA M w hs x v) (hM:∀ x,N x→M x) :
  ARel N w hs bs x v:=by
 cases x with
 |v c=>exact HA1.rel (x:=.v c) hv h hM
 |lptr j o=>exact HA1.rel (x:=.lptr j o) hv h hM
 |lref j ver=>exact HA1.rel (x:=.lref j ver) hv h hM
 |nl=>exact HA1.rel (x:=.nl) hv h hM
 |func g cs=>
  obtain ⟨vs,rfl,hc⟩:=h
  exact ⟨vs,rfl,hc.rel hv hM⟩
 |agg cs=>
  obtain ⟨vs,rfl,hc⟩:=h
  exact ⟨vs,rfl,hc.rel hv hM⟩
 |_=>exact h.elim
theorem HAs.rel {hs:List Hd} {bs:List Blk} (hv:∀ (j:Nat) (hd:Hd),hs[j]? = some hd→∃ blk,bs[j]? = some blk∧blk.ver=0):∀ {l:List AVal} {vs:List Value},HAs M w hs l vs→(∀ x,N x→M x)→
  AsRel N w hs bs false l vs
 |[],_,h,_=>h
 |x :: r,_,h,hM=>by
  obtain ⟨u,us,rfl,h1,h2⟩:=h
  exact ⟨u,us,rfl,h1.rel hv hM,by simp,HAs.rel hv h2 hM⟩
theorem start_ver {ids:List (Nat × AM)} {pbs:List PB} (hl:pbs.length=ids.length) (j:Nat) (hd:Hd) (hj:(hsOf μ ids)[j]? = some hd):∃ blk,(pbs.map startBlk)[j]? = some blk∧blk.ver=0:=by
 have hjl:j < pbs.length:=by
  have:=(List.getElem?_eq_some_iff.1 hj).1
  simp [hsOf] at this;omega
 refine ⟨startBlk pbs[j],by simp [hjl],?_⟩
 unfold startBlk
 cases pbs[j]<;>rfl
theorem callee_rel {ids:List (Nat × AM)} {pbs:List PB} (R:Rel F w μ b) (hn:(ids.map (·.1)).Nodup) (hl:pbs.length=ids.length)
  (hp:∀ (j:Nat) (i:Nat × AM) (p:PB),ids[j]? = some i→pbs[j]? = some p→PBok F w μ b ids i p) (H:Hidden F M μ b ids):Rel M w (hsOf μ ids) (pbs.map startBlk):=by
 have hM:∀ x,Or M (Own (hsOf μ ids) (pbs.map startBlk)) x→Or F (Own μ b) x:=by
  rintro x (hx | hx)
  ·exact H.up x hx
  ·obtain ⟨j,i,blk,hd,_,h1,h2,h3,h4⟩:=start_own hp hx
   exact .inr ⟨i.1,blk,hd,h1,h2,h3,h4⟩
 refine ⟨by simp [hsOf,hl],?_,?_,?_,?_,?_⟩
 ·intro j blk hd hb hm
  obtain ⟨i,hi,rfl⟩:=hsOf_at hm
  obtain ⟨p,hpj,rfl⟩:=start_at hb
  obtain ⟨blk,hb3,hor⟩:=hp j i p hi hpj
  have hil:i.1 < μ.length:=by rw [R.len];exact (List.getElem?_eq_some_iff.1 hb3).1
  have hmi:μ[i.1]? = some μ[i.1]:=List.getElem?_eq_getElem hil
  have hB:=R.blk i.1 blk _ hb3 hmi
  rw [hmi]
  rcases hor with ⟨m,sz,xs,rfl,e,hfx⟩ | ⟨cs,xs,rfl,e,x,vs,ee,hm',hw,hc⟩
  ·rw [e] at hB
   obtain ⟨base,cap,rs,S,h1,h2,h3⟩:=hB
   refine ⟨base,cap,rs,S,h1,h2,h3.imp id ?_⟩
   rintro ⟨x,cells,ee,h0,hb,hw,hrs,hz,hnd,he⟩
   refine ⟨x,cells,ee,h0,hb,hw,hrs,fun hf=>hz ?_,hnd,GEl.keep (Keep.sub hM) rfl (fun _ _=>rfl) he⟩
   simp only [decide_eq_false_iff_not] at hf
   cases hmf:m.fix with
   |false=>rfl
   |true=>exact absurd (hfx hmf) hf
  ·have hμ:μ[i.1]=.box x:=by rw [hm'] at hmi;exact (Option.some.inj hmi).symm
   exact ⟨x,vs,ee,hμ,hw,HAs1.rel (start_ver hl) (hc _ hM) fun _ h=>h⟩
 ·intro j k blk blk' hd hd' x hb hb' ha ha' hm hm' ho ho'
  obtain ⟨i,hi,rfl⟩:=hsOf_at hm
  obtain ⟨i',hi',rfl⟩:=hsOf_at hm'
  obtain ⟨p,hpj,rfl⟩:=start_at hb
  obtain ⟨p',hpj',rfl⟩:=start_at hb'
  obtain ⟨blk,hb3,hal⟩:=(hp j i p hi hpj).alive
  obtain ⟨blk',hb3',hal'⟩:=(hp k i' p' hi' hpj').alive
  have hil:i.1 < μ.length:=by rw [R.len];exact (List.getElem?_eq_some_iff.1 hb3).1
  have hil':i'.1 < μ.length:=by rw [R.len];exact (List.getElem?_eq_some_iff.1 hb3').1
  rw [List.getElem?_eq_getElem hil] at ho
  rw [List.getElem?_eq_getElem hil'] at ho'
  have:=R.inj i.1 i'.1 blk blk' _ _ x hb3 hb3' hal hal' (List.getElem?_eq_getElem hil) (List.getElem?_eq_getElem hil') ho ho'
  exact nodup_inj hn hi hi' this
 ·intro x hx
  obtain ⟨j,i,blk,hd,hi,h1,h2,h3,h4⟩:=start_own hp hx
  exact ⟨fun hm=>H.off x i hd hm (List.mem_of_getElem? hi) h3 h4,(R.fres x ⟨i.1,blk,hd,h1,h2,h3,h4⟩).2⟩
 ·refine R.fbk.toM (Nat.le_refl _) (fun _ _=>rfl) (fun x hx=>?_)
  rcases H.up x hx with h | h
  ·exact R.fb x h
  ·exact (R.fres x h).2
 ·intro x hx
  obtain ⟨j,i,blk,hd,hi,h1,h2,h3,h4⟩:=start_own hp hx
  exact R.oid x ⟨i.1,blk,hd,h1,h2,h3,h4⟩
def endCells:List (Option Nat)→List CVal→Nat→List AVal × List Blk
 |some sz :: o,.sl xs :: l,q=>(.lref q 0 :: (endCells o l (q + 1)).1,⟨0,.arr ⟨true,false,0⟩ sz xs⟩ :: (endCells o l (q + 1)).2)
 |none :: o,c :: l,q=>(.v c :: (endCells o l q).1,(endCells o l q).2)
 |_,_,_=>([],[])
def endB:PSh→List CVal→Nat→Blk × List Blk
 |.arr m gone sz,l,_=>(⟨0,cond gone .dead (.arr ⟨m.deep,m.fix,0⟩ sz l)⟩,[])
 |.box o,l,q=>(⟨0,.box (endCells o l q).1⟩,(endCells o l q).2)
def endM:List PSh→List (List CVal)→Nat→List Blk × List Blk
 |p :: ps,l :: ls,q=>((endB p l q).1 :: (endM ps ls (q + (endB p l q).2.length)).1,(endB p l q).2 ++ (endM ps ls (q + (endB p l q).2.length)).2)
 |_,_,_=>([],[])
def endS (ps:List PSh) (ls:List (List CVal)):List Blk:=(endM ps ls ps.length).1 ++ (endM ps ls ps.length).2
theorem endCells_ext:∀ {o:List (Option Nat)} {l:List CVal} {q q':Nat},(endCells o l q).2=(endCells o l q').2
 |[],_,_,_=>by simp [endCells]
 |none :: o,[],_,_=>by simp [endCells]
 |some sz :: o,[],_,_=>by simp [endCells]
 |none :: o,c :: l,q,q'=>by simp only [endCells];exact endCells_ext
 |some sz :: o,c :: l,q,q'=>by
  cases c<;>simp only [endCells]
  rw [endCells_ext (q:=q + 1) (q':=q' + 1)]
theorem endB_ext {p:PSh} {l:List CVal} {q q':Nat}:(endB p l q).2=(endB p l q').2:=by
 cases p with
 |arr m g sz=>rfl
 |box o=>exact endCells_ext
theorem endM_ext:∀ {ps:List PSh} {ls:List (List CVal)} {q q':Nat},(endM ps ls q).2=(endM ps ls q').2
 |[],_,_,_=>by simp [endM]
 |p :: ps,[],_,_=>by simp [endM]
 |p :: ps,l :: ls,q,q'=>by
  simp only [endM]
  rw [endB_ext (q:=q) (q':=q'),endM_ext (ps:=ps)]
theorem endM_len:∀ {ps:List PSh} {ls:List (List CVal)} {q:Nat},ps.length ≤ ls.length→(endM ps ls q).1.length=ps.length
 |[],_,_,_=>by simp [endM]
 |p :: ps,[],_,h=>by simp at h
 |p :: ps,l :: ls,q,h=>by
  simp only [endM,List.length_cons]
  rw [endM_len (by simpa using h)]
theorem backCells_sound:∀ {o:List (Option Nat)} {l:List CVal} {b:List Blk} {K:List AVal→List Blk→Option R'},backCells o l b K=some r→
  K (endCells o l b.length).1 (b ++ (endCells o l b.length).2)=some r
 |[],[],b,K,h=>by simpa [backCells,endCells] using h
 |[],_ :: _,b,K,h=>by simp [backCells] at h
 |none :: o,[],b,K,h=>by simp [backCells] at h
 |some sz :: o,[],b,K,h=>by simp [backCells] at h
 |none :: o,c :: l,b,K,h=>by
  simp only [backCells] at h
  have:=backCells_sound h
  simpa only [endCells] using this
 |some sz :: o,c :: l,b,K,h=>by
  simp only [backCells] at h
  obtain ⟨ys,hys,h⟩:=bind_some' h
  have hc:c=.sl ys:=by cases c<;>simp [CVal.asSl] at hys;rw [hys]
  rw [hc]
  have:=backCells_sound h
  simpa only [endCells,List.length_append,List.length_cons,List.length_nil,List.append_assoc,List.cons_append,List.nil_append] using this
theorem endCells_take:∀ {o:List (Option Nat)} {xs l:List CVal} {q:Nat},xs.length=o.length→(∀ (j:Nat) (x:CVal),xs[j]? = some x→l[0 + j]? = some x)→endCells o xs q=endCells o l q
 |[],_,_,_,_,_=>by simp [endCells]
 |_ :: _,[],_,_,h,_=>by simp at h
 |a :: o,x :: xs,l,q,h,hx=>by
  cases l with
  |nil=>have:=hx 0 x rfl;simp at this
  |cons y l=>
   have:=hx 0 x rfl
   simp at this;subst this
   have ih:∀ q,endCells o xs q=endCells o l q:=fun q=>endCells_take (by simpa using h) fun j z hz=>by
    have:=hx (j + 1) z (by simpa using hz)
    simpa [Nat.zero_add] using this
   cases a with
   |none=>simp only [endCells,ih]
   |some sz=>cases y<;>simp only [endCells,ih]
def backTo (am:AM) (blk:Blk) (l:List CVal):Blk:=
 match blk with
 |⟨ver,.arr m sz _⟩=>
  match am with
  |.back=>⟨ver + 1,.arr ⟨m.deep,m.fix,0⟩ sz l⟩
  |.fix=>⟨ver,.arr ⟨m.deep,m.fix,m.sv + 1⟩ sz l⟩
  |.gone=>⟨ver + 1,.dead⟩
 |blk=>blk
structure Back (ids:List (Nat × AM)) (ps:List PSh) (ls:List (List CVal)) (b b4:List Blk):Prop where
  len:b4.length=b.length + (endM ps ls b.length).2.length
  psl:ps.length=ids.length
  lsl:ids.length ≤ ls.length
  off:∀ i,i < b.length→i ∉ ids.map (·.1)→b4[i]? = b[i]?
  ext:∀ t,b4[b.length + t]? = (endM ps ls b.length).2[t]?
  at_:∀ (k:Nat) (i:Nat × AM),ids[k]? = some i→∃ (p:PSh) (l:List CVal) (t:Nat) (blk:Blk),ps[k]? = some p∧ls[k]? = some l∧(∀ q,(endM ps ls q).1[k]? = some (endB p l (q + t)).1)∧b[i.1]? = some blk∧
    ((∃ pm pg psz ver m sz xs,p=.arr pm pg psz∧blk=⟨ver,.arr m sz xs⟩∧b4[i.1]? = some (backTo i.2 blk l))∨
     (∃ o ver cs,p=.box o∧blk=⟨ver,.box cs⟩∧b4[i.1]? = some ⟨ver,.box (endCells o l (b.length + t)).1⟩))
theorem backBlks_sound:∀ {ids:List (Nat × AM)} {ps:List PSh} {ls:List (List CVal)} {b:List Blk} {K:List Blk→Option R'},(ids.map (·.1)).Nodup→(∀ i ∈ ids,i.1 < b.length)→backBlks ids ps ls b K=some r→
  ∃ b4,K b4=some r∧Back ids ps ls b b4
 |[],[],ls,b,K,n,_,h=>⟨b,by simpa [backBlks] using h,by simp [endM],rfl,by simp,fun _ _ _=>rfl,fun t=>by simp [endM],fun k i hk=>by simp at hk⟩
 |[],_ :: _,ls,b,K,n,_,h=>by simp [backBlks] at h
 |_ :: _,[],ls,b,K,n,_,h=>by simp [backBlks] at h
 |_ :: _,.arr _ _ _ :: _,[],b,K,n,_,h=>by simp [backBlks] at h
 |_ :: _,.box _ :: _,[],b,K,n,_,h=>by simp [backBlks] at h
 |i :: rest,p :: ps,l :: ls,b,K,n,hlt,h=>by
  rw [List.map_cons,List.nodup_cons] at n
  have hi:=hlt i (by simp)
  have next:∀ {blk0 blk':Blk},b[i.1]? = some blk0→backBlks rest ps ls ((b ++ (endB p l b.length).2).set i.1 blk') K=some r→
    ((∃ pm pg psz ver m sz xs,p=.arr pm pg psz∧blk0=⟨ver,.arr m sz xs⟩∧blk'=backTo i.2 blk0 l)∨(∃ o ver cs,p=.box o∧blk0=⟨ver,.box cs⟩∧blk'=⟨ver,.box (endCells o l b.length).1⟩))→
    ∃ b4,K b4=some r∧Back (i :: rest) (p :: ps) (l :: ls) b b4:=by
   intro blk0 blk' hb0 h hcase
   obtain ⟨b4,hK,B⟩:=backBlks_sound n.2 (fun k hk=>by simp;have:=hlt k (by simp [hk]);omega) h
   have hlen:((b ++ (endB p l b.length).2).set i.1 blk').length=b.length + (endB p l b.length).2.length:=by simp
   have hBl:=B.len
   have hBo:=B.off
   have hBe:=B.ext
   have hBa:=B.at_
   rw [hlen] at hBl hBo hBe hBa
   refine ⟨b4,hK,?_,by simp [B.psl],by simpa using B.lsl,fun k hk hne=>?_,fun t=>?_,fun k k' hk=>?_⟩
   ·rw [hBl];simp only [endM,List.length_append];omega
   ·simp only [List.map_cons,List.mem_cons,not_or] at hne
    rw [hBo k (by omega) hne.2,List.getElem?_set_ne (Ne.symm hne.1),List.getElem?_append_left hk]
   ·simp only [endM]
    by_cases ht:t < (endB p l b.length).2.length
    ·rw [List.getElem?_append_left ht,hBo (b.length + t) (by omega) (fun hm=>?_),List.getElem?_set_ne (by omega),List.getElem?_append_right (by omega)]
     ·congr 1;omega
     ·obtain ⟨k,hk,e⟩:=List.mem_map.1 hm
      have:=hlt k (by simp [hk]);omega
    ·rw [List.getElem?_append_right (by omega),← hBe]
     congr 1;omega
   ·cases k with
    |zero=>
     simp at hk;subst hk
     have hb4:b4[i.1]? = some blk':=by
      rw [hBo i.1 (by omega) n.1,List.getElem?_set_self (by simp;omega)]
     refine ⟨p,l,0,blk0,rfl,rfl,fun q=>by simp [endM],hb0,?_⟩
     rcases hcase with ⟨pm,pg,psz,ver,m,sz,xs,h1,h2,h3⟩ | ⟨o,ver,cs,h1,h2,h3⟩
     ·exact .inl ⟨pm,pg,psz,ver,m,sz,xs,h1,h2,by rw [hb4,h3]⟩
     ·exact .inr ⟨o,ver,cs,h1,h2,by rw [hb4,h3];rfl⟩
    |succ k=>
     have hk':rest[k]? = some k':=by simpa using hk
     obtain ⟨p',l',t,blk,h1,h2,h3,h4,h5⟩:=hBa k k' hk'
     have hne:i.1 ≠ k'.1:=fun e=>n.1 (List.mem_map.2 ⟨k',List.mem_of_getElem? hk',e.symm⟩)
     have hk'l:=hlt k' (List.mem_cons_of_mem _ (List.mem_of_getElem? hk'))
     rw [List.getElem?_set_ne hne,List.getElem?_append_left hk'l] at h4
     refine ⟨p',l',(endB p l b.length).2.length + t,blk,h1,h2,fun q=>?_,h4,?_⟩
     ·simp only [endM,List.getElem?_cons_succ]
      rw [h3,endB_ext (q:=q) (q':=b.length),Nat.add_assoc]
     ·refine h5.imp id ?_
      rintro ⟨o,ver,cs,g1,g2,g3⟩
      exact ⟨o,ver,cs,g1,g2,by rw [g3,Nat.add_assoc]⟩
  cases p with
  |arr pm pg psz=>
   simp only [backBlks] at h
   split at h
   ·rename_i ver m sz xs hb
    split at h
    ·rename_i ham
     exact next hb (by simpa [endB] using h) (.inl ⟨pm,pg,psz,ver,m,sz,xs,rfl,rfl,by simp [backTo,ham]⟩)
    ·rename_i ham
     exact next hb (by simpa [endB] using h) (.inl ⟨pm,pg,psz,ver,m,sz,xs,rfl,rfl,by simp [backTo,ham]⟩)
    ·rename_i ham
     exact next hb (by simpa [endB] using h) (.inl ⟨pm,pg,psz,ver,m,sz,xs,rfl,rfl,by simp [backTo,ham]⟩)
   ·cases h
  |box o=>
   simp only [backBlks] at h
   split at h
   ·rename_i ver cs hb
    obtain ⟨xs,h2,hxl,hx⟩:=explodeL_eq h
    have h3:=backCells_sound h2
    rw [endCells_take hxl hx] at h3
    exact next hb h3 (.inr ⟨o,ver,cs,rfl,rfl,rfl⟩)
   ·cases h
end
end Go.Proofs.Ytognghbhdalckaa.Abs
namespace Go.Proofs.Ytognghbhdalckaa.Abs
open Go
variable [Glob]
section
variable {P:Program} {w:World} {F N M:Nat→Prop} {μ:List Hd} {b:List Blk} {R':Type} {r:R'}
structure FnPost (P:Program) (rm:Option Nat) (ow:Option (List TypeId)) (F:Nat→Prop) (w:World) (μ:List Hd) (pbs:List PB) (ret:Ret) (w':World) (μ':List Hd) (S:List Nat) (v:Value):Prop where
 rel:Rel (FS F S) w' μ' (endS (pbs.map (PB.sh pbs)) ret.2)
 len:ret.2.length=pbs.length
 box:∀ (j:Nat) (x:Nat),μ[j]? = some (.box x)→μ'[j]? = some (.box x)
 fix:∀ (j:Nat) (m:Md) (sz:Nat) (xs:List CVal) (h:Hd),pbs[j]? = some (.arr m false sz xs)→m.fix=true→μ[j]? = some h→∃ h',μ'[j]? = some h'∧h'.head=h.head
 own:∀ x,Own μ' (endS (pbs.map (PB.sh pbs)) ret.2) x→x < w'.heap.size∧(w.heap.size ≤ x∨Own μ (pbs.map startBlk) x)
 nodup:S.Nodup
 res:∀ x ∈ S,x < w'.heap.size∧¬ F x∧¬ Glob.ids x∧(w.heap.size ≤ x∨Own μ (pbs.map startBlk) x)
 fr:Fr (Own μ (pbs.map startBlk)) w w'
 val:match ow with
  |some ts=>DR P (Or (FS F S) (Own μ' (endS (pbs.map (PB.sh pbs)) ret.2))) w' ts S ret.1 v
  |none=>S=[]∧match rm with
   |none=>CRel (Or F (Own μ' (endS (pbs.map (PB.sh pbs)) ret.2))) w' ret.1 v
   |some j=>∃ (h:Hd) (m:Md) (sz:Nat) (xs:List CVal),μ'[j]? = some h∧pbs[j]? = some (.arr m false sz xs)∧v=h.val
def Invokes (P:Program) (g:FuncId) (vs:List Value) (w:World) (post:Value→World→Prop):Prop:=
 ∀ (o:Oper) (a:Act) (next:Act→World→Prop) (Q:Exit→Act→World→Prop),(execOp a.eval o).run P w=(callFunc g vs.toArray).run P w→
  (∀ v w',post v w'→next (a.put o.dst v) w')→o.wp P a w next Q
def FnOk (P:Program) (rm:Option Nat) (ow:Option (List TypeId)) (g:FuncId) (args:List AVal) (pbs:List PB) (ret:Ret):Prop:=
 ∀ (F:Nat→Prop) (w:World) (μ:List Hd) (vs:List Value),Rel F w μ (pbs.map startBlk)→AsRel (Or F (Own μ (pbs.map startBlk))) w μ (pbs.map startBlk) false args vs→
  Invokes P g vs w fun v w'=>∃ μ' S,FnPost P rm ow F w μ pbs ret w' μ' S v
def COk (E:Env) (C:CallT):Prop:=(∀ g args pbs ret,g ≠ apId→(match E.prim g with | some p=>p args pbs | none=>C g args pbs)=some ret→FnOk E.P (E.rm g) (E.ow g) g args pbs ret)∧
 ∀ c cs ret,C apId (.v c :: cs.map .v) []=some ret→∃ g caps,g ≠ apId∧c=.func g caps∧E.rm g=none∧E.ow g=none∧FnOk E.P none none g ((cs ++ caps).map .v) [] ret
def backHs (μ:List Hd) (ids:List (Nat × AM)) (hs:List Hd):List Hd:=((List.range μ.length).map fun i=>match idxOf ids i with
 |some j=>(match ids[j]? with | some (_,.gone)=>(μ[i]?).getD .none | _=>(hs[j]?).getD .none)
 |none=>(μ[i]?).getD .none) ++ hs.drop ids.length
theorem idxOf_at:∀ {ids:List (Nat × AM)} {i:Nat × AM} {j:Nat},(ids.map (·.1)).Nodup→ids[j]? = some i→idxOf ids i.1=some j
 |[],_,j,_,h=>by simp at h
 |k :: r,i,0,n,h=>by simp at h;subst h;simp [idxOf,br]
 |k :: r,i,j + 1,n,h=>by
  have h':r[j]? = some i:=by simpa using h
  rw [List.map_cons,List.nodup_cons] at n
  have hne:(k.1 == i.1)=false:=by
   simp only [beq_eq_false_iff_ne]
   intro e
   exact n.1 (List.mem_map.2 ⟨i,List.mem_of_getElem? h',e.symm⟩)
  simp [idxOf,hne,br,idxOf_at n.2 h']
theorem idxOf_no:∀ {ids:List (Nat × AM)} {i:Nat},i ∉ ids.map (·.1)→idxOf ids i=none
 |[],_,_=>rfl
 |k :: r,i,h=>by
  simp only [List.map_cons,List.mem_cons,not_or] at h
  have hne:(k.1 == i)=false:=by
   simp only [beq_eq_false_iff_ne];exact fun e=>h.1 e.symm
  simp [idxOf,hne,br,idxOf_no h.2]
theorem backHs_len {ids:List (Nat × AM)} {hs:List Hd}:(backHs μ ids hs).length=μ.length + (hs.length - ids.length):=by simp [backHs]
theorem backHs_old {ids:List (Nat × AM)} {hs:List Hd} {i:Nat} (hi:i < μ.length):(backHs μ ids hs)[i]? = some (match idxOf ids i with
 |some j=>(match ids[j]? with | some (_,.gone)=>(μ[i]?).getD .none | _=>(hs[j]?).getD .none)
 |none=>(μ[i]?).getD .none):=by
 unfold backHs
 rw [List.getElem?_append_left (by simpa using hi),List.getElem?_map]
 simp [hi]
theorem backHs_off {ids:List (Nat × AM)} {hs:List Hd} {i:Nat} (hi:i < μ.length) (h:i ∉ ids.map (·.1)):(backHs μ ids hs)[i]? = μ[i]?:=by
 rw [backHs_old hi,idxOf_no h]
 simp [hi]
theorem backHs_gone {ids:List (Nat × AM)} {hs:List Hd} {i:Nat × AM} {j:Nat} (n:(ids.map (·.1)).Nodup) (hi:i.1 < μ.length) (hj:ids[j]? = some i) (hg:i.2=.gone):(backHs μ ids hs)[i.1]? = μ[i.1]?:=by
 rw [backHs_old hi,idxOf_at n hj]
 obtain ⟨i,am⟩:=i
 cases hg
 simp only [hj]
 simp only at hi
 simp [hi]
theorem backHs_at {ids:List (Nat × AM)} {hs:List Hd} {i:Nat × AM} {j:Nat} {h:Hd} (n:(ids.map (·.1)).Nodup) (hi:i.1 < μ.length) (hj:ids[j]? = some i) (hg:i.2 ≠ .gone) (hh:hs[j]? = some h):(backHs μ ids hs)[i.1]? = some h:=by
 rw [backHs_old hi,idxOf_at n hj]
 obtain ⟨i,am⟩:=i
 simp only [hj,hh]
 cases am with
 |gone=>exact absurd rfl hg
 |_=>rfl
theorem backHs_ext {ids:List (Nat × AM)} {hs:List Hd} (t:Nat):(backHs μ ids hs)[μ.length + t]? = hs[ids.length + t]?:=by
 unfold backHs
 rw [List.getElem?_append_right (by simp)]
 simp
theorem scalar_rel {N N':Nat→Prop} {w:World} {c:CVal} {v:Value} (hs:scalar c=true) (h:CRel N w c v):CRel N' w c v:=by
 cases c<;>first | exact h | simp [scalar] at hs
theorem endCells_arr:∀ {o:List (Option Nat)} {l:List CVal} {q t:Nat} {blk:Blk},(endCells o l q).2[t]? = some blk→∃ sz xs,blk=⟨0,.arr ⟨true,false,0⟩ sz xs⟩
 |[],_,_,_,_,h=>by simp [endCells] at h
 |none :: o,[],_,_,_,h=>by simp [endCells] at h
 |some sz :: o,[],_,_,_,h=>by simp [endCells] at h
 |none :: o,c :: l,_,_,_,h=>by simp only [endCells] at h;exact endCells_arr h
 |some sz :: o,c :: l,q,t,blk,h=>by
  cases c with
  |sl xs=>
   simp only [endCells] at h
   cases t with
   |zero=>simp at h;exact ⟨sz,xs,h.symm⟩
   |succ t=>exact endCells_arr (t:=t) (by simpa using h)
  |_=>simp [endCells] at h
theorem endM_arr:∀ {ps:List PSh} {ls:List (List CVal)} {q t:Nat} {blk:Blk},(endM ps ls q).2[t]? = some blk→∃ sz xs,blk=⟨0,.arr ⟨true,false,0⟩ sz xs⟩
 |[],_,_,_,_,h=>by simp [endM] at h
 |p :: ps,[],_,_,_,h=>by simp [endM] at h
 |p :: ps,l :: ls,q,t,blk,h=>by
  simp only [endM,List.getElem?_append] at h
  split at h
  ·cases p with
   |arr m g sz=>simp [endB] at h
   |box o=>exact endCells_arr h
  ·exact endM_arr h
theorem shift_cells {N1 N2:Nat→Prop} {μ1 μ2:List Hd} {b1 b2:List Blk} {q q':Nat} (hK:Keep N1 N2 w w) (hb:∀ t,b1[q + t]? = b2[q' + t]?) (hμ:∀ t,μ1[q + t]? = μ2[q' + t]?) :
  ∀ {o:List (Option Nat)} {l:List CVal} {t:Nat} {vs:List Value},AsRel N1 w μ1 b1 true (endCells o l (q + t)).1 vs→AsRel N2 w μ2 b2 true (endCells o l (q' + t)).1 vs
 |[],_,_,_,h=>by simpa [endCells,AsRel] using h
 |none :: o,[],_,_,h=>by simpa [endCells,AsRel] using h
 |some sz :: o,[],_,_,h=>by simpa [endCells,AsRel] using h
 |none :: o,c :: l,t,vs,h=>by
  simp only [endCells] at h ⊢
  obtain ⟨u,us,rfl,hc,hf,h⟩:=h
  exact ⟨u,us,rfl,CRel.keep hK hc,hf,shift_cells hK hb hμ h⟩
 |some sz :: o,c :: l,t,vs,h=>by
  cases c with
  |sl xs=>
   simp only [endCells] at h ⊢
   obtain ⟨u,us,rfl,⟨hfl,blk,hd,hb1,hm1,hn,hle,hcur⟩,hf,h⟩:=h
   rw [hb] at hb1;rw [hμ] at hm1
   rw [Nat.add_assoc] at h ⊢
   exact ⟨u,us,rfl,⟨hfl,blk,hd,hb1,hm1,hn,hle,hcur⟩,hf,shift_cells hK hb hμ h⟩
  |_=>simpa [endCells,AsRel] using h
section
variable {ids:List (Nat × AM)} {pbs:List PB} {ret:Ret} {b4:List Blk} {hs':List Hd} {w':World} {rm:Option Nat} {ow:Option (List TypeId)} {S:List Nat} {v:Value}
structure Bk (P:Program) (rm:Option Nat) (ow:Option (List TypeId)) (F M:Nat→Prop) (w:World) (μ:List Hd) (b:List Blk) (ids:List (Nat × AM)) (pbs:List PB) (ret:Ret) (b4:List Blk) (w':World) (hs':List Hd) (S:List Nat) (v:Value):Prop where
 R:Rel F w μ b
 hn:(ids.map (·.1)).Nodup
 hlen:pbs.length=ids.length
 hpb:∀ (j:Nat) (i:Nat × AM) (p:PB),ids[j]? = some i→pbs[j]? = some p→PBok F w μ b ids i p
 B:Back ids (pbs.map (PB.sh pbs)) ret.2 b b4
 H:Hidden F M μ b ids
 p:FnPost P rm ow M w (hsOf μ ids) pbs ret w' hs' S v
theorem Bk.esl (k:Bk P rm ow F M w μ b ids pbs ret b4 w' hs' S v):hs'.length=ids.length + (endM (pbs.map (PB.sh pbs)) ret.2 b.length).2.length:=by
 rw [k.p.rel.len]
 unfold endS
 rw [List.length_append,endM_len (by simp [k.p.len]),endM_ext (q':=b.length)]
 simp [k.hlen]
theorem Bk.ext (k:Bk P rm ow F M w μ b ids pbs ret b4 w' hs' S v) (t:Nat):(endS (pbs.map (PB.sh pbs)) ret.2)[ids.length + t]? = b4[b.length + t]?:=by
 rw [k.B.ext]
 unfold endS
 have hl:(endM (pbs.map (PB.sh pbs)) ret.2 (pbs.map (PB.sh pbs)).length).1.length=ids.length:=by
  rw [endM_len (by simp [k.p.len])];simp [k.hlen]
 rw [List.getElem?_append_right (by omega),hl,endM_ext (q':=b.length)]
 congr 1;omega
theorem Bk.extμ (k:Bk P rm ow F M w μ b ids pbs ret b4 w' hs' S v) (t:Nat):hs'[ids.length + t]? = (backHs μ ids hs')[b.length + t]?:=by
 rw [← k.R.len,backHs_ext]
theorem Bk.at_ (k:Bk P rm ow F M w μ b ids pbs ret b4 w' hs' S v) {j:Nat} {i:Nat × AM} (hj:ids[j]? = some i) :
  (∃ ver m sz xs l,b[i.1]? = some ⟨ver,.arr m sz xs⟩∧b4[i.1]? = some (backTo i.2 ⟨ver,.arr m sz xs⟩ l)∧(endS (pbs.map (PB.sh pbs)) ret.2)[j]? = some ⟨0,cond (decide (i.2=.gone)) .dead (.arr ⟨m.deep,decide (i.2=.fix),0⟩ sz l)⟩∧
   (m.fix=true→i.2=.fix)∧pbs[j]? = some (.arr ⟨m.deep,decide (i.2=.fix),0⟩ (decide (i.2=.gone)) sz xs))∨
  (∃ ver cs o l t x,b[i.1]? = some ⟨ver,.box cs⟩∧b4[i.1]? = some ⟨ver,.box (endCells o l (b.length + t)).1⟩∧(endS (pbs.map (PB.sh pbs)) ret.2)[j]? = some ⟨0,.box (endCells o l (ids.length + t)).1⟩∧μ[i.1]? = some (.box x)):=by
 obtain ⟨p,l,t,blk,hp,hl,hq,hb,hor⟩:=k.B.at_ j i hj
 have hjl:j < pbs.length:=by rw [k.hlen];exact (List.getElem?_eq_some_iff.1 hj).1
 have hpj:pbs[j]? = some pbs[j]:=List.getElem?_eq_getElem hjl
 rw [List.getElem?_map,hpj] at hp
 simp only [Option.map_some,Option.some.injEq] at hp
 have hes:(endS (pbs.map (PB.sh pbs)) ret.2)[j]? = some (endB p l (ids.length + t)).1:=by
  unfold endS
  rw [List.getElem?_append_left (by rw [endM_len (by simp [k.p.len])];simpa using hjl),hq]
  simp [k.hlen]
 obtain ⟨blk',hb',hpp⟩:=k.hpb j i _ hj hpj
 rw [hb] at hb';cases hb'
 rcases hpp with ⟨m,sz,xs,e1,e2,hfx⟩ | ⟨cs,ys,e1,e2,x,vs,e,hmx,_⟩
 ·rw [e1] at hp
  subst hp
  rcases hor with ⟨pm,pg,psz,ver,m',sz',xs',g1,g2,g3⟩ | ⟨o,ver,cs,g1,_,_⟩
  ·subst g2
   simp only [Body.arr.injEq] at e2
   obtain ⟨rfl,rfl,rfl⟩:=e2
   exact .inl ⟨ver,m',sz',xs',l,hb,g3,hes,hfx,by rw [hpj,e1]⟩
  ·simp [PB.sh] at g1
 ·rw [e1] at hp
  subst hp
  rcases hor with ⟨pm,pg,psz,ver,m',sz',xs',g1,_,_⟩ | ⟨o,ver,cs',g1,g2,g3⟩
  ·simp [PB.sh] at g1
  ·subst g2
   simp only [PB.sh,PSh.box.injEq] at g1
   refine .inr ⟨ver,cs',o,l,t,x,hb,g3,?_,hmx⟩
   rw [hes,← g1];rfl
def Bk.pos (b:List Blk) (ids:List (Nat × AM)) (i e:Nat):Prop:=(∃ am,ids[e]? = some (i,am))∨(b.length ≤ i∧e=ids.length + (i - b.length))
theorem Bk.pos_inj (k:Bk P rm ow F M w μ b ids pbs ret b4 w' hs' S v) {i i' e:Nat} (h:Bk.pos b ids i e) (h':Bk.pos b ids i' e):i=i':=by
 rcases h with ⟨am,h⟩ | ⟨h1,h2⟩<;>rcases h' with ⟨am',h'⟩ | ⟨h1',h2'⟩
 ·rw [h] at h';cases h';rfl
 ·have:=(List.getElem?_eq_some_iff.1 h).1;omega
 ·have:=(List.getElem?_eq_some_iff.1 h').1;omega
 ·omega
theorem Bk.get (k:Bk P rm ow F M w μ b ids pbs ret b4 w' hs' S v) {i:Nat} {blk:Blk} {h:Hd} (hC:i ∈ ids.map (·.1)∨b.length ≤ i) (hb:b4[i]? = some blk) (hm:(backHs μ ids hs')[i]? = some h) (ha:alive blk.body=true) :
  ∃ e eb,Bk.pos b ids i e∧(endS (pbs.map (PB.sh pbs)) ret.2)[e]? = some eb∧hs'[e]? = some h∧alive eb.body=true∧
   ((∀ x,Or (FS F S) (Own (backHs μ ids hs') b4) x→Or (FS M S) (Own hs' (endS (pbs.map (PB.sh pbs)) ret.2)) x)→BRel (Or (FS F S) (Own (backHs μ ids hs') b4)) w' (backHs μ ids hs') b4 h blk.body):=by
 rcases hC with hC | hC
 ·obtain ⟨⟨i',am⟩,hmem,rfl⟩:=List.mem_map.1 hC
  obtain ⟨j,hj⟩:=List.mem_iff_getElem?.1 hmem
  have hjl:j < hs'.length:=by rw [k.esl];have:=(List.getElem?_eq_some_iff.1 hj).1;omega
  have hhs:=List.getElem?_eq_getElem hjl
  rcases k.at_ hj with ⟨ver,m,sz,xs,l,h1,h2,h3,hfx,hpj⟩ | ⟨ver,cs,o,l,t,x,h1,h2,h3,_⟩
  ·have hil:i' < μ.length:=by rw [k.R.len];exact (List.getElem?_eq_some_iff.1 h1).1
   rw [hb] at h2
   have hng:am ≠ .gone:=by
    rintro rfl
    simp only [backTo,Option.some.injEq] at h2
    rw [h2] at ha;cases ha
   have hm2:=backHs_at k.hn hil hj hng hhs
   rw [hm] at hm2;cases hm2
   simp only [hng,decide_false,cond_false] at h3
   refine ⟨j,_,.inl ⟨am,hj⟩,h3,hhs,rfl,fun sub=>?_⟩
   obtain ⟨base,cap,rs,S',g1,g2,g3⟩:=k.p.rel.blk j _ _ h3 hhs
   have hbody:∃ m',blk.body=.arr m' sz l∧m'.deep=m.deep∧m'.fix=m.fix:=by
    simp only [Option.some.injEq] at h2
    subst h2
    cases am with
    |gone=>exact absurd rfl hng
    |back=>exact ⟨_,rfl,rfl,rfl⟩
    |fix=>exact ⟨_,rfl,rfl,rfl⟩
   obtain ⟨m',hbd,hmd,hmf⟩:=hbody
   rw [hbd]
   refine ⟨base,cap,rs,S',g1,g2,g3.imp id ?_⟩
   rintro ⟨x,cells,e,q0,q1,q2,q3,q4,q5,q6⟩
   refine ⟨x,cells,e,q0,q1,q2,q3,fun hf=>?_,q5,by rw [hmd];exact GEl.keep (Keep.sub sub) rfl (fun _ _=>rfl) q6⟩
   rw [hmf] at hf
   by_cases ham:am=.fix
   ·
    subst ham
    have hpj':pbs[j]? = some (.arr ⟨m.deep,true,0⟩ false sz xs):=by simpa using hpj
    obtain ⟨base0,cap0,rs0,S0,f1,f2,f3⟩:=k.R.blk i' _ _ h1 (List.getElem?_eq_getElem hil)
    have hst:(hsOf μ ids)[j]? = some μ[i']:=by simpa using hs_at (e:=[]) hj (List.getElem?_eq_getElem hil)
    obtain ⟨hh,e1,e2⟩:=k.p.fix j _ _ _ _ hpj' rfl hst
    rw [hhs] at e1;cases e1
    rw [g1,f1] at e2
    simp only [Hd.head,Hd.arr.injEq] at e2
    obtain ⟨_,_,ecap,_,ers,_⟩:=e2
    rcases f3 with ⟨z,_⟩ | ⟨_,_,_,_,_,_,_,z,_⟩
    ·omega
    ·rw [ecap,ers];exact z hf
   ·exact q4 (by simpa using ham)
  ·have hil:i' < μ.length:=by rw [k.R.len];exact (List.getElem?_eq_some_iff.1 h1).1
   rw [hb] at h2;cases h2
   obtain ⟨xa,vs,e,g1,g2,g3⟩:=k.p.rel.blk j _ _ h3 hhs
   by_cases hg:am=.gone
   ·have hm2:=backHs_gone (hs:=hs') k.hn hil hj hg
    have hx1:h=.box x:=by
     have:some h=some (.box x):=by rw [← hm,hm2];assumption
     exact Option.some.inj this
    have hx2:=k.p.box j x (by simpa using hs_at (e:=[]) hj (by assumption))
    rw [hhs] at hx2
    have hx2:=Option.some.inj hx2
    rw [hx2] at g1
    exact ⟨j,_,.inl ⟨am,hj⟩,h3,by rw [hhs,hx2,hx1],rfl,fun sub=>⟨xa,vs,e,by rw [hx1];exact g1,g2,shift_cells (Keep.sub sub) k.ext k.extμ g3⟩⟩
   ·have hm2:=backHs_at k.hn hil hj hg hhs
    rw [hm] at hm2;cases hm2
    exact ⟨j,_,.inl ⟨am,hj⟩,h3,hhs,rfl,fun sub=>⟨xa,vs,e,g1,g2,shift_cells (Keep.sub sub) k.ext k.extμ g3⟩⟩
 ·obtain ⟨t,rfl⟩:=Nat.exists_eq_add_of_le hC
  have h3:=k.ext t
  rw [hb] at h3
  have hhs:=k.extμ t
  rw [hm] at hhs
  refine ⟨ids.length + t,blk,.inr ⟨hC,by omega⟩,h3,hhs,ha,fun sub=>?_⟩
  have hB:=k.p.rel.blk _ _ _ h3 hhs
  have hbe:=k.B.ext t
  rw [hb] at hbe
  obtain ⟨sz,xs,rfl⟩:=endM_arr hbe.symm
  obtain ⟨base,cap,rs,S',g1,g2,g3⟩:=hB
  refine ⟨base,cap,rs,S',g1,g2,g3.imp id ?_⟩
  rintro ⟨x,cells,e,q0,q1,q2,q3,q4,q5,q6⟩
  exact ⟨x,cells,e,q0,q1,q2,q3,q4,q5,GEl.keep (Keep.sub sub) rfl (fun _ _=>rfl) q6⟩
theorem Bk.tr (k:Bk P rm ow F M w μ b ids pbs ret b4 w' hs' S v):Tr F (FS F S) w μ b w' (backHs μ ids hs') b4 fun i=>i ∈ ids.map (·.1)∨b.length ≤ i:=by
 have R:=k.R
 have p:=k.p
 have sown:∀ x,Own (hsOf μ ids) (pbs.map startBlk) x→∃ (j:Nat) (blk:Blk) (h:Hd),(j ∈ ids.map (·.1)∨b.length ≤ j)∧b[j]? = some blk∧μ[j]? = some h∧alive blk.body=true∧x ∈ h.own:=fun x hx=>by
  obtain ⟨j,i,blk,hd,hj,h1,h2,h3,h4⟩:=start_own k.hpb hx
  exact ⟨i.1,blk,hd,.inl (List.mem_map.2 ⟨i,List.mem_of_getElem? hj,rfl⟩),h1,h3,h2,h4⟩
 have hlen:(backHs μ ids hs').length=b4.length:=by
  rw [backHs_len,k.esl,k.B.len,R.len];omega
 refine ⟨R,hlen,by rw [k.B.len];omega,?_,?_,p.fr.size,?_,?_,?_,?_⟩
 ·intro i hi hC
  have h1:i ∉ ids.map (·.1):=fun h=>hC (.inl h)
  have h2:i < b.length:=Nat.lt_of_not_le fun h=>hC (.inr h)
  exact ⟨k.B.off i h2 h1,backHs_off (by rw [R.len];exact h2) h1⟩
 ·intro i blk h hC hb hm
  have hil:=(List.getElem?_eq_some_iff.1 hb).1
  have hC:i ∈ ids.map (·.1):=hC.resolve_right (by omega)
  obtain ⟨⟨i',am⟩,hmem,rfl⟩:=List.mem_map.1 hC
  obtain ⟨j,hj⟩:=List.mem_iff_getElem?.1 hmem
  have hjl:j < hs'.length:=by rw [k.esl];have:=(List.getElem?_eq_some_iff.1 hj).1;omega
  have hhs:=List.getElem?_eq_getElem hjl
  have hiμ:i' < μ.length:=(List.getElem?_eq_some_iff.1 hm).1
  have hst:(hsOf μ ids)[j]? = some h:=by simpa using hs_at (e:=[]) hj hm
  rcases k.at_ hj with ⟨ver,m,sz,xs,l,h1,h2,h3,hfx,hpj⟩ | ⟨ver,cs,o,l,t,x,h1,h2,h3,h4⟩
  ·rw [hb] at h1;cases h1
   obtain ⟨base0,cap0,rs0,S0,f1,_⟩:=R.blk i' _ _ hb hm
   have hnb:∀ x,h=.box x→False:=fun x e=>by rw [e] at f1;cases f1
   cases am with
   |gone=>
    refine ⟨_,h,h2,by rw [backHs_gone k.hn hiμ hj rfl];exact hm,Nat.le_succ _,id,fun _ h=>h,fun he=>?_,(fun h=>by cases h),fun _=>⟨rfl,fun h=>by cases h⟩,fun he=>?_⟩
    ·exact absurd he (by simp [backTo])
    ·exact absurd he (by simp [backTo])
   |back=>
    have hm2:=backHs_at k.hn hiμ hj (by simp) hhs
    obtain ⟨base,cap,rs,S',g1,_⟩:=p.rel.blk j _ _ h3 hhs
    refine ⟨_,_,h2,hm2,Nat.le_succ _,fun _ e=>(by rw [g1] at e;cases e),fun x e=>(hnb x e).elim,fun he=>?_,(fun h=>by cases h),fun hf=>?_,fun he=>?_⟩
    ·exact absurd he (by simp [backTo])
    ·have:=hfx hf;cases this
    ·exact absurd he (by simp [backTo])
   |fix=>
    have hm2:=backHs_at k.hn hiμ hj (by simp) hhs
    obtain ⟨base,cap,rs,S',g1,_⟩:=p.rel.blk j _ _ h3 hhs
    have hpj':pbs[j]? = some (.arr ⟨m.deep,true,0⟩ false sz xs):=by simpa using hpj
    obtain ⟨hh,e1,e2⟩:=p.fix j _ _ _ _ hpj' rfl hst
    rw [hhs] at e1;cases e1
    refine ⟨_,_,h2,hm2,Nat.le_refl _,fun _ e=>(by rw [g1] at e;cases e),fun x e=>(hnb x e).elim,fun _ _ _=>⟨rfl,e2⟩,(fun h=>by cases h),fun hf=>⟨e2,fun _=>hf⟩,fun _ m' sz' xs' hcont _=>?_⟩
    simp only [backTo,cont,Option.some.injEq,Prod.mk.injEq] at hcont
    obtain ⟨rfl,rfl,rfl⟩:=hcont
    exact ⟨m,xs,rfl,Nat.le_succ _,fun h=>absurd h (by simp)⟩
  ·rw [hb] at h1;cases h1
   rw [hm] at h4
   have h4:=Option.some.inj h4
   have hx2:=p.box j x (by rw [hst,h4])
   have hm4:(backHs μ ids hs')[i']? = some (.box x):=by
    by_cases hg:am=.gone
    ·rw [backHs_gone k.hn hiμ hj hg,hm,h4]
    ·exact backHs_at k.hn hiμ hj hg hx2
   refine ⟨_,_,h2,hm4,Nat.le_refl _,fun _ e=>(by cases e),fun y e=>by rw [← e,h4],fun _ h=>(by cases h),(fun h=>by cases h),fun h=>(by cases h),fun _ m' sz' xs' hcont _=>by cases hcont⟩
 ·rintro x (hx | hx)
  ·exact ⟨Nat.lt_of_lt_of_le (R.fb x hx) p.fr.size,.inl hx⟩
  ·obtain ⟨h1,h2,h3,h4⟩:=p.res x hx
   exact ⟨h1,.inr (h4.imp id (sown x))⟩
 ·intro i blk' h' x hC hb hm ha ho
  obtain ⟨e,eb,hpos,he,hh,hal,_⟩:=k.get hC hb hm ha
  have hx:Own hs' (endS (pbs.map (PB.sh pbs)) ret.2) x:=⟨e,eb,h',he,hal,hh,ho⟩
  obtain ⟨h1,h2⟩:=p.own x hx
  have h3:=(p.rel.fres x hx).1
  exact ⟨fun hg=>h3 (hg.imp (k.H.low x) id),h1,h2.imp id fun h=>.inl (sown x h)⟩
 ·intro i j blk blk' h h' x hC hC' hb hb' ha ha' hm hm' ho ho'
  obtain ⟨e,eb,hpos,he,hh,hal,_⟩:=k.get hC hb hm ha
  obtain ⟨e',eb',hpos',he',hh',hal',_⟩:=k.get hC' hb' hm' ha'
  have:=p.rel.inj e e' eb eb' h h' x he he' hal hal' hh hh' ho ho'
  subst this
  exact k.pos_inj hpos hpos'
 ·intro x hx hn
  refine p.fr.block x hx fun h=>?_
  obtain ⟨j,blk,hd,hC,h1,h2,h3,h4⟩:=sown x h
  exact hn j blk hd hC h1 h2 h3 h4
theorem Bk.sub (k:Bk P rm ow F M w μ b ids pbs ret b4 w' hs' S v) (hfull:∀ x,Or F (Own μ b) x→(∀ (i:Nat × AM) (h:Hd),i ∈ ids→μ[i.1]? = some h→x ∉ h.own)→M x) :
  ∀ x,Or (FS F S) (Own (backHs μ ids hs') b4) x→Or (FS M S) (Own hs' (endS (pbs.map (PB.sh pbs)) ret.2)) x:=by
 rintro x ((hx | hx) | hx)
 ·exact .inl (.inl (k.H.low x hx))
 ·exact .inl (.inr hx)
 ·obtain ⟨i,blk,h,hb,ha,hm,ho⟩:=hx
  by_cases hC:i ∈ ids.map (·.1)∨b.length ≤ i
  ·obtain ⟨e,eb,hpos,he,hh,hal,_⟩:=k.get hC hb hm ha
   exact .inr ⟨e,eb,h,he,hal,hh,ho⟩
  ·have h1:i ∉ ids.map (·.1):=fun h=>hC (.inl h)
   have h2:i < b.length:=Nat.lt_of_not_le fun h=>hC (.inr h)
   rw [k.B.off i h2 h1] at hb
   rw [backHs_off (by rw [k.R.len];exact h2) h1] at hm
   refine .inl (.inl (hfull x (.inr ⟨i,blk,h,hb,ha,hm,ho⟩) fun i' h' hi' hm' ho'=>?_))
   obtain ⟨j,hj⟩:=List.mem_iff_getElem?.1 hi'
   have hjl:j < pbs.length:=by rw [k.hlen];exact (List.getElem?_eq_some_iff.1 hj).1
   obtain ⟨blk',hb',hal'⟩:=(k.hpb j i' _ hj (List.getElem?_eq_getElem hjl)).alive
   have:=k.R.inj i i'.1 blk blk' h h' x hb hb' ha hal' hm hm' ho ho'
   subst this
   exact h1 (List.mem_map.2 ⟨i',hi',rfl⟩)
theorem Bk.done (k:Bk P rm ow F M w μ b ids pbs ret b4 w' hs' S v) (hfull:ids=[]∨∀ x,Or F (Own μ b) x→(∀ (i:Nat × AM) (h:Hd),i ∈ ids→μ[i.1]? = some h→x ∉ h.own)→M x) :
  Upd2 F (FS F S) w μ b w' (backHs μ ids hs') b4∧Rel (FS F S) w' (backHs μ ids hs') b4∧Fr (Own μ b) w w':=by
 have T:=k.tr
 refine ⟨T.upd,T.done ?_,T.fr k.p.fr.os k.p.fr.tape k.p.fr.output⟩
 intro i blk h hC hb hm
 cases ha:alive blk.body with
 |false=>cases hbd:blk.body<;>simp [hbd,alive] at ha;trivial
 |true=>
  obtain ⟨e,eb,hpos,he,hh,hal,hB⟩:=k.get hC hb hm ha
  refine hB ?_
  rcases hfull with hids | hfull
  ·exfalso
   subst hids
   have hl:=k.B.psl
   have hil:=(List.getElem?_eq_some_iff.1 hb).1
   have hps:pbs.map (PB.sh pbs)=[]:=List.length_eq_zero_iff.1 (by simpa using hl)
   rw [k.B.len,hps] at hil
   simp [endM] at hil
   rcases hC with h | h
   ·simp at h
   ·omega
  ·exact k.sub hfull
end
end
end Go.Proofs.Ytognghbhdalckaa.Abs
namespace Go.Proofs.Ytognghbhdalckaa.Abs
open Go
variable [Glob]
section
variable {P:Program} {w:World} {F N N' M:Nat→Prop} {μ:List Hd} {b:List Blk} {R':Type} {r:R'}
mutual
theorem DRel.plain:∀ {S:List Nat} {c:CVal} {v:Value},c.plain=true→DRel N w S c v→DRel N' w S c v
 |_,.bool _,_,_,h=>h
 |_,.int _ _,_,_,h=>h
 |_,.str _,_,_,h=>h
 |S,.sl xs,v,hp,h=>by
  obtain ⟨base,cap,hv,hl,h⟩:=h
  refine ⟨base,cap,hv,hl,h.imp id ?_⟩
  rintro ⟨x,cells,e,sz,S',h0,hb,hS,hw,hz,he⟩
  exact ⟨x,cells,e,sz,S',h0,hb,hS,hw,hz,DEl.plain (by simpa [CVal.plain] using hp) he⟩
 |S,.agg cs,v,hp,h=>by
  obtain ⟨vs,hv,h⟩:=h
  exact ⟨vs,hv,DCs.plain (by simpa [CVal.plain] using hp) h⟩
 |S,.fp c off,v,hp,h=>by simp [CVal.plain] at hp
 |S,.func f cs,v,hp,h=>by simp [CVal.plain] at hp
 |_,.nilp,_,_,h=>h
 |_,.nilf,_,_,h=>h
 |_,.nili,_,_,h=>h
 |S,.iface t c,v,hp,h=>by simp [CVal.plain] at hp
 |S,.tup cs,v,hp,h=>by
  obtain ⟨vs,hv,h⟩:=h
  exact ⟨vs,hv,DCs.plain (by simpa [CVal.plain] using hp) h⟩
 |S,.fsl xs,v,hp,h=>by simp [CVal.plain] at hp
 |S,.slq q xs,v,hp,h=>by simp [CVal.plain] at hp
theorem DCs.plain:∀ {fl:Bool} {S:List Nat} {cs:List CVal} {vs:List Value},plainL cs=true→DCs N w fl S cs vs→DCs N' w fl S cs vs
 |_,_,[],_,_,h=>h
 |_,_,c :: r,vs,hp,h=>by
  obtain ⟨S1,S2,u,us,hS,hv,hc,hf,h⟩:=h
  simp only [plainL,Bool.and_eq_true] at hp
  exact ⟨S1,S2,u,us,hS,hv,DRel.plain hp.1 hc,hf,DCs.plain hp.2 h⟩
theorem DEl.plain:∀ {sz b o:Nat} {S:List Nat} {cs:List CVal},plainL cs=true→DEl N w sz b o S cs→DEl N' w sz b o S cs
 |_,_,_,_,[],_,h=>h
 |sz,b,o,_,c :: r,hp,h=>by
  obtain ⟨S1,S2,hS,⟨u,ht,hc,hz,hj⟩,h⟩:=h
  simp only [plainL,Bool.and_eq_true] at hp
  exact ⟨S1,S2,hS,⟨u,ht,DRel.plain hp.1 hc,hz,hj⟩,DEl.plain hp.2 h⟩
end
mutual
theorem CRel.plain:∀ {c:CVal} {v:Value},c.plain=true→c.isPt=true→CRel N w c v→CRel N' w c v
 |.bool _,_,_,_,h=>h
 |.int _ _,_,_,_,h=>h
 |.str _,_,_,_,h=>h
 |.sl xs,v,_,hk,h=>by cases hk
 |.agg cs,v,_,hk,h=>by cases hk
 |.fp c off,v,hp,_,h=>by simp [CVal.plain] at hp
 |.func f cs,v,hp,_,h=>by simp [CVal.plain] at hp
 |.nilp,_,_,_,h=>h
 |.nilf,_,_,_,h=>h
 |.nili,_,_,_,h=>h
 |.iface t c,v,hp,_,h=>by simp [CVal.plain] at hp
 |.tup cs,v,_,hk,h=>by cases hk
 |.fsl xs,v,hp,_,h=>by simp [CVal.plain] at hp
 |.slq q xs,v,hp,_,h=>by simp [CVal.plain] at hp
end
theorem GEl.plain {sz x o:Nat} {S:List Nat} {xs:List CVal} (hp:plainL xs=true) (h:GEl true N w sz x o S xs):GEl true N' w sz x o S xs:=GEl.ofD (DEl.plain hp (GEl.toD h))
theorem DCsT.plain:∀ {ks:List CK} {S:List Nat} {cs:List CVal} {vs:List Value},plainL cs=true→DCsT P N w ks S cs vs→DCsT P N' w ks S cs vs
 |[],_,_,_,_,h=>h
 |k :: ks,S,cs,vs,hp,h=>by
  by_cases hk:k.flat=true
  ·obtain ⟨c,l,u,us,rfl,hv,hok,hc,hr⟩:=(DCsT.pt hk).1 h
   simp only [plainL,Bool.and_eq_true] at hp
   exact (DCsT.pt hk).2 ⟨c,l,u,us,rfl,hv,hok,CRel.plain hp.1 (CK.pt hok) hc,DCsT.plain hp.2 hr⟩
  ·cases k with
   |sl e=>
    obtain ⟨S1,S2,xs,l,u,us,hS,rfl,hv,h,hr⟩:=h
    simp only [plainL,CVal.plain,Bool.and_eq_true] at hp
    refine ⟨S1,S2,xs,l,u,us,hS,rfl,hv,?_,DCsT.plain hp.2 hr⟩
    obtain ⟨base,cap,e1,e2,h⟩:=h
    refine ⟨base,cap,e1,e2,h.imp id ?_⟩
    rintro ⟨x,cells,e,S',h0,hb,hS,hw,hz,he⟩
    exact ⟨x,cells,e,S',h0,hb,hS,hw,hz,GEl.plain hp.1 he⟩
   |_=>exact absurd rfl hk
theorem DT.plain {t:TypeId} {S:List Nat} {c:CVal} {v:Value} (hp:c.plain=true) (h:DT P t N w S c v):DT P t N' w S c v:=by
 unfold DT at h ⊢
 cases ha:aggT P t with
 |true=>
  rw [ha] at h
  obtain ⟨l,vs,rfl,rfl,h3⟩:=h
  exact ⟨l,vs,rfl,rfl,DCsT.plain (by simpa [CVal.plain] using hp) h3⟩
 |false=>
  rw [ha] at h
  exact ⟨h.1,DCsT.plain (by simp [plainL,hp]) h.2⟩
theorem DTp.plain {t:TypeId} {S:List Nat} {c:CVal} {v:Value} (hn:(ptrE P t).isNone=true) (hp:c.plain=true) (h:DTp P t N w S c v):DTp P t N' w S c v:=by
 unfold DTp at h ⊢
 cases he:ptrE P t with
 |none=>
  rw [he] at h
  exact DT.plain hp h
 |some e=>rw [he] at hn;cases hn
theorem DTs.plain:∀ {ts:List TypeId} {S:List Nat} {cs:List CVal} {vs:List Value},ts.all (fun t=>(ptrE P t).isNone)=true→plainL cs=true→DTs P N w ts S cs vs→DTs P N' w ts S cs vs
 |[],_,_,_,_,_,h=>h
 |t :: ts,_,_,_,hn,hp,⟨S1,S2,c,l,u,us,hS,hc,hv,h,hr⟩=>by
  subst hc
  simp only [plainL,Bool.and_eq_true] at hp
  simp only [List.all_cons,Bool.and_eq_true] at hn
  exact ⟨S1,S2,c,l,u,us,hS,rfl,hv,h.plain hn.1 hp.1,DTs.plain hn.2 hp.2 hr⟩
theorem DR.plain {ts:List TypeId} {S:List Nat} {c:CVal} {v:Value} (hp:plainR P ts c=true) (h:DR P N w ts S c v):DR P N' w ts S c v:=by
 unfold plainR at hp
 cases hn:(ts.all fun t=>(ptrE P t).isNone) with
 |false=>rw [hn] at hp;cases hp
 |true=>
 rw [hn] at hp
 have hp:c.plain=true:=hp
 unfold DR at h ⊢
 split
 ·exact DTp.plain (by simpa using hn) hp h
 ·rename_i hne
  split at h
  ·rename_i t;exact (hne t rfl).elim
  ·obtain ⟨cs,vs,rfl,h2,h3⟩:=h
   exact ⟨cs,vs,rfl,h2,h3.plain hn (by simpa [CVal.plain] using hp)⟩
theorem DR.keep {w':World} (K:Keep N N' w w') {ts:List TypeId} {S:List Nat} {c:CVal} {v:Value} (hm:∀ x ∈ S,w'.heap[x]? = w.heap[x]?) (h:DR P N w ts S c v):DR P N' w' ts S c v:=by
 unfold DR at h ⊢
 split
 ·exact DTp.keep K hm h
 ·rename_i hne
  split at h
  ·rename_i t;exact (hne t rfl).elim
  ·obtain ⟨cs,vs,h1,h2,h3⟩:=h
   exact ⟨cs,vs,h1,h2,h3.keep K hm⟩
theorem br_bind {A R:Type} {c:Bool} {x y:Option A} {K:A→Option R}:(br c x y).bind K=br c (x.bind K) (y.bind K):=by cases c<;>rfl
theorem unfocusK_one {i k:Nat} {K:List Blk→Option R'}:unfocusK b i k K=(unfocusK b i k some).bind K:=by
 unfold unfocusK
 split
 ·rw [br_bind];rfl
 ·rfl
theorem unfocusAll_one:∀ {fs:List (Nat × Nat)} {b:List Blk} {R':Type} {K:List Blk→Option R'},unfocusAll fs b K=(unfocusAll fs b some).bind K
 |[],b,_,K=>rfl
 |p :: r,b,_,K=>by
  show unfocusAll r b (fun b=>unfocusK b p.1 p.2 K)=(unfocusAll r b (fun b=>unfocusK b p.1 p.2 some)).bind K
  rw [unfocusAll_one (K:=fun b=>unfocusK b p.1 p.2 K),unfocusAll_one (K:=fun b=>unfocusK b p.1 p.2 some),Option.bind_assoc]
  congr 1;funext b'
  exact unfocusK_one
theorem explodeC_one {c:CVal}:∀ {n i:Nat} {R':Type} {K:List CVal→Option R'},explodeC c i n K=(explodeC c i n some).bind K
 |0,i,_,K=>rfl
 |n + 1,i,_,K=>by
  simp only [explodeC,Option.bind_assoc]
  congr 1;funext x
  rw [explodeC_one (K:=fun xs=>K (x :: xs)),explodeC_one (K:=fun xs=>some (x :: xs)),Option.bind_assoc]
  rfl
theorem explodeL_one {α:Type} {c:List α}:∀ {n i:Nat} {R':Type} {K:List α→Option R'},explodeL c i n K=(explodeL c i n some).bind K
 |0,i,_,K=>rfl
 |n + 1,i,_,K=>by
  simp only [explodeL,Option.bind_assoc]
  congr 1;funext x
  rw [explodeL_one (K:=fun xs=>K (x :: xs)),explodeL_one (K:=fun xs=>some (x :: xs)),Option.bind_assoc]
  rfl
def two {A B:Type} (x:A) (y:B):Option (A × B):=some (x,y)
theorem openCells_one:∀ {ks:List CK} {cs:List CVal} {b:List Blk} {R':Type} {K:List AVal→List Blk→Option R'},openCells P ks cs b K=(openCells P ks cs b two).bind fun p=>K p.1 p.2
 |[],[],b,_,K=>rfl
 |[],_ :: _,b,_,K=>by simp [openCells]
 |k :: _,[],b,_,K=>by cases k<;>simp [openCells]
 |k :: ks,c :: cs,b,_,K=>by
  have flat:(openCells P ks cs b fun l b=>K (.v c :: l) b)=(openCells P ks cs b fun l b=>two (AVal.v c :: l) b).bind fun p=>K p.1 p.2:=by
   rw [openCells_one (K:=fun l b=>K (.v c :: l) b),openCells_one (K:=fun l b=>two (AVal.v c :: l) b),Option.bind_assoc]
   rfl
  cases k with
  |sl e=>
   simp only [openCells,Option.bind_assoc,br_bind]
   congr 1;funext xs
   congr 1
   rw [openCells_one (K:=fun l b'=>K (.lref b.length 0 :: l) b'),openCells_one (K:=fun l b'=>two (AVal.lref b.length 0 :: l) b'),Option.bind_assoc]
   rfl
  |_=>simpa only [openCells] using flat
theorem openK_one {t:TypeId} {c:CVal} {b:List Blk} {R':Type} {K:AVal→List Blk→Option R'}:openK P t c b K=(openK P t c b two).bind fun p=>K p.1 p.2:=by
 unfold openK
 simp only [br_bind,Option.bind_none]
 congr 1
 congr 1
 ·congr 1
  rw [explodeC_one,explodeC_one (K:=fun cs=>openCells P (cks P t) cs b fun l b=>two (mkAgg l) b),Option.bind_assoc]
  congr 1;funext cs
  rw [openCells_one,openCells_one (K:=fun l b=>two (mkAgg l) b),Option.bind_assoc]
  rfl
 ·congr 1
  rw [openCells_one,openCells_one (K:=fun l b=>two (l.headD .un) b),Option.bind_assoc]
  rfl
theorem openPCells_one:∀ {ks:List (Nat × CK)} {cs:List CVal} {b:List Blk} {R':Type} {K:List AVal→List Blk→Option R'},openPCells P ks cs b K=(openPCells P ks cs b two).bind fun p=>K p.1 p.2
 |[],[],b,_,K=>rfl
 |[],_ :: _,b,_,K=>by simp [openPCells]
 |(0,k) :: ks,[],b,_,K=>by simp [openPCells]
 |(1,k) :: ks,[],b,_,K=>by simp [openPCells]
 |(n + 2,k) :: ks,[],b,_,K=>by cases k<;>simp [openPCells]
 |(0,k) :: ks,c :: cs,b,_,K=>by
  simp only [openPCells]
  rw [openPCells_one (K:=fun l b=>K (.v c :: l) b),openPCells_one (K:=fun l b=>two (AVal.v c :: l) b),Option.bind_assoc]
  rfl
 |(1,k) :: ks,c :: cs,b,_,K=>by
  simp only [openPCells]
  rw [openCells_one,openCells_one (K:=fun a b=>openPCells P ks cs b fun l b=>two (a ++ l) b),Option.bind_assoc]
  congr 1;funext p
  rw [openPCells_one (K:=fun l b=>K (p.1 ++ l) b),openPCells_one (K:=fun l b=>two (p.1 ++ l) b),Option.bind_assoc]
  rfl
 |(n + 2,k) :: ks,c :: cs,b,_,K=>by
  cases k with
  |sl e=>
   simp only [openPCells,Option.bind_assoc,br_bind]
   congr 1;funext ys
   congr 1
   rw [openPCells_one (K:=fun l b'=>K (.lref b.length 0 :: l) b'),openPCells_one (K:=fun l b'=>two (AVal.lref b.length 0 :: l) b'),Option.bind_assoc]
   rfl
  |_=>simp [openPCells]
theorem openPK_one {t:TypeId} {c:CVal} {b:List Blk} {R':Type} {K:AVal→List Blk→Option R'}:openPK P t c b K=(openPK P t c b two).bind fun p=>K p.1 p.2:=by
 unfold openPK
 split
 ·exact openK_one
 ·rename_i ks he
  rw [Option.bind_assoc]
  congr 1;funext q
  rw [br_bind,Option.bind_none]
  congr 1
  rw [explodeC_one,explodeC_one (K:=fun cs=>openPCells P ks cs b fun l b=>two (AVal.lptr b.length 0) (b ++ [(⟨0,.box l⟩:Blk)])),Option.bind_assoc]
  congr 1;funext cs
  rw [openPCells_one,openPCells_one (K:=fun l b=>two (AVal.lptr b.length 0) (b ++ [(⟨0,.box l⟩:Blk)])),Option.bind_assoc]
  rfl
 ·rename_i ks he
  rw [br_bind,Option.bind_none]
  congr 1
  rw [explodeC_one,explodeC_one (K:=fun cs=>openPCells P ks cs b fun l b=>two (mkAgg l) b),Option.bind_assoc]
  congr 1;funext cs
  rw [openPCells_one,openPCells_one (K:=fun l b=>two (mkAgg l) b),Option.bind_assoc]
  rfl
 ·rename_i ks he
  rw [openPCells_one,openPCells_one (K:=fun l b=>two (l.headD .un) b),Option.bind_assoc]
  rfl
theorem openAllK_one:∀ {ts:List TypeId} {cs:List CVal} {b:List Blk} {R':Type} {K:List AVal→List Blk→Option R'},openAllK P ts cs b K=(openAllK P ts cs b two).bind fun p=>K p.1 p.2
 |[],[],b,_,K=>rfl
 |[],_ :: _,b,_,K=>by simp [openAllK]
 |_ :: _,[],b,_,K=>by simp [openAllK]
 |t :: ts,c :: cs,b,_,K=>by
  simp only [openAllK]
  rw [openPK_one,openPK_one (K:=fun x b=>openAllK P ts cs b fun l b=>two (x :: l) b),Option.bind_assoc]
  congr 1;funext p
  rw [openAllK_one (K:=fun l b=>K (p.1 :: l) b),openAllK_one (K:=fun l b=>two (p.1 :: l) b),Option.bind_assoc]
  rfl
theorem openRK_one {ts:List TypeId} {c:CVal} {b:List Blk} {R':Type} {K:AVal→List Blk→Option R'}:openRK P ts c b K=(openRK P ts c b two).bind fun p=>K p.1 p.2:=by
 unfold openRK
 split
 ·exact openPK_one
 ·rw [Option.bind_assoc]
  congr 1;funext cs
  rw [explodeL_one,explodeL_one (K:=fun cs=>openAllK P ts cs b fun l b=>two (AVal.tup l) b),Option.bind_assoc]
  congr 1;funext cs
  rw [openAllK_one,openAllK_one (K:=fun l b=>two (AVal.tup l) b),Option.bind_assoc]
  rfl
theorem callK_sound {E:Env} {C:CallT} {g:FuncId} {args:List AVal} {vs:List Value} {K:AVal→List Blk→Option R'} (hC:COk E C) (R:Rel F w μ b)
  (ha:AsRel (Or F (Own μ b)) w μ b false args vs) (h:callK E C g args b K=some r):CallGoes E.P F w μ b K r g vs (pureArgs E g 0 args):=by
 unfold callK at h
 rcases br_some h with ⟨_,h⟩ | ⟨hgap,h⟩
 ·cases h
 have hgap:g ≠ apId:=by simpa using hgap
 obtain ⟨args0,b0,μ0,h,U0,R0,ha0,hpu0⟩:=promo_sound R ha h
 obtain ⟨args1,fs,b1,μ1,h,U1,R1,ha1,hfs,hpu1⟩:=focusArgs_sound R0 ha0 h
 obtain ⟨hd,l,h,hs,hl,hpu2,hHA⟩:=handAll_sound (h:=⟨[],[],b1⟩) R1 ha1 h
 obtain ⟨pbs,b3,h,hsub,U3,R3,hlen,hpu3,hpb⟩:=handBlks_sound (ids0:=hd.ids) hs.rel h
 obtain ⟨hal,h⟩:=br_none h
 obtain ⟨ret,hret,h⟩:=bind_some' h
 rcases br_some h with ⟨_,h⟩ | ⟨hbor,h⟩
 ·cases h
 have hn:(hd.ids.map (·.1)).Nodup:=hs.nodup List.nodup_nil
 have hpb:∀ (j:Nat) (i:Nat × AM) (p:PB),hd.ids[j]? = some i→pbs[j]? = some p→PBok F w μ1 b3 hd.ids i p:=fun j i p hi hp=>hpb j i p hi hp (List.all_eq_true.1 hal i (List.mem_of_getElem? hi))
 have hlt:∀ i ∈ hd.ids,i.1 < b3.length:=fun i hi=>by
  obtain ⟨blk,hb,_⟩:=aliveAt_some (List.all_eq_true.1 hal i hi)
  exact (List.getElem?_eq_some_iff.1 hb).1
 obtain ⟨ls,h,hlsl,hls⟩:=explodeL_eq h
 obtain ⟨b4,h,B⟩:=backBlks_sound hn hlt h
 have hl:hd.args=l:=by simpa using hl
 have U13:Upd F w μ b w μ1 b3:=((U0.trans U1).trans hs.upd).trans U3
 have hok:=hC.1 g hd.args pbs ret hgap hret
 have hpure:pureArgs E g 0 args=true→b4=b∧fs=[]∧E.ow g=none:=by
  intro hp
  obtain ⟨e1,e2⟩:=hpu0 hp
  subst e2
  obtain ⟨e3,e4,e5⟩:=hpu1 hp
  rw [e4] at hpu2
  obtain ⟨e6,e7⟩:=hpu2 hp
  have e8:=hpu3 e6
  refine ⟨?_,e5,pureArgs_ow hp⟩
  have e9:b4=b3:=by
   have hps:pbs.map (PB.sh pbs)=[]:=List.length_eq_zero_iff.1 (by rw [B.psl,e6];rfl)
   have hbl:=B.len
   rw [hps] at hbl
   apply List.ext_getElem?
   intro i
   by_cases hi:i < b3.length
   ·exact B.off i hi (by rw [e6];simp)
   ·rw [List.getElem?_eq_none (by simp [endM] at hbl;omega),List.getElem?_eq_none (by omega)]
  rw [e9,e8,e7,e3,e1]
 obtain ⟨M,H,hM,hfull⟩:∃ M:Nat→Prop,Hidden F M μ1 b3 hd.ids∧(borrows E g 0 args1=true→∀ x,M x→F x)∧
   ((borrows E g 0 args1=true∧hd.ids=[])∨∀ x,Or F (Own μ1 b3) x→(∀ (i:Nat × AM) (h:Hd),i ∈ hd.ids→μ1[i.1]? = some h→x ∉ h.own)→M x):=by
  cases hb:borrows E g 0 args1 with
  |true=>
   simp only [hb,Bool.true_and,Bool.or_eq_false_iff,Bool.not_eq_false'] at hbor
   have hids:hd.ids=[]:=by simpa using hbor.1
   exact ⟨F,⟨fun _ h=>h,fun _ h=>.inl h,fun x i h _ hi=>by rw [hids] at hi;cases hi⟩,fun _ _ h=>h,.inl ⟨rfl,hids⟩⟩
  |false=>
   refine ⟨fun x=>Or F (Own μ1 b3) x∧∀ (i:Nat × AM) (h:Hd),i ∈ hd.ids→μ1[i.1]? = some h→x ∉ h.own,⟨fun x hx=>⟨.inl hx,fun i h hi hm ho=>?_⟩,fun x hx=>hx.1,fun x i h hx hi hm=>hx.2 i h hi hm⟩,
    by simp,.inr fun x h1 h2=>⟨h1,h2⟩⟩
   obtain ⟨j,hj⟩:=List.mem_iff_getElem?.1 hi
   have hjl:j < pbs.length:=by rw [hlen];exact (List.getElem?_eq_some_iff.1 hj).1
   obtain ⟨blk3,hb3,hal3⟩:=(hpb j i _ hj (List.getElem?_eq_getElem hjl)).alive
   exact (R3.fres x ⟨i.1,blk3,h,hb3,hal3,hm,ho⟩).1 hx
 have hcr:=callee_rel R3 hn hlen hpb H
 have hstart:∀ x,Or M (Own (hsOf μ1 hd.ids) (pbs.map startBlk)) x→Or F (Own μ1 b3) x:=by
  rintro x (hx | hx)
  ·exact H.up x hx
  ·obtain ⟨j,i,blk,hh,_,h1,h2,h3,h4⟩:=start_own hpb hx
   exact .inr ⟨i.1,blk,hh,h1,h2,h3,h4⟩
 have hargs:AsRel (Or M (Own (hsOf μ1 hd.ids) (pbs.map startBlk))) w (hsOf μ1 hd.ids) (pbs.map startBlk) false hd.args vs:=by
  rw [hl]
  have h0:=hHA (Or M (Own (hsOf μ1 hd.ids) (pbs.map startBlk))) [] (fun x hx=>(hstart x hx).imp id fun ho=>hsub.own ho) (fun hb x hx=>by
   rcases hx with hx | hx
   ·exact hM hb x hx
   ·simp only [hb,Bool.true_and,Bool.or_eq_false_iff,Bool.not_eq_false'] at hbor
    have hids:hd.ids=[]:=by simpa using hbor.1
    obtain ⟨j,i,blk,hh,hj,_⟩:=start_own hpb hx
    rw [hids] at hj;simp at hj)
  rw [List.append_nil] at h0
  exact HAs.rel (start_ver hlen) h0 fun x hx=>hx
 have key:=hok M w (hsOf μ1 hd.ids) vs hcr hargs
 have bk:∀ {w':World} {hs':List Hd} {S:List Nat} {v:Value},FnPost E.P (E.rm g) (E.ow g) M w (hsOf μ1 hd.ids) pbs ret w' hs' S v→Bk E.P (E.rm g) (E.ow g) F M w μ1 b3 hd.ids pbs ret b4 w' hs' S v:=fun p=>⟨R3,hn,hlen,hpb,same_of_get (by rw [hlsl,p.len,hlen]) hls ▸ B,H,p⟩
 rw [unfocusAll_one] at h
 obtain ⟨b5,hb5,h⟩:=bind_some' h
 have hpure5:pureArgs E g 0 args=true→b5=b:=fun hp=>by
  obtain ⟨e1,e2,_⟩:=hpure hp
  rw [e2] at hb5
  simp only [unfocusAll,Option.some.injEq] at hb5
  rw [← hb5,e1]
 have done:∀ {w':World} {hs':List Hd} {S:List Nat} {v:Value},FnPost E.P (E.rm g) (E.ow g) M w (hsOf μ1 hd.ids) pbs ret w' hs' S v→
   ∃ μ5,Upd2 F (FS F S) w μ b w' μ5 b5∧Rel (FS F S) w' μ5 b5∧Fr (Own μ b) w w'∧Upd (FS F S) w' (backHs μ1 hd.ids hs') b4 w' μ5 b5∧VerKeep b4 b5:=by
  intro w' hs' S v p
  obtain ⟨U4,R4,f⟩:=(bk p).done (hfull.imp (·.2) id)
  obtain ⟨b5',μ5,hb5',U5,R5,_,_,hvk⟩:=unfocusAll_sound (K:=some) R4 hfs hb5
  simp only [Option.some.injEq] at hb5'
  subst hb5'
  refine ⟨μ5,(U13.trans2 (fun _ h=>h) U4).trans2 (fun _ h=>.inl h) U5,R5,?_,U5,hvk⟩
  exact Fr.step U13 (.refl _ _) f
 unfold backRK at h
 split at h
 ·rename_i ts how
  rw [openRK_one] at h
  obtain ⟨⟨y,b6⟩,hy,h⟩:=bind_some' h
  refine ⟨y,b6,h,fun hp=>?_,fun o a next Q ho hnx=>key o a next Q ho fun v w' ⟨hs',S,p⟩=>?_⟩
  ·have:=(hpure hp).2.2
   simp [how] at this
  obtain ⟨μ5,U,R5,f,U5,_⟩:=done p
  have hv:=p.val
  rw [how] at hv
  have hv5:DR E.P (Or (FS F S) (Own μ5 b5)) w' ts S ret.1 v:=by
   have hv4:DR E.P (Or (FS F S) (Own (backHs μ1 hd.ids hs') b4)) w' ts S ret.1 v:=by
    rcases hfull with ⟨hb,_⟩ | hfull
    ·simp only [hb,how,Bool.true_and,Bool.or_eq_false_iff,Bool.not_eq_false'] at hbor
     exact hv.plain hbor.2
    ·exact hv.keep (Keep.sub ((bk p).sub hfull)) fun _ _=>rfl
   exact hv4.keep U5.keep fun _ _=>rfl
  have hS:∀ x ∈ S,¬ F x∧¬ Glob.ids x:=fun x hx=>by
   obtain ⟨_,h2,h3,_⟩:=p.res x hx
   exact ⟨fun hf=>h2 (H.low x hf),h3⟩
  obtain ⟨x,b',μ6,hx,U6,R6,hr⟩:=openRK_sound (K:=two) R5 p.nodup hS hv5 hy
  simp only [two,Option.some.injEq,Prod.mk.injEq] at hx
  obtain ⟨rfl,rfl⟩:=hx
  exact hnx v w' _ ⟨U.trans2 (fun _ h=>.inl h) U6,R6,hr,f⟩
 ·rename_i how
  split at h
  ·rename_i hrm
   refine ⟨_,_,h,hpure5,fun o a next Q ho hnx=>key o a next Q ho fun v w' ⟨hs',S,p⟩=>?_⟩
   obtain ⟨μ5,U,R5,f,U5,_⟩:=done p
   have hv:=p.val
   rw [how,hrm] at hv
   obtain ⟨rfl,hv⟩:=hv
   rw [FS_nil] at U R5 U5
   refine hnx v w' _ ⟨U,R5,?_,f⟩
   rcases hfull with ⟨hb,_⟩ | hfull
   ·simp only [hb,how,Bool.true_and,Bool.or_eq_false_iff,Bool.not_eq_false'] at hbor
    exact scalar_rel hbor.2 hv
   ·have hsub:=(bk p).sub hfull
    rw [FS_nil,FS_nil] at hsub
    exact CRel.keep U5.keep (CRel.keep (Keep.sub hsub) hv)
  ·rename_i j hrm
   split at h
   ·rename_i i hi
    refine ⟨_,_,h,hpure5,fun o a next Q ho hnx=>key o a next Q ho fun v w' ⟨hs',S,p⟩=>?_⟩
    obtain ⟨μ5,U,R5,f,U5,hvk⟩:=done p
    have hv:=p.val
    rw [how,hrm] at hv
    obtain ⟨rfl,hh,m,sz,xs,hm',hp,rfl⟩:=hv
    rw [FS_nil] at U R5 U5
    refine hnx _ w' _ ⟨U,R5,?_,f⟩
    rcases (bk p).at_ hi with ⟨ver,m0,sz0,xs0,l0,h1,h2,h3,hfx,hpj⟩ | ⟨ver,cs,o',l0,t,x,h1,h2,h3,_⟩
    ·rw [hp] at hpj
     simp only [Option.some.injEq,PB.arr.injEq] at hpj
     have hng:i.2 ≠ .gone:=by
      intro e
      have:=hpj.2.1
      rw [e] at this;simp at this
     have hil:i.1 < μ1.length:=by rw [R3.len];exact (List.getElem?_eq_some_iff.1 h1).1
     have hm4:=backHs_at hn hil hi hng hm'
     rw [decide_eq_false hng] at h3
     obtain ⟨base,cap,rs,S',g1,_⟩:=p.rel.blk j _ _ h3 hm'
     have hr4:ARel (Or F (Own (backHs μ1 hd.ids hs') b4)) w' (backHs μ1 hd.ids hs') b4 (.lref i.1 (verOf b4 i.1)) hh.val:=
      ⟨by rw [g1];rfl,_,hh,h2,hm4,by rw [g1];simp,by rw [verOf_at h2];exact Nat.le_refl _,fun _ _=>rfl⟩
     obtain ⟨hfl,blk5,hd5,hb5i,hm5,hn5,hle5,hc5⟩:=ARel.upd U5 hr4
     refine ⟨hfl,blk5,hd5,hb5i,hm5,hn5,by rw [verOf_at hb5i];exact Nat.le_refl _,fun _ hisa=>?_⟩
     rcases hvk i.1 blk5 hb5i with ⟨e,_⟩ | hdead
     ·exact hc5 e.symm hisa
     ·cases hbd:blk5.body<;>simp [hbd,isArr,alive] at hisa hdead
    ·obtain ⟨xa,vs',e,g1,_⟩:=p.rel.blk j _ _ h3 hm'
     have hjl:j < pbs.length:=(List.getElem?_eq_some_iff.1 hp).1
     obtain ⟨blk,hbb,hor⟩:=hpb j i _ hi hp
     rw [h1] at hbb;cases hbb
     rcases hor with ⟨_,_,_,_,e2,_⟩ | ⟨_,_,e1,_⟩
     ·cases e2
     ·cases e1
   ·cases h
theorem PCsT.close {N':Nat→Prop} {w':World} (K:Keep N N' w w'):∀ {ks:List (Nat × CK)} {S:List Nat} {cs:List CVal} {vs:List Value},(∀ x ∈ S,w'.heap[x]? = w.heap[x]?∧¬ N' x∧x < w'.heap.size)→PCsT P N w ks S cs vs→CsRel N' w' true cs vs
 |[],_,_,_,_,⟨_,e2,e3⟩=>by subst e2 e3;exact rfl
 |(0,k) :: ks,_,_,_,hm,⟨c,l,u,us,hc,hv,hf,h,hr⟩=>by
  subst hc hv
  exact ⟨u,us,rfl,CRel.keep K h,fun _=>CRel.flat h hf,PCsT.close K hm hr⟩
 |(1,k) :: ks,_,_,_,hm,⟨S1,S2,c,l,u,us,hS,hc,hv,h,hr⟩=>by
  subst hS hc hv
  have hlen:=h.len
  obtain ⟨c,rfl⟩:∃ x,c=[x]:=List.length_eq_one_iff.1 hlen.1
  obtain ⟨hd,hf⟩:=DCs.one h.toD
  have hc':CRel N' w' c u:=DRel.close K (fun x hx=>hm x (by simp [hx])) hd
  exact ⟨u,us,rfl,hc',fun _=>hf,PCsT.close K (fun x hx=>hm x (by simp [hx])) hr⟩
 |(n + 2,k) :: ks,_,_,_,hm,h=>by
  cases k with
  |sl e=>
   obtain ⟨S1,S2,xs,l,u,us,hS,hc,hv,h,hr⟩:=h
   subst hS hc hv
   obtain ⟨base,cap,rfl,hl,h⟩:=h
   refine ⟨_,us,rfl,⟨base,cap,rfl,hl,?_⟩,fun _=>rfl,PCsT.close K (fun x hx=>hm x (by simp [hx])) hr⟩
   rcases h with ⟨rfl,_⟩ | ⟨x,cells,e,S',h0,hb,rfl,hw,hz,he⟩
   ·exact .inl (List.eq_nil_of_length_eq_zero (by omega))
   ·obtain ⟨m1,m2,m3⟩:=hm x (by simp)
    exact .inr ⟨x,0,_,hb,m2,m3,ElRel.keepAt K m1 (GEl.toE he).1⟩
  |_=>exact h.elim
theorem DTp.close {N':Nat→Prop} {w':World} (K:Keep N N' w w') {t:TypeId} {S:List Nat} {c:CVal} {v:Value} (hm:∀ x ∈ S,w'.heap[x]? = w.heap[x]?∧¬ N' x∧x < w'.heap.size) (h:DTp P t N w S c v):CRel N' w' c v:=by
 unfold DTp at h
 split at h
 ·exact DRel.close K hm h.toD.1
 ·obtain ⟨x,S',l,vs,e0,rfl,rfl,rfl,hw,hd⟩:=h
  obtain ⟨m1,m2,m3⟩:=hm x (by simp)
  have hc:CRel N' w' (.agg l) (.agg (List.toArray vs)):=⟨vs,rfl,hd.close K fun y hy=>hm y (by simp [hy])⟩
  refine ⟨x,0,.agg (List.toArray vs),rfl,m2,m3,rfl,hc,fun j hj=>?_⟩
  simp only [World.cell?,pl,m1,hw,Value.cells]
  simp
 ·obtain ⟨l,vs,rfl,rfl,hd⟩:=h
  exact ⟨vs,rfl,hd.close K hm⟩
 ·obtain ⟨_,hd⟩:=h
  obtain ⟨u,us,e,hc,_⟩:=hd.close K hm
  simp at e
  obtain ⟨rfl,rfl⟩:=e
  exact hc
theorem DTs.close {N':Nat→Prop} {w':World} (K:Keep N N' w w'):∀ {ts:List TypeId} {S:List Nat} {cs:List CVal} {vs:List Value},(∀ x ∈ S,w'.heap[x]? = w.heap[x]?∧¬ N' x∧x < w'.heap.size)→DTs P N w ts S cs vs→CsRel N' w' false cs vs
 |[],_,_,_,_,⟨_,e2,e3⟩=>by subst e2 e3;exact rfl
 |t :: ts,_,_,_,hm,⟨S1,S2,c,l,u,us,hS,hc,hv,h,hr⟩=>by
  subst hS hc hv
  exact ⟨u,us,rfl,h.close K (fun x hx=>hm x (by simp [hx])),by simp,DTs.close K (fun x hx=>hm x (by simp [hx])) hr⟩
theorem DR.close {N':Nat→Prop} {w':World} (K:Keep N N' w w') {ts:List TypeId} {S:List Nat} {c:CVal} {v:Value} (hm:∀ x ∈ S,w'.heap[x]? = w.heap[x]?∧¬ N' x∧x < w'.heap.size) (h:DR P N w ts S c v):CRel N' w' c v:=by
 unfold DR at h
 split at h
 ·exact DTp.close K hm h
 ·obtain ⟨cs,vs,rfl,rfl,h⟩:=h
  exact ⟨vs,rfl,h.close K hm⟩
theorem Rel.drop {S:List Nat} (R:Rel (FS F S) w μ b):Rel F w μ b:=
  ⟨R.len,fun i blk h hb hm=>by
    have hB:=R.blk i blk h hb hm
    have K:Keep (Or (FS F S) (Own μ b)) (Or F (Own μ b)) w w:=Keep.sub fun x hx=>hx.imp .inl id
    cases hbd:blk.body with
    | dead=>trivial
    | box cs=>
      rw [hbd] at hB
      obtain ⟨x,vs,e,e1,hw,ha⟩:=hB
      exact ⟨x,vs,e,e1,hw,ha.keepN K⟩
    | arr m sz xs=>
      rw [hbd] at hB
      obtain ⟨base,cap,rs,S',e1,hl,hc⟩:=hB
      exact ⟨base,cap,rs,S',e1,hl,hc.imp id fun ⟨z,cells,e,k1,k2,k3,k4,k5,k6,k7⟩=>⟨z,cells,e,k1,k2,k3,k4,k5,k6,GEl.keep K rfl (fun _ _=>rfl) k7⟩⟩
    | hole m sz xs c idx off k=>
      rw [hbd] at hB
      obtain ⟨g1,g2,g3,cap,rs,S',x,cells,e,hk,g4,g5,g6,g7,g8,g9,g10,g11,g12,g13⟩:=hB
      exact ⟨g1,g2,g3,cap,rs,S',x,cells,e,hk,g4,g5,g6,g7,g8,g9,g10,g11,g12,HEl.keep K rfl (fun _ _=>rfl) g13⟩,
   R.inj,fun x hx=>⟨fun hf=>(R.fres x hx).1 (.inl hf),(R.fres x hx).2⟩,⟨fun x hx=>R.fbk.lt x (.inl hx),R.fbk.idl,R.fbk.ok⟩,R.oid⟩
theorem FnOk.weak {rm:Option Nat} {ts:List TypeId} {g:FuncId} {args:List AVal} {pbs:List PB} {ret:Ret} (h:FnOk P rm (some ts) g args pbs ret):FnOk P none none g args pbs ret:=by
 intro F w μ vs R ha o a next Q ho hn
 refine h F w μ vs R ha o a next Q ho fun v w' ⟨μ',S,p⟩=>hn v w' ⟨μ',[],?_⟩
 refine ⟨by rw [FS_nil];exact p.rel.drop,p.len,p.box,p.fix,p.own,List.nodup_nil,by simp,p.fr,rfl,?_⟩
 have hv:=p.val
 refine DR.close (Keep.sub fun x hx=>hx.imp .inl id) (fun x hx=>⟨rfl,?_,(p.res x hx).1⟩) hv
 rintro (hf | ho)
 ·exact (p.res x hx).2.1 hf
 ·exact (p.rel.fres x ho).1 (.inr hx)
theorem COk.at {E:Env} {C:CallT} (hC:COk E C) (o:Oper):COk (E.at o) C:=by
 refine ⟨fun g args pbs ret hg h=>?_,fun c cs ret h=>?_⟩
 ·have h1:=hC.1 g args pbs ret hg h
  show FnOk E.P (cond (E.cl o && (E.ow g).isSome) none (E.rm g)) (cond (E.cl o) none (E.ow g)) g args pbs ret
  cases hcl:E.cl o with
  |false=>exact h1
  |true=>
   cases how:E.ow g with
   |none=>
    rw [how] at h1
    exact h1
   |some ts=>
    rw [how] at h1
    exact h1.weak
 ·obtain ⟨g,caps,h1,h2,h3,h4,h5⟩:=hC.2 c cs ret h
  refine ⟨g,caps,h1,h2,?_,?_,h5⟩
  ·show cond (E.cl o && (E.ow g).isSome) none (E.rm g)=none
   rw [h3];cases (E.cl o && (E.ow g).isSome)<;>rfl
  ·show cond (E.cl o) none (E.ow g)=none
   rw [h4];cases E.cl o<;>rfl
theorem apF_sound {E:Env} {C:CallT} {c:CVal} {cs:List CVal} {K:AVal→List Blk→Option R'} (hC:COk E C) (R:Rel F w μ b) (h:apF C c cs (fun y=>K (.v y) b)=some r) :
  ∃ g caps,c=.func g caps∧∀ vs,AsRel (Or F (Own μ b)) w μ b false ((cs ++ caps).map .v) vs→CallGoes E.P F w μ b K r g vs true:=by
 unfold apF at h
 obtain ⟨r0,hr0,hK⟩:=bind_some' h
 obtain ⟨g,caps,hg,rfl,hrm,how,hok⟩:=hC.2 c cs r0 hr0
 refine ⟨g,caps,rfl,fun vs ha=>?_⟩
 let E':Env:={ E with prim:=fun g'=>some fun args' pbs'=>open Classical in if g'=g∧args'=(cs ++ caps).map .v∧pbs'=[] then some r0 else none }
 have hC':COk E' (fun _ _ _=>none):=by
  refine ⟨fun g' args' pbs' ret' hne h'=>?_,fun c' cs' ret' h'=>by cases h'⟩
  simp only [E'] at h'
  split at h'
  ·rename_i hh
   cases h'
   obtain ⟨rfl,rfl,rfl⟩:=hh
   show FnOk E.P (E.rm g') (E.ow g') g' _ [] r0
   rw [hrm,how];exact hok
  ·cases h'
 have hk:callK E' (fun _ _ _=>none) g ((cs ++ caps).map .v) b K=some r:=by
  rw [callK_v (E:=E') hg hrm how]
  simp only [E']
  rw [if_pos ⟨trivial,trivial,trivial⟩,Option.bind_some]
  exact hK
 have:=callK_sound (E:=E') hC' R ha hk
 rw [pureArgs_v,show E'.ow g=none from how] at this
 exact this
end
end Go.Proofs.Ytognghbhdalckaa.Abs

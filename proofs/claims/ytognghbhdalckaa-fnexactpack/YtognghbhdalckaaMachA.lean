/- A part. -/
import Derived.Test.YtognghbhdalckaaMach0
import GoSem.Dispatch
import Derived.Lib.Strings
import Derived.Laws.StructEq
set_option linter.unusedVariables false
set_option linter.unusedSectionVars false
set_option linter.unusedSimpArgs false
namespace Go.Proofs.Ytognghbhdalckaa.Abs
open Go
variable [Glob]
section
variable {P:Program} {w:World} {F N:Nat→Prop} {μ:List Hd} {b:List Blk}
theorem explodeC_eq {R:Type} {c:CVal}:∀ {n i:Nat} {K:List CVal→Option R} {r:R},explodeC c i n K=some r→
  ∃ xs,K xs=some r∧xs.length=n∧∀ j x,xs[j]? = some x→c.cells[i + j]? = some x
 |0,i,K,r,h=>⟨[],h,rfl,fun j x hx=>by simp at hx⟩
 |n + 1,i,K,r,h=>by
  obtain ⟨x,hx,h⟩:=bind_some' h
  obtain ⟨xs,h1,h2,h3⟩:=explodeC_eq h
  refine ⟨x :: xs,h1,by simp [h2],fun j y hy=>?_⟩
  cases j with
  |zero=>simp at hy;subst hy;exact hx
  |succ j=>
   rw [show i + (j + 1)=i + 1 + j by omega]
   exact h3 j y (by simpa using hy)
theorem explodeL_eq {R α:Type} {l:List α}:∀ {n i:Nat} {K:List α→Option R} {r:R},explodeL l i n K=some r→
  ∃ xs,K xs=some r∧xs.length=n∧∀ j x,xs[j]? = some x→l[i + j]? = some x
 |0,i,K,r,h=>⟨[],h,rfl,fun j x hx=>by simp at hx⟩
 |n + 1,i,K,r,h=>by
  obtain ⟨x,hx,h⟩:=bind_some' h
  obtain ⟨xs,h1,h2,h3⟩:=explodeL_eq h
  refine ⟨x :: xs,h1,by simp [h2],fun j y hy=>?_⟩
  cases j with
  |zero=>simp at hy;subst hy;exact hx
  |succ j=>
   rw [show i + (j + 1)=i + 1 + j by omega]
   exact h3 j y (by simpa using hy)
theorem same_of_get {α:Type} {xs l:List α} (hn:xs.length=l.length) (h:∀ (j:Nat) (x:α),xs[j]? = some x→l[0 + j]? = some x):xs=l:=by
 apply List.ext_getElem?
 intro j
 by_cases hj:j < xs.length
 ·rw [List.getElem?_eq_getElem hj]
  have:=h j _ (List.getElem?_eq_getElem hj)
  simpa using this.symm
 ·rw [List.getElem?_eq_none (by omega),List.getElem?_eq_none (by omega)]
def flatX:AVal→Prop
 |.agg _=>False
 |.tup _=>False
 |.un=>False
 |.v c=>c.isFlat=true
 |_=>True
theorem ARel.flatOf {x:AVal} {v:Value} (h:ARel N w μ b x v) (hx:flatX x):flat v=true:=by
 cases x with
 |v c=>exact CRel.flat h hx
 |nl=>obtain ⟨_,rfl⟩:=h;rfl
 |lptr i off=>obtain ⟨_,_,rfl⟩:=h;rfl
 |lref i ver=>exact h.1
 |lel i ver idx off=>obtain ⟨⟨_,rfl⟩,_⟩:=h;rfl
 |lsub i ver sv idx off=>exact h.1
 |ltail i ver lo=>exact h.1
 |lel2 i ver sv idx off idx2=>obtain ⟨⟨_,rfl⟩,_⟩:=h;rfl
 |func f cs=>obtain ⟨_,rfl,_⟩:=h;rfl
 |agg _=>exact hx.elim
 |tup _=>exact hx.elim
 |un=>exact hx.elim
theorem wCells_sound {R':Type} {agg:Bool} {n:Nat} {x:AVal} {v:Value} {K:List AVal→Option R'} {r:R'} (hx:ARel N w μ b x v) (h:wCells agg n x K=some r) :
  ∃ cs vs,K cs=some r∧AsRel N w μ b true cs vs∧v.cells=List.toArray vs∧vs.length=n∧(agg=true→v=.agg (List.toArray vs))∧(agg=false→cs=[x]∧vs=[v]):=by
 unfold wCells at h
 rcases br_some h with ⟨ha,h⟩ | ⟨ha,h⟩
 ·subst ha
  cases x with
  |agg cs=>
   have h:br (cs.length == n) (K cs) none=some r:=h
   obtain ⟨h1,h⟩:=br_none h
   obtain ⟨vs,rfl,hc⟩:=hx
   exact ⟨cs,vs,h,hc,rfl,by rw [hc.len];simpa using h1,fun _=>rfl,(fun h=>by cases h)⟩
  |v c=>
   have h:br (c.isAggN n) (explodeC c 0 n fun xs=>K (xs.map .v)) none=some r:=h
   obtain ⟨h1,h⟩:=br_none h
   obtain ⟨xs,h0,h2,h3⟩:=explodeC_eq h
   obtain ⟨cs,rfl,hn⟩:=isAggN_iff h1
   have:xs=cs:=same_of_get (by rw [h2,hn]) h3
   subst this
   obtain ⟨vs,rfl,hc⟩:=hx
   exact ⟨_,vs,h0,AsRel.ofC hc,rfl,by rw [hc.len];exact hn,fun _=>rfl,(fun h=>by cases h)⟩
  |_=>cases h
 ·subst ha
  have fin:K [x]=some r→n=1→flatX x→
    ∃ cs vs,K cs=some r∧AsRel N w μ b true cs vs∧v.cells=List.toArray vs∧vs.length=n∧(false=true→v=.agg (List.toArray vs))∧(false=false→cs=[x]∧vs=[v]):=by
   intro h1 h3 h4
   have hf:=hx.flatOf h4
   exact ⟨[x],[v],h1,⟨v,[],rfl,hx,fun _=>hf,rfl⟩,cells_flat hf,by simp [h3],(fun h=>by cases h),fun _=>⟨rfl,rfl⟩⟩
  cases x with
  |agg cs=>cases h
  |tup cs=>cases h
  |un=>cases h
  |v c=>
   have h:br (c.isFlat && n == 1) (K [.v c]) none=some r:=h
   obtain ⟨h1,h⟩:=br_none h
   simp only [Bool.and_eq_true,beq_iff_eq] at h1
   exact fin h h1.2 h1.1
  |nl | lptr _ _ | lel _ _ _ _ | lref _ _ | lsub _ _ _ _ _ | ltail _ _ _ | lel2 _ _ _ _ _ _ | func _ _=>
   obtain ⟨h5,h⟩:=br_none (x:=K _) h
   exact fin h (by simpa using h5) trivial
structure Sub (b' b:List Blk):Prop where
 len:b'.length=b.length
 at_:∀ (i:Nat) (blk:Blk),b'[i]? = some blk→alive blk.body=true→b[i]? = some blk
theorem Sub.refl (b:List Blk):Sub b b:=⟨rfl,fun _ _ h _=>h⟩
theorem Sub.trans {a b c:List Blk} (h:Sub a b) (k:Sub b c):Sub a c:=⟨h.len.trans k.len,fun i blk hi ha=>k.at_ i blk (h.at_ i blk hi ha) ha⟩
theorem Sub.own {b':List Blk} (h:Sub b' b) {x:Nat} (ho:Own μ b' x):Own μ b x:=by
 obtain ⟨i,blk,hd,hb,ha,hm,hx⟩:=ho
 exact ⟨i,blk,hd,h.at_ i blk hb ha,ha,hm,hx⟩
theorem Sub.keep {b':List Blk} (h:Sub b' b):Keep (Or F (Own μ b)) (Or F (Own μ b')) w w:=
 ⟨Nat.le_refl _,fun x _ hn=>⟨rfl,fun hc=>hn (hc.imp id h.own)⟩⟩
theorem kill_sub (b:List Blk) (i:Nat):Sub (kill b i) b:=by
 unfold kill
 split
 ·rename_i ver bd hb
  refine ⟨by simp,fun j blk hj ha=>?_⟩
  by_cases hij:i=j
  ·subst hij
   rw [List.getElem?_set_self (List.getElem?_eq_some_iff.1 hb).1] at hj
   cases hj
   simp [alive] at ha
  ·rwa [List.getElem?_set_ne hij] at hj
 ·exact .refl _
theorem kill_dead {b:List Blk} {i:Nat} {blk:Blk} (h:(kill b i)[i]? = some blk):alive blk.body=false:=by
 unfold kill at h
 split at h
 ·rename_i ver bd hb
  rw [List.getElem?_set_self (List.getElem?_eq_some_iff.1 hb).1] at h
  cases h
  rfl
 ·rename_i hb
  rw [hb] at h;cases h
mutual
theorem killA_sub:∀ (x:AVal) (b:List Blk),Sub (killA x b) b
 |.v _,b=>.refl b
 |.nl,b=>.refl b
 |.lptr _ _,b=>.refl b
 |.lel _ _ _ _,b=>.refl b
 |.lsub _ _ _ _ _,b=>.refl b
 |.ltail _ _ _,b=>.refl b
 |.lel2 _ _ _ _ _ _,b=>.refl b
 |.lref i ver,b=>kill_sub b i
 |.agg cs,b=>killL_sub cs b
 |.func _ cs,b=>killL_sub cs b
 |.tup cs,b=>killL_sub cs b
 |.un,b=>.refl b
theorem killL_sub:∀ (cs:List AVal) (b:List Blk),Sub (killL cs b) b
 |[],b=>.refl b
 |x :: r,b=>(killL_sub r (killA x b)).trans (killA_sub x b)
end
def DeadAt (b':List Blk) (i:Nat):Prop:=∀ blk,b'[i]? = some blk→alive blk.body=false
mutual
def Dead (b':List Blk):AVal→Prop
 |.lref i _=>DeadAt b' i
 |.agg cs=>DeadL b' cs
 |.func _ cs=>DeadL b' cs
 |.tup cs=>DeadL b' cs
 |_=>True
def DeadL (b':List Blk):List AVal→Prop
 |[]=>True
 |x :: r=>Dead b' x∧DeadL b' r
end
theorem DeadAt.sub {b' b:List Blk} {i:Nat} (h:DeadAt b i) (s:Sub b' b):DeadAt b' i:=fun blk hb=>by
 cases ha:alive blk.body with
 |false=>rfl
 |true=>rw [← ha];exact h blk (s.at_ i blk hb ha)
mutual
theorem Dead.sub {b' b:List Blk} (s:Sub b' b):∀ {x:AVal},Dead b x→Dead b' x
 |.v _,_=>trivial
 |.nl,_=>trivial
 |.lptr _ _,_=>trivial
 |.lel _ _ _ _,_=>trivial
 |.lsub _ _ _ _ _,_=>trivial
 |.ltail _ _ _,_=>trivial
 |.lel2 _ _ _ _ _ _,_=>trivial
 |.lref i ver,h=>DeadAt.sub h s
 |.agg cs,h=>DeadL.sub s (cs:=cs) h
 |.func _ cs,h=>DeadL.sub s (cs:=cs) h
 |.tup cs,h=>DeadL.sub s (cs:=cs) h
 |.un,_=>trivial
theorem DeadL.sub {b' b:List Blk} (s:Sub b' b):∀ {cs:List AVal},DeadL b cs→DeadL b' cs
 |[],_=>trivial
 |x :: r,h=>⟨Dead.sub s h.1,DeadL.sub s h.2⟩
end
mutual
theorem killA_dead:∀ (x:AVal) (b:List Blk),Dead (killA x b) x
 |.v _,b=>trivial
 |.nl,b=>trivial
 |.lptr _ _,b=>trivial
 |.lel _ _ _ _,b=>trivial
 |.lsub _ _ _ _ _,b=>trivial
 |.ltail _ _ _,b=>trivial
 |.lel2 _ _ _ _ _ _,b=>trivial
 |.lref i ver,b=>fun blk h=>kill_dead h
 |.agg cs,b=>killL_dead cs b
 |.func _ cs,b=>killL_dead cs b
 |.tup cs,b=>killL_dead cs b
 |.un,b=>trivial
theorem killL_dead:∀ (cs:List AVal) (b:List Blk),DeadL (killL cs b) cs
 |[],b=>trivial
 |x :: r,b=>⟨Dead.sub (killL_sub r (killA x b)) (killA_dead x b),killL_dead r (killA x b)⟩
end
mutual
theorem closeA_sound (R:Rel F w μ b) {b':List Blk} (s:Sub b' b):∀ {x:AVal} {c:CVal} {v:Value},closeA b x=some c→ARel (Or F (Own μ b)) w μ b x v→Dead b' x→
  CRel (Or F (Own μ b')) w c v
 |.v c,_,v,h,hx,_=>by
  simp only [closeA,Option.some.injEq] at h;subst h
  exact CRel.keep s.keep hx
 |.nl,_,v,h,hx,_=>by
  simp only [closeA,Option.some.injEq] at h;subst h
  obtain ⟨base,rfl⟩:=hx
  exact ⟨base,0,rfl,Nat.le_refl _,.inl rfl⟩
 |.lptr _ _,_,_,h,_,_=>by simp [closeA] at h
 |.lel _ _ _ _,_,_,h,_,_=>by simp [closeA] at h
 |.lsub _ _ _ _ _,_,_,h,_,_=>by simp [closeA] at h
 |.ltail _ _ _,_,_,h,_,_=>by simp [closeA] at h
 |.lel2 _ _ _ _ _ _,_,_,h,_,_=>by simp [closeA] at h
 |.un,_,_,h,_,_=>by simp [closeA] at h
 |.lref i ver,_,v,h,hx,hd=>by
  simp only [closeA] at h
  obtain ⟨xs,hxs,h⟩:=bind_some' h
  simp only [Option.some.injEq] at h;subst h
  obtain ⟨m,sz,base,cap,rs,S,rfl,hb,hm,_,_,hl,hc⟩:=R.arrAt hx hxs
  refine ⟨base,cap,rfl,hl,?_⟩
  rcases hc with ⟨hc,_⟩ | ⟨x,cells,e,h0,rfl,hw,hrs,hz,hnd,he⟩
  ·left;have:xs.length=0:=by omega
   exact List.length_eq_zero_iff.1 this
  ·have h0':cap ≠ 0:=by omega
   have gone:∀ y,y ∈ (Hd.arr (some (pl x 0)) xs.length cap sz rs S).own→¬ Or F (Own μ b') y∧y < w.heap.size:=by
    intro y hy
    have hown:Own μ b y:=⟨i,_,_,hb,rfl,hm,hy⟩
    refine ⟨?_,(R.fres y hown).2⟩
    rintro (hf | ⟨j,blk,hj,hbj,haj,hmj,hoj⟩)
    ·exact (R.fres y hown).1 hf
    ·have:=R.inj i j _ blk _ hj y hb (s.at_ j blk hbj haj) rfl haj hm hmj hy hoj
     subst this
     have:=hd blk hbj
     rw [haj] at this;cases this
   have hx0:=gone x (by simp [Hd.own,h0',pl])
   refine .inr ⟨x,0,sz,rfl,hx0.1,hx0.2,?_⟩
   cases hmd:m.deep with
   |false=>
    rw [hmd] at he
    exact ElRel.keepAt s.keep rfl (GEl.toE he).1
   |true=>
    rw [hmd] at he
    refine DEl.close s.keep rfl (fun y hy=>?_) (GEl.toD he)
    obtain ⟨g1,g2⟩:=gone y (by simp [Hd.own,h0',hy])
    exact ⟨rfl,g1,g2⟩
 |.agg cs,_,v,h,hx,hd=>by
  simp only [closeA] at h
  obtain ⟨xs,hxs,h⟩:=bind_some' h
  simp only [Option.some.injEq] at h;subst h
  obtain ⟨vs,rfl,hc⟩:=hx
  exact ⟨vs,rfl,closeL_sound R s hxs hc hd⟩
 |.func f cs,_,v,h,hx,hd=>by
  simp only [closeA] at h
  obtain ⟨xs,hxs,h⟩:=bind_some' h
  simp only [Option.some.injEq] at h;subst h
  obtain ⟨vs,rfl,hc⟩:=hx
  exact ⟨vs,rfl,closeL_sound R s hxs hc hd⟩
 |.tup cs,_,v,h,hx,hd=>by
  simp only [closeA] at h
  obtain ⟨xs,hxs,h⟩:=bind_some' h
  simp only [Option.some.injEq] at h;subst h
  obtain ⟨vs,rfl,hc⟩:=hx
  exact ⟨vs,rfl,closeL_sound R s hxs hc hd⟩
theorem closeL_sound (R:Rel F w μ b) {b':List Blk} (s:Sub b' b):∀ {fl:Bool} {cs:List AVal} {xs:List CVal} {vs:List Value},closeL b cs=some xs→
  AsRel (Or F (Own μ b)) w μ b fl cs vs→DeadL b' cs→CsRel (Or F (Own μ b')) w fl xs vs
 |_,[],_,vs,h,hx,_=>by
  simp only [closeL,Option.some.injEq] at h;subst h
  exact hx
 |_,x :: r,_,vs,h,hx,hd=>by
  simp only [closeL] at h
  obtain ⟨c,hc,h⟩:=bind_some' h
  obtain ⟨cs,hcs,h⟩:=bind_some' h
  simp only [Option.some.injEq] at h;subst h
  obtain ⟨u,us,rfl,hu,hf,hr⟩:=hx
  exact ⟨u,us,rfl,closeA_sound R s hc hu hd.1,hf,closeL_sound R s hcs hr hd.2⟩
end
theorem kill_upd (R:Rel F w μ b) (i:Nat):Upd F w μ b w μ (kill b i)∧Rel F w μ (kill b i):=by
 unfold kill
 split
 ·rename_i ver bd hb
  have hi:=(List.getElem?_eq_some_iff.1 hb).1
  have O:One F F w μ b w μ (b.set i ⟨ver + 1,.dead⟩) i:=by
   refine ⟨R,fun _ h=>h,by simpa using R.len,by simp,fun j hj hne=>⟨List.getElem?_set_ne (Ne.symm hne),rfl⟩,by simpa using hi,?_,Nat.le_refl _,?_,fun _ _ _=>rfl⟩
   ·intro blk h hb' hm
    rw [hb] at hb';cases hb'
    exact ⟨_,h,List.getElem?_set_self hi,hm,⟨Nat.le_succ _,id,fun _ h=>h,fun e=>by simp at e,fun _=>⟨rfl,rfl⟩,fun _=>⟨rfl,fun h=>by simp [alive] at h⟩,fun e=>by simp at e⟩⟩
   ·intro blk' h' x hb' hm ha
    rw [List.getElem?_set_self hi] at hb';cases hb'
    simp [alive] at ha
  refine ⟨O.upd,O.done fun blk' h' hb' hm=>?_⟩
  rw [List.getElem?_set_self hi] at hb';cases hb'
  trivial
 ·exact ⟨.refl R,R⟩
mutual
theorem killA_upd:∀ (x:AVal) {b:List Blk},Rel F w μ b→Upd F w μ b w μ (killA x b)∧Rel F w μ (killA x b)
 |.v _,b,R=>⟨.refl R,R⟩
 |.nl,b,R=>⟨.refl R,R⟩
 |.lptr _ _,b,R=>⟨.refl R,R⟩
 |.lel _ _ _ _,b,R=>⟨.refl R,R⟩
 |.lsub _ _ _ _ _,b,R=>⟨.refl R,R⟩
 |.ltail _ _ _,b,R=>⟨.refl R,R⟩
 |.lel2 _ _ _ _ _ _,b,R=>⟨.refl R,R⟩
 |.lref i ver,b,R=>kill_upd R i
 |.agg cs,b,R=>killL_upd cs R
 |.func _ cs,b,R=>killL_upd cs R
 |.tup cs,b,R=>killL_upd cs R
 |.un,b,R=>⟨.refl R,R⟩
theorem killL_upd:∀ (cs:List AVal) {b:List Blk},Rel F w μ b→Upd F w μ b w μ (killL cs b)∧Rel F w μ (killL cs b)
 |[],b,R=>⟨.refl R,R⟩
 |x :: r,b,R=>by
  obtain ⟨U,R1⟩:=killA_upd x R
  obtain ⟨V,R2⟩:=killL_upd r R1
  exact ⟨U.trans V,R2⟩
end
end
end Go.Proofs.Ytognghbhdalckaa.Abs
namespace Go.Proofs.Ytognghbhdalckaa.Abs
open Go
variable [Glob]
section
variable {P:Program} {w:World} {F N:Nat→Prop} {μ:List Hd} {b:List Blk}
theorem push_off {α:Type} {l:List α} {i:Nat} {x:α} (hi:i < (l ++ [x]).length) (hne:i ≠ l.length):(l ++ [x])[i]? = l[i]?:=by
 simp at hi
 rw [List.getElem?_append_left (by omega)]
theorem push_at {α:Type} {l:List α} {x:α}:(l ++ [x])[l.length]? = some x:=by simp
theorem pushμ_at (R:Rel F w μ b) {h:Hd}:(μ ++ [h])[b.length]? = some h:=by rw [← R.len];exact push_at
theorem push_one {G:Nat→Prop} {w':World} {blk:Blk} {h:Hd} (R:Rel F w μ b) (hG:∀ x,G x→F x) (hs:w.heap.size ≤ w'.heap.size)
  (hm:∀ x,x < w.heap.size→w'.heap[x]? = w.heap[x]?) (hn:∀ x,x ∈ h.own→x < w'.heap.size∧(w.heap.size ≤ x∨(F x∧¬ G x∧¬ Glob.ids x))) :
  One F G w μ b w' (μ ++ [h]) (b ++ [blk]) b.length:=by
 refine ⟨R,hG,by simp [R.len],by simp,fun i hi hne=>⟨push_off hi hne,push_off (by simp [R.len];simpa using hi) (by rw [R.len];exact hne)⟩,by simp,?_,hs,?_,fun x hx _=>hm x hx⟩
 ·intro blk0 h0 hb hm0
  simp at hb
 ·intro blk' h' x hb hm' _ ho
  rw [pushμ_at R] at hm';cases hm'
  exact ⟨(hn x ho).1,(hn x ho).2.imp id .inr⟩
theorem push_post {G:Nat→Prop} {w':World} {blk:Blk} {h:Hd} {x:AVal} {v:Value} (R:Rel F w μ b) (hG:∀ x,G x→F x) (hs:w.heap.size ≤ w'.heap.size)
  (hm:∀ x,x < w.heap.size→w'.heap[x]? = w.heap[x]?) (hn:∀ x,x ∈ h.own→x < w'.heap.size∧(w.heap.size ≤ x∨(F x∧¬ G x∧¬ Glob.ids x)))
  (hos:w'.os=w.os) (ht:w'.tape=w.tape) (ho:w'.output=w.output)
  (hB:Upd2 F G w μ b w' (μ ++ [h]) (b ++ [blk])→BRel (Or G (Own (μ ++ [h]) (b ++ [blk]))) w' (μ ++ [h]) (b ++ [blk]) h blk.body)
  (hv:ARel (Or G (Own (μ ++ [h]) (b ++ [blk]))) w' (μ ++ [h]) (b ++ [blk]) x v) :
  Post2 F G w μ b w' (μ ++ [h]) (b ++ [blk]) x v:=by
 have O:=push_one (blk:=blk) R hG hs hm hn
 refine ⟨O.upd,O.done ?_,hv,O.fr hos ht ho⟩
 intro blk' h' hb hm'
 rw [push_at] at hb;cases hb
 rw [pushμ_at R] at hm';cases hm'
 exact hB O.upd
theorem alloc_heap (w:World) (o:Obj):(w.alloc o).heap[w.heap.size]? = some o:=by
 show (w.heap.push o)[w.heap.size]? = _
 simp
theorem alloc_old (w:World) (o:Obj) (x:Nat) (h:x < w.heap.size):(w.alloc o).heap[x]? = w.heap[x]?:=by
 show (w.heap.push o)[x]? = _
 rw [Array.getElem?_push,if_neg (by omega)]
theorem alloc_size (w:World) (o:Obj):(w.alloc o).heap.size=w.heap.size + 1:=by
 show (w.heap.push o).size=_
 simp
theorem box_post {cs:List AVal} {vs:List Value} {e:TypeId} (R:Rel F w μ b) (ha:AsRel (Or F (Own μ b)) w μ b true cs vs) :
  ∃ μ',Post F w μ b (w.alloc (.cells vs.toArray e (0,0))) μ' (b ++ [⟨0,.box cs⟩]) (.lptr b.length 0) (.pointer (some (pl w.heap.size 0))):=by
 refine ⟨μ ++ [.box w.heap.size],push_post R (fun _ h=>h) (by rw [alloc_size];omega) (fun x hx=>alloc_old w _ x hx) ?_ rfl rfl rfl ?_ ?_⟩
 ·intro x hx;simp [Hd.own] at hx;subst hx;rw [alloc_size];exact ⟨by omega,.inl (Nat.le_refl _)⟩
 ·intro U
  exact ⟨w.heap.size,vs,e,rfl,alloc_heap w _,AsRel.upd U ha⟩
 ·exact ⟨w.heap.size,pushμ_at R,rfl⟩
theorem wSl_sound {R':Type} {x:AVal} {v:Value} {K:List CVal→Option R'} {r:R'} (R:Rel F w μ b) (hx:ARel (Or F (Own μ b)) w μ b x v) (h:wSl b x K=some r) :
  ∃ ys base cap,K ys=some r∧v=.slice base ys.length cap∧ys.length ≤ cap∧(ys=[]∨∃ z o sz d S,base=some (pl z o)∧z < w.heap.size∧GEl d (Or F (Own μ b)) w sz z o S ys):=by
 unfold wSl at h
 cases x with
 |v c=>
  obtain ⟨ys,hy,h⟩:=bind_some' (x:=c.asSl) h
  cases c<;>simp [CVal.asSl] at hy
  subst hy
  obtain ⟨base,cap,rfl,hl,hc⟩:=hx
  exact ⟨_,base,cap,h,rfl,hl,hc.imp id fun ⟨z,o,sz,h1,_,h2,h3⟩=>⟨z,o,sz,false,[],h1,h2,GEl.ofE h3⟩⟩
 |nl=>
  obtain ⟨base,rfl⟩:=hx
  exact ⟨[],base,0,h,rfl,Nat.le_refl _,.inl rfl⟩
 |lref i ver=>
  obtain ⟨ys,hy,h⟩:=bind_some' (x:=arrOf b i ver) h
  obtain ⟨m,sz,base,cap,rs,S,rfl,hb,hm,_,_,hl,hc⟩:=R.arrAt hx hy
  refine ⟨ys,base,cap,h,rfl,hl,?_⟩
  rcases hc with ⟨hc,_⟩ | ⟨z,cells,e,_,rfl,hw,_,_,_,he⟩
  ·left;exact List.length_eq_zero_iff.1 (by omega)
  ·exact .inr ⟨z,0,sz,_,S,rfl,(Array.getElem?_eq_some_iff.1 hw).1,he⟩
 |lsub i ver sv idx off=>
  obtain ⟨ys,hy,h⟩:=bind_some' (x:=subOf b i ver sv idx off) h
  obtain ⟨xs,m,sz,x',cap,rs,S,cells,e,c,hv,T,hxs,hc,hdc,hdeep,hsv,hb,hm,hmd,hszb,hl,h0,hw,hrs,hz,hnd,hel,hcell,hT,hdr⟩:=R.subAt hy
  have:=ARel.sub hx hb hm hdeep hsv hc hdc hcell
  subst this
  obtain ⟨base,cap',rfl,hl2,hor⟩:=hdr
  refine ⟨ys,base,cap',h,rfl,hl2,?_⟩
  rcases hor with ⟨hc,_⟩ | ⟨z,cells2,e2,sz2,S2,_,rfl,_,hw2,_,hel2⟩
  ·left;exact List.length_eq_zero_iff.1 (by omega)
  ·exact .inr ⟨z,0,sz2,true,S2,rfl,(Array.getElem?_eq_some_iff.1 hw2).1,GEl.ofD hel2⟩
 |_=>cases h
theorem cell_heap {w1:World} (h:w1.heap=w.heap) (a:Addr):w1.cell? a=w.cell? a:=by simp only [World.cell?,h]
theorem run_firstCells {ys:List CVal} {base:Option Addr} {n:Nat} {agg:Bool} {d:Bool} (hc:ys=[]∨∃ z o sz S,base=some (pl z o)∧z < w.heap.size∧GEl d N w sz z o S ys)
  (hf:ys.all (CVal.fits agg n)=true) :
  ∃ us S,GEs d N w n S ys us∧(S=[]∨∃ z o sz,base=some (pl z o)∧GEl d N w sz z o S ys)∧∀ (cap:Nat) (w1:World),w1.heap=w.heap→(Builtin.firstCells n ys.length (.slice base ys.length cap)).run P w1=.ok (flatC us).toArray w1:=by
 by_cases hy:ys=[]
 ·subst hy
  refine ⟨[],[],⟨rfl,rfl⟩,.inl rfl,fun cap w1 _=>?_⟩
  cases base with
  |none=>rfl
  |some a=>simp [Builtin.firstCells,loadCells,loadCellsFrom,flatC]
 ·obtain ⟨z,o,sz,S,rfl,hz,he⟩:=hc.resolve_left hy
  obtain ⟨us,hu,hcell⟩:=he.out
  have e:=hu.size hf hy
  subst e
  refine ⟨us,S,hu,.inr ⟨z,o,sz,rfl,he⟩,fun cap w1 hw=>?_⟩
  have hl:=hu.flat_len
  have:=run_loadCells_list (P:=P) w1 (pl z o) (flatC us) fun j v hj=>by rw [pl_add,cell_heap hw];exact hcell j v hj
  simp only [Builtin.firstCells]
  rw [← hl];exact this
end
end Go.Proofs.Ytognghbhdalckaa.Abs
namespace Go.Proofs.Ytognghbhdalckaa.Abs
open Go
variable [Glob]
section
variable {P:Program} {w:World} {F N:Nat→Prop} {μ:List Hd} {b:List Blk} {R':Type} {r:R'}
def FS (F:Nat→Prop) (S:List Nat) (x:Nat):Prop:=F x∨x ∈ S
theorem FS_nil:FS F []=F:=by funext x;simp [FS]
theorem FS_append {S T:List Nat}:FS (FS F S) T=FS F (S ++ T):=by funext x;simp [FS,or_assoc]
structure Taken (F:Nat→Prop) (w:World) (μ:List Hd) (b:List Blk) (S:List Nat) (b':List Blk):Prop where
 upd:Upd2 F (FS F S) w μ b w μ b'
 rel:Rel (FS F S) w μ b'
 own:∀ x ∈ S,Own μ b x
 nodup:S.Nodup
 sub:Sub b' b
theorem Taken.nil (R:Rel F w μ b):Taken F w μ b [] b:=by
 refine ⟨?_,?_,by simp,List.nodup_nil,.refl b⟩
 ·rw [FS_nil];exact .refl R
 ·rw [FS_nil];exact R
theorem Taken.trans {S T:List Nat} {b1 b2:List Blk} (x:Taken F w μ b S b1) (y:Taken (FS F S) w μ b1 T b2):Taken F w μ b (S ++ T) b2:=by
 refine ⟨?_,?_,fun z hz=>?_,?_,y.sub.trans x.sub⟩
 ·rw [← FS_append];exact x.upd.trans2 (fun _ h=>.inl h) y.upd
 ·rw [← FS_append];exact y.rel
 ·rcases List.mem_append.1 hz with h | h
  ·exact x.own z h
  ·exact x.sub.own (y.own z h)
 ·rw [List.nodup_append]
  exact ⟨x.nodup,y.nodup,fun a ha c hc e=>(x.rel.fres a (by rw [e];exact y.own c hc)).1 (.inr ha)⟩
theorem Rel.take {S:List Nat} {b':List Blk} (R:Rel F w μ b) (R1:Rel F w μ b') (s:Sub b' b) (U:Upd F w μ b w μ b') (hS:∀ x ∈ S,Own μ b x∧¬ Own μ b' x) (hn:S.Nodup):Taken F w μ b S b':=by
 have U2:Upd2 F (FS F S) w μ b w μ b':=by
  refine ⟨U.len0,U.len,U.old,Nat.le_refl _,fun x hx=>⟨?_,(R1.fres x hx).2,.inr (.inl (s.own hx))⟩,fun x hx=>?_,fun _ _ _ _=>rfl⟩
  ·rintro (h | h)
   ·exact (R1.fres x hx).1 h
   ·exact (hS x h).2 hx
  ·rcases hx with h | h
   ·exact .inr (.inl h)
   ·exact .inr (.inr (hS x h).1)
 refine ⟨U2,⟨R1.len,fun i blk h hb hm=>?_,R1.inj,fun x hx=>⟨(U2.own2 x hx).1,(R1.fres x hx).2⟩,⟨fun x hx=>?_,R1.fbk.idl,R1.fbk.ok⟩,R1.oid⟩,fun x hx=>(hS x hx).1,hn,s⟩
 ·cases ha:alive blk.body with
  |false=>cases hb':blk.body<;>simp [hb',alive] at ha;trivial
  |true=>exact BRel.upd U2 (fun _ _ _=>rfl) (R.blk i blk h (s.at_ i blk hb ha) hm)
 ·rcases hx with h | h
  ·exact R1.fbk.lt x h
  ·exact (R.fres x (hS x h).1).2
theorem Taken.kill {i:Nat} {blk:Blk} {h:Hd} (R:Rel F w μ b) (hb:b[i]? = some blk) (hm:μ[i]? = some h) (ha:alive blk.body=true) (hn:h.own.Nodup):Taken F w μ b h.own (Abs.kill b i):=by
 obtain ⟨U,R1⟩:=kill_upd R i
 refine R.take R1 (kill_sub b i) U (fun x hx=>⟨⟨i,blk,h,hb,ha,hm,hx⟩,?_⟩) hn
 rintro ⟨j,bj,hj,hbj,haj,hmj,hoj⟩
 have:=R.inj i j blk bj h hj x hb ((kill_sub b i).at_ j bj hbj haj) ha haj hm hmj hx hoj
 subst this
 have:=kill_dead hbj
 rw [haj] at this;cases this
theorem own_arr {x len cap sz rs:Nat} {S:List Nat} (h:0 < cap):(Hd.arr (some (pl x 0)) len cap sz rs S).own=x :: S:=by
 have:cap ≠ 0:=by omega
 simp [Hd.own,this,pl]
theorem own_arr0 {base:Option Addr} {len sz rs:Nat}:(Hd.arr base len 0 sz rs []).own=[]:=by
 cases base<;>simp [Hd.own]
def DSlD (d:Bool) (N:Nat→Prop) (w:World) (sz:Nat) (S:List Nat) (xs:List CVal) (v:Value):Prop:=
 ∃ base cap,v=.slice base xs.length cap∧xs.length ≤ cap∧((cap=0∧S=[])∨∃ x cells e S',0 < cap∧base=some (pl x 0)∧S=x :: S'∧w.heap[x]? = some (.cells cells e (0,0))∧cap * sz ≤ cells.size∧GEl d N w sz x 0 S' xs)
def DSl (N:Nat→Prop) (w:World) (sz:Nat) (S:List Nat) (xs:List CVal) (v:Value):Prop:=DSlD true N w sz S xs v
theorem DSlD.keep {d:Bool} {N':Nat→Prop} {w':World} (K:Keep N N' w w') {sz:Nat} {S:List Nat} {xs:List CVal} {v:Value} (hm:∀ x ∈ S,w'.heap[x]? = w.heap[x]?) (h:DSlD d N w sz S xs v):DSlD d N' w' sz S xs v:=by
 obtain ⟨base,cap,hv,hl,h⟩:=h
 refine ⟨base,cap,hv,hl,h.imp id ?_⟩
 rintro ⟨x,cells,e,S',h0,hb,rfl,hw,hz,he⟩
 exact ⟨x,cells,e,S',h0,hb,rfl,by rw [hm x (by simp)];exact hw,hz,GEl.keep K (hm x (by simp)) (fun y hy=>hm y (by simp [hy])) he⟩
theorem DSl.toD {sz:Nat} {S:List Nat} {xs:List CVal} {v:Value} (h:DSl N w sz S xs v):DRel N w S (.sl xs) v:=by
 obtain ⟨base,cap,hv,hl,h⟩:=h
 refine ⟨base,cap,hv,hl,h.imp id ?_⟩
 rintro ⟨x,cells,e,S',h0,hb,hS,hw,hz,he⟩
 exact ⟨x,cells,e,sz,S',h0,hb,hS,hw,hz,GEl.toD he⟩
theorem DSl.keep {N':Nat→Prop} {w':World} (K:Keep N N' w w') {sz:Nat} {S:List Nat} {xs:List CVal} {v:Value} (hm:∀ x ∈ S,w'.heap[x]? = w.heap[x]?) (h:DSl N w sz S xs v):DSl N' w' sz S xs v:=by
 obtain ⟨base,cap,hv,hl,h⟩:=h
 refine ⟨base,cap,hv,hl,h.imp id ?_⟩
 rintro ⟨x,cells,e,S',h0,hb,rfl,hw,hz,he⟩
 exact ⟨x,cells,e,S',h0,hb,rfl,by rw [hm x (by simp)];exact hw,hz,GEl.keep K (hm x (by simp)) (fun y hy=>hm y (by simp [hy])) he⟩
def DCsT (P:Program) (N:Nat→Prop) (w:World):List CK→List Nat→List CVal→List Value→Prop
 |[],S,cs,vs=>S=[]∧cs=[]∧vs=[]
 |.sl e :: ks,S,cs,vs=>∃ S1 S2 xs l u us,S=S1 ++ S2∧cs=.sl xs :: l∧vs=u :: us∧DSl N w (P.cellsOf e) S1 xs u∧DCsT P N w ks S2 l us
 |k :: ks,S,cs,vs=>∃ c l u us,cs=c :: l∧vs=u :: us∧k.ok c=true∧CRel N w c u∧DCsT P N w ks S l us
theorem DCsT.keep {N':Nat→Prop} {w':World} (K:Keep N N' w w'):∀ {ks:List CK} {S:List Nat} {cs:List CVal} {vs:List Value},(∀ x ∈ S,w'.heap[x]? = w.heap[x]?)→DCsT P N w ks S cs vs→DCsT P N' w' ks S cs vs
 |[],_,_,_,_,h=>h
 |.sl e :: ks,_,_,_,hm,⟨S1,S2,xs,l,u,us,hS,hc,hv,h,hr⟩=>by
  subst hS
  exact ⟨S1,S2,xs,l,u,us,rfl,hc,hv,h.keep K fun x hx=>hm x (by simp [hx]),DCsT.keep K (fun x hx=>hm x (by simp [hx])) hr⟩
 |.int k :: ks,_,_,_,hm,⟨c,l,u,us,hc,hv,hk,h,hr⟩=>⟨c,l,u,us,hc,hv,hk,CRel.keep K h,DCsT.keep K hm hr⟩
 |.bool :: ks,_,_,_,hm,⟨c,l,u,us,hc,hv,hk,h,hr⟩=>⟨c,l,u,us,hc,hv,hk,CRel.keep K h,DCsT.keep K hm hr⟩
 |.str :: ks,_,_,_,hm,⟨c,l,u,us,hc,hv,hk,h,hr⟩=>⟨c,l,u,us,hc,hv,hk,CRel.keep K h,DCsT.keep K hm hr⟩
 |.any :: ks,_,_,_,hm,⟨c,l,u,us,hc,hv,hk,h,hr⟩=>⟨c,l,u,us,hc,hv,hk,CRel.keep K h,DCsT.keep K hm hr⟩
theorem DCsT.pt {k:CK} (hk:k.flat=true) {ks:List CK} {S:List Nat} {cs:List CVal} {vs:List Value}:DCsT P N w (k :: ks) S cs vs↔∃ c l u us,cs=c :: l∧vs=u :: us∧k.ok c=true∧CRel N w c u∧DCsT P N w ks S l us:=by
 cases k<;>first | exact Iff.rfl | cases hk
theorem DCsT.toD:∀ {ks:List CK} {S:List Nat} {cs:List CVal} {vs:List Value},DCsT P N w ks S cs vs→DCs N w true S cs vs
 |[],_,_,_,⟨hS,hc,hv⟩=>by subst hc;exact ⟨hS,hv⟩
 |.sl e :: ks,_,_,_,⟨S1,S2,xs,l,u,us,hS,hc,hv,h,hr⟩=>by
  subst hc
  have hf:flat u=true:=by obtain ⟨_,_,rfl,_⟩:=h;rfl
  exact ⟨S1,S2,u,us,hS,hv,h.toD,fun _=>hf,DCsT.toD hr⟩
 |.int k :: ks,S,_,_,⟨c,l,u,us,hc,hv,hk,h,hr⟩=>by subst hc;exact ⟨[],S,u,us,rfl,hv,(DRel.pt (CK.pt hk)).2 ⟨rfl,h⟩,fun _=>CRel.flat h (CK.isFlat hk),DCsT.toD hr⟩
 |.bool :: ks,S,_,_,⟨c,l,u,us,hc,hv,hk,h,hr⟩=>by subst hc;exact ⟨[],S,u,us,rfl,hv,(DRel.pt (CK.pt hk)).2 ⟨rfl,h⟩,fun _=>CRel.flat h (CK.isFlat hk),DCsT.toD hr⟩
 |.str :: ks,S,_,_,⟨c,l,u,us,hc,hv,hk,h,hr⟩=>by subst hc;exact ⟨[],S,u,us,rfl,hv,(DRel.pt (CK.pt hk)).2 ⟨rfl,h⟩,fun _=>CRel.flat h (CK.isFlat hk),DCsT.toD hr⟩
 |.any :: ks,S,_,_,⟨c,l,u,us,hc,hv,hk,h,hr⟩=>by subst hc;exact ⟨[],S,u,us,rfl,hv,(DRel.pt (CK.pt hk)).2 ⟨rfl,h⟩,fun _=>CRel.flat h (CK.isFlat hk),DCsT.toD hr⟩
theorem DCsT.len:∀ {ks:List CK} {S:List Nat} {cs:List CVal} {vs:List Value},DCsT P N w ks S cs vs→cs.length=ks.length∧vs.length=ks.length
 |[],_,_,_,⟨hS,hc,hv⟩=>by subst hc hv;exact ⟨rfl,rfl⟩
 |.sl e :: ks,_,_,_,⟨S1,S2,xs,l,u,us,hS,hc,hv,h,hr⟩=>by subst hc hv;simp [DCsT.len hr]
 |.int k :: ks,S,_,_,⟨c,l,u,us,hc,hv,hk,h,hr⟩=>by subst hc hv;simp [DCsT.len hr]
 |.bool :: ks,S,_,_,⟨c,l,u,us,hc,hv,hk,h,hr⟩=>by subst hc hv;simp [DCsT.len hr]
 |.str :: ks,S,_,_,⟨c,l,u,us,hc,hv,hk,h,hr⟩=>by subst hc hv;simp [DCsT.len hr]
 |.any :: ks,S,_,_,⟨c,l,u,us,hc,hv,hk,h,hr⟩=>by subst hc hv;simp [DCsT.len hr]
def DT (P:Program) (t:TypeId) (N:Nat→Prop) (w:World) (S:List Nat) (c:CVal) (v:Value):Prop:=
 match aggT P t with
 |true=>∃ l vs,c=.agg l∧v=.agg (List.toArray vs)∧DCsT P N w (cks P t) S l vs
 |false=>(cks P t).length=1∧DCsT P N w (cks P t) S [c] [v]
theorem DT.keep {N':Nat→Prop} {w':World} (K:Keep N N' w w') {t:TypeId} {S:List Nat} {c:CVal} {v:Value} (hm:∀ x ∈ S,w'.heap[x]? = w.heap[x]?) (h:DT P t N w S c v):DT P t N' w' S c v:=by
 unfold DT at *
 cases ha:aggT P t with
 |true=>
  rw [ha] at h
  obtain ⟨l,vs,h1,h2,h3⟩:=h
  exact ⟨l,vs,h1,h2,h3.keep K hm⟩
 |false=>
  rw [ha] at h
  exact ⟨h.1,h.2.keep K hm⟩
theorem DCs.one {S:List Nat} {c:CVal} {v:Value} (h:DCs N w true S [c] [v]):DRel N w S c v∧flat v=true:=by
 obtain ⟨S1,S2,u,us,rfl,e,hc,hf,hr⟩:=h
 simp at e
 obtain ⟨rfl,rfl⟩:=e
 obtain ⟨rfl,_⟩:=hr
 exact ⟨by simpa using hc,hf rfl⟩
theorem DT.toD {t:TypeId} {S:List Nat} {c:CVal} {v:Value} (h:DT P t N w S c v):DRel N w S c v∧noTup c=true:=by
 unfold DT at h
 cases ha:aggT P t with
 |true=>
  rw [ha] at h
  obtain ⟨l,vs,rfl,rfl,h3⟩:=h
  exact ⟨⟨vs,rfl,h3.toD⟩,rfl⟩
 |false=>
  rw [ha] at h
  obtain ⟨hc,hfl⟩:=DCs.one h.2.toD
  refine ⟨hc,?_⟩
  cases c with
  |tup l=>obtain ⟨z,rfl,_⟩:=hc;simp [flat] at hfl
  |_=>rfl
theorem Taken.arrD {d:Bool} {i ver:Nat} {xs:List CVal} {v:Value} (R:Rel F w μ b) (hx:ARel N w μ b (.lref i ver) v) (h:arrOf b i ver=some xs) (hd:(mdOf b i).deep=d) (hf:(mdOf b i).fix=false) :
  ∃ S,Taken F w μ b S (Abs.kill b i)∧DSlD d (Or (FS F S) (Own μ (Abs.kill b i))) w (szOf b i) S xs v:=by
 obtain ⟨m,sz,base,cap,rs,S,rfl,hb,hm,hmd,hszb,hl,hc⟩:=R.arrAt hx h
 rw [hmd] at hd hf
 rcases hc with ⟨rfl,rfl⟩ | ⟨x,cells,e,h0,rfl,hw,hrs,hz,hnd,he⟩
 ·have T:=Taken.kill R hb hm rfl (by rw [own_arr0];exact List.nodup_nil)
  rw [own_arr0] at T
  exact ⟨[],T,base,0,rfl,hl,.inl ⟨rfl,rfl⟩⟩
 ·have T:=Taken.kill R hb hm rfl (by rw [own_arr h0];exact hnd)
  rw [own_arr h0] at T
  rw [hd] at he
  have he':=GEl.keep T.upd.keep rfl (fun _ _=>rfl) he
  exact ⟨x :: S,T,_,cap,rfl,hl,.inr ⟨x,cells,e,S,h0,rfl,rfl,hw,by rw [hszb,hrs];exact hz hf,by rw [hszb];exact he'⟩⟩
theorem Taken.arr {i ver:Nat} {xs:List CVal} {v:Value} (R:Rel F w μ b) (hx:ARel N w μ b (.lref i ver) v) (h:arrOf b i ver=some xs) (hd:(mdOf b i).deep=true) (hf:(mdOf b i).fix=false) :
  ∃ S,Taken F w μ b S (Abs.kill b i)∧DSl (Or (FS F S) (Own μ (Abs.kill b i))) w (szOf b i) S xs v:=Taken.arrD R hx h hd hf
theorem takeCellsK_sound:∀ {ks:List CK} {xs:List AVal} {vs:List Value} {F:Nat→Prop} {b:List Blk} {K:List CVal→List Blk→Option R'},Rel F w μ b→AsRel (Or F (Own μ b)) w μ b true xs vs→takeCellsK P ks xs b K=some r→
  ∃ l b' S,K l b'=some r∧Taken F w μ b S b'∧DCsT P (Or (FS F S) (Own μ b')) w ks S l vs
 |[],[],vs,F,b,K,R,ha,h=>⟨[],b,[],h,.nil R,rfl,rfl,ha⟩
 |[],_ :: _,_,_,_,_,_,_,h=>by simp [takeCellsK] at h
 |_ :: _,[],_,_,_,_,_,_,h=>by simp [takeCellsK] at h
 |k :: ks,x :: xs,vs,F,b,K,R,ha,h=>by
  obtain ⟨u,us,rfl,hx,hf,ha⟩:=ha
  simp only [takeCellsK] at h
  by_cases hk:k.flat=true
  ·cases x with
   |v c=>
    have h:(wTyp k c fun c=>takeCellsK P ks xs b fun l b=>K (c :: l) b)=some r:=by
     cases k<;>first | (cases hk;done) | exact h
    obtain ⟨hok,h⟩:=wTyp_sound (k:=k) (d:=c) h
    obtain ⟨l,b2,S2,h,T2,hds⟩:=takeCellsK_sound R ha h
    exact ⟨c :: l,b2,S2,h,T2,(DCsT.pt hk).2 ⟨c,l,u,us,rfl,rfl,hok,CRel.keep T2.upd.keep hx,hds⟩⟩
   |_=>cases k<;>first | (cases hk;done) | cases h
  ·cases k with
   |sl e=>
    have fin:∀ {c:List CVal} {b1:List Blk} {S:List Nat},(takeCellsK P ks xs b1 fun l b=>K (.sl c :: l) b)=some r→Taken F w μ b S b1→DSl (Or (FS F S) (Own μ b1)) w (P.cellsOf e) S c u→
      ∃ l b' S,K l b'=some r∧Taken F w μ b S b'∧DCsT P (Or (FS F S) (Own μ b')) w (.sl e :: ks) S l (u :: us):=by
     intro c b1 S h T1 hd
     obtain ⟨l,b2,S2,h,T2,hds⟩:=takeCellsK_sound T1.rel (AsRel.upd T1.upd ha) h
     refine ⟨.sl c :: l,b2,S ++ S2,h,T1.trans T2,S,S2,c,l,u,us,rfl,rfl,rfl,?_,?_⟩
     ·rw [← FS_append];exact hd.keep T2.upd.keep fun _ _=>rfl
     ·rw [← FS_append];exact hds
    cases x with
    |nl=>
     obtain ⟨base,rfl⟩:=hx
     exact fin h (.nil R) ⟨base,0,rfl,Nat.le_refl _,.inl ⟨rfl,rfl⟩⟩
    |lref i ver=>
     obtain ⟨xs',hxs,h⟩:=bind_some' (x:=arrOf b i ver) h
     obtain ⟨h1,h⟩:=br_none h
     simp only [Bool.and_eq_true,Bool.not_eq_true',beq_iff_eq] at h1
     obtain ⟨S,T,hd⟩:=Taken.arr R hx hxs h1.1.1 h1.1.2
     rw [h1.2] at hd
     exact fin h T hd
    |_=>cases h
   |_=>exact absurd rfl hk
theorem takeK_sound {t:TypeId} {x:AVal} {v:Value} {K:CVal→List Blk→Option R'} (R:Rel F w μ b) (hx:ARel (Or F (Own μ b)) w μ b x v) (h:takeK P t x b K=some r) :
  ∃ c b' S,K c b'=some r∧Taken F w μ b S b'∧DT P t (Or (FS F S) (Own μ b')) w S c v∧v.cells.size=P.cellsOf t∧c.cells.length=P.cellsOf t:=by
 unfold takeK at h
 obtain ⟨cs,vs,h,hcs,hvs,hn,hag,hna⟩:=wCells_sound hx h
 obtain ⟨hkl,h⟩:=br_none h
 obtain ⟨l,b',S,h,T,hd⟩:=takeCellsK_sound R hcs h
 refine ⟨_,b',S,h,T,?_⟩
 have hkl:(cks P t).length=P.cellsOf t:=by simpa using hkl
 have hsz:v.cells.size=P.cellsOf t:=by rw [hvs];simpa using hn
 have hll:=hd.len
 unfold packC DT
 cases ha:aggT P t with
 |true=>
  have:=hag ha
  subst this
  exact ⟨⟨l,vs,rfl,rfl,hd⟩,hsz,by rw [← hkl,← hll.1];rfl⟩
 |false=>
  obtain ⟨rfl,rfl⟩:=hna ha
  have h1:(cks P t).length=1:=by rw [← hll.2];rfl
  obtain ⟨c,rfl⟩:∃ c,l=[c]:=List.length_eq_one_iff.1 (by rw [hll.1,h1])
  refine ⟨⟨h1,hd⟩,hsz,?_⟩
  obtain ⟨hc,hfl⟩:=DCs.one hd.toD
  simp only [cond_false,List.headD_cons]
  rw [← hkl,h1]
  cases c with
  |agg l=>obtain ⟨z,rfl,_⟩:=hc;simp [flat] at hfl
  |_=>rfl
theorem takeAllK_sound {e:TypeId}:∀ {l:List AVal} {vs:List Value} {F:Nat→Prop} {b:List Blk} {K:List CVal→List Blk→Option R'},Rel F w μ b→AsRel (Or F (Own μ b)) w μ b false l vs→takeAllK P e l b K=some r→
  ∃ cs b' S,K cs b'=some r∧Taken F w μ b S b'∧GEs true (Or (FS F S) (Own μ b')) w (P.cellsOf e) S cs vs
 |[],vs,F,b,K,R,ha,h=>⟨[],b,[],h,.nil R,rfl,ha⟩
 |x :: l,vs,F,b,K,R,ha,h=>by
  obtain ⟨u,us,rfl,hx,_,ha⟩:=ha
  simp only [takeAllK] at h
  obtain ⟨c,b1,S,h,T1,hd,hz,_⟩:=takeK_sound R hx h
  obtain ⟨hd,ht⟩:=hd.toD
  obtain ⟨cs,b2,S2,h,T2,hds⟩:=takeAllK_sound T1.rel (AsRel.upd T1.upd ha) h
  refine ⟨c :: cs,b2,S ++ S2,h,T1.trans T2,S,S2,u,us,rfl,rfl,ht,?_,hz,?_⟩
  ·rw [← FS_append];exact DRel.keep T2.upd.keep (fun _ _=>rfl) hd
  ·rw [← FS_append];exact hds
theorem Upd2.shrink {F G H:Nat→Prop} {w w1 w2:World} {μ μ1 μ2:List Hd} {b b1 b2:List Blk} (hGF:∀ x,G x→F x) (hHG:∀ x,H x→G x) (U:Upd2 F G w μ b w1 μ1 b1) (V:Upd2 G H w1 μ1 b1 w2 μ2 b2) :
  Upd2 F H w μ b w2 μ2 b2:=by
 refine ⟨U.len0,V.len,?_,Nat.le_trans U.size V.size,?_,fun x hx=>.inr (.inl (hGF x (hHG x hx))),?_⟩
 ·intro i blk h hb hm
  obtain ⟨blk1,h1,hb1,hm1,v1⟩:=U.old i blk h hb hm
  obtain ⟨blk2,h2,hb2,hm2,v2⟩:=V.old i blk1 h1 hb1 hm1
  exact ⟨blk2,h2,hb2,hm2,v1.trans v2⟩
 ·intro x hx
  obtain ⟨h1,h2,h3⟩:=V.own2 x hx
  refine ⟨h1,h2,?_⟩
  rcases h3 with h3 | h3 | h3
  ·have:=U.size;exact .inl (by omega)
  ·exact (U.own2 x h3).2.2
  ·exact .inr (.inr (hGF x h3))
 ·intro x hx hn hfh
  rw [V.mem2 x (Nat.lt_of_lt_of_le hx U.size) (fun h=>?_) (fun h=>hfh ⟨hGF x h.1,h.2⟩),U.mem2 x hx hn fun h=>hfh ⟨h.1,fun hh=>h.2 (hHG x hh)⟩]
  obtain ⟨g1,_,g3⟩:=U.own2 x h
  rcases g3 with h' | h' | h'
  ·omega
  ·exact hn h'
  ·exact hfh ⟨h',fun hh=>g1 (hHG x hh)⟩
theorem lay_arrD {d:Bool} {S T:List Nat} {sz:Nat} {xs:List CVal} {v:Value} (R:Rel (FS F (S ++ T)) w μ b) (hn:(S ++ T).Nodup) (hS:∀ x ∈ S ++ T,¬ F x∧¬ Glob.ids x)
  (hd:DSlD d (Or (FS F (S ++ T)) (Own μ b)) w sz S xs v) :
  ∃ μ',Post2 (FS F (S ++ T)) (FS F T) w μ b w μ' (b ++ [⟨0,.arr ⟨d,false,0⟩ sz xs⟩]) (.lref b.length 0) v:=by
 obtain ⟨base,cap,rfl,hl,hd⟩:=hd
 have hG:∀ x,FS F T x→FS F (S ++ T) x:=fun x hx=>hx.imp id fun h=>List.mem_append.2 (.inr h)
 have hnT:∀ x ∈ S,x ∉ T:=by
  rw [List.nodup_append] at hn
  exact fun x hx ht=>hn.2.2 x hx x ht rfl
 have hnS:S.Nodup:=(List.nodup_append.1 hn).1
 have adopt:∀ x ∈ S,x < w.heap.size∧(w.heap.size ≤ x∨(FS F (S ++ T) x∧¬ FS F T x∧¬ Glob.ids x)):=fun x hx=>by
  have hf:FS F (S ++ T) x:=.inr (List.mem_append.2 (.inl hx))
  refine ⟨R.fb x hf,.inr ⟨hf,?_,(hS x (List.mem_append.2 (.inl hx))).2⟩⟩
  rintro (h | h)
  ·exact (hS x (List.mem_append.2 (.inl hx))).1 h
  ·exact hnT x hx h
 rcases hd with ⟨rfl,rfl⟩ | ⟨x,cells,e,S',h0,rfl,rfl,hw,hz,he⟩
 ·refine ⟨μ ++ [.arr base xs.length 0 sz 0 []],push_post R hG (Nat.le_refl _) (fun _ _=>rfl) ?_ rfl rfl rfl ?_ ?_⟩
  ·intro x hx;rw [own_arr0] at hx;cases hx
  ·intro U;exact ⟨base,0,0,[],rfl,hl,.inl ⟨rfl,rfl⟩⟩
  ·exact ⟨rfl,_,_,push_at,pushμ_at R,by simp,Nat.le_refl _,fun _ _=>rfl⟩
 ·refine ⟨μ ++ [.arr (some (pl x 0)) xs.length cap sz cells.size S'],push_post R hG (Nat.le_refl _) (fun _ _=>rfl) ?_ rfl rfl rfl ?_ ?_⟩
  ·intro y hy;rw [own_arr h0] at hy;exact adopt y hy
  ·intro U;exact ⟨_,cap,cells.size,S',rfl,hl,.inr ⟨x,cells,e,h0,rfl,hw,rfl,fun _=>hz,hnS,GEl.keep U.keep rfl (fun _ _=>rfl) he⟩⟩
  ·exact ⟨rfl,_,_,push_at,pushμ_at R,by simp,Nat.le_refl _,fun _ _=>rfl⟩
theorem lay_arr {S T:List Nat} {sz:Nat} {xs:List CVal} {v:Value} (R:Rel (FS F (S ++ T)) w μ b) (hn:(S ++ T).Nodup) (hS:∀ x ∈ S ++ T,¬ F x∧¬ Glob.ids x)
  (hd:DSl (Or (FS F (S ++ T)) (Own μ b)) w sz S xs v) :
  ∃ μ',Post2 (FS F (S ++ T)) (FS F T) w μ b w μ' (b ++ [⟨0,.arr ⟨true,false,0⟩ sz xs⟩]) (.lref b.length 0) v:=lay_arrD R hn hS hd
theorem openCells_sound:∀ {ks:List CK} {S T:List Nat} {cs:List CVal} {vs:List Value} {μ:List Hd} {b:List Blk} {K:List AVal→List Blk→Option R'},Rel (FS F (S ++ T)) w μ b→(S ++ T).Nodup→(∀ x ∈ S ++ T,¬ F x∧¬ Glob.ids x)→
  DCsT P (Or (FS F (S ++ T)) (Own μ b)) w ks S cs vs→openCells P ks cs b K=some r→
  ∃ l b' μ',K l b'=some r∧Upd2 (FS F (S ++ T)) (FS F T) w μ b w μ' b'∧Rel (FS F T) w μ' b'∧AsRel (Or (FS F T) (Own μ' b')) w μ' b' true l vs
 |[],S,T,cs,vs,μ,b,K,R,hn,hS,⟨e1,e2,e3⟩,h=>by
  subst e1 e2 e3
  exact ⟨[],b,μ,h,.refl R,R,rfl⟩
 |k :: ks,S,T,cs,vs,μ,b,K,R,hn,hS,hd,h=>by
  by_cases hk:k.flat=true
  ·obtain ⟨c,l,u,us,rfl,rfl,hok,hc,hd⟩:=(DCsT.pt hk).1 hd
   have h:(openCells P ks l b fun l b=>K (.v c :: l) b)=some r:=by
    cases k<;>first | (cases hk;done) | exact h
   obtain ⟨l',b',μ',h,U,R',ha⟩:=openCells_sound R hn hS hd h
   exact ⟨_,b',μ',h,U,R',u,us,rfl,CRel.keep U.keep hc,fun _=>CRel.flat hc (CK.isFlat hok),ha⟩
  ·cases k with
   |sl e=>
    obtain ⟨S1,S2,xs,l,u,us,rfl,rfl,rfl,hsl,hd⟩:=hd
    simp only [openCells,CVal.asSl,Option.bind_some] at h
    obtain ⟨_,h⟩:=br_none h
    rw [List.append_assoc] at R hn hS hsl hd
    obtain ⟨μ1,p⟩:=lay_arr R hn hS hsl
    have hn2:(S2 ++ T).Nodup:=(List.nodup_append.1 hn).2.1
    have hS2:∀ x ∈ S2 ++ T,¬ F x∧¬ Glob.ids x:=fun x hx=>hS x (List.mem_append.2 (.inr hx))
    obtain ⟨l',b',μ',h,U,R',ha⟩:=openCells_sound p.rel hn2 hS2 (hd.keep p.upd.keep fun _ _=>rfl) h
    rw [List.append_assoc]
    have hfl:flat u=true:=by obtain ⟨_,_,rfl,_⟩:=hsl;rfl
    refine ⟨_,b',μ',h,Upd2.shrink (fun x hx=>hx.imp id fun h=>List.mem_append.2 (.inr h)) (fun x hx=>hx.imp id fun h=>List.mem_append.2 (.inr h)) p.upd U,R',u,us,rfl,ARel.upd U p.val,fun _=>hfl,ha⟩
   |_=>exact absurd rfl hk
theorem openK_sound {t:TypeId} {S T:List Nat} {c:CVal} {v:Value} {K:AVal→List Blk→Option R'} (R:Rel (FS F (S ++ T)) w μ b) (hn:(S ++ T).Nodup) (hS:∀ x ∈ S ++ T,¬ F x∧¬ Glob.ids x)
  (hd:DT P t (Or (FS F (S ++ T)) (Own μ b)) w S c v) (h:openK P t c b K=some r) :
  ∃ x b' μ',K x b'=some r∧Upd2 (FS F (S ++ T)) (FS F T) w μ b w μ' b'∧Rel (FS F T) w μ' b'∧ARel (Or (FS F T) (Own μ' b')) w μ' b' x v:=by
 unfold openK at h
 obtain ⟨hkl,h⟩:=br_none h
 have hkl:(cks P t).length=P.cellsOf t:=by simpa using hkl
 unfold DT at hd
 cases ha:aggT P t with
 |true=>
  rw [ha] at hd h
  simp only [br] at h
  obtain ⟨l,vs,rfl,rfl,hd⟩:=hd
  obtain ⟨hag,h⟩:=br_none h
  obtain ⟨xs,h2,hxl,hx⟩:=explodeC_eq h
  have:xs=l:=same_of_get (by rw [hxl,hd.len.1,hkl]) hx
  subst this
  obtain ⟨l',b',μ',h3,U,R',hr⟩:=openCells_sound R hn hS hd h2
  exact ⟨_,b',μ',h3,U,R',mkAgg_rel hr⟩
 |false=>
  rw [ha] at hd h
  simp only [br] at h
  obtain ⟨h1,hd⟩:=hd
  obtain ⟨_,h⟩:=br_none h
  obtain ⟨l',b',μ',h,U,R',u,us,he,hr,hf,hus⟩:∃ l' b' μ',(K (List.headD l' .un) b')=some r∧Upd2 (FS F (S ++ T)) (FS F T) w μ b w μ' b'∧Rel (FS F T) w μ' b'∧∃ u us,[v]=u :: us∧ARel (Or (FS F T) (Own μ' b')) w μ' b' (l'.headD .un) u∧(true=true→flat u=true)∧True:=by
   obtain ⟨l',b',μ',h,U,R',hr⟩:=openCells_sound R hn hS hd h
   cases l' with
   |nil=>cases hr
   |cons x l'=>
    obtain ⟨u,us,e,hx,hf,_⟩:=hr
    exact ⟨x :: l',b',μ',h,U,R',u,us,e,hx,hf,trivial⟩
  simp at he
  obtain ⟨rfl,rfl⟩:=he
  exact ⟨_,b',μ',h,U,R',hr⟩
def PCsT (P:Program) (N:Nat→Prop) (w:World):List (Nat × CK)→List Nat→List CVal→List Value→Prop
 |[],S,cs,vs=>S=[]∧cs=[]∧vs=[]
 |(0,_) :: ks,S,cs,vs=>∃ c l u us,cs=c :: l∧vs=u :: us∧c.isFlat=true∧CRel N w c u∧PCsT P N w ks S l us
 |(1,k) :: ks,S,cs,vs=>∃ S1 S2 c l u us,S=S1 ++ S2∧cs=c ++ l∧vs=u :: us∧DCsT P N w [k] S1 c [u]∧PCsT P N w ks S2 l us
 |(_ + 2,.sl e) :: ks,S,cs,vs=>∃ S1 S2 xs l u us,S=S1 ++ S2∧cs=.sl xs :: l∧vs=u :: us∧DSlD false N w (P.cellsOf e) S1 xs u∧PCsT P N w ks S2 l us
 |_,_,_,_=>False
theorem PCsT.keep {N':Nat→Prop} {w':World} (K:Keep N N' w w'):∀ {ks:List (Nat × CK)} {S:List Nat} {cs:List CVal} {vs:List Value},(∀ x ∈ S,w'.heap[x]? = w.heap[x]?)→PCsT P N w ks S cs vs→PCsT P N' w' ks S cs vs
 |[],_,_,_,_,h=>h
 |(0,k) :: ks,_,_,_,hm,⟨c,l,u,us,hc,hv,hf,h,hr⟩=>⟨c,l,u,us,hc,hv,hf,CRel.keep K h,PCsT.keep K hm hr⟩
 |(1,k) :: ks,_,_,_,hm,⟨S1,S2,c,l,u,us,hS,hc,hv,h,hr⟩=>by
  subst hS
  exact ⟨S1,S2,c,l,u,us,rfl,hc,hv,h.keep K fun x hx=>hm x (by simp [hx]),PCsT.keep K (fun x hx=>hm x (by simp [hx])) hr⟩
 |(n + 2,k) :: ks,_,_,_,hm,h=>by
  cases k with
  |sl e=>
   obtain ⟨S1,S2,xs,l,u,us,hS,hc,hv,h,hr⟩:=h
   subst hS
   exact ⟨S1,S2,xs,l,u,us,rfl,hc,hv,h.keep K fun x hx=>hm x (by simp [hx]),PCsT.keep K (fun x hx=>hm x (by simp [hx])) hr⟩
  |_=>exact h.elim
theorem PCsT.len:∀ {ks:List (Nat × CK)} {S:List Nat} {cs:List CVal} {vs:List Value},PCsT P N w ks S cs vs→cs.length=ks.length
 |[],_,_,_,⟨_,hc,_⟩=>by subst hc;rfl
 |(0,k) :: ks,_,_,_,⟨c,l,u,us,hc,hv,hf,h,hr⟩=>by subst hc;simp [PCsT.len hr]
 |(1,k) :: ks,_,_,_,⟨S1,S2,c,l,u,us,hS,hc,hv,h,hr⟩=>by subst hc;have:=h.len.1;simp [PCsT.len hr,this];omega
 |(n + 2,k) :: ks,_,_,_,h=>by
  cases k with
  |sl e=>obtain ⟨S1,S2,xs,l,u,us,hS,hc,hv,h,hr⟩:=h;subst hc;simp [PCsT.len hr]
  |_=>exact h.elim
theorem takePCells_sound:∀ {ks:List (Nat × CK)} {xs:List AVal} {vs:List Value} {F:Nat→Prop} {b:List Blk} {K:List CVal→List Blk→Option R'},Rel F w μ b→AsRel (Or F (Own μ b)) w μ b true xs vs→takePCells P ks xs b K=some r→
  ∃ l b' S,K l b'=some r∧Taken F w μ b S b'∧PCsT P (Or (FS F S) (Own μ b')) w ks S l vs
 |[],[],vs,F,b,K,R,ha,h=>⟨[],b,[],h,.nil R,rfl,rfl,ha⟩
 |[],_ :: _,_,_,_,_,_,_,h=>by simp [takePCells] at h
 |(0,k) :: ks,[],_,_,_,_,_,_,h=>by simp [takePCells] at h
 |(1,k) :: ks,[],_,_,_,_,_,_,h=>by simp [takePCells] at h
 |(n + 2,k) :: ks,[],_,_,_,_,_,_,h=>by cases k<;>simp [takePCells] at h
 |(0,k) :: ks,x :: xs,vs,F,b,K,R,ha,h=>by
  obtain ⟨u,us,rfl,hx,hf,ha⟩:=ha
  cases x with
  |v c=>
   simp only [takePCells] at h
   obtain ⟨h1,h⟩:=br_none h
   obtain ⟨l,b2,S2,h,T2,hds⟩:=takePCells_sound R ha h
   exact ⟨c :: l,b2,S2,h,T2,c,l,u,us,rfl,rfl,h1,CRel.keep T2.upd.keep hx,hds⟩
  |_=>simp [takePCells] at h
 |(1,k) :: ks,x :: xs,vs,F,b,K,R,ha,h=>by
  obtain ⟨u,us,rfl,hx,hf,ha⟩:=ha
  simp only [takePCells] at h
  obtain ⟨c,b1,S,h,T1,hd⟩:=takeCellsK_sound R (show AsRel _ w μ b true [x] [u] from ⟨u,[],rfl,hx,hf,rfl⟩) h
  obtain ⟨l,b2,S2,h,T2,hds⟩:=takePCells_sound T1.rel (AsRel.upd T1.upd ha) h
  refine ⟨c ++ l,b2,S ++ S2,h,T1.trans T2,S,S2,c,l,u,us,rfl,rfl,rfl,?_,?_⟩
  ·rw [← FS_append];exact hd.keep T2.upd.keep fun _ _=>rfl
  ·rw [← FS_append];exact hds
 |(n + 2,k) :: ks,x :: xs,vs,F,b,K,R,ha,h=>by
  obtain ⟨u,us,rfl,hx,hf,ha⟩:=ha
  cases k with
  |sl e=>
   cases x with
   |nl=>
    simp only [takePCells] at h
    obtain ⟨base,rfl⟩:=hx
    obtain ⟨l,b2,S2,h,T2,hds⟩:=takePCells_sound R ha h
    exact ⟨_,b2,S2,h,T2,[],S2,[],l,_,us,rfl,rfl,rfl,⟨base,0,rfl,Nat.le_refl _,.inl ⟨rfl,rfl⟩⟩,hds⟩
   |lref i ver=>
    simp only [takePCells] at h
    obtain ⟨ys,hys,h⟩:=bind_some' (x:=arrOf b i ver) h
    obtain ⟨h1,h⟩:=br_none h
    simp only [Bool.and_eq_true,Bool.not_eq_true',beq_iff_eq] at h1
    obtain ⟨S,T1,hd⟩:=Taken.arrD R hx hys h1.1.1 h1.1.2
    rw [h1.2] at hd
    obtain ⟨l,b2,S2,h,T2,hds⟩:=takePCells_sound T1.rel (AsRel.upd T1.upd ha) h
    refine ⟨_,b2,S ++ S2,h,T1.trans T2,S,S2,ys,l,u,us,rfl,rfl,rfl,?_,?_⟩
    ·rw [← FS_append];exact hd.keep T2.upd.keep fun _ _=>rfl
    ·rw [← FS_append];exact hds
   |_=>simp [takePCells] at h
  |_=>simp [takePCells] at h
theorem openPCells_sound:∀ {ks:List (Nat × CK)} {S T:List Nat} {cs:List CVal} {vs:List Value} {μ:List Hd} {b:List Blk} {K:List AVal→List Blk→Option R'},Rel (FS F (S ++ T)) w μ b→(S ++ T).Nodup→(∀ x ∈ S ++ T,¬ F x∧¬ Glob.ids x)→
  PCsT P (Or (FS F (S ++ T)) (Own μ b)) w ks S cs vs→openPCells P ks cs b K=some r→
  ∃ l b' μ',K l b'=some r∧Upd2 (FS F (S ++ T)) (FS F T) w μ b w μ' b'∧Rel (FS F T) w μ' b'∧AsRel (Or (FS F T) (Own μ' b')) w μ' b' true l vs
 |[],S,T,cs,vs,μ,b,K,R,hn,hS,⟨e1,e2,e3⟩,h=>by
  subst e1 e2 e3
  exact ⟨[],b,μ,h,.refl R,R,rfl⟩
 |(0,k) :: ks,S,T,cs,vs,μ,b,K,R,hn,hS,⟨c,l,u,us,e2,e3,hf,hc,hds⟩,h=>by
  subst e2 e3
  simp only [openPCells] at h
  obtain ⟨l',b',μ',h,U,R',ha⟩:=openPCells_sound R hn hS hds h
  exact ⟨_,b',μ',h,U,R',u,us,rfl,CRel.keep U.keep hc,fun _=>CRel.flat hc hf,ha⟩
 |(1,k) :: ks,S,T,cs,vs,μ,b,K,R,hn,hS,⟨S1,S2,c,l,u,us,e1,e2,e3,hd,hds⟩,h=>by
  subst e1 e2 e3
  obtain ⟨c,rfl⟩:∃ x,c=[x]:=List.length_eq_one_iff.1 hd.len.1
  simp only [openPCells,List.singleton_append] at h
  rw [List.append_assoc] at R hn hS hd hds
  obtain ⟨a,b1,μ1,h,U1,R1,hx⟩:=openCells_sound R hn hS hd h
  have hn2:(S2 ++ T).Nodup:=(List.nodup_append.1 hn).2.1
  have hS2:∀ x ∈ S2 ++ T,¬ F x∧¬ Glob.ids x:=fun x hx=>hS x (List.mem_append.2 (.inr hx))
  obtain ⟨l',b',μ',h,U,R',ha⟩:=openPCells_sound R1 hn2 hS2 (hds.keep U1.keep fun _ _=>rfl) h
  rw [List.append_assoc]
  have hUU:=Upd2.shrink (fun x hx=>hx.imp id fun h=>List.mem_append.2 (.inr h)) (fun x hx=>hx.imp id fun h=>List.mem_append.2 (.inr h)) U1 U
  obtain ⟨a,rfl⟩:∃ y,a=[y]:=by
   cases a with
   |nil=>cases hx
   |cons y a'=>
    obtain ⟨u',us',e,_,_,hx⟩:=hx
    simp at e
    obtain ⟨rfl,rfl⟩:=e
    cases a' with
    |nil=>exact ⟨y,rfl⟩
    |cons z a''=>obtain ⟨_,_,e,_⟩:=hx;cases e
  obtain ⟨u',us',e,hx,hf,_⟩:=hx
  simp at e
  obtain ⟨rfl,rfl⟩:=e
  exact ⟨_,b',μ',h,hUU,R',u,us,rfl,ARel.upd U hx,hf,ha⟩
 |(n + 2,k) :: ks,S,T,cs,vs,μ,b,K,R,hn,hS,hd,h=>by
  cases k with
  |sl e=>
   obtain ⟨S1,S2,xs,l,u,us,rfl,rfl,rfl,hsl,hd⟩:=hd
   simp only [openPCells,CVal.asSl,Option.bind_some] at h
   obtain ⟨_,h⟩:=br_none h
   rw [List.append_assoc] at R hn hS hsl hd
   obtain ⟨μ1,p⟩:=lay_arrD R hn hS hsl
   have hn2:(S2 ++ T).Nodup:=(List.nodup_append.1 hn).2.1
   have hS2:∀ x ∈ S2 ++ T,¬ F x∧¬ Glob.ids x:=fun x hx=>hS x (List.mem_append.2 (.inr hx))
   obtain ⟨l',b',μ',h,U,R',ha⟩:=openPCells_sound p.rel hn2 hS2 (hd.keep p.upd.keep fun _ _=>rfl) h
   rw [List.append_assoc]
   have hfl:flat u=true:=by obtain ⟨_,_,rfl,_⟩:=hsl;rfl
   refine ⟨_,b',μ',h,Upd2.shrink (fun x hx=>hx.imp id fun h=>List.mem_append.2 (.inr h)) (fun x hx=>hx.imp id fun h=>List.mem_append.2 (.inr h)) p.upd U,R',u,us,rfl,ARel.upd U p.val,fun _=>hfl,ha⟩
  |_=>exact hd.elim
def DTp (P:Program) (t:TypeId) (N:Nat→Prop) (w:World) (S:List Nat) (c:CVal) (v:Value):Prop:=
 match ptrE P t with
 |none=>DT P t N w S c v
 |some (true,_,ks)=>∃ (x:Nat) (S':List Nat) (l:List CVal) (vs:List Value) (e0:TypeId),S=x :: S'∧c=.fp (.agg l) 0∧v=.pointer (some (pl x 0))∧w.heap[x]? = some (.cells (List.toArray vs) e0 (0,0))∧PCsT P N w ks S' l vs
 |some (false,true,ks)=>∃ l vs,c=.agg l∧v=.agg (List.toArray vs)∧PCsT P N w ks S l vs
 |some (false,false,ks)=>ks.length=1∧PCsT P N w ks S [c] [v]
theorem DTp.keep {N':Nat→Prop} {w':World} (K:Keep N N' w w') {t:TypeId} {S:List Nat} {c:CVal} {v:Value} (hm:∀ x ∈ S,w'.heap[x]? = w.heap[x]?) (h:DTp P t N w S c v):DTp P t N' w' S c v:=by
 unfold DTp at h ⊢
 split at h
 ·exact h.keep K hm
 ·obtain ⟨x,S',l,vs,e0,rfl,rfl,rfl,hw,hd⟩:=h
  exact ⟨x,S',l,vs,e0,rfl,rfl,rfl,by rw [hm x (by simp)];exact hw,hd.keep K fun y hy=>hm y (by simp [hy])⟩
 ·obtain ⟨l,vs,h1,h2,h3⟩:=h
  exact ⟨l,vs,h1,h2,h3.keep K hm⟩
 ·exact ⟨h.1,h.2.keep K hm⟩
theorem takePK_sound {t:TypeId} {x:AVal} {v:Value} {K:CVal→List Blk→Option R'} (R:Rel F w μ b) (hx:ARel (Or F (Own μ b)) w μ b x v) (h:takePK P t x b K=some r) :
  ∃ c b' S,K c b'=some r∧Taken F w μ b S b'∧DTp P t (Or (FS F S) (Own μ b')) w S c v:=by
 unfold takePK at h
 unfold DTp
 rcases he:ptrE P t with _ | ⟨_ | _,agg,ks⟩
 ·rw [he] at h
  obtain ⟨c,b',S,h1,h2,h3,_⟩:=takeK_sound R hx h
  exact ⟨c,b',S,h1,h2,h3⟩
 ·rw [he] at h
  simp only at h
  obtain ⟨cs,vs,h,hcs,hvs,hn,hag,hna⟩:=wCells_sound hx h
  obtain ⟨l,b',S,h,T,hd⟩:=takePCells_sound R hcs h
  refine ⟨_,b',S,h,T,?_⟩
  have hll:=hd.len
  unfold packC
  cases agg with
  |true=>
   have:=hag rfl
   subst this
   exact ⟨l,vs,rfl,rfl,hd⟩
  |false=>
   obtain ⟨rfl,rfl⟩:=hna rfl
   have h1:ks.length=1:=by simpa using hn.symm
   obtain ⟨c,rfl⟩:∃ c,l=[c]:=List.length_eq_one_iff.1 (by rw [hll,h1])
   exact ⟨h1,hd⟩
 ·rw [he] at h
  simp only at h
  split at h
  ·rename_i i off
   obtain ⟨h1,h'⟩:=br_none h
   clear h
   simp only [Bool.and_eq_true,decide_eq_true_eq] at h1
   obtain ⟨rfl,hag⟩:=h1
   obtain ⟨cs,hcs,h⟩:=bind_some' (x:=boxOf b i) h'
   clear h'
   obtain ⟨y,hm,rfl⟩:=hx
   obtain ⟨ver,hb⟩:∃ ver,b[i]? = some ⟨ver,.box cs⟩:=by
    unfold boxOf at hcs
    split at hcs
    ·rename_i ver cs' hb;simp at hcs;subst hcs;exact ⟨ver,hb⟩
    ·cases hcs
   obtain ⟨y',vs,e0,e1,hw,ha⟩:=R.blk i _ _ hb hm
   simp at e1
   subst e1
   have T1:=Taken.kill R hb hm rfl (by simp [Hd.own])
   obtain ⟨l,b',S2,h,T2,hd⟩:=takePCells_sound T1.rel (AsRel.upd T1.upd ha) h
   refine ⟨_,b',(Hd.box y).own ++ S2,h,T1.trans T2,y,S2,l,vs,e0,rfl,rfl,rfl,hw,?_⟩
   rw [← FS_append]
   exact hd
  ·cases h
theorem openPK_sound {t:TypeId} {S T:List Nat} {c:CVal} {v:Value} {K:AVal→List Blk→Option R'} (R:Rel (FS F (S ++ T)) w μ b) (hn:(S ++ T).Nodup) (hS:∀ x ∈ S ++ T,¬ F x∧¬ Glob.ids x)
  (hd:DTp P t (Or (FS F (S ++ T)) (Own μ b)) w S c v) (h:openPK P t c b K=some r) :
  ∃ x b' μ',K x b'=some r∧Upd2 (FS F (S ++ T)) (FS F T) w μ b w μ' b'∧Rel (FS F T) w μ' b'∧ARel (Or (FS F T) (Own μ' b')) w μ' b' x v:=by
 unfold openPK at h
 unfold DTp at hd
 rcases he:ptrE P t with _ | ⟨_ | _,agg,ks⟩
 ·rw [he] at hd h
  exact openK_sound R hn hS hd h
 ·rw [he] at hd h
  cases agg with
  |true=>
   simp only at hd h
   obtain ⟨l,vs,rfl,rfl,hd⟩:=hd
   obtain ⟨_,h⟩:=br_none h
   obtain ⟨xs,h2,hxl,hx⟩:=explodeC_eq h
   have:xs=l:=same_of_get (by rw [hxl,hd.len]) hx
   subst this
   obtain ⟨l',b',μ',h3,U,R',hr⟩:=openPCells_sound R hn hS hd h2
   exact ⟨_,b',μ',h3,U,R',mkAgg_rel hr⟩
  |false=>
   simp only at hd h
   obtain ⟨h1,hd⟩:=hd
   obtain ⟨l',b',μ',h,U,R',hr⟩:=openPCells_sound R hn hS hd h
   cases l' with
   |nil=>cases hr
   |cons x l'=>
    obtain ⟨u,us,e,hx,hf,_⟩:=hr
    simp at e
    obtain ⟨rfl,rfl⟩:=e
    exact ⟨_,b',μ',h,U,R',hx⟩
 ·rw [he] at hd h
  simp only at hd h
  obtain ⟨y,S',l,vs,e0,rfl,rfl,rfl,hw,hd⟩:=hd
  simp only [CVal.asFp,Option.bind_some] at h
  obtain ⟨h1,h⟩:=br_none h
  obtain ⟨xs,h2,hxl,hx⟩:=explodeC_eq h
  have:xs=l:=same_of_get (by rw [hxl,hd.len]) hx
  subst this
  have hperm:(y :: S' ++ T).Perm (S' ++ (y :: T)):=by simpa using (List.perm_middle (l₁:=S') (l₂:=T) (a:=y)).symm
  have hF:FS F (y :: S' ++ T)=FS F (S' ++ (y :: T)):=by
   funext z;simp only [FS,hperm.mem_iff]
  have hn':(S' ++ (y :: T)).Nodup:=hperm.nodup_iff.1 hn
  have hS':∀ x ∈ S' ++ (y :: T),¬ F x∧¬ Glob.ids x:=fun x hx=>hS x (hperm.mem_iff.2 hx)
  rw [hF] at R hd ⊢
  obtain ⟨l',b1,μ1,h3,U1,R1,ha⟩:=openPCells_sound R hn' hS' hd h2
  have hyT:y ∉ T:=by
   have:=(List.nodup_append.1 hn').2.1
   exact (List.nodup_cons.1 this).1
  have hyF:¬ F y∧¬ Glob.ids y:=hS' y (by simp)
  have p:=push_post (G:=FS F T) (blk:=⟨0,.box l'⟩) (h:=.box y) (x:=.lptr b1.length 0) (v:=.pointer (some (pl y 0))) R1 (fun x hx=>hx.imp id fun h=>by simp [h]) (Nat.le_refl _) (fun _ _=>rfl)
   (fun x hx=>by
    rw [show x=y by simpa [Hd.own] using hx]
    refine ⟨R1.fb y (.inr (by simp)),.inr ⟨.inr (by simp),?_,hyF.2⟩⟩
    rintro (h | h)
    ·exact hyF.1 h
    ·exact hyT h) rfl rfl rfl
   (fun U=>⟨y,vs,e0,rfl,hw,AsRel.upd U ha⟩) ⟨y,pushμ_at R1,rfl⟩
  have hGF:∀ x,FS F (y :: T) x→FS F (S' ++ (y :: T)) x:=fun x hx=>hx.imp id fun h=>List.mem_append.2 (.inr h)
  have hHG:∀ x,FS F T x→FS F (y :: T) x:=fun x hx=>hx.imp id fun h=>by simp [h]
  exact ⟨_,_,_,h3,Upd2.shrink hGF hHG U1 p.upd,p.rel,p.val⟩
def DTs (P:Program) (N:Nat→Prop) (w:World):List TypeId→List Nat→List CVal→List Value→Prop
 |[],S,cs,vs=>S=[]∧cs=[]∧vs=[]
 |t :: ts,S,cs,vs=>∃ S1 S2 c l u us,S=S1 ++ S2∧cs=c :: l∧vs=u :: us∧DTp P t N w S1 c u∧DTs P N w ts S2 l us
theorem DTs.keep {N':Nat→Prop} {w':World} (K:Keep N N' w w'):∀ {ts:List TypeId} {S:List Nat} {cs:List CVal} {vs:List Value},(∀ x ∈ S,w'.heap[x]? = w.heap[x]?)→DTs P N w ts S cs vs→DTs P N' w' ts S cs vs
 |[],_,_,_,_,h=>h
 |t :: ts,_,_,_,hm,⟨S1,S2,c,l,u,us,hS,hc,hv,h,hr⟩=>by
  subst hS
  exact ⟨S1,S2,c,l,u,us,rfl,hc,hv,h.keep K fun x hx=>hm x (by simp [hx]),DTs.keep K (fun x hx=>hm x (by simp [hx])) hr⟩
theorem DTs.len:∀ {ts:List TypeId} {S:List Nat} {cs:List CVal} {vs:List Value},DTs P N w ts S cs vs→cs.length=ts.length∧vs.length=ts.length
 |[],_,_,_,⟨hS,hc,hv⟩=>by subst hc hv;exact ⟨rfl,rfl⟩
 |t :: ts,_,_,_,⟨S1,S2,c,l,u,us,hS,hc,hv,h,hr⟩=>by subst hc hv;simp [DTs.len hr]
theorem openAllK_sound:∀ {ts:List TypeId} {S T:List Nat} {cs:List CVal} {vs:List Value} {μ:List Hd} {b:List Blk} {K:List AVal→List Blk→Option R'},Rel (FS F (S ++ T)) w μ b→(S ++ T).Nodup→(∀ x ∈ S ++ T,¬ F x∧¬ Glob.ids x)→
  DTs P (Or (FS F (S ++ T)) (Own μ b)) w ts S cs vs→openAllK P ts cs b K=some r→
  ∃ l b' μ',K l b'=some r∧Upd2 (FS F (S ++ T)) (FS F T) w μ b w μ' b'∧Rel (FS F T) w μ' b'∧AsRel (Or (FS F T) (Own μ' b')) w μ' b' false l vs
 |[],S,T,cs,vs,μ,b,K,R,hn,hS,⟨e1,e2,e3⟩,h=>by
  subst e1 e2 e3
  exact ⟨[],b,μ,h,.refl R,R,rfl⟩
 |t :: ts,S,T,cs,vs,μ,b,K,R,hn,hS,⟨S1,S2,c,l,u,us,e1,e2,e3,hd,hds⟩,h=>by
  subst e1 e2 e3
  simp only [openAllK] at h
  rw [List.append_assoc] at R hn hS hd hds
  obtain ⟨x,b1,μ1,h,U1,R1,hx⟩:=openPK_sound R hn hS hd h
  have hn2:(S2 ++ T).Nodup:=(List.nodup_append.1 hn).2.1
  have hS2:∀ x ∈ S2 ++ T,¬ F x∧¬ Glob.ids x:=fun x hx=>hS x (List.mem_append.2 (.inr hx))
  obtain ⟨l',b',μ',h,U,R',ha⟩:=openAllK_sound R1 hn2 hS2 (hds.keep U1.keep fun _ _=>rfl) h
  rw [List.append_assoc]
  exact ⟨_,b',μ',h,Upd2.shrink (fun x hx=>hx.imp id fun h=>List.mem_append.2 (.inr h)) (fun x hx=>hx.imp id fun h=>List.mem_append.2 (.inr h)) U1 U,R',u,us,rfl,ARel.upd U hx,by simp,ha⟩
def DR (P:Program) (N:Nat→Prop) (w:World) (ts:List TypeId) (S:List Nat) (c:CVal) (v:Value):Prop:=
 match ts with
 |[t]=>DTp P t N w S c v
 |ts=>∃ cs vs,c=.tup cs∧v=.tuple (List.toArray vs)∧DTs P N w ts S cs vs
theorem openRK_sound {ts:List TypeId} {S:List Nat} {c:CVal} {v:Value} {K:AVal→List Blk→Option R'} (R:Rel (FS F S) w μ b) (hn:S.Nodup) (hS:∀ x ∈ S,¬ F x∧¬ Glob.ids x)
  (hd:DR P (Or (FS F S) (Own μ b)) w ts S c v) (h:openRK P ts c b K=some r) :
  ∃ x b' μ',K x b'=some r∧Upd2 (FS F S) F w μ b w μ' b'∧Rel F w μ' b'∧ARel (Or F (Own μ' b')) w μ' b' x v:=by
 have e:FS F []=F:=FS_nil
 unfold openRK at h
 unfold DR at hd
 split at h
 ·rename_i t
  have:=openPK_sound (T:=[]) (by simpa using R) (by simpa using hn) (by simpa using hS) (by simpa using hd) h
  simpa [e] using this
 ·rename_i hne
  split at hd
  ·rename_i t;exact (hne t rfl).elim
  ·obtain ⟨cs,vs,rfl,rfl,hd⟩:=hd
   simp only [CVal.asTup,Option.bind_some] at h
   obtain ⟨xs,h2,hxl,hx⟩:=explodeL_eq h
   have:xs=cs:=same_of_get (by rw [hxl,hd.len.1]) hx
   subst this
   obtain ⟨l,b',μ',h3,U,R',ha⟩:=openAllK_sound (T:=[]) (by simpa using R) (by simpa using hn) (by simpa using hS) (by simpa using hd) h2
   simp only [List.append_nil,e] at U R' ha
   exact ⟨_,b',μ',h3,U,R',vs,rfl,ha⟩
theorem set_one0 {G:Nat→Prop} {w':World} {i:Nat} {blk blk':Blk} {h h':Hd} (R:Rel F w μ b) (hG:∀ x,G x→F x) (hb:b[i]? = some blk) (hm:μ[i]? = some h) (V:VerOk w blk h w' blk' h')
  (hs:w.heap.size ≤ w'.heap.size)
  (hn:∀ x,alive blk'.body=true→x ∈ h'.own→x < w'.heap.size∧(w.heap.size ≤ x∨(alive blk.body=true∧x ∈ h.own)∨(F x∧¬ G x∧¬ Glob.ids x)))
  (hmem:∀ x,x < w.heap.size→(alive blk.body=true→x ∉ h.own)→w'.heap[x]? = w.heap[x]?) :
  One F G w μ b w' (μ.set i h') (b.set i blk') i:=by
 have hi:=(List.getElem?_eq_some_iff.1 hb).1
 have hi':=(List.getElem?_eq_some_iff.1 hm).1
 refine ⟨R,hG,by simpa using R.len,by simp,fun j hj hne=>⟨List.getElem?_set_ne (Ne.symm hne),List.getElem?_set_ne (Ne.symm hne)⟩,by simpa using hi,?_,hs,?_,?_⟩
 ·intro blk0 h0 hb0 hm0
  rw [hb] at hb0;cases hb0
  rw [hm] at hm0;cases hm0
  exact ⟨blk',h',List.getElem?_set_self hi,List.getElem?_set_self hi',V⟩
 ·intro blk0 h0 x hb0 hm0 ha ho
  rw [List.getElem?_set_self hi] at hb0;cases hb0
  rw [List.getElem?_set_self hi'] at hm0;cases hm0
  obtain ⟨h1,h2⟩:=hn x ha ho
  refine ⟨h1,h2.imp id fun h2=>h2.imp (fun ⟨h3,h4⟩=>⟨blk,h,hb,hm,h3,h4⟩) id⟩
 ·intro x hx hc
  exact hmem x hx fun ha=>hc blk h hb hm ha
theorem set_post2 {G:Nat→Prop} {w':World} {i:Nat} {blk blk':Blk} {h h':Hd} {x:AVal} {v:Value} (R:Rel F w μ b) (hG:∀ x,G x→F x) (hb:b[i]? = some blk) (hm:μ[i]? = some h) (V:VerOk w blk h w' blk' h')
  (hs:w.heap.size ≤ w'.heap.size)
  (hn:∀ x,alive blk'.body=true→x ∈ h'.own→x < w'.heap.size∧(w.heap.size ≤ x∨(alive blk.body=true∧x ∈ h.own)∨(F x∧¬ G x∧¬ Glob.ids x)))
  (hmem:∀ x,x < w.heap.size→(alive blk.body=true→x ∉ h.own)→w'.heap[x]? = w.heap[x]?)
  (hos:w'.os=w.os) (ht:w'.tape=w.tape) (ho:w'.output=w.output)
  (hB:Upd2 F G w μ b w' (μ.set i h') (b.set i blk')→BRel (Or G (Own (μ.set i h') (b.set i blk'))) w' (μ.set i h') (b.set i blk') h' blk'.body)
  (hv:Upd2 F G w μ b w' (μ.set i h') (b.set i blk')→ARel (Or G (Own (μ.set i h') (b.set i blk'))) w' (μ.set i h') (b.set i blk') x v) :
  Post2 F G w μ b w' (μ.set i h') (b.set i blk') x v:=by
 have O:=set_one0 (blk':=blk') R hG hb hm V hs hn hmem
 have hi:=(List.getElem?_eq_some_iff.1 hb).1
 have hi':=(List.getElem?_eq_some_iff.1 hm).1
 refine ⟨O.upd,O.done ?_,hv O.upd,O.fr hos ht ho⟩
 intro blk0 h0 hb0 hm0
 rw [List.getElem?_set_self hi] at hb0;cases hb0
 rw [List.getElem?_set_self hi'] at hm0;cases hm0
 exact hB O.upd
theorem thaw_sound (R:Rel F w μ b) (i:Nat):∃ μ',Upd F w μ b w μ' (thaw b i)∧Rel F w μ' (thaw b i):=by
 unfold thaw
 split
 ·rename_i ver m sz xs hb
  have hi:i < μ.length:=by rw [R.len];exact (List.getElem?_eq_some_iff.1 hb).1
  obtain ⟨base,cap,rs,S,hx,hl,hc⟩:=R.blk i _ _ hb (List.getElem?_eq_getElem hi)
  have hm:μ[i]? = some (.arr base xs.length cap sz rs S):=by rw [List.getElem?_eq_getElem hi,hx]
  have hV:VerOk w ⟨ver,.arr m sz xs⟩ (.arr base xs.length cap sz rs S) w ⟨ver,.arr ⟨false,m.fix,m.sv⟩ sz xs⟩ (.arr base xs.length cap sz rs []):=
   ⟨Nat.le_refl _,(fun _ h=>by cases h),(fun _ h=>by cases h),fun _ _ _=>⟨rfl,rfl⟩,(fun h=>by simp [alive] at h),fun h=>⟨rfl,fun _=>h⟩,fun _ m' sz' xs' hcont _=>by
    simp only [cont,Option.some.injEq,Prod.mk.injEq] at hcont
    obtain ⟨rfl,rfl,rfl⟩:=hcont
    exact ⟨m,xs,rfl,Nat.le_refl _,fun _ h=>by cases h⟩⟩
  have key:=set_post2 (F:=F) (G:=F) (x:=.un) (v:=undef) R (fun _ h=>h) hb hm hV (Nat.le_refl _) ?_ (fun _ _ _=>rfl) rfl rfl rfl ?_ (fun _=>trivial)
  ·exact ⟨_,key.upd,key.rel⟩
  ·intro x _ hx
   have hx':x ∈ (Hd.arr base xs.length cap sz rs S).own:=by
    cases base with
    |none=>simp [Hd.own] at hx
    |some a=>by_cases h0:cap=0<;>simp [Hd.own,h0] at hx ⊢;exact .inl hx
   exact ⟨(R.fres x ⟨i,_,_,hb,rfl,hm,hx'⟩).2,.inr (.inl ⟨rfl,hx'⟩)⟩
  ·intro U
   refine ⟨base,cap,rs,[],rfl,hl,?_⟩
   rcases hc with ⟨h0,rfl⟩ | ⟨x,cells,e,h0,rfl,hw,hrs,hz,hnd,he⟩
   ·exact .inl ⟨h0,rfl⟩
   ·refine .inr ⟨x,cells,e,h0,rfl,hw,hrs,hz,by simp,?_⟩
    have gone:∀ y ∈ S,¬ Or F (Own (μ.set i (.arr (some (pl x 0)) xs.length cap sz rs [])) (b.set i ⟨ver,.arr ⟨false,m.fix,m.sv⟩ sz xs⟩)) y∧y < w.heap.size:=by
     intro y hy
     have hy':y ∈ (Hd.arr (some (pl x 0)) xs.length cap sz rs S).own:=by rw [own_arr h0];simp [hy]
     have hown:Own μ b y:=⟨i,_,_,hb,rfl,hm,hy'⟩
     refine ⟨?_,(R.fres y hown).2⟩
     rintro (hf | ⟨j,bj,hj,hbj,haj,hmj,hoj⟩)
     ·exact (R.fres y hown).1 hf
     ·by_cases hij:i=j
      ·subst hij
       rw [List.getElem?_set_self (List.getElem?_eq_some_iff.1 hm).1] at hmj
       cases hmj
       rw [own_arr h0] at hoj
       simp at hoj;subst hoj
       exact (List.nodup_cons.1 hnd).1 hy
      ·rw [List.getElem?_set_ne hij] at hbj hmj
       exact hij (R.inj i j _ bj _ hj y hb hbj rfl haj hm hmj hy' hoj)
    cases hmd:m.deep with
    |false=>
     rw [hmd] at he
     exact GEl.ofE (ElRel.keepAt U.keep rfl (GEl.toE he).1)
    |true=>
     rw [hmd] at he
     exact GEl.ofE (DEl.close U.keep rfl (fun y hy=>⟨rfl,(gone y hy).1,(gone y hy).2⟩) (GEl.toD he))
 ·exact ⟨μ,.refl R,R⟩
mutual
theorem thawA_sound:∀ (x:AVal) {μ:List Hd} {b:List Blk},Rel F w μ b→∃ μ',Upd F w μ b w μ' (thawA x b)∧Rel F w μ' (thawA x b)
 |.lref i _,_,_,R=>by unfold thawA;exact thaw_sound R i
 |.agg cs,_,_,R=>by unfold thawA;exact thawL_sound cs R
 |.v _,μ,_,R=>⟨μ,.refl R,R⟩
 |.nl,μ,_,R=>⟨μ,.refl R,R⟩
 |.lptr _ _,μ,_,R=>⟨μ,.refl R,R⟩
 |.lel _ _ _ _,μ,_,R=>⟨μ,.refl R,R⟩
 |.lsub _ _ _ _ _,μ,_,R=>⟨μ,.refl R,R⟩
 |.lel2 _ _ _ _ _ _,μ,_,R=>⟨μ,.refl R,R⟩
 |.func _ _,μ,_,R=>⟨μ,.refl R,R⟩
 |.tup _,μ,_,R=>⟨μ,.refl R,R⟩
 |.ltail _ _ _,μ,_,R=>⟨μ,.refl R,R⟩
 |.un,μ,_,R=>⟨μ,.refl R,R⟩
theorem thawL_sound:∀ (l:List AVal) {μ:List Hd} {b:List Blk},Rel F w μ b→∃ μ',Upd F w μ b w μ' (thawL l b)∧Rel F w μ' (thawL l b)
 |[],μ,_,R=>⟨μ,.refl R,R⟩
 |x :: r,_,_,R=>by
  obtain ⟨μ1,U1,R1⟩:=thawA_sound x R
  obtain ⟨μ2,U2,R2⟩:=thawL_sound r R1
  exact ⟨μ2,U1.trans U2,R2⟩
end
end
end Go.Proofs.Ytognghbhdalckaa.Abs
namespace Go.Proofs.Ytognghbhdalckaa.Abs
open Go
variable [Glob]
section
variable {P:Program} {w:World} {F N:Nat→Prop} {μ:List Hd} {b:List Blk} {R':Type} {r:R'}
theorem ofCell_rel {v:Value} {x:AVal} (h:ofCell v=some x):ARel N w μ b x v∧flat v=true:=by
 unfold ofCell at h
 split at h
 ·simp at h;subst h;exact ⟨rfl,rfl⟩
 ·simp at h;subst h;exact ⟨rfl,rfl⟩
 ·rename_i s
  simp at h;subst h
  exact ⟨by simp [ARel,CRel],rfl⟩
 ·simp at h;subst h;exact ⟨rfl,rfl⟩
 ·simp at h;subst h;exact ⟨⟨none,rfl⟩,rfl⟩
 ·simp at h;subst h;exact ⟨rfl,rfl⟩
 ·simp at h;subst h;exact ⟨rfl,rfl⟩
 ·cases h
theorem ofCells_rel:∀ {vs:List Value} {xs:List AVal},ofCells vs=some xs→AsRel N w μ b true xs vs
 |[],xs,h=>by simp [ofCells] at h;subst h;rfl
 |v :: r,xs,h=>by
  simp only [ofCells] at h
  obtain ⟨a,ha,h⟩:=bind_some' h
  obtain ⟨l,hl,h⟩:=bind_some' h
  simp at h;subst h
  obtain ⟨h1,h2⟩:=ofCell_rel (N:=N) (w:=w) (μ:=μ) (b:=b) ha
  exact ⟨v,r,rfl,h1,fun _=>h2,ofCells_rel hl⟩
theorem ofVal_rel {v:Value} {x:AVal} (h:ofVal v=some x):ARel N w μ b x v:=by
 unfold ofVal at h
 split at h
 ·rename_i cs
  obtain ⟨l,hl,h⟩:=bind_some' h
  simp at h;subst h
  have:=mkAgg_rel (ofCells_rel (N:=N) (w:=w) (μ:=μ) (b:=b) hl)
  simpa using this
 ·exact (ofCell_rel h).1
theorem zeroT_spec {t:TypeId} {x:AVal} (h:zeroT P t=some x):∃ z,(∀ w1:World,(zeroValue t).run P w1=.ok z w1)∧ARel N w μ b x z:=by
 unfold zeroT at h
 obtain ⟨z,hz,h⟩:=bind_some' h
 obtain ⟨i,hi,hz⟩:=bind_some' hz
 exact ⟨z,fun w1=>run_zero hi hz,ofVal_rel h⟩
theorem wInt_sound {k:IntKind} {x:AVal} {v:Value} {K:Int→Option R'} (hx:ARel N w μ b x v) (h:wInt k x K=some r):∃ n,v=.int k n∧K n=some r:=by
 unfold wInt at h
 cases x with
 |v c=>
  obtain ⟨n,hn,h⟩:=bind_some' (x:=c.asInt k) h
  cases c<;>simp [CVal.asInt] at hn
  obtain ⟨rfl,rfl⟩:=hn
  exact ⟨_,hx,h⟩
 |_=>cases h
theorem wIdx_sound {x:AVal} {v:Value} {K:Int→Option R'} (hx:ARel N w μ b x v) (h:wIdx x K=some r):∃ k n,v=.int k n∧K n=some r:=by
 unfold wIdx at h
 cases x with
 |v c=>
  obtain ⟨n,hn,h⟩:=bind_some' (x:=c.asIdx) h
  cases c<;>simp [CVal.asIdx] at hn
  subst hn
  exact ⟨_,_,hx,h⟩
 |_=>cases h
theorem wBool_sound {x:AVal} {v:Value} {K:Bool→Option R'} (hx:ARel N w μ b x v) (h:wBool x K=some r):∃ p,v=.bool p∧K p=some r:=by
 unfold wBool at h
 cases x with
 |v c=>
  obtain ⟨n,hn,h⟩:=bind_some' (x:=c.asBool) h
  cases c<;>simp [CVal.asBool] at hn
  subst hn
  exact ⟨_,hx,h⟩
 |_=>cases h
theorem wStr_sound {x:AVal} {v:Value} {K:List UInt8→Option R'} (hx:ARel N w μ b x v) (h:wStr x K=some r):∃ s,v=.string ⟨s.toArray⟩∧K s=some r:=by
 unfold wStr at h
 cases x with
 |v c=>
  obtain ⟨n,hn,h⟩:=bind_some' (x:=c.asStr) h
  cases c<;>simp [CVal.asStr] at hn
  subst hn
  exact ⟨_,hx,h⟩
 |_=>cases h
theorem asFp_sound {p:CVal} {q:CVal × Nat} {v:Value} (hx:CRel N w p v) (h:p.asFp=some q):p=.fp q.1 q.2:=by
 cases p<;>simp [CVal.asFp] at h
 subst h;rfl
def Yld (P:Program) (N:Nat→Prop) (w:World) (μ:List Hd) (b:List Blk) (K:AVal→Option R') (r:R') (S:Sem Value):Prop:=
 ∃ y,K y=some r∧∃ u,S.run P w=.ok u w∧ARel N w μ b y u
theorem fieldK_sound {t:TypeId} {x:AVal} {f:Nat} {v:Value} {K:AVal→Option R'} (hx:ARel N w μ b x v) (h:fieldK P t x f K=some r) :
  Yld P N w μ b K r (Instr.fieldAt t v f):=by
 unfold fieldK at h
 split at h
 ·rename_i fs hfs
  split at h
  ·rename_i fd hfd
   rcases br_some h with ⟨_,h⟩ | ⟨hz,h⟩
   ·cases h
   simp only [decide_eq_false_iff_not] at hz
   have hsize:∀ w1:World,(sizeOf fd.type).run P w1=.ok (P.cellsOf fd.type) w1:=by
    intro w1
    unfold Program.cellsOf at hz
    cases hi:P.info? fd.type with
    |none=>simp [hi] at hz
    |some i=>simp [sizeOf,typeInfo,hi,Program.cellsOf]
   have run:∀ a:Addr,v=.pointer (some a)→(Instr.fieldAt t v f).run P w=.ok (.pointer (some (a.add fd.offset))) w:=by
    intro a ha
    subst ha
    simp [Instr.fieldAt,run_und hfs,hfd,Instr.sureAddr,fieldPlace,hsize,hz]
   cases x with
   |lptr i off=>
    obtain ⟨y,hm,rfl⟩:=hx
    exact ⟨_,h,_,run _ rfl,y,hm,by rw [pl_add]⟩
   |lel i ver idx off=>
    obtain ⟨⟨a,rfl⟩,blk,hd,hb,hm,hn,hle,hcur⟩:=hx
    refine ⟨_,h,_,run _ rfl,⟨_,rfl⟩,blk,hd,hb,hm,hn,hle,fun h1 h2=>?_⟩
    obtain ⟨x',len,cap,sz,rs,S,rfl,hi,hv⟩:=hcur h1 h2
    refine ⟨x',len,cap,sz,rs,S,rfl,hi,?_⟩
    cases hv
    rw [pl_add,Nat.add_assoc]
   |v p=>
    obtain ⟨q,hq,h⟩:=bind_some' (x:=p.asFp) h
    have:=asFp_sound hx hq
    subst this
    obtain ⟨y,o,u,rfl,h1,h2,h3,h4,h5⟩:=hx
    refine ⟨_,h,_,run _ rfl,y,o,u,?_,h1,h2,h3,h4,h5⟩
    rw [pl_add,Nat.add_assoc]
   |_=>cases h
  ·cases h
 ·cases h
theorem sl_index {xs:List CVal} {v:Value} (hx:CRel N w (.sl xs) v) {i:Nat} {c:CVal} (hc:xs[i]? = some c) {agg:Bool} {n:Nat} (hf:c.fits agg n=true) :
  ∃ x o cap,v=.slice (some (pl x o)) xs.length cap∧CRel N w (.fp c 0) (.pointer (some (pl x (o + i * n)))):=by
 obtain ⟨base,cap,rfl,hl,h⟩:=hx
 rcases h with h | ⟨x,o,sz,rfl,h1,h2,h3⟩
 ·subst h;simp at hc
 ·obtain ⟨u,ht,hu,hz,hj⟩:=h3.get hc
  have:sz=n:=by
   obtain ⟨vs,hvs,_,hn,_⟩:=CRel.fits hu hf
   rw [hvs] at hz;simp at hz;omega
  subst this
  exact ⟨x,o,cap,rfl,x,o + i * sz,u,by simp,h1,h2,ht,hu,fun j hjj=>hj j (by omega)⟩
theorem cks_one {e:TypeId} (h:aggT P e=false):(cks P e).length=1:=by
 unfold cks cksN
 unfold aggT at h
 split<;>simp_all
theorem indexAddrK_sound {t:TypeId} {x ix:AVal} {v vi:Value} {K:AVal→Option R'} (R:Rel F w μ b) (hx:ARel (Or F (Own μ b)) w μ b x v) (hi:ARel (Or F (Own μ b)) w μ b ix vi)
  (h:indexAddrK P t b x ix K=some r):Yld P (Or F (Own μ b)) w μ b K r (Instr.indexAt t v vi):=by
 unfold indexAddrK at h
 split at h
 ·rename_i e he
  obtain ⟨k,n,rfl,h⟩:=wIdx_sound hi h
  obtain ⟨h0,h⟩:=br_none h
  simp only [decide_eq_true_eq,Bool.and_eq_true] at h0
  obtain ⟨h0,hs⟩:=h0
  obtain ⟨d,hd⟩:=Option.isSome_iff_exists.1 hs
  have run:∀ (a:Addr) (len cap:Nat),n < len→(Instr.indexAt t (.slice (some a) len cap) (.int k n)).run P w=.ok (.pointer (some (a.add (n.toNat * P.cellsOf e)))) w:=by
   intro a len cap hlt
   have:0 ≤ n∧n < len:=⟨h0,hlt⟩
   simp [Instr.indexAt,asIntOf,run_und he,run_size hd,this]
  cases x with
  |lref i ver=>
   obtain ⟨xs,hxs,h⟩:=bind_some' (x:=arrOf b i ver) h
   obtain ⟨h1,h⟩:=br_none h
   simp only [decide_eq_true_eq,Bool.and_eq_true,beq_iff_eq] at h1
   obtain ⟨h1,h2⟩:=h1
   obtain ⟨m,sz,base,cap,rs,S,rfl,hb,hm,_,hszb,hl,hc⟩:=R.arrAt hx hxs
   have hsz:sz=P.cellsOf e:=by rw [← hszb];exact h2
   subst hsz
   rcases hc with ⟨hc,_⟩ | ⟨y,cells,tt,h0',rfl,hw,_⟩
   ·omega
   ·refine ⟨_,h,_,run (pl y 0) xs.length cap (by omega),⟨_,rfl⟩,_,_,hb,hm,by simp,Nat.le_refl _,fun _ _=>⟨y,_,_,_,_,_,rfl,h1,?_⟩⟩
    rw [pl_add];simp
  |lsub i ver sv idx off=>
   obtain ⟨hft,h⟩:=br_none h
   simp only [Bool.and_eq_true,Bool.not_eq_true'] at hft
   obtain ⟨ys,hys,h⟩:=bind_some' (x:=subOf b i ver sv idx off) h
   obtain ⟨h1,h⟩:=br_none h
   simp only [decide_eq_true_eq] at h1
   obtain ⟨xs,m,sz,x',cap,rs,S,cells,ee,c,hv,T,hxs,hc,hdc,hdeep,hsv,hb,hm,hmd,hszb,hl,h0',hw,hrs,hz,hnd,hel,hcell,hT,hdr⟩:=R.subAt hys
   have:=ARel.sub hx hb hm hdeep hsv hc hdc hcell
   subst this
   obtain ⟨base,cap',rfl,hl2,hor⟩:=hdr
   rcases hor with ⟨hc0,_⟩ | ⟨z,cells2,e2,sz2,S2,_,rfl,_,hw2,_,hel2⟩
   ·omega
   have hone:P.cellsOf e=1:=by
    have hfl:=hft.1
    unfold flatT at hfl
    simp only [Bool.and_eq_true,beq_iff_eq] at hfl
    rw [← hfl.2]
    exact cks_one hft.2
   refine ⟨_,h,_,run (pl z 0) ys.length cap' (by omega),⟨_,rfl⟩,_,_,hb,hm,by simp,Nat.le_refl _,fun _=>?_⟩
   intro m' sz' xs' hcont
   simp only [cont,Option.some.injEq,Prod.mk.injEq] at hcont
   obtain ⟨rfl,rfl,rfl⟩:=hcont
   exact ⟨by rw [hsv];exact Nat.le_refl _,fun _ _ _=>⟨x',_,cap,rs,S,_,rfl,by omega,hcell,z,_,_,rfl,by rw [pl_add,hone];simp⟩⟩
  |v c=>
   obtain ⟨xs,hxs,h⟩:=bind_some' (x:=c.asSl) h
   cases c<;>simp [CVal.asSl] at hxs
   subst hxs
   obtain ⟨c,hc,h⟩:=bind_some' h
   obtain ⟨hf,h⟩:=br_none h
   obtain ⟨y,o,cap,rfl,hp⟩:=sl_index hx hc hf
   have hlt:=(List.getElem?_eq_some_iff.1 hc).1
   refine ⟨_,h,_,run (pl y o) _ cap (by omega),?_⟩
   rw [pl_add];exact hp
  |_=>cases h
 ·rename_i len e he
  obtain ⟨k,n,rfl,h⟩:=wIdx_sound hi h
  obtain ⟨h0,h⟩:=br_none h
  simp only [decide_eq_true_eq,Bool.and_eq_true] at h0
  obtain ⟨⟨h0,h1⟩,hs⟩:=h0
  obtain ⟨d,hd⟩:=Option.isSome_iff_exists.1 hs
  have run:∀ a:Addr,v=.pointer (some a)→(Instr.indexAt t v (.int k n)).run P w=.ok (.pointer (some (a.add (n.toNat * P.cellsOf e)))) w:=by
   intro a ha
   subst ha
   have:0 ≤ n∧n < len:=⟨h0,h1⟩
   simp [Instr.indexAt,asIntOf,run_und he,run_size hd,this,Instr.sureAddr]
  cases x with
  |lptr i off=>
   obtain ⟨y,hm,rfl⟩:=hx
   exact ⟨_,h,_,run _ rfl,y,hm,by rw [pl_add]⟩
  |lel i ver idx off=>
   obtain ⟨⟨a,rfl⟩,blk,hd',hb,hm,hn,hle,hcur⟩:=hx
   refine ⟨_,h,_,run _ rfl,⟨_,rfl⟩,blk,hd',hb,hm,hn,hle,fun h1 h2=>?_⟩
   obtain ⟨x',len,cap,sz,rs,S,rfl,hi,hv⟩:=hcur h1 h2
   refine ⟨x',len,cap,sz,rs,S,rfl,hi,?_⟩
   cases hv
   rw [pl_add,Nat.add_assoc]
  |v p=>
   obtain ⟨q,hq,h⟩:=bind_some' (x:=p.asFp) h
   have:=asFp_sound hx hq
   subst this
   obtain ⟨y,o,u,rfl,h1,h2,h3,h4,h5⟩:=hx
   refine ⟨_,h,_,run _ rfl,y,o,u,?_,h1,h2,h3,h4,h5⟩
   rw [pl_add,Nat.add_assoc]
  |_=>cases h
 ·cases h
theorem indexK_sound {t:TypeId} {x ix:AVal} {v vi:Value} {K:AVal→Option R'} (hx:ARel N w μ b x v) (hi:ARel N w μ b ix vi)
  (h:indexK P t x ix K=some r):Yld P N w μ b K r (Instr.index t v vi):=by
 unfold indexK at h
 split at h
 ·rename_i he
  obtain ⟨k,n,rfl,h⟩:=wIdx_sound hi h
  obtain ⟨s,rfl,h⟩:=wStr_sound hx h
  obtain ⟨h0,h⟩:=br_none h
  simp only [decide_eq_true_eq] at h0
  obtain ⟨c,hc,h⟩:=bind_some' h
  refine ⟨_,h,_,?_,rfl⟩
  have:(⟨s.toArray⟩:ByteArray)[n.toNat]? = some c:=by
   have hlt:=(List.getElem?_eq_some_iff.1 hc).1
   have hlt':n.toNat < (⟨s.toArray⟩:ByteArray).size:=by simpa [ByteArray.size] using hlt
   rw [getElem?_pos (⟨s.toArray⟩:ByteArray) n.toNat hlt']
   have h2:=(List.getElem?_eq_some_iff.1 hc).2
   congr 1
  simp [Instr.index,asIntOf,run_und he,h0,this]
 ·rename_i len e he
  obtain ⟨k,n,rfl,h⟩:=wIdx_sound hi h
  obtain ⟨h0,h⟩:=br_none h
  simp only [decide_eq_true_eq,Bool.and_eq_true,Bool.not_eq_true'] at h0
  obtain ⟨⟨⟨⟨h0,h1⟩,h2⟩,h3⟩,h4⟩:=h0
  obtain ⟨d',hd'⟩:=Option.isSome_iff_exists.1 h4
  cases x with
  |v c=>
   obtain ⟨h5,h6⟩:=br_none (b:=c.isAgg) h
   obtain ⟨d,hd,h7⟩:=bind_some' h6
   cases c<;>simp [CVal.isAgg] at h5
   rename_i cs
   obtain ⟨vs,rfl,hcs⟩:=hx
   obtain ⟨u,hu,hr,_⟩:=hcs.get hd
   refine ⟨_,h7,u,?_,hr⟩
   have:0 ≤ n∧n < len:=⟨h0,h1⟩
   simp [Instr.index,asIntOf,run_und he,this,run_size hd',h3,part,run_agg hd',h2,hu]
  |_=>cases h
 ·cases h
theorem unK_sound {op:UnOp} {t:TypeId} {x:AVal} {v:Value} {K:AVal→Option R'} (hx:ARel N w μ b x v) (h:unK P op t x K=some r) :
  Yld P N w μ b K r (Op.unary op v):=by
 unfold unK at h
 split at h
 ·obtain ⟨p,rfl,h⟩:=wBool_sound hx h
  exact ⟨_,h,_,rfl,rfl⟩
 ·obtain ⟨k,_,h⟩:=bind_some' h
  obtain ⟨n,rfl,h⟩:=wInt_sound hx h
  exact ⟨_,h,_,rfl,rfl⟩
 ·cases h
theorem lenK_sound {t:TypeId} {x:AVal} {v:Value} {K:AVal→Option R'} {ts:Array TypeId} {out:TypeId} (R:Rel F w μ b) (hx:ARel (Or F (Own μ b)) w μ b x v) (ht:ts[0]? = some t)
  (h:lenK P t b x K=some r):Yld P (Or F (Own μ b)) w μ b K r (Builtin.len_ ts out #[v]):=by
 unfold lenK at h
 split at h
 ·rename_i he
  obtain ⟨s,rfl,h⟩:=wStr_sound hx h
  refine ⟨_,h,.int .i64 (⟨s.toArray⟩:ByteArray).size,?_,?_⟩
  ·unfold Builtin.len_
   simp only [ht,List.getElem?_toArray,List.getElem?_cons_zero,Sem.run_bind,run_und he,Result.andThen_ok]
   rfl
  ·exact congrArg (fun n:Nat=>Value.int .i64 n) (by simp [ByteArray.size])
 ·rename_i e he
  obtain ⟨ys,base,cap,h,rfl,_,_⟩:=wSl_sound R hx h
  refine ⟨_,h,.int .i64 ys.length,?_,rfl⟩
  unfold Builtin.len_
  simp only [ht,List.getElem?_toArray,List.getElem?_cons_zero,Sem.run_bind,run_und he,Result.andThen_ok]
  rfl
 ·rename_i n e he
  refine ⟨_,h,.int .i64 n,?_,rfl⟩
  unfold Builtin.len_
  simp only [ht,List.getElem?_toArray,List.getElem?_cons_zero,Sem.run_bind,run_und he,Result.andThen_ok]
  rfl
 ·cases h
theorem intOp_sound {op:BinOp} {xt:TypeId} {k:IntKind} {x y:Int} {c:CVal} (hop:isShift op=false) (h:intOp op k x y=some c) :
  ∃ u,(Go.binOp op xt (.int k x) (.int k y)).run P w=.ok u w∧CRel N w c u:=by
 cases op<;>simp only [isShift,Bool.true_eq_false] at hop<;>simp only [intOp,Option.some.injEq] at h
 case quo=>
  rcases br_some h with ⟨_,h⟩ | ⟨h0,h⟩
  ·cases h
  ·simp only [decide_eq_false_iff_not,Option.some.injEq] at h0 h
   subst h
   exact ⟨_,by simp [Go.binOp,Op.intDiv,h0],rfl⟩
 case rem=>
  rcases br_some h with ⟨_,h⟩ | ⟨h0,h⟩
  ·cases h
  ·simp only [decide_eq_false_iff_not,Option.some.injEq] at h0 h
   subst h
   exact ⟨_,by simp [Go.binOp,Op.intDiv,h0],rfl⟩
 case add=>subst h;exact ⟨_,by rw [show Go.binOp .add xt (.int k x) (.int k y)=Op.intArith .add k x y by simp [Go.binOp]];rfl,rfl⟩
 case sub=>subst h;exact ⟨_,by rw [show Go.binOp .sub xt (.int k x) (.int k y)=Op.intArith .sub k x y by simp [Go.binOp]];rfl,rfl⟩
 case mul=>subst h;exact ⟨_,by rw [show Go.binOp .mul xt (.int k x) (.int k y)=Op.intArith .mul k x y by simp [Go.binOp]];rfl,rfl⟩
 case and=>subst h;exact ⟨_,by rw [show Go.binOp .and xt (.int k x) (.int k y)=Op.intBits .and k x y by simp [Go.binOp]];rfl,rfl⟩
 case or=>subst h;exact ⟨_,by rw [show Go.binOp .or xt (.int k x) (.int k y)=Op.intBits .or k x y by simp [Go.binOp]];rfl,rfl⟩
 case xor=>subst h;exact ⟨_,by rw [show Go.binOp .xor xt (.int k x) (.int k y)=Op.intBits .xor k x y by simp [Go.binOp]];rfl,rfl⟩
 case andNot=>subst h;exact ⟨_,by rw [show Go.binOp .andNot xt (.int k x) (.int k y)=Op.intBits .andNot k x y by simp [Go.binOp]];rfl,rfl⟩
 case eql=>subst h;exact ⟨_,by rw [show Go.binOp .eql xt (.int k x) (.int k y)=Op.intCmp .eql x y by simp [Go.binOp]];rfl,rfl⟩
 case neq=>subst h;exact ⟨_,by rw [show Go.binOp .neq xt (.int k x) (.int k y)=Op.intCmp .neq x y by simp [Go.binOp]];rfl,rfl⟩
 case lss=>subst h;exact ⟨_,by rw [show Go.binOp .lss xt (.int k x) (.int k y)=Op.intCmp .lss x y by simp [Go.binOp]];rfl,rfl⟩
 case leq=>subst h;exact ⟨_,by rw [show Go.binOp .leq xt (.int k x) (.int k y)=Op.intCmp .leq x y by simp [Go.binOp]];rfl,rfl⟩
 case gtr=>subst h;exact ⟨_,by rw [show Go.binOp .gtr xt (.int k x) (.int k y)=Op.intCmp .gtr x y by simp [Go.binOp]];rfl,rfl⟩
 case geq=>subst h;exact ⟨_,by rw [show Go.binOp .geq xt (.int k x) (.int k y)=Op.intCmp .geq x y by simp [Go.binOp]];rfl,rfl⟩
 all_goals (cases h;done)
theorem shiftOp_sound {op:BinOp} {xt:TypeId} {k k':IntKind} {x y:Int} {c:CVal} (hop:isShift op=true) (h:shiftOp op k x y=some c) :
  ∃ u,(Go.binOp op xt (.int k x) (.int k' y)).run P w=.ok u w∧CRel N w c u:=by
 unfold shiftOp at h
 rcases br_some h with ⟨_,h⟩ | ⟨h0,h⟩
 ·cases h
 ·simp only [decide_eq_false_iff_not] at h0
  cases op<;>simp only [isShift,Bool.false_eq_true] at hop<;>simp only [Option.some.injEq] at h<;>subst h
  ·exact ⟨_,by simp [Go.binOp,Op.shift,h0],rfl⟩
  ·exact ⟨_,by simp [Go.binOp,Op.shift,h0],rfl⟩
theorem guard_int {op:BinOp} {t:TypeId} {x y:Operand} {v u:Value} (hv:∀ cs,v ≠ .agg cs) (hn:v ≠ .nilIface):(eqGuard op t x y v u).run P w=.ok () w:=by
 unfold eqGuard
 cases v<;>first | (exact absurd rfl (hv _)) | (exact absurd rfl hn) | (cases op<;>cases u<;>rfl)
theorem equalIn_bool (d:Nat) {xt:TypeId} {p q:Bool} (hk:P.underlying xt=some .bool):(Op.equalIn (d + 1) xt (.bool p) (.bool q)).run P w=.ok (p == q) w:=by
 simp only [Op.equalIn,Sem.run_bind,run_und hk,Result.andThen_ok]
 rfl
theorem equal_bool {xt:TypeId} {p q:Bool} (hk:P.underlying xt=some .bool):(Op.equal xt (.bool p) (.bool q)).run P w=.ok (p == q) w:=equalIn_bool 9999 hk
theorem bytesLt_eq:∀ a b:List UInt8,Op.bytesLess a b=bytesLt a b
 |[],[]=>rfl
 |_ :: _,[]=>rfl
 |[],_ :: _=>rfl
 |a :: x,b :: y=>by
  simp only [Op.bytesLess,bytesLt,bytesLt_eq x y]
  congr 1
theorem bl_toList (s:List UInt8):(⟨s.toArray⟩:ByteArray).toList=s:=by
 rw [Lib.toList_data]
theorem wAgg_sound {x:AVal} {v:Value} {K:List CVal→Option R'} (hx:ARel N w μ b x v) (h:wAgg x K=some r):∃ cs vs,v=.agg (List.toArray vs)∧CsRel N w true cs vs∧K cs=some r:=by
 unfold wAgg at h
 split at h
 ·rename_i c
  obtain ⟨cs,hc,h⟩:=bind_some' h
  cases c<;>simp [CVal.asAgg] at hc
  subst hc
  obtain ⟨vs,hv,hr⟩:=hx
  exact ⟨_,vs,hv,hr,h⟩
 ·cases h
theorem asInt_some {k:IntKind} {x:CVal} {n:Int} (h:x.asInt k=some n):x=.int k n:=by
 unfold CVal.asInt at h
 split at h
 ·split at h
  ·rename_i e;cases h;rw [e]
  ·cases h
 ·cases h
theorem asBool_some {x:CVal} {n:Bool} (h:x.asBool=some n):x=.bool n:=by
 unfold CVal.asBool at h
 split at h<;>cases h;rfl
theorem asStr_some {x:CVal} {n:List UInt8} (h:x.asStr=some n):x=.str n:=by
 unfold CVal.asStr at h
 split at h<;>cases h;rfl
theorem eqCell_sound {d:Nat} {t:TypeId} {x y:CVal} {u v:Value} {e:Bool} (hx:CRel N w x u) (hy:CRel N w y v) (h:eqCellT P t x y=some e):aggT P t=false∧(∃ dd,P.underlying t=some dd)∧(Op.equalIn (d + 1) t u v).run P w=.ok e w:=by
 unfold eqCellT at h
 split at h
 ·rename_i ht
  obtain ⟨a,ha,h⟩:=bind_some' h
  obtain ⟨c,hc,h⟩:=bind_some' h
  cases h
  cases asBool_some ha;cases asBool_some hc
  have hu:u=.bool a:=hx
  have hv:v=.bool c:=hy
  subst hu hv
  refine ⟨by simp [aggT,ht],⟨_,ht⟩,?_⟩
  rw [run_equalIn_bool' w d t a c ht]
 ·rename_i k ht
  obtain ⟨a,ha,h⟩:=bind_some' h
  obtain ⟨c,hc,h⟩:=bind_some' h
  cases h
  cases asInt_some ha;cases asInt_some hc
  have hu:u=.int k a:=hx
  have hv:v=.int k c:=hy
  subst hu hv
  refine ⟨by simp [aggT,ht],⟨_,ht⟩,?_⟩
  rw [run_equalIn_int w d t k k a c ht]
  rfl
 ·rename_i ht
  obtain ⟨a,ha,h⟩:=bind_some' h
  obtain ⟨c,hc,h⟩:=bind_some' h
  cases h
  cases asStr_some ha;cases asStr_some hc
  have hu:u=.string ⟨a.toArray⟩:=hx
  have hv:v=.string ⟨c.toArray⟩:=hy
  subst hu hv
  refine ⟨by simp [aggT,ht],⟨_,ht⟩,?_⟩
  rw [run_equalIn_string w d t _ _ ht,bl_toList,bl_toList]
  congr 1
  rw [Bool.eq_iff_iff];simp
 ·cases h
theorem eqFields_all {d:Nat} {va vb:List Value} {a c:List CVal} (ha:CsRel N w true a va) (hb:CsRel N w true c vb):∀ {fs:List Field} {z:Bool},Abs.eqFields P fs a c=some z→
  (Op.eqFields (d + 1) va.toArray vb.toArray fs).run P w=.ok z w
 |[],z,h=>by cases h;simp [Op.eqFields]
 |f :: r,z,h=>by
  unfold Abs.eqFields at h
  obtain ⟨h0,h⟩:=br_none h
  have h0:f.name ≠ "_":=by simpa using h0
  obtain ⟨x,hx,h⟩:=bind_some' h
  obtain ⟨y,hy,h⟩:=bind_some' h
  obtain ⟨e,he,h⟩:=bind_some' h
  obtain ⟨z',hz,h⟩:=bind_some' h
  cases h
  obtain ⟨u,hu,hxu,_⟩:=ha.get hx
  obtain ⟨v,hv,hyv,_⟩:=hb.get hy
  obtain ⟨hag,⟨dd,hdd⟩,h1⟩:=eqCell_sound (d:=d) hxu hyv he
  have hag:(isAgg f.type).run P w=.ok false w:=by rw [run_agg hdd,hag]
  have p1:(part f.type va.toArray f.offset).run P w=.ok u w:=by simp [part,hag,hu]
  have p2:(part f.type vb.toArray f.offset).run P w=.ok v w:=by simp [part,hag,hv]
  have h2:=eqFields_all (d:=d) ha hb hz
  rw [Op.eqFields]
  simp only [ne_eq,h0,not_false_eq_true,if_true,Sem.run_bind,p1,p2,h1,Result.andThen_ok]
  cases e
  ·simp
  ·simpa using h2
theorem binK_sound {op:BinOp} {xt yt:TypeId} {x y:AVal} {v u:Value} {ox oy:Operand} {K:AVal→Option R'} (hx:ARel N w μ b x v) (hy:ARel N w μ b y u)
  (h:binK P op xt x y yt K=some r):Yld P N w μ b K r (do eqGuard op xt ox oy v u;Go.binOp op xt v u):=by
 unfold binK at h
 split at h
 ·rename_i k hk
  rcases br_some h with ⟨hop,h⟩ | ⟨hop,h⟩
  ·obtain ⟨m,rfl,h⟩:=wInt_sound hx h
   obtain ⟨k',n,rfl,h⟩:=wIdx_sound hy h
   obtain ⟨c,hc,h⟩:=bind_some' h
   obtain ⟨z,hz,hr⟩:=shiftOp_sound (P:=P) (w:=w) (N:=N) (xt:=xt) (k':=k') hop hc
   refine ⟨_,h,z,?_,hr⟩
   simp only [Sem.run_bind,guard_int (v:=.int k m) (fun cs h=>by cases h) (by simp),Result.andThen_ok]
   exact hz
  ·obtain ⟨m,rfl,h⟩:=wInt_sound hx h
   obtain ⟨n,rfl,h⟩:=wInt_sound hy h
   obtain ⟨c,hc,h⟩:=bind_some' h
   obtain ⟨z,hz,hr⟩:=intOp_sound (P:=P) (w:=w) (N:=N) (xt:=xt) hop hc
   refine ⟨_,h,z,?_,hr⟩
   simp only [Sem.run_bind,guard_int (v:=.int k m) (fun cs h=>by cases h) (by simp),Result.andThen_ok]
   exact hz
 ·obtain ⟨s,rfl,h⟩:=wStr_sound hx h
  obtain ⟨s',rfl,h⟩:=wStr_sound hy h
  have run:∀ z,(Op.stringOp op ⟨s.toArray⟩ ⟨s'.toArray⟩).run P w=.ok z w→(do eqGuard op xt ox oy (.string ⟨s.toArray⟩) (.string ⟨s'.toArray⟩);Go.binOp op xt (.string ⟨s.toArray⟩) (.string ⟨s'.toArray⟩):Sem Value).run P w=.ok z w:=by
   intro z hz
   simp only [Sem.run_bind,guard_int (v:=.string ⟨s.toArray⟩) (fun cs h=>by cases h) (by simp),Result.andThen_ok]
   rw [← hz]
   cases op<;>rfl
  split at h
  ·obtain ⟨h0,h⟩:=br_none h
   simp only [decide_eq_true_eq] at h0
   refine ⟨_,h,.string (⟨s.toArray⟩ ++ ⟨s'.toArray⟩),run _ ?_,?_⟩
   ·have hmax:IntKind.i64.max=9223372036854775807:=by decide
    have h1:¬ (((⟨s.toArray⟩:ByteArray).size + (⟨s'.toArray⟩:ByteArray).size:Nat):Int) > IntKind.i64.max:=by
     have e1:(⟨s.toArray⟩:ByteArray).size=s.length:=rfl
     have e2:(⟨s'.toArray⟩:ByteArray).size=s'.length:=rfl
     rw [hmax,e1,e2];omega
    simp only [Op.stringOp,h1,if_false]
    rfl
   ·show Value.string _=Value.string _
    congr 1
  ·refine ⟨_,h,.bool ((⟨s.toArray⟩:ByteArray).toList == (⟨s'.toArray⟩:ByteArray).toList),run _ rfl,?_⟩
   rw [bl_toList,bl_toList]
   exact congrArg Value.bool (by rw [Bool.eq_iff_iff];simp)
  ·refine ⟨_,h,.bool (!((⟨s.toArray⟩:ByteArray).toList == (⟨s'.toArray⟩:ByteArray).toList)),run _ rfl,?_⟩
   rw [bl_toList,bl_toList]
   exact congrArg Value.bool (by rw [Bool.eq_iff_iff];simp)
  ·refine ⟨_,h,.bool (Op.bytesLess (⟨s.toArray⟩:ByteArray).toList (⟨s'.toArray⟩:ByteArray).toList),run _ rfl,?_⟩
   rw [bl_toList,bl_toList,bytesLt_eq]
   rfl
  ·cases h
 ·obtain ⟨p,rfl,h⟩:=wBool_sound hx h
  obtain ⟨p',rfl,h⟩:=wBool_sound hy h
  have run:∀ z,(Go.binOp op xt (.bool p) (.bool p')).run P w=.ok z w→(do eqGuard op xt ox oy (.bool p) (.bool p');Go.binOp op xt (.bool p) (.bool p'):Sem Value).run P w=.ok z w:=by
   intro z hz
   simp only [Sem.run_bind,guard_int (v:=.bool p) (fun cs h=>by cases h) (by simp),Result.andThen_ok]
   exact hz
  split at h
  ·refine ⟨_,h,.bool (p == p'),run _ ?_,rfl⟩
   rw [show Go.binOp .eql xt (.bool p) (.bool p')=(do pure (.bool (← Op.equal xt (.bool p) (.bool p')))) from rfl]
   simp only [Sem.run_bind,equal_bool ‹P.underlying xt=some .bool›,Result.andThen_ok]
   rfl
  ·refine ⟨_,h,.bool (!(p == p')),run _ ?_,rfl⟩
   rw [show Go.binOp .neq xt (.bool p) (.bool p')=(do pure (.bool (!(← Op.equal xt (.bool p) (.bool p'))))) from rfl]
   simp only [Sem.run_bind,equal_bool ‹P.underlying xt=some .bool›,Result.andThen_ok]
   rfl
  ·cases h
 ·
  rename_i fs hk
  rcases br_some h with ⟨_,h⟩ | ⟨h0,h⟩
  ·cases h
  simp only [Bool.or_eq_false_iff] at h0
  obtain ⟨cs,va,rfl,hva,h⟩:=wAgg_sound hx h
  obtain ⟨cs',vb,rfl,hvb,h⟩:=wAgg_sound hy h
  obtain ⟨z,hz,h⟩:=bind_some' h
  have hfs:P.fieldsOf xt=fs:=by simp [Program.fieldsOf,hk]
  have heq:(Op.equal xt (.agg va.toArray) (.agg vb.toArray)).run P w=.ok z w:=by
   have:(Op.equalIn (9998 + 1 + 1) xt (.agg va.toArray) (.agg vb.toArray)).run P w=.ok z w:=by
    rw [run_equalIn_struct (P:=P) w _ xt _ _ (by rw [hfs];exact hk) h0.1,hfs]
    exact eqFields_all hva hvb hz
   exact this
  have hg:(op=.eql∨op=.neq)→(eqGuard op xt ox oy (.agg va.toArray) (.agg vb.toArray)).run P w=.ok () w:=by
   rintro (rfl | rfl)<;>simp [eqGuard,h0.2]
  split at h
  ·refine ⟨_,h,.bool z,?_,rfl⟩
   rw [show Go.binOp .eql xt (.agg va.toArray) (.agg vb.toArray)=(do pure (.bool (← Op.equal xt (.agg va.toArray) (.agg vb.toArray)))) from rfl]
   simp only [Sem.run_bind,hg (.inl rfl),heq,Result.andThen_ok]
   rfl
  ·refine ⟨_,h,.bool (!z),?_,rfl⟩
   rw [show Go.binOp .neq xt (.agg va.toArray) (.agg vb.toArray)=(do pure (.bool (!(← Op.equal xt (.agg va.toArray) (.agg vb.toArray))))) from rfl]
   simp only [Sem.run_bind,hg (.inr rfl),heq,Result.andThen_ok]
   rfl
  ·cases h
 ·cases h
end
end Go.Proofs.Ytognghbhdalckaa.Abs
namespace Go.Proofs.Ytognghbhdalckaa.Abs
open Go
variable [Glob]
section
variable {P:Program} {w:World} {F N:Nat→Prop} {μ:List Hd} {b:List Blk}
theorem growBy_le (newLen:Nat):∀ (k c:Nat),c ≤ 2 * newLen + 200→Builtin.growBy newLen k c ≤ 2 * newLen + 200
 |0,c,h=>h
 |k + 1,c,h=>by
  simp only [Builtin.growBy]
  split
  ·exact h
  ·refine growBy_le newLen k _ ?_
   omega
theorem nextslicecap_le (need cap:Nat) (h:cap < need):Builtin.nextslicecap need cap ≤ 2 * need + 600:=by
 unfold Builtin.nextslicecap
 split
 ·omega
 ·split
  ·omega
  ·have:=growBy_le need 4 cap (by omega);omega
theorem elemOk_spec {e:TypeId} (h:elemOk P e=true):∃ d i z,P.underlying e=some d∧P.info? e=some i∧i.zero=some z∧z.cells.size=P.cellsOf e∧i.bytes ≤ 4096:=by
 unfold elemOk at h
 simp only [Bool.and_eq_true,decide_eq_true_eq] at h
 obtain ⟨⟨h1,h2⟩,h3⟩:=h
 obtain ⟨d,hd⟩:=Option.isSome_iff_exists.1 h1
 obtain ⟨i,hi⟩:=info_of hd
 rw [hi] at h3
 simp only [Option.bind_some] at h3
 cases hz:i.zero with
 |none=>simp [hz] at h3
 |some z=>
  simp [hz] at h3
  refine ⟨d,i,z,hd,hi,hz,h3,?_⟩
  simpa [Program.bytesOf,hi] using h2
theorem setRow_heap' {x:Nat} {cells:Array Value} {e:TypeId} {l:Array Value} (h:w.heap[x]? = some (.cells cells e (0,0))):(w.setRow x l).heap[x]? = some (.cells l e (0,0)):=setRow_heap w x _ _ _ _ h
theorem setRow_off {x y:Nat} {l:Array Value} (h:y ≠ x):(w.setRow x l).heap[y]? = w.heap[y]?:=setRow_other w x y l h
theorem run_append {ty ty2 e:TypeId} {out:TypeId} {base base2:Option Addr} {xs ys:List CVal} {cap cap2:Nat} {us vs:List Value}
  (hty:P.underlying ty=some (.slice e)) (hty2:isSliceT P ty2=true) (hok:elemOk P e=true) (hlim:xs.length + ys.length ≤ lim)
  (hl:xs.length ≤ cap)
  (hry0:∀ (cap:Nat) (w1:World),w1.heap=w.heap→(Builtin.firstCells (P.cellsOf e) ys.length (.slice base2 ys.length cap)).run P w1=.ok (flatC vs).toArray w1)
  (hrx0:∀ (cap:Nat) (w1:World),w1.heap=w.heap→(Builtin.firstCells (P.cellsOf e) xs.length (.slice base xs.length cap)).run P w1=.ok (flatC us).toArray w1) :
  (xs.length + ys.length ≤ cap∧∀ w',(match base with | some a=>(storeCells (a.add (xs.length * P.cellsOf e)) (flatC vs)).run P w=.ok () w' | none=>w'=w)→
   (Builtin.append_ #[ty,ty2] out #[.slice base xs.length cap,.slice base2 ys.length cap2]).run P w=.ok (.slice base (xs.length + ys.length) cap) w')∨
  (cap < xs.length + ys.length∧∃ newCap rest,xs.length + ys.length ≤ newCap∧rest.length=(newCap - (xs.length + ys.length)) * P.cellsOf e∧
   (Builtin.append_ #[ty,ty2] out #[.slice base xs.length cap,.slice base2 ys.length cap2]).run P w =
    .ok (.slice (some (pl w.heap.size 0)) (xs.length + ys.length) newCap) (({ w with drawn:=w.drawn + 1 }:World).alloc (.cells (flatC us ++ flatC vs ++ rest).toArray e (0,0)))):=by
 obtain ⟨d,i,z,hd,hi,hz,hzs,hby⟩:=elemOk_spec hok
 have hry:=hry0 cap2
 have hrx':=hrx0 cap
 obtain ⟨e2,h2⟩:∃ e2,P.underlying ty2=some (.slice e2):=by
  unfold isSliceT at hty2
  split at hty2
  ·rename_i e2 h2;exact ⟨e2,h2⟩
  ·cases hty2
 by_cases hcap:xs.length + ys.length ≤ cap
 ·left
  refine ⟨hcap,fun w' hw'=>?_⟩
  cases base with
  |none=>
   simp only at hw';subst hw'
   simp [Builtin.append_,run_und hty,run_size hd,run_und h2,Builtin.lenOf,hcap,hry w' rfl]
  |some a=>
   simp only at hw'
   simp [Builtin.append_,run_und hty,run_size hd,run_und h2,Builtin.lenOf,hcap,hry w rfl,hw']
 ·right
  refine ⟨by omega,?_⟩
  have hnext:=nextslicecap_le (xs.length + ys.length) cap (by omega)
  have hb:¬ (2 ^ 48 < Builtin.nextslicecap (xs.length + ys.length) cap * i.bytes):=by
   have:Builtin.nextslicecap (xs.length + ys.length) cap * i.bytes ≤ (2 * (xs.length + ys.length) + 600) * 4096:=Nat.mul_le_mul hnext hby
   unfold lim at hlim
   omega
  have hmax:¬ (IntKind.i64.max < ((xs.length + ys.length:Nat):Int)):=by
   have:IntKind.i64.max=9223372036854775807:=by decide
   rw [this];unfold lim at hlim;omega
  let newCap:=(Question.appendCap (xs.length + ys.length) cap e).cut (w.tape w.drawn (Question.appendCap (xs.length + ys.length) cap e))
  have hge:xs.length + ys.length ≤ newCap:=by
   show _ ≤ xs.length + ys.length + _
   omega
  refine ⟨newCap,(Builtin.zeroCells z.cells (newCap - (xs.length + ys.length))).toList,hge,?_,?_⟩
  ·simp [Builtin.zeroCells,hzs]
  ·have h3:=hrx' w.drew rfl
   have h4:=hry w.drew rfl
   have hinfo:∀ w1:World,(typeInfo e).run P w1=.ok i w1:=fun w1=>by simp [typeInfo,hi]
   have hzero:∀ w1:World,(zeroValue e).run P w1=.ok z w1:=fun w1=>run_zero hi hz
   have hf:(Question.appendCap (xs.length + ys.length) cap e).forced=false:=rfl
   have hb':¬ (281474976710656 < Builtin.nextslicecap (xs.length + ys.length) cap * i.bytes):=hb
   have hmax':¬ (9223372036854775807 < (xs.length:Int) + (ys.length:Int)):=by unfold lim at hlim;omega
   simp [Builtin.append_,run_und hty,run_size hd,run_und h2,Builtin.lenOf,hcap,hinfo,hzero,hf,hb',hmax',h3,h4,newRow]
   refine ⟨⟨rfl,rfl⟩,?_⟩
   congr 2
   apply Array.ext'
   simp [newCap]
theorem drew_old (w:World) (o:Obj) (x:Nat) (h:x < w.heap.size):(({ w with drawn:=w.drawn + 1 }:World).alloc o).heap[x]? = w.heap[x]?:=alloc_old _ o x h
theorem drew_size (w:World) (o:Obj):(({ w with drawn:=w.drawn + 1 }:World).alloc o).heap.size=w.heap.size + 1:=alloc_size _ o
theorem drew_at (w:World) (o:Obj):(({ w with drawn:=w.drawn + 1 }:World).alloc o).heap[w.heap.size]? = some o:=alloc_heap ({ w with drawn:=w.drawn + 1 }:World) o
theorem flatC_append (us vs:List Value):flatC (us ++ vs)=flatC us ++ flatC vs:=by simp [flatC]
theorem GEl.inBlock {d:Bool} {sz x:Nat} {S:List Nat} {xs:List CVal} {us:List Value} {cells:List Value} {e:TypeId} {fr:Nat × Nat} (h:GEs d N w sz S xs us)
  (hw:w.heap[x]? = some (.cells cells.toArray e fr)) (hp:∀ (j:Nat) (v:Value),(flatC us)[j]? = some v→cells[j]? = some v):GEl d N w sz x 0 S xs:=
 h.put fun j v hv=>by
  rw [cell_of_heap hw,Nat.zero_add];exact hp j v hv
theorem firstCells_nil {n:Nat} {base:Option Addr} (cap:Nat) (w1:World):(Builtin.firstCells n ([]:List CVal).length (.slice base ([]:List CVal).length cap)).run P w1=.ok (flatC []).toArray w1:=by
 cases base with
 |none=>rfl
 |some a=>simp [Builtin.firstCells,loadCells,loadCellsFrom,flatC]
theorem own_sub {base:Option Addr} {len cap sz rs x:Nat} {S:List Nat} (h:x ∈ (Hd.arr base len cap sz rs S).own):x ∈ S∨(0 < cap∧∃ a,base=some a∧x=a.block):=by
 cases base with
 |none=>exact .inl h
 |some a=>
  by_cases h0:cap=0
  ·simp [Hd.own,h0] at h;exact .inl h
  ·simp only [Hd.own,h0,if_false,List.mem_cons] at h
   rcases h with h | h
   ·exact .inr ⟨by omega,a,rfl,h⟩
   ·exact .inl h
theorem own_mem {base:Option Addr} {len cap sz rs x:Nat} {S:List Nat} (h:x ∈ S):x ∈ (Hd.arr base len cap sz rs S).own:=by
 cases base with
 |none=>exact h
 |some a=>by_cases h0:cap=0<;>simp [Hd.own,h0,h]
theorem append_new {d:Bool} {S:List Nat} {ty ty2 e out:TypeId} {ys:List CVal} {us:List Value} {base base2:Option Addr} {cap2:Nat} (R:Rel (FS F S) w μ b) (hn:S.Nodup) (hS:∀ x ∈ S,¬ F x∧¬ Glob.ids x)
  (hty:P.underlying ty=some (.slice e)) (hty2:isSliceT P ty2=true) (hok:elemOk P e=true) (hlim:ys.length ≤ lim)
  (hus:GEs d (Or (FS F S) (Own μ b)) w (P.cellsOf e) S ys us)
  (hrun:∀ (cap:Nat) (w1:World),w1.heap=w.heap→(Builtin.firstCells (P.cellsOf e) ys.length (.slice base2 ys.length cap)).run P w1=.ok (flatC us).toArray w1) :
  ∃ v w' μ',(Builtin.append_ #[ty,ty2] out #[.slice base 0 0,.slice base2 ys.length cap2]).run P w=.ok v w'∧
   Post2 (FS F S) F w μ b w' μ' (b ++ [⟨0,.arr ⟨d,false,0⟩ (P.cellsOf e) ys⟩]) (.lref b.length 0) v:=by
 have hG:∀ x,F x→FS F S x:=fun x hx=>.inl hx
 have hap:=run_append (out:=out) (cap:=0) (cap2:=cap2) (base:=base) (base2:=base2) (xs:=[]) (us:=[]) hty hty2 hok (by simpa using hlim) (Nat.le_refl _) hrun (fun cap w1 _=>firstCells_nil cap w1)
 simp only [List.length_nil,Nat.zero_add,Nat.zero_mul] at hap
 have hSlt:∀ x ∈ S,x < w.heap.size:=fun x hx=>R.fb x (.inr hx)
 rcases hap with ⟨h1,h2⟩ | ⟨h1,newCap,rest,h2,h3,h4⟩
 ·have hy:ys=[]:=List.length_eq_zero_iff.1 (by omega)
  subst hy
  obtain ⟨rfl,hu⟩:=hus
  subst hu
  refine ⟨_,w,μ ++ [.arr base 0 0 (P.cellsOf e) 0 []],h2 w ?_,?_⟩
  ·cases base with
   |none=>rfl
   |some a=>simp [storeCells,flatC]
  ·refine push_post R hG (Nat.le_refl _) (fun _ _=>rfl) ?_ rfl rfl rfl ?_ ?_
   ·intro x hx;rw [own_arr0] at hx;cases hx
   ·intro U;exact ⟨base,0,0,[],rfl,Nat.le_refl _,.inl ⟨rfl,rfl⟩⟩
   ·exact ⟨rfl,_,_,push_at,pushμ_at R,by simp,Nat.le_refl _,fun _ _=>rfl⟩
 ·have hsz:(flatC [] ++ flatC us ++ rest).toArray.size=newCap * P.cellsOf e:=by
   have:=hus.flat_len
   have h6:(flatC []).length=0:=rfl
   simp only [List.size_toArray,List.length_append,this,h3,h6,Nat.zero_add]
   rw [← Nat.add_mul,show ys.length + (newCap - ys.length)=newCap by omega]
  refine ⟨_,_,μ ++ [.arr (some (pl w.heap.size 0)) ys.length newCap (P.cellsOf e) (newCap * P.cellsOf e) S],h4,?_⟩
  refine push_post R hG (by rw [drew_size];omega) (fun x hx=>drew_old w _ x hx) ?_ rfl rfl rfl ?_ ?_
  ·intro x hx
   rcases own_sub hx with hx | ⟨_,a,ha,hx⟩
   ·exact ⟨by rw [drew_size];have:=hSlt x hx;omega,.inr ⟨.inr hx,(hS x hx).1,(hS x hx).2⟩⟩
   ·cases ha;subst hx;simp only [pl];rw [drew_size];exact ⟨by omega,.inl (Nat.le_refl _)⟩
  ·intro U
   refine ⟨_,newCap,_,S,rfl,h2,.inr ⟨w.heap.size,_,e,by omega,rfl,drew_at w _,hsz,fun _=>Nat.le_refl _,?_,?_⟩⟩
   ·rw [List.nodup_cons];exact ⟨fun hx=>by have:=hSlt _ hx;omega,hn⟩
   ·refine GEl.inBlock (hus.keep U.keep fun x hx=>drew_old w _ x (hSlt x hx)) (drew_at w _) fun j v hv=>?_
    rw [show flatC [] ++ flatC us ++ rest=flatC us ++ rest from rfl,List.getElem?_append_left (List.getElem?_eq_some_iff.1 hv).1];exact hv
  ·exact ⟨rfl,_,_,push_at,pushμ_at R,by simp,Nat.le_refl _,fun _ _=>rfl⟩
theorem VerOk.next {w w':World} {ver:Nat} {bd bd':Body} {h h':Hd} (ha:alive bd=true) (hf:isFix bd=false) (hn:h' ≠ .none) (hb:∀ x,h ≠ .box x):VerOk w ⟨ver,bd⟩ h w' ⟨ver + 1,bd'⟩ h':=
 ⟨Nat.le_succ _,fun _=>hn,fun x e=>(hb x e).elim,(fun e=>by simp at e),(fun e=>by simp only [] at e;rw [ha] at e;cases e),(fun e=>by simp only [] at e;rw [hf] at e;cases e),(fun e=>by simp at e)⟩
theorem append_own {d:Bool} {S:List Nat} {ty ty2 e out:TypeId} {i ver:Nat} {xs ys:List CVal} {us:List Value} {base2:Option Addr} {cap2:Nat} {v:Value} (R:Rel (FS F S) w μ b) (hnS:S.Nodup) (hS:∀ x ∈ S,¬ F x∧¬ Glob.ids x)
  (hx:ARel N w μ b (.lref i ver) v) (hxs:arrOf b i ver=some xs) (hsz:szOf b i=P.cellsOf e) (hmd:(mdOf b i).deep=d) (hfx:(mdOf b i).fix=false)
  (hty:P.underlying ty=some (.slice e)) (hty2:isSliceT P ty2=true) (hok:elemOk P e=true) (hlim:xs.length + ys.length ≤ lim)
  (hus:GEs d (Or (FS F S) (Own μ b)) w (P.cellsOf e) S ys us)
  (hrun:∀ (cap:Nat) (w1:World),w1.heap=w.heap→(Builtin.firstCells (P.cellsOf e) ys.length (.slice base2 ys.length cap)).run P w1=.ok (flatC us).toArray w1) :
  ∃ v' w' μ',(Builtin.append_ #[ty,ty2] out #[v,.slice base2 ys.length cap2]).run P w=.ok v' w'∧
   Post2 (FS F S) F w μ b w' μ' (b.set i ⟨ver + 1,.arr ⟨d,false,0⟩ (P.cellsOf e) (xs ++ ys)⟩) (.lref i (ver + 1)) v':=by
 have hG:∀ x,F x→FS F S x:=fun x hx=>.inl hx
 have hSlt:∀ x ∈ S,x < w.heap.size:=fun x hx=>R.fb x (.inr hx)
 have adopt:∀ (w':World),w.heap.size ≤ w'.heap.size→∀ x ∈ S,x < w'.heap.size∧(FS F S x∧¬ F x∧¬ Glob.ids x):=fun w' hw' x hx=>⟨Nat.lt_of_lt_of_le (hSlt x hx) hw',.inr hx,(hS x hx).1,(hS x hx).2⟩
 obtain ⟨m,sz,base,cap,rs,S0,rfl,hb,hm,hm1,hs1,hl,hcap⟩:=R.arrAt hx hxs
 rw [hm1] at hmd hfx
 rw [hs1] at hsz
 subst hsz hmd
 have hi:=(List.getElem?_eq_some_iff.1 hb).1
 have hi':=(List.getElem?_eq_some_iff.1 hm).1
 have V:∀ {w':World} {bd':Body} {h':Hd},h' ≠ .none→VerOk w ⟨ver,.arr m (P.cellsOf e) xs⟩ (.arr base xs.length cap (P.cellsOf e) rs S0) w' ⟨ver + 1,bd'⟩ h':=fun hn=>.next rfl hfx hn (fun x e=>by cases e)
 have hS0own:∀ x ∈ S0,x ∈ (Hd.arr base xs.length cap (P.cellsOf e) rs S0).own:=fun x hx=>own_mem hx
 have hS0lt:∀ x ∈ S0,x < w.heap.size∧x ∉ S:=fun x hx=>by
  have:=R.fres x ⟨i,_,_,hb,rfl,hm,hS0own x hx⟩
  exact ⟨this.2,fun h=>this.1 (.inr h)⟩
 have hold:∃ vs,GEs m.deep (Or (FS F S) (Own μ b)) w (P.cellsOf e) S0 xs vs∧
   (∀ (cap:Nat) (w1:World),w1.heap=w.heap→(Builtin.firstCells (P.cellsOf e) xs.length (.slice base xs.length cap)).run P w1=.ok (flatC vs).toArray w1)∧
   ((cap=0∧S0=[])∨∃ x cells t,0 < cap∧base=some (pl x 0)∧w.heap[x]? = some (.cells cells t (0,0))∧cells.size=rs∧cap * P.cellsOf e ≤ cells.size∧Own μ b x∧(x :: S0).Nodup∧
    ∀ (j:Nat) (v:Value),(flatC vs)[j]? = some v→cells[j]? = some v):=by
  rcases hcap with ⟨h0,rfl⟩ | ⟨x,cells,t,h0,rfl,hw,hrs,hz,hnd,he⟩
  ·have hx0:xs=[]:=List.length_eq_zero_iff.1 (by omega)
   subst hx0
   exact ⟨[],⟨rfl,rfl⟩,fun cap w1 _=>firstCells_nil cap w1,.inl ⟨h0,rfl⟩⟩
  ·obtain ⟨vs,hvs,hcell⟩:=he.out
   refine ⟨vs,hvs,fun cap w1 hw1=>?_,.inr ⟨x,cells,t,h0,rfl,hw,hrs,by rw [hrs];exact hz hfx,⟨i,_,_,hb,rfl,hm,by rw [own_arr h0];simp⟩,hnd,fun j v hv=>?_⟩⟩
   ·have hlen:=hvs.flat_len
    have:=run_loadCells_list (P:=P) w1 (pl x 0) (flatC vs) fun j v hj=>by rw [pl_add,cell_heap hw1];exact hcell j v hj
    simp only [Builtin.firstCells]
    rw [← hlen];exact this
   ·have:=hcell j v hv
    simpa [World.cell?,pl,hw] using this
 obtain ⟨vs,hvs,hrx,hblk⟩:=hold
 have hap:=run_append (out:=out) (cap:=cap) (cap2:=cap2) (base:=base) (base2:=base2) hty hty2 hok hlim hl hrun hrx
 have hall:GEs m.deep (Or (FS F S) (Own μ b)) w (P.cellsOf e) (S0 ++ S) (xs ++ ys) (vs ++ us):=hvs.append hus
 have hnd0:S0.Nodup:=by
  rcases hblk with ⟨_,rfl⟩ | ⟨_,_,_,_,_,_,_,_,_,hnd,_⟩
  ·exact List.nodup_nil
  ·exact (List.nodup_cons.1 hnd).2
 have hnd2:(S0 ++ S).Nodup:=by
  rw [List.nodup_append]
  exact ⟨hnd0,hnS,fun a ha c hc e=>(hS0lt a ha).2 (by rw [e];exact hc)⟩
 have hflen:=hvs.flat_len
 have hfl2:=hus.flat_len
 rcases hap with ⟨h1,h2⟩ | ⟨h1,newCap,rest,h2,h3,h4⟩
 ·rcases hblk with ⟨rfl,rfl⟩ | ⟨x,cells,t,h0,rfl,hw,hrs,hz,hown,hnd,hpre⟩
  ·
   have hy:ys=[]:=List.length_eq_zero_iff.1 (by omega)
   subst hy
   obtain ⟨rfl,hu⟩:=hus
   subst hu
   refine ⟨_,w,μ.set i (.arr base xs.length 0 (P.cellsOf e) rs []),h2 w ?_,?_⟩
   ·cases base with
    |none=>rfl
    |some a=>simp [storeCells,flatC]
   ·refine set_post2 R hG hb hm (V (by simp)) (Nat.le_refl _) ?_ (fun _ _ _=>rfl) rfl rfl rfl ?_ ?_
    ·intro x _ ho;rw [own_arr0] at ho;cases ho
    ·intro U;exact ⟨base,0,rs,[],by simp,by simpa using hl,.inl ⟨rfl,rfl⟩⟩
    ·intro U;exact ⟨rfl,_,_,List.getElem?_set_self hi,List.getElem?_set_self hi',by simp,Nat.le_refl _,fun _ _=>rfl⟩
  ·have hroom:0 + xs.length * P.cellsOf e + (flatC us).length ≤ cells.size:=by
    rw [hfl2]
    have:(xs.length + ys.length) * P.cellsOf e ≤ cap * P.cellsOf e:=Nat.mul_le_mul_right _ h1
    rw [Nat.add_mul] at this;omega
   have hst:=run_storeCells_at (P:=P) x (xs.length * P.cellsOf e) t (flatC us) 0 cells w hw (by omega) fun v hv=>flat_oneCell (hus.flatAll v hv)
   simp only [Nat.add_zero] at hst
   have hsz2:(cells.toList.take (xs.length * P.cellsOf e) ++ flatC us ++ cells.toList.drop (xs.length * P.cellsOf e + (flatC us).length)).toArray.size=rs:=by
    rw [← hrs]
    simp only [List.size_toArray,List.length_append,List.length_take,List.length_drop,Array.length_toList]
    omega
   refine ⟨_,w.setRow x (cells.toList.take (xs.length * P.cellsOf e) ++ flatC us ++ cells.toList.drop (xs.length * P.cellsOf e + (flatC us).length)).toArray,
    μ.set i (.arr (some (pl x 0)) (xs.length + ys.length) cap (P.cellsOf e) rs (S0 ++ S)),h2 _ ?_,?_⟩
   ·simp only [pl_add,Nat.zero_add];exact hst
   ·have hxS:∀ y ∈ S0 ++ S,y ≠ x:=by
     intro y hy e'
     subst e'
     rcases List.mem_append.1 hy with h | h
     ·exact (List.nodup_cons.1 hnd).1 h
     ·exact (R.fres y hown).1 (.inr h)
    refine set_post2 R hG hb hm (V (by simp)) (by simp) ?_ ?_ rfl rfl rfl ?_ ?_
    ·intro y _ ho
     rw [own_arr h0] at ho
     rcases List.mem_cons.1 ho with ho | ho
     ·subst ho
      exact ⟨by simpa using (R.fres y hown).2,.inr (.inl ⟨rfl,by rw [own_arr h0];simp⟩)⟩
     ·rcases List.mem_append.1 ho with ho | ho
      ·exact ⟨by simpa using (hS0lt y ho).1,.inr (.inl ⟨rfl,hS0own y ho⟩)⟩
      ·obtain ⟨g1,g2⟩:=adopt (w.setRow x (cells.toList.take (xs.length * P.cellsOf e) ++ flatC us ++ cells.toList.drop (xs.length * P.cellsOf e + (flatC us).length)).toArray) (by simp) y ho
       exact ⟨g1,.inr (.inr g2)⟩
    ·intro y hy hne
     refine setRow_off fun e=>?_
     subst e
     exact hne rfl (by rw [own_arr h0];simp)
    ·intro U
     refine ⟨some (pl x 0),cap,rs,S0 ++ S,by simp,by simpa using h1,.inr ⟨x,_,t,h0,rfl,setRow_heap' hw,hsz2,fun _=>by rw [← hrs];exact hz,?_,?_⟩⟩
     ·rw [List.nodup_cons];exact ⟨fun h=>hxS x h rfl,hnd2⟩
     ·refine GEl.inBlock (hall.keep U.keep fun y hy=>setRow_off (hxS y hy)) (setRow_heap' hw) fun j v hv=>?_
      rw [flatC_append] at hv
      by_cases hj:j < (flatC vs).length
      ·rw [List.getElem?_append_left hj] at hv
       rw [List.append_assoc,List.getElem?_append_left (by simp;omega),List.getElem?_take_of_lt (by omega)]
       simpa using hpre j v hv
      ·rw [List.getElem?_append_right (by omega)] at hv
       have hj2:=(List.getElem?_eq_some_iff.1 hv).1
       rw [List.append_assoc,List.getElem?_append_right (by simp;omega)]
       have hmin:min (xs.length * P.cellsOf e) cells.size=xs.length * P.cellsOf e:=by omega
       simp only [List.length_take,Array.length_toList,hmin]
       rw [List.getElem?_append_left (by omega),← hflen];exact hv
    ·intro U;exact ⟨rfl,_,_,List.getElem?_set_self hi,List.getElem?_set_self hi',by simp,Nat.le_refl _,fun _ _=>rfl⟩
 ·have hsz2:(flatC vs ++ flatC us ++ rest).toArray.size=newCap * P.cellsOf e:=by
   simp only [List.size_toArray,List.length_append,hflen,hfl2,h3]
   rw [← Nat.add_mul,← Nat.add_mul,show xs.length + ys.length + (newCap - (xs.length + ys.length))=newCap by omega]
  refine ⟨_,_,μ.set i (.arr (some (pl w.heap.size 0)) (xs.length + ys.length) newCap (P.cellsOf e) (newCap * P.cellsOf e) (S0 ++ S)),h4,?_⟩
  refine set_post2 R hG hb hm (V (by simp)) (by rw [drew_size];omega) ?_ (fun x hx _=>drew_old w _ x hx) rfl rfl rfl ?_ ?_
  ·intro x _ hx
   rcases own_sub hx with hx | ⟨_,a,ha,hx⟩
   ·rcases List.mem_append.1 hx with ho | ho
    ·exact ⟨by rw [drew_size];have:=(hS0lt x ho).1;omega,.inr (.inl ⟨rfl,hS0own x ho⟩)⟩
    ·exact ⟨by rw [drew_size];have:=hSlt x ho;omega,.inr (.inr ⟨.inr ho,(hS x ho).1,(hS x ho).2⟩)⟩
   ·cases ha;subst hx;simp only [pl];rw [drew_size];exact ⟨by omega,.inl (Nat.le_refl _)⟩
  ·intro U
   have hlt:∀ y ∈ S0 ++ S,y < w.heap.size:=fun y hy=>by
    rcases List.mem_append.1 hy with ho | ho
    ·exact (hS0lt y ho).1
    ·exact hSlt y ho
   refine ⟨some (pl w.heap.size 0),newCap,newCap * P.cellsOf e,S0 ++ S,by simp,by simpa using h2,.inr ⟨w.heap.size,_,e,by omega,rfl,drew_at w _,hsz2,fun _=>Nat.le_refl _,?_,?_⟩⟩
   ·rw [List.nodup_cons];exact ⟨fun h=>by have:=hlt _ h;omega,hnd2⟩
   ·refine GEl.inBlock (hall.keep U.keep fun y hy=>drew_old w _ y (hlt y hy)) (drew_at w _) fun j v hv=>?_
    rw [flatC_append] at hv
    rw [List.getElem?_append_left (by simpa using (List.getElem?_eq_some_iff.1 hv).1)];exact hv
  ·intro U;exact ⟨rfl,_,_,List.getElem?_set_self hi,List.getElem?_set_self hi',by simp,Nat.le_refl _,fun _ _=>rfl⟩
end
end Go.Proofs.Ytognghbhdalckaa.Abs
namespace Go.Proofs.Ytognghbhdalckaa.Abs
open Go
variable [Glob]
section
variable {P:Program} {w:World} {F N:Nat→Prop} {μ:List Hd} {b:List Blk} {R':Type} {r:R'}
theorem set_self {α:Type} {l:List α} {i:Nat} {x:α} (h:l[i]? = some x):l.set i x=l:=by
 apply List.ext_getElem?
 intro j
 by_cases hj:i=j
 ·subst hj;rw [List.getElem?_set_self (List.getElem?_eq_some_iff.1 h).1,h]
 ·rw [List.getElem?_set_ne hj]
def Acts (P:Program) (F:Nat→Prop) (w:World) (μ:List Hd) (b:List Blk) (K:AVal→List Blk→Option R') (r:R') (S:Sem Value) (ro:Bool):Prop:=
 ∃ y b',K y b'=some r∧(ro=true→b'=b)∧∃ u w' μ',S.run P w=.ok u w'∧Post F w μ b w' μ' b' y u
theorem Post.pre {w1 w2:World} {μ1 μ2:List Hd} {b1 b2:List Blk} {x:AVal} {v:Value} (U:Upd F w μ b w1 μ1 b1) (f:Fr (Own μ b) w w1) (p:Post F w1 μ1 b1 w2 μ2 b2 x v) :
  Post F w μ b w2 μ2 b2 x v:=⟨U.trans p.upd,p.rel,p.val,Fr.step U f p.fr⟩
theorem verOf_at {i:Nat} {blk:Blk} (h:b[i]? = some blk):verOf b i=blk.ver:=by simp [verOf,h]
theorem flatC_set {sz:Nat}:∀ {us:List Value} {i j:Nat} {u:Value},(∀ z ∈ us,z.cells.size=sz)→u.cells.size=sz→i < us.length→
  (flatC (us.set i u))[j]? = if i * sz ≤ j∧j < i * sz + sz then u.cells[j - i * sz]? else (flatC us)[j]?
 |[],i,j,u,_,_,hi=>by simp at hi
 |a :: r,0,j,u,h,hu,_=>by
  have ha:=h a (by simp)
  simp only [List.set_cons_zero,flatC,List.flatMap_cons,Nat.zero_mul,Nat.zero_le,true_and,Nat.zero_add,Nat.sub_zero]
  split
  ·rw [List.getElem?_append_left (by simpa [hu])];simp
  ·rw [List.getElem?_append_right (by simp [hu];omega),List.getElem?_append_right (by simp [ha];omega)]
   simp [hu,ha]
 |a :: r,i + 1,j,u,h,hu,hi=>by
  have ha:=h a (by simp)
  have ih:=flatC_set (us:=r) (i:=i) (j:=j - sz) (u:=u) (fun z hz=>h z (by simp [hz])) hu (by simpa using hi)
  have e:(i + 1) * sz=i * sz + sz:=by rw [Nat.add_mul];omega
  simp only [flatC] at ih
  simp only [List.set_cons_succ,flatC,List.flatMap_cons]
  by_cases hj:j < sz
  ·rw [List.getElem?_append_left (by simp [ha];omega),List.getElem?_append_left (by simp [ha];omega),if_neg (by omega)]
  ·rw [List.getElem?_append_right (by simp [ha];omega),List.getElem?_append_right (by simp [ha];omega)]
   simp only [Array.length_toList,ha]
   rw [ih,e]
   by_cases h2:i * sz ≤ j - sz∧j - sz < i * sz + sz
   ·rw [if_pos h2,if_pos (by omega)];congr 1;omega
   ·rw [if_neg h2,if_neg (by omega)]
theorem Taken.post {S:List Nat} {b1 b2:List Blk} {w2:World} {μ2:List Hd} {x:AVal} {v:Value} (T:Taken F w μ b S b1) (p:Post2 (FS F S) F w μ b1 w2 μ2 b2 x v):Post F w μ b w2 μ2 b2 x v:=
 ⟨T.upd.trans2 (fun _ h=>.inl h) p.upd,p.rel,p.val,⟨p.fr.os,p.fr.tape,p.fr.output,p.fr.size,fun x hx hn=>p.fr.block x hx fun h=>hn (T.sub.own h)⟩⟩
theorem Taken.adopt {S:List Nat} {b1:List Blk} (R:Rel F w μ b) (T:Taken F w μ b S b1):∀ x ∈ S,¬ F x∧¬ Glob.ids x:=fun x hx=>⟨(R.fres x (T.own x hx)).1,R.oid x (T.own x hx)⟩
theorem splice_off {α:Type} {l vs:List α} {n j:Nat} (h:n + vs.length ≤ l.length) (hj:j < n∨n + vs.length ≤ j):(l.take n ++ vs ++ l.drop (n + vs.length))[j]? = l[j]?:=by
 have hn:(l.take n).length=n:=by simp;omega
 rcases hj with hj | hj
 ·rw [List.append_assoc,List.getElem?_append_left (by omega),List.getElem?_take_of_lt hj]
 ·rw [List.append_assoc,List.getElem?_append_right (by omega),hn,List.getElem?_append_right (by omega),List.getElem?_drop]
  congr 1;omega
theorem GEl.store {d:Bool} {sz idx off x:Nat} {S:List Nat} {xs:List CVal} {c:CVal} {cells:Array Value} {e:TypeId} {vs:List Value}
  (hw:w.heap[x]? = some (.cells cells e (0,0))) (hel:GEl d N w sz x 0 S xs) (hc:xs[idx]? = some c) (hroom:off + vs.length ≤ sz) :
  ∃ A T B u,S=A ++ T ++ B∧GRel d N w T c u∧u.cells.size=sz∧noTup c=true∧idx * sz + sz ≤ cells.size∧(∀ j,j < sz→w.cell? (pl x (idx * sz + j))=u.cells[j]?)∧
   ∀ (T':List Nat) (d':CVal) (u':Value) (N':Nat→Prop) (w':World),w'=w.setRow x (cells.toList.take (idx * sz + off) ++ vs ++ cells.toList.drop (idx * sz + off + vs.length)).toArray→
    noTup d'=true→GRel d N w T' d' u'→u'.cells.size=sz→u'.cells.toList=u.cells.toList.take off ++ vs ++ u.cells.toList.drop (off + vs.length)→Keep N N' w w'→(∀ y ∈ A ++ T' ++ B,y ≠ x)→
    GEl d N' w' sz x 0 (A ++ T' ++ B) (xs.set idx d'):=by
 obtain ⟨us,hus,hcell⟩:=hel.out
 obtain ⟨A,T,B,u,rfl,hu,ht,hcu,husz,hset⟩:=hus.set hc
 have hidx:=(List.getElem?_eq_some_iff.1 hc).1
 have hlen:=hus.len
 have hoff0:∀ j',j' < sz→(flatC us)[idx * sz + j']? = u.cells[j']?:=by
  intro j' hj'
  have:=flatC_set (us:=us) (i:=idx) (j:=idx * sz + j') (u:=u) hus.sizes husz (by omega)
  rw [set_self hu,if_pos (by omega)] at this
  rw [this];congr 1;omega
 have hoff:∀ j',j' < sz→cells[idx * sz + j']? = u.cells[j']?:=by
  intro j' hj'
  have h1:u.cells[j']? = some (u.cells[j']'(by omega)):=Array.getElem?_eq_getElem (by omega)
  have h2:=hoff0 j' hj'
  rw [h1] at h2
  have h3:=hcell _ _ h2
  have h4:cells[idx * sz + j']? = some (u.cells[j']'(by omega)):=by simpa [World.cell?,pl,hw] using h3
  rw [h1,h4]
 have hbig:idx * sz + sz ≤ cells.size:=by
  by_cases h0:sz=0
  ·subst h0;simp
  ·have h1:=hoff (sz - 1) (by omega)
   have h2:u.cells[sz - 1]? = some (u.cells[sz - 1]'(by omega)):=Array.getElem?_eq_getElem (by omega)
   rw [h2] at h1
   have:=(Array.getElem?_eq_some_iff.1 h1).1
   omega
 refine ⟨A,T,B,u,rfl,hcu,husz,ht,hbig,fun j hj=>?_,?_⟩
 ·have:=hoff j hj
  rw [← this];simp [World.cell?,pl,hw]
 intro T' d' u' N' w' hw' hd0 hcu' husz' hcat K hne
 subst hw'
 refine GEl.inBlock ((hset T' d' u' hd0 hcu' husz').keep K fun y hy=>setRow_off (hne y hy)) (setRow_heap' hw) fun j v hv=>?_
 rw [flatC_set hus.sizes husz' (by omega)] at hv
 have old:∀ v,(flatC us)[j]? = some v→cells.toList[j]? = some v:=fun v hv=>by
  have:=hcell j v hv
  simpa [World.cell?,pl,hw] using this
 have hoff':∀ j',j' < sz→u.cells.toList[j']? = cells.toList[idx * sz + j']?:=by
  intro j' hj'
  rw [Array.getElem?_toList,Array.getElem?_toList,hoff j' hj']
 split at hv
 ·rename_i hj
  rw [← Array.getElem?_toList,hcat] at hv
  by_cases h1:j - idx * sz < off
  ·rw [List.append_assoc,List.getElem?_append_left (by simp;omega),List.getElem?_take_of_lt h1,hoff' _ (by omega),show idx * sz + (j - idx * sz)=j by omega] at hv
   rw [List.append_assoc,List.getElem?_append_left (by simp;omega),List.getElem?_take_of_lt (by omega)]
   exact hv
  ·have m1:min off sz=off:=by omega
   have m2:min (idx * sz + off) cells.size=idx * sz + off:=by omega
   rw [List.append_assoc,List.getElem?_append_right (by simp;omega)] at hv
   rw [List.append_assoc,List.getElem?_append_right (by simp;omega)]
   simp only [List.length_take,Array.length_toList,husz,m1,m2] at hv ⊢
   rw [show j - idx * sz - off=j - (idx * sz + off) by omega] at hv
   by_cases h2:j - (idx * sz + off) < vs.length
   ·rw [List.getElem?_append_left h2] at hv ⊢;exact hv
   ·rw [List.getElem?_append_right (by omega)] at hv ⊢
    rw [List.getElem?_drop] at hv ⊢
    rw [hoff' _ (by omega)] at hv
    rw [← hv];congr 1;omega
 ·rename_i hj
  have hv':=old v hv
  by_cases h1:j < idx * sz + off
  ·rw [List.append_assoc,List.getElem?_append_left (by simp;omega),List.getElem?_take_of_lt h1];exact hv'
  ·have m2:min (idx * sz + off) cells.size=idx * sz + off:=by omega
   rw [List.append_assoc,List.getElem?_append_right (by simp;omega)]
   simp only [List.length_take,Array.length_toList,m2]
   rw [List.getElem?_append_right (by omega),List.getElem?_drop]
   rw [← hv'];congr 1;omega
theorem nodup_swap {A T B T' S:List Nat} (h:(A ++ T ++ B).Nodup) (h':T'.Nodup) (hs:∀ x ∈ T',x ∈ T∨x ∈ S) (hd:∀ x ∈ S,x ∉ A ++ T ++ B):(A ++ T' ++ B).Nodup:=by
 simp only [List.nodup_append,List.mem_append] at *
 obtain ⟨⟨hA,hT,hAT⟩,hB,hAB⟩:=h
 refine ⟨⟨hA,h',fun a ha c hc e=>?_⟩,hB,fun a ha c hc e=>?_⟩
 ·subst e
  rcases hs a hc with h1 | h1
  ·exact hAT a ha a h1 rfl
  ·exact hd a h1 (.inl (.inl ha))
 ·subst e
  rcases ha with ha | ha
  ·exact hAB a (.inl ha) a hc rfl
  ·rcases hs a ha with h1 | h1
   ·exact hAB a (.inr h1) a hc rfl
   ·exact hd a h1 (.inr hc)
theorem store_elem {S0:List Nat} {i ver idx off sz cap rs:Nat} {m:Md} {sv':Nat} {xs:List CVal} {c d:CVal} {x:Nat} {S:List Nat} {cells:Array Value} {e:TypeId} {vs:List Value} (R:Rel (FS F S0) w μ b) (hS0:∀ y ∈ S0,¬ F y∧¬ Glob.ids y)
  (hb:b[i]? = some ⟨ver,.arr m sz xs⟩) (hm:μ[i]? = some (.arr (some (pl x 0)) xs.length cap sz rs S)) (hl:xs.length ≤ cap) (h0:0 < cap)
  (hw:w.heap[x]? = some (.cells cells e (0,0))) (hrs:cells.size=rs) (hz:m.fix=false→cap * sz ≤ rs) (hnd:(x :: S).Nodup) (hel:GEl m.deep (Or (FS F S0) (Own μ b)) w sz x 0 S xs)
  (hc:xs[idx]? = some c) (hd0:noTup d=true) (hsv:m.sv ≤ sv')
  (hnew:∀ T u,GRel m.deep (Or (FS F S0) (Own μ b)) w T c u→u.cells.size=sz→T.Nodup→(∀ y ∈ S0,y ∉ T)→
   ∃ T' u',GRel m.deep (Or (FS F S0) (Own μ b)) w T' d u'∧u'.cells.size=sz∧u'.cells.toList=u.cells.toList.take off ++ vs ++ u.cells.toList.drop (off + vs.length)∧T'.Nodup∧∀ y ∈ T',y ∈ T∨y ∈ S0)
  (hin:sv'=m.sv→m.deep=true→∀ idx' off',slAt (xs.set idx d) idx' off'→slAt xs idx' off'∧(idx'=idx→off' < off∨off + vs.length ≤ off'))
  (hflat:∀ v ∈ vs,flat v=true) (hroom:off + vs.length ≤ sz) :
  ∃ w' μ',(storeCells (pl x (idx * sz + off)) vs).run P w=.ok () w'∧∀ z,Post2 (FS F S0) F w μ b w' μ' (b.set i ⟨ver,.arr ⟨m.deep,m.fix,sv'⟩ sz (xs.set idx d)⟩) .un z:=by
 obtain ⟨A,T,B,u,rfl,hcu,husz,htc,hbig,hcellu,hgo⟩:=GEl.store hw hel hc hroom
 have hown:Own μ b x:=⟨i,_,_,hb,rfl,hm,by rw [own_arr h0];simp⟩
 have hSown:∀ y ∈ A ++ T ++ B,Own μ b y:=fun y hy=>⟨i,_,_,hb,rfl,hm,own_mem hy⟩
 have hdis:∀ y ∈ S0,y ∉ A ++ T ++ B:=fun y hy h=>(R.fres y (hSown y h)).1 (.inr hy)
 have hndS:=(List.nodup_cons.1 hnd).2
 have hT:T.Nodup:=(List.nodup_append.1 (List.nodup_append.1 hndS).1).2.1
 obtain ⟨T',u',hcu',husz',hcat,hT',hsub⟩:=hnew T u hcu husz hT fun y hy h=>hdis y hy (by simp [h])
 have hnd':(A ++ T' ++ B).Nodup:=nodup_swap hndS hT' hsub hdis
 have mem':∀ y ∈ A ++ T' ++ B,y ∈ A ++ T ++ B∨y ∈ S0:=by
  intro y hy
  simp only [List.mem_append] at hy ⊢
  rcases hy with (hy | hy) | hy
  ·exact .inl (.inl (.inl hy))
  ·exact (hsub y hy).imp (fun h=>.inl (.inr h)) id
  ·exact .inl (.inr hy)
 have hne:∀ y ∈ A ++ T' ++ B,y ≠ x:=by
  intro y hy e
  subst e
  rcases mem' y hy with h | h
  ·exact (List.nodup_cons.1 hnd).1 h
  ·exact (R.fres y hown).1 (.inr h)
 have hst:=run_storeCells_at (P:=P) x (idx * sz + off) e vs 0 cells w hw (by omega) fun z hz=>flat_oneCell (hflat z hz)
 have hidx:=(List.getElem?_eq_some_iff.1 hc).1
 have hV:VerOk w ⟨ver,.arr m sz xs⟩ (.arr (some (pl x 0)) xs.length cap sz rs (A ++ T ++ B)) (w.setRow x (cells.toList.take (idx * sz + off) ++ vs ++ cells.toList.drop (idx * sz + off + vs.length)).toArray)
   ⟨ver,.arr ⟨m.deep,m.fix,sv'⟩ sz (xs.set idx d)⟩ (.arr (some (pl x 0)) xs.length cap sz rs (A ++ T' ++ B)):=by
  refine ⟨Nat.le_refl _,(fun _ h=>by cases h),(fun _ h=>by cases h),fun _ _ _=>⟨rfl,rfl⟩,(fun h=>by simp [alive] at h),fun h=>⟨rfl,fun _=>h⟩,fun _ m' sz' xs' hcont _=>?_⟩
  simp only [cont,Option.some.injEq,Prod.mk.injEq] at hcont
  obtain ⟨rfl,rfl,rfl⟩:=hcont
  refine ⟨m,xs,rfl,hsv,fun e hd=>⟨hd,fun idx' off' hs=>?_⟩⟩
  obtain ⟨hs0,hrange⟩:=hin e hd idx' off' hs
  refine ⟨hs0,fun x' len' cap' rs' S' he _=>?_⟩
  cases he
  obtain ⟨c',ys,hc',hcy⟩:=hs0
  obtain ⟨u2,_,_,ht2,hg2,hz2,_⟩:=hel.get hc'
  obtain ⟨vs2,hv2,hl2,_⟩:=GRel.shape hg2 ht2
  have hlt:off' < sz:=by
   have h1:off' < c'.cells.length:=(List.getElem?_eq_some_iff.1 hcy).1
   rw [hv2] at hz2
   simp at hz2;omega
  have hnot:¬ (idx * sz + off ≤ idx' * sz + off'∧idx' * sz + off' < idx * sz + off + vs.length):=by
   rintro ⟨h1,h2⟩
   by_cases hii:idx'=idx
   ·subst hii
    rcases hrange rfl with h | h<;>omega
   ·rcases Nat.lt_or_gt_of_ne hii with h | h
    ·have:(idx' + 1) * sz ≤ idx * sz:=Nat.mul_le_mul_right _ h
     rw [Nat.add_mul] at this;omega
    ·have:(idx + 1) * sz ≤ idx' * sz:=Nat.mul_le_mul_right _ h
     rw [Nat.add_mul] at this;omega
  simp only [World.cell?,pl,setRow_heap' hw,hw]
  simp only [List.getElem?_toArray]
  rw [splice_off (by simp;omega) (by omega)]
  simp
 refine ⟨_,μ.set i (.arr (some (pl x 0)) xs.length cap sz rs (A ++ T' ++ B)),hst,fun z=>?_⟩
 refine set_post2 (F:=FS F S0) (G:=F) (x:=.un) (v:=z) R (fun _ h=>.inl h) hb hm hV (by simp) ?_ ?_ rfl rfl rfl ?_ (fun _=>trivial)
 ·intro y _ hy
  rw [own_arr h0] at hy
  rcases List.mem_cons.1 hy with hy | hy
  ·subst hy
   exact ⟨by simpa using (R.fres y hown).2,.inr (.inl ⟨rfl,by rw [own_arr h0];simp⟩)⟩
  ·rcases mem' y hy with h | h
   ·exact ⟨by simpa using (R.fres y (hSown y h)).2,.inr (.inl ⟨rfl,own_mem h⟩)⟩
   ·exact ⟨by simpa using R.fb y (.inr h),.inr (.inr ⟨.inr h,(hS0 y h).1,(hS0 y h).2⟩)⟩
 ·intro y _ hne'
  exact setRow_off fun e=>hne' rfl (by rw [e,own_arr h0];simp)
 ·intro U
  refine ⟨some (pl x 0),cap,rs,A ++ T' ++ B,by simp,by simpa using hl,.inr ⟨x,_,e,h0,rfl,setRow_heap' hw,?_,hz,?_,?_⟩⟩
  ·rw [← hrs]
   simp only [List.size_toArray,List.length_append,List.length_take,List.length_drop,Array.length_toList];omega
  ·rw [List.nodup_cons];exact ⟨fun h=>hne x h rfl,hnd'⟩
  ·exact hgo T' d u' _ _ rfl hd0 hcu' husz' hcat U.keep hne
theorem putEl_sound {agg:Bool} {n:Nat} {c:CVal} {off:Nat} {d:CVal} {K:CVal→Option R'} (h:putEl agg n c off d K=some r) :
  ∃ c',K c'=some r∧d.fits agg n=true∧((off=0∧c.fits agg n=true∧c'=d)∨(∃ cs,c=.agg cs∧off + d.cells.length ≤ cs.length∧c'=.agg (splice cs off d.cells))):=by
 unfold putEl at h
 obtain ⟨hfit,h⟩:=br_none h
 rcases br_some h with ⟨h1,h⟩ | ⟨_,h⟩
 ·simp only [Bool.and_eq_true,decide_eq_true_eq] at h1
  exact ⟨_,h,hfit,.inl ⟨h1.1,h1.2,rfl⟩⟩
 ·obtain ⟨h1,h⟩:=br_none h
  simp only [Bool.and_eq_true,decide_eq_true_eq] at h1
  cases c<;>simp [CVal.isAgg] at h1
  exact ⟨_,h,hfit,.inr ⟨_,rfl,h1,rfl⟩⟩
theorem put_new {d0:Bool} {S0:List Nat} {agg:Bool} {n sz off:Nat} {c d c':CVal} {vd:Value} {vs:List Value} (hfit:d.fits agg n=true) (hvd:GRel d0 N w S0 d vd) (hvs:vd.cells=vs.toArray)
  (hc':(off=0∧c.fits agg n=true∧c'=d)∨(∃ cs,c=.agg cs∧off + d.cells.length ≤ cs.length∧c'=.agg (splice cs off d.cells))) (hS0:S0.Nodup) :
  noTup c'=true∧(∀ T u,GRel d0 N w T c u→u.cells.size=sz→off + vs.length ≤ sz∧(T.Nodup→(∀ y ∈ S0,y ∉ T)→
   ∃ T' u',GRel d0 N w T' c' u'∧u'.cells.size=sz∧u'.cells.toList=u.cells.toList.take off ++ vs ++ u.cells.toList.drop (off + vs.length)∧T'.Nodup∧∀ y ∈ T',y ∈ T∨y ∈ S0)):=by
 have hvl:vs.length=n:=by
  have:=GRel.size hvd hfit
  rw [hvs] at this;simpa using this
 rcases hc' with ⟨rfl,hfc,rfl⟩ | ⟨cs,rfl,hle,rfl⟩
 ·refine ⟨fits_noTup hfit,fun T u hu hsz=>?_⟩
  have hn:=GRel.size hu hfc
  refine ⟨by omega,fun _ _=>⟨S0,vd,hvd,by rw [GRel.size hvd hfit];omega,?_,hS0,fun y hy=>.inr hy⟩⟩
  have:u.cells.toList.length=vs.length:=by simp;omega
  rw [hvs]
  simp [← this]
 ·refine ⟨rfl,fun T u hu hsz=>?_⟩
  have hdl:=fits_len hfit
  have build:∀ vs1:List Value,vs1.length=cs.length→u=.agg vs1.toArray→off + vs.length ≤ sz∧(Value.agg (vs1.take off ++ vs ++ vs1.drop (off + vs.length)).toArray).cells.size=sz∧
    (Value.agg (vs1.take off ++ vs ++ vs1.drop (off + vs.length)).toArray).cells.toList=u.cells.toList.take off ++ vs ++ u.cells.toList.drop (off + vs.length):=by
   intro vs1 hl1 hu1
   subst hu1
   simp [Value.cells] at hsz
   exact ⟨by omega,by simp [Value.cells];omega,by simp [Value.cells]⟩
  cases d0 with
  |false=>
   obtain ⟨rfl,vs1,rfl,hc1⟩:=hu
   obtain ⟨g1,g2,g3⟩:=build vs1 hc1.len rfl
   obtain ⟨e0,hcd⟩:=hvd
   obtain ⟨vs2,hv2,hc2⟩:=CRel.shape hcd (fits_noTup hfit)
   have:vs2=vs:=by rw [hvs] at hv2;simpa using hv2.symm
   subst this
   exact ⟨g1,fun _ _=>⟨[],_,⟨rfl,_,rfl,hc1.splice off hc2⟩,g2,g3,List.nodup_nil,by simp⟩⟩
  |true=>
   obtain ⟨vs1,rfl,hc1⟩:=hu
   obtain ⟨g1,g2,g3⟩:=build vs1 hc1.len rfl
   obtain ⟨vs2,hv2,hc2⟩:=DRel.shape hvd (fits_noTup hfit)
   have:vs2=vs:=by rw [hvs] at hv2;simpa using hv2.symm
   subst this
   refine ⟨g1,fun hT hdis=>?_⟩
   obtain ⟨S1,S2,rfl,hA,hB⟩:=hc1.cut off
   obtain ⟨S3,S4,rfl,_,hD⟩:=hB.cut vs2.length
   rw [List.drop_drop,List.drop_drop] at hD
   have hall:=(hA.append hc2).append hD
   have hlen:=hc2.len
   refine ⟨S1 ++ S0 ++ S4,_,⟨_,rfl,?_⟩,g2,g3,?_,fun y hy=>?_⟩
   ·unfold splice
    rw [← hlen];exact hall
   ·have hT2:(S1 ++ S3 ++ S4).Nodup:=by rw [List.append_assoc];exact hT
    refine nodup_swap (T:=S3) (S:=S0) hT2 hS0 (fun y hy=>.inr hy) fun y hy h=>hdis y hy (by rw [← List.append_assoc];exact h)
   ·simp only [List.mem_append] at hy ⊢
    rcases hy with (hy | hy) | hy
    ·exact .inl (.inl hy)
    ·exact .inr hy
    ·exact .inl (.inr (.inr hy))
theorem slAt_put {agg:Bool} {n off idx:Nat} {c d c':CVal} {xs:List CVal} {ks:List CK} (hc:xs[idx]? = some c) (hk:okCells ks d.cells=true)
  (hc':(off=0∧c.fits agg n=true∧c'=d)∨(∃ cs,c=.agg cs∧off + d.cells.length ≤ cs.length∧c'=.agg (splice cs off d.cells))) (hd:d.fits agg n=true) :
  ∀ idx' off',slAt (xs.set idx c') idx' off'→slAt xs idx' off'∧(idx'=idx→off' < off∨off + d.cells.length ≤ off'):=by
 have nosl:∀ (j:Nat) (ys:List CVal),d.cells[j]? ≠ some (.sl ys):=by
  have:∀ (ks:List CK) (cs:List CVal),okCells ks cs=true→∀ (j:Nat) (ys:List CVal),cs[j]? ≠ some (.sl ys):=by
   intro ks cs
   induction cs generalizing ks with
   |nil=>intro _ j ys h;simp at h
   |cons a cs ih=>
    intro h j ys hj
    cases ks with
    |nil=>simp [okCells] at h
    |cons k ks=>
     simp only [okCells,Bool.and_eq_true] at h
     cases j with
     |zero=>
      simp at hj;subst hj
      have:=CK.pt h.1
      simp [CVal.isPt] at this
     |succ j=>exact ih ks h.2 j ys (by simpa using hj)
  exact this ks d.cells hk
 intro idx' off' ⟨e,ys,he,hy⟩
 by_cases hii:idx'=idx
 ·subst hii
  have hidx:=(List.getElem?_eq_some_iff.1 hc).1
  rw [List.getElem?_set_self hidx] at he
  cases he
  rcases hc' with ⟨rfl,hfc,rfl⟩ | ⟨cs,rfl,hle,rfl⟩
  ·exact (nosl _ _ hy).elim
  ·have hy:(cs.take off ++ d.cells ++ cs.drop (off + d.cells.length))[off']? = some (.sl ys):=hy
   by_cases h1:off' < off∨off + d.cells.length ≤ off'
   ·rw [splice_off hle h1] at hy
    exact ⟨⟨_,ys,hc,hy⟩,fun _=>h1⟩
   ·have hn:(cs.take off).length=off:=by simp;omega
    rw [List.append_assoc,List.getElem?_append_right (by omega),hn,List.getElem?_append_left (by omega)] at hy
    exact (nosl _ _ hy).elim
 ·rw [List.getElem?_set_ne (Ne.symm hii)] at he
  exact ⟨⟨e,ys,he,hy⟩,fun h=>(hii h).elim⟩
theorem DCsT.flatOk:∀ {ks:List CK} {S:List Nat} {cs:List CVal} {vs:List Value},ks.all CK.flat=true→DCsT P N w ks S cs vs→okCells ks cs=true
 |[],_,_,_,_,⟨_,hc,_⟩=>by subst hc;rfl
 |k :: ks,S,cs,vs,hf,h=>by
  simp only [List.all_cons,Bool.and_eq_true] at hf
  obtain ⟨c,l,u,us,rfl,rfl,hk,_,hr⟩:=(DCsT.pt hf.1).1 h
  simp only [okCells,hk,Bool.true_and]
  exact DCsT.flatOk hf.2 hr
theorem DT.flatOk {t:TypeId} {S:List Nat} {c:CVal} {v:Value} (hf:flatT P t=true) (h:DT P t N w S c v):okCells (cks P t) c.cells=true:=by
 unfold flatT at hf
 simp only [Bool.and_eq_true] at hf
 unfold DT at h
 cases ha:aggT P t with
 |true=>
  rw [ha] at h
  obtain ⟨l,vs,rfl,_,h⟩:=h
  exact h.flatOk hf.1
 |false=>
  rw [ha] at h
  have:=h.2.flatOk hf.1
  have hc:c.cells=[c]:=by
   obtain ⟨hc,hfl⟩:=DCs.one h.2.toD
   cases c with
   |agg l=>obtain ⟨z,rfl,_⟩:=hc;simp [flat] at hfl
   |_=>rfl
  rw [hc];exact this
theorem run_storeAt {t:TypeId} {d:TypeDesc} {v:Value} {vs:List Value} {x o:Nat} {w':World} (hd:P.underlying t=some d) (hv:v.cells=vs.toArray) (hn:vs.length=P.cellsOf t)
  (hr:(storeCells (pl x o) vs).run P w=.ok () w'):(Instr.storeAt t (.pointer (some (pl x o))) v).run P w=.ok () w':=by
 simp only [Instr.storeAt,Sem.run_bind,sureAddr_run,Result.andThen_ok,storeVar,run_size hd,hv,List.size_toArray,hn,ne_eq,not_true_eq_false,if_false,Sem.run_ite]
 exact hr
theorem store_lel {S0:List Nat} {t:TypeId} {i ver idx off:Nat} {d:CVal} {v u:Value} {sv':Nat} {K:List Blk→Option R'} (R:Rel (FS F S0) w μ b) (hnS:S0.Nodup) (hS:∀ y ∈ S0,¬ F y∧¬ Glob.ids y) (hd':∃ dd,P.underlying t=some dd)
  (hx:ARel N w μ b (.lel i ver idx off) v) (hg:GRel (mdOf b i).deep (Or (FS F S0) (Own μ b)) w S0 d u) (hsz:u.cells.size=P.cellsOf t) (hsv:(mdOf b i).sv ≤ sv') (hfl:sv'=(mdOf b i).sv→(mdOf b i).deep=true→okCells (cks P t) d.cells=true)
  (h:((arrOf b i ver).bind fun xs=>(xs[idx]?).bind fun c=>putEl (aggT P t) (P.cellsOf t) c off d fun c'=>K (b.set i ⟨ver,.arr ⟨(mdOf b i).deep,(mdOf b i).fix,sv'⟩ (szOf b i) (xs.set idx c')⟩))=some r) :
  ∃ b',K b'=some r∧∃ w' μ',(Instr.storeAt t v u).run P w=.ok () w'∧∀ z,Post2 (FS F S0) F w μ b w' μ' b' .un z:=by
 obtain ⟨dd,hdd⟩:=hd'
 obtain ⟨xs,hxs,h⟩:=bind_some' h
 obtain ⟨c,hc,h⟩:=bind_some' h
 obtain ⟨c',h,hfit,hc'⟩:=putEl_sound h
 obtain ⟨m,sz,x,cap,rs,S,cells,e,rfl,hidx,hb,hm,hmd,hszb,hl,h0,hw,hrs,hz,hnd,hel⟩:=R.elAt hx hxs
 rw [hmd] at hg hsv hfl
 rw [hmd,hszb] at h
 obtain ⟨vs,hvs,hvl,hvf⟩:=GRel.shape hg (fits_noTup hfit)
 have hvn:vs.length=P.cellsOf t:=by rw [hvs] at hsz;simpa using hsz
 obtain ⟨hnt,hput⟩:=put_new (sz:=sz) hfit hg hvs hc' hnS
 obtain ⟨uc,Tc,_,_,hgc,hzc,_⟩:=hel.get hc
 have hroom:=(hput Tc uc hgc hzc).1
 obtain ⟨w',μ',hr,hp⟩:=store_elem (P:=P) (d:=c') (off:=off) (vs:=vs) (sv':=sv') R hS hb hm hl h0 hw hrs hz hnd hel hc hnt hsv (fun T u hu hs=>(hput T u hu hs).2)
  (fun e1 e2=>by rw [hvl];exact slAt_put hc (hfl e1 e2) hc' hfit) hvf hroom
 exact ⟨_,h,w',μ',run_storeAt hdd hvs hvn hr,hp⟩
theorem own_arrOf {i ver:Nat} {xs:List CVal} (h:arrOf b i ver=some xs):∃ m sz,b[i]? = some ⟨ver,.arr m sz xs⟩∧mdOf b i=m∧szOf b i=sz:=by
 unfold arrOf at h
 split at h
 ·rename_i ver' m sz xs' hb
  obtain ⟨h1,h2⟩:=br_none h
  simp at h1 h2;subst h1 h2
  exact ⟨m,sz,hb,by simp [mdOf,hb],by simp [szOf,hb]⟩
 ·cases h
theorem thaw_mdOf {i:Nat} (b:List Blk):(mdOf (thaw b i) i).deep=false:=by
 unfold thaw
 split
 ·rename_i ver m sz xs hb
  have hi:=(List.getElem?_eq_some_iff.1 hb).1
  simp [mdOf,hi]
 ·rename_i h
  unfold mdOf
  split
  ·rename_i ver m sz xs hb;exact (h _ _ _ _ hb).elim
  ·rfl
theorem sub_mdOf {b':List Blk} {i ver:Nat} {xs:List CVal} (s:Sub b' b) (h:arrOf b' i ver=some xs):mdOf b' i=mdOf b i:=by
 obtain ⟨m,sz,hb,h1,_⟩:=own_arrOf h
 have:=s.at_ _ _ hb rfl
 rw [h1];simp [mdOf,this]
theorem slAt_putCell {xs:List CVal} {idx off:Nat} {c:CVal} {ys ys':List CVal} (hc:xs[idx]? = some c) (hcy:c.cell off=some (.sl ys)):∀ {idx' off'},slAt (xs.set idx (c.putCell off (.sl ys'))) idx' off'→slAt xs idx' off':=by
 intro idx' off' ⟨e,zs,he,hz⟩
 by_cases hii:idx=idx'
 ·subst hii
  rw [List.getElem?_set_self (List.getElem?_eq_some_iff.1 hc).1] at he
  cases he
  by_cases hoo:off=off'
  ·subst hoo;exact ⟨c,ys,hc,hcy⟩
  ·refine ⟨c,zs,hc,?_⟩
   cases c with
   |agg cs=>
    simp only [CVal.putCell,CVal.cell,CVal.cells] at hz ⊢
    rw [List.getElem?_set_ne hoo] at hz;exact hz
   |_=>
    cases off' with
    |zero=>
     cases off with
     |zero=>exact (hoo rfl).elim
     |succ n=>simp [CVal.cell,CVal.cells] at hcy
    |succ n=>simp [CVal.putCell,CVal.cell,CVal.cells] at hz
 ·rw [List.getElem?_set_ne hii] at he
  exact ⟨e,zs,he,hz⟩
theorem DCsT.flatS:∀ {ks:List CK} {S:List Nat} {cs:List CVal} {vs:List Value},ks.all CK.flat=true→DCsT P N w ks S cs vs→S=[]
 |[],_,_,_,_,⟨h,_⟩=>h
 |k :: ks,S,cs,vs,hf,h=>by
  simp only [List.all_cons,Bool.and_eq_true] at hf
  obtain ⟨c,l,u,us,_,_,_,_,hr⟩:=(DCsT.pt hf.1).1 h
  exact DCsT.flatS hf.2 hr
theorem DT.flatS {t:TypeId} {S:List Nat} {c:CVal} {v:Value} (hf:flatT P t=true) (h:DT P t N w S c v):S=[]:=by
 unfold flatT at hf
 simp only [Bool.and_eq_true] at hf
 unfold DT at h
 cases ha:aggT P t with
 |true=>
  rw [ha] at h
  obtain ⟨l,vs,_,_,h⟩:=h
  exact h.flatS hf.1
 |false=>
  rw [ha] at h
  exact h.2.flatS hf.1
theorem store_lel2 {t:TypeId} {i ver sv idx off idx2:Nat} {xs ys:List CVal} {c e d:CVal} {v u:Value} (R:Rel F w μ b) (hd':∃ dd,P.underlying t=some dd) (hag:aggT P t=false)
  (hx:ARel N w μ b (.lel2 i ver sv idx off idx2) v) (hdt:DT P t (Or F (Own μ b)) w [] d u) (hsz:u.cells.size=P.cellsOf t) (hxs:arrOf b i ver=some xs) (hc:xs[idx]? = some c) (hcy:c.cell off=some (.sl ys)) (hmd:(mdOf b i).deep=true) (hsv:(mdOf b i).sv=sv)
  (he:ys[idx2]? = some e) (hef:e.fitsF false (cks P t)=true) :
  ∃ w' μ',(Instr.storeAt t v u).run P w=.ok () w'∧∀ z,Post F w μ b w' μ' (b.set i ⟨ver,.arr (mdOf b i) (szOf b i) (xs.set idx (c.putCell off (.sl (ys.set idx2 d))))⟩) .un z:=by
 obtain ⟨dd,hdd⟩:=hd'
 obtain ⟨m,sz,base,cap,rs,S,hb,hm,hm1,hs1,hl,hcap⟩:=R.arr hxs
 rw [hm1] at hmd hsv ⊢
 rw [hs1]
 have hidx:=(List.getElem?_eq_some_iff.1 hc).1
 rcases hcap with ⟨h0,_⟩ | ⟨x,cells,e0,h0,rfl,hw,hrs,hz,hnd,hel⟩
 ·omega
 rw [hmd] at hel
 obtain ⟨A,T,B,hv,rfl,hdr,hoff,hcell,hgo⟩:=DEl.replace (GEl.toD hel) hc hcy
 obtain ⟨_,blk,hh,hb',hm',_,_,hcur⟩:=hx
 rw [hb] at hb';cases hb'
 rw [hm] at hm';cases hm'
 obtain ⟨_,hcur⟩:=hcur rfl m sz xs rfl
 obtain ⟨x'',_,_,_,_,hv',heq,_,hw',y2,len2,cap2,rfl,rfl⟩:=hcur hsv hmd ⟨c,ys,hc,hcy⟩
 cases heq
 rw [Nat.zero_add] at hcell
 rw [hcell] at hw';cases hw'
 obtain ⟨base,cap',hveq,hl2,hor⟩:=hdr
 cases hveq
 have hidx2:=(List.getElem?_eq_some_iff.1 he).1
 rcases hor with ⟨h0',_⟩ | ⟨z,cells2,e2,sz2,S2,hcap0,hbase,rfl,hw2,hz2,hel2⟩
 ·omega
 cases hbase
 obtain ⟨hdr,hnt⟩:=hdt.toD
 have hufl:flat u=true:=by
  unfold DT at hdt
  rw [hag] at hdt
  exact (DCs.one hdt.2.toD).2
 obtain ⟨A2,T2,B2,u2,rfl,hg2,hsz2,hnt2,hbig,_,hgo2⟩:=GEl.store (off:=0) (vs:=[u]) hw2 (GEl.ofD hel2) he (by
  obtain ⟨ue,_,_,hte,hge,hze,_⟩:=(GEl.ofD hel2).get he
  obtain ⟨_,hce⟩:=DRel.toF hge hef
  obtain ⟨vs1,h1,_,h3,_⟩:=CRel.fits hce (fitsF_fits hef)
  have:(cks P t).length=1:=by
   unfold DT at hdt
   rw [hag] at hdt
   exact hdt.1
  rw [h1] at hze
  simp at hze;simp;omega)
 obtain ⟨rfl,hce⟩:=DRel.toF hg2 hef
 have hone:sz2=1:=by
  obtain ⟨vs1,h1,_,h3,_⟩:=CRel.fits hce (fitsF_fits hef)
  have:(cks P t).length=1:=by
   unfold DT at hdt
   rw [hag] at hdt
   exact hdt.1
  rw [h1] at hsz2
  simp at hsz2;omega
 subst hone
 have hown:Own μ b y2:=⟨i,_,_,hb,rfl,hm,by rw [own_arr h0];simp⟩
 have hn1:=List.nodup_cons.1 hnd
 have hyx:y2 ≠ x:=fun h=>hn1.1 (by rw [← h];simp)
 have hn2:((A ++ (y2 :: (A2 ++ [] ++ B2))) ++ B).Nodup:=hn1.2
 have hny:∀ y ∈ A2 ++ [] ++ B2,y ≠ y2:=by
  intro y hy h
  subst h
  have:=(List.nodup_append.1 (List.nodup_append.1 hn2).1).2.1
  exact (List.nodup_cons.1 this).1 hy
 have hnAB:∀ y ∈ A ++ B,y ≠ y2:=by
  intro y hy h
  subst h
  simp only [List.nodup_append,List.mem_append] at hn2
  rcases List.mem_append.1 hy with h | h
  ·exact hn2.1.2.2 y h y (by simp) rfl
  ·exact hn2.2.2 y (.inr (by simp)) y h rfl
 have hst:=run_storeCells_at (P:=P) y2 (idx2 * 1 + 0) e2 [u] 0 cells2 w hw2 (by simp;omega) fun z hz=>by
  simp at hz;subst hz;exact flat_oneCell hufl
 simp only [Nat.add_zero,Nat.mul_one] at hst
 have hrow:∀ y,y ≠ y2→(w.setRow y2 (cells2.toList.take (idx2 * 1 + 0) ++ [u] ++ cells2.toList.drop (idx2 * 1 + 0 + [u].length)).toArray).heap[y]? = w.heap[y]?:=fun y hy=>setRow_off hy
 refine ⟨w.setRow y2 (cells2.toList.take (idx2 * 1 + 0) ++ [u] ++ cells2.toList.drop (idx2 * 1 + 0 + [u].length)).toArray,μ.set i (.arr (some (pl x 0)) xs.length cap sz rs (A ++ (y2 :: (A2 ++ [] ++ B2)) ++ B)),
  run_storeAt hdd (cells_flat hufl) (by rw [← hsz,cells_flat hufl];rfl) (by simpa [pl] using hst),fun z=>?_⟩
 refine set_post2 (F:=F) (G:=F) (x:=.un) (v:=z) R (fun _ h=>h) hb hm ?_ (by simp) ?_ ?_ rfl rfl rfl ?_ (fun _=>trivial)
 ·refine ⟨Nat.le_refl _,(fun _ h=>by cases h),(fun _ h=>by cases h),fun _ _ _=>⟨rfl,rfl⟩,(fun h=>by simp [alive] at h),fun h=>⟨rfl,fun _=>h⟩,fun _ m' sz' xs' hcont _=>?_⟩
  simp only [cont,Option.some.injEq,Prod.mk.injEq] at hcont
  obtain ⟨rfl,rfl,rfl⟩:=hcont
  refine ⟨m,xs,rfl,Nat.le_refl _,fun _ hd=>⟨hd,fun idx' off' hs=>⟨slAt_putCell hc hcy hs,fun x' len' cap' rs' S' he' _=>?_⟩⟩⟩
  cases he'
  exact cell_block (hrow x (Ne.symm hyx)) _
 ·intro y _ hy
  exact ⟨by simpa using (R.fres y ⟨i,_,_,hb,rfl,hm,hy⟩).2,.inr (.inl ⟨rfl,hy⟩)⟩
 ·intro y _ hne
  exact hrow y fun h=>hne rfl (by rw [h,own_arr h0];simp)
 ·intro U
  refine ⟨some (pl x 0),cap,rs,_,by simp,by simpa using hl,.inr ⟨x,cells,e0,h0,rfl,by rw [hrow x (Ne.symm hyx)];exact hw,hrs,hz,hnd,?_⟩⟩
  rw [hmd]
  refine GEl.ofD (hgo _ _ (y2 :: (A2 ++ [] ++ B2)) (ys.set idx2 d) U.keep (hrow x (Ne.symm hyx)) (fun y hy=>hrow y (hnAB y hy)) ?_)
  refine ⟨_,cap2,by simp,by simpa using hl2,.inr ⟨y2,_,e2,1,A2 ++ [] ++ B2,hcap0,rfl,rfl,setRow_heap' hw2,?_,GEl.toD (hgo2 [] d u _ _ rfl hnt hdr (by rw [cells_flat hufl];rfl) ?_ U.keep hny)⟩⟩
  ·simp only [List.size_toArray,List.length_append,List.length_take,List.length_drop,Array.length_toList,List.length_cons,List.length_nil]
   omega
  ·have:u2.cells.toList.length=1:=by simpa using hsz2
   rw [cells_flat hufl]
   obtain ⟨z,hz⟩:=List.length_eq_one_iff.1 this
   rw [hz];rfl
theorem storeK_sound {t:TypeId} {x y:AVal} {v u:Value} {K:List Blk→Option R'} (R:Rel F w μ b) (hx:ARel (Or F (Own μ b)) w μ b x v) (hy:ARel (Or F (Own μ b)) w μ b y u)
  (h:storeK P t b x y K=some r):∃ b',K b'=some r∧∃ w' μ',(Instr.storeAt t v u).run P w=.ok () w'∧∀ z,Post F w μ b w' μ' b' .un z:=by
 unfold storeK at h
 split at h
 ·cases h
 rename_i d hd
 split at h
 ·rename_i i off
  obtain ⟨cs,hcs,h⟩:=bind_some' h
  obtain ⟨l,vs,h,hl,hvs,hn,_,_⟩:=wCells_sound hy h
  obtain ⟨h0,h⟩:=br_none h
  simp only [decide_eq_true_eq] at h0
  obtain ⟨ver,x',cur,e,hb,hm,hw,ha,ho⟩:=R.box hcs
  obtain ⟨x'',hm',rfl⟩:=hx
  rw [hm] at hm';cases hm'
  have hlen:=ha.len
  have hll:=hl.len
  have hst:=run_storeCells_at (P:=P) x' off e vs 0 (List.toArray cur) w hw (by simp;omega) fun z hz=>by
   obtain ⟨j,hj⟩:=List.mem_iff_getElem?.1 hz
   have hj':j < l.length:=by rw [← hll];exact (List.getElem?_eq_some_iff.1 hj).1
   obtain ⟨z',hz',_,hf⟩:=hl.get (List.getElem?_eq_getElem hj')
   rw [hj] at hz';cases hz'
   exact flat_oneCell (hf rfl)
  refine ⟨_,h,w.setRow x' (cur.take off ++ vs ++ cur.drop (off + vs.length)).toArray,μ,run_storeAt hd hvs hn (by simpa [pl] using hst),fun z=>?_⟩
  have e1:verOf b i=ver:=verOf_at hb
  rw [e1]
  have key:=set_post2 (F:=F) (G:=F) (x:=.un) (v:=z) (h':=.box x') (blk':=⟨ver,.box (splice cs off l)⟩) (w':=w.setRow x' (cur.take off ++ vs ++ cur.drop (off + vs.length)).toArray)
   R (fun _ h=>h) hb hm ⟨Nat.le_refl _,id,fun _ h=>h,(fun _ h=>by simp [isArr] at h),(fun h=>by simp [alive] at h),(fun h=>by simp [isFix] at h),(fun _ m' sz' xs' hc=>by simp [cont] at hc)⟩ (by simp) ?_ ?_ rfl rfl rfl ?_ (fun _=>trivial)
  ·rw [set_self hm] at key;exact key
  ·intro z _ hz;simp [Hd.own] at hz;subst hz
   exact ⟨by simpa using (R.fres z ho).2,.inr (.inl ⟨rfl,by simp [Hd.own]⟩)⟩
  ·intro z _ hne
   exact setRow_off fun e=>hne rfl (by rw [e];simp [Hd.own])
  ·intro U
   exact ⟨x',_,e,rfl,setRow_heap' hw,AsRel.upd U (ha.splice off hl)⟩
 ·rename_i i ver idx off
  rcases br_some h with ⟨hcond,h⟩ | ⟨hcond,h⟩
  ·obtain ⟨c',b1,S,h,T,hdt,hsz,_⟩:=takeK_sound R hy h
   obtain ⟨hdr,hnt⟩:=hdt.toD
   simp only [Bool.and_eq_true] at hcond
   obtain ⟨xs,hxs,h'⟩:=bind_some' h
   have hmd:=sub_mdOf T.sub hxs
   have hdeep:(mdOf b1 i).deep=true:=by rw [hmd];exact hcond.1
   have hx1:=ARel.upd T.upd hx
   have hsv:(mdOf b1 i).sv ≤ cond (flatT P t) (mdOf b1 i).sv ((mdOf b1 i).sv + 1):=by cases flatT P t<;>simp
   obtain ⟨b',hK,w',μ',hr,hp⟩:=store_lel (P:=P) (t:=t) (sv':=cond (flatT P t) (mdOf b1 i).sv ((mdOf b1 i).sv + 1)) (K:=K) T.rel T.nodup (T.adopt R) ⟨d,hd⟩ hx1 (by rw [hdeep];exact hdr) hsz hsv
    (fun e _=>by
     cases hf:flatT P t with
     |true=>exact hdt.flatOk hf
     |false=>rw [hf] at e;simp at e) (by rw [hdeep];exact h)
   exact ⟨b',hK,w',μ',hr,fun z=>T.post (hp z)⟩
  ·obtain ⟨c',hc',h⟩:=bind_some' h
   obtain ⟨μ1,U1,R1⟩:=thaw_sound R i
   have hy1:=ARel.upd U1 hy
   have hx1:=ARel.upd U1 hx
   obtain ⟨U2,R2⟩:=killA_upd y R1
   have hcl:=closeA_sound R1 (killA_sub y (thaw b i)) hc' hy1 (killA_dead y (thaw b i))
   have hx2:=ARel.upd U2 hx1
   have e0:FS F []=F:=FS_nil
   obtain ⟨xs,hxs,h'⟩:=bind_some' h
   have hmd:=sub_mdOf (killA_sub y (thaw b i)) hxs
   have hdeep:(mdOf (killA y (thaw b i)) i).deep=false:=by rw [hmd];exact thaw_mdOf b
   obtain ⟨c,hcc,h''⟩:=bind_some' h'
   obtain ⟨c'',_,hfit,_⟩:=putEl_sound h''
   have hsz:u.cells.size=P.cellsOf t:=GRel.size (d:=false) (S:=[]) ⟨rfl,hcl⟩ hfit
   obtain ⟨b',hK,w',μ',hr,hp⟩:=store_lel (F:=F) (S0:=[]) (P:=P) (t:=t) (K:=K) (by rw [e0];exact R2) List.nodup_nil (by simp) ⟨d,hd⟩ hx2 (by rw [hdeep,e0];exact ⟨rfl,hcl⟩) hsz (Nat.le_refl _)
    (fun _ e=>by rw [hdeep] at e;cases e) h
   rw [e0] at hp
   exact ⟨b',hK,w',μ',hr,fun z=>Post.pre (U1.trans U2) (.refl _ _) (hp z)⟩
 ·rename_i i ver sv idx off idx2
  obtain ⟨hft,h⟩:=br_none h
  simp only [Bool.and_eq_true,Bool.not_eq_true'] at hft
  obtain ⟨d',b1,S,h,T,hdt,hsz,_⟩:=takeK_sound R hy h
  obtain ⟨xs,hxs,h⟩:=bind_some' h
  obtain ⟨c,hc,h⟩:=bind_some' h
  obtain ⟨s,hs,h⟩:=bind_some' h
  obtain ⟨ys,hys,h⟩:=bind_some' h
  cases s<;>simp [CVal.asSl] at hys
  subst hys
  obtain ⟨hdp,h⟩:=br_none h
  obtain ⟨e,he,h⟩:=bind_some' h
  obtain ⟨hef,h⟩:=br_none h
  simp only [Bool.and_eq_true,beq_iff_eq] at hdp
  have hS:=hdt.flatS hft.1
  subst hS
  have e0:FS F []=F:=FS_nil
  have R1:=T.rel
  have U1:=T.upd
  rw [e0] at R1 U1 hdt
  obtain ⟨w',μ',hr,hp⟩:=store_lel2 (P:=P) R1 ⟨d,hd⟩ hft.2 (ARel.upd U1 hx) hdt hsz hxs hc hs hdp.1 hdp.2 he hef
  exact ⟨_,h,w',μ',hr,fun z=>Post.pre U1 (.refl _ _) (hp z)⟩
 ·cases h
theorem run_bound {n:Int} {y:Nat} {k:IntKind} {code:BoundsCode} (h0:0 ≤ n) (h1:n ≤ y):(Instr.sliceBound (.int k n) y code).run P w=.ok n.toNat w:=by
 have:0 ≤ n∧n ≤ (y:Int):=⟨h0,h1⟩
 simp [Instr.sliceBound,asIntOf,this]
theorem wOpt_sound {x:Option AVal} {v:Option Value} {d:Int} {K:Int→Option R'} (hx:∀ a,x=some a→∃ u,v=some u∧ARel N w μ b a u) (hn:x=none→v=none)
  (h:wOpt x d K=some r):∃ n,K n=some r∧((x=none∧v=none∧n=d)∨∃ k,v=some (.int k n)):=by
 unfold wOpt at h
 cases x with
 |none=>exact ⟨d,h,.inl ⟨rfl,hn rfl,rfl⟩⟩
 |some a=>
  obtain ⟨u,rfl,hu⟩:=hx a rfl
  obtain ⟨k,n,rfl,h⟩:=wIdx_sound hu h
  exact ⟨n,h,.inr ⟨k,rfl⟩⟩
theorem run_bounds {isS:Bool} {len cap:Nat} {lo hi:Option Value} {l h:Int} (hl:(lo=none∧l=0)∨∃ k,lo=some (.int k l)) (hh:(hi=none∧h=len)∨∃ k,hi=some (.int k h))
  (h0:0 ≤ l) (h1:l ≤ h) (h2:h ≤ len) (h3:len ≤ cap):(Instr.sliceBounds isS len cap lo hi none).run P w=.ok (l.toNat,h.toNat,cap) w:=by
 unfold Instr.sliceBounds
 rcases hl with ⟨rfl,rfl⟩ | ⟨k,rfl⟩<;>rcases hh with ⟨rfl,rfl⟩ | ⟨k',rfl⟩
 ·simp
 ·simp [run_bound (P:=P) (w:=w) (n:=h) (y:=cap) (k:=k') (by omega) (by omega)]
 ·simp [run_bound (P:=P) (w:=w) (n:=l) (y:=len) (k:=k) h0 (by omega)]
 ·simp [run_bound (P:=P) (w:=w) (n:=h) (y:=cap) (k:=k') (by omega) (by omega),run_bound (P:=P) (w:=w) (n:=l) (y:=h.toNat) (k:=k) h0 (by omega)]
theorem sl_cut {xs:List CVal} {v:Value} {l h n:Nat} {agg:Bool} (hx:CRel N w (.sl xs) v) (h1:l ≤ h) (h2:h ≤ xs.length) (hf:xs.all (CVal.fits agg n)=true) :
  ∃ base cap,v=.slice base xs.length cap∧xs.length ≤ cap∧
   CRel N w (.sl ((xs.take h).drop l)) (.slice (if cap=l then base else base.map (·.add (l * n))) (h - l) (cap - l)):=by
 obtain ⟨base,cap,rfl,hl,hc⟩:=hx
 have hlen:((xs.take h).drop l).length=h - l:=by simp;omega
 refine ⟨base,cap,rfl,hl,_,cap - l,by rw [hlen],by rw [hlen];omega,?_⟩
 by_cases h3:h=l
 ·left
  apply List.length_eq_zero_iff.1
  rw [hlen];omega
 ·rcases hc with rfl | ⟨x,o,sz,rfl,hn,hs,he⟩
  ·simp at h2;omega
  ·right
   have hsz:sz=n:=by
    obtain ⟨us,hus,_⟩:=(GEl.ofE he).out
    exact hus.size hf (fun e=>by subst e;simp at h2;omega)
   subst hsz
   rw [if_neg (by omega)]
   exact ⟨x,o + l * sz,sz,by simp [pl_add],hn,hs,(he.take h).drop l⟩
theorem len_str (s:List UInt8):(⟨s.toArray⟩:ByteArray).size=s.length:=rfl
theorem extract_str (s:List UInt8) (l h:Nat):(⟨s.toArray⟩:ByteArray).extract l h=⟨((s.take h).drop l).toArray⟩:=by
 apply ByteArray.ext
 apply Array.ext'
 rw [ByteArray.data_extract]
 simp [List.drop_take]
theorem sliceK_sound {t:TypeId} {x:AVal} {v:Value} {lo hi mx:Option AVal} {vlo vhi vmx:Option Value} {K:AVal→List Blk→Option R'} (R:Rel F w μ b) (hx:ARel (Or F (Own μ b)) w μ b x v)
  (hlo:∀ a,lo=some a→∃ u,vlo=some u∧ARel (Or F (Own μ b)) w μ b a u) (hlo0:lo=none→vlo=none)
  (hhi:∀ a,hi=some a→∃ u,vhi=some u∧ARel (Or F (Own μ b)) w μ b a u) (hhi0:hi=none→vhi=none) (hmx1:∀ a,mx=some a→∃ u,vmx=some u∧ARel (Or F (Own μ b)) w μ b a u) (hmx:mx=none→vmx=none)
  (h:sliceK P t b x lo hi mx K=some r):Acts P F w μ b K r (Instr.sliceAt t v vlo vhi vmx) (closedV x):=by
 unfold sliceK at h
 split at h
 ·rename_i m
  split at h
  ·rename_i e ht
   obtain ⟨he0,h⟩:=br_none h
   obtain ⟨d,hd⟩:=Option.isSome_iff_exists.1 he0
   cases x with
   |v c=>
    obtain ⟨xs,hxs,h⟩:=bind_some' (x:=c.asSl) h
    cases c<;>simp [CVal.asSl] at hxs
    subst hxs
    obtain ⟨um,rfl,hum⟩:=hmx1 m rfl
    obtain ⟨km,mn,rfl,h⟩:=wIdx_sound hum h
    obtain ⟨hh,h,hH⟩:=wOpt_sound hhi hhi0 h
    obtain ⟨l,h,hL⟩:=wOpt_sound hlo hlo0 h
    obtain ⟨h0,h⟩:=br_none h
    simp only [Bool.and_eq_true,decide_eq_true_eq] at h0
    obtain ⟨⟨rfl,rfl⟩,rfl⟩:=h0
    obtain ⟨base,cap,rfl,hcap,hr⟩:=hx
    rcases hH with ⟨_,_,h9⟩ | ⟨kh,rfl⟩
    ·omega
    have b1:=run_bound (P:=P) (w:=w) (n:=0) (y:=cap) (k:=km) (code:=.slice3Acap) (Int.le_refl _) (by omega)
    have b2:=run_bound (P:=P) (w:=w) (n:=0) (y:=0) (k:=kh) (code:=.slice3B) (Int.le_refl _) (Int.le_refl _)
    refine ⟨_,_,h,fun _=>rfl,.slice base 0 0,w,μ,?_,.same R ⟨base,rfl⟩⟩
    rcases hL with ⟨_,rfl,_⟩ | ⟨kl,rfl⟩
    ·simp [Instr.sliceAt,run_und ht,Instr.slice,Instr.sliceBounds,b1,b2,run_size hd]
    ·have b3:=run_bound (P:=P) (w:=w) (n:=0) (y:=0) (k:=kl) (code:=.slice3C) (Int.le_refl _) (Int.le_refl _)
     simp [Instr.sliceAt,run_und ht,Instr.slice,Instr.sliceBounds,b1,b2,b3,run_size hd]
   |_=>cases h
  ·cases h
 rw [hmx rfl]
 split at h
 ·rename_i ht
  obtain ⟨s,rfl,h⟩:=wStr_sound hx h
  obtain ⟨hh,h,hH⟩:=wOpt_sound hhi hhi0 h
  obtain ⟨l,h,hL⟩:=wOpt_sound hlo hlo0 h
  obtain ⟨h0,h⟩:=br_none h
  simp only [Bool.and_eq_true,decide_eq_true_eq] at h0
  obtain ⟨⟨h0,h1⟩,h2⟩:=h0
  have hb:=run_bounds (P:=P) (w:=w) (isS:=false) (len:=s.length) (cap:=s.length) (lo:=vlo) (hi:=vhi) (l:=l) (h:=hh)
   (hL.imp (fun h=>⟨h.2.1,h.2.2⟩) id) (hH.imp (fun h=>⟨h.2.1,h.2.2⟩) id) h0 h1 h2 (Nat.le_refl _)
  refine ⟨_,_,h,fun _=>rfl,.string ⟨((s.take hh.toNat).drop l.toNat).toArray⟩,w,μ,?_,.same R rfl⟩
  simp [Instr.sliceAt,run_und ht,Instr.slice,len_str,hb,extract_str]
 ·rename_i e ht
  obtain ⟨he0,h⟩:=br_none h
  obtain ⟨d,hd⟩:=Option.isSome_iff_exists.1 he0
  cases x with
  |v c=>
   obtain ⟨xs,hxs,h⟩:=bind_some' (x:=c.asSl) h
   cases c<;>simp [CVal.asSl] at hxs
   subst hxs
   obtain ⟨hh,h,hH⟩:=wOpt_sound hhi hhi0 h
   obtain ⟨l,h,hL⟩:=wOpt_sound hlo hlo0 h
   obtain ⟨h0,h⟩:=br_none h
   simp only [Bool.and_eq_true,decide_eq_true_eq] at h0
   obtain ⟨⟨⟨h0,h1⟩,h2⟩,h3⟩:=h0
   obtain ⟨base,cap,rfl,hcap,hr⟩:=sl_cut (l:=l.toNat) (h:=hh.toNat) hx (by omega) (by omega) h3
   have hb:=run_bounds (P:=P) (w:=w) (isS:=true) (cap:=cap) (lo:=vlo) (hi:=vhi) (l:=l) (h:=hh)
    (hL.imp (fun h=>⟨h.2.1,h.2.2⟩) id) (hH.imp (fun h=>⟨h.2.1,h.2.2⟩) id) h0 h1 h2 hcap
   refine ⟨_,_,h,fun _=>rfl,_,w,μ,?_,.same R hr⟩
   simp [Instr.sliceAt,run_und ht,Instr.slice,hb,run_size hd]
  |nl=>
   obtain ⟨base,rfl⟩:=hx
   obtain ⟨hh,h,hH⟩:=wOpt_sound hhi hhi0 h
   obtain ⟨l,h,hL⟩:=wOpt_sound hlo hlo0 h
   obtain ⟨h0,h⟩:=br_none h
   simp only [Bool.and_eq_true,decide_eq_true_eq] at h0
   obtain ⟨rfl,rfl⟩:=h0
   have hb:=run_bounds (P:=P) (w:=w) (isS:=true) (len:=0) (cap:=0) (lo:=vlo) (hi:=vhi) (l:=0) (h:=0)
    (hL.imp (fun h=>⟨h.2.1,rfl⟩) id) (hH.imp (fun h=>⟨h.2.1,rfl⟩) id) (Int.le_refl _) (Int.le_refl _) (Int.le_refl _) (Nat.le_refl _)
   refine ⟨_,_,h,fun _=>rfl,.slice base 0 0,w,μ,?_,.same R ⟨base,rfl⟩⟩
   simp only [Instr.sliceAt,Sem.run_bind,run_und ht,Result.andThen_ok,Instr.slice,hb,run_size hd]
   rfl
  |lref i ver=>
   obtain ⟨xs,hxs,h⟩:=bind_some' (x:=arrOf b i ver) h
   cases lo with
   |some a=>
    cases hi with
    |some _=>cases h
    |none=>
     obtain ⟨l,h,hL⟩:=wOpt_sound hlo (fun h=>by cases h) h
     obtain ⟨h0,h⟩:=br_none h
     simp only [Bool.and_eq_true,decide_eq_true_eq,beq_iff_eq] at h0
     obtain ⟨⟨h1,h2⟩,hsz⟩:=h0
     rw [hhi0 rfl]
     obtain ⟨m,sz,base,cap,rs,S,rfl,hb,hm,hm1,hs1,hl,hc⟩:=R.arrAt hx hxs
     have hbd:=run_bounds (P:=P) (w:=w) (isS:=true) (len:=xs.length) (cap:=cap) (lo:=vlo) (hi:=none) (l:=l) (h:=xs.length)
      (hL.imp (fun h=>by cases h.1) id) (.inl ⟨rfl,rfl⟩) h1 h2 (Int.le_refl _) hl
     have e0:((xs.length:Nat):Int).toNat=xs.length:=Int.toNat_natCast _
     rw [e0] at hbd
     refine ⟨_,_,h,by simp [closedV],.slice (if cap=l.toNat then base else base.map (·.add (l.toNat * P.cellsOf e))) (xs.length - l.toNat) (cap - l.toNat),w,μ,?_,.same R ?_⟩
     ·simp [Instr.sliceAt,run_und ht,Instr.slice,hbd,run_size hd]
     ·refine ⟨rfl,_,_,hb,hm,by simp,Nat.le_refl _,fun _ _=>⟨base,xs.length,cap,sz,rs,S,rfl,by omega,_,rfl,fun hlt=>?_⟩⟩
      rw [if_neg (by omega),← hsz,hs1]
   |none=>
    obtain ⟨hh,h,hH⟩:=wOpt_sound hhi hhi0 h
    obtain ⟨h0,h⟩:=br_none h
    simp only [Bool.and_eq_true,decide_eq_true_eq,Bool.not_eq_true'] at h0
    obtain ⟨⟨h1,h2⟩,hfx⟩:=h0
    rw [hlo0 rfl]
    obtain ⟨m,sz,base,cap,rs,S,rfl,hb,hm,hm1,hs1,hl,hc⟩:=R.arrAt hx hxs
    rw [hm1] at hfx
    rw [hm1,hs1] at h
    have hi:=(List.getElem?_eq_some_iff.1 hb).1
    have hi':=(List.getElem?_eq_some_iff.1 hm).1
    have hbd:=run_bounds (P:=P) (w:=w) (isS:=true) (len:=xs.length) (cap:=cap) (lo:=none) (hi:=vhi) (l:=0) (h:=hh)
     (.inl ⟨rfl,rfl⟩) (hH.imp (fun h=>⟨h.2.1,h.2.2⟩) id) (Int.le_refl _) h1 h2 hl
    have hlen:(xs.take hh.toNat).length=hh.toNat:=by simp;omega
    obtain ⟨S1,S2,hS,hel⟩:∃ S1 S2,S=S1 ++ S2∧((cap=0∧S1=[])∨∃ x cells e,0 < cap∧base=some (pl x 0)∧w.heap[x]? = some (.cells cells e (0,0))∧cells.size=rs∧(m.fix=false→cap * sz ≤ rs)∧(x :: (S1 ++ S2)).Nodup∧
      GEl m.deep (Or F (Own μ b)) w sz x 0 S1 (xs.take hh.toNat)):=by
     rcases hc with ⟨hc,rfl⟩ | ⟨x,cells,e,h0,rfl,hw,hrs,hz,hnd,he⟩
     ·exact ⟨[],[],rfl,.inl ⟨hc,rfl⟩⟩
     ·obtain ⟨S1,S2,rfl,he2⟩:=he.take hh.toNat
      exact ⟨S1,S2,rfl,.inr ⟨x,cells,e,h0,rfl,hw,hrs,hz,hnd,he2⟩⟩
    subst hS
    refine ⟨_,_,h,by simp [closedV],.slice base hh.toNat cap,w,μ.set i (.arr base hh.toNat cap sz rs S1),?_,?_⟩
    ·simp only [Instr.sliceAt,Sem.run_bind,run_und ht,Result.andThen_ok,Instr.slice,Hd.val,hbd,run_size hd]
     have e0:(0:Int).toNat=0:=rfl
     rw [e0]
     cases base with
     |none=>simp
     |some a=>simp [Addr.add]
    ·refine set_post2 R (fun _ h=>h) hb hm (.next rfl hfx (by simp) (fun x e=>by cases e)) (Nat.le_refl _) ?_ (fun _ _ _=>rfl) rfl rfl rfl ?_ ?_
     ·intro x _ ho
      have ho':x ∈ (Hd.arr base xs.length cap sz rs (S1 ++ S2)).own:=by
       rcases own_sub ho with ho | ⟨h0,a,rfl,rfl⟩
       ·exact own_mem (List.mem_append.2 (.inl ho))
       ·have:cap ≠ 0:=by omega
        simp [Hd.own,this]
      exact ⟨(R.fres x ⟨i,_,_,hb,rfl,hm,ho'⟩).2,.inr (.inl ⟨rfl,ho'⟩)⟩
     ·intro U
      refine ⟨base,cap,rs,S1,by rw [hlen],by rw [hlen];omega,?_⟩
      rcases hel with hc | ⟨x,cells,tt,h0,rfl,hw,hrs,hz,hnd,he⟩
      ·exact .inl hc
      ·refine .inr ⟨x,cells,tt,h0,rfl,hw,hrs,fun _=>hz hfx,?_,GEl.keep U.keep rfl (fun _ _=>rfl) he⟩
       rw [List.nodup_cons] at hnd ⊢
       exact ⟨fun hx=>hnd.1 (List.mem_append.2 (.inl hx)),(List.nodup_append.1 hnd.2).1⟩
     ·intro U
      exact ⟨rfl,_,_,List.getElem?_set_self hi,List.getElem?_set_self hi',by simp,Nat.le_refl _,fun _ _=>rfl⟩
  |_=>cases h
 ·cases h
end
end Go.Proofs.Ytognghbhdalckaa.Abs

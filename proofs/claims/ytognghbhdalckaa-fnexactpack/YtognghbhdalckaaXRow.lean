/- A part. -/
import Derived.Test.YtognghbhdalckaaOmega
import Derived.Below
import Derived.Sort.Grow
set_option linter.unusedVariables false
set_option linter.unusedSectionVars false
set_option linter.unusedSimpArgs false
namespace Go.Proofs.Ytognghbhdalckaa.Abs
open Go Go.Sort
variable [Glob]
structure OneCell {α:Type} (cv:α→CVal) (ev:α→Value):Prop where
 rel:∀ (d:Bool) (N:Nat→Prop) (w:World) (S:List Nat) (a:α) (v:Value),GRel d N w S (cv a) v↔S=[]∧v=ev a
 tup:∀ a,noTup (cv a)=true
 cells:∀ a,(ev a).cells = #[ev a]
theorem oneInt:OneCell (CVal.int .i64) (Value.int .i64) where
 rel:=fun d N w S a v=>by cases d<;>simp [GRel,DRel,CRel]
 tup:=fun _=>rfl
 cells:=fun _=>rfl
theorem gel_out {α:Type} {cv:α→CVal} {ev:α→Value} (C:OneCell cv ev) {d:Bool} {N:Nat→Prop} {w:World} {x:Nat}:∀ {l:List α} {o:Nat} {S:List Nat},GEl d N w 1 x o S (l.map cv)→
  S=[]∧∀ (j:Nat) (a:α),l[j]? = some a→w.cell? ⟨x,o + j,none⟩=some (ev a)
 |[],o,S,h=>⟨h,fun j a hj=>by simp at hj⟩
 |a :: l,o,S,h=>by
  obtain ⟨S1,S2,rfl,⟨u,_,hu,hz,hc⟩,h⟩:=h
  obtain ⟨rfl,rfl⟩:=(C.rel d N w S1 a u).1 hu
  obtain ⟨rfl,k⟩:=gel_out C h
  refine ⟨rfl,fun j b hj=>?_⟩
  cases j with
  |zero=>
   simp at hj
   subst hj
   have:=hc 0 (by omega)
   simpa [pl,C.cells] using this
  |succ j=>
   have:=k j b (by simpa using hj)
   rw [show o + (j + 1)=o + 1 + j by omega]
   exact this
theorem gel_in {α:Type} {cv:α→CVal} {ev:α→Value} (C:OneCell cv ev) {d:Bool} {N:Nat→Prop} {w:World} {x:Nat}:∀ {l:List α} {o:Nat},
  (∀ (j:Nat) (a:α),l[j]? = some a→w.cell? ⟨x,o + j,none⟩=some (ev a))→GEl d N w 1 x o [] (l.map cv)
 |[],o,h=>rfl
 |a :: l,o,h=>by
  refine ⟨[],[],rfl,⟨ev a,C.tup a,(C.rel d N w [] a _).2 ⟨rfl,rfl⟩,by rw [C.cells];rfl,fun j hj=>?_⟩,gel_in C fun j b hj=>?_⟩
  ·obtain rfl:j=0:=by omega
   have:=h 0 a rfl
   simpa [pl,C.cells] using this
  ·have:=h (j + 1) b (by simpa using hj)
   rw [show o + (j + 1)=o + 1 + j by omega] at this
   exact this
theorem own1 {h:Hd} {bk:Blk} (ha:alive bk.body=true) (x:Nat):Own [h] [bk] x↔x ∈ h.own:=by
 constructor
 ·rintro ⟨i,blk,h',h1,h2,h3,h4⟩
  cases i with
  |zero=>simp at h1 h3;subst h3;exact h4
  |succ i=>simp at h1
 ·intro hx;exact ⟨0,bk,h,rfl,ha,rfl,hx⟩
theorem FnOk.row {P:Program} {g:FuncId} {fn:Func} {code:Code} (hf:P.funcs[g]? = some fn) (hname:(fn.name == "runtime.NumGoroutine")=false) (hb:fn.body=some code)
  {α:Type} [Inhabited α] {cv:α→CVal} {ev:α→Value} (C:OneCell cv ev) {m:Md} {l l' pad:List α} {rm:Option Nat} {rv:Option Addr→Nat→Value} {c:CVal}
  (hr:(rm=none∧c=.tup []∧rv=(fun _ _=>.tuple #[])∧l'.length=l.length)∨(rm=some 0∧(rv=fun base cap=>.slice base l'.length cap)∧m.fix=false))
  (hlen:l'.length + pad.length=l.length)
  (h0:l=[]→∀ (a:Option Addr) (cap:Nat) (w:World),Calls P g #[.slice a 0 cap] w fun e w'=>e=.returned (rv a cap)∧w'=w)
  (h1:∀ (blk cap:Nat) (w:World),l.length ≤ cap→Holds ev w blk 0 l.toArray→blk < w.heap.size→Calls P g #[.slice (some ⟨blk,0,none⟩) l.length cap] w fun e w'=>
   e=.returned (rv (some ⟨blk,0,none⟩) cap)∧∃ n os,w'=grow (putRow ev (Sort.ahead w n) blk 0 (l' ++ pad).toArray) os) :
  FnOk P rm none g [.lref 0 0] [.arr m false 1 (l.map cv)] (c,[l'.map cv]):=by
 intro F w μ vs R ha o a next Q hex hn
 have hl:=R.len
 obtain ⟨h,rfl⟩:∃ h,μ=[h]:=by
  match μ,hl with
  |[h],_=>exact ⟨h,rfl⟩
 obtain ⟨u,us,rfl,hu,_,hus⟩:=ha
 have hus:us=[]:=hus
 subst hus
 obtain ⟨_,blk,h',hb0,hm0,hne,_,huv⟩:=hu
 have hb0:startBlk (.arr m false 1 (l.map cv))=blk:=by simpa using hb0
 have hm0:h=h':=by simpa using hm0
 subst hb0 hm0
 have huv:u=h.val:=huv rfl rfl
 subst huv
 obtain ⟨base,cap,rs,S,rfl,hcap,hB⟩:=R.blk 0 _ h rfl rfl
 simp only [List.length_map] at hcap hB
 have hcall:(callFunc g (List.toArray [Hd.val (.arr base (l.map cv).length cap 1 rs S)])).run P w=.ok (.enter g (List.toArray [Hd.val (.arr base (l.map cv).length cap 1 rs S)])) w:=by
  have hne:¬ fn.name = "runtime.NumGoroutine":=by simpa using hname
  simp [callFunc,program,Sem.run,hf,hne,hb]
 have hval:List.toArray [Hd.val (.arr base (l.map cv).length cap 1 rs S)] = #[.slice base l.length cap]:=by simp [Hd.val]
 have hown:=fun x=>own1 (h:=.arr base (l.map cv).length cap 1 rs S) (bk:=startBlk (.arr m false 1 (l.map cv))) rfl x
 have hes:endS ([PB.arr m false 1 (l.map cv)].map (PB.sh [PB.arr m false 1 (l.map cv)])) [l'.map cv]=[⟨0,.arr ⟨m.deep,m.fix,0⟩ 1 (l'.map cv)⟩]:=rfl
 have hown':=fun x=>own1 (h:=.arr base (l'.map cv).length cap 1 rs S) (bk:=⟨0,.arr ⟨m.deep,m.fix,0⟩ 1 (l'.map cv)⟩) rfl x
 have hoo:(Hd.arr base (l'.map cv).length cap 1 rs S).own=(Hd.arr base (l.map cv).length cap 1 rs S).own:=by
  cases base<;>rfl
 have hll:l'.length ≤ l.length:=by omega
 unfold Oper.wp
 rw [hex,hcall,Oper.upon_enter,hval]
 have fin:∀ w',(Fr (Own [Hd.arr base (l.map cv).length cap 1 rs S] [startBlk (.arr m false 1 (l.map cv))]) w w')→
   BRel (Or F (Own [Hd.arr base (l'.map cv).length cap 1 rs S] [⟨0,.arr ⟨m.deep,m.fix,0⟩ 1 (l'.map cv)⟩])) w' [Hd.arr base (l'.map cv).length cap 1 rs S] [⟨0,.arr ⟨m.deep,m.fix,0⟩ 1 (l'.map cv)⟩] (.arr base (l'.map cv).length cap 1 rs S) (.arr ⟨m.deep,m.fix,0⟩ 1 (l'.map cv))→
   FnPost P rm none F w [Hd.arr base (l.map cv).length cap 1 rs S] [.arr m false 1 (l.map cv)] (c,[l'.map cv]) w' [Hd.arr base (l'.map cv).length cap 1 rs S] [] (rv base cap):=by
  intro w' fr B
  refine ⟨?_,rfl,?_,?_,?_,List.nodup_nil,by simp,fr,?_⟩
  ·rw [FS_nil,hes]
   refine ⟨rfl,?_,?_,?_,R.fbk.to fr.size fun x hx=>fr.block x (R.fbk.idl x hx) fun ho=>R.oid x ho hx,?_⟩
   ·intro i blk h hb hm
    cases i with
    |zero=>simp only [List.getElem?_cons_zero,Option.some.injEq] at hb hm;subst hb hm;exact B
    |succ i=>simp at hb
   ·intro i j blk blk' h h' x hb hb' _ _ hm hm' _ _
    cases i with
    |succ i=>simp at hb
    |zero=>cases j with
     |succ j=>simp at hb'
     |zero=>rfl
   ·intro x hx
    rw [hown',hoo,← hown] at hx
    exact ⟨(R.fres x hx).1,Nat.lt_of_lt_of_le (R.fres x hx).2 fr.size⟩
   ·intro x hx
    rw [hown',hoo,← hown] at hx
    exact R.oid x hx
  ·intro j x hj
   cases j with
   |zero=>simp at hj
   |succ j=>simp at hj
  ·intro j m' sz xs h hp hfix hm
   cases j with
   |succ j=>simp at hp
   |zero=>
    simp at hp hm
    subst hm
    refine ⟨_,rfl,?_⟩
    rcases hr with ⟨_,_,_,e⟩ | ⟨_,_,e⟩
    ·simp [Hd.head,e]
    ·have e':m'.fix=false:=hp.1 ▸ e
     rw [e'] at hfix;cases hfix
  ·intro x hx
   rw [hes,hown',hoo,← hown] at hx
   exact ⟨Nat.lt_of_lt_of_le (R.fres x hx).2 fr.size,.inr hx⟩
  ·refine ⟨rfl,?_⟩
   rcases hr with ⟨rfl,rfl,rfl,_⟩ | ⟨rfl,rfl,hfx⟩
   ·exact ⟨[],rfl,rfl⟩
   ·exact ⟨_,m,1,l.map cv,rfl,rfl,by simp [Hd.val]⟩
 rcases hB with ⟨rfl,rfl⟩ | ⟨x,cells,e,hc0,rfl,hx,hrs,hfx,hnd,hG⟩
 ·have hl0:l=[]:=List.eq_nil_of_length_eq_zero (by omega)
  have hl1:l'=[]:=List.eq_nil_of_length_eq_zero (by omega)
  have:=h0 hl0 base 0 w
  subst hl0
  refine this.mono ?_
  rintro e w' ⟨rfl,rfl⟩
  refine hn _ _ ⟨_,[],fin _ (.refl _ _) ?_⟩
  exact ⟨base,0,rs,[],by simp,by subst hl1;simp,.inl ⟨rfl,rfl⟩⟩
 ·obtain ⟨hS,hcl⟩:=gel_out C hG
  subst hS
  have hown0:∀ y,y ∈ (Hd.arr (some (pl x 0)) (l.map cv).length cap 1 rs []).own↔y=x:=by
   intro y
   simp [Hd.own,pl]
   omega
  have hxO:Own [Hd.arr (some (pl x 0)) (l.map cv).length cap 1 rs []] [startBlk (.arr m false 1 (l.map cv))] x:=(hown x).2 ((hown0 x).2 rfl)
  have hlt:x < w.heap.size:=(R.fres x hxO).2
  have hH:Holds ev w x 0 l.toArray:=by
   intro j hj
   have hj':j < l.length:=by simpa using hj
   refine ⟨?_,?_⟩
   ·rw [hcl j l[j] (by simp)]
    simp [hj']
   ·simp [World.frozen?,hx]
  refine (h1 x cap w hcap hH hlt).mono ?_
  rintro e' w' ⟨rfl,n,os,rfl⟩
  have hHd:Holds ev (putRow ev (Sort.ahead w n) x 0 (l' ++ pad).toArray) x 0 (l' ++ pad).toArray:=
   holds_putRow ev (Sort.ahead w n) x 0 l.toArray _ (holds_ahead ev w n x 0 _ hH) (by simp [hlen])
  have hHg:=holds_grow ev _ os x 0 _ (by simpa using hlt) hHd
  have hblk:(grow (putRow ev (Sort.ahead w n) x 0 (l' ++ pad).toArray) os).heap[x]? = some (.cells (putCells ev 0 (l' ++ pad).toArray cells) e (0,0)):=by
   rw [heap_grow_old _ _ (by simpa using hlt)]
   simp only [putRow,mapBlock,heap_ahead,Array.getElem?_modify,hx]
   simp [onCells]
  have hoth:∀ y,y < w.heap.size→y ≠ x→(grow (putRow ev (Sort.ahead w n) x 0 (l' ++ pad).toArray) os).heap[y]? = w.heap[y]?:=by
   intro y hy hne
   rw [heap_grow_old _ _ (by simpa using hy)]
   simp only [putRow,mapBlock,heap_ahead,Array.getElem?_modify]
   rw [if_neg (Ne.symm hne)]
  refine hn _ _ ⟨_,[],fin _ ⟨rfl,rfl,rfl,by simp,fun y hy hno=>hoth y hy fun e=>hno (e ▸ hxO)⟩ ?_⟩
  refine ⟨some (pl x 0),cap,rs,[],by simp,by simp;omega,.inr ⟨x,_,e,hc0,rfl,hblk,by rw [← hrs];simp [putCells],hfx,by simp,gel_in C fun j a hj=>?_⟩⟩
  have hj':j < (l' ++ pad).length:=by
   have:=(List.getElem?_eq_some_iff.1 hj).1
   simp;omega
  have hjl:j < l'.length:=(List.getElem?_eq_some_iff.1 hj).1
  have:=(hHg j (by simpa using hj')).1
  rw [this]
  have e2:(l' ++ pad).toArray[j]! = a:=by
   rw [getElem!_pos _ j (by simpa using hj')]
   simp only [List.getElem_toArray]
   rw [List.getElem_append_left hjl]
   exact (List.getElem?_eq_some_iff.1 hj).2
  rw [e2]
end Go.Proofs.Ytognghbhdalckaa.Abs

/- A part. -/
import Derived.Test.YtognghbhdalckaaMachB
import Derived.Tactics
set_option linter.unusedVariables false
set_option linter.unusedSectionVars false
set_option linter.unusedSimpArgs false
namespace Go.Proofs.Ytognghbhdalckaa.Abs
open Go
variable [Glob]
section
variable {P:Program} {w:World} {F N M:Nat→Prop} {μ:List Hd} {b:List Blk} {R':Type} {r:R'}
structure Now (F:Nat→Prop) (w:World) (μ:List Hd) (b:List Blk) (w':World) (μ':List Hd) (b':List Blk):Prop where
 upd:Upd F w μ b w' μ' b'
 rel:Rel F w' μ' b'
 fr:Fr (Own μ b) w w'
theorem Now.refl (R:Rel F w μ b):Now F w μ b w μ b:=⟨.refl R,R,.refl _ _⟩
theorem Now.trans {w1 w2:World} {μ1 μ2:List Hd} {b1 b2:List Blk} (x:Now F w μ b w1 μ1 b1) (y:Now F w1 μ1 b1 w2 μ2 b2):Now F w μ b w2 μ2 b2:=
 ⟨x.upd.trans y.upd,y.rel,Fr.step x.upd x.fr y.fr⟩
theorem Post.now {w':World} {μ':List Hd} {b':List Blk} {x:AVal} {v:Value} (p:Post F w μ b w' μ' b' x v):Now F w μ b w' μ' b':=⟨p.upd,p.rel,p.fr⟩
theorem skipped_rel:ARel N w μ b skipped undef:=⟨[],rfl,rfl⟩
theorem getD_some {t:List AVal} {g:Nat} {x:AVal} (h:t.getD g .un=x) (hx:x ≠ .un):t[g]? = some x:=by
 rw [List.getD_eq_getElem?_getD] at h
 cases ht:t[g]? with
 |none=>rw [ht] at h;exact (hx h.symm).elim
 |some y=>rw [ht] at h;simp at h;rw [h]
theorem TRel.at {t:List AVal} {a:Act} {g:Nat} {x:AVal} (ht:TRel N w μ b t a) (h:t[g]? = some x):∃ v,a.tmps[g]? = some v∧ARel N w μ b x v:=by
 obtain ⟨v,hv,hr,_⟩:=AsRel.get ht.1 h
 exact ⟨v,by simpa using hv,hr⟩
structure Same (l:List Oper) (a a':Act):Prop where
 size:a'.tmps.size=a.tmps.size
 at_:∀ i,(∀ o ∈ l,o.dst ≠ some i)→a'.tmps[i]? = a.tmps[i]?
theorem Same.refl {l:List Oper} {a:Act}:Same l a a:=⟨rfl,fun _ _=>rfl⟩
theorem Same.trans {l:List Oper} {a b c:Act} (x:Same l a b) (y:Same l b c):Same l a c:=⟨y.size.trans x.size,fun i h=>(y.at_ i h).trans (x.at_ i h)⟩
theorem Same.put {l:List Oper} {a:Act} {o:Oper} (h:o ∈ l) (v:Value):Same l a (a.put o.dst v):=by
 unfold Act.put
 cases hd:o.dst with
 |none=>exact .refl
 |some d=>
  refine ⟨by simp,fun i hi=>?_⟩
  have:d ≠ i:=fun e=>hi o h (by rw [hd,e])
  simp [Array.getElem?_setIfInBounds_ne this]
theorem Same.mono {l l':List Oper} {a b:Act} (h:Same l a b) (hs:∀ o ∈ l,o ∈ l'):Same l' a b:=⟨h.size,fun i hi=>h.at_ i fun o ho=>hi o (hs o ho)⟩
theorem stepK_sound {E:Env} {C:CallT} {ro:Bool} (hC:COk E C) (ops:Array Oper) {o:Oper} {t:List AVal} {b:List Blk} {a:Act} {w:World} {μ:List Hd} {K:Bool→List AVal→List AVal→List Blk→Option R'}
  (R:Rel F w μ b) (ht:TRel (Or F (Own μ b)) w μ b t a) (h:stepK E C ro ops o t b K=some r) (Q:Exit→Act→World→Prop) (next:Act→World→Prop)
  (hq:∀ ran t1 t' b' a' w' μ',K ran t1 t' b'=some r→(ro=true→b'=b)→Now F w μ b w' μ' b'→TRel (Or F (Own μ' b')) w' μ' b' t' a'→Same [o] a a'→next a' w') :
  if Region.wanted o (yielded ops a.tmps) then o.wp E.P a w next Q else next (a.put o.dst undef) w:=by
 have go:∀ {t:List AVal},TRel (Or F (Own μ b)) w μ b t a→Region.wanted o (yielded ops a.tmps)=true→
   br (ro && !roOp E o t) none (opK E C o t b fun x b=>K true t (putA t o.dst x) b)=some r→if Region.wanted o (yielded ops a.tmps) then o.wp E.P a w next Q else next (a.put o.dst undef) w:=by
  intro t ht hw h
  rcases br_some h with ⟨_,h⟩ | ⟨hr0,h⟩
  ·cases h
  obtain ⟨y,b1,h,hro,hgo⟩:=opK_sound (E:=E) rfl R ht (fun g args vs h ha=>callK_sound (hC.at o) R ha h) (fun c cs h=>apF_sound hC R h) h
  rw [if_pos hw]
  refine hgo _ _ fun v w1 μ1 p=>?_
  exact hq _ _ _ _ _ _ _ h (fun e=>hro (by rw [e] at hr0;simpa using hr0)) p.now ((TRel.upd p.upd ht).put o.dst p.val) (.put (by simp) v)
 have skip:∀ {t t1:List AVal},TRel (Or F (Own μ b)) w μ b t a→Region.wanted o (yielded ops a.tmps)=false→
   K false t1 (putA t o.dst skipped) b=some r→if Region.wanted o (yielded ops a.tmps) then o.wp E.P a w next Q else next (a.put o.dst undef) w:=by
  intro t t1 ht hw h
  rw [if_neg (by simp [hw])]
  exact hq _ _ _ _ _ _ _ h (fun _=>rfl) (.refl R) (ht.put o.dst skipped_rel) (.put (by simp) _)
 unfold stepK at h
 split at h
 ·rename_i hg
  exact go ht (by simp [Region.wanted,hg]) h
 ·rename_i j want hg
  split at h
  ·cases h
  ·rename_i g hgs
   have hy:∀ v,a.tmps[g]? = some v→yielded ops a.tmps j=match v with | .bool b=>some b | _=>none:=by
    intro v hv
    unfold guardSlot at hgs
    simp only [yielded,hgs,Option.bind_some,hv]
    cases v<;>rfl
   split at h
   ·rename_i c hc
    obtain ⟨v,hv,hr⟩:=ht.at (getD_some hc (by simp))
    obtain ⟨p,hp,h⟩:=bind_some' h
    cases c<;>simp [CVal.asBool] at hp
    rename_i p'
    subst hp
    have hvb:v=.bool p':=hr
    subst hvb
    have hyy:=hy _ hv
    simp only at hyy
    have hset:TRel (Or F (Own μ b)) w μ b (t.set g (.v (.bool p'))) a:=by
     refine ht.set g fun v' hv'=>?_
     rw [hv] at hv';cases hv'
     rfl
    cases p' with
    |true=>
     rcases br_some h with ⟨_,h⟩ | ⟨h0,_⟩
     ·cases want with
      |true=>
       rcases br_some h with ⟨_,h⟩ | ⟨h0,_⟩
       ·exact go hset (by simp [Region.wanted,hg,hyy]) h
       ·cases h0
      |false=>
       rcases br_some h with ⟨h0,_⟩ | ⟨_,h⟩
       ·cases h0
       ·exact skip hset (by simp [Region.wanted,hg,hyy]) h
     ·cases h0
    |false=>
     rcases br_some h with ⟨h0,_⟩ | ⟨_,h⟩
     ·cases h0
     ·cases want with
      |true=>
       rcases br_some h with ⟨_,h⟩ | ⟨h0,_⟩
       ·exact skip hset (by simp [Region.wanted,hg,hyy]) h
       ·cases h0
      |false=>
       rcases br_some h with ⟨h0,_⟩ | ⟨_,h⟩
       ·cases h0
       ·exact go hset (by simp [Region.wanted,hg,hyy]) h
   ·rename_i hc
    obtain ⟨v,hv,hr⟩:=ht.at (getD_some hc (by simp))
    obtain ⟨vs,rfl,hvs⟩:=hr
    have hyy:=hy _ hv
    exact skip ht (by simp [Region.wanted,hg,hyy]) h
   ·cases h
theorem evOps_sound {E:Env} {C:CallT} {ro:Bool} (hC:COk E C) (ops:Array Oper):∀ (l:List Oper) {t:List AVal} {b:List Blk} {a:Act} {w:World} {μ:List Hd} {K:List AVal→List Blk→Option R'},
  Rel F w μ b→TRel (Or F (Own μ b)) w μ b t a→evOps E C ro ops l t b K=some r→∀ Q:Exit→Act→World→Prop,
   (∀ t' b' a' w' μ',K t' b'=some r→(ro=true→b'=b)→Now F w μ b w' μ' b'→TRel (Or F (Own μ' b')) w' μ' b' t' a'→Same l a a'→Q .normal a' w')→wpList E.P ops Q l a w
 |[],t,b,a,w,μ,K,R,ht,h,Q,hq=>hq t b a w μ h (fun _=>rfl) (.refl R) ht .refl
 |o :: rest,t,b,a,w,μ,K,R,ht,h,Q,hq=>by
  simp only [evOps] at h
  have key:=stepK_sound hC ops R ht h Q (wpList E.P ops Q rest) fun ran t1 t' b' a' w' μ' hK hro hn ht' hs=>by
   refine evOps_sound hC ops rest hn.rel ht' hK Q fun t2 b2 a2 w2 μ2 hK2 hro2 hn2 ht2 hs2=>?_
   exact hq t2 b2 a2 w2 μ2 hK2 (fun e=>(hro2 e).trans (hro e)) (hn.trans hn2) ht2 ((hs.mono fun o ho=>by simp at ho;simp [ho]).trans (hs2.mono fun o ho=>by simp [ho]))
  unfold wpList
  split
  ·rename_i hw
   rw [if_pos hw] at key
   exact .inl key
  ·rename_i hw
   rw [if_neg hw] at key
   exact key
end
end Go.Proofs.Ytognghbhdalckaa.Abs
namespace Go.Proofs.Ytognghbhdalckaa.Abs
open Go
variable [Glob]
section
variable {P:Program} {w:World} {F N M:Nat→Prop} {μ:List Hd} {b:List Blk} {R':Type} {r:R'}
def gfind:List (Nat × Hd)→Nat→Option Hd
 |[],_=>none
 |(j',h) :: r,j=>if j'=j then some h else gfind r j
theorem find_cons {m:Bind} {j j':Nat} {x:Option Nat}:Bind.find ((j',x) :: m) j=if j'=j then some x else m.find j:=by
 simp only [Bind.find]
 by_cases h:j'=j
 ·simp [h,br]
 ·rw [if_neg h,show (j' == j)=false by simpa using h];rfl
theorem find_holds:∀ {m:Bind} {j i:Nat},m.find j=some (some i)→m.holds i=true
 |[],_,_,h=>by simp [Bind.find] at h
 |(j',x) :: r,j,i,h=>by
  rw [find_cons] at h
  split at h
  ·simp at h;subst h;simp [Bind.holds]
  ·have:=find_holds h
   cases x<;>simp [Bind.holds,this]
structure BG (μ:List Hd) (sz:Nat→Nat) (m:Bind) (g:List (Nat × Hd)):Prop where
 keys:∀ j,m.find j=none↔gfind g j=none
 bound:∀ j i,m.find j=some (some i)→∃ h,gfind g j=some h∧μ[i]? = some h
 fresh:∀ j,m.find j=some none→∃ base,gfind g j=some (.arr base 0 0 (sz j) 0 [])
 inj:∀ j j' i,m.find j=some (some i)→m.find j'=some (some i)→j=j'
structure Ext (m:Bind) (g:List (Nat × Hd)) (m':Bind) (g':List (Nat × Hd)):Prop where
 m:∀ j x,m.find j=some x→m'.find j=some x
 g:∀ j h,gfind g j=some h→gfind g' j=some h
theorem Ext.refl {m:Bind} {g:List (Nat × Hd)}:Ext m g m g:=⟨fun _ _ h=>h,fun _ _ h=>h⟩
theorem Ext.trans {m1 m2 m3:Bind} {g1 g2 g3:List (Nat × Hd)} (x:Ext m1 g1 m2 g2) (y:Ext m2 g2 m3 g3):Ext m1 g1 m3 g3:=⟨fun j a h=>y.m j a (x.m j a h),fun j a h=>y.g j a (x.g j a h)⟩
theorem BG.add {sz:Nat→Nat} {m:Bind} {g:List (Nat × Hd)} (B:BG μ sz m g) {j i:Nat} {h:Hd} (hj:m.find j=none) (hi:m.holds i=false) (hm:μ[i]? = some h) :
  BG μ sz ((j,some i) :: m) ((j,h) :: g)∧Ext m g ((j,some i) :: m) ((j,h) :: g):=by
 refine ⟨⟨fun k=>?_,fun k i' hk=>?_,fun k hk=>?_,fun k k' i' hk hk'=>?_⟩,⟨fun k x hk=>?_,fun k x hk=>?_⟩⟩
 ·rw [find_cons];simp only [gfind]
  by_cases e:j=k<;>simp [e,B.keys k]
 ·rw [find_cons] at hk;simp only [gfind]
  by_cases e:j=k
  ·simp [e] at hk;subst hk;exact ⟨h,by simp [e],hm⟩
  ·simp [e] at hk ⊢;exact B.bound k i' hk
 ·rw [find_cons] at hk;simp only [gfind]
  by_cases e:j=k
  ·simp [e] at hk
  ·simp [e] at hk ⊢;exact B.fresh k hk
 ·rw [find_cons] at hk hk'
  by_cases e:j=k<;>by_cases e':j=k'
  ·rw [← e,e']
  ·simp [e] at hk;subst hk
   simp [e'] at hk'
   have:=find_holds hk'
   rw [hi] at this;cases this
  ·simp [e'] at hk';subst hk'
   simp [e] at hk
   have:=find_holds hk
   rw [hi] at this;cases this
  ·simp [e] at hk;simp [e'] at hk';exact B.inj k k' i' hk hk'
 ·rw [find_cons]
  by_cases e:j=k
  ·subst e;rw [hj] at hk;cases hk
  ·simp [e,hk]
 ·simp only [gfind]
  by_cases e:j=k
  ·subst e;rw [(B.keys j).1 hj] at hk;cases hk
  ·simp [e,hk]
theorem BG.addNone {sz:Nat→Nat} {m:Bind} {g:List (Nat × Hd)} (B:BG μ sz m g) {j:Nat} {base:Option Addr} (hj:m.find j=none) :
  BG μ sz ((j,none) :: m) ((j,.arr base 0 0 (sz j) 0 []) :: g)∧Ext m g ((j,none) :: m) ((j,.arr base 0 0 (sz j) 0 []) :: g):=by
 refine ⟨⟨fun k=>?_,fun k i' hk=>?_,fun k hk=>?_,fun k k' i' hk hk'=>?_⟩,⟨fun k x hk=>?_,fun k x hk=>?_⟩⟩
 ·rw [find_cons];simp only [gfind]
  by_cases e:j=k<;>simp [e,B.keys k]
 ·rw [find_cons] at hk;simp only [gfind]
  by_cases e:j=k
  ·simp [e] at hk
  ·simp [e] at hk ⊢;exact B.bound k i' hk
 ·rw [find_cons] at hk;simp only [gfind]
  by_cases e:j=k
  ·subst e;exact ⟨base,by simp⟩
  ·simp [e] at hk ⊢;exact B.fresh k hk
 ·rw [find_cons] at hk hk'
  by_cases e:j=k<;>by_cases e':j=k'
  ·rw [← e,e']
  ·simp [e] at hk
  ·simp [e'] at hk'
  ·simp [e] at hk;simp [e'] at hk';exact B.inj k k' i' hk hk'
 ·rw [find_cons]
  by_cases e:j=k
  ·subst e;rw [hj] at hk;cases hk
  ·simp [e,hk]
 ·simp only [gfind]
  by_cases e:j=k
  ·subst e;rw [(B.keys j).1 hj] at hk;cases hk
  ·simp [e,hk]
def CapsR (N:Nat→Prop) (w:World) (g:List (Nat × Hd)):(l:List (Option Nat))→CapsT l→List Value→Prop
 |[],_,vs=>vs=[]
 |some j :: r,y,vs=>∃ x us,vs=.pointer (some (pl x 0)) :: us∧gfind g j=some (.box x)∧CapsR N w g r y us
 |none :: r,y,vs=>∃ u us,vs=u :: us∧CRel N w y.1 u∧CapsR N w g r y.2 us
theorem CapsR.ext {m m':Bind} {g g':List (Nat × Hd)} (e:Ext m g m' g'):∀ {l:List (Option Nat)} {y:CapsT l} {vs:List Value},CapsR N w g l y vs→CapsR N w g' l y vs
 |[],_,_,h=>h
 |some _ :: r,y,_,⟨x,us,hv,hj,h⟩=>⟨x,us,hv,e.g _ _ hj,CapsR.ext (l:=r) e h⟩
 |none :: r,y,_,⟨u,us,hv,hc,h⟩=>⟨u,us,hv,hc,CapsR.ext (l:=r) e h⟩
def VR (N:Nat→Prop) (w:World) (g:List (Nat × Hd)):(kd:Kd)→kd.T→Value→Prop
 |.int k,n,v=>v=.int k n
 |.bool,p,v=>v=.bool p
 |.str,s,v=>v=.string ⟨List.toArray s⟩
 |.sl,s,v=>CRel N w (.sl s) v
 |.cv,c,v=>CRel N w c v
 |.lp j,_,v=>∃ x,gfind g j=some (.box x)∧v=.pointer (some (pl x 0))
 |.lr j,_,v=>∃ base len cap sz rs S,gfind g j=some (.arr base len cap sz rs S)∧v=.slice base len cap
 |.fn f,_,v=>CRel N w (.func f []) v
 |.clo f l,y,v=>∃ vs:List Value,v=.func (.func f) #[] vs.toArray∧CapsR N w g l y vs
 |.le j o,n,v=>∃ x len cap sz rs S,gfind g j=some (.arr (some (pl x 0)) len cap sz rs S)∧n < len∧v=.pointer (some (pl x (n * sz + o)))
 |.ls j o,n,v=>flat v=true∧∃ x len cap sz rs S,gfind g j=some (.arr (some (pl x 0)) len cap sz rs S)∧cap ≠ 0∧w.cell? (pl x (n * sz + o))=some v
theorem VR.ext {m m':Bind} {g g':List (Nat × Hd)} (e:Ext m g m' g'):∀ {kd:Kd} {y:kd.T} {v:Value},VR N w g kd y v→VR N w g' kd y v
 |.int _,_,_,h=>h
 |.bool,_,_,h=>h
 |.str,_,_,h=>h
 |.sl,_,_,h=>h
 |.cv,_,_,h=>h
 |.lp j,_,_,⟨x,h,hv⟩=>⟨x,e.g _ _ h,hv⟩
 |.lr j,_,_,⟨a,b,c,d,rs,S,h,hv⟩=>⟨a,b,c,d,rs,S,e.g _ _ h,hv⟩
 |.fn _,_,_,h=>h
 |.clo _ _,_,_,⟨vs,hv,h⟩=>⟨vs,hv,CapsR.ext e h⟩
 |.le _ _,_,_,⟨x,a,b,c,d,S,h,hv⟩=>⟨x,a,b,c,d,S,e.g _ _ h,hv⟩
 |.ls _ _,_,_,⟨hf,x,a,b,c,d,S,h,hv⟩=>⟨hf,x,a,b,c,d,S,e.g _ _ h,hv⟩
theorem packCaps_sound {sz:Nat→Nat} (R:Rel F w μ b):∀ {l:List (Option Nat)} {cs:List AVal} {vs:List Value} {m:Bind} {g:List (Nat × Hd)} {K:CapsT l→Bind→Option R'},BG μ sz m g→AsRel (Or F (Own μ b)) w μ b false cs vs→
  packCaps l cs m K=some r→∃ y m' g',K y m'=some r∧BG μ sz m' g'∧Ext m g m' g'∧CapsR (Or F (Own μ b)) w g' l y vs
 |[],[],vs,m,g,K,B,hx,h=>⟨(),m,g,h,B,.refl,hx⟩
 |[],_ :: _,vs,m,g,K,B,hx,h=>by simp [packCaps] at h
 |some j :: rr,[],vs,m,g,K,B,hx,h=>by simp [packCaps] at h
 |some j :: rr,.lptr i (o + 1) :: cs,vs,m,g,K,B,hx,h=>by simp [packCaps] at h
 |some j :: rr,.lptr i 0 :: cs,vs,m,g,K,B,⟨u,us,hv,hu,_,hr⟩,h=>by
  obtain ⟨x,hm,rfl⟩:=hu
  simp only [packCaps] at h
  split at h
  ·rename_i hj
   rcases br_some h with ⟨_,h⟩ | ⟨hi,h⟩
   ·cases h
   obtain ⟨B',e⟩:=B.add (h:=.box x) hj hi (by simpa using hm)
   obtain ⟨y,m',g',hK,B2,e2,hc⟩:=packCaps_sound R B' hr h
   exact ⟨y,m',g',hK,B2,e.trans e2,x,us,by rw [hv],e2.g _ _ (by simp [gfind]),hc⟩
  ·rename_i i' hj
   obtain ⟨hi,h'⟩:=br_none h
   clear h
   have:i'=i:=by simpa using hi
   subst this
   obtain ⟨hh,hg,hmm⟩:=B.bound j _ hj
   rw [hm] at hmm;cases hmm
   obtain ⟨y,m',g',hK,B2,e2,hc⟩:=packCaps_sound R B hr h'
   exact ⟨y,m',g',hK,B2,e2,x,us,by rw [hv],e2.g _ _ hg,hc⟩
  ·cases h
 |some j :: rr,.v _ :: cs,vs,m,g,K,B,hx,h=>by simp [packCaps] at h
 |some j :: rr,.nl :: cs,vs,m,g,K,B,hx,h=>by simp [packCaps] at h
 |some j :: rr,.lel _ _ _ _ :: cs,vs,m,g,K,B,hx,h=>by simp [packCaps] at h
 |some j :: rr,.lref _ _ :: cs,vs,m,g,K,B,hx,h=>by simp [packCaps] at h
 |some j :: rr,.lsub _ _ _ _ _ :: cs,vs,m,g,K,B,hx,h=>by simp [packCaps] at h
 |some j :: rr,.lel2 _ _ _ _ _ _ :: cs,vs,m,g,K,B,hx,h=>by simp [packCaps] at h
 |some j :: rr,.agg _ :: cs,vs,m,g,K,B,hx,h=>by simp [packCaps] at h
 |some j :: rr,.func _ _ :: cs,vs,m,g,K,B,hx,h=>by simp [packCaps] at h
 |some j :: rr,.tup _ :: cs,vs,m,g,K,B,hx,h=>by simp [packCaps] at h
 |some j :: rr,.un :: cs,vs,m,g,K,B,hx,h=>by simp [packCaps] at h
 |none :: rr,[],vs,m,g,K,B,hx,h=>by simp [packCaps] at h
 |none :: rr,.v c :: cs,vs,m,g,K,B,⟨u,us,hv,hu,_,hr⟩,h=>by
  simp only [packCaps] at h
  obtain ⟨y,m',g',hK,B2,e2,hc⟩:=packCaps_sound R B hr h
  exact ⟨(c,y),m',g',hK,B2,e2,u,us,hv,hu,hc⟩
 |none :: rr,.lptr _ _ :: cs,vs,m,g,K,B,hx,h=>by simp [packCaps] at h
 |none :: rr,.nl :: cs,vs,m,g,K,B,hx,h=>by simp [packCaps] at h
 |none :: rr,.lel _ _ _ _ :: cs,vs,m,g,K,B,hx,h=>by simp [packCaps] at h
 |none :: rr,.lref _ _ :: cs,vs,m,g,K,B,hx,h=>by simp [packCaps] at h
 |none :: rr,.lsub _ _ _ _ _ :: cs,vs,m,g,K,B,hx,h=>by simp [packCaps] at h
 |none :: rr,.lel2 _ _ _ _ _ _ :: cs,vs,m,g,K,B,hx,h=>by simp [packCaps] at h
 |none :: rr,.agg _ :: cs,vs,m,g,K,B,hx,h=>by simp [packCaps] at h
 |none :: rr,.func _ _ :: cs,vs,m,g,K,B,hx,h=>by simp [packCaps] at h
 |none :: rr,.tup _ :: cs,vs,m,g,K,B,hx,h=>by simp [packCaps] at h
 |none :: rr,.un :: cs,vs,m,g,K,B,hx,h=>by simp [packCaps] at h
theorem packV_sound {sz:Nat→Nat} {m:Bind} {g:List (Nat × Hd)} {x:AVal} {v:Value} (R:Rel F w μ b) (B:BG μ sz m g) (hx:ARel (Or F (Own μ b)) w μ b x v) :
  ∀ {kd:Kd} {K:kd.T→Bind→Option R'},packV b kd x m K=some r→∃ y m' g',K y m'=some r∧BG μ sz m' g'∧Ext m g m' g'∧VR (Or F (Own μ b)) w g' kd y v
 |.int k,K,h=>by
  obtain ⟨n,hv,h⟩:=wInt_sound hx h
  exact ⟨n,m,g,h,B,.refl,hv⟩
 |.bool,K,h=>by
  obtain ⟨n,hv,h⟩:=wBool_sound hx h
  exact ⟨n,m,g,h,B,.refl,hv⟩
 |.str,K,h=>by
  obtain ⟨n,hv,h⟩:=wStr_sound hx h
  exact ⟨n,m,g,h,B,.refl,hv⟩
 |.sl,K,h=>by
  simp only [packV] at h
  split at h
  ·rename_i c
   obtain ⟨s,hs,h⟩:=bind_some' h
   cases c<;>simp [CVal.asSl] at hs
   subst hs
   exact ⟨_,m,g,h,B,.refl,hx⟩
  ·obtain ⟨base,rfl⟩:=hx
   exact ⟨[],m,g,h,B,.refl,base,0,rfl,Nat.le_refl _,.inl rfl⟩
  ·cases h
 |.cv,K,h=>by
  simp only [packV] at h
  split at h
  ·exact ⟨_,m,g,h,B,.refl,hx⟩
  ·cases h
 |.fn f,K,h=>by
  simp only [packV] at h
  split at h
  ·rename_i g'
   obtain ⟨hf,h'⟩:=br_none h
   have:g'=f:=by simpa using hf
   subst this
   exact ⟨(),m,g,h',B,.refl,hx⟩
  ·cases h
 |.clo f l,K,h=>by
  simp only [packV] at h
  split at h
  ·rename_i g' cs
   obtain ⟨hf,h'⟩:=br_none h
   have:g'=f:=by simpa using hf
   subst this
   obtain ⟨vs,hv,hcs⟩:=hx
   obtain ⟨y,m',g2,hK,B2,e2,hc⟩:=packCaps_sound R B hcs h'
   exact ⟨y,m',g2,hK,B2,e2,vs,hv,hc⟩
  ·cases h
 |.lp j,K,h=>by
  simp only [packV] at h
  split at h
  ·rename_i i
   obtain ⟨x,hm,rfl⟩:=hx
   split at h
   ·rename_i hj
    rcases br_some h with ⟨_,h⟩ | ⟨hi,h⟩
    ·cases h
    obtain ⟨B',e⟩:=B.add (h:=.box x) hj hi (by simpa using hm)
    exact ⟨(),_,_,h,B',e,x,by simp [gfind],by simp⟩
   ·rename_i i' hj
    obtain ⟨hi,h'⟩:=br_none h
    clear h
    have:i'=i:=by simpa using hi
    subst this
    have h:=h'
    obtain ⟨hh,hg,hmm⟩:=B.bound j _ hj
    rw [hm] at hmm;cases hmm
    exact ⟨(),m,g,h,B,.refl,x,hg,by simp⟩
   ·cases h
  ·cases h
 |.lr j,K,h=>by
  simp only [packV] at h
  split at h
  ·rename_i i ver
   obtain ⟨xs,hxs,h⟩:=bind_some' h
   obtain ⟨md,sz',base,cap,rs,S,rfl,hb,hm,_⟩:=R.arrAt hx hxs
   split at h
   ·rename_i hj
    rcases br_some h with ⟨_,h⟩ | ⟨hi,h⟩
    ·cases h
    obtain ⟨B',e⟩:=B.add hj hi hm
    exact ⟨(),_,_,h,B',e,base,xs.length,cap,sz',rs,S,by simp [gfind],rfl⟩
   ·rename_i i' hj
    obtain ⟨hi,h'⟩:=br_none h
    clear h
    have:i'=i:=by simpa using hi
    subst this
    have h:=h'
    obtain ⟨hh,hg,hmm⟩:=B.bound j _ hj
    rw [hm] at hmm;cases hmm
    exact ⟨(),m,g,h,B,.refl,base,xs.length,cap,sz',rs,S,hg,rfl⟩
   ·cases h
  ·obtain ⟨base,rfl⟩:=hx
   split at h
   ·rename_i hj
    obtain ⟨B',e⟩:=B.addNone (base:=base) hj
    exact ⟨(),_,_,h,B',e,base,0,0,sz j,0,[],by simp [gfind],rfl⟩
   ·cases h
  ·cases h
 |.le j o,K,h=>by
  simp only [packV] at h
  split at h
  ·rename_i i ver idx off
   obtain ⟨ho,h'⟩:=br_none h
   clear h
   have:off=o:=by simpa using ho
   subst this
   obtain ⟨xs,hxs,h⟩:=bind_some' h'
   clear h'
   obtain ⟨md,sz',x,cap,rs,S,cells,ee,rfl,hidx,hb,hm,_⟩:=R.elAt hx hxs
   split at h
   ·rename_i hj
    rcases br_some h with ⟨_,h⟩ | ⟨hi,h⟩
    ·cases h
    obtain ⟨B',e⟩:=B.add hj hi hm
    exact ⟨idx,_,_,h,B',e,x,xs.length,cap,sz',rs,S,by simp [gfind],hidx,rfl⟩
   ·rename_i i' hj
    obtain ⟨hi,h9⟩:=br_none h
    have:i'=i:=by simpa using hi
    subst this
    clear h
    have h:=h9
    obtain ⟨hh,hg,hmm⟩:=B.bound j _ hj
    rw [hm] at hmm;cases hmm
    exact ⟨idx,m,g,h,B,.refl,x,xs.length,cap,sz',rs,S,hg,hidx,rfl⟩
   ·cases h
  ·cases h
 |.ls j o,K,h=>by
  simp only [packV] at h
  split at h
  ·rename_i i ver sv idx off
   obtain ⟨ho,h'⟩:=br_none h
   clear h
   have:off=o:=by simpa using ho
   subst this
   obtain ⟨ys,hys,h⟩:=bind_some' h'
   clear h'
   obtain ⟨xs,md,sz',x,cap,rs,S,cells,ee,c,hv,T,hxs,hc,hdc,hdeep,hsv,hb,hm,hmd,hszb,hl,h0,hw,hrs,hz,hnd,hel,hcell,hT,hdr⟩:=R.subAt hys
   have hvv:v=hv∧flat v=true:=by
    obtain ⟨hfl,blk,hh,hb',hm',_,_,hcur⟩:=hx
    rw [hb] at hb';cases hb'
    rw [hm] at hm';cases hm'
    obtain ⟨_,hcur⟩:=hcur rfl md sz' xs rfl
    obtain ⟨x'',_,_,_,_,hv',he,_,hw',hp⟩:=hcur hsv hdeep ⟨c,ys,hc,hdc⟩
    cases he
    rw [hcell] at hw';cases hw'
    exact ⟨hp.symm,hfl⟩
   obtain ⟨rfl,hfl⟩:=hvv
   split at h
   ·rename_i hj
    rcases br_some h with ⟨_,h⟩ | ⟨hi,h⟩
    ·cases h
    obtain ⟨B',e⟩:=B.add hj hi hm
    exact ⟨idx,_,_,h,B',e,hfl,x,xs.length,cap,sz',rs,S,by simp [gfind],by omega,hcell⟩
   ·rename_i i' hj
    obtain ⟨hi,h9⟩:=br_none h
    have:i'=i:=by simpa using hi
    subst this
    clear h
    have h:=h9
    obtain ⟨hh,hg,hmm⟩:=B.bound j _ hj
    rw [hm] at hmm;cases hmm
    exact ⟨idx,m,g,h,B,.refl,hfl,x,xs.length,cap,sz',rs,S,hg,by omega,hcell⟩
   ·cases h
  ·cases h
def SlotsR (N:Nat→Prop) (w:World) (g:List (Nat × Hd)) (a:Act):(l:List (Nat × Kd))→SsT l→Prop
 |[],_=>True
 |(i,kd) :: r,y=>(∃ v,a.tmps[i]? = some v∧VR N w g kd y.1 v)∧SlotsR N w g a r y.2
theorem SlotsR.ext {m m':Bind} {g g':List (Nat × Hd)} {a:Act} (e:Ext m g m' g'):∀ {l:List (Nat × Kd)} {y:SsT l},SlotsR N w g a l y→SlotsR N w g' a l y
 |[],_,_=>trivial
 |_ :: _,_,⟨⟨v,hv,h⟩,k⟩=>⟨⟨v,hv,VR.ext e h⟩,SlotsR.ext e k⟩
theorem packV_un:∀ {kd:Kd} {m:Bind} {K:kd.T→Bind→Option R'},packV b kd .un m K=some r→False
 |.int _,_,_,h=>by simp [packV,wInt] at h
 |.bool,_,_,h=>by simp [packV,wBool] at h
 |.str,_,_,h=>by simp [packV,wStr] at h
 |.sl,_,_,h=>by simp [packV] at h
 |.cv,_,_,h=>by simp [packV] at h
 |.lp _,_,_,h=>by simp [packV] at h
 |.lr _,_,_,h=>by simp [packV] at h
 |.fn _,_,_,h=>by simp [packV] at h
 |.clo _ _,_,_,h=>by simp [packV] at h
 |.le _ _,_,_,h=>by simp [packV] at h
 |.ls _ _,_,_,h=>by simp [packV] at h
theorem packSlots_sound {sz:Nat→Nat} {a:Act} {t:List AVal} (R:Rel F w μ b) (ht:TRel (Or F (Own μ b)) w μ b t a):∀ {l:List (Nat × Kd)} {m:Bind} {g:List (Nat × Hd)} {K:SsT l→Bind→Option R'},BG μ sz m g→
  packSlots t b l m K=some r→∃ y m' g',K y m'=some r∧BG μ sz m' g'∧Ext m g m' g'∧SlotsR (Or F (Own μ b)) w g' a l y
 |[],m,g,K,B,h=>⟨(),m,g,h,B,.refl,trivial⟩
 |(i,kd) :: rest,m,g,K,B,h=>by
  simp only [packSlots] at h
  cases hi:t[i]? with
  |none=>
   rw [List.getD_eq_getElem?_getD,hi] at h
   exact (packV_un h).elim
  |some x=>
   rw [List.getD_eq_getElem?_getD,hi] at h
   obtain ⟨v,hv,hr⟩:=ht.at hi
   obtain ⟨y,m1,g1,h,B1,e1,hy⟩:=packV_sound R B hr h
   obtain ⟨ys,m2,g2,h,B2,e2,hys⟩:=packSlots_sound R ht B1 h
   exact ⟨(y,ys),m2,g2,h,B2,e1.trans e2,⟨v,hv,VR.ext e2 hy⟩,hys⟩
def CellsR (N:Nat→Prop) (w:World) (g:List (Nat × Hd)):(l:List Kd)→KsT l→List Value→Prop
 |[],_,vs=>vs=[]
 |kd :: r,y,vs=>∃ u us,vs=u :: us∧VR N w g kd y.1 u∧flat u=true∧CellsR N w g r y.2 us
theorem CellsR.ext {m m':Bind} {g g':List (Nat × Hd)} (e:Ext m g m' g'):∀ {l:List Kd} {y:KsT l} {vs:List Value},CellsR N w g l y vs→CellsR N w g' l y vs
 |[],_,_,h=>h
 |_ :: _,_,_,⟨u,us,hv,h,hf,k⟩=>⟨u,us,hv,VR.ext e h,hf,CellsR.ext e k⟩
theorem packCells_sound {sz:Nat→Nat} (R:Rel F w μ b):∀ {l:List Kd} {cs:List AVal} {vs:List Value} {m:Bind} {g:List (Nat × Hd)} {K:KsT l→Bind→Option R'},BG μ sz m g→
  AsRel (Or F (Own μ b)) w μ b true cs vs→packCells b l cs m K=some r→∃ y m' g',K y m'=some r∧BG μ sz m' g'∧Ext m g m' g'∧CellsR (Or F (Own μ b)) w g' l y vs
 |[],[],vs,m,g,K,B,ha,h=>⟨(),m,g,h,B,.refl,ha⟩
 |[],_ :: _,vs,m,g,K,B,ha,h=>by simp [packCells] at h
 |_ :: _,[],vs,m,g,K,B,ha,h=>by simp [packCells] at h
 |kd :: rest,x :: cs,vs,m,g,K,B,ha,h=>by
  simp only [packCells] at h
  obtain ⟨u,us,rfl,hx,hf,ha⟩:=ha
  obtain ⟨y,m1,g1,h,B1,e1,hy⟩:=packV_sound R B hx h
  obtain ⟨ys,m2,g2,h,B2,e2,hys⟩:=packCells_sound R B1 ha h
  exact ⟨(y,ys),m2,g2,h,B2,e1.trans e2,u,us,rfl,VR.ext e2 hy,hf rfl,hys⟩
def BlksR (N:Nat→Prop) (w:World) (b:List Blk) (m:Bind) (g:List (Nat × Hd)):(l:List BK)→Nat→BsT l→Prop
 |[],_,_=>True
 |.arr d f sz :: r,j,y=>((∃ (i ver sv:Nat),m.find j=some (some i)∧b[i]? = some ⟨ver,.arr ⟨d,f,sv⟩ sz y.1⟩)∨(m.find j=some none∧y.1=[]∧f=false))∧BlksR N w b m g r (j + 1) y.2
 |.gone :: r,j,y=>True∧BlksR N w b m g r (j + 1) y.2
 |.box ks :: r,j,y=>(∃ (i ver:Nat) (cs:List AVal) (x:Nat) (vs:List Value) (e:TypeId),m.find j=some (some i)∧b[i]? = some ⟨ver,.box cs⟩∧gfind g j=some (.box x)∧w.heap[x]? = some (.cells vs.toArray e (0,0))∧CellsR N w g ks y.1 vs)∧
   BlksR N w b m g r (j + 1) y.2
theorem BlksR.ext {m m':Bind} {g g':List (Nat × Hd)} (e:Ext m g m' g'):∀ {l:List BK} {j:Nat} {y:BsT l},BlksR N w b m g l j y→BlksR N w b m' g' l j y
 |[],_,_,_=>trivial
 |.arr d f sz :: r,j,y,⟨h,k⟩=>⟨h.imp (fun ⟨i,ver,sv,h1,h2⟩=>⟨i,ver,sv,e.m _ _ h1,h2⟩) (fun ⟨h1,h2⟩=>⟨e.m _ _ h1,h2⟩),BlksR.ext e k⟩
 |.gone :: r,j,y,⟨_,k⟩=>⟨trivial,BlksR.ext e k⟩
 |.box ks :: r,j,y,⟨⟨i,ver,cs,x,vs,ee,h1,h2,h3,h4,h5⟩,k⟩=>⟨⟨i,ver,cs,x,vs,ee,e.m _ _ h1,h2,e.g _ _ h3,h4,CellsR.ext e h5⟩,BlksR.ext e k⟩
theorem packBlks_sound {sz:Nat→Nat} (R:Rel F w μ b):∀ {l:List BK} {j:Nat} {m:Bind} {g:List (Nat × Hd)} {K:BsT l→Bind→Option R'},BG μ sz m g→
  packBlks b l j m K=some r→∃ y m' g',K y m'=some r∧BG μ sz m' g'∧Ext m g m' g'∧BlksR (Or F (Own μ b)) w b m' g' l j y
 |[],j,m,g,K,B,h=>⟨(),m,g,h,B,.refl,trivial⟩
 |.arr d f s :: rest,j,m,g,K,B,h=>by
  simp only [packBlks] at h
  split at h
  ·rename_i i hj
   obtain ⟨xs,hxs,h⟩:=bind_some' h
   obtain ⟨hsz,h⟩:=br_none h
   obtain ⟨md,sz',base,cap,rs,S,hb,_,hmd,hszb,_⟩:=R.arr hxs
   rw [hmd,hszb] at hsz
   simp only [Bool.and_eq_true,beq_iff_eq] at hsz
   obtain ⟨⟨rfl,rfl⟩,rfl⟩:=hsz
   obtain ⟨ys,m2,g2,h,B2,e2,hys⟩:=packBlks_sound R B h
   exact ⟨(xs,ys),m2,g2,h,B2,e2,.inl ⟨i,_,md.sv,e2.m _ _ hj,hb⟩,hys⟩
  ·rename_i hj
   rcases br_some h with ⟨_,h⟩ | ⟨hf,h⟩
   ·cases h
   obtain ⟨ys,m2,g2,h,B2,e2,hys⟩:=packBlks_sound R B h
   exact ⟨([],ys),m2,g2,h,B2,e2,.inr ⟨e2.m _ _ hj,rfl,hf⟩,hys⟩
  ·cases h
 |.gone :: rest,j,m,g,K,B,h=>by
  simp only [packBlks] at h
  split at h
  ·cases h
  ·obtain ⟨ys,m2,g2,h,B2,e2,hys⟩:=packBlks_sound R B h
   exact ⟨((),ys),m2,g2,h,B2,e2,trivial,hys⟩
 |.box ks :: rest,j,m,g,K,B,h=>by
  simp only [packBlks] at h
  split at h
  ·rename_i i hj
   obtain ⟨cs,hcs,h⟩:=bind_some' h
   obtain ⟨ver,x,vs,e,hb,hm,hw,ha,_⟩:=R.box hcs
   obtain ⟨y,m1,g1,h,B1,e1,hy⟩:=packCells_sound R B ha h
   obtain ⟨ys,m2,g2,h,B2,e2,hys⟩:=packBlks_sound R B1 h
   obtain ⟨hh,hg,hmm⟩:=B.bound j i hj
   rw [hm] at hmm;cases hmm
   exact ⟨(y,ys),m2,g2,h,B2,e1.trans e2,⟨i,ver,cs,x,vs,e,e2.m _ _ (e1.m _ _ hj),hb,e2.g _ _ (e1.g _ _ hg),hw,CellsR.ext e2 hy⟩,hys⟩
  ·cases h
end
end Go.Proofs.Ytognghbhdalckaa.Abs
namespace Go.Proofs.Ytognghbhdalckaa.Abs
open Go
variable [Glob]
section
variable {P:Program} {w:World} {F N M:Nat→Prop} {μ:List Hd} {b:List Blk} {R':Type} {r:R'}
def FD (bd:Body):Prop:=isFix bd=true∨alive bd=false
structure NowL (n:Nat) (F:Nat→Prop) (w:World) (μ:List Hd) (b:List Blk) (w':World) (μ':List Hd) (b':List Blk):Prop where
 rel:Rel F w' μ' b'
 box:∀ (j x:Nat),j < n→μ[j]? = some (.box x)→μ'[j]? = some (.box x)
 own:∀ x,Own μ' b' x→x < w'.heap.size∧(w.heap.size ≤ x∨Own μ b x)
 fr:Fr (Own μ b) w w'
 len:n ≤ b'.length
 fix:∀ (j:Nat) (blk:Blk) (h:Hd),j < n→b[j]? = some blk→μ[j]? = some h→FD blk.body→∃ (blk':Blk) (h':Hd),b'[j]? = some blk'∧μ'[j]? = some h'∧h'.head=h.head∧FD blk'.body
theorem NowL.refl {n:Nat} (R:Rel F w μ b) (h:n ≤ b.length):NowL n F w μ b w μ b:=
 ⟨R,fun _ _ _ h=>h,fun x hx=>⟨(R.fres x hx).2,.inr hx⟩,.refl _ _,h,fun j blk h _ hb hm hf=>⟨blk,h,hb,hm,rfl,hf⟩⟩
theorem NowL.trans {n:Nat} {G:Nat→Prop} {w1 w2:World} {μ1 μ2:List Hd} {b1 b2:List Blk} (x:NowL n F w μ b w1 μ1 b1) (y:NowL n G w1 μ1 b1 w2 μ2 b2):NowL n G w μ b w2 μ2 b2:=by
 refine ⟨y.rel,fun j z hj h=>y.box j z hj (x.box j z hj h),fun z hz=>?_,x.fr.trans y.fr fun z hz ho=>?_,y.len,fun j blk h hj hb hm hf=>?_⟩
 ·obtain ⟨h1,h2⟩:=y.own z hz
  refine ⟨h1,?_⟩
  rcases h2 with h2 | h2
  ·exact .inl (Nat.le_trans x.fr.size h2)
  ·exact (x.own z h2).2
 ·rcases (x.own z ho).2 with h | h
  ·omega
  ·exact h
 ·obtain ⟨blk1,h1,hb1,hm1,e1,f1⟩:=x.fix j blk h hj hb hm hf
  obtain ⟨blk2,h2,hb2,hm2,e2,f2⟩:=y.fix j blk1 h1 hj hb1 hm1 f1
  exact ⟨blk2,h2,hb2,hm2,e2.trans e1,f2⟩
theorem Now.toL {n:Nat} {w':World} {μ':List Hd} {b':List Blk} (h:Now F w μ b w' μ' b') (hn:n ≤ b.length):NowL n F w μ b w' μ' b':=by
 refine ⟨h.rel,fun j x hj hm=>?_,h.upd.own,h.fr,?_,fun j blk hh hj hb hm hf=>?_⟩
 ·have hb:j < b.length:=by omega
  obtain ⟨blk',h',_,hm',V⟩:=h.upd.old j _ _ (List.getElem?_eq_getElem hb) hm
  rw [hm',V.box x rfl]
 ·cases n with
  |zero=>exact Nat.zero_le _
  |succ k=>
   have hb:k < b.length:=by omega
   have hk:k < μ.length:=by rw [h.upd.len0];exact hb
   obtain ⟨blk',h',hb',_⟩:=h.upd.old k _ _ (List.getElem?_eq_getElem hb) (List.getElem?_eq_getElem hk)
   exact (List.getElem?_eq_some_iff.1 hb').1
 ·obtain ⟨blk',h',hb',hm',V⟩:=h.upd.old j blk hh hb hm
  refine ⟨blk',h',hb',hm',?_⟩
  rcases hf with hf | hf
  ·obtain ⟨g1,g2⟩:=V.fix hf
   refine ⟨g1,?_⟩
   cases ha:alive blk'.body with
   |true=>exact .inl (g2 ha)
   |false=>exact .inr ha
  ·obtain ⟨g1,g2⟩:=V.dead hf
   exact ⟨by rw [g2],.inr g1⟩
def hsG (g:List (Nat × Hd)) (n:Nat):List Hd:=(List.range n).map fun j=>(gfind g j).getD .none
theorem hsG_at {g:List (Nat × Hd)} {n j:Nat} {h:Hd} (hj:j < n) (hg:gfind g j=some h):(hsG g n)[j]? = some h:=by
 unfold hsG
 rw [List.getElem?_map]
 simp [hj,hg]
theorem hsG_get {g:List (Nat × Hd)} {n j:Nat} {h:Hd} (hh:(hsG g n)[j]? = some h):j < n∧h=(gfind g j).getD .none:=by
 unfold hsG at hh
 rw [List.getElem?_map] at hh
 by_cases hj:j < n
 ·simp [hj] at hh;exact ⟨hj,hh.symm⟩
 ·simp [hj] at hh
theorem unBlks_len:∀ {l:List BK} {y:BsT l},(unBlks l y).length=l.length
 |[],_=>rfl
 |.arr _ _ _ :: r,y=>by simp [unBlks,unBlks_len]
 |.gone :: r,y=>by simp [unBlks,unBlks_len]
 |.box _ :: r,y=>by simp [unBlks,unBlks_len]
theorem unBlks_ver:∀ {l:List BK} {y:BsT l} {k:Nat} {blk:Blk},(unBlks l y)[k]? = some blk→blk.ver=0
 |[],_,_,_,h=>by simp [unBlks] at h
 |.arr _ _ _ :: r,y,0,_,h=>by simp [unBlks] at h;subst h;rfl
 |.gone :: r,y,0,_,h=>by simp [unBlks] at h;subst h;rfl
 |.box _ :: r,y,0,_,h=>by simp [unBlks] at h;subst h;rfl
 |.gone :: r,y,k + 1,_,h=>unBlks_ver (l:=r) (by simpa [unBlks] using h)
 |.arr _ _ _ :: r,y,k + 1,_,h=>unBlks_ver (l:=r) (by simpa [unBlks] using h)
 |.box _ :: r,y,k + 1,_,h=>unBlks_ver (l:=r) (by simpa [unBlks] using h)
def szOfK (l:List BK) (j:Nat):Nat:=
 match l[j]? with
 |some (.arr _ _ s)=>s
 |_=>0
theorem blks_at {m:Bind} {g:List (Nat × Hd)}:∀ {l:List BK} {j0:Nat} {y:BsT l} {k:Nat} {blk:Blk},BlksR N w b m g l j0 y→(unBlks l y)[k]? = some blk→
  ((blk=⟨0,.dead⟩∧True)∨∃ d f sz xs,l[k]? = some (.arr d f sz)∧blk=⟨0,.arr ⟨d,f,0⟩ sz xs⟩∧((∃ (i ver sv:Nat),m.find (j0 + k)=some (some i)∧b[i]? = some ⟨ver,.arr ⟨d,f,sv⟩ sz xs⟩)∨(m.find (j0 + k)=some none∧xs=[]∧f=false)))∨
  (∃ (ks:List Kd) (y':KsT ks),blk=⟨0,.box (unCells ks y')⟩∧∃ (i ver:Nat) (cs:List AVal) (x:Nat) (vs:List Value) (e:TypeId),m.find (j0 + k)=some (some i)∧b[i]? = some ⟨ver,.box cs⟩∧
   gfind g (j0 + k)=some (.box x)∧w.heap[x]? = some (.cells vs.toArray e (0,0))∧CellsR N w g ks y' vs)
 |[],_,_,_,_,_,h=>by simp [unBlks] at h
 |.arr d f sz :: r,j0,y,0,blk,hB,h=>by
  simp [unBlks] at h;subst h
  exact .inl (.inr ⟨d,f,sz,y.1,rfl,rfl,hB.1⟩)
 |.gone :: r,j0,y,0,blk,hB,h=>by
  simp [unBlks] at h;subst h
  exact .inl (.inl ⟨rfl,hB.1⟩)
 |.box ks :: r,j0,y,0,blk,hB,h=>by
  simp [unBlks] at h;subst h
  exact .inr ⟨ks,y.1,rfl,hB.1⟩
 |.gone :: r,j0,y,k + 1,blk,hB,h=>by
  have:=blks_at (l:=r) (k:=k) hB.2 (by simpa [unBlks] using h)
  rw [show j0 + 1 + k=j0 + (k + 1) by omega] at this
  simpa using this
 |.arr d f sz :: r,j0,y,k + 1,blk,hB,h=>by
  have:=blks_at (l:=r) (k:=k) hB.2 (by simpa [unBlks] using h)
  rw [show j0 + 1 + k=j0 + (k + 1) by omega] at this
  simpa using this
 |.box ks :: r,j0,y,k + 1,blk,hB,h=>by
  have:=blks_at (l:=r) (k:=k) hB.2 (by simpa [unBlks] using h)
  rw [show j0 + 1 + k=j0 + (k + 1) by omega] at this
  simpa using this
theorem find_map {f:Nat→Option Nat}:∀ {l:List Nat} {k:Nat},Bind.find (l.map fun j=>(j,f j)) k=if k ∈ l then some (f k) else none
 |[],_=>rfl
 |a :: r,k=>by
  rw [List.map_cons,find_cons,find_map]
  by_cases h:a=k
  ·subst h;simp
  ·simp [h,Ne.symm h]
theorem gfind_map {f:Nat→Hd}:∀ {l:List Nat} {k:Nat},gfind (l.map fun j=>(j,f j)) k=if k ∈ l then some (f k) else none
 |[],_=>rfl
 |a :: r,k=>by
  simp only [List.map_cons,gfind]
  rw [gfind_map]
  by_cases h:a=k
  ·subst h;simp
  ·simp [h,Ne.symm h]
theorem skipG_of {l:List BK} {j:Nat} (h:skipG b l j=true):∃ (ver:Nat) (m:Md) (sz:Nat) (xs:List CVal),b[j]? = some ⟨ver,.arr m sz xs⟩∧m.fix=false:=by
 unfold skipG at h
 split at h
 ·split at h
  ·rename_i ver m sz xs hb
   exact ⟨ver,m,sz,xs,hb,by simpa using h⟩
  ·cases h
 ·cases h
theorem BG.init {sz:Nat→Nat} {l:List BK} {np:Nat} (h:np ≤ μ.length):BG μ sz (bind0 b l np) (((List.range np).filter fun j=>!skipG b l j).map fun j=>(j,(μ[j]?).getD .none)):=by
 have e1:∀ j,(bind0 b l np).find j=if j ∈ (List.range np).filter (fun j=>!skipG b l j) then some (some j) else none:=fun j=>find_map (f:=some)
 have e2:∀ j,gfind (((List.range np).filter fun j=>!skipG b l j).map fun j=>(j,(μ[j]?).getD .none)) j=if j ∈ (List.range np).filter (fun j=>!skipG b l j) then some ((μ[j]?).getD .none) else none:=fun j=>gfind_map (f:=fun j=>(μ[j]?).getD .none)
 refine ⟨fun j=>?_,fun j i hj=>?_,fun j hj=>?_,fun j j' i hj hj'=>?_⟩
 ·rw [e1,e2];split<;>simp
 ·rw [e1] at hj
  split at hj
  ·rename_i hm
   simp at hj;subst hj
   have:j < μ.length:=by simp at hm;omega
   exact ⟨μ[j],by rw [e2,if_pos hm];simp [this],List.getElem?_eq_getElem this⟩
  ·cases hj
 ·rw [e1] at hj;split at hj<;>simp at hj
 ·rw [e1] at hj hj'
  split at hj<;>split at hj'<;>simp at hj hj'
  rw [hj,hj']
theorem find_mem:∀ {m:Bind} {j:Nat} {x:Option Nat},m.find j=some x→∃ p ∈ m,p.1=j
 |[],_,_,h=>by simp [Bind.find] at h
 |(j',y) :: r,j,x,h=>by
  rw [find_cons] at h
  split at h
  ·rename_i e;exact ⟨_,List.mem_cons_self,e⟩
  ·obtain ⟨p,hp,e⟩:=find_mem h
   exact ⟨p,List.mem_cons_of_mem _ hp,e⟩
theorem CapsR.rel {g:List (Nat × Hd)} {b2:List Blk} {n:Nat} (hM:∀ x,M x→N x) (hg:∀ j h,gfind g j=some h→j < n) :
  ∀ {l:List (Option Nat)} {y:CapsT l} {vs:List Value},CapsR N w g l y vs→AsRel M w (hsG g n) b2 false (unCaps l y) vs
 |[],_,_,h=>h
 |some j :: r,y,_,⟨x,us,hv,hj,h⟩=>⟨_,us,hv,⟨x,hsG_at (hg _ _ hj) hj,rfl⟩,by simp,CapsR.rel (l:=r) hM hg h⟩
 |none :: r,y,_,⟨u,us,hv,hc,h⟩=>⟨u,us,hv,CRel.keep (Keep.sub hM) hc,by simp,CapsR.rel (l:=r) hM hg h⟩
theorem VR.rel {g:List (Nat × Hd)} {b2:List Blk} {n:Nat} (hM:∀ x,M x→N x) (hg:∀ j h,gfind g j=some h→j < n) (hb:∀ j,j < n→∃ blk,b2[j]? = some blk∧blk.ver=0∧∀ m sz xs base len cap sz' rs S,cont blk.body=some (m,sz,xs)→gfind g j=some (.arr base len cap sz' rs S)→sz'=sz) :
  ∀ {kd:Kd} {y:kd.T} {v:Value},VR N w g kd y v→ARel M w (hsG g n) b2 (unV kd y) v
 |.int _,_,_,h=>h
 |.bool,_,_,h=>h
 |.str,_,_,h=>h
 |.sl,_,_,h=>CRel.keep (Keep.sub hM) h
 |.cv,_,_,h=>CRel.keep (Keep.sub hM) h
 |.fn _,_,_,h=>CRel.keep (Keep.sub hM) h
 |.clo _ _,_,_,⟨vs,hv,h⟩=>⟨vs,hv,CapsR.rel hM hg h⟩
 |.lp j,_,_,⟨x,h,hv⟩=>⟨x,hsG_at (hg _ _ h) h,hv⟩
 |.lr j,_,_,⟨base,len,cap,sz,rs,S,h,hv⟩=>by
  obtain ⟨blk,hb,h0,_⟩:=hb j (hg _ _ h)
  exact ⟨by rw [hv];rfl,blk,_,hb,hsG_at (hg _ _ h) h,by simp,Nat.zero_le _,fun _ _=>hv⟩
 |.le j o,n,_,⟨x,len,cap,sz,rs,S,h,hn,hv⟩=>by
  obtain ⟨blk,hb,h0,_⟩:=hb j (hg _ _ h)
  exact ⟨⟨_,hv⟩,blk,_,hb,hsG_at (hg _ _ h) h,by simp,Nat.zero_le _,fun _ _=>⟨x,len,cap,sz,rs,S,rfl,hn,hv⟩⟩
 |.ls j o,n,_,⟨hf,x,len,cap,sz,rs,S,h,h0c,hc⟩=>by
  obtain ⟨blk,hb,h0,hsz⟩:=hb j (hg _ _ h)
  refine ⟨hf,blk,_,hb,hsG_at (hg _ _ h) h,by simp,Nat.zero_le _,fun _ m sz' xs hcont=>⟨Nat.zero_le _,fun _ _ _=>?_⟩⟩
  have e:=hsz m sz' xs _ _ _ _ _ _ hcont h
  subst e
  exact ⟨x,len,cap,rs,S,_,rfl,h0c,hc,rfl⟩
theorem CellsR.rel {g:List (Nat × Hd)} {b2:List Blk} {n:Nat} (hM:∀ x,M x→N x) (hg:∀ j h,gfind g j=some h→j < n) (hb:∀ j,j < n→∃ blk,b2[j]? = some blk∧blk.ver=0∧∀ m sz xs base len cap sz' rs S,cont blk.body=some (m,sz,xs)→gfind g j=some (.arr base len cap sz' rs S)→sz'=sz) :
  ∀ {l:List Kd} {y:KsT l} {vs:List Value},CellsR N w g l y vs→AsRel M w (hsG g n) b2 true (unCells l y) vs
 |[],_,_,h=>h
 |_ :: _,_,_,⟨u,us,hv,h,hf,k⟩=>⟨u,us,hv,VR.rel hM hg hb h,fun _=>hf,CellsR.rel hM hg hb k⟩
theorem unrel (vs:List Value):AsRel N w μ b false (List.replicate vs.length .un) vs:=by
 induction vs with
 |nil=>rfl
 |cons v r ih=>exact ⟨v,r,rfl,trivial,by simp,ih⟩
theorem SlotsR.rel {g:List (Nat × Hd)} {b2:List Blk} {n:Nat} {a:Act} (hM:∀ x,M x→N x) (hg:∀ j h,gfind g j=some h→j < n) (hb:∀ j,j < n→∃ blk,b2[j]? = some blk∧blk.ver=0∧∀ m sz xs base len cap sz' rs S,cont blk.body=some (m,sz,xs)→gfind g j=some (.arr base len cap sz' rs S)→sz'=sz) :
  ∀ {l:List (Nat × Kd)} {y:SsT l} {t:List AVal},SlotsR N w g a l y→TRel M w (hsG g n) b2 t a→TRel M w (hsG g n) b2 (unSlots l y t) a
 |[],_,t,_,ht=>ht
 |(i,kd) :: r,y,t,⟨⟨v,hv,h⟩,k⟩,ht=>SlotsR.rel (l:=r) (y:=y.2) hM hg hb k (ht.set i fun v' hv'=>by rw [hv] at hv';cases hv';exact VR.rel hM hg hb h)
theorem packK_sound {np:Nat} {ks:LK} {s:St} {a:Act} {K:ks.T→Option R'} (R:Rel F w μ s.b) (ht:TRel (Or F (Own μ s.b)) w μ s.b s.t a) (hnp:np ≤ s.b.length) (h:packK np ks s K=some r) :
  ∃ p μ2,K p=some r∧NowL np F w μ s.b w μ2 (unpack a.tmps.size ks p).b∧TRel (Or F (Own μ2 (unpack a.tmps.size ks p).b)) w μ2 (unpack a.tmps.size ks p).b (unpack a.tmps.size ks p).t a:=by
 unfold packK at h
 obtain ⟨hn,h⟩:=br_none h
 simp only [decide_eq_true_eq] at hn
 obtain ⟨x,m1,g1,h,B1,e1,hx⟩:=packSlots_sound R ht (BG.init (sz:=szOfK ks.blks) (by rw [R.len];exact hnp)) h
 obtain ⟨y,m2,g2,h,B2,e2,hy⟩:=packBlks_sound R B1 h
 obtain ⟨hall,h⟩:=br_none h
 replace hx:=SlotsR.ext e2 hx
 have hg:∀ j h,gfind g2 j=some h→j < ks.blks.length:=by
  intro j h hj
  have:m2.find j ≠ none:=fun e=>by rw [(B2.keys j).1 e] at hj;cases hj
  obtain ⟨z,hz⟩:=Option.ne_none_iff_exists'.1 this
  obtain ⟨p,hp,e⟩:=find_mem hz
  have:=List.all_eq_true.1 hall p hp
  simp at this;omega
 have hb2:∀ j,j < ks.blks.length→∃ blk,(unBlks ks.blks y)[j]? = some blk∧blk.ver=0∧∀ m sz xs base len cap sz' rs S,cont blk.body=some (m,sz,xs)→gfind g2 j=some (.arr base len cap sz' rs S)→sz'=sz:=by
  intro j hj
  have hj':j < (unBlks ks.blks y).length:=by rw [unBlks_len];exact hj
  have hb:=List.getElem?_eq_getElem hj'
  refine ⟨_,hb,unBlks_ver hb,?_⟩
  intro m sz0 xs0 base0 len0 cap0 sz' rs0 S0 hcont hgf
  rcases blks_at hy hb with (⟨hbd,_⟩ | ⟨d,f,sz,xs,hl,hbd,⟨i,ver,sv,hi,hbi⟩ | ⟨hi,_,_⟩⟩) | ⟨ks',y',hbd,_⟩
  ·rw [hbd] at hcont;cases hcont
  ·rw [hbd] at hcont
   simp only [cont,Option.some.injEq,Prod.mk.injEq] at hcont
   rw [Nat.zero_add] at hi
   obtain ⟨h0,hg0,hm0⟩:=B2.bound j i hi
   obtain ⟨base,cap,rs,S,h1,_⟩:=R.blk i _ _ hbi hm0
   rw [hg0,h1] at hgf
   cases hgf
   exact hcont.2.1
  ·rw [hbd] at hcont
   simp only [cont,Option.some.injEq,Prod.mk.injEq] at hcont
   rw [Nat.zero_add] at hi
   obtain ⟨base,hg0⟩:=B2.fresh j hi
   rw [hg0] at hgf
   cases hgf
   have:szOfK ks.blks j=sz:=by simp [szOfK,hl]
   rw [this];exact hcont.2.1
  ·rw [hbd] at hcont;cases hcont
 have own:∀ (j:Nat) (blk:Blk) (hd:Hd) (z:Nat),(unBlks ks.blks y)[j]? = some blk→alive blk.body=true→(hsG g2 ks.blks.length)[j]? = some hd→z ∈ hd.own→
   ∃ (i:Nat) (blk':Blk),m2.find j=some (some i)∧s.b[i]? = some blk'∧alive blk'.body=true∧μ[i]? = some hd:=by
  intro j blk hd z hb ha hm ho
  obtain ⟨hj,rfl⟩:=hsG_get hm
  rcases blks_at hy hb with (⟨rfl,_⟩ | ⟨d,f,sz,xs,hl,rfl,⟨i,ver,sv,hi,hbi⟩ | ⟨hi,_⟩⟩) | ⟨ks',y',rfl,i,ver,cs,x',vs,e,hi,hbi,hgx,_⟩
  ·cases ha
  ·rw [Nat.zero_add] at hi
   obtain ⟨h0,hg0,hm0⟩:=B2.bound j i hi
   exact ⟨i,_,hi,hbi,rfl,by rw [hg0];exact hm0⟩
  ·rw [Nat.zero_add] at hi
   obtain ⟨base,hg0⟩:=B2.fresh j hi
   rw [hg0] at ho
   simp only [Option.getD_some] at ho
   rw [own_arr0] at ho
   cases ho
  ·rw [Nat.zero_add] at hi
   obtain ⟨h0,hg0,hm0⟩:=B2.bound j i hi
   exact ⟨i,_,hi,hbi,rfl,by rw [hg0];exact hm0⟩
 have sub:∀ z,Own (hsG g2 ks.blks.length) (unBlks ks.blks y) z→Own μ s.b z:=by
  rintro z ⟨j,blk,hd,hb,ha,hm,ho⟩
  obtain ⟨i,blk',_,h1,h2,h3⟩:=own j blk hd z hb ha hm ho
  exact ⟨i,blk',hd,h1,h2,h3,ho⟩
 have hM:∀ z,Or F (Own (hsG g2 ks.blks.length) (unBlks ks.blks y)) z→Or F (Own μ s.b) z:=fun z hz=>hz.imp id (sub z)
 have hself:∀ j,j < np→skipG s.b ks.blks j=false→m2.find j=some (some j):=fun j hj hs=>e2.m _ _ (e1.m _ _ (by
   rw [show (bind0 s.b ks.blks np).find j=if j ∈ (List.range np).filter (fun j=>!skipG s.b ks.blks j) then some (some j) else none from find_map (f:=some)]
   simp [hj,hs]))
 refine ⟨(x,y),hsG g2 ks.blks.length,h,⟨⟨?_,?_,?_,fun z hz=>R.fres z (sub z hz),R.fbk,fun z hz=>R.oid z (sub z hz)⟩,?_,fun z hz=>⟨(R.fres z (sub z hz)).2,.inr (sub z hz)⟩,.refl _ _,?_,?_⟩,?_⟩
 ·simp [hsG,unpack,unBlks_len]
 ·intro j blk hd hb hm
  obtain ⟨hj,rfl⟩:=hsG_get hm
  rcases blks_at hy hb with (⟨rfl,_⟩ | ⟨d,f,sz,xs,hl,rfl,⟨i,ver,sv,hi,hbi⟩ | ⟨hi,rfl,rfl⟩⟩) | ⟨ks',y',rfl,i,ver,cs,x',vs,e,hi,hbi,hgx,hw,hc⟩
  ·trivial
  ·rw [Nat.zero_add] at hi
   obtain ⟨h0,hg0,hm0⟩:=B2.bound j i hi
   obtain ⟨base,cap,rs,S,h1,h2,h3⟩:=R.blk i _ _ hbi hm0
   rw [hg0]
   exact ⟨base,cap,rs,S,h1,h2,h3.imp id fun ⟨z,cells,e,k1,k2,k3,k4,k5,k6,k7⟩=>⟨z,cells,e,k1,k2,k3,k4,k5,k6,GEl.keep (Keep.sub hM) rfl (fun _ _=>rfl) k7⟩⟩
  ·rw [Nat.zero_add] at hi
   obtain ⟨base,hg0⟩:=B2.fresh j hi
   rw [hg0]
   have:szOfK ks.blks j=sz:=by simp [szOfK,hl]
   exact ⟨base,0,0,[],by rw [this];rfl,Nat.le_refl _,.inl ⟨rfl,rfl⟩⟩
  ·rw [Nat.zero_add] at hgx
   rw [hgx]
   exact ⟨x',vs,e,rfl,hw,CellsR.rel hM hg hb2 hc⟩
 ·intro j j' blk blk' hd hd' z hb hb' ha ha' hm hm' ho ho'
  obtain ⟨i,bi,hi,h1,h2,h3⟩:=own j blk hd z hb ha hm ho
  obtain ⟨i',bi',hi',h1',h2',h3'⟩:=own j' blk' hd' z hb' ha' hm' ho'
  have:=R.inj i i' bi bi' hd hd' z h1 h1' h2 h2' h3 h3' ho ho'
  subst this
  exact B2.inj j j' i hi hi'
 ·intro j z hj hm
  have hs:skipG s.b ks.blks j=false:=by
   cases hs:skipG s.b ks.blks j with
   |false=>rfl
   |true=>
    obtain ⟨ver,m,sz,xs,hb,_⟩:=skipG_of hs
    obtain ⟨base,cap,rs,S,e,_⟩:=R.blk j _ _ hb hm
    cases e
  obtain ⟨h0,hg0,hm0⟩:=B2.bound j j (hself j hj hs)
  rw [hm] at hm0;cases hm0
  exact hsG_at (by omega) hg0
 ·simp [unpack,unBlks_len];exact hn
 ·intro j blk hh hj hb hm hf
  have hs:skipG s.b ks.blks j=false:=by
   cases hs:skipG s.b ks.blks j with
   |false=>rfl
   |true=>
    obtain ⟨ver,m,sz,xs,hb',hfx⟩:=skipG_of hs
    rw [hb] at hb';cases hb'
    rcases hf with hf | hf
    ·simp [isFix,hfx] at hf
    ·cases hf
  have hjl:j < (unBlks ks.blks y).length:=by rw [unBlks_len];omega
  obtain ⟨h0,hg0,hm0⟩:=B2.bound j j (hself j hj hs)
  rw [hm] at hm0;cases hm0
  refine ⟨_,hh,List.getElem?_eq_getElem hjl,hsG_at (by omega) hg0,rfl,?_⟩
  rcases blks_at hy (List.getElem?_eq_getElem hjl) with (⟨e,_⟩ | ⟨d,f,sz,xs,hl,e,⟨i,ver,sv,hi,hbi⟩ | ⟨hi,_⟩⟩) | ⟨ks',y',e,i,ver,cs,x',vs,_,hi,hbi,hgx,_⟩
  ·rw [e];exact .inr rfl
  ·rw [Nat.zero_add,hself j hj hs] at hi
   simp at hi;subst hi
   rw [hb] at hbi;cases hbi
   rw [e]
   rcases hf with hf | hf
   ·exact .inl hf
   ·cases hf
  ·rw [Nat.zero_add,hself j hj hs] at hi
   cases hi
  ·rw [Nat.zero_add,hself j hj hs] at hi
   simp at hi;subst hi
   rw [hb] at hbi;cases hbi
   rcases hf with hf | hf<;>cases hf
 ·refine SlotsR.rel hM hg hb2 hx ⟨?_,ht.2⟩
  have:=unrel (N:=Or F (Own (hsG g2 ks.blks.length) (unBlks ks.blks y))) (w:=w) (μ:=hsG g2 ks.blks.length) (b:=unBlks ks.blks y) a.tmps.toList
  simpa using this
end
end Go.Proofs.Ytognghbhdalckaa.Abs
namespace Go.Proofs.Ytognghbhdalckaa.Abs
open Go
variable [Glob]
section
variable {P:Program} {w:World} {F N M:Nat→Prop} {μ:List Hd} {b:List Blk} {R':Type} {r:R'}
structure RetP (P:Program) (fn:Func) (rm:Option Nat) (ow:Option (List TypeId)) (np:List PSh) (F:Nat→Prop) (w:World) (μ:List Hd) (b:List Blk) (ret:Ret) (a:Act) (w':World):Prop where
 defers:a.defers=[]
 out:∃ v μ' S,(results fn a.tmps).run P w'=.ok v w'∧NowL np.length (FS F S) w μ b w' μ' (endS np ret.2)∧ret.2.length=np.length∧S.Nodup∧
  (∀ x ∈ S,x < w'.heap.size∧¬ F x∧¬ Glob.ids x∧(w.heap.size ≤ x∨Own μ b x))∧
  match ow with
  |some ts=>DR P (Or (FS F S) (Own μ' (endS np ret.2))) w' ts S ret.1 v
  |none=>S=[]∧match rm with
   |none=>CRel (Or F (Own μ' (endS np ret.2))) w' ret.1 v
   |some j=>∃ (h:Hd) (m:Md) (sz:Nat),μ'[j]? = some h∧np[j]? = some (.arr m false sz)∧v=h.val
theorem RetP.pre {fn:Func} {rm:Option Nat} {ow:Option (List TypeId)} {np:List PSh} {ret:Ret} {a:Act} {w1 w':World} {μ1:List Hd} {b1:List Blk} (h:NowL np.length F w μ b w1 μ1 b1)
  (k:RetP P fn rm ow np F w1 μ1 b1 ret a w'):RetP P fn rm ow np F w μ b ret a w':=by
 obtain ⟨hd,v,μ',S,h1,h2,h3,h4,h5,h6⟩:=k
 refine ⟨hd,v,μ',S,h1,h.trans h2,h3,h4,fun x hx=>?_,h6⟩
 obtain ⟨g1,g2,g3,g4⟩:=h5 x hx
 refine ⟨g1,g2,g3,?_⟩
 rcases g4 with g4 | g4
 ·exact .inl (Nat.le_trans h.fr.size g4)
 ·exact (h.own x g4).2
theorem run_mapM' {α β:Type} (f:α→Sem β):∀ (l:List α) (vs:List β),vs.length=l.length→(∀ (i:Nat) (x:α) (v:β),l[i]? = some x→vs[i]? = some v→(f x).run P w=.ok v w)→(l.mapM f).run P w=.ok vs w
 |[],[],_,_=>by simp
 |[],_ :: _,h,_=>by simp at h
 |_ :: _,[],h,_=>by simp at h
 |x :: r,v :: vs,hl,h=>by
  have ih:=run_mapM' f r vs (by simpa using hl) fun i y u hy hu=>h (i + 1) y u (by simpa using hy) (by simpa using hu)
  simp [List.mapM_cons,h 0 x v rfl rfl,ih]
def resultOf (tmps:Array Value):ResultVar→Sem Value
 |.tmp t=>pure (tmps.getD t undef)
 |.cell a t=>do loadVar t (← asAddr (tmps.getD a undef))
theorem resultOf_cell {ad ty:Nat} {a:Act} {u:Value} (hu:(Instr.loadAt ty (a.eval (.tmp ad))).run P w=.ok u w):(resultOf a.tmps (.cell ad ty)).run P w=.ok u w:=by
 simp only [resultOf]
 simp only [Instr.loadAt,Act.eval] at hu
 generalize a.tmps.getD ad undef=v at hu ⊢
 cases v with
 |pointer p=>
  cases p with
  |none=>simp [Instr.sureAddr,stuck] at hu
  |some ad=>exact hu
 |_=>simp [Instr.sureAddr,stuck] at hu
theorem finVals_sound {E:Env} {t:List AVal} {a:Act}:∀ {l:List (ResultVar × TypeId)} {b:List Blk} {K:List CVal→List Blk→Option R'},Rel F w μ b→TRel (Or F (Own μ b)) w μ b t a→finVals E t l b K=some r→
  ∃ cs b' vs,K cs b'=some r∧Sub b' b∧Upd F w μ b w μ b'∧Rel F w μ b'∧vs.length=l.length∧(∀ (i:Nat) (x:ResultVar × TypeId) (v:Value),l[i]? = some x→vs[i]? = some v→(resultOf a.tmps x.1).run E.P w=.ok v w)∧
   CsRel (Or F (Own μ b')) w false cs vs
 |[],b,K,R,ht,h=>⟨[],b,[],h,.refl _,.refl R,R,rfl,(fun i x v hi _=>by simp at hi),rfl⟩
 |(.tmp i,ty) :: rest,b,K,R,ht,h=>by
  simp only [finVals] at h
  have hev:=ht.eval (.tmp i)
  simp only [evalA] at hev
  obtain ⟨c,b1,h,s1,U1,R1,hc⟩:=closeRK_sound R hev h
  obtain ⟨cs,b',vs,h,s2,U2,R2,hl,hrun,hcs⟩:=finVals_sound R1 (TRel.upd U1 ht) h
  refine ⟨c :: cs,b',a.eval (.tmp i) :: vs,h,s2.trans s1,U1.trans U2,R2,by simp [hl],fun j x v hj hv=>?_,_,_,rfl,CRel.keep (Keep.sub fun z hz=>hz.imp id fun ho=>s2.own ho) hc,by simp,hcs⟩
  cases j with
  |zero=>simp at hj hv;subst hj hv;rfl
  |succ j=>exact hrun j x v (by simpa using hj) (by simpa using hv)
 |(.cell ad ty',ty) :: rest,b,K,R,ht,h=>by
  simp only [finVals] at h
  have hev:=ht.eval (.tmp ad)
  simp only [evalA] at hev
  obtain ⟨x,h,u,hu,hx⟩:=loadK_sound R hev h
  obtain ⟨c,b1,h,s1,U1,R1,hc⟩:=closeRK_sound R hx h
  obtain ⟨cs,b',vs,h,s2,U2,R2,hl,hrun,hcs⟩:=finVals_sound R1 (TRel.upd U1 ht) h
  refine ⟨c :: cs,b',u :: vs,h,s2.trans s1,U1.trans U2,R2,by simp [hl],fun j x v hj hv=>?_,_,_,rfl,CRel.keep (Keep.sub fun z hz=>hz.imp id fun ho=>s2.own ho) hc,by simp,hcs⟩
  cases j with
  |zero=>simp at hj hv;subst hj hv;exact resultOf_cell hu
  |succ j=>exact hrun j x v (by simpa using hj) (by simpa using hv)
theorem DTs.cons {E:Env} {t:TypeId} {ts:List TypeId} {S S2:List Nat} {c:CVal} {l:List CVal} {u:Value} {us:List Value} (h:DTp P t N w S c u) (k:DTs P N w ts S2 l us):DTs P N w (t :: ts) (S ++ S2) (c :: l) (u :: us):=
 ⟨S,S2,c,l,u,us,rfl,rfl,rfl,h,k⟩
theorem finOwn_sound {E:Env} {t:List AVal} {a:Act}:∀ {l:List (ResultVar × TypeId)} {F:Nat→Prop} {b:List Blk} {K:List CVal→List Blk→Option R'},Rel F w μ b→TRel (Or F (Own μ b)) w μ b t a→finOwn E t l b K=some r→
  ∃ cs b' vs S,K cs b'=some r∧Taken F w μ b S b'∧vs.length=l.length∧(∀ (i:Nat) (x:ResultVar × TypeId) (v:Value),l[i]? = some x→vs[i]? = some v→(resultOf a.tmps x.1).run E.P w=.ok v w)∧
   DTs E.P (Or (FS F S) (Own μ b')) w (l.map (·.2)) S cs vs
 |[],F,b,K,R,ht,h=>⟨[],b,[],[],h,.nil R,rfl,(fun i x v hi _=>by simp at hi),rfl,rfl,rfl⟩
 |(rv,ty) :: rest,F,b,K,R,ht,h=>by
  have key:∀ {x:AVal} {u:Value},ARel (Or F (Own μ b)) w μ b x u→(resultOf a.tmps rv).run E.P w=.ok u w→(takePK E.P ty x b fun c b=>finOwn E t rest b fun cs b=>K (c :: cs) b)=some r→
    ∃ cs b' vs S,K cs b'=some r∧Taken F w μ b S b'∧vs.length=((rv,ty) :: rest).length∧(∀ (i:Nat) (x:ResultVar × TypeId) (v:Value),((rv,ty) :: rest)[i]? = some x→vs[i]? = some v→(resultOf a.tmps x.1).run E.P w=.ok v w)∧
     DTs E.P (Or (FS F S) (Own μ b')) w (((rv,ty) :: rest).map (·.2)) S cs vs:=by
   intro x u hx hu h
   obtain ⟨c,b1,S,h,T1,hd⟩:=takePK_sound R hx h
   obtain ⟨cs,b',vs,S2,h,T2,hl,hrun,hds⟩:=finOwn_sound T1.rel ⟨AsRel.upd T1.upd ht.1,ht.2⟩ h
   refine ⟨c :: cs,b',u :: vs,S ++ S2,h,T1.trans T2,by simp [hl],fun j x v hj hv=>?_,?_⟩
   ·cases j with
    |zero=>simp at hj hv;subst hj hv;exact hu
    |succ j=>exact hrun j x v (by simpa using hj) (by simpa using hv)
   ·rw [← FS_append]
    exact DTs.cons (E:=E) (hd.keep T2.upd.keep fun _ _=>rfl) hds
  cases rv with
  |tmp i=>
   simp only [finOwn] at h
   have hev:=ht.eval (.tmp i)
   simp only [evalA] at hev
   exact key hev rfl h
  |cell ad ty'=>
   simp only [finOwn] at h
   have hev:=ht.eval (.tmp ad)
   simp only [evalA] at hev
   obtain ⟨x,h,u,hu,hx⟩:=loadK_sound R hev h
   exact key hx (resultOf_cell hu) h
def F2 (P:Nat→Blk→Prop):List Nat→List Blk→Prop
 |[],[]=>True
 |i :: l,x :: m=>P i x∧F2 P l m
 |_,_=>False
theorem F2.append {P:Nat→Blk→Prop}:∀ {l l':List Nat} {m m':List Blk},F2 P l m→F2 P l' m'→F2 P (l ++ l') (m ++ m')
 |[],_,[],_,_,h=>h
 |[],_,_ :: _,_,h,_=>h.elim
 |_ :: _,_,[],_,h,_=>h.elim
 |_ :: _,_,_ :: _,_,h,k=>⟨h.1,F2.append h.2 k⟩
theorem F2.len {P:Nat→Blk→Prop}:∀ {l:List Nat} {m:List Blk},F2 P l m→l.length=m.length
 |[],[],_=>rfl
 |[],_ :: _,h=>h.elim
 |_ :: _,[],h=>h.elim
 |_ :: _,_ :: _,h=>by simp [F2.len h.2]
theorem F2.get {P:Nat→Blk→Prop}:∀ {l:List Nat} {m:List Blk} {t:Nat} {x:Blk},F2 P l m→m[t]? = some x→∃ i,l[t]? = some i∧P i x
 |[],[],_,_,_,h=>by simp at h
 |[],_ :: _,_,_,h,_=>h.elim
 |_ :: _,[],_,_,h,_=>h.elim
 |i :: _,y :: _,0,x,h,e=>by simp at e;subst e;exact ⟨i,rfl,h.1⟩
 |i :: _,y :: _,t + 1,x,h,e=>by simpa using F2.get h.2 (by simpa using e)
def XOk (b':List Blk) (i:Nat) (x:Blk):Prop:=∀ blk,b'[i]? = some blk→alive blk.body=true→∃ ver m sz xs,blk=⟨ver,.arr m sz xs⟩∧m.deep=true∧m.fix=false∧x=⟨0,.arr ⟨true,false,0⟩ sz xs⟩
def ids1 (q:List (Option (Nat × Nat))):List Nat:=q.filterMap fun x=>x.map (·.1)
def FCells (N:Nat→Prop) (w:World) (μ:List Hd) (b':List Blk):List (Option Nat)→List CVal→List (Option (Nat × Nat))→List Value→Prop
 |[],l,q,vs=>l=[]∧q=[]∧vs=[]
 |some sz :: o,l,q,vs=>∃ xs l' i ver q' u us h,l=.sl xs :: l'∧q=some (i,ver) :: q'∧vs=u :: us∧XOk b' i ⟨0,.arr ⟨true,false,0⟩ sz xs⟩∧μ[i]? = some h∧h ≠ .none∧u=h.val∧flat u=true∧FCells N w μ b' o l' q' us
 |none :: o,l,q,vs=>∃ c l' q' u us,l=c :: l'∧q=none :: q'∧vs=u :: us∧CRel N w c u∧flat u=true∧FCells N w μ b' o l' q' us
theorem XOk.sub {b' b'':List Blk} (s:Sub b'' b') {i:Nat} {x:Blk} (h:XOk b' i x):XOk b'' i x:=fun blk hb ha=>h blk (s.at_ i blk hb ha) ha
theorem FCells.sub {N N':Nat→Prop} {b' b'':List Blk} (s:Sub b'' b') (K:Keep N N' w w):∀ {o:List (Option Nat)} {l:List CVal} {q:List (Option (Nat × Nat))} {vs:List Value},FCells N w μ b' o l q vs→FCells N' w μ b'' o l q vs
 |[],_,_,_,h=>h
 |some sz :: o,_,_,_,⟨xs,l',i,ver,q',u,us,h,e1,e2,e3,hx,hm,hn,hv,hf,hr⟩=>⟨xs,l',i,ver,q',u,us,h,e1,e2,e3,hx.sub s,hm,hn,hv,hf,FCells.sub s K hr⟩
 |none :: o,_,_,_,⟨c,l',q',u,us,e1,e2,e3,hc,hf,hr⟩=>⟨c,l',q',u,us,e1,e2,e3,CRel.keep K hc,hf,FCells.sub s K hr⟩
theorem FCells.ext {b':List Blk}:∀ {o:List (Option Nat)} {l:List CVal} {q:List (Option (Nat × Nat))} {vs:List Value} {n:Nat},FCells N w μ b' o l q vs→F2 (XOk b') (ids1 q) (endCells o l n).2
 |[],_,_,_,_,⟨e1,e2,e3⟩=>by subst e1 e2;exact trivial
 |some sz :: o,_,_,_,n,⟨xs,l',i,ver,q',u,us,h,e1,e2,e3,hx,hm,hn,hv,hf,hr⟩=>by
  subst e1 e2
  exact ⟨hx,FCells.ext hr⟩
 |none :: o,_,_,_,n,⟨c,l',q',u,us,e1,e2,e3,hc,hf,hr⟩=>by
  subst e1 e2
  show F2 (XOk b') (ids1 q') (endCells o l' n).2
  exact FCells.ext hr
theorem FCells.rel {b' es:List Blk} {μ':List Hd} {N':Nat→Prop} (K:Keep N N' w w):∀ {o:List (Option Nat)} {l:List CVal} {q:List (Option (Nat × Nat))} {vs:List Value} {n:Nat},FCells N w μ b' o l q vs→
  (∀ s i,(ids1 q)[s]? = some i→∃ blk h,es[n + s]? = some blk∧blk.ver=0∧μ'[n + s]? = some h∧μ[i]? = some h)→AsRel N' w μ' es true (endCells o l n).1 vs
 |[],_,_,_,_,⟨e1,e2,e3⟩,_=>by subst e1 e2 e3;exact rfl
 |some sz :: o,_,_,_,n,⟨xs,l',i,ver,q',u,us,h,e1,e2,e3,hx,hm,hn,hv,hf,hr⟩,hat=>by
  subst e1 e2 e3
  obtain ⟨blk,h',g1,g2,g3,g4⟩:=hat 0 i rfl
  rw [hm] at g4;cases g4
  refine ⟨u,us,rfl,⟨hf,blk,h,g1,g3,hn,Nat.zero_le _,fun _ _=>hv⟩,fun _=>hf,FCells.rel K hr fun s i hs=>?_⟩
  have:=hat (s + 1) i (by simpa [ids1] using hs)
  rwa [show n + (s + 1)=n + 1 + s by omega] at this
 |none :: o,_,_,_,n,⟨c,l',q',u,us,e1,e2,e3,hc,hf,hr⟩,hat=>by
  subst e1 e2 e3
  exact ⟨u,us,rfl,CRel.keep K hc,fun _=>hf,FCells.rel K hr fun s i hs=>hat s i (by simpa [ids1] using hs)⟩
theorem finCells_sound:∀ {o:List (Option Nat)} {cs:List AVal} {b:List Blk} {vs:List Value} {K:List CVal→List (Option (Nat × Nat))→List Blk→Option R'},Rel F w μ b→AsRel (Or F (Own μ b)) w μ b true cs vs→finCells o cs b K=some r→
  ∃ l q b',K l q b'=some r∧Sub b' b∧Upd F w μ b w μ b'∧Rel F w μ b'∧FCells (Or F (Own μ b')) w μ b' o l q vs
 |[],[],b,vs,K,R,ha,h=>⟨[],[],b,by simpa [finCells] using h,.refl _,.refl R,R,rfl,rfl,ha⟩
 |[],_ :: _,b,vs,K,R,ha,h=>by simp [finCells] at h
 |some sz :: o,[],b,vs,K,R,ha,h=>by simp [finCells] at h
 |none :: o,[],b,vs,K,R,ha,h=>by simp [finCells] at h
 |some sz :: o,x :: cs,b,vs,K,R,ha,h=>by
  obtain ⟨u,us,rfl,hx,hf,ha⟩:=ha
  simp only [finCells] at h
  split at h
  ·rename_i i ver
   obtain ⟨xs,hxs,h⟩:=bind_some' h
   obtain ⟨hc,h⟩:=br_none h
   obtain ⟨m,sz',base,cap,rs,S,rfl,hb,hm,hmd,hszb,_⟩:=R.arrAt hx hxs
   rw [hmd,hszb] at hc
   simp only [Bool.and_eq_true,Bool.not_eq_true',beq_iff_eq] at hc
   obtain ⟨⟨hdeep,hfix⟩,hsz⟩:=hc
   obtain ⟨l,q,b',h,s,U,R',hr⟩:=finCells_sound R ha h
   refine ⟨_,_,b',h,s,U,R',xs,l,i,ver,q,_,us,_,rfl,rfl,rfl,fun blk hb' ha'=>?_,hm,by simp,rfl,rfl,hr⟩
   have:=s.at_ _ _ hb' ha'
   rw [hb] at this;cases this
   exact ⟨ver,m,sz',xs,rfl,hdeep,hfix,by rw [hsz]⟩
  ·cases h
 |none :: o,x :: cs,b,vs,K,R,ha,h=>by
  obtain ⟨u,us,rfl,hx,hf,ha⟩:=ha
  simp only [finCells] at h
  obtain ⟨c,hc,h⟩:=bind_some' h
  obtain ⟨U,R1⟩:=killA_upd x R
  have hcl:=closeA_sound R (killA_sub x b) hc hx (killA_dead x b)
  obtain ⟨l,q,b',h,s,U2,R2,hr⟩:=finCells_sound R1 (AsRel.upd U ha) h
  exact ⟨_,_,b',h,s.trans (killA_sub x b),U.trans U2,R2,c,l,q,u,us,rfl,rfl,rfl,CRel.keep (Keep.sub fun z hz=>hz.imp id fun ho=>s.own ho) hcl,hf rfl,hr⟩
def FB1 (N:Nat→Prop) (w:World) (μ:List Hd) (b':List Blk) (j:Nat) (p:PSh) (l:List CVal) (q:List (Option (Nat × Nat))):Prop:=
 match p with
 |.arr m true sz=>q=[]
 |.arr m false sz=>q=[]∧∀ blk,b'[j]? = some blk→alive blk.body=true→∃ ver m',blk=⟨ver,.arr m' sz l⟩∧m'.deep=m.deep∧m'.fix=m.fix
 |.box o=>∃ x vs e,μ[j]? = some (.box x)∧w.heap[x]? = some (.cells (List.toArray vs) e (0,0))∧FCells N w μ b' o l q vs
def FBs (N:Nat→Prop) (w:World) (μ:List Hd) (b':List Blk):Nat→List PSh→List (List CVal)→List (List (Option (Nat × Nat)))→Prop
 |_,[],ls,qs=>ls=[]∧qs=[]
 |j,p :: ps,ls,qs=>∃ l ls' q qs',ls=l :: ls'∧qs=q :: qs'∧FB1 N w μ b' j p l q∧FBs N w μ b' (j + 1) ps ls' qs'
theorem FB1.ext {b':List Blk} {j n:Nat} {p:PSh} {l:List CVal} {q:List (Option (Nat × Nat))} (h:FB1 N w μ b' j p l q):F2 (XOk b') (ids1 q) (endB p l n).2:=by
 cases p with
 |arr m g sz=>
  cases g with
  |true=>have:q=[]:=h;subst this;exact trivial
  |false=>have:q=[]:=h.1;subst this;exact trivial
 |box o=>
  obtain ⟨x,vs,e,_,_,hc⟩:=h
  exact hc.ext
theorem FBs.ext {b':List Blk}:∀ {ps:List PSh} {j n:Nat} {ls:List (List CVal)} {qs:List (List (Option (Nat × Nat)))},FBs N w μ b' j ps ls qs→F2 (XOk b') (ownIds qs) (endM ps ls n).2
 |[],_,_,_,_,⟨e1,e2⟩=>by subst e1 e2;exact trivial
 |p :: ps,j,n,_,_,⟨l,ls',q,qs',e1,e2,h1,h2⟩=>by
  subst e1 e2
  have:=F2.append (h1.ext (n:=n)) (FBs.ext (n:=n + (endB p l n).2.length) h2)
  have e:ownIds (q :: qs')=ids1 q ++ ownIds qs':=by simp [ownIds,ids1,List.filterMap_append]
  rw [e]
  exact this
theorem FBs.len {b':List Blk}:∀ {ps:List PSh} {j:Nat} {ls:List (List CVal)} {qs:List (List (Option (Nat × Nat)))},FBs N w μ b' j ps ls qs→ls.length=ps.length
 |[],_,_,_,⟨e1,e2⟩=>by subst e1;rfl
 |p :: ps,j,_,_,⟨l,ls',q,qs',e1,e2,h1,h2⟩=>by subst e1;simp [FBs.len h2]
theorem FBs.at_ {b':List Blk}:∀ {ps:List PSh} {j:Nat} {ls:List (List CVal)} {qs:List (List (Option (Nat × Nat)))} {k:Nat} {p:PSh},FBs N w μ b' j ps ls qs→ps[k]? = some p→
  ∃ l q t,FB1 N w μ b' (j + k) p l q∧(∀ n,(endM ps ls n).1[k]? = some (endB p l (n + t)).1)∧∀ s i,(ids1 q)[s]? = some i→(ownIds qs)[t + s]? = some i
 |[],_,_,_,_,_,_,h=>by simp at h
 |p :: ps,j,_,_,0,p',⟨l,ls',q,qs',e1,e2,h1,h2⟩,h=>by
  subst e1 e2
  simp at h;subst h
  refine ⟨l,q,0,h1,fun n=>by simp [endM],fun s i hs=>?_⟩
  have e:ownIds (q :: qs')=ids1 q ++ ownIds qs':=by simp [ownIds,ids1,List.filterMap_append]
  rw [e,Nat.zero_add,List.getElem?_append_left (List.getElem?_eq_some_iff.1 hs).1]
  exact hs
 |p :: ps,j,_,_,k + 1,p',⟨l,ls',q,qs',e1,e2,h1,h2⟩,h=>by
  subst e1 e2
  obtain ⟨l2,q2,t,g1,g2,g3⟩:=FBs.at_ h2 (k:=k) (by simpa using h)
  rw [show j + 1 + k=j + (k + 1) by omega] at g1
  refine ⟨l2,q2,(endB p l 0).2.length + t,g1,fun n=>?_,fun s i hs=>?_⟩
  ·simp only [endM,List.getElem?_cons_succ]
   rw [g2,endB_ext (q:=n) (q':=0),Nat.add_assoc]
  ·have e:ownIds (q :: qs')=ids1 q ++ ownIds qs':=by simp [ownIds,ids1,List.filterMap_append]
   have el:=(h1.ext (n:=0)).len
   rw [e,List.getElem?_append_right (by omega),← g3 s i hs]
   congr 1;omega
theorem FB1.sub {N N':Nat→Prop} {b' b'':List Blk} (s:Sub b'' b') (K:Keep N N' w w) {j:Nat} {p:PSh} {l:List CVal} {q:List (Option (Nat × Nat))} (h:FB1 N w μ b' j p l q):FB1 N' w μ b'' j p l q:=by
 cases p with
 |arr m g sz=>
  cases g with
  |true=>exact h
  |false=>exact ⟨h.1,fun blk hb ha=>h.2 blk (s.at_ j blk hb ha) ha⟩
 |box o=>
  obtain ⟨x,vs,e,h1,h2,hc⟩:=h
  exact ⟨x,vs,e,h1,h2,hc.sub s K⟩
theorem finBlks_sound:∀ {np:List PSh} {j:Nat} {b:List Blk} {K:List (List CVal)→List (List (Option (Nat × Nat)))→List Blk→Option R'},Rel F w μ b→finBlks j np b K=some r→
  ∃ ls qs b',K ls qs b'=some r∧Sub b' b∧Upd F w μ b w μ b'∧Rel F w μ b'∧FBs (Or F (Own μ b')) w μ b' j np ls qs
 |[],j,b,K,R,h=>⟨[],[],b,h,.refl _,.refl R,R,rfl,rfl⟩
 |p :: rest,j,b,K,R,h=>by
  simp only [finBlks] at h
  split at h
  ·rename_i m sz
   obtain ⟨ls,qs,b',h,hs,U,R',hat⟩:=finBlks_sound R h
   exact ⟨_,_,b',h,hs,U,R',[],ls,[],qs,rfl,rfl,rfl,hat⟩
  ·rename_i m sz
   split at h
   ·rename_i ver m' sz' xs hb
    obtain ⟨hc,h'⟩:=br_none h
    clear h
    simp only [Bool.and_eq_true,beq_iff_eq] at hc
    obtain ⟨⟨hc1,hc2⟩,rfl⟩:=hc
    obtain ⟨ls,qs,b',h,hs,U,R',hat⟩:=finBlks_sound R h'
    refine ⟨_,_,b',h,hs,U,R',xs,ls,[],qs,rfl,rfl,⟨rfl,fun blk hb' ha=>?_⟩,hat⟩
    have:=hs.at_ _ _ hb' ha
    rw [hb] at this;cases this
    exact ⟨ver,m',rfl,hc1,hc2⟩
   ·cases h
  ·rename_i o
   split at h
   ·rename_i ver cs hb
    have hbox:boxOf b j=some cs:=by simp [boxOf,hb]
    obtain ⟨ver',x,vs,e,_,hm,hw,har,_⟩:=R.box hbox
    obtain ⟨l,q,b1,h,s1,U1,R1,hc⟩:=finCells_sound R har h
    obtain ⟨ls,qs,b',h,hs,U,R',hat⟩:=finBlks_sound R1 h
    exact ⟨_,_,b',h,hs.trans s1,U1.trans U,R',l,ls,q,qs,rfl,rfl,⟨x,vs,e,hm,hw,hc.sub hs (Keep.sub fun z hz=>hz.imp id fun ho=>hs.own ho)⟩,hat⟩
   ·cases h
end
end Go.Proofs.Ytognghbhdalckaa.Abs
namespace Go.Proofs.Ytognghbhdalckaa.Abs
open Go
variable [Glob]
section
variable {P:Program} {w:World} {F N M:Nat→Prop} {μ:List Hd} {b:List Blk} {R':Type} {r:R'}
theorem nodup_idx:∀ {l:List Nat} {j k i:Nat},l.Nodup→l[j]? = some i→l[k]? = some i→j=k
 |[],j,_,_,_,h,_=>by simp at h
 |x :: r,0,0,_,_,_,_=>rfl
 |x :: r,0,k + 1,i,n,h,h'=>by
  simp at h h';subst h
  exact ((List.nodup_cons.1 n).1 (List.mem_of_getElem? h')).elim
 |x :: r,j + 1,0,i,n,h,h'=>by
  simp at h h';subst h'
  exact ((List.nodup_cons.1 n).1 (List.mem_of_getElem? h)).elim
 |x :: r,j + 1,k + 1,i,n,h,h'=>by
  have e:j=k:=nodup_idx (List.nodup_cons.1 n).2 (by simpa using h) (by simpa using h')
  rw [e]
def isGone:PSh→Bool
 |.arr _ true _=>true
 |_=>false
theorem goodMain_at {np:List PSh} (h:goodMain np b=true) {j:Nat} {p:PSh} (hj:np[j]? = some p) (hg:isGone p=false):∃ blk,b[j]? = some blk∧alive blk.body=true:=by
 have:=List.all_eq_true.1 h j (by simp;exact (List.getElem?_eq_some_iff.1 hj).1)
 rw [hj] at this
 refine aliveAt_some ?_
 cases p with
 |arr m g sz=>
  cases g with
  |true=>cases hg
  |false=>exact this
 |box o=>exact this
def endHs (n:Nat) (μ:List Hd) (l:List Nat):List Hd:=μ.take n ++ l.map fun i=>(μ[i]?).getD .none
theorem end_rel {np:List PSh} {ls:List (List CVal)} {qs:List (List (Option (Nat × Nat)))} (R:Rel F w μ b) (hnp:np.length ≤ b.length) (hB:FBs (Or F (Own μ b)) w μ b 0 np ls qs)
  (hm:goodMain np b=true) (hi:goodIds np.length np b (ownIds qs)=true) :
  NowL np.length F w μ b w (endHs np.length μ (ownIds qs)) (endS np ls):=by
 have hnμ:np.length ≤ μ.length:=by rw [R.len];exact hnp
 have hll:=hB.len
 have hml:(endM np ls np.length).1.length=np.length:=endM_len (by omega)
 have hF:=hB.ext (n:=np.length)
 have hxl:=hF.len
 simp only [goodIds,Bool.and_eq_true,decide_eq_true_eq] at hi
 obtain ⟨hnd,hids⟩:=hi
 have hid:∀ {t i:Nat},(ownIds qs)[t]? = some i→(∃ blk,b[i]? = some blk∧alive blk.body=true)∧(np.length ≤ i∨∃ p,np[i]? = some p∧isGone p=true):=by
  intro t i ht
  have:=List.all_eq_true.1 hids i (List.mem_of_getElem? ht)
  simp only [Bool.and_eq_true,Bool.or_eq_true,decide_eq_true_eq] at this
  refine ⟨aliveAt_some this.1,this.2.imp id fun h=>?_⟩
  split at h
  ·rename_i m sz hh;exact ⟨_,hh,rfl⟩
  ·cases h
 have es1:∀ {e:Nat},e < np.length→(endS np ls)[e]? = (endM np ls np.length).1[e]?:=fun he=>by
  unfold endS;rw [List.getElem?_append_left (by omega)]
 have es2:∀ t,(endS np ls)[np.length + t]? = (endM np ls np.length).2[t]?:=fun t=>by
  unfold endS;rw [List.getElem?_append_right (by omega)];congr 1;omega
 have eh1:∀ {e:Nat},e < np.length→(endHs np.length μ (ownIds qs))[e]? = μ[e]?:=fun he=>by
  unfold endHs;rw [List.getElem?_append_left (by rw [List.length_take];omega),List.getElem?_take_of_lt he]
 have eh2:∀ {t i:Nat},(ownIds qs)[t]? = some i→∃ h,μ[i]? = some h∧(endHs np.length μ (ownIds qs))[np.length + t]? = some h:=fun {t i} ht=>by
  obtain ⟨⟨blk,hb,_⟩,_⟩:=hid ht
  have hil:i < μ.length:=by rw [R.len];exact (List.getElem?_eq_some_iff.1 hb).1
  refine ⟨μ[i],List.getElem?_eq_getElem hil,?_⟩
  unfold endHs
  rw [List.getElem?_append_right (by rw [List.length_take];omega),List.length_take,Nat.min_eq_left hnμ,show np.length + t - np.length=t by omega,List.getElem?_map,ht]
  simp [hil]
 have hlen:(endS np ls).length=np.length + (ownIds qs).length:=by unfold endS;rw [List.length_append,hml,hxl]
 have hhlen:(endHs np.length μ (ownIds qs)).length=np.length + (ownIds qs).length:=by unfold endHs;simp;omega
 have get:∀ {e:Nat} {eb:Blk} {h:Hd},(endS np ls)[e]? = some eb→(endHs np.length μ (ownIds qs))[e]? = some h→alive eb.body=true→
   ∃ i blk,((e < np.length∧i=e∧∃ p,np[e]? = some p∧isGone p=false)∨∃ t,e=np.length + t∧(ownIds qs)[t]? = some i)∧b[i]? = some blk∧alive blk.body=true∧μ[i]? = some h∧
    ((∀ x,Or F (Own (endHs np.length μ (ownIds qs)) (endS np ls)) x→Or F (Own μ b) x)→BRel (Or F (Own (endHs np.length μ (ownIds qs)) (endS np ls))) w (endHs np.length μ (ownIds qs)) (endS np ls) h eb.body):=by
  intro e eb h he hh ha
  by_cases hlt:e < np.length
  ·have hp:=List.getElem?_eq_getElem hlt
   obtain ⟨l,q,t,hf,hend,hq⟩:=hB.at_ hp
   rw [Nat.zero_add] at hf
   rw [es1 hlt,hend] at he
   rw [eh1 hlt] at hh
   generalize np[e]=p at *
   cases p with
   |arr m g sz=>
    cases g with
    |true=>simp only [endB,cond_true,Option.some.injEq] at he;subst he;cases ha
    |false=>
     simp only [endB,cond_false,Option.some.injEq] at he
     subst he
     obtain ⟨blk,hb,hal⟩:=goodMain_at hm hp rfl
     obtain ⟨ver,m',rfl,hmd,hmf⟩:=hf.2 blk hb hal
     refine ⟨e,_,.inl ⟨hlt,rfl,_,hp,rfl⟩,hb,rfl,hh,fun sub=>?_⟩
     obtain ⟨base,cap,rs,S,k1,k2,k3⟩:=R.blk e _ _ hb hh
     rw [hmd] at k3
     rw [hmf] at k3
     exact ⟨base,cap,rs,S,k1,k2,k3.imp id fun ⟨z,cells,e,g1,g2,g3,g4,g5,g6,g7⟩=>⟨z,cells,e,g1,g2,g3,g4,g5,g6,GEl.keep (Keep.sub sub) rfl (fun _ _=>rfl) g7⟩⟩
   |box o=>
    obtain ⟨blk,hb,hal⟩:=goodMain_at hm hp rfl
    obtain ⟨x,vs,ee,hmx,hw,hc⟩:=hf
    simp only [endB,Option.some.injEq] at he
    subst he
    rw [hh] at hmx;cases hmx
    refine ⟨e,_,.inl ⟨hlt,rfl,_,hp,rfl⟩,hb,hal,hh,fun sub=>⟨x,vs,ee,rfl,hw,hc.rel (Keep.sub sub) fun s i hs=>?_⟩⟩
    have hqi:=hq s i hs
    obtain ⟨h',g1,g2⟩:=eh2 hqi
    have hts:t + s < (endM np ls np.length).2.length:=by rw [← hxl];exact (List.getElem?_eq_some_iff.1 hqi).1
    have hx:=List.getElem?_eq_getElem hts
    obtain ⟨sz,xs,e1⟩:=endM_arr hx
    refine ⟨_,h',by rw [Nat.add_assoc,es2];exact hx,by rw [e1],by rw [Nat.add_assoc];exact g2,g1⟩
  ·obtain ⟨t,rfl⟩:=Nat.exists_eq_add_of_le (Nat.le_of_not_lt hlt)
   rw [es2] at he
   obtain ⟨i,hi,hx⟩:=hF.get he
   obtain ⟨⟨blk,hb,hal⟩,_⟩:=hid hi
   obtain ⟨ver,m,sz,xs,rfl,hd,hf,rfl⟩:=hx blk hb hal
   obtain ⟨h',g1,g2⟩:=eh2 hi
   rw [hh] at g2;cases g2
   refine ⟨i,_,.inr ⟨t,rfl,hi⟩,hb,rfl,g1,fun sub=>?_⟩
   obtain ⟨base,cap,rs,S,k1,k2,k3⟩:=R.blk i _ _ hb g1
   rw [hd] at k3
   exact ⟨base,cap,rs,S,k1,k2,k3.imp id fun ⟨z,cells,e,g1,g2,g3,g4,g5,g6,g7⟩=>⟨z,cells,e,g1,g2,g3,g4,fun _=>g5 hf,g6,GEl.keep (Keep.sub sub) rfl (fun _ _=>rfl) g7⟩⟩
 have sub:∀ z,Own (endHs np.length μ (ownIds qs)) (endS np ls) z→Own μ b z:=by
  rintro z ⟨k,blk,h,hb,ha,hk,ho⟩
  obtain ⟨i,blk',_,h1,h2,h3,_⟩:=get hb hk ha
  exact ⟨i,blk',h,h1,h2,h3,ho⟩
 have hM:∀ z,Or F (Own (endHs np.length μ (ownIds qs)) (endS np ls)) z→Or F (Own μ b) z:=fun z hz=>hz.imp id (sub z)
 refine ⟨⟨by rw [hlen,hhlen],?_,?_,fun z hz=>R.fres z (sub z hz),R.fbk,fun z hz=>R.oid z (sub z hz)⟩,?_,fun z hz=>⟨(R.fres z (sub z hz)).2,.inr (sub z hz)⟩,.refl _ _,by omega,?_⟩
 ·intro k blk h hb hk
  cases ha:alive blk.body with
  |false=>cases hbd:blk.body<;>simp [hbd,alive] at ha;trivial
  |true=>
   obtain ⟨i,blk',_,_,_,_,hB⟩:=get hb hk ha
   exact hB hM
 ·intro k k' blk blk' h h' z hb hb' ha ha' hk hk' ho ho'
  obtain ⟨i,b1,hp,h1,h2,h3,_⟩:=get hb hk ha
  obtain ⟨i',b1',hp',h1',h2',h3',_⟩:=get hb' hk' ha'
  have:=R.inj i i' b1 b1' h h' z h1 h1' h2 h2' h3 h3' ho ho'
  subst this
  rcases hp with ⟨p1,p2,p3,p4,p5⟩ | ⟨t,p1,p2⟩<;>rcases hp' with ⟨q1,q2,q3,q4,q5⟩ | ⟨t',q1,q2⟩
  ·omega
  ·rcases (hid q2).2 with h | ⟨p,g1,g2⟩
   ·omega
   ·rw [p2] at g1;rw [p4] at g1;cases g1
    rw [p5] at g2;cases g2
  ·rcases (hid p2).2 with h | ⟨p,g1,g2⟩
   ·omega
   ·rw [q2] at g1;rw [q4] at g1;cases g1
    rw [q5] at g2;cases g2
  ·have:=nodup_idx hnd p2 q2
   omega
 ·intro j x hj hx
  rw [eh1 hj];exact hx
 ·intro j blk h hj hb hmj hf
  have hp:=List.getElem?_eq_getElem hj
  obtain ⟨l,q,t,hf1,hend,hq⟩:=hB.at_ hp
  rw [Nat.zero_add] at hf1
  refine ⟨_,h,by rw [es1 hj,hend],by rw [eh1 hj];exact hmj,rfl,?_⟩
  generalize np[j]=p at *
  cases p with
  |arr m g sz=>
   cases g with
   |true=>exact .inr rfl
   |false=>
    obtain ⟨blk',hb',hal⟩:=goodMain_at hm hp rfl
    rw [hb] at hb';cases hb'
    obtain ⟨ver,m',rfl,hmd,hmf⟩:=hf1.2 blk hb hal
    rcases hf with hf | hf
    ·left;simpa [endB,isFix,hmf] using hf
    ·cases hf
  |box o=>
   obtain ⟨blk',hb',hal⟩:=goodMain_at hm hp rfl
   rw [hb] at hb';cases hb'
   obtain ⟨x,vs,ee,hmx,_⟩:=hf1
   rw [hmj] at hmx;cases hmx
   have hBR:=R.blk j blk _ hb hmj
   exfalso
   rcases hf with hf | hf
   ·cases hbd:blk.body with
    |arr m sz xs=>rw [hbd] at hBR;obtain ⟨_,_,_,_,e,_⟩:=hBR;cases e
    |hole m sz xs c idx off k=>rw [hbd] at hBR;obtain ⟨_,_,_,_,_,_,_,_,_,_,e,_⟩:=hBR;cases e
    |box cs=>rw [hbd] at hf;cases hf
    |dead=>rw [hbd] at hal;cases hal
   ·rw [hal] at hf;cases hf
theorem finK_sound {E:Env} {f:FuncId} {fn:Func} {np:List PSh} {s:St} {a:Act} {K:Ret→Option R'} (R:Rel F w μ s.b) (ht:TRel (Or F (Own μ s.b)) w μ s.b s.t a) (hnp:np.length ≤ s.b.length)
  (hres:fn.results.size=fn.resultTypes.size) (h:finK E f fn np s K=some r):∃ ret,K ret=some r∧RetP E.P fn (E.rm f) (E.ow f) np F w μ s.b ret a w:=by
 have hresults:∀ {vs:List Value} {ts:List TypeId},vs.length=fn.results.size→ts.length=fn.results.size→(∀ (i:Nat) (x:ResultVar × TypeId) (v:Value),(fn.results.toList.zip ts)[i]? = some x→vs[i]? = some v→(resultOf a.tmps x.1).run E.P w=.ok v w)→
   (results fn a.tmps).run E.P w=.ok (if h:vs.length=1 then vs[0] else .tuple vs.toArray) w:=by
  intro vs ts hvl htl hrun
  have hm:(fn.results.mapM (m:=Sem) (resultOf a.tmps)).run E.P w=.ok vs.toArray w:=by
   rw [Array.mapM_eq_mapM_toList]
   have:=run_mapM' (P:=E.P) (w:=w) (resultOf a.tmps) fn.results.toList vs (by simpa using hvl) fun i x v hx hv=>by
    have hi:i < ts.length:=by
     have:=(List.getElem?_eq_some_iff.1 hx).1
     simp at this;omega
    exact hrun i (x,ts[i]) v (by rw [List.getElem?_zip_eq_some];exact ⟨hx,List.getElem?_eq_getElem hi⟩) hv
   simp [Sem.run_map,this]
  unfold results
  change (do let vs ← fn.results.mapM (m:=Sem) (resultOf a.tmps);pure (if h:vs.size=1 then vs[0] else .tuple vs):Sem Value).run E.P w=_
  simp only [Sem.run_bind,hm,Result.andThen_ok,Sem.run_pure]
  congr 1
 unfold finK at h
 split at h
 ·rename_i ts how
  obtain ⟨htl,h⟩:=br_none h
  have htl:ts.length=fn.results.size:=by simpa using htl
  obtain ⟨cs,b1,vs,S,h,T1,hl,hrun,hds⟩:=finOwn_sound R ht h
  obtain ⟨ls,qs,b2,h,s2,U2,R2,hB⟩:=finBlks_sound T1.rel h
  obtain ⟨hgood,h⟩:=br_none h
  simp only [Bool.and_eq_true] at hgood
  have hnp2:np.length ≤ b2.length:=by rw [(s2.trans T1.sub).len];exact hnp
  have hend:=end_rel R2 hnp2 hB hgood.1 hgood.2
  have hvl:vs.length=fn.results.size:=by rw [hl];simp [htl]
  have hres2:=hresults hvl htl hrun
  have hts:(fn.results.toList.zip ts).map (·.2)=ts:=by
   rw [List.map_snd_zip];simp [htl]
  rw [hts] at hds
  have hpre:NowL np.length (FS F S) w μ s.b w μ b2:=by
   have U:=T1.upd.trans2 (fun _ h=>.inl h) U2
   refine ⟨R2,fun _ _ _ h=>h,fun x hx=>⟨(R2.fres x hx).2,.inr ((s2.trans T1.sub).own hx)⟩,.refl _ _,hnp2,fun j blk h hj hb hm hf=>?_⟩
   obtain ⟨blk',h',hb',hm',V⟩:=U.old j blk h hb hm
   rw [hm] at hm';cases hm'
   refine ⟨blk',h,hb',hm,rfl,?_⟩
   rcases hf with hf | hf
   ·obtain ⟨_,g2⟩:=V.fix hf
    cases ha:alive blk'.body with
    |true=>exact .inl (g2 ha)
    |false=>exact .inr ha
   ·exact .inr (V.dead hf).1
  have hds2:=hds.keep (Keep.sub (N:=Or (FS F S) (Own μ b1)) (M:=Or (FS F S) (Own (endHs np.length μ (ownIds qs)) (endS np ls))) (w:=w) fun z hz=>hz.imp id fun ho=>by
   rcases (hend.own z ho).2 with h | h
   ·have:=(hend.own z ho).1;omega
   ·exact s2.own h) fun _ _=>rfl
  have hcl:=hds2.len
  have fin:∀ {c:CVal} {v:Value},K (c,ls)=some r→(results fn a.tmps).run E.P w=.ok v w→DR E.P (Or (FS F S) (Own (endHs np.length μ (ownIds qs)) (endS np ls))) w ts S c v→∃ ret,K ret=some r∧RetP E.P fn (E.rm f) (some ts) np F w μ s.b ret a w:=by
   intro c v hK hr hd
   exact ⟨_,hK,ht.2,v,_,S,hr,hpre.trans hend,hB.len,T1.nodup,fun x hx=>⟨T1.rel.fb x (.inr hx),(R.fres x (T1.own x hx)).1,R.oid x (T1.own x hx),.inr (T1.own x hx)⟩,hd⟩
  split at h
  ·rename_i c
   have hK:=h
   clear h
   obtain ⟨t,rfl⟩:∃ t,ts=[t]:=List.length_eq_one_iff.1 (by rw [← hcl.1];rfl)
   obtain ⟨S1,S2,c',l,u,us,rfl,e2,rfl,hd,e3,e4,e5⟩:=hds2
   subst e3 e4 e5
   simp only [List.cons.injEq,and_true] at e2
   subst e2
   rw [how]
   refine fin hK hres2 ?_
   simpa [DR] using hd
  ·rename_i hne
   rw [how]
   refine fin h hres2 ?_
   have h1:¬ vs.length=1:=by
    intro e
    rw [hcl.2,← hcl.1] at e
    obtain ⟨c,rfl⟩:=List.length_eq_one_iff.1 e
    exact hne c rfl
   simp only [h1,dif_neg,not_false_eq_true]
   unfold DR
   split
   ·rename_i t;exact (h1 (by rw [hcl.2];rfl)).elim
   ·exact ⟨_,vs,rfl,rfl,hds2⟩
 ·rename_i how
  split at h
  ·rename_i hrm
   obtain ⟨cs,b1,vs,h,s1,U1,R1,hl,hrun,hcs⟩:=finVals_sound R ht h
   obtain ⟨ls,qs,b2,h,s2,U2,R2,hB⟩:=finBlks_sound R1 h
   obtain ⟨hgood,h⟩:=br_none h
   simp only [Bool.and_eq_true] at hgood
   have hnp2:np.length ≤ b2.length:=by rw [(s2.trans s1).len];exact hnp
   have hend:=end_rel R2 hnp2 hB hgood.1 hgood.2
   have hpre:NowL np.length F w μ s.b w μ b2:=(Now.toL (⟨U1.trans U2,R2,.refl _ _⟩:Now F w μ s.b w μ b2) hnp)
   have hvl:vs.length=fn.results.size:=by rw [hl];simp [hres]
   have hres2:=hresults hvl (by simp [hres]) hrun
   have hsub:∀ z,Or F (Own (endHs np.length μ (ownIds qs)) (endS np ls)) z→Or F (Own μ b1) z:=fun z hz=>hz.imp id fun ho=>by
    rcases (hend.own z ho).2 with h | h
    ·have:=(hend.own z ho).1;omega
    ·exact s2.own h
   have hcs':=CsRel.keep (Keep.sub hsub) hcs
   have hvl2:=hcs.len
   have fin:∀ {c:CVal} {v:Value},K (c,ls)=some r→(results fn a.tmps).run E.P w=.ok v w→CRel (Or F (Own (endHs np.length μ (ownIds qs)) (endS np ls))) w c v→∃ ret,K ret=some r∧RetP E.P fn none none np F w μ s.b ret a w:=by
    intro c v hK hr hd
    refine ⟨_,hK,ht.2,v,endHs np.length μ (ownIds qs),[],hr,?_,hB.len,List.nodup_nil,by simp,rfl,hd⟩
    rw [FS_nil]
    exact hpre.trans hend
   rw [how,hrm]
   split at h
   ·rename_i c
    refine fin h hres2 ?_
    obtain ⟨u,us,rfl,hu,_,hus⟩:=hcs'
    have:us=[]:=hus
    subst this
    simpa using hu
   ·rename_i hne
    refine fin h hres2 ?_
    have h1:¬ vs.length=1:=by
     intro e
     rw [hvl2] at e
     obtain ⟨c,rfl⟩:=List.length_eq_one_iff.1 e
     exact hne c rfl
    simp only [h1,dif_neg,not_false_eq_true]
    exact ⟨vs,rfl,hcs'⟩
  ·rename_i j hrm
   split at h
   ·rename_i i hri
    split at h
    ·rename_i i' ver hi'
     obtain ⟨h0,h'⟩:=br_none h
     clear h
     simp only [Bool.and_eq_true,decide_eq_true_eq] at h0
     obtain ⟨⟨hij,hver⟩,hsome⟩:=h0
     subst hij
     obtain ⟨ls,qs,b2,h,s2,U2,R2,hB⟩:=finBlks_sound R h'
     obtain ⟨hgood,h⟩:=br_none h
     simp only [Bool.and_eq_true] at hgood
     have hnp2:np.length ≤ b2.length:=by rw [s2.len];exact hnp
     have hend:=end_rel R2 hnp2 hB hgood.1 hgood.2
     have hpre:NowL np.length F w μ s.b w μ b2:=(Now.toL (⟨U2,R2,.refl _ _⟩:Now F w μ s.b w μ b2) hnp)
     obtain ⟨v,hv,hr⟩:=ht.at (getD_some hi' (by simp))
     obtain ⟨xs,hxs⟩:=Option.isSome_iff_exists.1 hver
     obtain ⟨m,sz,base,cap,rs,S,rfl,hb,hm,_⟩:=R.arrAt hr hxs
     have hresults:(results fn a.tmps).run E.P w=.ok (.slice base xs.length cap) w:=by
      have hfr:fn.results = #[.tmp i]:=by apply Array.ext';exact hri
      unfold results
      rw [hfr]
      simp [hv]
     obtain ⟨m0,sz0,hp0⟩:∃ m0 sz0,np[i']? = some (.arr m0 false sz0):=by
      split at hsome
      ·rename_i m0 sz0 hh;exact ⟨m0,sz0,hh⟩
      ·cases hsome
     have hil:=(List.getElem?_eq_some_iff.1 hp0).1
     rw [how,hrm]
     refine ⟨_,h,ht.2,_,endHs np.length μ (ownIds qs),[],hresults,?_,hB.len,List.nodup_nil,by simp,rfl,.arr base xs.length cap sz rs S,m0,sz0,?_,hp0,rfl⟩
     ·rw [FS_nil]
      exact hpre.trans hend
     ·unfold endHs
      rw [List.getElem?_append_left (by rw [List.length_take,R.len];omega),List.getElem?_take_of_lt hil]
      exact hm
    ·cases h
   ·cases h
end
end Go.Proofs.Ytognghbhdalckaa.Abs

/- A part. -/
import Derived.Test.YtegbnddjgifcdaaGreatDoorTermRead
set_option linter.unusedVariables false
set_option linter.unusedSectionVars false
set_option linter.unusedSimpArgs false
set_option maxRecDepth 100000
namespace Go.Proofs.YtegbnddjgifcdaaGreatDoor.Abs
open Go Go.Proofs
open Classical
def digL:Int→List UInt8→Option Int
 |n,[]=>some n
 |n,c :: r=>if 48 ≤ c.toNat∧c.toNat ≤ 57 then digL (n * 10 + ((c.toNat:Int) - 48)) r else none
def digU (s:List UInt8):Option Int:=if 1 ≤ s.length∧s.length ≤ 7 then digL 0 s else none
def digS (w:List UInt8):Int:=match w with
 |[]=>9999999
 |c :: r=>if c=45 then (match digU r with | some n=>-n | none=>9999999) else (match digU (c :: r) with | some n=>n | none=>9999999)
def signS (w:List UInt8):Int:=if w=[43] then 1 else if w=[45] then 2 else if w=[42] then 3 else if w=[60] then 4 else if w=[61] then 5 else 0
theorem digL_rng:∀ (s:List UInt8) (n m:Int) (k:Nat),0 ≤ n→n < 10 ^ k→k + s.length ≤ 7→digL n s=some m→0 ≤ m∧m ≤ 9999999
 |[],n,m,k,h0,h1,h2,h=>by
  unfold digL at h
  cases h
  have hk:k=0∨k=1∨k=2∨k=3∨k=4∨k=5∨k=6∨k=7:=by simp at h2;omega
  rcases hk with rfl | rfl | rfl | rfl | rfl | rfl | rfl | rfl<;>simp at h1<;>omega
 |c :: r,n,m,k,h0,h1,h2,h=>by
  unfold digL at h
  split at h
  ·next hc=>
   refine digL_rng r _ m (k + 1) (by omega) ?_ (by simp only [List.length_cons] at h2;omega) h
   rw [Int.pow_succ];omega
  ·cases h
theorem digU_rng {s:List UInt8} {m:Int} (h:digU s=some m):0 ≤ m∧m ≤ 9999999:=by
 unfold digU at h
 split at h
 ·next hs=>exact digL_rng s 0 m 0 (by omega) (by simp) (by omega) h
 ·cases h
theorem digS_rng (w:List UInt8) : -9999999 ≤ digS w∧digS w ≤ 9999999:=by
 unfold digS
 split
 ·omega
 ·split
  ·split
   ·next e=>have:=digU_rng e;omega
   ·omega
  ·split
   ·next e=>have:=digU_rng e;omega
   ·omega
theorem digL_snoc:∀ (l:List UInt8) (n m:Int) (c:UInt8),digL n l=some m→digL n (l ++ [c])=digL m [c]
 |[],n,m,c,h=>by unfold digL at h;cases h;rfl
 |x :: l,n,m,c,h=>by
  unfold digL at h
  split at h
  ·next hx=>
   rw [List.cons_append,digL,if_pos hx]
   exact digL_snoc l _ m c h
  ·cases h
theorem digL_dec:∀ (k u:Nat),u < k→digL 0 (Lib.decDigits u)=some (u:Int)
 |0,u,h=>by omega
 |k + 1,u,h=>by
  by_cases h10:u < 10
  ·have:=digit_nat h10
   rw [Lib.decDigits_one h10,digL,if_pos (by omega),digL]
   congr 1;omega
  ·have e:Lib.decDigits u=Lib.decDigits (u / 10) ++ [UInt8.ofNat (48 + u % 10)]:=by rw [Lib.decDigits,dif_neg h10]
   have:=digit_nat (show u % 10 < 10 by omega)
   rw [e,digL_snoc _ _ _ _ (digL_dec k (u / 10) (by omega)),digL,if_pos (by omega),digL]
   congr 1;omega
theorem dec_len:∀ (k u:Nat),u < 10 ^ (k + 1)→1 ≤ (Lib.decDigits u).length∧(Lib.decDigits u).length ≤ k + 1
 |0,u,h=>by rw [Lib.decDigits_one (by omega)];simp
 |k + 1,u,h=>by
  by_cases h10:u < 10
  ·rw [Lib.decDigits_one h10];simp
  ·have e:Lib.decDigits u=Lib.decDigits (u / 10) ++ [UInt8.ofNat (48 + u % 10)]:=by rw [Lib.decDigits,dif_neg h10]
   have:=dec_len k (u / 10) (by rw [Nat.pow_succ] at h;omega)
   rw [e,List.length_append,List.length_singleton];omega
theorem digU_dec {u:Nat} (h:u ≤ 9999999):digU (Lib.decDigits u)=some (u:Int):=by
 unfold digU
 rw [if_pos (dec_len 6 u (by omega))]
 exact digL_dec (u + 1) u (by omega)
theorem digS_itoa {n:Int} (h : -9999999 ≤ n∧n ≤ 9999999):digS (Lib.itoa n)=n:=by
 unfold Lib.itoa
 by_cases h0:n < 0
 ·rw [if_pos h0]
  unfold digS
  simp only [if_true]
  rw [digU_dec (by omega)]
  simp only
  omega
 ·rw [if_neg h0]
  obtain ⟨d,r,hd,e⟩:=dec_head (n.toNat + 1) n.toNat (by omega)
  have hu:=digU_dec (u:=n.toNat) (by omega)
  have hn:UInt8.ofNat (48 + d) ≠ 45:=by
   intro e2
   have:=digit_nat hd
   rw [e2] at this
   have e3:(45:UInt8).toNat=45:=rfl
   omega
  rw [e] at hu ⊢
  unfold digS
  simp only [if_neg hn,hu]
  omega
theorem signS_sign {n:Int} (h:1 ≤ n∧n ≤ 5):signS (Term.sign n)=n:=by
 have:n=1∨n=2∨n=3∨n=4∨n=5:=by omega
 rcases this with rfl | rfl | rfl | rfl | rfl<;>decide
theorem signS_rng (w:List UInt8):0 ≤ signS w∧signS w ≤ 5:=by
 unfold signS
 repeat' split
 all_goals omega
def num1 (w:List UInt8) (k:Int) (c:Words):Option (Int × Words):=
 if k=1 then (pop c).map fun p=>(digS p.1,p.2) else if k=15 then (pop c).map fun p=>(signS p.1,p.2) else some (if w=[116] then 1 else 0,c)
def num2 (k n:Int) (c:Words):Option ((Int × Int) × Words):=
 if k=6∨k=7 then (pop c).map fun p=>((digS p.1,0),p.2) else if k=3 then (pop c).map fun p=>((n,digS p.1),p.2) else some ((n,0),c)
def rdS:Nat→Words→Option (Term × Words)
 |0,_=>none
 |_ + 1,[]=>none
 |d + 1,w :: c=>if kindOf w=0 then none else
  (num1 w (kindOf w) c).bind fun n=>(readS (kindOf w) n.2).bind fun s=>(readZ (kindOf w) s.2).bind fun z=>(num2 (kindOf w) n.1 z.2).bind fun m=>(readT (kindOf w) m.2).bind fun t=>
   (seqR (rd 6) (min m.1.2 3).toNat t.2).bind fun ts=>(seqR (rdS d) (parts (kindOf w)).toNat ts.2).map fun a=>(.mk (kindOf w) m.1.1 s.1 z.1 t.1 ts.1 a.1,a.2)
namespace Term
theorem num2_some {t:Term} {c:Words} (H:Head t) (h1:t.k ≠ 1) (h2:t.k ≠ 2) (h15:t.k ≠ 15):num2 t.k 0 (numW t ++ (Ty.toksL t.ts ++ c))=some ((t.n,(t.ts.length:Int)),Ty.toksL t.ts ++ c):=by
 unfold num2 numW
 by_cases h6:t.k=6∨t.k=7
 ·rw [if_pos h6,if_pos (by omega),H.ts_nil (by omega)]
  have:=H.i
  show some ((digS (Lib.itoa t.n),0),_)=_
  rw [digS_itoa ⟨by omega,by omega⟩]
  rfl
 ·rw [if_neg h6,if_neg (show ¬ (t.k=1∨t.k=6∨t.k=7) by omega),if_neg h15,H.n_zero (by omega) h2 h15]
  by_cases h3:t.k=3
  ·have hl:=H.ts
   rw [if_pos h3] at hl
   rw [if_pos h3,if_pos h3]
   show some ((0,digS (Lib.itoa t.ts.length)),_)=_
   rw [digS_itoa ⟨by omega,by omega⟩]
   rfl
  ·rw [if_neg h3,if_neg h3,H.ts_nil h3]
   rfl
theorem Head.noSZ {t:Term} (H:Head t) (h:t.k=1∨t.k=15):t.s=[]∧t.z=[]:=by
 have hnm:=H.nm
 unfold namesOk at hnm
 rw [if_neg (by omega)] at hnm
 simp only [Bool.and_eq_true,decide_eq_true_eq,beq_iff_eq,Bool.or_eq_true] at hnm
 obtain ⟨z0,s1,s2⟩:=hnm
 refine ⟨?_,z0⟩
 rcases s2 with e | e
 ·exact e
 ·rw [e] at s1
  rcases h with h | h<;>(rw [h] at s1;exact absurd s1 (by decide))
theorem seq_terms {d:Nat} {r:Words} {A:List Term} (ih:∀ u ∈ A,∀ r,rdS d (u.toks ++ r)=some (u,r)):∀ l:List Term,(∀ u ∈ l,u ∈ A)→seqR (rdS d) l.length (toksL l ++ r)=some (l,r)
 |[],_=>rfl
 |u :: l,h=>by
  have hu:=h u (by simp)
  rw [List.length_cons,seqR,toksL_cons,List.append_assoc,ih u hu]
  simp only [Option.bind_some]
  rw [seq_terms ih l fun x hx=>h x (by simp [hx])]
  rfl
theorem rdS_toks:∀ t:Term,t.good→∀ (d:Nat),t.depth ≤ d→∀ r,rdS d (t.toks ++ r)=some (t,r):=ind fun t ih hg d hd r=>by
 obtain ⟨hh,hp⟩:=(good_def t).1 hg
 have H:=head_of hh
 rw [depth_def] at hd
 obtain ⟨e,rfl⟩:∃ e,d=e + 1:=⟨d - 1,by omega⟩
 have hseq:=seq_terms (d:=e) (r:=r) (A:=t.a) (fun u hu r=>ih u hu (hp u hu) e (by have:=depthL_mem hu;omega) r) t.a fun u hu=>hu
 rw [toks_def,List.cons_append,rdS]
 by_cases h2:t.k=2
 ·obtain ⟨e1,e2⟩:=bool_rest H hh h2
  have ha:t.a=[]:=congrArg Term.a e2
  rw [e1,ha]
  rcases bool_first h2 with hf | hf<;>(rw [hf] at e2 ⊢;rw [e2];rfl)
 ·have hw:first t=kword t.k:=if_neg h2
  have hk:=kindOf_kword H.k
  have hkr:=H.k
  have hpt:(parts t.k).toNat=t.a.length:=by have:=H.a;omega
  have n1:=kw_bool hk h2
  simp only [not_or] at n1
  have htl:=ts_len H
  have hmin:(min (t.ts.length:Int) 3).toNat=t.ts.length:=by omega
  rw [hw,hk,if_neg (by omega)]
  unfold rest
  simp only [List.append_assoc]
  by_cases hn:t.k=1∨t.k=15
  ·obtain ⟨hs,hz⟩:=H.noSZ hn
   have hts:t.ts=[]:=H.ts_nil (by omega)
   have hS:∀ c,readS t.k c=some ([],c):=fun c=>by
    unfold readS
    rw [if_neg]
    rcases hn with hn | hn<;>(rw [hn];decide)
   have hZ:∀ c,readZ t.k c=some ([],c):=fun c=>by unfold readZ;rw [if_neg (by omega)]
   have hN1:∀ c,num1 (kword t.k) t.k (numW t ++ c)=some (t.n,c):=fun c=>by
    unfold num1 numW
    rcases hn with hn | hn
    ·have:=H.i
     rw [if_pos hn,if_pos (.inl hn)]
     show some (digS (Lib.itoa t.n),_)=_
     rw [digS_itoa ⟨by omega,by omega⟩]
     rfl
    ·have hq:=H.num
     rw [hn] at hq
     rw [if_neg (by omega),if_pos hn,if_neg (by omega),if_pos hn]
     show some (signS (sign t.n),_)=_
     rw [signS_sign (of_decide_eq_true hq)]
     rfl
   have hN2:∀ c,num2 t.k t.n c=some ((t.n,0),c):=fun c=>by unfold num2;rw [if_neg (by omega),if_neg (by omega)]
   have ho:opt ([]:List UInt8)=[]:=rfl
   rw [hs,hz,ho,List.nil_append,List.nil_append,hN1]
   simp only [Option.bind_some,hS,hZ,hN2]
   rw [hts,Ty.toksL_nil,List.nil_append,t_some hh]
   simp only [Option.bind_some]
   show (seqR (rdS e) (parts t.k).toNat (toksL t.a ++ r)).map _=_
   rw [hpt,hseq]
   simp only [Option.map_some]
   have e9:=eta t
   rw [hs,hz,hts] at e9
   rw [e9]
  ·have hN1:∀ c,num1 (kword t.k) t.k c=some (0,c):=fun c=>by unfold num1;rw [if_neg (by omega),if_neg (by omega),if_neg n1.1]
   rw [hN1]
   simp only [Option.bind_some]
   rw [H.s_some]
   simp only [Option.bind_some]
   rw [H.z_some]
   simp only [Option.bind_some]
   rw [num2_some H (by omega) h2 (by omega)]
   simp only [Option.bind_some]
   have hT:readT t.k (Ty.toksL t.ts ++ ((if hasT t.k=true then t.t.toks else []) ++ (toksL t.a ++ r)))=some (t.t,Ty.toksL t.ts ++ (toksL t.a ++ r)):=by
    by_cases h3:t.k=3
    ·have ht:hasT t.k=false:=by rw [h3];decide
     have:=t_some (c:=(Ty.toksL t.ts ++ (toksL t.a ++ r))) hh
     rw [ht] at this ⊢
     exact this
    ·rw [H.ts_nil h3]
     exact t_some hh
   rw [hT]
   simp only [Option.bind_some]
   rw [hmin,seq_tys (Nat.le_refl _) t.ts _ H.tsr]
   simp only [Option.bind_some]
   rw [hpt,hseq]
   simp only [Option.map_some]
   rw [eta]
end Term
def W (c:Words):Nat:=(c.map fun w=>w.length + 1).sum
@[simp] theorem W_nil:W []=0:=rfl
@[simp] theorem W_cons {w:List UInt8} {c:Words}:W (w :: c)=w.length + 1 + W c:=by simp [W]
theorem W_cut:∀ (s p:List UInt8),W (cutP p s)=p.length + s.length + 1
 |[],p=>by simp [cutP]
 |x :: s,p=>by
  unfold cutP
  split
  ·rw [W_cons,W_cut s []];simp;omega
  ·rw [W_cut s];simp;omega
theorem W_pop {c c1:Words} {w:List UInt8} (h:pop c=some (w,c1)):W c=w.length + 1 + W c1:=by rw [Term.pop_some h,W_cons]
theorem W_S {k:Int} {c c1:Words} {s:List UInt8} (h:readS k c=some (s,c1)):s.length + W c1 ≤ W c:=by
 unfold readS at h
 split at h
 ·have:=W_pop h;omega
 ·cases h;simp
theorem W_Z {k:Int} {c c1:Words} {s:List UInt8} (h:readZ k c=some (s,c1)):s.length + W c1 ≤ W c:=by
 unfold readZ at h
 split at h
 ·have:=W_pop h;omega
 ·cases h;simp
theorem kw_len {w:List UInt8} {k n:Int} (h:kw w=some (k,n)):1 ≤ w.length:=by
 cases w with
 |nil=>exact absurd h (by unfold kw;simp)
 |cons c w=>simp
theorem W_tys {f:Words→Option (Ty × Words)} (hf:∀ c t r,f c=some (t,r)→t.wt∧t.sz + 1 + W r ≤ W c):∀ (m:Nat) (c:Words) (l:List Ty) (r:Words),seqR f m c=some (l,r)→(∀ u ∈ l,u.wt)∧l.length=m∧l.length + Ty.szL l + W r ≤ W c
 |0,c,l,r,h=>by cases h;simp
 |m + 1,c,l,r,h=>by
  unfold seqR at h
  obtain ⟨⟨t,r1⟩,h1,h⟩:=Option.bind_eq_some_iff.1 h
  obtain ⟨⟨l2,r2⟩,h2,h⟩:=Option.map_eq_some_iff.1 h
  obtain ⟨e1,e2⟩:=Prod.mk.inj h
  obtain ⟨q1,q2⟩:=hf c t r1 h1
  obtain ⟨q3,q4,q5⟩:=W_tys hf m r1 l2 r2 h2
  rw [← e1,← e2]
  refine ⟨fun u hu=>?_,by simp [q4],by simp only [List.length_cons,Ty.szL_cons];omega⟩
  rcases List.mem_cons.1 hu with rfl | hu
  ·exact q1
  ·exact q3 u hu
theorem rd_W:∀ (d:Nat) (c:Words) (t:Ty) (r:Words),rd d c=some (t,r)→t.wt∧t.sz + 1 + W r ≤ W c
 |0,c,t,r,h=>by cases h
 |d + 1,[],t,r,h=>by cases h
 |d + 1,w :: c,t,r,h=>by
  refine ⟨(rd_tyD _ _ _ _ h).1,?_⟩
  unfold rd at h
  obtain ⟨⟨k,n⟩,h1,h⟩:=Option.bind_eq_some_iff.1 h
  obtain ⟨⟨l,r1⟩,h2,h⟩:=Option.map_eq_some_iff.1 h
  obtain ⟨e1,e2⟩:=Prod.mk.inj h
  have:=W_tys (rd_W d) _ _ _ _ h2
  have:=kw_len h1
  rw [← e1,← e2,Ty.sz_def,W_cons]
  simp only [Ty.a_mk]
  omega
theorem W_T {k:Int} {c c1:Words} {t:Ty} (h:readT k c=some (t,c1)):t.wt∧t.sz + W c1 ≤ W c:=by
 unfold readT at h
 split at h
 ·have:=rd_W _ _ _ _ h
  exact ⟨this.1,by omega⟩
 ·cases h
  refine ⟨?_,by rw [Ty.sz_def];unfold Ty.zero;simp⟩
  unfold Ty.zero
  rw [Ty.wt_def]
  refine ⟨by unfold i64;simp,by unfold i64;simp,by simp [maxLen],by simp⟩
theorem W_terms {f:Words→Option (Term × Words)} (hf:∀ c t r,f c=some (t,r)→t.wt∧t.sz + 1 + W r ≤ W c):∀ (m:Nat) (c:Words) (l:List Term) (r:Words),seqR f m c=some (l,r)→(∀ u ∈ l,u.wt)∧l.length=m∧l.length + Term.szL l + W r ≤ W c
 |0,c,l,r,h=>by cases h;simp
 |m + 1,c,l,r,h=>by
  unfold seqR at h
  obtain ⟨⟨t,r1⟩,h1,h⟩:=Option.bind_eq_some_iff.1 h
  obtain ⟨⟨l2,r2⟩,h2,h⟩:=Option.map_eq_some_iff.1 h
  obtain ⟨e1,e2⟩:=Prod.mk.inj h
  obtain ⟨q1,q2⟩:=hf c t r1 h1
  obtain ⟨q3,q4,q5⟩:=W_terms hf m r1 l2 r2 h2
  rw [← e1,← e2]
  refine ⟨fun u hu=>?_,by simp [q4],by simp only [List.length_cons,Term.szL_cons];omega⟩
  rcases List.mem_cons.1 hu with rfl | hu
  ·exact q1
  ·exact q3 u hu
theorem kind_len {w:List UInt8} (h:kindOf w ≠ 0):1 ≤ w.length:=by
 cases w with
 |nil=>exact absurd (by decide) h
 |cons c w=>simp
theorem term_W {k n:Int} {s z:List UInt8} {t:Ty} {ts:List Ty} {a:List Term} {X:Nat} (hk:0 ≤ k∧k ≤ 17) (hn : -9999999 ≤ n∧n ≤ 9999999) (ht:t.wt) (hts:∀ u ∈ ts,u.wt) (ha:∀ u ∈ a,u.wt)
  (h:s.length + z.length + t.sz + (ts.length + Ty.szL ts) + (a.length + Term.szL a) ≤ X) (hX:X ≤ 2000000):(Term.mk k n s z t ts a).wt∧(Term.mk k n s z t ts a).sz ≤ X:=by
 refine ⟨?_,by rw [Term.sz_def];exact h⟩
 rw [Term.wt_def]
 simp only [Term.k_mk,Term.n_mk,Term.s_mk,Term.z_mk,Term.t_mk,Term.ts_mk,Term.a_mk]
 refine ⟨by unfold i64;omega,by unfold i64;omega,by unfold maxLen;omega,by unfold maxLen;omega,ht,⟨by unfold maxLen;omega,hts⟩,by unfold maxLen;omega,ha⟩
theorem W_N1 {w:List UInt8} {k n:Int} {c c1:Words} (h:num1 w k c=some (n,c1)):(-9999999 ≤ n∧n ≤ 9999999)∧W c1 ≤ W c:=by
 unfold num1 at h
 split at h
 ·obtain ⟨⟨x,c2⟩,e,h⟩:=Option.map_eq_some_iff.1 h
  cases h
  have:=W_pop e
  exact ⟨digS_rng x,by show W c2 ≤ W c;omega⟩
 ·split at h
  ·obtain ⟨⟨x,c2⟩,e,h⟩:=Option.map_eq_some_iff.1 h
   cases h
   have:=W_pop e
   have:=signS_rng x
   exact ⟨⟨by show -9999999 ≤ signS x;omega,by show signS x ≤ 9999999;omega⟩,by show W c2 ≤ W c;omega⟩
  ·cases h
   refine ⟨?_,Nat.le_refl _⟩
   split<;>omega
theorem W_N2 {k n m q:Int} {c c1:Words} (hn : -9999999 ≤ n∧n ≤ 9999999) (h:num2 k n c=some ((m,q),c1)):(-9999999 ≤ m∧m ≤ 9999999)∧W c1 ≤ W c:=by
 unfold num2 at h
 split at h
 ·obtain ⟨⟨x,c2⟩,e,h⟩:=Option.map_eq_some_iff.1 h
  cases h
  have:=W_pop e
  exact ⟨digS_rng x,by show W c2 ≤ W c;omega⟩
 ·split at h
  ·obtain ⟨⟨x,c2⟩,e,h⟩:=Option.map_eq_some_iff.1 h
   cases h
   have:=W_pop e
   exact ⟨hn,by show W c2 ≤ W c;omega⟩
  ·cases h
   exact ⟨hn,Nat.le_refl _⟩
theorem rdS_W:∀ (d:Nat) (c:Words) (t:Term) (r:Words),rdS d c=some (t,r)→W c ≤ 1500000→t.wt∧t.sz + 1 + W r ≤ W c
 |0,c,t,r,h,_=>by cases h
 |d + 1,[],t,r,h,_=>by cases h
 |d + 1,w :: c,t,r,h,hb=>by
  unfold rdS at h
  split at h
  ·cases h
  ·next hk=>
   obtain ⟨⟨n,c0⟩,e0,h⟩:=Option.bind_eq_some_iff.1 h
   obtain ⟨⟨s,c1⟩,e1,h⟩:=Option.bind_eq_some_iff.1 h
   obtain ⟨⟨z,c2⟩,e2,h⟩:=Option.bind_eq_some_iff.1 h
   obtain ⟨⟨⟨m,q⟩,c3⟩,e3,h⟩:=Option.bind_eq_some_iff.1 h
   obtain ⟨⟨y,c4⟩,e4,h⟩:=Option.bind_eq_some_iff.1 h
   obtain ⟨⟨ts,c5⟩,e5,h⟩:=Option.bind_eq_some_iff.1 h
   obtain ⟨⟨a,c6⟩,e6,h⟩:=Option.map_eq_some_iff.1 h
   obtain ⟨ht,hr⟩:=Prod.mk.inj h
   have w0:=W_N1 e0
   have w1:=W_S e1
   have w2:=W_Z e2
   have w3:=W_N2 w0.1 e3
   have w4:=W_T e4
   have w5:=W_tys (rd_W 6) _ _ _ _ e5
   rw [W_cons] at hb
   have w6:=W_terms (f:=fun c=>if W c ≤ 1500000 then rdS d c else none) (fun c t r h=>by
    split at h
    ·next hc=>exact rdS_W d c t r h hc
    ·cases h) (parts (kindOf w)).toNat c5 a c6 (by
     have:∀ (m:Nat) (c:Words) (l:List Term) (r:Words),W c ≤ 1500000→seqR (rdS d) m c=some (l,r)→seqR (fun c=>if W c ≤ 1500000 then rdS d c else none) m c=some (l,r):=by
      intro m
      induction m with
      |zero=>intro c l r _ h;exact h
      |succ m ih=>
       intro c l r hc h
       unfold seqR at h ⊢
       obtain ⟨⟨t,r1⟩,h1,h⟩:=Option.bind_eq_some_iff.1 h
       obtain ⟨⟨l2,r2⟩,h2,h⟩:=Option.map_eq_some_iff.1 h
       have:=rdS_W d c t r1 h1 hc
       simp only [if_pos hc,h1,Option.bind_some]
       simp only at h2
       rw [ih r1 l2 r2 (by omega) h2]
       exact congrArg some h
     exact this _ _ _ _ (by simp only at *;omega) e6)
   have hkl:=kind_len hk
   have hkr:=kindOf_rng w
   rw [← ht,← hr,W_cons]
   have hf:=term_W (k:=kindOf w) (n:=m) (s:=s) (z:=z) (t:=y) (ts:=ts) (a:=a) (X:=s.length + z.length + y.sz + (ts.length + Ty.szL ts) + (a.length + Term.szL a)) hkr w3.1 w4.1 w5.1 w6.1 (Nat.le_refl _) (by simp only at *;omega)
   refine ⟨hf.1,?_⟩
   have:=hf.2
   simp only at *
   omega
theorem W_N {k n:Int} {ts:List Ty} {c c1:Words} (h:readN k c=some ((n,ts),c1)):(-9999999 ≤ n∧n ≤ 9999999)∧(∀ u ∈ ts,u.wt)∧ts.length + Ty.szL ts + W c1 ≤ W c:=by
 unfold readN at h
 split at h
 ·obtain ⟨⟨w,c2⟩,e1,h⟩:=Option.bind_eq_some_iff.1 h
  obtain ⟨m,e2,h⟩:=Option.map_eq_some_iff.1 h
  cases h
  have:=W_pop e1
  have:=numI_some e2
  exact ⟨⟨this.1,this.2.1⟩,by simp,by simp;omega⟩
 ·split at h
  ·obtain ⟨⟨w,c2⟩,e1,h⟩:=Option.map_eq_some_iff.1 h
   cases h
   have:=W_pop e1
   refine ⟨?_,by simp,by simp;omega⟩
   unfold signI
   simp only [idx]
   repeat' split
   all_goals omega
  ·split at h
   ·obtain ⟨⟨w,c2⟩,e1,h⟩:=Option.bind_eq_some_iff.1 h
    obtain ⟨m,e2,h⟩:=Option.bind_eq_some_iff.1 h
    split at h
    ·obtain ⟨⟨l,c3⟩,e3,h⟩:=Option.map_eq_some_iff.1 h
     cases h
     have:=W_pop e1
     have w5:=W_tys (rd_W 6) _ _ _ _ e3
     exact ⟨by omega,w5.1,by simp only at *;omega⟩
    ·cases h
   ·cases h
    exact ⟨by omega,by simp,by simp⟩
theorem rdI_W:∀ (d:Nat) (c:Words) (t:Term) (r:Words),rdI d c=some (t,r)→W c ≤ 1500000→t.wt∧t.sz + 1 + W r ≤ W c:=by
 have hb0:∀ (w:List UInt8) (c:Words) (t:Term) (r:Words),(w=[116]∨w=[117])→some (Term.mk 2 (if w=[116] then 1 else 0) [] [] Ty.zero [] [],c)=some (t,r)→t.wt∧t.sz + 1 + W r ≤ W (w :: c):=by
  intro w c t r hw h
  obtain ⟨ht,hr⟩:=Prod.mk.inj (Option.some.inj h)
  have hz:Ty.zero.wt∧Ty.zero.sz + W c ≤ W c:=W_T (k:=0) (c:=c) (c1:=c) (t:=Ty.zero) rfl
  have hf:=term_W (k:=2) (n:=if w=[116] then 1 else 0) (s:=[]) (z:=[]) (t:=Ty.zero) (ts:=[]) (a:=[]) (X:=0) (by omega) (by split<;>omega) hz.1 (by simp) (by simp) (by simp;omega) (by omega)
  rw [← ht,← hr,W_cons]
  refine ⟨hf.1,?_⟩
  have h2:=hf.2
  have h3:1 ≤ w.length:=by rcases hw with rfl | rfl<;>simp
  omega
 intro d
 induction d with
 |zero=>
  intro c t r h hb
  cases c with
  |nil=>cases h
  |cons w c=>
   unfold rdI at h
   split at h
   ·next hw=>exact hb0 w c t r hw h
   ·cases h
 |succ d ihd=>
  intro c t r h hb
  cases c with
  |nil=>cases h
  |cons w c=>
   unfold rdI at h
   split at h
   ·next hw=>exact hb0 w c t r hw h
   ·split at h
    ·cases h
    ·next hk=>
     obtain ⟨⟨s,c1⟩,e1,h⟩:=Option.bind_eq_some_iff.1 h
     obtain ⟨⟨z,c2⟩,e2,h⟩:=Option.bind_eq_some_iff.1 h
     obtain ⟨⟨⟨n,ts⟩,c3⟩,e3,h⟩:=Option.bind_eq_some_iff.1 h
     obtain ⟨⟨y,c4⟩,e4,h⟩:=Option.bind_eq_some_iff.1 h
     obtain ⟨⟨a,c6⟩,e6,h⟩:=Option.map_eq_some_iff.1 h
     obtain ⟨ht,hr⟩:=Prod.mk.inj h
     have w1:=W_S e1
     have w2:=W_Z e2
     have w3:=W_N e3
     have w4:=W_T e4
     rw [W_cons] at hb
     have w6:=W_terms (f:=fun c=>if W c ≤ 1500000 then rdI d c else none) (fun c t r h=>by
      split at h
      ·next hc=>exact ihd c t r h hc
      ·cases h) (parts (kindOf w)).toNat c4 a c6 (by
       have:∀ (m:Nat) (c:Words) (l:List Term) (r:Words),W c ≤ 1500000→seqR (rdI d) m c=some (l,r)→seqR (fun c=>if W c ≤ 1500000 then rdI d c else none) m c=some (l,r):=by
        intro m
        induction m with
        |zero=>intro c l r _ h;exact h
        |succ m ih=>
         intro c l r hc h
         unfold seqR at h ⊢
         obtain ⟨⟨t,r1⟩,h1,h⟩:=Option.bind_eq_some_iff.1 h
         obtain ⟨⟨l2,r2⟩,h2,h⟩:=Option.map_eq_some_iff.1 h
         have:=ihd c t r1 h1 hc
         simp only [if_pos hc,h1,Option.bind_some]
         simp only at h2
         rw [ih r1 l2 r2 (by omega) h2]
         exact congrArg some h
       exact this _ _ _ _ (by simp only at *;omega) e6)
     have hkl:=kind_len hk
     have hkr:=kindOf_rng w
     rw [← ht,← hr,W_cons]
     have hf:=term_W (k:=kindOf w) (n:=n) (s:=s) (z:=z) (t:=y) (ts:=ts) (a:=a) (X:=s.length + z.length + y.sz + (ts.length + Ty.szL ts) + (a.length + Term.szL a)) hkr w3.1 w4.1 w3.2.1 w6.1 (Nat.le_refl _) (by simp only at *;omega)
     refine ⟨hf.1,?_⟩
     have:=hf.2
     simp only at *
     omega
end Go.Proofs.YtegbnddjgifcdaaGreatDoor.Abs

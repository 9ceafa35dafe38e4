/- A part. -/
import Derived.Test.YtegbnddjgifcdaaGreatDoorTermPlain
import Derived.Test.YtegbnddjgifcdaaGreatDoorTyBack
import Derived.Test.YtegbnddjgifcdaaGreatDoorParseT
set_option linter.unusedVariables false
set_option linter.unusedSectionVars false
set_option linter.unusedSimpArgs false
set_option maxRecDepth 100000
namespace Go.Proofs.YtegbnddjgifcdaaGreatDoor.Abs
open Go Go.Proofs
open Classical
abbrev Words:=List (List UInt8)
def kindOf (w:List UInt8):Int:=
 if w=[117] then 2 else if w=[110] then 1 else if w=[116] then 2 else if w=[118] then 3 else if w=[102,110] then 4 else if w=[97,112,112] then 5 else if w=[108,101,116] then 6 else
 if w=[102,105,120] then 7 else if w=[105,102] then 8 else if w=[112,97,105,114] then 9 else if w=[102,115,116] then 10 else if w=[115,110,100] then 11 else
 if w=[110,105,108] then 12 else if w=[99,111,110,115] then 13 else if w=[99,97,115,101] then 14 else if w=[111,112] then 15 else if w=[114,97,105,115,101] then 16 else if w=[116,114,121] then 17 else 0
theorem kindOf_rng (w:List UInt8):0 ≤ kindOf w∧kindOf w ≤ 17:=by
 unfold kindOf
 repeat' split
 all_goals omega
theorem kindOf_kword {k:Int} (h:1 ≤ k∧k ≤ 17):kindOf (Term.kword k)=k:=by
 have:k=1∨k=2∨k=3∨k=4∨k=5∨k=6∨k=7∨k=8∨k=9∨k=10∨k=11∨k=12∨k=13∨k=14∨k=15∨k=16∨k=17:=by omega
 rcases this with rfl | rfl | rfl | rfl | rfl | rfl | rfl | rfl | rfl | rfl | rfl | rfl | rfl | rfl | rfl | rfl | rfl<;>decide
theorem kword_of {w:List UInt8} (h:kindOf w ≠ 0) (hu:w ≠ [117]):w=Term.kword (kindOf w):=by
 unfold kindOf at h ⊢
 rw [if_neg hu] at h ⊢
 by_cases q:w=[110]
 ·subst q;decide
 rw [if_neg q] at h ⊢
 clear q
 by_cases q:w=[116]
 ·subst q;decide
 rw [if_neg q] at h ⊢
 clear q
 by_cases q:w=[118]
 ·subst q;decide
 rw [if_neg q] at h ⊢
 clear q
 by_cases q:w=[102,110]
 ·subst q;decide
 rw [if_neg q] at h ⊢
 clear q
 by_cases q:w=[97,112,112]
 ·subst q;decide
 rw [if_neg q] at h ⊢
 clear q
 by_cases q:w=[108,101,116]
 ·subst q;decide
 rw [if_neg q] at h ⊢
 clear q
 by_cases q:w=[102,105,120]
 ·subst q;decide
 rw [if_neg q] at h ⊢
 clear q
 by_cases q:w=[105,102]
 ·subst q;decide
 rw [if_neg q] at h ⊢
 clear q
 by_cases q:w=[112,97,105,114]
 ·subst q;decide
 rw [if_neg q] at h ⊢
 clear q
 by_cases q:w=[102,115,116]
 ·subst q;decide
 rw [if_neg q] at h ⊢
 clear q
 by_cases q:w=[115,110,100]
 ·subst q;decide
 rw [if_neg q] at h ⊢
 clear q
 by_cases q:w=[110,105,108]
 ·subst q;decide
 rw [if_neg q] at h ⊢
 clear q
 by_cases q:w=[99,111,110,115]
 ·subst q;decide
 rw [if_neg q] at h ⊢
 clear q
 by_cases q:w=[99,97,115,101]
 ·subst q;decide
 rw [if_neg q] at h ⊢
 clear q
 by_cases q:w=[111,112]
 ·subst q;decide
 rw [if_neg q] at h ⊢
 clear q
 by_cases q:w=[114,97,105,115,101]
 ·subst q;decide
 rw [if_neg q] at h ⊢
 clear q
 by_cases q:w=[116,114,121]
 ·subst q;decide
 rw [if_neg q] at h ⊢
 clear q
 exact absurd rfl h
def numI (w:List UInt8):Option Int:=match Lib.atoiAll w with
 |.ok n=>if Lib.itoa n=w∧-9999999 ≤ n∧n ≤ 9999999 then some n else none
 |_=>none
def signI (w:List UInt8):Int:=idx [[],[43],[45],[42],[60],[61]] w 0
def pop:Words→Option (List UInt8 × Words)
 |[]=>none
 |w :: c=>some (w,c)
def readS (k:Int) (c:Words):Option (List UInt8 × Words):=if bindsS k=true∨k=3 then pop c else some ([],c)
def readZ (k:Int) (c:Words):Option (List UInt8 × Words):=if k=14 then pop c else some ([],c)
def readN (k:Int) (c:Words):Option ((Int × List Ty) × Words):=
 if k=1∨k=6∨k=7 then (pop c).bind fun p=>(numI p.1).map fun n=>((n,[]),p.2)
 else if k=15 then (pop c).map fun p=>((signI p.1,[]),p.2)
 else if k=3 then (pop c).bind fun p=>(numI p.1).bind fun n=>if 0 ≤ n∧n ≤ 2 then (seqR (rd 6) n.toNat p.2).map fun q=>((0,q.1),q.2) else none
 else some ((0,[]),c)
def readT (k:Int) (c:Words):Option (Ty × Words):=if hasT k=true then rd 6 c else some (Ty.zero,c)
def rdI:Nat→Words→Option (Term × Words)
 |_,[]=>none
 |0,w :: c=>if w=[116]∨w=[117] then some (.mk 2 (if w=[116] then 1 else 0) [] [] Ty.zero [] [],c) else none
 |d + 1,w :: c=>if w=[116]∨w=[117] then some (.mk 2 (if w=[116] then 1 else 0) [] [] Ty.zero [] [],c) else
  if kindOf w=0 then none else
  (readS (kindOf w) c).bind fun s=>(readZ (kindOf w) s.2).bind fun z=>(readN (kindOf w) z.2).bind fun n=>(readT (kindOf w) n.2).bind fun t=>
   (seqR (rdI d) (parts (kindOf w)).toNat t.2).map fun a=>(.mk (kindOf w) n.1.1 s.1 z.1 t.1 n.1.2 a.1,a.2)
theorem parse_snoc:∀ (l:List UInt8) (acc v:Nat) (c:UInt8),Lib.parseUint10 acc l=.ok v→Lib.parseUint10 acc (l ++ [c])=Lib.parseUint10 v [c]
 |[],acc,v,c,h=>by
  rw [Lib.parseUint10] at h
  injection h with h
  rw [h];rfl
 |x :: l,acc,v,c,h=>by
  rw [Lib.parseUint10] at h
  rw [List.cons_append,Lib.parseUint10]
  by_cases h1:48 ≤ x.toNat∧x.toNat ≤ 57
  ·rw [if_pos h1] at h ⊢
   by_cases h2:1844674407370955162 ≤ acc
   ·rw [if_pos h2] at h;cases h
   ·rw [if_neg h2] at h ⊢
    by_cases h3:18446744073709551616 ≤ acc * 10 + (x.toNat - 48)
    ·rw [if_pos h3] at h;cases h
    ·rw [if_neg h3] at h ⊢
     exact parse_snoc l _ v c h
  ·rw [if_neg h1] at h;cases h
theorem digit_nat {d:Nat} (h:d < 10):(UInt8.ofNat (48 + d)).toNat=48 + d:=by
 have:d=0∨d=1∨d=2∨d=3∨d=4∨d=5∨d=6∨d=7∨d=8∨d=9:=by omega
 rcases this with rfl | rfl | rfl | rfl | rfl | rfl | rfl | rfl | rfl | rfl<;>rfl
theorem parse_digit {v d:Nat} (hd:d < 10) (hv:v ≤ 100000000):Lib.parseUint10 v [UInt8.ofNat (48 + d)]=.ok (v * 10 + d):=by
 rw [Lib.parseUint10,digit_nat hd,if_pos ⟨by omega,by omega⟩,if_neg (by omega),if_neg (by omega),show 48 + d - 48=d by omega]
 rfl
theorem parse_dec:∀ (k u:Nat),u < k→u ≤ 100000000→Lib.parseUint10 0 (Lib.decDigits u)=.ok u
 |0,u,h,_=>by omega
 |k + 1,u,h,hu=>by
  by_cases h10:u < 10
  ·rw [Lib.decDigits_one h10,parse_digit h10 (by omega)]
   congr 1;omega
  ·have e:Lib.decDigits u=Lib.decDigits (u / 10) ++ [UInt8.ofNat (48 + u % 10)]:=by rw [Lib.decDigits,dif_neg h10]
   rw [e,parse_snoc _ _ _ _ (parse_dec k (u / 10) (by omega) (by omega)),parse_digit (by omega) (by omega)]
   congr 1;omega
theorem dec_head:∀ (k u:Nat),u < k→∃ (d:Nat) (r:List UInt8),d < 10∧Lib.decDigits u=UInt8.ofNat (48 + d) :: r
 |0,u,h=>by omega
 |k + 1,u,h=>by
  by_cases h10:u < 10
  ·exact ⟨u,[],h10,Lib.decDigits_one h10⟩
  ·obtain ⟨d,r,hd,e⟩:=dec_head k (u / 10) (by omega)
   have e2:Lib.decDigits u=Lib.decDigits (u / 10) ++ [UInt8.ofNat (48 + u % 10)]:=by rw [Lib.decDigits,dif_neg h10]
   exact ⟨d,r ++ [UInt8.ofNat (48 + u % 10)],hd,by rw [e2,e];rfl⟩
theorem atoi_itoa {n:Int} (h : -9999999 ≤ n∧n ≤ 9999999):Lib.atoiAll (Lib.itoa n)=.ok n:=by
 obtain ⟨d,r,hd,e⟩:=dec_head (n.natAbs + 1) n.natAbs (by omega)
 have hp:=parse_dec (n.natAbs + 1) n.natAbs (by omega) (by omega)
 have hn:=digit_nat hd
 have hne:¬ Lib.decDigits n.natAbs=[]:=by rw [e];simp
 unfold Lib.itoa
 by_cases h0:n < 0
 ·rw [if_pos h0]
  unfold Lib.atoiAll
  have e1:(45:UInt8).toNat=45:=rfl
  simp only [e1,or_true,if_true]
  unfold Lib.parseMag
  rw [if_neg hne,hp]
  simp only [not_true_eq_false,false_and,if_false,true_and]
  rw [if_neg (by omega)]
  congr 1;omega
 ·have ea:n.toNat=n.natAbs:=by omega
  rw [if_neg h0,ea,e]
  unfold Lib.atoiAll
  have n1:¬ ((UInt8.ofNat (48 + d)).toNat=43):=by omega
  have n2:¬ ((UInt8.ofNat (48 + d)).toNat=45):=by omega
  simp only [n1,n2,or_self,if_false,← e]
  unfold Lib.parseMag
  rw [if_neg hne,hp]
  simp only [not_false_eq_true,true_and,false_and,if_false]
  rw [if_neg (by omega)]
  congr 1;omega
theorem numI_itoa {n:Int} (h : -9999999 ≤ n∧n ≤ 9999999):numI (Lib.itoa n)=some n:=by
 unfold numI
 rw [atoi_itoa h]
 exact if_pos ⟨rfl,h.1,h.2⟩
theorem numI_some {w:List UInt8} {n:Int} (h:numI w=some n) : -9999999 ≤ n∧n ≤ 9999999∧w=Lib.itoa n:=by
 unfold numI at h
 split at h
 ·split at h
  ·next hx=>cases h;exact ⟨hx.2.1,hx.2.2,hx.1.symm⟩
  ·cases h
 ·cases h
theorem signI_sign {n:Int} (h:1 ≤ n∧n ≤ 5):signI (Term.sign n)=n:=by
 have:n=1∨n=2∨n=3∨n=4∨n=5:=by omega
 rcases this with rfl | rfl | rfl | rfl | rfl<;>decide
theorem sign_signI {w:List UInt8} (h:1 ≤ signI w):w=Term.sign (signI w):=by
 unfold signI at h ⊢
 simp only [idx] at h ⊢
 repeat' split at h
 all_goals first | (exfalso;omega) | (subst_vars;decide)
namespace Term
theorem Head.s_some {t:Term} {c:Words} (h:Head t):readS t.k (opt t.s ++ c)=some (t.s,c):=by
 have h1:=h.nm
 unfold namesOk at h1
 unfold readS
 by_cases h14:t.k=14
 ·rw [if_pos h14] at h1
  simp only [Bool.and_eq_true] at h1
  have hs:=(name_len h1.1).2
  rw [if_pos (.inl (by rw [h14];rfl))]
  unfold opt
  rw [if_neg hs];rfl
 ·rw [if_neg h14] at h1
  simp only [Bool.and_eq_true,beq_iff_eq,Bool.or_eq_true,decide_eq_true_eq] at h1
  by_cases hb:bindsS t.k=true∨t.k=3
  ·have hn:isName false t.s=true:=by rw [h1.2.1];rcases hb with hb | hb<;>simp [hb]
   rw [if_pos hb]
   unfold opt
   rw [if_neg (name_len hn).2];rfl
  ·have hn:isName false t.s=false:=by
    rw [h1.2.1]
    simp only [not_or] at hb
    simp [hb.1,hb.2]
   have hs:t.s=[]:=by rcases h1.2.2 with e | e;exact e;rw [hn] at e;cases e
   rw [if_neg hb,hs];rfl
theorem Head.z_some {t:Term} {c:Words} (h:Head t):readZ t.k (opt t.z ++ c)=some (t.z,c):=by
 have h1:=h.nm
 unfold namesOk at h1
 unfold readZ
 by_cases h14:t.k=14
 ·rw [if_pos h14] at h1
  simp only [Bool.and_eq_true] at h1
  rw [if_pos h14]
  unfold opt
  rw [if_neg (name_len h1.2.1).2];rfl
 ·rw [if_neg h14] at h1
  simp only [Bool.and_eq_true,decide_eq_true_eq] at h1
  rw [if_neg h14,h1.1];rfl
theorem seq_tys {d:Nat} (hd:6 ≤ d):∀ (l:List Ty) (c:Words),(∀ x ∈ l,x.right)→seqR (rd d) l.length (Ty.toksL l ++ c)=some (l,c)
 |[],c,_=>rfl
 |x :: l,c,h=>by
  have hx:=h x (by simp)
  rw [List.length_cons,seqR,Ty.toksL_cons,List.append_assoc,Ty.rd_toks x hx.1 d (by have:=hx.2.1;omega)]
  simp only [Option.bind_some]
  rw [seq_tys hd l c fun y hy=>h y (by simp [hy])]
  rfl
theorem Head.n_zero {t:Term} (h:Head t) (h1:¬ (t.k=1∨t.k=6∨t.k=7)) (h2:t.k ≠ 2) (h15:t.k ≠ 15):t.n=0:=by
 have hn:=h.num
 unfold numberOk at hn
 simp only [not_or] at h1
 rw [if_neg h1.1,if_neg h2,if_neg h1.2.1,if_neg h1.2.2,if_neg h15] at hn
 exact of_decide_eq_true hn
theorem Head.n_some {t:Term} {c:Words} (h:Head t) (h2:t.k ≠ 2):readN t.k (numW t ++ (Ty.toksL t.ts ++ c))=some ((t.n,t.ts),c):=by
 unfold readN numW
 by_cases h1:t.k=1∨t.k=6∨t.k=7
 ·rw [if_pos h1,if_pos h1,h.ts_nil (by omega)]
  have:=h.i
  show (numI (Lib.itoa t.n)).map _=_
  rw [numI_itoa ⟨by omega,by omega⟩]
  rfl
 ·rw [if_neg h1,if_neg h1]
  by_cases h15:t.k=15
  ·have hn:=h.num
   unfold numberOk at hn
   simp only [h15] at hn
   rw [if_pos h15,if_pos h15,h.ts_nil (by omega)]
   show some ((signI (sign t.n),[]),_)=_
   rw [signI_sign (of_decide_eq_true hn)]
   rfl
  ·rw [if_neg h15,if_neg h15,h.n_zero h1 h2 h15]
   by_cases h3:t.k=3
   ·have hl:=h.ts
    rw [if_pos h3] at hl
    rw [if_pos h3,if_pos h3]
    show ((numI (Lib.itoa t.ts.length)).bind _)=_
    rw [numI_itoa ⟨by omega,by omega⟩]
    simp only [Option.bind_some]
    rw [if_pos ⟨by omega,by omega⟩,Int.toNat_natCast]
    show (seqR (rd 6) t.ts.length (Ty.toksL t.ts ++ c)).map _=_
    rw [seq_tys (Nat.le_refl _) t.ts c h.tsr]
    rfl
   ·rw [if_neg h3,if_neg h3,h.ts_nil h3]
    rfl
theorem t_some {t:Term} {c:Words} (h:t.head=true):readT t.k ((if hasT t.k=true then t.t.toks else []) ++ c)=some (t.t,c):=by
 have hh:=head_of h
 unfold readT
 cases e:hasT t.k with
 |true=>
  rw [if_pos rfl,if_pos rfl]
  have hr:=hh.ty e
  exact Ty.rd_toks t.t hr.1 6 hr.2.1 c
 |false=>
  rw [if_neg (by simp),if_neg (by simp)]
  unfold head at h
  simp only [Bool.and_eq_true,Bool.or_eq_true,e] at h
  have:=h.2.2.2.2.2.1
  rw [zero_of (this.resolve_left (by simp))]
  rfl
theorem kw_bool {k:Int} (hk:kindOf (kword k)=k) (h2:k ≠ 2):¬ (kword k=[116]∨kword k=[117]):=by
 rintro (e | e)<;>(rw [e] at hk;exact h2 (hk.symm.trans (by decide)))
theorem depthL_mem {l:List Term}:∀ {u:Term},u ∈ l→u.depth ≤ depthL l:=by
 induction l with
 |nil=>intro u h;cases h
 |cons x l ih=>
  intro u h
  rw [depthL_cons]
  rcases List.mem_cons.1 h with rfl | h
  ·omega
  ·have:=ih h;omega
theorem bool_first {t:Term} (h2:t.k=2):first t=[116]∨first t=[117]:=by
 unfold first
 rw [if_pos h2]
 split
 ·exact .inl rfl
 ·exact .inr rfl
theorem rdI_toks:∀ t:Term,t.good→∀ (d:Nat),t.depth ≤ d→∀ r,rdI d (t.toks ++ r)=some (t,r):=ind fun t ih hg d hd r=>by
 obtain ⟨hh,hp⟩:=(good_def t).1 hg
 have H:=head_of hh
 rw [depth_def] at hd
 obtain ⟨e,rfl⟩:∃ e,d=e + 1:=⟨d - 1,by omega⟩
 have:∀ l:List Term,(∀ u ∈ l,u ∈ t.a)→seqR (rdI e) l.length (toksL l ++ r)=some (l,r):=by
  intro l
  induction l with
  |nil=>intro _;rfl
  |cons u l ihl=>
   intro hl
   have hu:=hl u (by simp)
   rw [List.length_cons,seqR,toksL_cons,List.append_assoc,ih u hu (hp u hu) e (by have:=depthL_mem hu;omega)]
   simp only [Option.bind_some]
   rw [ihl fun x hx=>hl x (by simp [hx])]
   rfl
 rw [toks_def,List.cons_append,rdI]
 by_cases h2:t.k=2
 ·obtain ⟨e1,e2⟩:=bool_rest H hh h2
  have ha:t.a=[]:=congrArg Term.a e2
  rw [if_pos (bool_first h2),e1,ha,← e2]
  rfl
 ·have hw:first t=kword t.k:=if_neg h2
  have hk:=kindOf_kword H.k
  have hkr:=H.k
  have hpt:(parts t.k).toNat=t.a.length:=by have:=H.a;omega
  rw [hw,if_neg (kw_bool hk h2),hk,if_neg (by omega)]
  unfold rest
  simp only [List.append_assoc]
  rw [H.s_some]
  simp only [Option.bind_some]
  rw [H.z_some]
  simp only [Option.bind_some]
  rw [H.n_some h2]
  simp only [Option.bind_some]
  rw [t_some hh]
  simp only [Option.bind_some]
  rw [hpt,this t.a fun u hu=>hu]
  simp only [Option.map_some]
  rw [eta]
theorem pop_some {c c1:Words} {w:List UInt8} (h:pop c=some (w,c1)):c=w :: c1:=by
 cases c with
 |nil=>cases h
 |cons x c=>cases h;rfl
theorem Head.s_back {t:Term} (H:Head t) {c c1:Words} (h:readS t.k c=some (t.s,c1)):c=opt t.s ++ c1:=by
 have h1:=H.nm
 unfold namesOk at h1
 unfold readS at h
 split at h
 ·next hb=>
  have hn:isName false t.s=true:=by
   split at h1
   ·simp only [Bool.and_eq_true] at h1;exact h1.1
   ·simp only [Bool.and_eq_true,beq_iff_eq] at h1
    rw [h1.2.1];rcases hb with hb | hb<;>simp [hb]
  have:=pop_some h
  unfold opt
  rw [if_neg (name_len hn).2]
  exact this
 ·simp only [Option.some.injEq,Prod.mk.injEq] at h
  obtain ⟨e,rfl⟩:=h
  rw [← e];rfl
theorem Head.z_back {t:Term} (H:Head t) {c c1:Words} (h:readZ t.k c=some (t.z,c1)):c=opt t.z ++ c1:=by
 have h1:=H.nm
 unfold namesOk at h1
 unfold readZ at h
 split at h
 ·next hb=>
  rw [if_pos hb] at h1
  simp only [Bool.and_eq_true] at h1
  have:=pop_some h
  unfold opt
  rw [if_neg (name_len h1.2.1).2]
  exact this
 ·simp only [Option.some.injEq,Prod.mk.injEq] at h
  obtain ⟨e,rfl⟩:=h
  rw [← e];rfl
end Term
theorem kw_back {w:List UInt8} {k n:Int} (h:kw w=some (k,n)):w=Ty.word k n:=by
 unfold kw at h
 repeat' split at h
 all_goals first | (cases h;done) | skip
 all_goals (simp only [Option.some.injEq,Prod.mk.injEq] at h;obtain ⟨rfl,rfl⟩:=h;subst_vars)
 all_goals first | rfl | (show _=118 :: Lib.itoa _;rw [Ty.itoa_digit (by omega)];rfl)
theorem rd_back:∀ (d:Nat) (c:Words) (t:Ty) (r:Words),rd d c=some (t,r)→c=t.toks ++ r
 |0,c,t,r,h=>by cases h
 |d + 1,[],t,r,h=>by cases h
 |d + 1,w :: c,t,r,h=>by
  unfold rd at h
  obtain ⟨⟨k,n⟩,h1,h⟩:=Option.bind_eq_some_iff.1 h
  obtain ⟨⟨l,r1⟩,h2,h⟩:=Option.map_eq_some_iff.1 h
  obtain ⟨e1,e2⟩:=Prod.mk.inj h
  have:∀ (m:Nat) (c:Words) (l:List Ty) (r:Words),seqR (rd d) m c=some (l,r)→c=Ty.toksL l ++ r:=by
   intro m
   induction m with
   |zero=>intro c l r h;cases h;rfl
   |succ m ih=>
    intro c l r h
    unfold seqR at h
    obtain ⟨⟨t,r1⟩,h1,h⟩:=Option.bind_eq_some_iff.1 h
    obtain ⟨⟨l2,r2⟩,h2,h⟩:=Option.map_eq_some_iff.1 h
    obtain ⟨e1,e2⟩:=Prod.mk.inj h
    rw [← e1,← e2,Ty.toksL_cons,List.append_assoc,← ih _ _ _ h2]
    exact rd_back d c t r1 h1
  rw [← e1,← e2,Ty.toks_def,List.cons_append]
  simp only [Ty.k_mk,Ty.n_mk,Ty.a_mk]
  rw [← this _ _ _ _ h2,kw_back h1]
theorem seqR_back {d:Nat}:∀ (m:Nat) (c:Words) (l:List Ty) (r:Words),seqR (rd d) m c=some (l,r)→c=Ty.toksL l ++ r
 |0,c,l,r,h=>by cases h;rfl
 |m + 1,c,l,r,h=>by
  unfold seqR at h
  obtain ⟨⟨t,r1⟩,h1,h⟩:=Option.bind_eq_some_iff.1 h
  obtain ⟨⟨l2,r2⟩,h2,h⟩:=Option.map_eq_some_iff.1 h
  obtain ⟨e1,e2⟩:=Prod.mk.inj h
  rw [← e1,← e2,Ty.toksL_cons,List.append_assoc,← seqR_back _ _ _ _ h2]
  exact rd_back d c t r1 h1
namespace Term
theorem Head.n_back {t:Term} (H:Head t) {c c1:Words} (h:readN t.k c=some ((t.n,t.ts),c1)):c=numW t ++ (Ty.toksL t.ts ++ c1):=by
 unfold readN at h
 unfold numW
 split at h
 ·next h1=>
  rw [if_pos h1]
  obtain ⟨⟨w,c2⟩,e1,h⟩:=Option.bind_eq_some_iff.1 h
  obtain ⟨n,e2,h⟩:=Option.map_eq_some_iff.1 h
  simp only [Prod.mk.injEq] at h
  obtain ⟨⟨q1,q2⟩,q3⟩:=h
  rw [← q2,← q3,← q1,pop_some e1,← (numI_some e2).2.2]
  rfl
 ·next h1=>
  rw [if_neg h1]
  split at h
  ·next h15=>
   rw [if_pos h15]
   obtain ⟨⟨w,c2⟩,e1,h⟩:=Option.map_eq_some_iff.1 h
   simp only [Prod.mk.injEq] at h
   obtain ⟨⟨q1,q2⟩,q3⟩:=h
   have hn:=H.num
   rw [h15,← q1] at hn
   have hn:1 ≤ signI w∧signI w ≤ 5:=of_decide_eq_true hn
   rw [← q2,← q3,← q1,pop_some e1,← sign_signI hn.1]
   rfl
  ·next h15=>
   rw [if_neg h15]
   split at h
   ·next h3=>
    rw [if_pos h3]
    obtain ⟨⟨w,c2⟩,e1,h⟩:=Option.bind_eq_some_iff.1 h
    obtain ⟨n,e2,h⟩:=Option.bind_eq_some_iff.1 h
    split at h
    ·next hn=>
     obtain ⟨⟨l,c3⟩,e3,h⟩:=Option.map_eq_some_iff.1 h
     simp only [Prod.mk.injEq] at h
     obtain ⟨⟨q1,q2⟩,q3⟩:=h
     have hl:=(seqR_used (rd_used 6) _ _ _ _ e3).1
     have hw:=(numI_some e2).2.2
     have:n=(l.length:Int):=by omega
     rw [← q2,← q3,pop_some e1,← this,← hw]
     simp only
     have e4:=seqR_back _ _ _ _ e3
     simp only at e4
     rw [e4]
     rfl
    ·cases h
   ·next h3=>
    rw [if_neg h3]
    simp only [Option.some.injEq,Prod.mk.injEq] at h
    obtain ⟨⟨q1,q2⟩,q3⟩:=h
    rw [← q2,← q3]
    rfl
theorem t_back {t:Term} {c c1:Words} (h:readT t.k c=some (t.t,c1)):c=(if hasT t.k=true then t.t.toks else []) ++ c1:=by
 unfold readT at h
 split at h
 ·next e=>rw [if_pos e];exact rd_back _ _ _ _ h
 ·next e=>
  rw [if_neg e]
  simp only [Option.some.injEq,Prod.mk.injEq] at h
  exact h.2
theorem rdI_back:∀ (d:Nat) (c:Words) (t:Term) (r:Words),rdI d c=some (t,r)→t.good→c=t.toks ++ r:=by
 have hb:∀ (w:List UInt8) (c:Words) (t:Term) (r:Words),(w=[116]∨w=[117])→some (Term.mk 2 (if w=[116] then 1 else 0) [] [] Ty.zero [] [],c)=some (t,r)→w :: c=t.toks ++ r:=by
  intro w c t r hw h
  simp only [Option.some.injEq,Prod.mk.injEq] at h
  obtain ⟨rfl,rfl⟩:=h
  rcases hw with rfl | rfl<;>(rw [toks_def];rfl)
 intro d
 induction d with
 |zero=>
  intro c t r h hg
  cases c with
  |nil=>cases h
  |cons w c=>
   unfold rdI at h
   split at h
   ·next hw=>exact hb w c t r hw h
   ·cases h
 |succ d ih=>
  intro c t r h hg
  cases c with
  |nil=>cases h
  |cons w c=>
   unfold rdI at h
   split at h
   ·next hw=>exact hb w c t r hw h
   ·next hw=>
    split at h
    ·cases h
    ·next hk0=>
     obtain ⟨⟨s,c1⟩,e1,h⟩:=Option.bind_eq_some_iff.1 h
     obtain ⟨⟨z,c2⟩,e2,h⟩:=Option.bind_eq_some_iff.1 h
     obtain ⟨⟨⟨n,ts⟩,c3⟩,e3,h⟩:=Option.bind_eq_some_iff.1 h
     obtain ⟨⟨y,c4⟩,e4,h⟩:=Option.bind_eq_some_iff.1 h
     obtain ⟨⟨a,c5⟩,e5,h⟩:=Option.map_eq_some_iff.1 h
     simp only [Prod.mk.injEq] at h
     obtain ⟨ht,rfl⟩:=h
     obtain ⟨hh,hp⟩:=(good_def t).1 hg
     have H:=head_of hh
     simp only [not_or] at hw
     have hwk:=kword_of hk0 hw.2
     have hk2:t.k ≠ 2:=by
      rw [← ht]
      intro e
      simp only [k_mk] at e
      rw [e] at hwk
      exact hw.1 hwk
     have hs:∀ (m:Nat) (c:Words) (l:List Term) (r:Words),seqR (rdI d) m c=some (l,r)→(∀ u ∈ l,u.good)→c=toksL l ++ r:=by
      intro m
      induction m with
      |zero=>intro c l r h _;cases h;rfl
      |succ m ihm=>
       intro c l r h hl
       unfold seqR at h
       obtain ⟨⟨t,r1⟩,h1,h⟩:=Option.bind_eq_some_iff.1 h
       obtain ⟨⟨l2,r2⟩,h2,h⟩:=Option.map_eq_some_iff.1 h
       obtain ⟨q1,q2⟩:=Prod.mk.inj h
       rw [← q1] at hl
       rw [← q1,← q2,toksL_cons,List.append_assoc,← ihm _ _ _ h2 fun u hu=>hl u (by simp [hu])]
       exact ih c t r1 h1 (hl t (by simp))
     have hf:w=first t:=by
      unfold first
      rw [if_neg hk2,← ht]
      exact hwk
     have ek:kindOf w=t.k:=congrArg Term.k ht
     have es:s=t.s:=congrArg Term.s ht
     have ez:z=t.z:=congrArg Term.z ht
     have en:n=t.n:=congrArg Term.n ht
     have ets:ts=t.ts:=congrArg Term.ts ht
     have ey:y=t.t:=congrArg Term.t ht
     have ea:a=t.a:=congrArg Term.a ht
     rw [ek,es] at e1
     rw [ek,ez] at e2
     rw [ek,en,ets] at e3
     rw [ek,ey] at e4
     rw [ea] at e5
     replace e2:readZ t.k c1=some (t.z,c2):=e2
     replace e3:readN t.k c2=some ((t.n,t.ts),c3):=e3
     replace e4:readT t.k c3=some (t.t,c4):=e4
     replace e5:seqR (rdI d) (parts (kindOf w)).toNat c4=some (t.a,c5):=e5
     rw [toks_def,hf]
     unfold rest
     simp only [List.cons_append,List.append_assoc]
     rw [H.s_back e1]
     try simp only
     rw [H.z_back e2]
     try simp only
     rw [H.n_back e3]
     try simp only
     rw [t_back e4]
     try simp only
     rw [hs _ _ _ _ e5 hp]
theorem dec_plain:∀ (k u:Nat),u < k→∀ c ∈ Lib.decDigits u,c ≠ 32
 |0,u,h=>by omega
 |k + 1,u,h=>by
  have hd:∀ d:Nat,d < 10→UInt8.ofNat (48 + d) ≠ 32:=by
   intro d hd e
   have:=digit_nat hd
   rw [e] at this
   have e2:(32:UInt8).toNat=32:=rfl
   omega
  by_cases h10:u < 10
  ·rw [Lib.decDigits_one h10]
   intro c hc
   rw [List.mem_singleton.1 hc]
   exact hd u h10
  ·have e2:Lib.decDigits u=Lib.decDigits (u / 10) ++ [UInt8.ofNat (48 + u % 10)]:=by rw [Lib.decDigits,dif_neg h10]
   rw [e2]
   intro c hc
   rcases List.mem_append.1 hc with hc | hc
   ·exact dec_plain k (u / 10) (by omega) c hc
   ·rw [List.mem_singleton.1 hc]
    exact hd _ (by omega)
theorem itoa_plain (n:Int):∀ c ∈ Lib.itoa n,c ≠ 32:=by
 unfold Lib.itoa
 split
 ·intro c hc
  rcases List.mem_cons.1 hc with rfl | hc
  ·decide
  ·exact dec_plain _ _ (Nat.lt_succ_self _) c hc
 ·exact dec_plain _ _ (Nat.lt_succ_self _)
theorem name_plain {s:List UInt8} (h:isName false s=true):∀ c ∈ s,c ≠ 32:=by
 unfold isName at h
 simp only [Bool.and_eq_true,List.all_eq_true] at h
 intro c hc e
 have:=h.2.2 c hc
 rw [e] at this
 exact absurd this (by decide)
theorem opt_plain {s:List UInt8} (h:s=[]∨isName false s=true):∀ w ∈ opt s,∀ c ∈ w,c ≠ 32:=by
 unfold opt
 intro w hw
 split at hw
 ·cases hw
 ·next hn=>
  rw [List.mem_singleton.1 hw]
  exact name_plain (h.resolve_left hn)
theorem Head.s_name {t:Term} (H:Head t):t.s=[]∨isName false t.s=true:=by
 have h1:=H.nm
 unfold namesOk at h1
 split at h1
 ·simp only [Bool.and_eq_true] at h1;exact .inr h1.1
 ·simp only [Bool.and_eq_true,Bool.or_eq_true,decide_eq_true_eq] at h1;exact h1.2.2
theorem Head.z_name {t:Term} (H:Head t):t.z=[]∨isName false t.z=true:=by
 have h1:=H.nm
 unfold namesOk at h1
 split at h1
 ·simp only [Bool.and_eq_true] at h1;exact .inr h1.2.1
 ·simp only [Bool.and_eq_true,decide_eq_true_eq] at h1;exact .inl h1.1
theorem ite_plain {p:Prop} [Decidable p] {a b:List UInt8} (ha:∀ c ∈ a,c ≠ 32) (hb:∀ c ∈ b,c ≠ 32):∀ c ∈ (if p then a else b),c ≠ 32:=by split<;>assumption
theorem kword_plain (k:Int):∀ c ∈ kword k,c ≠ 32:=by
 unfold kword
 repeat' apply ite_plain
 all_goals decide
theorem first_plain (t:Term):∀ c ∈ first t,c ≠ 32:=by
 unfold first
 split
 ·split<;>decide
 ·exact kword_plain _
theorem numW_plain (t:Term):∀ w ∈ numW t,∀ c ∈ w,c ≠ 32:=by
 unfold numW
 intro w hw
 split at hw
 ·rw [List.mem_singleton.1 hw];exact itoa_plain _
 ·split at hw
  ·rw [List.mem_singleton.1 hw]
   unfold sign
   repeat' split
   all_goals decide
  ·split at hw
   ·rw [List.mem_singleton.1 hw];exact itoa_plain _
   ·cases hw
theorem toksL_plain {l:List Ty} (h:∀ x ∈ l,x.right):∀ w ∈ Ty.toksL l,∀ c ∈ w,c ≠ 32:=by
 intro w hw
 unfold Ty.toksL at hw
 obtain ⟨q,hq,hw⟩:=List.mem_flatten.1 hw
 obtain ⟨x,hx,rfl⟩:=List.mem_map.1 hq
 exact Ty.toks_plain x (h x hx).1 w hw
theorem rest_plain {t:Term} (H:Head t):∀ w ∈ rest t,∀ c ∈ w,c ≠ 32:=by
 unfold rest
 intro w hw
 rcases List.mem_append.1 hw with hw | hw
 ·exact opt_plain H.s_name w hw
 rcases List.mem_append.1 hw with hw | hw
 ·exact opt_plain H.z_name w hw
 rcases List.mem_append.1 hw with hw | hw
 ·exact numW_plain t w hw
 rcases List.mem_append.1 hw with hw | hw
 ·exact toksL_plain H.tsr w hw
 ·split at hw
  ·next e=>exact Ty.toks_plain t.t (H.ty e).1 w hw
  ·cases hw
theorem toks_plain:∀ t:Term,t.good→∀ w ∈ t.toks,∀ c ∈ w,c ≠ 32:=ind fun t ih hg=>by
 obtain ⟨hh,hp⟩:=(good_def t).1 hg
 rw [toks_def]
 intro w hw
 rcases List.mem_cons.1 hw with rfl | hw
 ·exact first_plain t
 ·rcases List.mem_append.1 hw with hw | hw
  ·exact rest_plain (head_of hh) w hw
  ·unfold toksL at hw
   obtain ⟨l,hl,hw⟩:=List.mem_flatten.1 hw
   obtain ⟨u,hu,rfl⟩:=List.mem_map.1 hl
   exact ih u hu (hp u hu) w hw
theorem cut_text {t:Term} (h:t.good):cutP [] t.text=t.toks:=by
 have h1:=toks_plain t h
 unfold text
 rw [toks_def,Lib.join_cons]
 rw [toks_def] at h1
 exact Ty.cut_join _ _ (h1 _ (by simp)) fun w hw=>h1 w (by simp [hw])
theorem cutP_cons:∀ (s p:List UInt8),∃ a b,cutP p s=a :: b
 |[],p=>⟨_,_,rfl⟩
 |x :: s,p=>by
  unfold cutP
  split
  ·exact ⟨_,_,rfl⟩
  ·exact cutP_cons s _
theorem join_cut:∀ (s p:List UInt8),Lib.join (cutP p s) [32]=p ++ s
 |[],p=>by simp [cutP,Lib.join_cons,joinTail_nil]
 |x :: s,p=>by
  unfold cutP
  split
  ·next hx=>
   obtain ⟨a,b,e⟩:=cutP_cons s []
   have ih:=join_cut s []
   rw [e,Lib.join_cons] at ih
   rw [Lib.join_cons,e,Ty.joinTail_cons,hx]
   simp only [List.nil_append] at ih
   rw [← ih]
   simp
  ·rw [join_cut s (p ++ [x])]
   simp
noncomputable def parse (s:List UInt8):Option Term:=match rdI 24 (cutP [] s) with
 |some (t,[])=>if t.right then some t else none
 |_=>none
theorem parse_text {t:Term} (h:t.right):parse t.text=some t:=by
 have:=rdI_toks t h.1 24 h.2.1 []
 rw [List.append_nil] at this
 unfold parse
 rw [cut_text h.1,this]
 exact if_pos h
theorem parse_some {s:List UInt8} {t:Term} (h:parse s=some t):t.right∧t.text=s:=by
 unfold parse at h
 split at h
 ·next u e=>
  split at h
  ·next hr=>
   cases h
   have hb:=rdI_back _ _ _ _ e hr.1
   rw [List.append_nil] at hb
   refine ⟨hr,?_⟩
   unfold text
   rw [← hb,join_cut]
   rfl
  ·cases h
 ·cases h
end Term
end Go.Proofs.YtegbnddjgifcdaaGreatDoor.Abs

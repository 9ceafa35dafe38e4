/- A part. -/
import Derived.Test.YtegbnddjgifcdaaGreatDoorTermReadS
import Derived.Test.YtegbnddjgifcdaaGreatDoorTermPlain
set_option linter.unusedVariables false
set_option linter.unusedSectionVars false
set_option linter.unusedSimpArgs false
set_option maxRecDepth 100000
set_option maxHeartbeats 2000000
namespace Go.Proofs.YtegbnddjgifcdaaGreatDoor.Abs
open Go Go.Proofs
open Classical
theorem kind_hit {k:Int} (h:1 ≤ k∧k ≤ 17):LL f_s_l2Kind 0 lc_s_l2Kind_0 [] k_s_l2Kind_0 ((Term.kword k,k,()),())=some (.ret (.int .i64 k,[])):=by
 apply gl_s_l2Kind_0
 unfold nl_s_l2Kind_0
 exact br_T (decide_eq_true h.2) (bd (l2Word_law h) (bd rfl (br_T (decide_eq_true rfl) rfl)))
theorem kind_miss {w:List UInt8} {Q:LO k_s_l2Kind_0.T→Prop} {k:Int} (h:1 ≤ k∧k ≤ 17) (hw:w ≠ Term.kword k) (h2:∃ X,LL f_s_l2Kind 0 lc_s_l2Kind_0 [] k_s_l2Kind_0 ((w,k + 1,()),())=some X∧Q X) :
  ∃ X,LL f_s_l2Kind 0 lc_s_l2Kind_0 [] k_s_l2Kind_0 ((w,k,()),())=some X∧Q X:=by
 obtain ⟨X,hX,hQ⟩:=h2
 refine ⟨X,?_,hQ⟩
 have hk:IntKind.i64.wrap (k + 1)=k + 1:=by rw [wrap_i64]<;>omega
 apply gl_s_l2Kind_0
 unfold nl_s_l2Kind_0
 refine br_T (decide_eq_true h.2) (bd (l2Word_law h) (bd rfl (br_F (decide_eq_false fun e=>hw e.symm) ?_)))
 rw [hk]
 exact hX
theorem l2Kind_law (w:List UInt8):CC f_s_l2Kind [.v (.str w)] []=some (.int .i64 (kindOf w),[]):=by
 apply go_s_l2Kind
 unfold nf_s_l2Kind
 by_cases hu:w=[117]
 ·refine br_T (decide_eq_true hu) ?_
  rw [hu];rfl
 refine br_F (decide_eq_false hu) ?_
 have h:∃ X,LL f_s_l2Kind 0 lc_s_l2Kind_0 [] k_s_l2Kind_0 ((w,1,()),())=some X∧(loK X (fun r=>some r) fun j p=>br (j == 0) (some (CVal.int .i64 0,[])) none)=some (CVal.int .i64 (kindOf w),[]):=by
  unfold kindOf
  rw [if_neg hu]
  by_cases q:w=[110]
  ·exact ⟨_,by rw [show w=Term.kword 1 from q];exact kind_hit (k:=1) (by decide),by rw [if_pos q];rfl⟩
  refine kind_miss (k:=1) (by decide) q ?_
  rw [if_neg q]
  by_cases q:w=[116]
  ·exact ⟨_,by rw [show w=Term.kword 2 from q];exact kind_hit (k:=2) (by decide),by rw [if_pos q];rfl⟩
  refine kind_miss (k:=2) (by decide) q ?_
  rw [if_neg q]
  by_cases q:w=[118]
  ·exact ⟨_,by rw [show w=Term.kword 3 from q];exact kind_hit (k:=3) (by decide),by rw [if_pos q];rfl⟩
  refine kind_miss (k:=3) (by decide) q ?_
  rw [if_neg q]
  by_cases q:w=[102,110]
  ·exact ⟨_,by rw [show w=Term.kword 4 from q];exact kind_hit (k:=4) (by decide),by rw [if_pos q];rfl⟩
  refine kind_miss (k:=4) (by decide) q ?_
  rw [if_neg q]
  by_cases q:w=[97,112,112]
  ·exact ⟨_,by rw [show w=Term.kword 5 from q];exact kind_hit (k:=5) (by decide),by rw [if_pos q];rfl⟩
  refine kind_miss (k:=5) (by decide) q ?_
  rw [if_neg q]
  by_cases q:w=[108,101,116]
  ·exact ⟨_,by rw [show w=Term.kword 6 from q];exact kind_hit (k:=6) (by decide),by rw [if_pos q];rfl⟩
  refine kind_miss (k:=6) (by decide) q ?_
  rw [if_neg q]
  by_cases q:w=[102,105,120]
  ·exact ⟨_,by rw [show w=Term.kword 7 from q];exact kind_hit (k:=7) (by decide),by rw [if_pos q];rfl⟩
  refine kind_miss (k:=7) (by decide) q ?_
  rw [if_neg q]
  by_cases q:w=[105,102]
  ·exact ⟨_,by rw [show w=Term.kword 8 from q];exact kind_hit (k:=8) (by decide),by rw [if_pos q];rfl⟩
  refine kind_miss (k:=8) (by decide) q ?_
  rw [if_neg q]
  by_cases q:w=[112,97,105,114]
  ·exact ⟨_,by rw [show w=Term.kword 9 from q];exact kind_hit (k:=9) (by decide),by rw [if_pos q];rfl⟩
  refine kind_miss (k:=9) (by decide) q ?_
  rw [if_neg q]
  by_cases q:w=[102,115,116]
  ·exact ⟨_,by rw [show w=Term.kword 10 from q];exact kind_hit (k:=10) (by decide),by rw [if_pos q];rfl⟩
  refine kind_miss (k:=10) (by decide) q ?_
  rw [if_neg q]
  by_cases q:w=[115,110,100]
  ·exact ⟨_,by rw [show w=Term.kword 11 from q];exact kind_hit (k:=11) (by decide),by rw [if_pos q];rfl⟩
  refine kind_miss (k:=11) (by decide) q ?_
  rw [if_neg q]
  by_cases q:w=[110,105,108]
  ·exact ⟨_,by rw [show w=Term.kword 12 from q];exact kind_hit (k:=12) (by decide),by rw [if_pos q];rfl⟩
  refine kind_miss (k:=12) (by decide) q ?_
  rw [if_neg q]
  by_cases q:w=[99,111,110,115]
  ·exact ⟨_,by rw [show w=Term.kword 13 from q];exact kind_hit (k:=13) (by decide),by rw [if_pos q];rfl⟩
  refine kind_miss (k:=13) (by decide) q ?_
  rw [if_neg q]
  by_cases q:w=[99,97,115,101]
  ·exact ⟨_,by rw [show w=Term.kword 14 from q];exact kind_hit (k:=14) (by decide),by rw [if_pos q];rfl⟩
  refine kind_miss (k:=14) (by decide) q ?_
  rw [if_neg q]
  by_cases q:w=[111,112]
  ·exact ⟨_,by rw [show w=Term.kword 15 from q];exact kind_hit (k:=15) (by decide),by rw [if_pos q];rfl⟩
  refine kind_miss (k:=15) (by decide) q ?_
  rw [if_neg q]
  by_cases q:w=[114,97,105,115,101]
  ·exact ⟨_,by rw [show w=Term.kword 16 from q];exact kind_hit (k:=16) (by decide),by rw [if_pos q];rfl⟩
  refine kind_miss (k:=16) (by decide) q ?_
  rw [if_neg q]
  by_cases q:w=[116,114,121]
  ·exact ⟨_,by rw [show w=Term.kword 17 from q];exact kind_hit (k:=17) (by decide),by rw [if_pos q];rfl⟩
  refine kind_miss (k:=17) (by decide) q ?_
  rw [if_neg q]
  refine ⟨.out 0 ((w,18,()),()),?_,rfl⟩
  apply gl_s_l2Kind_0
  unfold nl_s_l2Kind_0
  exact br_F (by decide) rfl
 obtain ⟨X,hX,hQ⟩:=h
 exact bd hX hQ
theorem sign_hit {k:Int} (h:1 ≤ k∧k ≤ 5):LL f_s_l2Sign 0 lc_s_l2Sign_0 [] k_s_l2Sign_0 ((Term.sign k,k,()),())=some (.ret (.int .i64 k,[])):=by
 apply gl_s_l2Sign_0
 unfold nl_s_l2Sign_0
 exact br_T (decide_eq_true h.2) (br_T (by simp;omega) (br_T (by simp;omega) (bd (Term.sign_at h) (bd rfl (bd rfl (br_T (decide_eq_true rfl) rfl))))))
theorem sign_miss {w:List UInt8} {Q:LO k_s_l2Sign_0.T→Prop} {k:Int} (h:1 ≤ k∧k ≤ 5) (hw:w ≠ Term.sign k) (h2:∃ X,LL f_s_l2Sign 0 lc_s_l2Sign_0 [] k_s_l2Sign_0 ((w,k + 1,()),())=some X∧Q X) :
  ∃ X,LL f_s_l2Sign 0 lc_s_l2Sign_0 [] k_s_l2Sign_0 ((w,k,()),())=some X∧Q X:=by
 obtain ⟨X,hX,hQ⟩:=h2
 refine ⟨X,?_,hQ⟩
 have hk:IntKind.i64.wrap (k + 1)=k + 1:=by rw [wrap_i64]<;>omega
 apply gl_s_l2Sign_0
 unfold nl_s_l2Sign_0
 refine br_T (decide_eq_true h.2) (br_T (by simp;omega) (br_T (by simp;omega) (bd (Term.sign_at h) (bd rfl (bd rfl (br_F (decide_eq_false fun e=>hw e.symm) ?_))))))
 rw [hk]
 exact hX
theorem l2Sign_law (w:List UInt8):CC f_s_l2Sign [.v (.str w)] []=some (.int .i64 (signS w),[]):=by
 apply go_s_l2Sign
 unfold nf_s_l2Sign
 have h:∃ X,LL f_s_l2Sign 0 lc_s_l2Sign_0 [] k_s_l2Sign_0 ((w,1,()),())=some X∧(loK X (fun r=>some r) fun j p=>br (j == 0) (some (CVal.int .i64 0,[])) none)=some (CVal.int .i64 (signS w),[]):=by
  unfold signS
  by_cases q:w=[43]
  ·exact ⟨_,by rw [show w=Term.sign 1 from q];exact sign_hit (k:=1) (by decide),by rw [if_pos q];rfl⟩
  refine sign_miss (k:=1) (by decide) q ?_
  rw [if_neg q]
  by_cases q:w=[45]
  ·exact ⟨_,by rw [show w=Term.sign 2 from q];exact sign_hit (k:=2) (by decide),by rw [if_pos q];rfl⟩
  refine sign_miss (k:=2) (by decide) q ?_
  rw [if_neg q]
  by_cases q:w=[42]
  ·exact ⟨_,by rw [show w=Term.sign 3 from q];exact sign_hit (k:=3) (by decide),by rw [if_pos q];rfl⟩
  refine sign_miss (k:=3) (by decide) q ?_
  rw [if_neg q]
  by_cases q:w=[60]
  ·exact ⟨_,by rw [show w=Term.sign 4 from q];exact sign_hit (k:=4) (by decide),by rw [if_pos q];rfl⟩
  refine sign_miss (k:=4) (by decide) q ?_
  rw [if_neg q]
  by_cases q:w=[61]
  ·exact ⟨_,by rw [show w=Term.sign 5 from q];exact sign_hit (k:=5) (by decide),by rw [if_pos q];rfl⟩
  refine sign_miss (k:=5) (by decide) q ?_
  rw [if_neg q]
  refine ⟨.out 0 ((w,6,()),()),?_,rfl⟩
  apply gl_s_l2Sign_0
  unfold nl_s_l2Sign_0
  exact br_F (by decide) rfl
 obtain ⟨X,hX,hQ⟩:=h
 exact bd hX hQ
theorem digits_loop (m:Bool):∀ (suf pre:List UInt8) (n:Int) (j:Nat),(pre ++ suf).length ≤ 7→0 ≤ n→n < 10 ^ j→j + suf.length ≤ 7→
  LL f_s_l2Digits 0 lc_s_l2Digits_0 [] k_s_l2Digits_0 ((pre ++ suf,m,n,(pre.length:Int),()),()) =
   some (match digL n suf with | some v=>.out 0 ((pre ++ suf,m,v,((pre ++ suf).length:Int),()),()) | none=>.ret (.int .i64 9999999,[]))
 |[],pre,n,j,hl,h0,h1,h2=>by
  apply gl_s_l2Digits_0
  unfold nl_s_l2Digits_0
  refine br_F (by simp) ?_
  unfold digL
  simp
 |c :: suf,pre,n,j,hl,h0,h1,h2=>by
  have hj:j=0∨j=1∨j=2∨j=3∨j=4∨j=5∨j=6:=by simp at h2;omega
  have hn:n < 1000000:=by rcases hj with rfl | rfl | rfl | rfl | rfl | rfl | rfl<;>simp at h1<;>omega
  have hc:c.toNat < 256:=c.toNat_lt
  have hg:(pre ++ c :: suf)[((pre.length:Int)).toNat]? = some c:=by simp
  have hw:IntKind.i64.wrap (c.toNat:Int)=(c.toNat:Int):=by rw [wrap_i64]<;>omega
  have hp:IntKind.i64.wrap ((pre.length:Int) + 1)=(pre.length:Int) + 1:=by simp at hl;rw [wrap_i64]<;>omega
  apply gl_s_l2Digits_0
  unfold nl_s_l2Digits_0
  refine br_T (decide_eq_true (by simp;omega)) (br_T (decide_eq_true (by omega)) (bd hg ?_))
  rw [hw,l1In_law,hp]
  refine bd rfl (bd rfl ?_)
  unfold digL
  by_cases hd:48 ≤ c.toNat∧c.toNat ≤ 57
  ·have ih:=digits_loop m suf (pre ++ [c]) (n * 10 + ((c.toNat:Int) - 48)) (j + 1) (by simpa using hl) (by omega) (by rw [Int.pow_succ];omega) (by simp only [List.length_cons] at h2;omega)
   simp only [List.append_assoc,List.singleton_append,List.length_append,List.length_singleton] at ih
   rw [if_pos hd]
   have h8:IntKind.u8.wrap ((c.toNat:Int) - 48)=(c.toNat:Int) - 48:=by
    have:c.toNat=48∨c.toNat=49∨c.toNat=50∨c.toNat=51∨c.toNat=52∨c.toNat=53∨c.toNat=54∨c.toNat=55∨c.toNat=56∨c.toNat=57:=by omega
    rcases this with e | e | e | e | e | e | e | e | e | e<;>rw [e]<;>rfl
   have h9:IntKind.i64.wrap (IntKind.i64.wrap (n * 10) + IntKind.i64.wrap ((c.toNat:Int) - 48))=n * 10 + ((c.toNat:Int) - 48):=by
    have a1:IntKind.i64.wrap (n * 10)=n * 10:=by rw [wrap_i64]<;>omega
    have a2:IntKind.i64.wrap ((c.toNat:Int) - 48)=(c.toNat:Int) - 48:=by rw [wrap_i64]<;>omega
    rw [a1,a2,wrap_i64]<;>omega
   refine br_F (by simp;omega) (br_T (decide_eq_true (by omega)) (bd hg ?_))
   rw [h8,h9]
   simpa using ih
  ·rw [if_neg hd]
   refine br_T (by simp;omega) rfl
theorem digS_cons (c:UInt8) (r:List UInt8):digS (c :: r)=if c=45 then (match digU r with | some n=>-n | none=>9999999) else (match digU (c :: r) with | some n=>n | none=>9999999):=rfl
theorem l2Digits_law (w:List UInt8) (hl:w.length ≤ 1048576):CC f_s_l2Digits [.v (.str w)] []=some (.int .i64 (digS w),[]):=by
 apply go_s_l2Digits
 unfold nf_s_l2Digits
 have fin:∀ (m:Bool) (s:List UInt8),((CC f_s_l1In [AVal.v (CVal.int .i64 (s.length:Int)),AVal.v (CVal.int .i64 1),AVal.v (CVal.int .i64 7)] []).bind fun r=>r.1.asBool.bind fun b=>br (!b) (some (CVal.int .i64 9999999,[]))
   ((LL f_s_l2Digits 0 lc_s_l2Digits_0 [] k_s_l2Digits_0 ((s,m,0,0,()),())).bind fun r=>loK r (fun r=>some r) fun j p=>br (j == 0) (br p.fst.snd.1 (some (CVal.int .i64 (IntKind.i64.wrap (0 - p.fst.snd.snd.1)),[])) (some (CVal.int .i64 p.fst.snd.snd.1,[]))) none)) =
    some (.int .i64 (match digU s with | some n=>if m=true then -n else n | none=>9999999),[]):=by
  intro m s
  rw [l1In_law]
  refine bd rfl (bd rfl ?_)
  unfold digU
  by_cases h7:1 ≤ s.length∧s.length ≤ 7
  ·rw [if_pos h7]
   refine br_F (by simp;omega) ?_
   have h:=digits_loop m s [] 0 0 (by simpa using h7.2) (by omega) (by simp) (by omega)
   simp only [List.nil_append,List.length_nil,Int.cast_ofNat_Int] at h
   refine bd h ?_
   cases e:digL 0 s with
   |none=>rfl
   |some v=>
    have hr:=digL_rng s 0 v 0 (by omega) (by simp) (by omega) e
    refine lo_out (br_T rfl ?_)
    cases m with
    |true=>
     refine br_T rfl ?_
     have a1:IntKind.i64.wrap (0 - v) = -v:=by rw [wrap_i64]<;>omega
     show some (CVal.int .i64 (IntKind.i64.wrap (0 - v)),[])=some (CVal.int .i64 (-v),[])
     rw [a1]
    |false=>exact br_F rfl rfl
  ·rw [if_neg h7]
   refine br_T (by simp;omega) rfl
 cases w with
 |nil=>exact bd (o:=br _ _ _) (br_F (by decide) rfl) (br_F rfl (fin false []))
 |cons c r=>
  refine bd (a:=(decide ((c.toNat:Int)=45),PUnit.unit)) (br_T (by simp) (bd rfl rfl)) ?_
  rw [digS_cons]
  by_cases h:c=45
  ·refine br_T (decide_eq_true (by rw [h];rfl)) (br_T (by simp;omega) ?_)
   have e:List.drop 1 (List.take (((c :: r).length:Int)).toNat (c :: r))=r:=by simp
   rw [e,decide_eq_true (show (c.toNat:Int)=45 by rw [h];rfl)]
   refine (fin true r).trans ?_
   rw [if_pos h]
   cases digU r<;>rfl
  ·have h2:¬ (c.toNat:Int)=45:=fun e=>h (by have:=UInt8.toNat_inj (a:=c) (b:=45);exact this.1 (by show c.toNat=45;omega))
   rw [decide_eq_false h2]
   refine br_F rfl ((fin false (c :: r)).trans ?_)
   rw [if_neg h]
   cases digU (c :: r)<;>rfl
def Suf (ws c:Words):Prop:=∃ pre,ws=pre ++ c
theorem Suf.tail {ws c:Words} {w:List UInt8} (h:Suf ws (w :: c)):Suf ws c:=by
 obtain ⟨pre,h⟩:=h
 exact ⟨pre ++ [w],by rw [h];simp⟩
theorem Suf.used {ws c r:Words} (h:Suf ws c) (h2:∃ u,c=u ++ r):Suf ws r:=by
 obtain ⟨pre,h⟩:=h
 obtain ⟨u,h2⟩:=h2
 exact ⟨pre ++ u,by rw [h,h2];simp⟩
theorem Suf.le {ws c:Words} (h:Suf ws c):c.length ≤ ws.length:=by
 obtain ⟨pre,h⟩:=h
 rw [h];simp
theorem Suf.head_le {ws c:Words} {w:List UInt8} (hm:∀ w ∈ ws,w.length ≤ 1048576) (h:Suf ws (w :: c)):w.length ≤ 1048576:=by
 obtain ⟨pre,h⟩:=h
 exact hm w (by rw [h];simp)
theorem nextP_nil {ws:Words} {p:Int} (hp:p=ws.length) (b:Bool):CC f_s_l1Next [.lptr 0 0] [.box [.v (.sl (strsC ws)),.v (.int .i64 p),.v (.bool b)]]=some (.str [],[[.sl (strsC ws),.int .i64 p,.bool true]]):=by
 apply go_s_l1Next
 unfold nf_s_l1Next
 rw [hp]
 simp
theorem nextP_cons {ws c:Words} {w:List UInt8} {p:Int} (hs:Suf ws (w :: c)) (hp:p=(ws.length:Int) - ((c.length:Int) + 1)) (hl:ws.length ≤ 1048577):CC f_s_l1Next [.lptr 0 0] [.box [.v (.sl (strsC ws)),.v (.int .i64 p),.v (.bool false)]]=some (.str w,[[.sl (strsC ws),.int .i64 (p + 1),.bool false]]):=by
 obtain ⟨pre,h⟩:=hs
 have:=nextS_cons h hl
 have e:p=(pre.length:Int):=by rw [hp,h];simp
 rw [e]
 exact this
abbrev rest10 (ws:Words) (p:Int) (b:Bool) (k n:Int) (s z:List UInt8) (tk tn:Int) (ta ts a:List CVal) (h0 h1:Int) (h2 h3 h4:Bool):=
 ((strsC ws,p,b,()),((0:Int),(0:Int),([]:List UInt8),([]:List UInt8),(0:Int),(0:Int),(),(),(),()),([]:List CVal),([]:List CVal),([]:List CVal),(k,n,s,z,tk,tn,(),(),(),()),ta,ts,a,(h0,h1,h2,h3,h4,()),())
section
variable {ws:Words} {k n:Int} {s z:List UInt8} {tk tn:Int} {ta:List CVal} {h0 h1:Int} {h2 h3 h4:Bool}
theorem tsS_out {d many i p:Int} {b:Bool} {ts a:List CVal} (h:b=true∨many ≤ i∨3 ≤ i) :
  LL f_s_l2Read 1 lc_s_l2Read_1 [PSh.box [none,none,none]] k_s_l2Read_1 (((),d,(),(),(),many,i,()),rest10 ws p b k n s z tk tn ta ts a h0 h1 h2 h3 h4)=some (.out 1 (((),d,(),(),(),many,i,()),rest10 ws p b k n s z tk tn ta ts a h0 h1 h2 h3 h4)):=by
 apply gl_s_l2Read_1
 unfold nl_s_l2Read_1
 have:(br (decide (i < many)) (br (decide (i < 3)) (some (!b,PUnit.unit)) (some (false,PUnit.unit))) (some (false,PUnit.unit)):Option (Bool × PUnit))=some (false,PUnit.unit):=by
  by_cases q1:i < many
  ·by_cases q2:i < 3
   ·have:b=true:=by rcases h with h | h | h;exact h;omega;omega
    simp [q1,q2,this]
   ·simp [q1,q2]
  ·simp [q1]
 exact bd this (br_F rfl rfl)
theorem tsS_loop (hws:ws.length ≤ 1048577) {d many:Int} {a:List CVal}:∀ (m:Nat) (i p:Int) (done:List Ty) (c:Words),Suf ws c→p=(ws.length:Int) - c.length→0 ≤ i→(m:Int)=max 0 (min many 3 - i)→done.length + m ≤ 1000→
  (∀ l r,seqR (rd 6) m c=some (l,r)→∃ i',LL f_s_l2Read 1 lc_s_l2Read_1 [PSh.box [none,none,none]] k_s_l2Read_1 (((),d,(),(),(),many,i,()),rest10 ws p false k n s z tk tn ta (done.map Ty.enc) a h0 h1 h2 h3 h4) =
   some (.out 1 (((),d,(),(),(),many,i',()),rest10 ws ((ws.length:Int) - r.length) false k n s z tk tn ta ((done ++ l).map Ty.enc) a h0 h1 h2 h3 h4)))∧
  (seqR (rd 6) m c=none→∃ (i' p':Int) (l:List Ty),LL f_s_l2Read 1 lc_s_l2Read_1 [PSh.box [none,none,none]] k_s_l2Read_1 (((),d,(),(),(),many,i,()),rest10 ws p false k n s z tk tn ta (done.map Ty.enc) a h0 h1 h2 h3 h4) =
   some (.out 1 (((),d,(),(),(),many,i',()),rest10 ws p' true k n s z tk tn ta (l.map Ty.enc) a h0 h1 h2 h3 h4)))
 |0,i,p,done,c,hs,hp,hi,hm,hd=>by
  refine ⟨fun l r h=>?_,fun h=>by cases h⟩
  cases h
  refine ⟨i,?_⟩
  rw [List.append_nil,← hp]
  exact tsS_out (.inr (by omega))
 |m + 1,i,p,done,c,hs,hp,hi,hm,hd=>by
  have hlt:i < many:=by omega
  have hl3:i < 3:=by omega
  have hc:(br (decide (i < many)) (br (decide (i < 3)) (some (!false,PUnit.unit)) (some (false,PUnit.unit))) (some (false,PUnit.unit)):Option (Bool × PUnit))=some (true,PUnit.unit):=by simp [hlt,hl3]
  have hw:IntKind.i64.wrap (i + 1)=i + 1:=by rw [wrap_i64]<;>omega
  obtain ⟨pre,hpre⟩:=hs
  have hpp:p=(pre.length:Int):=by rw [hp,hpre];simp
  have hle:(decide ((done.map Ty.enc).length + 1 ≤ 4294967296) && true && true)=true:=by rw [List.length_map];simp;omega
  have step:∀ (t:Ty) (i2:Int) (b:Bool),CC f_s_l1Read [.lptr 0 0,.v (.int .i64 6)] [.box [.v (.sl (strsC ws)),.v (.int .i64 p),.v (.bool false)]]=some (t.enc,[[.sl (strsC ws),.int .i64 i2,.bool b]])→∀ X,
    LL f_s_l2Read 1 lc_s_l2Read_1 [PSh.box [none,none,none]] k_s_l2Read_1 (((),d,(),(),(),many,i + 1,()),rest10 ws i2 b k n s z tk tn ta ((done ++ [t]).map Ty.enc) a h0 h1 h2 h3 h4)=some X→
    LL f_s_l2Read 1 lc_s_l2Read_1 [PSh.box [none,none,none]] k_s_l2Read_1 (((),d,(),(),(),many,i,()),rest10 ws p false k n s z tk tn ta (done.map Ty.enc) a h0 h1 h2 h3 h4)=some X:=by
   intro t i2 b hcc X hX
   apply gl_s_l2Read_1
   unfold nl_s_l2Read_1
   refine bd hc (br_T rfl (bd hcc (bd rfl (bd rfl (bd rfl (bd rfl (br_T (Ty.enc_isAggN t) (bd (Ty.enc_cell0 t) (bd (Ty.enc_cell1 t) (bd (Ty.enc_cell2 t) (bd rfl (bd rfl (bd rfl (br_T hle (bd rfl (bd rfl (bd rfl ?_)))))))))))))))))
   rw [hw,← Ty.enc_def t]
   rw [List.map_append] at hX
   exact hX
  have hsz:=rd_W 6
  have rl:=read_law hws 6 (by omega) pre c hpre
  rw [← hpp] at rl
  refine ⟨fun l r h=>?_,fun h=>?_⟩
  ·unfold seqR at h
   obtain ⟨⟨t,r1⟩,q1,h⟩:=Option.bind_eq_some_iff.1 h
   obtain ⟨⟨l2,r2⟩,q2,h⟩:=Option.map_eq_some_iff.1 h
   obtain ⟨e1,e2⟩:=Prod.mk.inj h
   have hs1:Suf ws r1:=Suf.used ⟨pre,hpre⟩ (rd_used 6 c t r1 q1)
   obtain ⟨i',hi'⟩:=(tsS_loop hws (d:=d) (many:=many) (a:=a) m (i + 1) ((ws.length:Int) - r1.length) (done ++ [t]) r1 hs1 rfl (by omega) (by omega) (by simp;omega)).1 l2 r2 q2
   refine ⟨i',?_⟩
   rw [← e1,← e2]
   refine step t _ false (rl.1 t r1 q1) _ ?_
   rw [hi']
   simp
  ·unfold seqR at h
   cases q1:rd 6 c with
   |none=>
    obtain ⟨t,i2,h4⟩:=rl.2 q1
    exact ⟨i + 1,i2,done ++ [t],step t i2 true h4 _ (tsS_out (.inl rfl))⟩
   |some x=>
    obtain ⟨t,r1⟩:=x
    rw [q1] at h
    simp only [Option.bind_some,Option.map_eq_none_iff] at h
    have hs1:Suf ws r1:=Suf.used ⟨pre,hpre⟩ (rd_used 6 c t r1 q1)
    obtain ⟨i',p',l,h5⟩:=(tsS_loop hws (d:=d) (many:=many) (a:=a) m (i + 1) ((ws.length:Int) - r1.length) (done ++ [t]) r1 hs1 rfl (by omega) (by omega) (by simp;omega)).2 h
    exact ⟨i',p',l,step t _ false (rl.1 t r1 q1) _ h5⟩
def ReadsTS (ws:Words) (d:Nat):Prop:=∀ (c:Words) (p:Int),Suf ws c→p=(ws.length:Int) - c.length→
 (∀ t r,rdS d c=some (t,r)→CC f_s_l2Read [.lptr 0 0,.v (.int .i64 d)] [.box [.v (.sl (strsC ws)),.v (.int .i64 p),.v (.bool false)]]=some (t.enc,[[.sl (strsC ws),.int .i64 ((ws.length:Int) - r.length),.bool false]]))∧
 (rdS d c=none→∃ (t:Term) (i:Int),CC f_s_l2Read [.lptr 0 0,.v (.int .i64 d)] [.box [.v (.sl (strsC ws)),.v (.int .i64 p),.v (.bool false)]]=some (t.enc,[[.sl (strsC ws),.int .i64 i,.bool true]]))
theorem aS_out {d i p:Int} {b:Bool} {ts a:List CVal} (h:b=true∨h0 ≤ i) :
  LL f_s_l2Read 3 lc_s_l2Read_3 [PSh.box [none,none,none]] k_s_l2Read_3 (((),d,(),(),(),i,()),rest10 ws p b k n s z tk tn ta ts a h0 h1 h2 h3 h4)=some (.out 3 (((),d,(),(),(),i,()),rest10 ws p b k n s z tk tn ta ts a h0 h1 h2 h3 h4)):=by
 apply gl_s_l2Read_3
 unfold nl_s_l2Read_3
 have:(br (decide (i < h0)) (some (!b,PUnit.unit)) (some (false,PUnit.unit)):Option (Bool × PUnit))=some (false,PUnit.unit):=by
  by_cases q1:i < h0
  ·have:b=true:=by rcases h with h | h;exact h;omega
   simp [q1,this]
  ·simp [q1]
 exact bd this (br_F rfl rfl)
theorem rdS_used:∀ (d:Nat) (c:Words) (t:Term) (r:Words),rdS d c=some (t,r)→∃ u,c=u ++ r
 |0,c,t,r,h=>by cases h
 |d + 1,[],t,r,h=>by cases h
 |d + 1,w :: c,t,r,h=>by
  have popU:∀ {c c1:Words} {w:List UInt8},pop c=some (w,c1)→∃ u,c=u ++ c1:=fun h=>⟨[_],Term.pop_some h⟩
  have tr:∀ {a b c:Words},(∃ u,a=u ++ b)→(∃ u,b=u ++ c)→∃ u,a=u ++ c:=by
   rintro a b c ⟨u,h1⟩ ⟨v,h2⟩
   exact ⟨u ++ v,by rw [h1,h2];simp⟩
  unfold rdS at h
  split at h
  ·cases h
  ·obtain ⟨⟨n,c0⟩,e0,h⟩:=Option.bind_eq_some_iff.1 h
   obtain ⟨⟨s,c1⟩,e1,h⟩:=Option.bind_eq_some_iff.1 h
   obtain ⟨⟨z,c2⟩,e2,h⟩:=Option.bind_eq_some_iff.1 h
   obtain ⟨⟨⟨m,q⟩,c3⟩,e3,h⟩:=Option.bind_eq_some_iff.1 h
   obtain ⟨⟨y,c4⟩,e4,h⟩:=Option.bind_eq_some_iff.1 h
   obtain ⟨⟨ts,c5⟩,e5,h⟩:=Option.bind_eq_some_iff.1 h
   obtain ⟨⟨a,c6⟩,e6,h⟩:=Option.map_eq_some_iff.1 h
   obtain ⟨ht,hr⟩:=Prod.mk.inj h
   have u0:∃ u,c=u ++ c0:=by
    unfold num1 at e0
    split at e0
    ·obtain ⟨⟨x,y⟩,q1,q2⟩:=Option.map_eq_some_iff.1 e0
     cases q2;exact popU q1
    ·split at e0
     ·obtain ⟨⟨x,y⟩,q1,q2⟩:=Option.map_eq_some_iff.1 e0
      cases q2;exact popU q1
     ·cases e0;exact ⟨[],rfl⟩
   have u1:∃ u,c0=u ++ c1:=by
    replace e1:readS _ c0=_:=e1
    unfold readS at e1
    split at e1
    ·exact popU e1
    ·cases e1;exact ⟨[],rfl⟩
   have u2:∃ u,c1=u ++ c2:=by
    replace e2:readZ _ c1=_:=e2
    unfold readZ at e2
    split at e2
    ·exact popU e2
    ·cases e2;exact ⟨[],rfl⟩
   have u3:∃ u,c2=u ++ c3:=by
    replace e3:num2 _ _ c2=_:=e3
    unfold num2 at e3
    split at e3
    ·obtain ⟨⟨x,y⟩,q1,q2⟩:=Option.map_eq_some_iff.1 e3
     cases q2;exact popU q1
    ·split at e3
     ·obtain ⟨⟨x,y⟩,q1,q2⟩:=Option.map_eq_some_iff.1 e3
      cases q2;exact popU q1
     ·cases e3;exact ⟨[],rfl⟩
   have u4:∃ u,c3=u ++ c4:=by
    replace e4:readT _ c3=_:=e4
    unfold readT at e4
    split at e4
    ·exact rd_used _ _ _ _ e4
    ·cases e4;exact ⟨[],rfl⟩
   have u5:∃ u,c4=u ++ c5:=(seqR_used (rd_used 6) _ _ _ _ e5).2
   have u6:∃ u,c5=u ++ c6:=(seqR_used (rdS_used d) _ _ _ _ e6).2
   rw [← hr]
   exact tr ⟨[w],rfl⟩ (tr u0 (tr u1 (tr u2 (tr u3 (tr u4 (tr u5 u6))))))
theorem aS_loop (hws:ws.length ≤ 1048577) (d:Nat) (hd24:d ≤ 24) (ih:ReadsTS ws d) {ts:List CVal}:∀ (m:Nat) (i p:Int) (done:List Term) (c:Words),Suf ws c→p=(ws.length:Int) - c.length→0 ≤ i→(m:Int)=max 0 (h0 - i)→done.length + m ≤ 1000→h0 ≤ 3→
  (∀ l r,seqR (rdS d) m c=some (l,r)→∃ i',LL f_s_l2Read 3 lc_s_l2Read_3 [PSh.box [none,none,none]] k_s_l2Read_3 (((),((d + 1:Nat):Int),(),(),(),i,()),rest10 ws p false k n s z tk tn ta ts (done.map Term.enc) h0 h1 h2 h3 h4) =
   some (.out 3 (((),((d + 1:Nat):Int),(),(),(),i',()),rest10 ws ((ws.length:Int) - r.length) false k n s z tk tn ta ts ((done ++ l).map Term.enc) h0 h1 h2 h3 h4)))∧
  (seqR (rdS d) m c=none→∃ (i' p':Int) (l:List Term),LL f_s_l2Read 3 lc_s_l2Read_3 [PSh.box [none,none,none]] k_s_l2Read_3 (((),((d + 1:Nat):Int),(),(),(),i,()),rest10 ws p false k n s z tk tn ta ts (done.map Term.enc) h0 h1 h2 h3 h4) =
   some (.out 3 (((),((d + 1:Nat):Int),(),(),(),i',()),rest10 ws p' true k n s z tk tn ta ts (l.map Term.enc) h0 h1 h2 h3 h4)))
 |0,i,p,done,c,hs,hp,hi,hm,hd,hh=>by
  refine ⟨fun l r h=>?_,fun h=>by cases h⟩
  cases h
  refine ⟨i,?_⟩
  rw [List.append_nil,← hp]
  exact aS_out (.inr (by omega))
 |m + 1,i,p,done,c,hs,hp,hi,hm,hd,hh=>by
  have hlt:i < h0:=by omega
  have hc:(br (decide (i < h0)) (some (!false,PUnit.unit)) (some (false,PUnit.unit)):Option (Bool × PUnit))=some (true,PUnit.unit):=by simp [hlt]
  have hw:IntKind.i64.wrap (i + 1)=i + 1:=by rw [wrap_i64]<;>omega
  have hwd:IntKind.i64.wrap (((d + 1:Nat):Int) - 1)=(d:Int):=by rw [wrap_i64]<;>omega
  have hle:(decide ((done.map Term.enc).length + 1 ≤ 4294967296) && true && true)=true:=by rw [List.length_map];simp;omega
  have step:∀ (t:Term) (i2:Int) (b:Bool),CC f_s_l2Read [.lptr 0 0,.v (.int .i64 d)] [.box [.v (.sl (strsC ws)),.v (.int .i64 p),.v (.bool false)]]=some (t.enc,[[.sl (strsC ws),.int .i64 i2,.bool b]])→∀ X,
    LL f_s_l2Read 3 lc_s_l2Read_3 [PSh.box [none,none,none]] k_s_l2Read_3 (((),((d + 1:Nat):Int),(),(),(),i + 1,()),rest10 ws i2 b k n s z tk tn ta ts ((done ++ [t]).map Term.enc) h0 h1 h2 h3 h4)=some X→
    LL f_s_l2Read 3 lc_s_l2Read_3 [PSh.box [none,none,none]] k_s_l2Read_3 (((),((d + 1:Nat):Int),(),(),(),i,()),rest10 ws p false k n s z tk tn ta ts (done.map Term.enc) h0 h1 h2 h3 h4)=some X:=by
   intro t i2 b hcc X hX
   rw [← hwd] at hcc
   apply gl_s_l2Read_3
   unfold nl_s_l2Read_3
   refine bd hc (br_T rfl (bd hcc (bd rfl (bd rfl (bd rfl (bd rfl (br_T (Term.enc_isAggN t) (bd (Term.enc_cell0 t) (bd (Term.enc_cell1 t) (bd (Term.enc_cell2 t) (bd (Term.enc_cell3 t) (bd (Term.enc_cell4 t) (bd (Term.enc_cell5 t) (bd (Term.enc_cell6 t) (bd (Term.enc_cell7 t) (bd (Term.enc_cell8 t) (bd rfl (bd rfl (bd rfl (bd rfl (bd rfl (bd rfl (bd rfl (bd rfl (bd rfl (br_T hle (bd rfl (bd rfl (bd rfl ?_)))))))))))))))))))))))))))))
   rw [hw,← Term.enc_def t]
   rw [List.map_append] at hX
   exact hX
  have rl:=ih c p hs hp
  refine ⟨fun l r h=>?_,fun h=>?_⟩
  ·unfold seqR at h
   obtain ⟨⟨t,r1⟩,q1,h⟩:=Option.bind_eq_some_iff.1 h
   obtain ⟨⟨l2,r2⟩,q2,h⟩:=Option.map_eq_some_iff.1 h
   obtain ⟨e1,e2⟩:=Prod.mk.inj h
   have hs1:Suf ws r1:=Suf.used hs (rdS_used d c t r1 q1)
   obtain ⟨i',hi'⟩:=(aS_loop hws d hd24 ih m (i + 1) ((ws.length:Int) - r1.length) (done ++ [t]) r1 hs1 rfl (by omega) (by omega) (by simp;omega) hh).1 l2 r2 q2
   refine ⟨i',?_⟩
   rw [← e1,← e2]
   refine step t _ false (rl.1 t r1 q1) _ ?_
   rw [hi']
   simp
  ·unfold seqR at h
   cases q1:rdS d c with
   |none=>
    obtain ⟨t,i2,h4⟩:=rl.2 q1
    exact ⟨i + 1,i2,done ++ [t],step t i2 true h4 _ (aS_out (.inl rfl))⟩
   |some x=>
    obtain ⟨t,r1⟩:=x
    rw [q1] at h
    simp only [Option.bind_some,Option.map_eq_none_iff] at h
    have hs1:Suf ws r1:=Suf.used hs (rdS_used d c t r1 q1)
    obtain ⟨i',p',l,h5⟩:=(aS_loop hws d hd24 ih m (i + 1) ((ws.length:Int) - r1.length) (done ++ [t]) r1 hs1 rfl (by omega) (by omega) (by simp;omega) hh).2 h
    exact ⟨i',p',l,step t _ false (rl.1 t r1 q1) _ h5⟩
end
end Go.Proofs.YtegbnddjgifcdaaGreatDoor.Abs

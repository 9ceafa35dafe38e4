/- A part. -/
import Derived.Test.YtegbnddjgifcdaaGreatDoorTermI
set_option linter.unusedVariables false
set_option linter.unusedSectionVars false
set_option linter.unusedSimpArgs false
set_option maxRecDepth 100000
set_option maxHeartbeats 2000000
namespace Go.Proofs.YtegbnddjgifcdaaGreatDoor.Abs
open Go Go.Proofs
open Classical
section
variable {X Y:Option (Term × Words)} {o:Option Ret}
theorem ResI.congr (e:X=Y) (h:ResI Y o):ResI X o:=e ▸ h
theorem ResI.bad (e:X=none) (h:∃ (t:Term) (r:Words),o=some (t.enc,[[.sl (strsC r),.bool true]])):ResI X o:=
 ⟨fun t r h2=>by rw [e] at h2;(cases h2),fun _=>h⟩
theorem ri_bd {α:Type} {o:Option α} {a:α} {f:α→Option Ret} (h:o=some a) (h2:ResI X (f a)):ResI X (o.bind f):=by rw [h];exact h2
theorem ri_T {b:Bool} {x y:Option Ret} (h:b=true) (h2:ResI X x):ResI X (br b x y):=by rw [h];exact h2
theorem ri_F {b:Bool} {x y:Option Ret} (h:b=false) (h2:ResI X y):ResI X (br b x y):=by rw [h];exact h2
end
abbrev WordsOk (c:Words):Prop:=∀ w ∈ c,w.length ≤ 1048576
theorem WordsOk.used {c r:Words} (h:WordsOk c) (h2:∃ u,c=u ++ r):WordsOk r:=by
 obtain ⟨u,h2⟩:=h2
 intro w hw
 exact h w (by rw [h2];simp [hw])
theorem rdI_used:∀ (d:Nat) (c:Words) (t:Term) (r:Words),rdI d c=some (t,r)→∃ u,c=u ++ r:=by
 have popU:∀ {c c1:Words} {w:List UInt8},pop c=some (w,c1)→∃ u,c=u ++ c1:=fun h=>⟨[_],Term.pop_some h⟩
 have tr:∀ {a b c:Words},(∃ u,a=u ++ b)→(∃ u,b=u ++ c)→∃ u,a=u ++ c:=by
  rintro a b c ⟨u,h1⟩ ⟨v,h2⟩
  exact ⟨u ++ v,by rw [h1,h2];simp⟩
 have one:∀ (w:List UInt8) (c:Words) (x t:Term) (r:Words),some (x,c)=some (t,r)→∃ u,w :: c=u ++ r:=by
  intro w c x t r h
  cases h
  exact ⟨[w],rfl⟩
 intro d
 induction d with
 |zero=>
  intro c t r h
  cases c with
  |nil=>cases h
  |cons w c=>
   unfold rdI at h
   split at h
   ·exact one w c _ t r h
   ·cases h
 |succ d ih=>
  intro c t r h
  cases c with
  |nil=>cases h
  |cons w c=>
   unfold rdI at h
   split at h
   ·exact one w c _ t r h
   ·split at h
    ·cases h
    ·obtain ⟨⟨s,c1⟩,e1,h⟩:=Option.bind_eq_some_iff.1 h
     obtain ⟨⟨z,c2⟩,e2,h⟩:=Option.bind_eq_some_iff.1 h
     obtain ⟨⟨⟨n,ts⟩,c3⟩,e3,h⟩:=Option.bind_eq_some_iff.1 h
     obtain ⟨⟨y,c4⟩,e4,h⟩:=Option.bind_eq_some_iff.1 h
     obtain ⟨⟨a,c5⟩,e5,h⟩:=Option.map_eq_some_iff.1 h
     obtain ⟨ht,hr⟩:=Prod.mk.inj h
     have u1:∃ u,c=u ++ c1:=by
      unfold readS at e1
      split at e1
      ·exact popU e1
      ·cases e1;exact ⟨[],rfl⟩
     have u2:∃ u,c1=u ++ c2:=by
      replace e2:readZ _ c1=_:=e2
      unfold readZ at e2
      split at e2
      ·exact popU e2
      ·cases e2;exact ⟨[],rfl⟩
     have u3:∃ u,c2=u ++ c3:=by
      replace e3:readN _ c2=_:=e3
      unfold readN at e3
      split at e3
      ·obtain ⟨⟨x,y⟩,q1,q2⟩:=Option.bind_eq_some_iff.1 e3
       obtain ⟨m,q3,q4⟩:=Option.map_eq_some_iff.1 q2
       cases q4;exact popU q1
      ·split at e3
       ·obtain ⟨⟨x,y⟩,q1,q2⟩:=Option.map_eq_some_iff.1 e3
        cases q2;exact popU q1
       ·split at e3
        ·obtain ⟨⟨x,y⟩,q1,q2⟩:=Option.bind_eq_some_iff.1 e3
         obtain ⟨m,q3,q4⟩:=Option.bind_eq_some_iff.1 q2
         split at q4
         ·obtain ⟨⟨l,c9⟩,q5,q6⟩:=Option.map_eq_some_iff.1 q4
          cases q6
          exact tr (popU q1) (seqR_used (rd_used 6) _ _ _ _ q5).2
         ·cases q4
        ·cases e3;exact ⟨[],rfl⟩
     have u4:∃ u,c3=u ++ c4:=by
      replace e4:readT _ c3=_:=e4
      unfold readT at e4
      split at e4
      ·exact rd_used _ _ _ _ e4
      ·cases e4;exact ⟨[],rfl⟩
     have u5:∃ u,c4=u ++ c5:=(seqR_used ih _ _ _ _ e5).2
     rw [← hr]
     exact tr ⟨[w],rfl⟩ (tr u1 (tr u2 (tr u3 (tr u4 u5))))
def ReadsTI (d:Nat):Prop:=∀ c:Words,WordsOk c→ResI (rdI d c) (CC f_i_tokens_term [.lptr 0 0,.v (.int .i64 d)] [.box [.v (.sl (strsC c)),.v (.bool false)]])
abbrev noTerm:Term:=.mk 0 0 [] [] Ty.zero [] []
theorem words_law:CC f_i_termWords [] []=some (.sl (strsC twL),[]):=go_i_termWords _ rfl
theorem term_bad (c:Words) (d:Int):CC f_i_tokens_term [.lptr 0 0,.v (.int .i64 d)] [.box [.v (.sl (strsC c)),.v (.bool true)]]=some (noTerm.enc,[[.sl (strsC c),.bool true]]):=by
 have h2:=index_law twL [] (by decide)
 apply go_i_tokens_term
 unfold nf_i_tokens_term
 refine bd (next_bad c) (bd rfl (bd rfl (bd rfl (bd (a:=(false,PUnit.unit)) (bd rfl (br_F (by decide) (bd rfl rfl))) (br_F rfl (bd words_law (bd h2 (br_T rfl (bd (a:=(true,PUnit.unit)) (bd rfl (br_T rfl rfl)) (br_T rfl ?_))))))))))
 rw [encZ]
 rfl
section
variable {k n:Int} {s z:List UInt8} {tk tn:Int} {ta ts:List CVal}
theorem aI_step (d:Nat) (hd:d ≤ 24) (m:Nat) (i:Int) (done:List Term) (c:Words) (h0:0 ≤ i) (h1:i + ((m + 1:Nat):Int) ≤ 10) (h2:done.length + (m + 1) ≤ 1000) (t:Term) (r:Words) (b0 b:Bool) (hc:CC f_i_tokens_term [.lptr 0 0,.v (.int .i64 d)] [.box [.v (.sl (strsC c)),.v (.bool b0)]]=some (t.enc,[[.sl (strsC r),.bool b]])) (X:LO k_i_tokens_term_0.T)
  (hX:LL f_i_tokens_term 0 lc_i_tokens_term_0 [PSh.box [none,none]] k_i_tokens_term_0 (((),((d + 1:Nat):Int),(),(),(i + 1) + (m:Int),i + 1,()),(strsC r,b,()),(0,0,[],[],0,0,(),(),(),()),[],[],[],(k,n,s,z,tk,tn,(),(),(),()),ta,ts,(done ++ [t]).map Term.enc,())=some X) :
  LL f_i_tokens_term 0 lc_i_tokens_term_0 [PSh.box [none,none]] k_i_tokens_term_0 (((),((d + 1:Nat):Int),(),(),i + ((m + 1:Nat):Int),i,()),(strsC c,b0,()),(0,0,[],[],0,0,(),(),(),()),[],[],[],(k,n,s,z,tk,tn,(),(),(),()),ta,ts,done.map Term.enc,())=some X:=by
 have e:decide (i < i + ((m + 1:Nat):Int))=true:=decide_eq_true (by omega)
 have ea:i + ((m + 1:Nat):Int)=(i + 1) + (m:Int):=by omega
 have w2:IntKind.i64.wrap (i + 1)=i + 1:=by rw [wrap_i64]<;>omega
 have hwd:IntKind.i64.wrap (((d + 1:Nat):Int) - 1)=(d:Int):=by rw [wrap_i64]<;>omega
 have hle:(decide ((done.map Term.enc).length + 1 ≤ 4294967296) && true && true)=true:=by rw [List.length_map];simp;omega
 rw [← hwd] at hc
 apply gl_i_tokens_term_0
 unfold nl_i_tokens_term_0
 refine br_T e (bd hc (bd rfl (bd rfl (bd rfl (br_T (Term.enc_isAggN t) (bd (Term.enc_cell0 t) (bd (Term.enc_cell1 t) (bd (Term.enc_cell2 t) (bd (Term.enc_cell3 t) (bd (Term.enc_cell4 t) (bd (Term.enc_cell5 t) (bd (Term.enc_cell6 t) (bd (Term.enc_cell7 t) (bd (Term.enc_cell8 t) (bd rfl (bd rfl (bd rfl (bd asInt_int (bd asInt_int (bd rfl (bd rfl (bd asInt_int (bd asInt_int (br_T hle (bd rfl (bd rfl ?_))))))))))))))))))))))))))
 rw [w2,ea,← Term.enc_def t]
 rw [List.map_append] at hX
 exact hX
theorem aI_bad (d:Nat) (hd:d ≤ 24):∀ (m:Nat) (i:Int) (done:List Term) (c:Words),0 ≤ i→i + m ≤ 10→done.length + m ≤ 1000→∃ (l:List Term) (r:Words),
   LL f_i_tokens_term 0 lc_i_tokens_term_0 [PSh.box [none,none]] k_i_tokens_term_0 (((),((d + 1:Nat):Int),(),(),i + m,i,()),(strsC c,true,()),(0,0,[],[],0,0,(),(),(),()),[],[],[],(k,n,s,z,tk,tn,(),(),(),()),ta,ts,done.map Term.enc,()) =
    some (.out 0 (((),((d + 1:Nat):Int),(),(),i + m,i + m,()),(strsC r,true,()),(0,0,[],[],0,0,(),(),(),()),[],[],[],(k,n,s,z,tk,tn,(),(),(),()),ta,ts,l.map Term.enc,()))
 |0,i,done,c,h0,h1,h2=>by
  have e:decide (i < i + ((0:Nat):Int))=false:=decide_eq_false (by omega)
  have e2:i + ((0:Nat):Int)=i:=by omega
  refine ⟨done,c,?_⟩
  apply gl_i_tokens_term_0
  unfold nl_i_tokens_term_0
  refine br_F e ?_
  rw [e2]
 |m + 1,i,done,c,h0,h1,h2=>by
  have ea:i + ((m + 1:Nat):Int)=(i + 1) + (m:Int):=by omega
  obtain ⟨l,r,h5⟩:=aI_bad d hd m (i + 1) (done ++ [noTerm]) c (by omega) (by omega) (by simp;omega)
  refine ⟨l,r,?_⟩
  rw [aI_step d hd m i done c h0 h1 h2 noTerm c true true (term_bad c d) _ h5,ea]
theorem aI_loop (d:Nat) (hd:d ≤ 24) (ih:ReadsTI d):∀ (m:Nat) (i:Int) (done:List Term) (c:Words),WordsOk c→0 ≤ i→i + m ≤ 10→done.length + m ≤ 1000→
  (∀ l r,seqR (rdI d) m c=some (l,r)→
   LL f_i_tokens_term 0 lc_i_tokens_term_0 [PSh.box [none,none]] k_i_tokens_term_0 (((),((d + 1:Nat):Int),(),(),i + m,i,()),(strsC c,false,()),(0,0,[],[],0,0,(),(),(),()),[],[],[],(k,n,s,z,tk,tn,(),(),(),()),ta,ts,done.map Term.enc,()) =
    some (.out 0 (((),((d + 1:Nat):Int),(),(),i + m,i + m,()),(strsC r,false,()),(0,0,[],[],0,0,(),(),(),()),[],[],[],(k,n,s,z,tk,tn,(),(),(),()),ta,ts,(done ++ l).map Term.enc,())))∧
  (seqR (rdI d) m c=none→∃ (l:List Term) (r:Words),
   LL f_i_tokens_term 0 lc_i_tokens_term_0 [PSh.box [none,none]] k_i_tokens_term_0 (((),((d + 1:Nat):Int),(),(),i + m,i,()),(strsC c,false,()),(0,0,[],[],0,0,(),(),(),()),[],[],[],(k,n,s,z,tk,tn,(),(),(),()),ta,ts,done.map Term.enc,()) =
    some (.out 0 (((),((d + 1:Nat):Int),(),(),i + m,i + m,()),(strsC r,true,()),(0,0,[],[],0,0,(),(),(),()),[],[],[],(k,n,s,z,tk,tn,(),(),(),()),ta,ts,l.map Term.enc,())))
 |0,i,done,c,hm,h0,h1,h2=>by
  have e:decide (i < i + ((0:Nat):Int))=false:=decide_eq_false (by omega)
  have e2:i + ((0:Nat):Int)=i:=by omega
  refine ⟨fun l r h=>?_,fun h=>by cases h⟩
  cases h
  apply gl_i_tokens_term_0
  unfold nl_i_tokens_term_0
  refine br_F e ?_
  rw [e2,List.append_nil]
 |m + 1,i,done,c,hm,h0,h1,h2=>by
  have ea:i + ((m + 1:Nat):Int)=(i + 1) + (m:Int):=by omega
  refine ⟨fun l r h=>?_,fun h=>?_⟩
  ·unfold seqR at h
   obtain ⟨⟨t,r1⟩,q1,h⟩:=Option.bind_eq_some_iff.1 h
   obtain ⟨⟨l2,r2⟩,q2,h⟩:=Option.map_eq_some_iff.1 h
   obtain ⟨e1,e2⟩:=Prod.mk.inj h
   have:=(aI_loop d hd ih m (i + 1) (done ++ [t]) r1 (hm.used (rdI_used d c t r1 q1)) (by omega) (by omega) (by simp;omega)).1 l2 r2 q2
   rw [aI_step d hd m i done c h0 h1 h2 t r1 false false ((ih c hm).1 t r1 q1) _ this,← e1,← e2,ea]
   simp
  ·unfold seqR at h
   cases q1:rdI d c with
   |none=>
    obtain ⟨t,r1,h4⟩:=(ih c hm).2 q1
    obtain ⟨l,r,h5⟩:=aI_bad d hd (k:=k) (n:=n) (s:=s) (z:=z) (tk:=tk) (tn:=tn) (ta:=ta) (ts:=ts) m (i + 1) (done ++ [t]) r1 (by omega) (by omega) (by simp;omega)
    refine ⟨l,r,?_⟩
    rw [aI_step d hd m i done c h0 h1 h2 t r1 false true h4 _ h5,ea]
   |some x=>
    obtain ⟨t,r1⟩:=x
    rw [q1] at h
    simp only [Option.bind_some,Option.map_eq_none_iff] at h
    obtain ⟨l,r,h5⟩:=(aI_loop d hd ih m (i + 1) (done ++ [t]) r1 (hm.used (rdI_used d c t r1 q1)) (by omega) (by omega) (by simp;omega)).2 h
    refine ⟨l,r,?_⟩
    rw [aI_step d hd m i done c h0 h1 h2 t r1 false false ((ih c hm).1 t r1 q1) _ h5,ea]
end
theorem parts_ok {k:Int} (h:1 ≤ k∧k ≤ 17):0 ≤ parts k∧parts k ≤ 3:=by
 have:k=1∨k=2∨k=3∨k=4∨k=5∨k=6∨k=7∨k=8∨k=9∨k=10∨k=11∨k=12∨k=13∨k=14∨k=15∨k=16∨k=17:=by omega
 rcases this with rfl | rfl | rfl | rfl | rfl | rfl | rfl | rfl | rfl | rfl | rfl | rfl | rfl | rfl | rfl | rfl | rfl<;>decide
section
variable {k n:Int} {s z:List UInt8} {t:Ty} {ts:List Ty} {c:Words} {p:Int} (d:Nat) (hd:d ≤ 24)
include hd
theorem end_bad (h0:0 ≤ p) (h1:p ≤ 3):∃ (u:Term) (r:Words),endO (((),((d + 1:Nat):Int),(),(),p,0,()),(strsC c,true,()),(0,0,[],[],0,0,(),(),(),()),[],[],[],(k,n,s,z,t.k,t.n,(),(),(),()),t.a.map Ty.enc,ts.map Ty.enc,[],())=some (u.enc,[[.sl (strsC r),.bool true]]):=by
 obtain ⟨l,r,h⟩:=aI_bad d hd (k:=k) (n:=n) (s:=s) (z:=z) (tk:=t.k) (tn:=t.n) (ta:=t.a.map Ty.enc) (ts:=ts.map Ty.enc) p.toNat 0 [] c (by omega) (by omega) (by simp;omega)
 have e:(0:Int) + (p.toNat:Int)=p:=by omega
 rw [e] at h
 refine ⟨.mk k n s z t ts l,r,?_⟩
 unfold endO
 refine bd h (lo_out (br_T rfl ?_))
 rw [Term.enc_def]
 rfl
theorem end_good (ih:ReadsTI d) (hm:WordsOk c) (h0:0 ≤ p) (h1:p ≤ 3):ResI ((seqR (rdI d) p.toNat c).map fun a=>(.mk k n s z t ts a.1,a.2)) (endO (((),((d + 1:Nat):Int),(),(),p,0,()),(strsC c,false,()),(0,0,[],[],0,0,(),(),(),()),[],[],[],(k,n,s,z,t.k,t.n,(),(),(),()),t.a.map Ty.enc,ts.map Ty.enc,[],())):=by
 have hl:=aI_loop d hd ih (k:=k) (n:=n) (s:=s) (z:=z) (tk:=t.k) (tn:=t.n) (ta:=t.a.map Ty.enc) (ts:=ts.map Ty.enc) p.toNat 0 [] c hm (by omega) (by omega) (by simp;omega)
 have e:(0:Int) + (p.toNat:Int)=p:=by omega
 rw [e] at hl
 cases q:seqR (rdI d) p.toNat c with
 |none=>
  obtain ⟨l,r,h⟩:=hl.2 q
  refine ResI.bad rfl ⟨.mk k n s z t ts l,r,?_⟩
  unfold endO
  refine bd h (lo_out (br_T rfl ?_))
  rw [Term.enc_def]
  rfl
 |some x=>
  obtain ⟨l,r⟩:=x
  refine ⟨fun t' r' h=>?_,fun h=>by cases h⟩
  cases h
  unfold endO
  refine bd (hl.1 l r q) (lo_out (br_T rfl ?_))
  rw [Term.enc_def]
  rfl
theorem mid_bad {c:Words} (hk:1 ≤ k∧k ≤ 17):∃ (u:Term) (r:Words),midO ((d + 1:Nat):Int) ((Term.mk k n s z Ty.zero ts []).enc,[[.sl (strsC c),.bool true],[],[],[]])=some (u.enc,[[.sl (strsC r),.bool true]]):=by
 have hp:=parts_ok hk
 unfold midO
 rw [encZ]
 cases e:hasT k with
 |true=>
  obtain ⟨u,r,h⟩:=end_bad d hd (k:=k) (n:=n) (s:=s) (z:=z) (t:=.mk 0 0 []) (ts:=ts) (c:=c) hp.1 hp.2
  refine ⟨u,r,?_⟩
  refine bd rfl (bd rfl (bd rfl (bd rfl (bd rfl (bd rfl (br_T rfl (bd rfl (bd rfl (bd rfl (bd rfl (bd rfl (bd rfl (bd rfl (bd rfl (bd rfl (bd rfl (bd rfl (bd rfl (bd (hasT_i k) (bd rfl (br_T e (bd (ty_bad c 6) (bd rfl (bd rfl (bd rfl (br_T (Ty.enc_isAggN _) (bd (Ty.enc_cell0 _) (bd (Ty.enc_cell1 _) (bd (Ty.enc_cell2 _) (bd rfl (bd (parts_i k) (bd asInt_int (bd rfl (bd rfl (bd asInt_int (bd asInt_int (bd rfl (bd rfl (bd asInt_int (bd asInt_int ?_))))))))))))))))))))))))))))))))))))))))
  exact h
 |false=>
  obtain ⟨u,r,h⟩:=end_bad d hd (k:=k) (n:=n) (s:=s) (z:=z) (t:=Ty.zero) (ts:=ts) (c:=c) hp.1 hp.2
  refine ⟨u,r,?_⟩
  refine bd rfl (bd rfl (bd rfl (bd rfl (bd rfl (bd rfl (br_T rfl (bd rfl (bd rfl (bd rfl (bd rfl (bd rfl (bd rfl (bd rfl (bd rfl (bd rfl (bd rfl (bd rfl (bd rfl (bd (hasT_i k) (bd rfl (br_F e (bd (parts_i k) (bd asInt_int (bd rfl (bd rfl (bd asInt_int (bd asInt_int (bd rfl (bd rfl (bd asInt_int (bd asInt_int ?_)))))))))))))))))))))))))))))))
  exact h
theorem mid_good (ih:ReadsTI d) {c:Words} (hm:WordsOk c) (hk:1 ≤ k∧k ≤ 17):ResI ((readT k c).bind fun t=>(seqR (rdI d) (parts k).toNat t.2).map fun a=>(.mk k n s z t.1 ts a.1,a.2)) (midO ((d + 1:Nat):Int) ((Term.mk k n s z Ty.zero ts []).enc,[[.sl (strsC c),.bool false],[],[],[]])):=by
 have hp:=parts_ok hk
 unfold midO
 rw [encZ]
 unfold readT
 cases e:hasT k with
 |true=>
  rw [if_pos rfl]
  refine ri_bd rfl (ri_bd rfl (ri_bd rfl (ri_bd rfl (ri_bd rfl (ri_bd rfl (ri_T rfl (ri_bd rfl (ri_bd rfl (ri_bd rfl (ri_bd rfl (ri_bd rfl (ri_bd rfl (ri_bd rfl (ri_bd rfl (ri_bd rfl (ri_bd rfl (ri_bd rfl (ri_bd rfl (ri_bd (hasT_i k) (ri_bd rfl (ri_T e ?_)))))))))))))))))))))
  cases q:rd 6 c with
  |none=>
   obtain ⟨t,r1,h4⟩:=(ty_law 6 (by omega) c).2 q
   refine ri_bd h4 (ri_bd rfl (ri_bd rfl (ri_bd rfl (ri_T (Ty.enc_isAggN _) (ri_bd (Ty.enc_cell0 _) (ri_bd (Ty.enc_cell1 _) (ri_bd (Ty.enc_cell2 _) (ri_bd rfl (ri_bd (parts_i k) (ri_bd asInt_int (ri_bd rfl (ri_bd rfl (ri_bd asInt_int (ri_bd asInt_int (ri_bd rfl (ri_bd rfl (ri_bd asInt_int (ri_bd asInt_int ?_))))))))))))))))))
   exact ResI.bad rfl (end_bad d hd (k:=k) (n:=n) (s:=s) (z:=z) (t:=t) (ts:=ts) (c:=r1) hp.1 hp.2)
  |some x=>
   obtain ⟨t,r1⟩:=x
   refine ri_bd ((ty_law 6 (by omega) c).1 t r1 q) (ri_bd rfl (ri_bd rfl (ri_bd rfl (ri_T (Ty.enc_isAggN _) (ri_bd (Ty.enc_cell0 _) (ri_bd (Ty.enc_cell1 _) (ri_bd (Ty.enc_cell2 _) (ri_bd rfl (ri_bd (parts_i k) (ri_bd asInt_int (ri_bd rfl (ri_bd rfl (ri_bd asInt_int (ri_bd asInt_int (ri_bd rfl (ri_bd rfl (ri_bd asInt_int (ri_bd asInt_int ?_))))))))))))))))))
   exact end_good d hd (k:=k) (n:=n) (s:=s) (z:=z) (t:=t) (ts:=ts) (c:=r1) ih (hm.used (rd_used 6 c t r1 q)) hp.1 hp.2
 |false=>
  rw [if_neg (by decide)]
  refine ri_bd rfl (ri_bd rfl (ri_bd rfl (ri_bd rfl (ri_bd rfl (ri_bd rfl (ri_T rfl (ri_bd rfl (ri_bd rfl (ri_bd rfl (ri_bd rfl (ri_bd rfl (ri_bd rfl (ri_bd rfl (ri_bd rfl (ri_bd rfl (ri_bd rfl (ri_bd rfl (ri_bd rfl (ri_bd (hasT_i k) (ri_bd rfl (ri_F e (ri_bd (parts_i k) (ri_bd asInt_int (ri_bd rfl (ri_bd rfl (ri_bd asInt_int (ri_bd asInt_int (ri_bd rfl (ri_bd rfl (ri_bd asInt_int (ri_bd asInt_int ?_)))))))))))))))))))))))))))))))
  exact end_good d hd (k:=k) (n:=n) (s:=s) (z:=z) (t:=Ty.zero) (ts:=ts) (c:=c) ih hm hp.1 hp.2
end
theorem goI {X:Option (Term × Words)} {c:Words} {b:Bool} {d:Int} (h:ResI X (nf_i_tokens_term CC LL (strsC c) b d)):ResI X (CC f_i_tokens_term [.lptr 0 0,.v (.int .i64 d)] [.box [.v (.sl (strsC c)),.v (.bool b)]]):=by
 refine ⟨fun t r e=>go_i_tokens_term _ _ _ _ (h.1 t r e),fun e=>?_⟩
 obtain ⟨t,r,h2⟩:=h.2 e
 exact ⟨t,r,go_i_tokens_term _ _ _ _ h2⟩
theorem num_mid (d:Nat) (hd:d ≤ 24) (ih:ReadsTI d) {k:Int} {s z:List UInt8} {c:Words} {b:Bool} (hm:WordsOk c) (hk:1 ≤ k∧k ≤ 17) :
  ResI (if b=true then none else (readN k c).bind fun n=>(readT k n.2).bind fun t=>(seqR (rdI d) (parts k).toNat t.2).map fun a=>(.mk k n.1.1 s z t.1 n.1.2 a.1,a.2)) ((CC f_i_tokens_numbers (numA k s z) (numB c b)).bind (midO ((d + 1:Nat):Int))):=by
 have h:=numbers_law (k:=k) (s:=s) (z:=z) (c:=c) (b:=b) hm
 cases q:(if b=true then none else readN k c) with
 |none=>
  obtain ⟨n,ts,c1,h2⟩:=h.2 q
  refine ri_bd h2 (ResI.bad ?_ (mid_bad d hd hk))
  cases b with
  |true=>rfl
  |false=>
   have q2:readN k c=none:=q
   show (readN k c).bind _=none
   rw [q2];rfl
 |some x=>
  obtain ⟨⟨n,ts⟩,c1⟩:=x
  cases b with
  |true=>cases q
  |false=>
   have q2:readN k c=some ((n,ts),c1):=q
   refine ri_bd (h.1 n ts c1 q) ?_
   show ResI ((readN k c).bind _) _
   rw [q2]
   have hu:∃ u,c=u ++ c1:=by
    unfold readN at q2
    split at q2
    ·obtain ⟨⟨x,y⟩,q1,q3⟩:=Option.bind_eq_some_iff.1 q2
     obtain ⟨m,q4,q5⟩:=Option.map_eq_some_iff.1 q3
     cases q5;exact ⟨[_],Term.pop_some q1⟩
    ·split at q2
     ·obtain ⟨⟨x,y⟩,q1,q3⟩:=Option.map_eq_some_iff.1 q2
      cases q3;exact ⟨[_],Term.pop_some q1⟩
     ·split at q2
      ·obtain ⟨⟨x,y⟩,q1,q3⟩:=Option.bind_eq_some_iff.1 q2
       obtain ⟨m,q4,q5⟩:=Option.bind_eq_some_iff.1 q3
       split at q5
       ·obtain ⟨⟨l,c9⟩,q6,q7⟩:=Option.map_eq_some_iff.1 q5
        cases q7
        obtain ⟨u,hu⟩:=(seqR_used (rd_used 6) _ _ _ _ q6).2
        exact ⟨x :: u,by rw [Term.pop_some q1];simp only at hu;rw [hu];rfl⟩
       ·cases q5
      ·cases q2;exact ⟨[],rfl⟩
   exact mid_good d hd ih (hm.used hu) hk
theorem index_tu {w:List UInt8} (h:w=[116]∨w=[117]):CC f_slices_Index_string [.v (.sl [CVal.str [(117:UInt8)],CVal.str [(116:UInt8)]]),.v (.str w)] []=some (.int .i64 (if w=[116] then 1 else 0),[]):=by
 have:=index_law [[117],[116]] w (by decide)
 rcases h with rfl | rfl<;>exact this
theorem term_word (D:Int) {w:List UInt8} {c:Words} {X:Option (Term × Words)}
  (hb:(w=[116]∨w=[117])→X=some (.mk 2 (if w=[116] then 1 else 0) [] [] Ty.zero [] [],c))
  (h0:¬ (w=[116]∨w=[117])→(kindOf w=0∨D=0)→X=none)
  (hk:¬ (w=[116]∨w=[117])→kindOf w ≠ 0→D ≠ 0→∀ (Z:Option Ret→Option Ret),Z=Z→∃ d:Nat,D=((d + 1:Nat):Int)∧d ≤ 23∧ReadsTI d∧X=((readS (kindOf w) c).bind fun s=>(readZ (kindOf w) s.2).bind fun z=>(readN (kindOf w) z.2).bind fun n=>(readT (kindOf w) n.2).bind fun t=>
   (seqR (rdI d) (parts (kindOf w)).toNat t.2).map fun a=>(.mk (kindOf w) n.1.1 s.1 z.1 t.1 n.1.2 a.1,a.2)))
  (hm:WordsOk (w :: c)):ResI X (CC f_i_tokens_term [.lptr 0 0,.v (.int .i64 D)] [.box [.v (.sl (strsC (w :: c))),.v (.bool false)]]):=by
 refine goI ?_
 unfold nf_i_tokens_term
 refine ri_bd (next_cons w c) (ri_bd rfl (ri_bd rfl (ri_bd rfl ?_)))
 by_cases htu:w=[116]∨w=[117]
 ·rw [hb htu]
  refine ri_bd (a:=(true,PUnit.unit)) ?_ (ri_T rfl (ri_bd (index_tu htu) (ri_F rfl (ri_bd asInt_int ?_))))
  ·refine bd rfl ?_
   rcases htu with rfl | rfl
   ·exact br_T (by decide) rfl
   ·exact br_F (by decide) (bd rfl rfl)
  ·refine ⟨fun t r e=>?_,fun e=>by cases e⟩
   cases e
   rw [encZ]
   rcases htu with rfl | rfl<;>rfl
 ·have n1:w ≠ [116]:=fun e=>htu (.inl e)
  have n2:w ≠ [117]:=fun e=>htu (.inr e)
  refine ri_bd (a:=(false,PUnit.unit)) (bd rfl (br_F (decide_eq_false n1) (bd rfl (by rw [decide_eq_false n2])))) (ri_F rfl (ri_bd words_law (ri_bd (index_law twL w (by decide)) (ri_T rfl ?_))))
  have bad:X=none→∀ f:Bool × PUnit→Option Ret,(f (true,PUnit.unit)=some (CVal.agg [.int .i64 0,.int .i64 0,.str [],.str [],.int .i64 0,.int .i64 0,.sl [],.sl [],.sl []],[[.sl (strsC c),.bool true]]))→∀ o,o=some (true,PUnit.unit)→ResI X (o.bind f):=by
   rintro hX f hf o rfl
   refine ResI.bad hX ⟨noTerm,c,?_⟩
   show f (true,PUnit.unit)=_
   rw [hf,encZ]
   rfl
  by_cases hk0:kindOf w=0
  ·have hX:=h0 htu (.inl hk0)
   have hi:idx twL w 0 < 1:=by
    by_cases he:w=[]
    ·rw [he];decide
    ·rw [idx_tw he n1 n2,if_pos hk0];decide
   exact bad hX _ rfl _ (bd rfl (br_F rfl (bd asInt_int (br_T (decide_eq_true hi) rfl))))
  ·have he:w ≠ []:=fun e=>by rw [e] at hk0;exact hk0 (by decide)
   have hr:=kindOf_rng w
   have hk2:kindOf w ≠ 2:=by
    intro e
    have:=kword_of hk0 n2
    rw [e] at this
    exact n1 this
   rw [idx_tw he n1 n2,if_neg hk0]
   by_cases hD:D=0
   ·exact bad (h0 htu (.inr hD)) _ rfl _ (bd rfl (br_F rfl (bd asInt_int (br_F (decide_eq_false (by omega)) (bd asInt_int (br_F (decide_eq_false hk2) (bd rfl (br_F (decide_eq_false he) (by rw [decide_eq_true hD])))))))))
   ·obtain ⟨d,rfl,hd,ih,hX⟩:=hk htu hk0 hD id rfl
    have hk17:1 ≤ kindOf w∧kindOf w ≤ 17:=by omega
    have hmc:WordsOk c:=hm.used ⟨[w],rfl⟩
    rw [hX]
    generalize kindOf w=k at *
    refine ri_bd (a:=(false,PUnit.unit)) (bd rfl (br_F rfl (bd asInt_int (br_F (decide_eq_false (by omega)) (bd asInt_int (br_F (decide_eq_false hk2) (bd rfl (br_F (decide_eq_false he) (by rw [decide_eq_false hD]))))))))) (ri_F rfl ?_)
    refine ri_bd (a:=(decide (bindsS k=true∨k=3),PUnit.unit)) (bd (bindsS_i k) (bd rfl ?_)) ?_
    ·cases hbS:bindsS k with
     |true=>exact br_T rfl (by simp)
     |false=>exact br_F rfl (bd asInt_int (by simp))
    by_cases hS:bindsS k=true∨k=3
    ·refine ri_T (decide_eq_true hS) ?_
     have eS:∀ c,readS k c=pop c:=fun c=>if_pos hS
     cases c with
     |nil=>
      refine ri_bd next_nil (ri_bd rfl (ri_bd rfl (ri_bd rfl (ri_T rfl (ri_bd asInt_int ?_)))))
      have hXn:((readS k []).bind fun s=>(readZ k s.2).bind fun z=>(readN k z.2).bind fun n=>(readT k n.2).bind fun t=>(seqR (rdI d) (parts k).toNat t.2).map fun a=>(.mk k n.1.1 s.1 z.1 t.1 n.1.2 a.1,a.2))=(none:Option (Term × Words)):=by rw [eS];rfl
      rw [hXn]
      by_cases hZ:k=14
      ·refine ri_T (decide_eq_true hZ) (ri_bd (next_bad []) (ri_bd rfl (ri_bd rfl (ri_bd rfl (ri_T rfl ?_)))))
       exact num_mid d (by omega) ih (k:=k) (s:=[]) (z:=[]) (c:=[]) (b:=true) hmc hk17
      ·refine ri_F (decide_eq_false hZ) ?_
       exact num_mid d (by omega) ih (k:=k) (s:=[]) (z:=[]) (c:=[]) (b:=true) hmc hk17
     |cons w1 c1=>
      have hm1:WordsOk c1:=hmc.used ⟨[w1],rfl⟩
      refine ri_bd (next_cons w1 c1) (ri_bd rfl (ri_bd rfl (ri_bd rfl (ri_T rfl (ri_bd asInt_int ?_)))))
      rw [eS]
      by_cases hZ:k=14
      ·have eZ:∀ c,readZ k c=pop c:=fun c=>if_pos hZ
       refine ri_T (decide_eq_true hZ) ?_
       cases c1 with
       |nil=>
        refine ri_bd next_nil (ri_bd rfl (ri_bd rfl (ri_bd rfl (ri_T rfl ?_))))
        refine ResI.congr ?_ (num_mid d (by omega) ih (k:=k) (s:=w1) (z:=[]) (c:=[]) (b:=true) hm1 hk17)
        show ((readZ k []).bind _)=_
        rw [eZ];rfl
       |cons w2 c2=>
        refine ri_bd (next_cons w2 c2) (ri_bd rfl (ri_bd rfl (ri_bd rfl (ri_T rfl ?_))))
        refine ResI.congr ?_ (num_mid d (by omega) ih (k:=k) (s:=w1) (z:=w2) (c:=c2) (b:=false) (hm1.used ⟨[w2],rfl⟩) hk17)
        show ((readZ k (w2 :: c2)).bind _)=_
        rw [eZ];rfl
      ·have eZ:∀ c,readZ k c=some ([],c):=fun c=>if_neg hZ
       refine ri_F (decide_eq_false hZ) ?_
       refine ResI.congr ?_ (num_mid d (by omega) ih (k:=k) (s:=w1) (z:=[]) (c:=c1) (b:=false) hm1 hk17)
       show ((readZ k c1).bind _)=_
       rw [eZ];rfl
    ·refine ri_F (decide_eq_false hS) (ri_bd asInt_int ?_)
     have eS:∀ c,readS k c=some ([],c):=fun c=>if_neg hS
     rw [eS]
     by_cases hZ:k=14
     ·exact absurd (.inl (by rw [hZ];rfl)) hS
     ·have eZ:∀ c,readZ k c=some ([],c):=fun c=>if_neg hZ
      refine ri_F (decide_eq_false hZ) ?_
      refine ResI.congr ?_ (num_mid d (by omega) ih (k:=k) (s:=[]) (z:=[]) (c:=c) (b:=false) hmc hk17)
      show ((readZ k c).bind _)=_
      rw [eZ];rfl
theorem term_nil (d:Nat):∃ (t:Term) (r:Words),CC f_i_tokens_term [.lptr 0 0,.v (.int .i64 d)] [.box [.v (.sl (strsC [])),.v (.bool false)]]=some (t.enc,[[.sl (strsC r),.bool true]]):=by
 have h2:=index_law twL [] (by decide)
 refine ⟨noTerm,[],?_⟩
 apply go_i_tokens_term
 unfold nf_i_tokens_term
 refine bd next_nil (bd rfl (bd rfl (bd rfl (bd (a:=(false,PUnit.unit)) (bd rfl (br_F (by decide) (bd rfl rfl))) (br_F rfl (bd words_law (bd h2 (br_T rfl (bd (a:=(true,PUnit.unit)) (bd rfl (br_T rfl rfl)) (br_T rfl ?_))))))))))
 rw [encZ]
 rfl
theorem term_law:∀ d:Nat,d ≤ 24→ReadsTI d:=by
 intro d
 induction d with
 |zero=>
  intro _ c hm
  cases c with
  |nil=>exact ResI.bad rfl (term_nil 0)
  |cons w c=>
   refine term_word 0 (fun h=>?_) (fun h _=>?_) (fun _ _ h=>(h rfl).elim) hm
   ·rw [rdI,if_pos h]
   ·rw [rdI,if_neg h]
 |succ d ih=>
  intro hd c hm
  cases c with
  |nil=>exact ResI.bad rfl (term_nil (d + 1))
  |cons w c=>
   refine term_word ((d + 1:Nat):Int) (fun h=>?_) (fun h h0=>?_) (fun h hk _ _ _=>⟨d,rfl,by omega,ih (by omega),?_⟩) hm
   ·rw [rdI,if_pos h]
   ·rw [rdI,if_neg h,if_pos (h0.resolve_right (by omega))]
   ·rw [rdI,if_neg h,if_neg hk]
end Go.Proofs.YtegbnddjgifcdaaGreatDoor.Abs

/- A part. -/
import Derived.Test.YtegbnddjgifcdaaGreatDoorTermRead
import Derived.Test.YtegbnddjgifcdaaGreatDoorTermReadS
import Derived.Test.YtegbnddjgifcdaaGreatDoorTermPlain
set_option linter.unusedVariables false
set_option linter.unusedSectionVars false
set_option linter.unusedSimpArgs false
set_option maxRecDepth 100000
set_option maxHeartbeats 2000000
namespace Go.Proofs.YtegbnddjgifcdaaGreatDoor.Abs
open Go Go.Proofs
open Classical
theorem br_eq_T {R:Type} {b:Bool} {x y:Option R} (h:b=true):br b x y=x:=by rw [h];rfl
theorem br_eq_F {R:Type} {b:Bool} {x y:Option R} (h:b=false):br b x y=y:=by rw [h];rfl
def twL:Words:=[[],[110],[],[118],[102,110],[97,112,112],[108,101,116],[102,105,120],[105,102],[112,97,105,114],[102,115,116],[115,110,100],[110,105,108],[99,111,110,115],[99,97,115,101],[111,112],[114,97,105,115,101],[116,114,121]]
theorem idx_cons {x w:List UInt8} {l:Words} {i:Int}:idx (x :: l) w i=if w=x then i else idx l w (i + 1):=rfl
theorem idx_tw {w:List UInt8} (h0:w ≠ []) (ht:w ≠ [116]) (hu:w ≠ [117]):idx twL w 0=if kindOf w=0 then -1 else kindOf w:=by
 unfold twL kindOf
 rw [if_neg hu,idx_cons,if_neg h0]
 rw [idx_cons]
 by_cases q:w=[110]
 ·rw [if_pos q,if_pos q];decide
 rw [if_neg q,if_neg q]
 clear q
 rw [idx_cons,if_neg h0,if_neg ht]
 rw [idx_cons]
 by_cases q:w=[118]
 ·rw [if_pos q,if_pos q];decide
 rw [if_neg q,if_neg q]
 clear q
 rw [idx_cons]
 by_cases q:w=[102,110]
 ·rw [if_pos q,if_pos q];decide
 rw [if_neg q,if_neg q]
 clear q
 rw [idx_cons]
 by_cases q:w=[97,112,112]
 ·rw [if_pos q,if_pos q];decide
 rw [if_neg q,if_neg q]
 clear q
 rw [idx_cons]
 by_cases q:w=[108,101,116]
 ·rw [if_pos q,if_pos q];decide
 rw [if_neg q,if_neg q]
 clear q
 rw [idx_cons]
 by_cases q:w=[102,105,120]
 ·rw [if_pos q,if_pos q];decide
 rw [if_neg q,if_neg q]
 clear q
 rw [idx_cons]
 by_cases q:w=[105,102]
 ·rw [if_pos q,if_pos q];decide
 rw [if_neg q,if_neg q]
 clear q
 rw [idx_cons]
 by_cases q:w=[112,97,105,114]
 ·rw [if_pos q,if_pos q];decide
 rw [if_neg q,if_neg q]
 clear q
 rw [idx_cons]
 by_cases q:w=[102,115,116]
 ·rw [if_pos q,if_pos q];decide
 rw [if_neg q,if_neg q]
 clear q
 rw [idx_cons]
 by_cases q:w=[115,110,100]
 ·rw [if_pos q,if_pos q];decide
 rw [if_neg q,if_neg q]
 clear q
 rw [idx_cons]
 by_cases q:w=[110,105,108]
 ·rw [if_pos q,if_pos q];decide
 rw [if_neg q,if_neg q]
 clear q
 rw [idx_cons]
 by_cases q:w=[99,111,110,115]
 ·rw [if_pos q,if_pos q];decide
 rw [if_neg q,if_neg q]
 clear q
 rw [idx_cons]
 by_cases q:w=[99,97,115,101]
 ·rw [if_pos q,if_pos q];decide
 rw [if_neg q,if_neg q]
 clear q
 rw [idx_cons]
 by_cases q:w=[111,112]
 ·rw [if_pos q,if_pos q];decide
 rw [if_neg q,if_neg q]
 clear q
 rw [idx_cons]
 by_cases q:w=[114,97,105,115,101]
 ·rw [if_pos q,if_pos q];decide
 rw [if_neg q,if_neg q]
 clear q
 rw [idx_cons]
 by_cases q:w=[116,114,121]
 ·rw [if_pos q,if_pos q];decide
 rw [if_neg q,if_neg q]
 clear q
 rfl
theorem Atoi_law {w:List UInt8} (h:w.length ≤ 281474976710656):CC f_strconv_Atoi [.v (.str w)] []=some (atoiC w,[]):=extW (by decide) rfl (xAtoi_eq h)
theorem numI_ok {w:List UInt8} {v:Int} (e:Lib.atoiAll w=.ok v):numI w=if Lib.itoa v=w∧-9999999 ≤ v∧v ≤ 9999999 then some v else none:=by unfold numI;rw [e]
theorem number_end {w:List UInt8} {c:List CVal} {b b0:Bool} {c0:List CVal} (hw:w.length ≤ 281474976710656) (hn:CC f_i_tokens_next [.lptr 0 0] [.box [.v (.sl c0),.v (.bool b0)]]=some (.str w,[[.sl c,.bool b]])) :
  CC f_i_tokens_number [.lptr 0 0] [.box [.v (.sl c0),.v (.bool b0)]]=some (match numI w with | some n=>(.int .i64 n,[[.sl c,.bool b]]) | none=>(.int .i64 0,[[.sl c,.bool true]])):=by
 apply go_i_tokens_number
 unfold nf_i_tokens_number
 refine bd hn (bd rfl (bd rfl (bd rfl (bd (Atoi_law hw) ?_))))
 unfold atoiC
 cases e:Lib.atoiAll w with
 |ok v=>
  have hb:=Lib.atoiAll_bounds e
  have hI:=Itoa_law v (by unfold i64;omega)
  refine bd rfl (bd rfl (bd rfl (bd rfl ?_)))
  by_cases h:Lib.itoa v=w∧-9999999 ≤ v∧v ≤ 9999999
  ·rw [numI_ok e,if_pos h]
   refine bd (a:=(false,PUnit.unit)) (bd rfl (br_F rfl (bd hI (bd rfl (bd rfl (br_F (by simp [h.1]) (bd (in_law _ _ _) (bd rfl ?_)))))))) (br_F rfl rfl)
   rw [decide_eq_true h.2];rfl
  ·rw [numI_ok e,if_neg h]
   refine bd (a:=(true,PUnit.unit)) (bd rfl (br_F rfl (bd hI (bd rfl (bd rfl ?_))))) (br_T rfl rfl)
   by_cases h1:Lib.itoa v=w
   ·refine br_F (by simp [h1]) (bd (in_law _ _ _) (bd rfl ?_))
    rw [decide_eq_false (fun h2=>h ⟨h1,h2⟩)];rfl
   ·exact br_T (by simp [h1]) rfl
 |«syntax»=>
  have hnn:numI w=none:=by unfold numI;rw [e]
  rw [hnn]
  exact bd rfl (bd rfl (bd rfl (bd rfl (bd (a:=(true,PUnit.unit)) rfl (br_T rfl rfl)))))
 |range=>
  have hnn:numI w=none:=by unfold numI;rw [e]
  rw [hnn]
  exact bd rfl (bd rfl (bd rfl (bd rfl (bd (a:=(true,PUnit.unit)) rfl (br_T rfl rfl)))))
theorem number_cons {w:List UInt8} {c:Words} (hw:w.length ≤ 1048576):CC f_i_tokens_number [.lptr 0 0] [.box [.v (.sl (strsC (w :: c))),.v (.bool false)]]=some (match numI w with | some n=>(.int .i64 n,[[.sl (strsC c),.bool false]]) | none=>(.int .i64 0,[[.sl (strsC c),.bool true]])):=
 number_end (by omega) (next_cons w c)
theorem number_nil:CC f_i_tokens_number [.lptr 0 0] [.box [.v (.sl (strsC [])),.v (.bool false)]]=some (.int .i64 0,[[.sl (strsC []),.bool true]]):=
 number_end (w:=[]) (by decide) next_nil
theorem number_bad (c:Words):CC f_i_tokens_number [.lptr 0 0] [.box [.v (.sl (strsC c)),.v (.bool true)]]=some (.int .i64 0,[[.sl (strsC c),.bool true]]):=
 number_end (w:=[]) (by decide) (next_bad c)
section
variable {k n0:Int} {s z:List UInt8} {ta a:List CVal}
theorem tsI_loop:∀ (m:Nat) (i:Int) (done:List Ty) (c:Words),0 ≤ i→i + m ≤ 10→done.length + m ≤ 1000→
  (∀ l r,seqR (rd 6) m c=some (l,r)→
   LL f_i_tokens_numbers 1 lc_i_tokens_numbers_1 [PSh.box [none,none],PSh.arr (Md.mk true false 0) true 3,PSh.arr (Md.mk true false 0) true 3,PSh.arr (Md.mk true false 0) true 9] k_i_tokens_numbers_1 (((),(),(),i + m,i,()),(strsC c,false,()),ta,done.map Ty.enc,a,(k,n0,s,z,0,0,(),(),(),()),(0,0,[],[],0,0,(),(),(),()),[],[],[],()) =
    some (.out 1 (((),(),(),i + m,i + m,()),(strsC r,false,()),ta,(done ++ l).map Ty.enc,a,(k,n0,s,z,0,0,(),(),(),()),(0,0,[],[],0,0,(),(),(),()),[],[],[],())))∧
  (seqR (rd 6) m c=none→∃ (l:List Ty) (r:Words),
   LL f_i_tokens_numbers 1 lc_i_tokens_numbers_1 [PSh.box [none,none],PSh.arr (Md.mk true false 0) true 3,PSh.arr (Md.mk true false 0) true 3,PSh.arr (Md.mk true false 0) true 9] k_i_tokens_numbers_1 (((),(),(),i + m,i,()),(strsC c,false,()),ta,done.map Ty.enc,a,(k,n0,s,z,0,0,(),(),(),()),(0,0,[],[],0,0,(),(),(),()),[],[],[],()) =
    some (.out 1 (((),(),(),i + m,i + m,()),(strsC r,true,()),ta,l.map Ty.enc,a,(k,n0,s,z,0,0,(),(),(),()),(0,0,[],[],0,0,(),(),(),()),[],[],[],())))∧
  (∃ (l:List Ty) (r:Words),
   LL f_i_tokens_numbers 1 lc_i_tokens_numbers_1 [PSh.box [none,none],PSh.arr (Md.mk true false 0) true 3,PSh.arr (Md.mk true false 0) true 3,PSh.arr (Md.mk true false 0) true 9] k_i_tokens_numbers_1 (((),(),(),i + m,i,()),(strsC c,true,()),ta,done.map Ty.enc,a,(k,n0,s,z,0,0,(),(),(),()),(0,0,[],[],0,0,(),(),(),()),[],[],[],()) =
    some (.out 1 (((),(),(),i + m,i + m,()),(strsC r,true,()),ta,l.map Ty.enc,a,(k,n0,s,z,0,0,(),(),(),()),(0,0,[],[],0,0,(),(),(),()),[],[],[],())))
 |0,i,done,c,h0,h1,h2=>by
  have e:decide (i < i + ((0:Nat):Int))=false:=decide_eq_false (by omega)
  have e2:i + ((0:Nat):Int)=i:=by omega
  refine ⟨fun l r h=>?_,(fun h=>by cases h),done,c,?_⟩
  ·cases h
   apply gl_i_tokens_numbers_1
   unfold nl_i_tokens_numbers_1
   refine br_F e ?_
   rw [e2,List.append_nil]
  ·apply gl_i_tokens_numbers_1
   unfold nl_i_tokens_numbers_1
   refine br_F e ?_
   rw [e2]
 |m + 1,i,done,c,h0,h1,h2=>by
  have e:decide (i < i + ((m + 1:Nat):Int))=true:=decide_eq_true (by omega)
  have ea:i + ((m + 1:Nat):Int)=(i + 1) + (m:Int):=by omega
  have w2:IntKind.i64.wrap (i + 1)=i + 1:=by rw [wrap_i64]<;>omega
  have hle:(decide ((done.map Ty.enc).length + 1 ≤ 4294967296) && true && true)=true:=by rw [List.length_map];simp;omega
  have step:∀ (t:Ty) (r:Words) (b0 b:Bool),CC f_i_tokens_ty [.lptr 0 0,.v (.int .i64 6)] [.box [.v (.sl (strsC c)),.v (.bool b0)]]=some (t.enc,[[.sl (strsC r),.bool b]])→∀ X,
    LL f_i_tokens_numbers 1 lc_i_tokens_numbers_1 [PSh.box [none,none],PSh.arr (Md.mk true false 0) true 3,PSh.arr (Md.mk true false 0) true 3,PSh.arr (Md.mk true false 0) true 9] k_i_tokens_numbers_1 (((),(),(),(i + 1) + (m:Int),i + 1,()),(strsC r,b,()),ta,(done ++ [t]).map Ty.enc,a,(k,n0,s,z,0,0,(),(),(),()),(0,0,[],[],0,0,(),(),(),()),[],[],[],())=some X→
    LL f_i_tokens_numbers 1 lc_i_tokens_numbers_1 [PSh.box [none,none],PSh.arr (Md.mk true false 0) true 3,PSh.arr (Md.mk true false 0) true 3,PSh.arr (Md.mk true false 0) true 9] k_i_tokens_numbers_1 (((),(),(),i + ((m + 1:Nat):Int),i,()),(strsC c,b0,()),ta,done.map Ty.enc,a,(k,n0,s,z,0,0,(),(),(),()),(0,0,[],[],0,0,(),(),(),()),[],[],[],())=some X:=by
   intro t r b0 b hc X hX
   apply gl_i_tokens_numbers_1
   unfold nl_i_tokens_numbers_1
   refine br_T e (bd hc (bd rfl (bd rfl (bd rfl (br_T (Ty.enc_isAggN t) (bd (Ty.enc_cell0 t) (bd (Ty.enc_cell1 t) (bd (Ty.enc_cell2 t) (bd rfl (bd asInt_int (bd asInt_int (br_T hle (bd rfl (bd rfl ?_))))))))))))))
   rw [w2,ea,← Ty.enc_def t]
   rw [List.map_append] at hX
   exact hX
  have bad:=fun t:Ty=>(tsI_loop m (i + 1) (done ++ [t]) c (by omega) (by omega) (by simp;omega)).2.2
  refine ⟨fun l r h=>?_,fun h=>?_,?_⟩
  ·unfold seqR at h
   obtain ⟨⟨t,r1⟩,q1,h⟩:=Option.bind_eq_some_iff.1 h
   obtain ⟨⟨l2,r2⟩,q2,h⟩:=Option.map_eq_some_iff.1 h
   obtain ⟨e1,e2⟩:=Prod.mk.inj h
   have:=(tsI_loop m (i + 1) (done ++ [t]) r1 (by omega) (by omega) (by simp;omega)).1 l2 r2 q2
   rw [step t r1 false false ((ty_law 6 (by omega) c).1 t r1 q1) _ this,← e1,← e2,ea]
   simp
  ·unfold seqR at h
   cases q1:rd 6 c with
   |none=>
    obtain ⟨t,r1,h4⟩:=(ty_law 6 (by omega) c).2 q1
    obtain ⟨l,r,h5⟩:=(tsI_loop m (i + 1) (done ++ [t]) r1 (by omega) (by omega) (by simp;omega)).2.2
    refine ⟨l,r,?_⟩
    rw [step t r1 false true h4 _ h5,ea]
   |some x=>
    obtain ⟨t,r1⟩:=x
    rw [q1] at h
    simp only [Option.bind_some,Option.map_eq_none_iff] at h
    obtain ⟨l,r,h5⟩:=(tsI_loop m (i + 1) (done ++ [t]) r1 (by omega) (by omega) (by simp;omega)).2.1 h
    refine ⟨l,r,?_⟩
    rw [step t r1 false false ((ty_law 6 (by omega) c).1 t r1 q1) _ h5,ea]
  ·obtain ⟨l,r,h5⟩:=bad (.mk 0 0 [])
   refine ⟨l,r,?_⟩
   rw [step _ c true true (ty_bad c 6) _ h5,ea]
end
abbrev numA (k:Int) (s z:List UInt8):List AVal:=[.lptr 0 0,.agg [.v (.int .i64 k),.v (.int .i64 0),.v (.str s),.v (.str z),.v (.int .i64 0),.v (.int .i64 0),.lref 1 0,.lref 2 0,.lref 3 0]]
abbrev numB (c:Words) (b:Bool):List PB:=[.box [.v (.sl (strsC c)),.v (.bool b)],.arr (Md.mk true false 0) true 3 [],.arr (Md.mk true false 0) true 3 [],.arr (Md.mk true false 0) true 9 []]
def NumRes (k:Int) (s z:List UInt8) (X:Option ((Int × List Ty) × Words)) (o:Option Ret):Prop:=
 (∀ n ts c1,X=some ((n,ts),c1)→o=some ((Term.mk k n s z Ty.zero ts []).enc,[[.sl (strsC c1),.bool false],[],[],[]]))∧
 (X=none→∃ n ts c1,o=some ((Term.mk k n s z Ty.zero ts []).enc,[[.sl (strsC c1),.bool true],[],[],[]]))
theorem encZ (k n:Int) (s z:List UInt8) (ts:List Ty):(Term.mk k n s z Ty.zero ts []).enc=.agg [.int .i64 k,.int .i64 n,.str s,.str z,.int .i64 0,.int .i64 0,.sl [],.sl (ts.map Ty.enc),.sl []]:=by
 rw [Term.enc_def];rfl
theorem signs_law:CC f_i_opSigns [] []=some (.sl (strsC [[],[43],[45],[42],[60],[61]]),[]):=go_i_opSigns _ rfl
theorem numbers_law {k:Int} {s z:List UInt8} {c:Words} {b:Bool} (hm:∀ w ∈ c,w.length ≤ 1048576):NumRes k s z (if b=true then none else readN k c) (CC f_i_tokens_numbers (numA k s z) (numB c b)):=by
 have go:∀ X,NumRes k s z X (nf_i_tokens_numbers CC LL (strsC c) b k 0 s z 0 0 [] [] [])→NumRes k s z X (CC f_i_tokens_numbers (numA k s z) (numB c b)):=by
  intro X h
  refine ⟨fun n ts c1 e=>go_i_tokens_numbers _ _ _ _ _ _ _ _ _ _ _ _ (h.1 n ts c1 e),fun e=>?_⟩
  obtain ⟨n,ts,c1,h2⟩:=h.2 e
  exact ⟨n,ts,c1,go_i_tokens_numbers _ _ _ _ _ _ _ _ _ _ _ _ h2⟩
 refine go _ ?_
 clear go
 unfold nf_i_tokens_numbers
 unfold readN
 have num:∃ (n:Int) (c1:Words) (b1:Bool),CC f_i_tokens_number [.lptr 0 0] [.box [.v (.sl (strsC c)),.v (.bool b)]]=some (.int .i64 n,[[.sl (strsC c1),.bool b1]])∧
   ((b1=false∧b=false∧∃ w,c=w :: c1∧numI w=some n)∨(b1=true∧n=0∧(b=false→c=[]∨∃ w c2,c=w :: c2∧numI w=none))):=by
  cases b with
  |true=>exact ⟨0,c,true,number_bad c,.inr ⟨rfl,rfl,fun h=>by cases h⟩⟩
  |false=>
   cases c with
   |nil=>exact ⟨0,[],true,number_nil,.inr ⟨rfl,rfl,fun _=>.inl rfl⟩⟩
   |cons w c=>
    have h:=number_cons (w:=w) (c:=c) (hm w (by simp))
    cases e:numI w with
    |none=>rw [e] at h;exact ⟨0,c,true,h,.inr ⟨rfl,rfl,fun _=>.inr ⟨w,c,rfl,e⟩⟩⟩
    |some n=>rw [e] at h;exact ⟨n,c,false,h,.inl ⟨rfl,rfl,w,rfl,e⟩⟩
 obtain ⟨n,c1,b1,hn,hcase⟩:=num
 have one:NumRes k s z (if b=true then none else (pop c).bind fun p=>(numI p.1).map fun n=>((n,[]),p.2)) (some (CVal.agg [.int .i64 k,.int .i64 n,.str s,.str z,.int .i64 0,.int .i64 0,.sl [],.sl [],.sl []],[[.sl (strsC c1),.bool b1],[],[],[]])):=by
  rcases hcase with ⟨rfl,rfl,w,rfl,e⟩ | ⟨rfl,rfl,h⟩
  ·refine ⟨fun n' ts' c' h=>?_,fun h=>?_⟩
   ·simp only [pop,Option.bind_some,e,Option.map_some] at h
    cases h
    rw [encZ];try rfl
   ·simp [pop,e] at h
  ·refine ⟨fun n' ts' c' h2=>?_,fun _=>⟨0,[],c1,by rw [encZ];try rfl⟩⟩
   cases b with
   |true=>cases h2
   |false=>
    rcases h rfl with rfl | ⟨w,c2,rfl,e⟩
    ·cases h2
    ·simp [pop,e] at h2
 by_cases h1:k=1
 ·rw [if_pos (show k=1∨k=6∨k=7 from .inl h1),br_eq_T (decide_eq_true h1),hn]
  exact one
 by_cases h6:k=6
 ·rw [if_pos (show k=1∨k=6∨k=7 from .inr (.inl h6)),br_eq_F (decide_eq_false h1),br_eq_T (decide_eq_true h6),hn]
  exact one
 by_cases h7:k=7
 ·rw [if_pos (show k=1∨k=6∨k=7 from .inr (.inr h7)),br_eq_F (decide_eq_false h1),br_eq_F (decide_eq_false h6),br_eq_T (decide_eq_true h7),hn]
  exact one
 rw [if_neg (show ¬ (k=1∨k=6∨k=7) by omega),br_eq_F (decide_eq_false h1),br_eq_F (decide_eq_false h6),br_eq_F (decide_eq_false h7)]
 by_cases h15:k=15
 ·rw [if_pos h15,br_eq_T (decide_eq_true h15),signs_law]
  have fin:∀ (w:List UInt8) (c1:Words) (b1:Bool),CC f_i_tokens_next [.lptr 0 0] [.box [.v (.sl (strsC c)),.v (.bool b)]]=some (.str w,[[.sl (strsC c1),.bool b1]])→∀ X:Option ((Int × List Ty) × Words),
    (X=some ((signI w,[]),c1)∧b1=false∨X=none∧b1=true)→NumRes k s z X ((CC f_i_tokens_next [.lptr 0 0] [.box [.v (.sl (strsC c)),.v (.bool b)]]).bind fun r_1=>r_1.2[0]?.bind fun y=>y[0]?.bind fun y_1=>y[1]?.bind fun y=>(CC f_slices_Index_string [AVal.v (.sl (strsC [[],[43],[45],[42],[60],[61]])),AVal.v r_1.1] []).bind fun r=>
     br (r.1.isFlat && true) ((CVal.asInt .i64 r.1).bind fun n=>some (CVal.agg [.int .i64 k,.int .i64 n,.str s,.str z,.int .i64 0,.int .i64 0,.sl [],.sl [],.sl []],[[y_1,y],[],[],[]])) none):=by
   intro w c1 b1 h X hX
   rw [h]
   have hi:=index_law [[],[43],[45],[42],[60],[61]] w (by decide)
   have:((some (CVal.str w,[[CVal.sl (strsC c1),CVal.bool b1]]):Option Ret).bind fun r_1=>r_1.2[0]?.bind fun y=>y[0]?.bind fun y_1=>y[1]?.bind fun y=>(CC f_slices_Index_string [AVal.v (.sl (strsC [[],[43],[45],[42],[60],[61]])),AVal.v r_1.1] []).bind fun r=>
     br (r.1.isFlat && true) ((CVal.asInt .i64 r.1).bind fun n=>some (CVal.agg [.int .i64 k,.int .i64 n,.str s,.str z,.int .i64 0,.int .i64 0,.sl [],.sl [],.sl []],[[y_1,y],[],[],[]])) none) =
     some (CVal.agg [.int .i64 k,.int .i64 (signI w),.str s,.str z,.int .i64 0,.int .i64 0,.sl [],.sl [],.sl []],[[.sl (strsC c1),.bool b1],[],[],[]]):=
    bd rfl (bd rfl (bd rfl (bd rfl (bd hi (br_T rfl (bd asInt_int rfl))))))
   rw [this]
   rcases hX with ⟨rfl,rfl⟩ | ⟨rfl,rfl⟩
   ·refine ⟨fun n' ts' c' h=>?_,fun h=>by cases h⟩
    cases h
    rw [encZ];try rfl
   ·exact ⟨fun n' ts' c' h=>(by cases h),fun _=>⟨signI w,[],c1,by rw [encZ];try rfl⟩⟩
  cases b with
  |true=>exact fin [] c true (next_bad c) _ (.inr ⟨rfl,rfl⟩)
  |false=>
   cases c with
   |nil=>exact fin [] [] true next_nil _ (.inr ⟨rfl,rfl⟩)
   |cons w c=>exact fin w c false (next_cons w c) _ (.inl ⟨rfl,rfl⟩)
 rw [if_neg h15,br_eq_F (decide_eq_false h15)]
 by_cases h3:k=3
 ·rw [if_pos h3,br_eq_T (decide_eq_true h3),hn]
  have hin:=in_law n 0 2
  have pre:∀ (Q:Option Ret→Prop) (o1 o2:Option Ret),((0 ≤ n∧n ≤ 2)→Q o2)→(¬ (0 ≤ n∧n ≤ 2)→Q o1)→Q ((CC f_i_in [AVal.v (CVal.int .i64 n),AVal.v (CVal.int .i64 0),AVal.v (CVal.int .i64 2)] []).bind fun r_1=>r_1.1.asBool.bind fun b=>br (!b) o1 o2):=by
   intro Q o1 o2 hy hno
   rw [hin]
   show Q (br (!decide (0 ≤ n∧n ≤ 2)) o1 o2)
   by_cases h:0 ≤ n∧n ≤ 2
   ·rw [decide_eq_true h];exact hy h
   ·rw [decide_eq_false h];exact hno h
  refine pre (NumRes k s z _) _ _ (fun hr=>?_) (fun hr=>?_)
  ·
   show NumRes k s z _ ((LL f_i_tokens_numbers 1 lc_i_tokens_numbers_1 [PSh.box [none,none],PSh.arr (Md.mk true false 0) true 3,PSh.arr (Md.mk true false 0) true 3,PSh.arr (Md.mk true false 0) true 9] k_i_tokens_numbers_1 (((),(),(),n,0,()),(strsC c1,b1,()),[],[],[],(k,0,s,z,0,0,(),(),(),()),(0,0,[],[],0,0,(),(),(),()),[],[],[],())).bind _)
   have hl:=tsI_loop (k:=k) (n0:=0) (s:=s) (z:=z) (ta:=[]) (a:=[]) n.toNat 0 [] c1 (by omega) (by omega) (by simp;omega)
   have e1:(0:Int) + (n.toNat:Int)=n:=by omega
   rw [e1] at hl
   rcases hcase with ⟨rfl,rfl,w,rfl,e⟩ | ⟨rfl,rfl,h⟩
   ·have hX:(if false=true then none else (pop (w :: c1)).bind fun p=>(numI p.1).bind fun n=>if 0 ≤ n∧n ≤ 2 then (seqR (rd 6) n.toNat p.2).map fun q=>((0,q.1),q.2) else none)=(seqR (rd 6) n.toNat c1).map fun q=>(((0:Int),q.1),q.2):=by
     simp only [pop,Option.bind_some,e,if_pos hr]
     rfl
    rw [hX]
    cases q:seqR (rd 6) n.toNat c1 with
    |some x=>
     obtain ⟨l,r⟩:=x
     refine ⟨fun n' ts' c' h=>?_,fun h=>by cases h⟩
     cases h
     refine bd (hl.1 l r q) (lo_out (br_T rfl ?_))
     rw [encZ];try rfl
    |none=>
     obtain ⟨l,r,h5⟩:=hl.2.1 q
     refine ⟨fun n' ts' c' h=>(by cases h),fun _=>⟨0,l,r,?_⟩⟩
     refine bd h5 (lo_out (br_T rfl ?_))
     rw [encZ];try rfl
   ·obtain ⟨l,r,h5⟩:=hl.2.2
    refine ⟨fun n' ts' c' h2=>?_,fun _=>⟨0,l,r,?_⟩⟩
    ·cases b with
     |true=>cases h2
     |false=>
      rcases h rfl with rfl | ⟨w,c2,rfl,e⟩
      ·cases h2
      ·simp [pop,e] at h2
    ·refine bd h5 (lo_out (br_T rfl ?_))
     rw [encZ];try rfl
  ·rcases hcase with ⟨rfl,rfl,w,rfl,e⟩ | ⟨rfl,rfl,h⟩
   ·refine ⟨fun n' ts' c' h2=>?_,fun _=>⟨0,[],c1,by rw [encZ];try rfl⟩⟩
    simp [pop,e,hr] at h2
   ·exact (hr ⟨by omega,by omega⟩).elim
 ·rw [if_neg h3,br_eq_F (decide_eq_false h3)]
  cases b with
  |true=>exact ⟨fun n' ts' c' h2=>(by cases h2),fun _=>⟨0,[],c,by rw [encZ];try rfl⟩⟩
  |false=>
   refine ⟨fun n' ts' c' h2=>?_,fun h=>by cases h⟩
   cases h2
   rw [encZ];try rfl
noncomputable def midO (b:Int):Ret→Option Ret:=fun r=>r.2[0]?.bind fun y=>r.2[1]?.bind fun y_5=>r.2[2]?.bind fun y_6=>r.2[3]?.bind fun y_7=>y[0]?.bind fun y_8=>y[1]?.bind fun y=>br (CVal.isAggN 9 r.1) ((r.1.cell 0).bind fun c=>(r.1.cell 1).bind fun c_1=>(r.1.cell 2).bind fun c_2=>(r.1.cell 3).bind fun c_3=>(r.1.cell 4).bind fun c_4=>(r.1.cell 5).bind fun c_5=>(r.1.cell 6).bind fun c_6=>(r.1.cell 7).bind fun c_7=>(r.1.cell 8).bind fun c_8=>c_6.asSl.bind fun xs=>c_7.asSl.bind fun xs_1=>c_8.asSl.bind fun xs_2=>(CC f_i_hasT [AVal.v c] []).bind fun r=>r.1.asBool.bind fun b_1=>br b_1 ((CC f_i_tokens_ty [AVal.lptr 0 0,AVal.v (CVal.int .i64 6)] [PB.box [AVal.v y_8,AVal.v y]]).bind fun r=>r.2[0]?.bind fun y=>y[0]?.bind fun y_9=>y[1]?.bind fun y=>br (CVal.isAggN 3 r.1) ((r.1.cell 0).bind fun c_9=>(r.1.cell 1).bind fun c_10=>(r.1.cell 2).bind fun c_11=>c_11.asSl.bind fun xs=>(CC f_i_parts [AVal.v c] []).bind fun r=>(CVal.asInt .i64 r.1).bind fun n=>y_9.asSl.bind fun xs_3=>y.asBool.bind fun b_2=>(CVal.asInt .i64 c).bind fun n_1=>(CVal.asInt .i64 c_1).bind fun n_2=>c_2.asStr.bind fun s=>c_3.asStr.bind fun s_1=>(CVal.asInt .i64 c_9).bind fun n_3=>(CVal.asInt .i64 c_10).bind fun n_4=>(LL f_i_tokens_term 0 lc_i_tokens_term_0 [PSh.box [none,none]] k_i_tokens_term_0 (((),b,(),(),n,0,()),(xs_3,b_2,()),(0,0,[],[],0,0,(),(),(),()),[],[],[],(n_1,n_2,s,s_1,n_3,n_4,(),(),(),()),xs,xs_1,xs_2,())).bind fun r=>loK r (fun r=>some r) fun j p=>br (j == 0) (some (CVal.agg [CVal.int .i64 p.snd.snd.snd.snd.snd.snd.fst.1,CVal.int .i64 p.snd.snd.snd.snd.snd.snd.fst.snd.1,CVal.str p.snd.snd.snd.snd.snd.snd.fst.snd.snd.1,CVal.str p.snd.snd.snd.snd.snd.snd.fst.snd.snd.snd.1,CVal.int .i64 p.snd.snd.snd.snd.snd.snd.fst.snd.snd.snd.snd.1,CVal.int .i64 p.snd.snd.snd.snd.snd.snd.fst.snd.snd.snd.snd.snd.1,CVal.sl p.snd.snd.snd.snd.snd.snd.snd.1,CVal.sl p.snd.snd.snd.snd.snd.snd.snd.snd.1,CVal.sl p.snd.snd.snd.snd.snd.snd.snd.snd.snd.1],[[CVal.sl p.snd.fst.1,CVal.bool p.snd.fst.snd.1]])) none) none) ((CC f_i_parts [AVal.v c] []).bind fun r=>(CVal.asInt .i64 r.1).bind fun n=>y_8.asSl.bind fun xs_3=>y.asBool.bind fun b_2=>(CVal.asInt .i64 c).bind fun n_1=>(CVal.asInt .i64 c_1).bind fun n_2=>c_2.asStr.bind fun s=>c_3.asStr.bind fun s_1=>(CVal.asInt .i64 c_4).bind fun n_3=>(CVal.asInt .i64 c_5).bind fun n_4=>(LL f_i_tokens_term 0 lc_i_tokens_term_0 [PSh.box [none,none]] k_i_tokens_term_0 (((),b,(),(),n,0,()),(xs_3,b_2,()),(0,0,[],[],0,0,(),(),(),()),[],[],[],(n_1,n_2,s,s_1,n_3,n_4,(),(),(),()),xs,xs_1,xs_2,())).bind fun r=>loK r (fun r=>some r) fun j p=>br (j == 0) (some (CVal.agg [CVal.int .i64 p.snd.snd.snd.snd.snd.snd.fst.1,CVal.int .i64 p.snd.snd.snd.snd.snd.snd.fst.snd.1,CVal.str p.snd.snd.snd.snd.snd.snd.fst.snd.snd.1,CVal.str p.snd.snd.snd.snd.snd.snd.fst.snd.snd.snd.1,CVal.int .i64 p.snd.snd.snd.snd.snd.snd.fst.snd.snd.snd.snd.1,CVal.int .i64 p.snd.snd.snd.snd.snd.snd.fst.snd.snd.snd.snd.snd.1,CVal.sl p.snd.snd.snd.snd.snd.snd.snd.1,CVal.sl p.snd.snd.snd.snd.snd.snd.snd.snd.1,CVal.sl p.snd.snd.snd.snd.snd.snd.snd.snd.snd.1],[[CVal.sl p.snd.fst.1,CVal.bool p.snd.fst.snd.1]])) none)) none
noncomputable def endO (x:k_i_tokens_term_0.T):Option Ret:=(LL f_i_tokens_term 0 lc_i_tokens_term_0 [PSh.box [none,none]] k_i_tokens_term_0 x).bind fun r=>loK r (fun r=>some r) fun j p=>br (j == 0) (some (CVal.agg [CVal.int .i64 p.snd.snd.snd.snd.snd.snd.fst.1,CVal.int .i64 p.snd.snd.snd.snd.snd.snd.fst.snd.1,CVal.str p.snd.snd.snd.snd.snd.snd.fst.snd.snd.1,CVal.str p.snd.snd.snd.snd.snd.snd.fst.snd.snd.snd.1,CVal.int .i64 p.snd.snd.snd.snd.snd.snd.fst.snd.snd.snd.snd.1,CVal.int .i64 p.snd.snd.snd.snd.snd.snd.fst.snd.snd.snd.snd.snd.1,CVal.sl p.snd.snd.snd.snd.snd.snd.snd.1,CVal.sl p.snd.snd.snd.snd.snd.snd.snd.snd.1,CVal.sl p.snd.snd.snd.snd.snd.snd.snd.snd.snd.1],[[CVal.sl p.snd.fst.1,CVal.bool p.snd.fst.snd.1]])) none
def ResI (X:Option (Term × Words)) (o:Option Ret):Prop:=
 (∀ t r,X=some (t,r)→o=some (t.enc,[[.sl (strsC r),.bool false]]))∧
 (X=none→∃ (t:Term) (r:Words),o=some (t.enc,[[.sl (strsC r),.bool true]]))
end Go.Proofs.YtegbnddjgifcdaaGreatDoor.Abs

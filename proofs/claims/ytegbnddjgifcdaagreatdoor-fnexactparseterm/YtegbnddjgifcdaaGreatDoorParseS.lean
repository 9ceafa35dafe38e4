/- A part. -/
import Derived.Test.YtegbnddjgifcdaaGreatDoorParseI
set_option linter.unusedVariables false
set_option linter.unusedSimpArgs false
set_option linter.unusedSectionVars false
set_option maxRecDepth 100000
namespace Go.Proofs.YtegbnddjgifcdaaGreatDoor.Abs
open Go Go.Proofs
open Classical
theorem nextS_nil (ws:List (List UInt8)):CC f_s_l1Next [.lptr 0 0] [.box [.v (.sl (strsC ws)),.v (.int .i64 ws.length),.v (.bool false)]]=some (.str [],[[.sl (strsC ws),.int .i64 ws.length,.bool true]]):=by
 apply go_s_l1Next
 unfold nf_s_l1Next
 have h1:decide (((strsC ws).length:Int) ≤ (ws.length:Int))=true:=decide_eq_true (by simp)
 simp only [h1,br_true',Option.bind_some]
theorem nextS_cons {ws:List (List UInt8)} {w:List UInt8} {pre c:List (List UInt8)} (h:ws=pre ++ w :: c) (hl:ws.length ≤ 1048577):CC f_s_l1Next [.lptr 0 0] [.box [.v (.sl (strsC ws)),.v (.int .i64 pre.length),.v (.bool false)]]=some (.str w,[[.sl (strsC ws),.int .i64 (pre.length + 1),.bool false]]):=by
 apply go_s_l1Next
 unfold nf_s_l1Next
 have hll:pre.length + 1 ≤ ws.length:=by rw [h];simp
 have h1:decide (((strsC ws).length:Int) ≤ (pre.length:Int))=false:=decide_eq_false (by simp;omega)
 have w1:IntKind.i64.wrap ((pre.length:Int) + 1)=(pre.length:Int) + 1:=by rw [wrap_i64]<;>omega
 have w2:IntKind.i64.wrap ((pre.length:Int) + 1 - 1)=(pre.length:Int):=by rw [wrap_i64]<;>omega
 have h2:decide ((0:Int) ≤ (pre.length:Int))=true:=decide_eq_true (by omega)
 have h4:(strsC ws)[((pre.length:Nat):Int).toNat]? = some (.str w):=by rw [h,strsC];exact get_mid _ _ _ _
 simp only [br_false',Option.bind_some,h1,h2,w1,w2,h4,Bool.and_true,br_true',fits_str,cell_str]
def ReadsS (ws:List (List UInt8)) (d:Nat):Prop:=∀ pre c:List (List UInt8),ws=pre ++ c→
 (∀ t r,rd d c=some (t,r)→CC f_s_l1Read [.lptr 0 0,.v (.int .i64 d)] [.box [.v (.sl (strsC ws)),.v (.int .i64 pre.length),.v (.bool false)]]=some (t.enc,[[.sl (strsC ws),.int .i64 ((ws.length:Int) - r.length),.bool false]]))∧
 (rd d c=none→∃ (t:Ty) (i:Int),CC f_s_l1Read [.lptr 0 0,.v (.int .i64 d)] [.box [.v (.sl (strsC ws)),.v (.int .i64 pre.length),.v (.bool false)]]=some (t.enc,[[.sl (strsC ws),.int .i64 i,.bool true]]))
theorem readS_bad (x:CVal × Int) (d a i k n p q:Int) (ws:List CVal) (l:List CVal):LL f_s_l1Read 1 lc_s_l1Read_1 [PSh.box [none,none,none]] k_s_l1Read_1 (((),d,(),(),a,()),(ws,i,true,()),(p,q,(),()),[],(k,n,(),()),l,()) =
  some (.out 1 (((),d,(),(),a,()),(ws,i,true,()),(p,q,(),()),[],(k,n,(),()),l,())):=by
 have hp:=tyParts_s k
 apply gl_s_l1Read_1
 unfold nl_s_l1Read_1
 simp only [hp,Option.bind_some,asInt_int,Bool.not_true]
 cases decide (a < tyParts k)<;>simp only [br_true',br_false',Option.bind_some]
theorem readS_loop {ws:List (List UInt8)} (hws:ws.length ≤ 1048577) (d:Nat) (hd:d ≤ 50) (ih:ReadsS ws d) {k:Int} (hk:1 ≤ k∧k ≤ 6) (n p q:Int):∀ (m:Nat) (a:Int) (done:List Ty) (pre c:List (List UInt8)),ws=pre ++ c→0 ≤ a→a + m=ar k→done.length + m ≤ 1000→
  (∀ l r,seqR (rd d) m c=some (l,r)→
   LL f_s_l1Read 1 lc_s_l1Read_1 [PSh.box [none,none,none]] k_s_l1Read_1 (((),((d + 1:Nat):Int),(),(),a,()),(strsC ws,(pre.length:Int),false,()),(p,q,(),()),[],(k,n,(),()),done.map Ty.enc,()) =
    some (.out 1 (((),((d + 1:Nat):Int),(),(),(ar k:Int),()),(strsC ws,(ws.length:Int) - r.length,false,()),(p,q,(),()),[],(k,n,(),()),(done ++ l).map Ty.enc,())))∧
  (seqR (rd d) m c=none→∃ (l:List Ty) (j i:Int),
   LL f_s_l1Read 1 lc_s_l1Read_1 [PSh.box [none,none,none]] k_s_l1Read_1 (((),((d + 1:Nat):Int),(),(),a,()),(strsC ws,(pre.length:Int),false,()),(p,q,(),()),[],(k,n,(),()),done.map Ty.enc,()) =
    some (.out 1 (((),((d + 1:Nat):Int),(),(),j,()),(strsC ws,i,true,()),(p,q,(),()),[],(k,n,(),()),l.map Ty.enc,())))
 |0,a,done,pre,c,hc,h0,h1,h2=>by
  have hp:=tyParts_s k
  rw [parts_ar hk] at hp
  have e:decide (a < (ar k:Int))=false:=decide_eq_false (by omega)
  have e2:a=(ar k:Int):=by omega
  refine ⟨fun l r h=>?_,fun h=>by cases h⟩
  cases h
  apply gl_s_l1Read_1
  unfold nl_s_l1Read_1
  simp only [hp,e,br_false',Option.bind_some,asInt_int]
  have:(pre.length:Int)=(ws.length:Int) - c.length:=by rw [hc];simp
  rw [e2,this,List.append_nil]
 |m + 1,a,done,pre,c,hc,h0,h1,h2=>by
  have hp:=tyParts_s k
  rw [parts_ar hk] at hp
  have e:decide (a < (ar k:Int))=true:=decide_eq_true (by omega)
  have har:=ar_le k
  have w1:IntKind.i64.wrap (((d + 1:Nat):Int) - 1)=(d:Int):=by rw [wrap_i64]<;>omega
  have w2:IntKind.i64.wrap (a + 1)=a + 1:=by rw [wrap_i64]<;>omega
  have e2:decide ((done.map Ty.enc).length + 1 ≤ 4294967296)=true:=decide_eq_true (by simp;omega)
  have e3:∀ t:Ty,done.map Ty.enc ++ [t.enc]=(done ++ [t]).map Ty.enc:=fun t=>by simp
  have step:∀ (t:Ty) (i:Int) (b:Bool),CC f_s_l1Read [.lptr 0 0,.v (.int .i64 d)] [.box [.v (.sl (strsC ws)),.v (.int .i64 pre.length),.v (.bool false)]]=some (t.enc,[[.sl (strsC ws),.int .i64 i,.bool b]])→∀ X,
    LL f_s_l1Read 1 lc_s_l1Read_1 [PSh.box [none,none,none]] k_s_l1Read_1 (((),((d + 1:Nat):Int),(),(),a + 1,()),(strsC ws,i,b,()),(p,q,(),()),[],(k,n,(),()),(done ++ [t]).map Ty.enc,())=some X→
    LL f_s_l1Read 1 lc_s_l1Read_1 [PSh.box [none,none,none]] k_s_l1Read_1 (((),((d + 1:Nat):Int),(),(),a,()),(strsC ws,(pre.length:Int),false,()),(p,q,(),()),[],(k,n,(),()),done.map Ty.enc,())=some X:=by
   intro t i b hcc X hX
   apply gl_s_l1Read_1
   unfold nl_s_l1Read_1
   simp only [hp,e,br_true',w1,hcc,Option.bind_some,List.getElem?_cons_zero,List.getElem?_cons_succ,Ty.enc_isAggN,Ty.enc_cell0,Ty.enc_cell1,Ty.enc_cell2,asSl_sl,asInt_int,e2,Bool.and_true,asBool_bool,w2,Ty.enc_eta,e3,Bool.not_false]
   exact hX
  refine ⟨fun l r h=>?_,fun h=>?_⟩
  ·unfold seqR at h
   obtain ⟨⟨t,r1⟩,h1',h⟩:=Option.bind_eq_some_iff.1 h
   obtain ⟨⟨l2,r2⟩,h3,h⟩:=Option.map_eq_some_iff.1 h
   obtain ⟨q1,q2⟩:=Prod.mk.inj h
   obtain ⟨u,hu⟩:=rd_used d c t r1 h1'
   have hc2:ws=(pre ++ u) ++ r1:=by rw [hc,hu];simp
   have hlen:(((pre ++ u).length:Nat):Int)=(ws.length:Int) - r1.length:=by rw [hc2];simp;omega
   have:=(readS_loop hws d hd ih hk n p q m (a + 1) (done ++ [t]) (pre ++ u) r1 hc2 (by omega) (by omega) (by simp;omega)).1 l2 r2 h3
   rw [List.append_assoc,List.singleton_append,hlen] at this
   rw [← q1,← q2]
   exact step t _ false ((ih pre c hc).1 t r1 h1') _ this
  ·unfold seqR at h
   cases h3:rd d c with
   |none=>
    obtain ⟨t,i,h4⟩:=(ih pre c hc).2 h3
    exact ⟨done ++ [t],a + 1,i,step t i true h4 _ (readS_bad (.bool true,0) _ _ _ _ _ _ _ _ _)⟩
   |some x=>
    obtain ⟨t,r1⟩:=x
    rw [h3] at h
    simp only [Option.bind_some,Option.map_eq_none_iff] at h
    obtain ⟨u,hu⟩:=rd_used d c t r1 h3
    have hc2:ws=(pre ++ u) ++ r1:=by rw [hc,hu];simp
    have hlen:(((pre ++ u).length:Nat):Int)=(ws.length:Int) - r1.length:=by rw [hc2];simp;omega
    obtain ⟨l,j,i,h5⟩:=(readS_loop hws d hd ih hk n p q m (a + 1) (done ++ [t]) (pre ++ u) r1 hc2 (by omega) (by omega) (by simp;omega)).2 h
    rw [hlen] at h5
    exact ⟨l,j,i,step t _ false ((ih pre c hc).1 t r1 h3) _ h5⟩
theorem kw_cases {w:List UInt8} {k n:Int} (h:kw w=some (k,n)):(w=[105]∧k=1∧n=0)∨(w=[98]∧k=2∧n=0)∨(w=[118,48]∧k=3∧n=0)∨(w=[118,49]∧k=3∧n=1)∨(w=[102]∧k=4∧n=0)∨(w=[112]∧k=5∧n=0)∨(w=[108]∧k=6∧n=0):=by
 unfold kw at h
 repeat' split at h
 all_goals first | (cases h;done) | (simp only [Option.some.injEq,Prod.mk.injEq] at h;obtain ⟨rfl,rfl⟩:=h;subst_vars;simp)
theorem kw_none {w:List UInt8} (h:kw w=none):w ≠ [105]∧w ≠ [98]∧w ≠ [118,48]∧w ≠ [118,49]∧w ≠ [102]∧w ≠ [112]∧w ≠ [108]:=by
 unfold kw at h
 repeat' split at h
 all_goals first | (cases h;done) | skip
 refine ⟨?_,?_,?_,?_,?_,?_,?_⟩<;>assumption
theorem read_word {ws:List (List UInt8)} {w:List UInt8} {pre c:List (List UInt8)} (h:ws=pre ++ w :: c) (hl:ws.length ≤ 1048577) {k n:Int} (hk:kw w=some (k,n)) {d:Int} {b:Bool} (hb:b=decide (d=0)) {l:List Ty} {j i:Int} {b':Bool}
  (hL:LL f_s_l1Read 1 lc_s_l1Read_1 [PSh.box [none,none,none]] k_s_l1Read_1 (((),d,(),(),0,()),(strsC ws,(pre.length:Int) + 1,b,()),(0,0,(),()),[],(k,n,(),()),[],()) =
   some (.out 1 (((),d,(),(),j,()),(strsC ws,i,b',()),(0,0,(),()),[],(k,n,(),()),l.map Ty.enc,()))) :
  CC f_s_l1Read [.lptr 0 0,.v (.int .i64 d)] [.box [.v (.sl (strsC ws)),.v (.int .i64 pre.length),.v (.bool false)]]=some ((Ty.mk k n l).enc,[[.sl (strsC ws),.int .i64 i,.bool b']]):=by
 have h1:=nextS_cons h hl
 apply go_s_l1Read
 unfold nf_s_l1Read
 rcases kw_cases hk with ⟨rfl,rfl,rfl⟩ | ⟨rfl,rfl,rfl⟩ | ⟨rfl,rfl,rfl⟩ | ⟨rfl,rfl,rfl⟩ | ⟨rfl,rfl,rfl⟩ | ⟨rfl,rfl,rfl⟩ | ⟨rfl,rfl,rfl⟩
 ·cases hd:decide (d=0)<;>rw [hd] at hb<;>subst hb <;>
   simp only [hd,h1,hL,decide_true,Option.bind_some,List.getElem?_cons_zero,List.getElem?_cons_succ,br_true',br_false',asStr_str,asSl_sl,asInt_int,asBool_bool,loK_out,beq_self_eq_true,Ty.enc_def,Ty.k_mk,Ty.n_mk,Ty.a_mk]
 ·cases hd:decide (d=0)<;>rw [hd] at hb<;>subst hb <;>
   simp only [hd,h1,hL,(show decide (([98]:List UInt8)=[105])=false by decide),decide_true,Option.bind_some,List.getElem?_cons_zero,List.getElem?_cons_succ,br_true',br_false',asStr_str,asSl_sl,asInt_int,asBool_bool,loK_out,beq_self_eq_true,Ty.enc_def,Ty.k_mk,Ty.n_mk,Ty.a_mk]
 ·cases hd:decide (d=0)<;>rw [hd] at hb<;>subst hb <;>
   simp only [hd,h1,hL,(show decide (([118,48]:List UInt8)=[105])=false by decide),(show decide (([118,48]:List UInt8)=[98])=false by decide),decide_true,Option.bind_some,List.getElem?_cons_zero,List.getElem?_cons_succ,br_true',br_false',asStr_str,asSl_sl,asInt_int,asBool_bool,loK_out,beq_self_eq_true,Ty.enc_def,Ty.k_mk,Ty.n_mk,Ty.a_mk,(show ([118,48]:List UInt8)[1]? = some 48 from rfl),(show IntKind.i64.wrap (IntKind.u8.wrap (((48:UInt8).toNat:Int) - 48))=0 by decide)]
 ·cases hd:decide (d=0)<;>rw [hd] at hb<;>subst hb <;>
   simp only [hd,h1,hL,(show decide (([118,49]:List UInt8)=[105])=false by decide),(show decide (([118,49]:List UInt8)=[98])=false by decide),(show decide (([118,49]:List UInt8)=[118,48])=false by decide),decide_true,Option.bind_some,List.getElem?_cons_zero,List.getElem?_cons_succ,br_true',br_false',asStr_str,asSl_sl,asInt_int,asBool_bool,loK_out,beq_self_eq_true,Ty.enc_def,Ty.k_mk,Ty.n_mk,Ty.a_mk,(show ([118,49]:List UInt8)[1]? = some 49 from rfl),(show IntKind.i64.wrap (IntKind.u8.wrap (((49:UInt8).toNat:Int) - 48))=1 by decide)]
 ·cases hd:decide (d=0)<;>rw [hd] at hb<;>subst hb <;>
   simp only [hd,h1,hL,(show decide (([102]:List UInt8)=[105])=false by decide),(show decide (([102]:List UInt8)=[98])=false by decide),(show decide (([102]:List UInt8)=[118,48])=false by decide),(show decide (([102]:List UInt8)=[118,49])=false by decide),decide_true,Option.bind_some,List.getElem?_cons_zero,List.getElem?_cons_succ,br_true',br_false',asStr_str,asSl_sl,asInt_int,asBool_bool,loK_out,beq_self_eq_true,Ty.enc_def,Ty.k_mk,Ty.n_mk,Ty.a_mk]
 ·cases hd:decide (d=0)<;>rw [hd] at hb<;>subst hb <;>
   simp only [hd,h1,hL,(show decide (([112]:List UInt8)=[105])=false by decide),(show decide (([112]:List UInt8)=[98])=false by decide),(show decide (([112]:List UInt8)=[118,48])=false by decide),(show decide (([112]:List UInt8)=[118,49])=false by decide),(show decide (([112]:List UInt8)=[102])=false by decide),decide_true,Option.bind_some,List.getElem?_cons_zero,List.getElem?_cons_succ,br_true',br_false',asStr_str,asSl_sl,asInt_int,asBool_bool,loK_out,beq_self_eq_true,Ty.enc_def,Ty.k_mk,Ty.n_mk,Ty.a_mk]
 ·cases hd:decide (d=0)<;>rw [hd] at hb<;>subst hb <;>
   simp only [hd,h1,hL,(show decide (([108]:List UInt8)=[105])=false by decide),(show decide (([108]:List UInt8)=[98])=false by decide),(show decide (([108]:List UInt8)=[118,48])=false by decide),(show decide (([108]:List UInt8)=[118,49])=false by decide),(show decide (([108]:List UInt8)=[102])=false by decide),(show decide (([108]:List UInt8)=[112])=false by decide),decide_true,Option.bind_some,List.getElem?_cons_zero,List.getElem?_cons_succ,br_true',br_false',asStr_str,asSl_sl,asInt_int,asBool_bool,loK_out,beq_self_eq_true,Ty.enc_def,Ty.k_mk,Ty.n_mk,Ty.a_mk]
theorem read_none {ws:List (List UInt8)} {w:List UInt8} {pre c:List (List UInt8)} (h:ws=pre ++ w :: c) (hl:ws.length ≤ 1048577) (hk:kw w=none) (d:Int) :
  CC f_s_l1Read [.lptr 0 0,.v (.int .i64 d)] [.box [.v (.sl (strsC ws)),.v (.int .i64 pre.length),.v (.bool false)]]=some ((Ty.mk 0 0 []).enc,[[.sl (strsC ws),.int .i64 (pre.length + 1),.bool true]]):=by
 have h1:=nextS_cons h hl
 obtain ⟨n1,n2,n3,n4,n5,n6,n7⟩:=kw_none hk
 have hL:=readS_bad (.bool true,0) d 0 ((pre.length:Int) + 1) 0 0 0 0 (strsC ws) []
 have ez:(Ty.mk 0 0 []).enc=.agg [.int .i64 0,.int .i64 0,.sl []]:=by rw [Ty.enc_def];rfl
 apply go_s_l1Read
 unfold nf_s_l1Read
 simp only [h1,hL,decide_eq_false n1,decide_eq_false n2,decide_eq_false n3,decide_eq_false n4,decide_eq_false n5,decide_eq_false n6,decide_eq_false n7,ez,Option.bind_some,List.getElem?_cons_zero,List.getElem?_cons_succ,br_true',br_false',asStr_str,asSl_sl,asInt_int,asBool_bool,loK_out,beq_self_eq_true]
theorem read_nil (ws:List (List UInt8)) (d:Int) :
  CC f_s_l1Read [.lptr 0 0,.v (.int .i64 d)] [.box [.v (.sl (strsC ws)),.v (.int .i64 ws.length),.v (.bool false)]]=some ((Ty.mk 0 0 []).enc,[[.sl (strsC ws),.int .i64 ws.length,.bool true]]):=by
 have h1:=nextS_nil ws
 have hL:=readS_bad (.bool true,0) d 0 (ws.length:Int) 0 0 0 0 (strsC ws) []
 have ez:(Ty.mk 0 0 []).enc=.agg [.int .i64 0,.int .i64 0,.sl []]:=by rw [Ty.enc_def];rfl
 apply go_s_l1Read
 unfold nf_s_l1Read
 have n1:([]:List UInt8) ≠ [105]:=by decide
 have n2:([]:List UInt8) ≠ [98]:=by decide
 have n3:([]:List UInt8) ≠ [118,48]:=by decide
 have n4:([]:List UInt8) ≠ [118,49]:=by decide
 have n5:([]:List UInt8) ≠ [102]:=by decide
 have n6:([]:List UInt8) ≠ [112]:=by decide
 have n7:([]:List UInt8) ≠ [108]:=by decide
 simp only [h1,hL,decide_eq_false n1,decide_eq_false n2,decide_eq_false n3,decide_eq_false n4,decide_eq_false n5,decide_eq_false n6,decide_eq_false n7,ez,Option.bind_some,List.getElem?_cons_zero,List.getElem?_cons_succ,br_true',br_false',asStr_str,asSl_sl,asInt_int,asBool_bool,loK_out,beq_self_eq_true]
theorem read_law {ws:List (List UInt8)} (hws:ws.length ≤ 1048577):∀ d:Nat,d ≤ 50→ReadsS ws d:=by
 intro d
 induction d with
 |zero=>
  intro _ pre c hc
  refine ⟨(fun t r h=>by cases h),fun _=>?_⟩
  cases c with
  |nil=>
   obtain rfl:ws=pre:=by simpa using hc
   exact ⟨_,_,read_nil ws 0⟩
  |cons w c=>
   cases hk:kw w with
   |none=>exact ⟨_,_,read_none hc hws hk 0⟩
   |some x=>
    obtain ⟨k,n⟩:=x
    exact ⟨_,_,read_word hc hws hk (b:=true) rfl (l:=[]) (readS_bad (.bool true,0) _ _ _ _ _ _ _ _ _)⟩
 |succ d ih=>
  intro hd pre c hc
  have ih:=ih (by omega)
  have d0:false=decide (((d + 1:Nat):Int)=0):=(decide_eq_false (by omega)).symm
  cases c with
  |nil=>
   obtain rfl:ws=pre:=by simpa using hc
   exact ⟨(fun t r h=>by cases h),fun _=>⟨_,_,read_nil ws _⟩⟩
  |cons w c=>
   cases hk:kw w with
   |none=>exact ⟨(fun t r h=>by unfold rd at h;rw [hk] at h;cases h),fun _=>⟨_,_,read_none hc hws hk _⟩⟩
   |some x=>
    obtain ⟨k,n⟩:=x
    have hr:=kw_rng hk
    have har:=ar_le k
    have hc2:ws=(pre ++ [w]) ++ c:=by rw [hc];simp
    have hl:=readS_loop hws d (by omega) ih ⟨hr.1,hr.2.1⟩ n 0 0 (ar k) 0 [] (pre ++ [w]) c hc2 (by omega) (by omega) (by simp;omega)
    have e1:(((pre ++ [w]).length:Nat):Int)=(pre.length:Int) + 1:=by simp
    rw [e1] at hl
    simp only [List.map_nil,List.nil_append] at hl
    refine ⟨fun t r h=>?_,fun h=>?_⟩
    ·unfold rd at h
     rw [hk] at h
     obtain ⟨⟨l,r1⟩,h3,h⟩:=Option.map_eq_some_iff.1 h
     obtain ⟨q1,q2⟩:=Prod.mk.inj h
     rw [← q1,← q2]
     exact read_word hc hws hk d0 (hl.1 l r1 h3)
    ·unfold rd at h
     rw [hk] at h
     simp only [Option.bind_some,Option.map_eq_none_iff] at h
     obtain ⟨l,j,i,h5⟩:=hl.2 h
     exact ⟨_,_,read_word hc hws hk d0 h5⟩
end Go.Proofs.YtegbnddjgifcdaaGreatDoor.Abs

/- A part. -/
import Derived.Test.YtegbnddjgifcdaaGreatDoorTermS
set_option linter.unusedVariables false
set_option linter.unusedSectionVars false
set_option linter.unusedSimpArgs false
set_option maxRecDepth 100000
set_option maxHeartbeats 4000000
namespace Go.Proofs.YtegbnddjgifcdaaGreatDoor.Abs
open Go Go.Proofs
open Classical
noncomputable def tailO (x:k_s_l2Read_1.T):Option Ret:=
 (LL f_s_l2Read 1 lc_s_l2Read_1 [PSh.box [none,none,none]] k_s_l2Read_1 x).bind fun r=>loK r (fun r=>some r) fun j p=>br (j == 1) ((LL f_s_l2Read 3 lc_s_l2Read_3 [PSh.box [none,none,none]] k_s_l2Read_3 (((),p.fst.snd.1,(),(),(),0,()),(p.snd.fst.1,p.snd.fst.snd.1,p.snd.fst.snd.snd.1,()),(p.snd.snd.fst.1,p.snd.snd.fst.snd.1,p.snd.snd.fst.snd.snd.1,p.snd.snd.fst.snd.snd.snd.1,p.snd.snd.fst.snd.snd.snd.snd.1,p.snd.snd.fst.snd.snd.snd.snd.snd.1,(),(),(),()),p.snd.snd.snd.1,p.snd.snd.snd.snd.1,p.snd.snd.snd.snd.snd.1,(p.snd.snd.snd.snd.snd.snd.fst.1,p.snd.snd.snd.snd.snd.snd.fst.snd.1,p.snd.snd.snd.snd.snd.snd.fst.snd.snd.1,p.snd.snd.snd.snd.snd.snd.fst.snd.snd.snd.1,p.snd.snd.snd.snd.snd.snd.fst.snd.snd.snd.snd.1,p.snd.snd.snd.snd.snd.snd.fst.snd.snd.snd.snd.snd.1,(),(),(),()),p.snd.snd.snd.snd.snd.snd.snd.1,p.snd.snd.snd.snd.snd.snd.snd.snd.1,p.snd.snd.snd.snd.snd.snd.snd.snd.snd.1,(p.snd.snd.snd.snd.snd.snd.snd.snd.snd.snd.fst.1,p.snd.snd.snd.snd.snd.snd.snd.snd.snd.snd.fst.snd.1,p.snd.snd.snd.snd.snd.snd.snd.snd.snd.snd.fst.snd.snd.1,p.snd.snd.snd.snd.snd.snd.snd.snd.snd.snd.fst.snd.snd.snd.1,p.snd.snd.snd.snd.snd.snd.snd.snd.snd.snd.fst.snd.snd.snd.snd.1,()),())).bind fun r=>loK r (fun r=>some r) fun j p=>br (j == 3) (some (CVal.agg [CVal.int .i64 p.snd.snd.snd.snd.snd.snd.fst.1,CVal.int .i64 p.snd.snd.snd.snd.snd.snd.fst.snd.1,CVal.str p.snd.snd.snd.snd.snd.snd.fst.snd.snd.1,CVal.str p.snd.snd.snd.snd.snd.snd.fst.snd.snd.snd.1,CVal.int .i64 p.snd.snd.snd.snd.snd.snd.fst.snd.snd.snd.snd.1,CVal.int .i64 p.snd.snd.snd.snd.snd.snd.fst.snd.snd.snd.snd.snd.1,CVal.sl p.snd.snd.snd.snd.snd.snd.snd.1,CVal.sl p.snd.snd.snd.snd.snd.snd.snd.snd.1,CVal.sl p.snd.snd.snd.snd.snd.snd.snd.snd.snd.1],[[CVal.sl p.snd.fst.1,CVal.int .i64 p.snd.fst.snd.1,CVal.bool p.snd.fst.snd.snd.1]])) none) none
def ResS (ws:Words) (X:Option (Term × Words)) (o:Option Ret):Prop:=
 (∀ t r,X=some (t,r)→o=some (t.enc,[[.sl (strsC ws),.int .i64 ((ws.length:Int) - r.length),.bool false]]))∧
 (X=none→∃ (t:Term) (i:Int),o=some (t.enc,[[.sl (strsC ws),.int .i64 i,.bool true]]))
section
variable {ws:Words} {X Y:Option (Term × Words)} {o:Option Ret}
theorem ResS.congr (e:X=Y) (h:ResS ws Y o):ResS ws X o:=e ▸ h
theorem ResS.bad (e:X=none) (h:∃ (t:Term) (i:Int),o=some (t.enc,[[.sl (strsC ws),.int .i64 i,.bool true]])):ResS ws X o:=
 ⟨fun t r h2=>by rw [e] at h2;(cases h2),fun _=>h⟩
theorem rs_bd {α:Type} {o:Option α} {a:α} {f:α→Option Ret} (h:o=some a) (h2:ResS ws X (f a)):ResS ws X (o.bind f):=by rw [h];exact h2
theorem rs_T {b:Bool} {x y:Option Ret} (h:b=true) (h2:ResS ws X x):ResS ws X (br b x y):=by rw [h];exact h2
theorem rs_F {b:Bool} {x y:Option Ret} (h:b=false) (h2:ResS ws X y):ResS ws X (br b x y):=by rw [h];exact h2
theorem rs_lo {A:Type} {kr:Ret→Option Ret} {k:Nat→A→Option Ret} {j:Nat} {p:A} (h:ResS ws X (k j p)):ResS ws X (loK (.out j p) kr k):=h
theorem rs_int {k:IntKind} {n:Int} {f:Int→Option Ret} (h:ResS ws X (f n)):ResS ws X ((CVal.asInt k (.int k n)).bind f):=rs_bd asInt_int h
theorem rs_str {s:List UInt8} {f:List UInt8→Option Ret} (h:ResS ws X (f s)):ResS ws X ((CVal.asStr (.str s)).bind f):=h
theorem rs_sl {s:List CVal} {f:List CVal→Option Ret} (h:ResS ws X (f s)):ResS ws X ((CVal.asSl (.sl s)).bind f):=h
theorem rs_bool {s:Bool} {f:Bool→Option Ret} (h:ResS ws X (f s)):ResS ws X ((CVal.asBool (.bool s)).bind f):=h
end
macro "nx " h:term:tactic=>`(tactic| refine rs_bd $h (rs_bd rfl (rs_bd rfl (rs_bd rfl (rs_bd rfl ?_)))))
macro "nT " h:term:tactic=>`(tactic| refine rs_bd $h (rs_bd rfl (rs_bd rfl (rs_bd rfl (rs_bd rfl (rs_T rfl ?_))))))
macro "aT " h:term:max t:term:max:tactic=>`(tactic| refine rs_bd $h (rs_bd rfl (rs_bd rfl (rs_bd rfl (rs_bd rfl (rs_T (Ty.enc_isAggN $t) (rs_bd (Ty.enc_cell0 $t) (rs_bd (Ty.enc_cell1 $t) (rs_bd (Ty.enc_cell2 $t) ?_)))))))))
macro "fF" : tactic=>`(tactic| refine rs_F rfl ?_)
macro "tT" : tactic=>`(tactic| refine rs_T rfl ?_)
macro "bB" : tactic=>`(tactic| refine rs_bd rfl ?_)
abbrev stJ (d:Nat) (ws:Words) (p:Int) (b:Bool) (k n:Int):LO kj_s_l2Read_0.T:=.out 0 (((),((d + 1:Nat):Int),(),(),(),()),rest10 ws p b k n [] [] 0 0 [] [] [] (parts k) (shapeN k) (bindsS k || decide (k=3)) (decide (k=14)) (hasT k))
abbrev rdK (d:Nat) (w:List UInt8) (k:Int) (c:Words):Option (Term × Words):=(num1 w k c).bind fun n=>(readS k n.2).bind fun s=>(readZ k s.2).bind fun z=>(num2 k n.1 z.2).bind fun m=>(readT k m.2).bind fun t=>(seqR (rd 6) (min m.1.2 3).toNat t.2).bind fun ts=>(seqR (rdS d) (parts k).toNat ts.2).map fun a=>(.mk k m.1.1 s.1 z.1 t.1 ts.1 a.1,a.2)
theorem rdK_of {d:Nat} {w:List UInt8} {c:Words} {k:Int} (hk:kindOf w=k) (h0:k ≠ 0):rdS (d + 1) (w :: c)=rdK d w k c:=by subst hk;rw [rdS,if_neg h0]
macro "uw" : tactic=>`(tactic| repeat (first | with_reducible refine rs_int ?_ | with_reducible refine rs_sl ?_ | with_reducible refine rs_bool ?_ | with_reducible refine rs_str ?_))
section
variable {ws:Words} (hws:ws.length ≤ 1048577)
include hws
theorem l1R_some {c r:Words} {p:Int} {t:Ty} (hs:Suf ws c) (hp:p=(ws.length:Int) - c.length) (h:rd 6 c=some (t,r)) :
  CC f_s_l1Read [.lptr 0 0,.v (.int .i64 6)] [.box [.v (.sl (strsC ws)),.v (.int .i64 p),.v (.bool false)]]=some (t.enc,[[.sl (strsC ws),.int .i64 ((ws.length:Int) - r.length),.bool false]]):=by
 obtain ⟨pre,hpre⟩:=hs
 have e:p=(pre.length:Int):=by rw [hp,hpre];simp
 rw [e]
 exact (read_law hws 6 (by omega) pre c hpre).1 t r h
theorem l1R_none {c:Words} {p:Int} (hs:Suf ws c) (hp:p=(ws.length:Int) - c.length) (h:rd 6 c=none) :
  ∃ (t:Ty) (i:Int),CC f_s_l1Read [.lptr 0 0,.v (.int .i64 6)] [.box [.v (.sl (strsC ws)),.v (.int .i64 p),.v (.bool false)]]=some (t.enc,[[.sl (strsC ws),.int .i64 i,.bool true]]):=by
 obtain ⟨pre,hpre⟩:=hs
 have e:p=(pre.length:Int):=by rw [hp,hpre];simp
 rw [e]
 exact (read_law hws 6 (by omega) pre c hpre).2 h
theorem tail_bad {d many p:Int} {k n:Int} {s z:List UInt8} {t:Ty} {h0 h1:Int} {h2 h3 h4:Bool} :
  ∃ (u:Term) (i:Int),tailO (((),d,(),(),(),many,0,()),rest10 ws p true k n s z t.k t.n (t.a.map Ty.enc) [] [] h0 h1 h2 h3 h4)=some (u.enc,[[.sl (strsC ws),.int .i64 i,.bool true]]):=by
 refine ⟨.mk k n s z t [] [],p,?_⟩
 unfold tailO
 refine bd (tsS_out (.inl rfl)) (lo_out (br_T rfl (bd (aS_out (.inl rfl)) (lo_out (br_T rfl ?_)))))
 rw [Term.enc_def]
 rfl
theorem tail_good (d:Nat) (hd:d ≤ 24) (ih:ReadsTS ws d) {many p:Int} {c:Words} (hs:Suf ws c) (hp:p=(ws.length:Int) - c.length) {k n:Int} {s z:List UInt8} {t:Ty} {h0 h1:Int} (hh:h0 ≤ 3) {h2 h3 h4:Bool} :
  ResS ws ((seqR (rd 6) (min many 3).toNat c).bind fun ts=>(seqR (rdS d) h0.toNat ts.2).map fun a=>(.mk k n s z t ts.1 a.1,a.2))
   (tailO (((),((d + 1:Nat):Int),(),(),(),many,0,()),rest10 ws p false k n s z t.k t.n (t.a.map Ty.enc) [] [] h0 h1 h2 h3 h4)):=by
 have l1:=tsS_loop hws (d:=((d + 1:Nat):Int)) (many:=many) (a:=[]) (k:=k) (n:=n) (s:=s) (z:=z) (tk:=t.k) (tn:=t.n) (ta:=t.a.map Ty.enc) (h0:=h0) (h1:=h1) (h2:=h2) (h3:=h3) (h4:=h4) (min many 3).toNat 0 p [] c hs hp (by omega) (by omega) (by simp;omega)
 cases e:seqR (rd 6) (min many 3).toNat c with
 |none=>
  obtain ⟨i',p',l,hl⟩:=l1.2 e
  refine ResS.bad rfl ⟨.mk k n s z t l [],p',?_⟩
  unfold tailO
  refine bd hl (lo_out (br_T rfl (bd (aS_out (.inl rfl)) (lo_out (br_T rfl ?_)))))
  rw [Term.enc_def]
  rfl
 |some x=>
  obtain ⟨l,r⟩:=x
  obtain ⟨i',hl⟩:=l1.1 l r e
  have hs2:Suf ws r:=hs.used (seqR_used (rd_used 6) _ _ _ _ e).2
  have l3:=aS_loop hws d hd ih (ts:=l.map Ty.enc) (k:=k) (n:=n) (s:=s) (z:=z) (tk:=t.k) (tn:=t.n) (ta:=t.a.map Ty.enc) (h0:=h0) (h1:=h1) (h2:=h2) (h3:=h3) (h4:=h4) h0.toNat 0 ((ws.length:Int) - r.length) [] r hs2 rfl (by omega) (by omega) (by simp;omega) hh
  show ResS ws ((seqR (rdS d) h0.toNat r).map fun a=>(.mk k n s z t l a.1,a.2)) _
  cases e2:seqR (rdS d) h0.toNat r with
  |none=>
   obtain ⟨i2,p2,l2,hl2⟩:=l3.2 e2
   refine ResS.bad rfl ⟨.mk k n s z t l l2,p2,?_⟩
   unfold tailO
   refine bd hl (lo_out (br_T rfl (bd hl2 (lo_out (br_T rfl ?_)))))
   rw [Term.enc_def]
   rfl
  |some y=>
   obtain ⟨l2,r2⟩:=y
   obtain ⟨i2,hl2⟩:=l3.1 l2 r2 e2
   refine ⟨fun t' r' h=>?_,fun h=>by cases h⟩
   cases h
   unfold tailO
   refine bd hl (lo_out (br_T rfl (bd hl2 (lo_out (br_T rfl ?_)))))
   rw [Term.enc_def]
   rfl
end
theorem goR {ws:Words} {X:Option (Term × Words)} {p d:Int} {b:Bool} (h:ResS ws X (nf_s_l2Read CC LL (strsC ws) p b d)):ResS ws X (CC f_s_l2Read [.lptr 0 0,.v (.int .i64 d)] [.box [.v (.sl (strsC ws)),.v (.int .i64 p),.v (.bool b)]]):=by
 refine ⟨fun t r e=>go_s_l2Read _ _ _ _ _ (h.1 t r e),fun e=>?_⟩
 obtain ⟨t,i,h2⟩:=h.2 e
 exact ⟨t,i,go_s_l2Read _ _ _ _ _ h2⟩
theorem read_bad0 {ws:Words} {w:List UInt8} {q p:Int} {b b2:Bool} {d:Int} (hn:CC f_s_l1Next [.lptr 0 0] [.box [.v (.sl (strsC ws)),.v (.int .i64 p),.v (.bool b)]]=some (.str w,[[.sl (strsC ws),.int .i64 q,.bool b2]])) (h:kindOf w=0∨d=0) :
  CC f_s_l2Read [.lptr 0 0,.v (.int .i64 d)] [.box [.v (.sl (strsC ws)),.v (.int .i64 p),.v (.bool b)]]=some ((Term.mk (kindOf w) 0 [] [] Ty.zero [] []).enc,[[.sl (strsC ws),.int .i64 q,.bool true]]):=by
 apply go_s_l2Read
 unfold nf_s_l2Read
 refine bd hn (bd rfl (bd rfl (bd rfl (bd rfl (bd (l2Kind_law w) (br_T rfl (bd (shape_s _) (br_T rfl (bd rfl (bd rfl (bd rfl (bd rfl (bd rfl (bd (a:=(true,PUnit.unit)) ?_ (br_T rfl (bd rfl ?_))))))))))))))))
 ·refine bd rfl ?_
  by_cases h0:kindOf w=0
  ·exact br_T (decide_eq_true h0) rfl
  ·refine br_F (decide_eq_false h0) ?_
   rw [decide_eq_true (h.resolve_left h0)]
 ·rw [Term.enc_def]
  rfl
theorem readK_1 {ws:Words} (hws:ws.length ≤ 1048577) (hm:∀ w ∈ ws,w.length ≤ 1048576) (d:Nat) (hd:d ≤ 23) (ih:ReadsTS ws d) {w:List UInt8} {c0:Words} {p0:Int} (hs00:Suf ws (w :: c0)) (hp00:p0=(ws.length:Int) - ((c0.length:Int) + 1)) (hk:kindOf w=1) :
  ResS ws (rdS (d + 1) (w :: c0)) (CC f_s_l2Read [.lptr 0 0,.v (.int .i64 ((d + 1:Nat):Int))] [.box [.v (.sl (strsC ws)),.v (.int .i64 p0),.v (.bool false)]]):=by
 have hs0:=hs00.tail
 have hp0:p0 + 1=(ws.length:Int) - c0.length:=by omega
 have hkl:=l2Kind_law w
 rw [hk] at hkl
 have hsh:=shape_s 1
 have hw116:w ≠ [116]:=fun e=>by rw [e] at hk;exact absurd hk (by decide)
 rw [rdK_of hk (by decide)]
 refine goR ?_
 unfold nf_s_l2Read
 refine rs_bd (nextP_cons hs00 hp00 hws) (rs_bd rfl (rs_bd rfl (rs_bd rfl (rs_bd rfl (rs_bd hkl (rs_T rfl (rs_bd hsh (rs_T rfl (rs_bd rfl (rs_bd rfl (rs_bd rfl (rs_bd rfl (rs_bd rfl ?_)))))))))))))
 refine rs_bd (a:=(false,PUnit.unit)) (bd rfl (br_F rfl (by rw [decide_eq_false (show ¬ ((d + 1:Nat):Int)=0 by omega)]))) (rs_F rfl ?_)
 rcases c0 with _ | ⟨w9,c9⟩
 ·have hq:p0 + 1=(ws.length:Int):=by simpa using hp0
  refine rs_bd (a:=stJ d ws (p0 + 1) true 1 (digS [])) (bd rfl (br_T rfl (bd (nextP_nil hq false) (bd rfl (bd rfl (bd rfl (bd rfl (bd (l2Digits_law [] (by decide)) (br_T rfl rfl))))))))) (rs_lo (rs_T rfl ?_))
  fF
  fF
  bB
  fF
  fF
  bB
  fF
  uw
  exact ResS.bad (by simp only [rdK,Option.bind_some,Option.bind_none,Option.map_none,show num1 w 1 []=none from rfl]) (tail_bad hws (t:=Ty.zero))
 ·have hr:p0 + 1=(ws.length:Int) - ((c9.length:Int) + 1):=by rw [hp0];simp
  have hs9:=hs0.tail
  have hp9:p0 + 1 + 1=(ws.length:Int) - c9.length:=by omega
  refine rs_bd (a:=stJ d ws (p0 + 1 + 1) false 1 (digS w9)) (bd rfl (br_T rfl (bd (nextP_cons hs0 hr hws) (bd rfl (bd rfl (bd rfl (bd rfl (bd (l2Digits_law w9 (hs0.head_le hm)) (br_T rfl rfl))))))))) (rs_lo (rs_T rfl ?_))
  fF
  fF
  bB
  fF
  fF
  bB
  fF
  uw
  refine ResS.congr ?_ (tail_good hws d (by omega) ih (many:=0) (t:=Ty.zero) (h0:=parts 1) hs9 hp9 (by decide))
  simp only [rdK,Option.bind_some,Option.bind_none,Option.map_none,show ∀ c,num1 w 1 (w9 :: c)=some (digS w9,c) from fun _=>rfl,show ∀ c,readS 1 c=some ([],c) from fun _=>rfl,show ∀ c,readZ 1 c=some ([],c) from fun _=>rfl,show ∀ c,num2 1 (digS w9) c=some (((digS w9),0),c) from fun _=>rfl,show ∀ c,readT 1 c=some (Ty.zero,c) from fun _=>rfl]
theorem readK_2 {ws:Words} (hws:ws.length ≤ 1048577) (hm:∀ w ∈ ws,w.length ≤ 1048576) (d:Nat) (hd:d ≤ 23) (ih:ReadsTS ws d) {w:List UInt8} {c0:Words} {p0:Int} (hs00:Suf ws (w :: c0)) (hp00:p0=(ws.length:Int) - ((c0.length:Int) + 1)) (hk:kindOf w=2) :
  ResS ws (rdS (d + 1) (w :: c0)) (CC f_s_l2Read [.lptr 0 0,.v (.int .i64 ((d + 1:Nat):Int))] [.box [.v (.sl (strsC ws)),.v (.int .i64 p0),.v (.bool false)]]):=by
 have hs0:=hs00.tail
 have hp0:p0 + 1=(ws.length:Int) - c0.length:=by omega
 have hkl:=l2Kind_law w
 rw [hk] at hkl
 have hsh:=shape_s 2
 rw [rdK_of hk (by decide)]
 refine goR ?_
 unfold nf_s_l2Read
 refine rs_bd (nextP_cons hs00 hp00 hws) (rs_bd rfl (rs_bd rfl (rs_bd rfl (rs_bd rfl (rs_bd hkl (rs_T rfl (rs_bd hsh (rs_T rfl (rs_bd rfl (rs_bd rfl (rs_bd rfl (rs_bd rfl (rs_bd rfl ?_)))))))))))))
 refine rs_bd (a:=(false,PUnit.unit)) (bd rfl (br_F rfl (by rw [decide_eq_false (show ¬ ((d + 1:Nat):Int)=0 by omega)]))) (rs_F rfl ?_)
 by_cases hw:w=[116]
 ·have hn1:∀ c,num1 w 2 c=some (1,c):=fun c=>by unfold num1;rw [if_neg (by decide),if_neg (by decide),if_pos hw]
  refine rs_bd (a:=stJ d ws (p0 + 1) false 2 1) (bd rfl (br_F rfl (bd rfl (br_T rfl (bd rfl (br_T (decide_eq_true hw) rfl)))))) (rs_lo (rs_T rfl ?_))
  fF
  fF
  bB
  fF
  fF
  bB
  fF
  uw
  refine ResS.congr ?_ (tail_good hws d (by omega) ih (many:=0) (t:=Ty.zero) (h0:=parts 2) hs0 hp0 (by decide))
  simp only [rdK,Option.bind_some,Option.bind_none,Option.map_none,hn1,show ∀ c,readS 2 c=some ([],c) from fun _=>rfl,show ∀ c,readZ 2 c=some ([],c) from fun _=>rfl,show ∀ c,num2 2 1 c=some ((1,0),c) from fun _=>rfl,show ∀ c,readT 2 c=some (Ty.zero,c) from fun _=>rfl]
 ·have hn1:∀ c,num1 w 2 c=some (0,c):=fun c=>by unfold num1;rw [if_neg (by decide),if_neg (by decide),if_neg hw]
  refine rs_bd (a:=stJ d ws (p0 + 1) false 2 0) (bd rfl (br_F rfl (bd rfl (br_T rfl (bd rfl (br_F (decide_eq_false hw) rfl)))))) (rs_lo (rs_T rfl ?_))
  fF
  fF
  bB
  fF
  fF
  bB
  fF
  uw
  refine ResS.congr ?_ (tail_good hws d (by omega) ih (many:=0) (t:=Ty.zero) (h0:=parts 2) hs0 hp0 (by decide))
  simp only [rdK,Option.bind_some,Option.bind_none,Option.map_none,hn1,show ∀ c,readS 2 c=some ([],c) from fun _=>rfl,show ∀ c,readZ 2 c=some ([],c) from fun _=>rfl,show ∀ c,num2 2 0 c=some ((0,0),c) from fun _=>rfl,show ∀ c,readT 2 c=some (Ty.zero,c) from fun _=>rfl]
theorem readK_3 {ws:Words} (hws:ws.length ≤ 1048577) (hm:∀ w ∈ ws,w.length ≤ 1048576) (d:Nat) (hd:d ≤ 23) (ih:ReadsTS ws d) {w:List UInt8} {c0:Words} {p0:Int} (hs00:Suf ws (w :: c0)) (hp00:p0=(ws.length:Int) - ((c0.length:Int) + 1)) (hk:kindOf w=3) :
  ResS ws (rdS (d + 1) (w :: c0)) (CC f_s_l2Read [.lptr 0 0,.v (.int .i64 ((d + 1:Nat):Int))] [.box [.v (.sl (strsC ws)),.v (.int .i64 p0),.v (.bool false)]]):=by
 have hs0:=hs00.tail
 have hp0:p0 + 1=(ws.length:Int) - c0.length:=by omega
 have hkl:=l2Kind_law w
 rw [hk] at hkl
 have hsh:=shape_s 3
 have hw116:w ≠ [116]:=fun e=>by rw [e] at hk;exact absurd hk (by decide)
 have hn1:∀ c,num1 w 3 c=some (0,c):=fun c=>by unfold num1;rw [if_neg (by decide),if_neg (by decide),if_neg hw116]
 rw [rdK_of hk (by decide)]
 refine goR ?_
 unfold nf_s_l2Read
 refine rs_bd (nextP_cons hs00 hp00 hws) (rs_bd rfl (rs_bd rfl (rs_bd rfl (rs_bd rfl (rs_bd hkl (rs_T rfl (rs_bd hsh (rs_T rfl (rs_bd rfl (rs_bd rfl (rs_bd rfl (rs_bd rfl (rs_bd rfl ?_)))))))))))))
 refine rs_bd (a:=(false,PUnit.unit)) (bd rfl (br_F rfl (by rw [decide_eq_false (show ¬ ((d + 1:Nat):Int)=0 by omega)]))) (rs_F rfl ?_)
 refine rs_bd (a:=stJ d ws (p0 + 1) false 3 0) (rfl) (rs_lo (rs_T rfl ?_))
 tT
 rcases c0 with _ | ⟨w1,c1⟩
 ·have hq1:p0 + 1=(ws.length:Int):=by simpa using hp0
  nT nextP_nil hq1 false
  fF
  bB
  fF
  tT
  refine rs_bd (nextP_nil hq1 true) (rs_bd rfl (rs_bd rfl (rs_bd rfl (rs_bd rfl (rs_bd (l2Digits_law [] (by decide)) ?_)))))
  bB
  fF
  uw
  exact ResS.bad (by simp only [rdK,Option.bind_some,Option.bind_none,Option.map_none,hn1,show readS 3 []=none from rfl]) (tail_bad hws (t:=Ty.zero))
 ·have hr1:p0 + 1=(ws.length:Int) - ((c1.length:Int) + 1):=by rw [hp0];simp
  have hs1:=hs0.tail
  have hp1:p0 + 1 + 1=(ws.length:Int) - c1.length:=by omega
  nT nextP_cons hs0 hr1 hws
  fF
  bB
  fF
  tT
  rcases c1 with _ | ⟨w2,c2⟩
  ·have hq2:p0 + 1 + 1=(ws.length:Int):=by simpa using hp1
   refine rs_bd (nextP_nil hq2 false) (rs_bd rfl (rs_bd rfl (rs_bd rfl (rs_bd rfl (rs_bd (l2Digits_law [] (by decide)) ?_)))))
   bB
   fF
   uw
   exact ResS.bad (by simp only [rdK,Option.bind_some,Option.bind_none,Option.map_none,hn1,show ∀ c,readS 3 (w1 :: c)=some (w1,c) from fun _=>rfl,show ∀ c,readZ 3 c=some ([],c) from fun _=>rfl,show num2 3 0 []=none from rfl]) (tail_bad hws (t:=Ty.zero))
  ·have hr2:p0 + 1 + 1=(ws.length:Int) - ((c2.length:Int) + 1):=by rw [hp1];simp
   have hs2:=hs1.tail
   have hp2:p0 + 1 + 1 + 1=(ws.length:Int) - c2.length:=by omega
   refine rs_bd (nextP_cons hs1 hr2 hws) (rs_bd rfl (rs_bd rfl (rs_bd rfl (rs_bd rfl (rs_bd (l2Digits_law w2 (hs1.head_le hm)) ?_)))))
   bB
   fF
   uw
   refine ResS.congr ?_ (tail_good hws d (by omega) ih (many:=digS w2) (t:=Ty.zero) (h0:=parts 3) hs2 hp2 (by decide))
   simp only [rdK,Option.bind_some,Option.bind_none,Option.map_none,hn1,show ∀ c,readS 3 (w1 :: c)=some (w1,c) from fun _=>rfl,show ∀ c,readZ 3 c=some ([],c) from fun _=>rfl,show ∀ c,num2 3 0 (w2 :: c)=some ((0,digS w2),c) from fun _=>rfl,show ∀ c,readT 3 c=some (Ty.zero,c) from fun _=>rfl]
theorem readK_4 {ws:Words} (hws:ws.length ≤ 1048577) (hm:∀ w ∈ ws,w.length ≤ 1048576) (d:Nat) (hd:d ≤ 23) (ih:ReadsTS ws d) {w:List UInt8} {c0:Words} {p0:Int} (hs00:Suf ws (w :: c0)) (hp00:p0=(ws.length:Int) - ((c0.length:Int) + 1)) (hk:kindOf w=4) :
  ResS ws (rdS (d + 1) (w :: c0)) (CC f_s_l2Read [.lptr 0 0,.v (.int .i64 ((d + 1:Nat):Int))] [.box [.v (.sl (strsC ws)),.v (.int .i64 p0),.v (.bool false)]]):=by
 have hs0:=hs00.tail
 have hp0:p0 + 1=(ws.length:Int) - c0.length:=by omega
 have hkl:=l2Kind_law w
 rw [hk] at hkl
 have hsh:=shape_s 4
 have hw116:w ≠ [116]:=fun e=>by rw [e] at hk;exact absurd hk (by decide)
 have hn1:∀ c,num1 w 4 c=some (0,c):=fun c=>by unfold num1;rw [if_neg (by decide),if_neg (by decide),if_neg hw116]
 rw [rdK_of hk (by decide)]
 refine goR ?_
 unfold nf_s_l2Read
 refine rs_bd (nextP_cons hs00 hp00 hws) (rs_bd rfl (rs_bd rfl (rs_bd rfl (rs_bd rfl (rs_bd hkl (rs_T rfl (rs_bd hsh (rs_T rfl (rs_bd rfl (rs_bd rfl (rs_bd rfl (rs_bd rfl (rs_bd rfl ?_)))))))))))))
 refine rs_bd (a:=(false,PUnit.unit)) (bd rfl (br_F rfl (by rw [decide_eq_false (show ¬ ((d + 1:Nat):Int)=0 by omega)]))) (rs_F rfl ?_)
 refine rs_bd (a:=stJ d ws (p0 + 1) false 4 0) (rfl) (rs_lo (rs_T rfl ?_))
 tT
 rcases c0 with _ | ⟨w1,c1⟩
 ·have hq1:p0 + 1=(ws.length:Int):=by simpa using hp0
  nT nextP_nil hq1 false
  fF
  bB
  fF
  fF
  bB
  fF
  uw
  exact ResS.bad (by simp only [rdK,Option.bind_some,Option.bind_none,Option.map_none,hn1,show readS 4 []=none from rfl]) (tail_bad hws (t:=Ty.zero))
 ·have hr1:p0 + 1=(ws.length:Int) - ((c1.length:Int) + 1):=by rw [hp0];simp
  have hs1:=hs0.tail
  have hp1:p0 + 1 + 1=(ws.length:Int) - c1.length:=by omega
  nT nextP_cons hs0 hr1 hws
  fF
  bB
  fF
  fF
  bB
  tT
  cases q2:rd 6 c1 with
  |none=>
   obtain ⟨t2,i2,ht2⟩:=l1R_none hws hs1 hp1 q2
   aT ht2 t2
   uw
   have hT:readT 4 c1=none:=q2
   exact ResS.bad (by simp only [rdK,Option.bind_some,Option.bind_none,Option.map_none,hn1,show ∀ c,readS 4 (w1 :: c)=some (w1,c) from fun _=>rfl,show ∀ c,readZ 4 c=some ([],c) from fun _=>rfl,show ∀ c,num2 4 0 c=some ((0,0),c) from fun _=>rfl,hT]) (tail_bad hws (t:=t2))
  |some x=>
   obtain ⟨t2,r2⟩:=x
   aT (l1R_some hws hs1 hp1 q2) t2
   uw
   have hT:readT 4 c1=some (t2,r2):=q2
   have hsT:Suf ws r2:=hs1.used (rd_used 6 _ _ _ q2)
   refine ResS.congr ?_ (tail_good hws d (by omega) ih (many:=0) (t:=t2) (h0:=parts 4) hsT rfl (by decide))
   simp only [rdK,Option.bind_some,Option.bind_none,Option.map_none,hn1,show ∀ c,readS 4 (w1 :: c)=some (w1,c) from fun _=>rfl,show ∀ c,readZ 4 c=some ([],c) from fun _=>rfl,show ∀ c,num2 4 0 c=some ((0,0),c) from fun _=>rfl,hT]
theorem readK_5 {ws:Words} (hws:ws.length ≤ 1048577) (hm:∀ w ∈ ws,w.length ≤ 1048576) (d:Nat) (hd:d ≤ 23) (ih:ReadsTS ws d) {w:List UInt8} {c0:Words} {p0:Int} (hs00:Suf ws (w :: c0)) (hp00:p0=(ws.length:Int) - ((c0.length:Int) + 1)) (hk:kindOf w=5) :
  ResS ws (rdS (d + 1) (w :: c0)) (CC f_s_l2Read [.lptr 0 0,.v (.int .i64 ((d + 1:Nat):Int))] [.box [.v (.sl (strsC ws)),.v (.int .i64 p0),.v (.bool false)]]):=by
 have hs0:=hs00.tail
 have hp0:p0 + 1=(ws.length:Int) - c0.length:=by omega
 have hkl:=l2Kind_law w
 rw [hk] at hkl
 have hsh:=shape_s 5
 have hw116:w ≠ [116]:=fun e=>by rw [e] at hk;exact absurd hk (by decide)
 have hn1:∀ c,num1 w 5 c=some (0,c):=fun c=>by unfold num1;rw [if_neg (by decide),if_neg (by decide),if_neg hw116]
 rw [rdK_of hk (by decide)]
 refine goR ?_
 unfold nf_s_l2Read
 refine rs_bd (nextP_cons hs00 hp00 hws) (rs_bd rfl (rs_bd rfl (rs_bd rfl (rs_bd rfl (rs_bd hkl (rs_T rfl (rs_bd hsh (rs_T rfl (rs_bd rfl (rs_bd rfl (rs_bd rfl (rs_bd rfl (rs_bd rfl ?_)))))))))))))
 refine rs_bd (a:=(false,PUnit.unit)) (bd rfl (br_F rfl (by rw [decide_eq_false (show ¬ ((d + 1:Nat):Int)=0 by omega)]))) (rs_F rfl ?_)
 refine rs_bd (a:=stJ d ws (p0 + 1) false 5 0) (rfl) (rs_lo (rs_T rfl ?_))
 fF
 fF
 bB
 fF
 fF
 bB
 fF
 uw
 refine ResS.congr ?_ (tail_good hws d (by omega) ih (many:=0) (t:=Ty.zero) (h0:=parts 5) hs0 hp0 (by decide))
 simp only [rdK,Option.bind_some,Option.bind_none,Option.map_none,hn1,show ∀ c,readS 5 c=some ([],c) from fun _=>rfl,show ∀ c,readZ 5 c=some ([],c) from fun _=>rfl,show ∀ c,num2 5 0 c=some ((0,0),c) from fun _=>rfl,show ∀ c,readT 5 c=some (Ty.zero,c) from fun _=>rfl]
theorem readK_6 {ws:Words} (hws:ws.length ≤ 1048577) (hm:∀ w ∈ ws,w.length ≤ 1048576) (d:Nat) (hd:d ≤ 23) (ih:ReadsTS ws d) {w:List UInt8} {c0:Words} {p0:Int} (hs00:Suf ws (w :: c0)) (hp00:p0=(ws.length:Int) - ((c0.length:Int) + 1)) (hk:kindOf w=6) :
  ResS ws (rdS (d + 1) (w :: c0)) (CC f_s_l2Read [.lptr 0 0,.v (.int .i64 ((d + 1:Nat):Int))] [.box [.v (.sl (strsC ws)),.v (.int .i64 p0),.v (.bool false)]]):=by
 have hs0:=hs00.tail
 have hp0:p0 + 1=(ws.length:Int) - c0.length:=by omega
 have hkl:=l2Kind_law w
 rw [hk] at hkl
 have hsh:=shape_s 6
 have hw116:w ≠ [116]:=fun e=>by rw [e] at hk;exact absurd hk (by decide)
 have hn1:∀ c,num1 w 6 c=some (0,c):=fun c=>by unfold num1;rw [if_neg (by decide),if_neg (by decide),if_neg hw116]
 rw [rdK_of hk (by decide)]
 refine goR ?_
 unfold nf_s_l2Read
 refine rs_bd (nextP_cons hs00 hp00 hws) (rs_bd rfl (rs_bd rfl (rs_bd rfl (rs_bd rfl (rs_bd hkl (rs_T rfl (rs_bd hsh (rs_T rfl (rs_bd rfl (rs_bd rfl (rs_bd rfl (rs_bd rfl (rs_bd rfl ?_)))))))))))))
 refine rs_bd (a:=(false,PUnit.unit)) (bd rfl (br_F rfl (by rw [decide_eq_false (show ¬ ((d + 1:Nat):Int)=0 by omega)]))) (rs_F rfl ?_)
 refine rs_bd (a:=stJ d ws (p0 + 1) false 6 0) (rfl) (rs_lo (rs_T rfl ?_))
 tT
 rcases c0 with _ | ⟨w1,c1⟩
 ·have hq1:p0 + 1=(ws.length:Int):=by simpa using hp0
  nT nextP_nil hq1 false
  fF
  bB
  tT
  refine rs_bd (nextP_nil hq1 true) (rs_bd rfl (rs_bd rfl (rs_bd rfl (rs_bd rfl (rs_bd (l2Digits_law [] (by decide)) (rs_T rfl ?_))))))
  fF
  bB
  fF
  uw
  exact ResS.bad (by simp only [rdK,Option.bind_some,Option.bind_none,Option.map_none,hn1,show readS 6 []=none from rfl]) (tail_bad hws (t:=Ty.zero))
 ·have hr1:p0 + 1=(ws.length:Int) - ((c1.length:Int) + 1):=by rw [hp0];simp
  have hs1:=hs0.tail
  have hp1:p0 + 1 + 1=(ws.length:Int) - c1.length:=by omega
  nT nextP_cons hs0 hr1 hws
  fF
  bB
  tT
  rcases c1 with _ | ⟨w2,c2⟩
  ·have hq2:p0 + 1 + 1=(ws.length:Int):=by simpa using hp1
   refine rs_bd (nextP_nil hq2 false) (rs_bd rfl (rs_bd rfl (rs_bd rfl (rs_bd rfl (rs_bd (l2Digits_law [] (by decide)) (rs_T rfl ?_))))))
   fF
   bB
   fF
   uw
   exact ResS.bad (by simp only [rdK,Option.bind_some,Option.bind_none,Option.map_none,hn1,show ∀ c,readS 6 (w1 :: c)=some (w1,c) from fun _=>rfl,show ∀ c,readZ 6 c=some ([],c) from fun _=>rfl,show num2 6 0 []=none from rfl]) (tail_bad hws (t:=Ty.zero))
  ·have hr2:p0 + 1 + 1=(ws.length:Int) - ((c2.length:Int) + 1):=by rw [hp1];simp
   have hs2:=hs1.tail
   have hp2:p0 + 1 + 1 + 1=(ws.length:Int) - c2.length:=by omega
   refine rs_bd (nextP_cons hs1 hr2 hws) (rs_bd rfl (rs_bd rfl (rs_bd rfl (rs_bd rfl (rs_bd (l2Digits_law w2 (hs1.head_le hm)) (rs_T rfl ?_))))))
   fF
   bB
   fF
   uw
   refine ResS.congr ?_ (tail_good hws d (by omega) ih (many:=0) (t:=Ty.zero) (h0:=parts 6) hs2 hp2 (by decide))
   simp only [rdK,Option.bind_some,Option.bind_none,Option.map_none,hn1,show ∀ c,readS 6 (w1 :: c)=some (w1,c) from fun _=>rfl,show ∀ c,readZ 6 c=some ([],c) from fun _=>rfl,show ∀ c,num2 6 0 (w2 :: c)=some ((digS w2,0),c) from fun _=>rfl,show ∀ c,readT 6 c=some (Ty.zero,c) from fun _=>rfl]
theorem readK_7 {ws:Words} (hws:ws.length ≤ 1048577) (hm:∀ w ∈ ws,w.length ≤ 1048576) (d:Nat) (hd:d ≤ 23) (ih:ReadsTS ws d) {w:List UInt8} {c0:Words} {p0:Int} (hs00:Suf ws (w :: c0)) (hp00:p0=(ws.length:Int) - ((c0.length:Int) + 1)) (hk:kindOf w=7) :
  ResS ws (rdS (d + 1) (w :: c0)) (CC f_s_l2Read [.lptr 0 0,.v (.int .i64 ((d + 1:Nat):Int))] [.box [.v (.sl (strsC ws)),.v (.int .i64 p0),.v (.bool false)]]):=by
 have hs0:=hs00.tail
 have hp0:p0 + 1=(ws.length:Int) - c0.length:=by omega
 have hkl:=l2Kind_law w
 rw [hk] at hkl
 have hsh:=shape_s 7
 have hw116:w ≠ [116]:=fun e=>by rw [e] at hk;exact absurd hk (by decide)
 have hn1:∀ c,num1 w 7 c=some (0,c):=fun c=>by unfold num1;rw [if_neg (by decide),if_neg (by decide),if_neg hw116]
 rw [rdK_of hk (by decide)]
 refine goR ?_
 unfold nf_s_l2Read
 refine rs_bd (nextP_cons hs00 hp00 hws) (rs_bd rfl (rs_bd rfl (rs_bd rfl (rs_bd rfl (rs_bd hkl (rs_T rfl (rs_bd hsh (rs_T rfl (rs_bd rfl (rs_bd rfl (rs_bd rfl (rs_bd rfl (rs_bd rfl ?_)))))))))))))
 refine rs_bd (a:=(false,PUnit.unit)) (bd rfl (br_F rfl (by rw [decide_eq_false (show ¬ ((d + 1:Nat):Int)=0 by omega)]))) (rs_F rfl ?_)
 refine rs_bd (a:=stJ d ws (p0 + 1) false 7 0) (rfl) (rs_lo (rs_T rfl ?_))
 tT
 rcases c0 with _ | ⟨w1,c1⟩
 ·have hq1:p0 + 1=(ws.length:Int):=by simpa using hp0
  nT nextP_nil hq1 false
  fF
  bB
  tT
  refine rs_bd (nextP_nil hq1 true) (rs_bd rfl (rs_bd rfl (rs_bd rfl (rs_bd rfl (rs_bd (l2Digits_law [] (by decide)) (rs_T rfl ?_))))))
  fF
  bB
  fF
  uw
  exact ResS.bad (by simp only [rdK,Option.bind_some,Option.bind_none,Option.map_none,hn1,show readS 7 []=none from rfl]) (tail_bad hws (t:=Ty.zero))
 ·have hr1:p0 + 1=(ws.length:Int) - ((c1.length:Int) + 1):=by rw [hp0];simp
  have hs1:=hs0.tail
  have hp1:p0 + 1 + 1=(ws.length:Int) - c1.length:=by omega
  nT nextP_cons hs0 hr1 hws
  fF
  bB
  tT
  rcases c1 with _ | ⟨w2,c2⟩
  ·have hq2:p0 + 1 + 1=(ws.length:Int):=by simpa using hp1
   refine rs_bd (nextP_nil hq2 false) (rs_bd rfl (rs_bd rfl (rs_bd rfl (rs_bd rfl (rs_bd (l2Digits_law [] (by decide)) (rs_T rfl ?_))))))
   fF
   bB
   fF
   uw
   exact ResS.bad (by simp only [rdK,Option.bind_some,Option.bind_none,Option.map_none,hn1,show ∀ c,readS 7 (w1 :: c)=some (w1,c) from fun _=>rfl,show ∀ c,readZ 7 c=some ([],c) from fun _=>rfl,show num2 7 0 []=none from rfl]) (tail_bad hws (t:=Ty.zero))
  ·have hr2:p0 + 1 + 1=(ws.length:Int) - ((c2.length:Int) + 1):=by rw [hp1];simp
   have hs2:=hs1.tail
   have hp2:p0 + 1 + 1 + 1=(ws.length:Int) - c2.length:=by omega
   refine rs_bd (nextP_cons hs1 hr2 hws) (rs_bd rfl (rs_bd rfl (rs_bd rfl (rs_bd rfl (rs_bd (l2Digits_law w2 (hs1.head_le hm)) (rs_T rfl ?_))))))
   fF
   bB
   tT
   cases q3:rd 6 c2 with
   |none=>
    obtain ⟨t3,i3,ht3⟩:=l1R_none hws hs2 hp2 q3
    aT ht3 t3
    uw
    have hT:readT 7 c2=none:=q3
    exact ResS.bad (by simp only [rdK,Option.bind_some,Option.bind_none,Option.map_none,hn1,show ∀ c,readS 7 (w1 :: c)=some (w1,c) from fun _=>rfl,show ∀ c,readZ 7 c=some ([],c) from fun _=>rfl,show ∀ c,num2 7 0 (w2 :: c)=some ((digS w2,0),c) from fun _=>rfl,hT]) (tail_bad hws (t:=t3))
   |some x=>
    obtain ⟨t3,r3⟩:=x
    aT (l1R_some hws hs2 hp2 q3) t3
    uw
    have hT:readT 7 c2=some (t3,r3):=q3
    have hsT:Suf ws r3:=hs2.used (rd_used 6 _ _ _ q3)
    refine ResS.congr ?_ (tail_good hws d (by omega) ih (many:=0) (t:=t3) (h0:=parts 7) hsT rfl (by decide))
    simp only [rdK,Option.bind_some,Option.bind_none,Option.map_none,hn1,show ∀ c,readS 7 (w1 :: c)=some (w1,c) from fun _=>rfl,show ∀ c,readZ 7 c=some ([],c) from fun _=>rfl,show ∀ c,num2 7 0 (w2 :: c)=some ((digS w2,0),c) from fun _=>rfl,hT]
theorem readK_8 {ws:Words} (hws:ws.length ≤ 1048577) (hm:∀ w ∈ ws,w.length ≤ 1048576) (d:Nat) (hd:d ≤ 23) (ih:ReadsTS ws d) {w:List UInt8} {c0:Words} {p0:Int} (hs00:Suf ws (w :: c0)) (hp00:p0=(ws.length:Int) - ((c0.length:Int) + 1)) (hk:kindOf w=8) :
  ResS ws (rdS (d + 1) (w :: c0)) (CC f_s_l2Read [.lptr 0 0,.v (.int .i64 ((d + 1:Nat):Int))] [.box [.v (.sl (strsC ws)),.v (.int .i64 p0),.v (.bool false)]]):=by
 have hs0:=hs00.tail
 have hp0:p0 + 1=(ws.length:Int) - c0.length:=by omega
 have hkl:=l2Kind_law w
 rw [hk] at hkl
 have hsh:=shape_s 8
 have hw116:w ≠ [116]:=fun e=>by rw [e] at hk;exact absurd hk (by decide)
 have hn1:∀ c,num1 w 8 c=some (0,c):=fun c=>by unfold num1;rw [if_neg (by decide),if_neg (by decide),if_neg hw116]
 rw [rdK_of hk (by decide)]
 refine goR ?_
 unfold nf_s_l2Read
 refine rs_bd (nextP_cons hs00 hp00 hws) (rs_bd rfl (rs_bd rfl (rs_bd rfl (rs_bd rfl (rs_bd hkl (rs_T rfl (rs_bd hsh (rs_T rfl (rs_bd rfl (rs_bd rfl (rs_bd rfl (rs_bd rfl (rs_bd rfl ?_)))))))))))))
 refine rs_bd (a:=(false,PUnit.unit)) (bd rfl (br_F rfl (by rw [decide_eq_false (show ¬ ((d + 1:Nat):Int)=0 by omega)]))) (rs_F rfl ?_)
 refine rs_bd (a:=stJ d ws (p0 + 1) false 8 0) (rfl) (rs_lo (rs_T rfl ?_))
 fF
 fF
 bB
 fF
 fF
 bB
 fF
 uw
 refine ResS.congr ?_ (tail_good hws d (by omega) ih (many:=0) (t:=Ty.zero) (h0:=parts 8) hs0 hp0 (by decide))
 simp only [rdK,Option.bind_some,Option.bind_none,Option.map_none,hn1,show ∀ c,readS 8 c=some ([],c) from fun _=>rfl,show ∀ c,readZ 8 c=some ([],c) from fun _=>rfl,show ∀ c,num2 8 0 c=some ((0,0),c) from fun _=>rfl,show ∀ c,readT 8 c=some (Ty.zero,c) from fun _=>rfl]
theorem readK_9 {ws:Words} (hws:ws.length ≤ 1048577) (hm:∀ w ∈ ws,w.length ≤ 1048576) (d:Nat) (hd:d ≤ 23) (ih:ReadsTS ws d) {w:List UInt8} {c0:Words} {p0:Int} (hs00:Suf ws (w :: c0)) (hp00:p0=(ws.length:Int) - ((c0.length:Int) + 1)) (hk:kindOf w=9) :
  ResS ws (rdS (d + 1) (w :: c0)) (CC f_s_l2Read [.lptr 0 0,.v (.int .i64 ((d + 1:Nat):Int))] [.box [.v (.sl (strsC ws)),.v (.int .i64 p0),.v (.bool false)]]):=by
 have hs0:=hs00.tail
 have hp0:p0 + 1=(ws.length:Int) - c0.length:=by omega
 have hkl:=l2Kind_law w
 rw [hk] at hkl
 have hsh:=shape_s 9
 have hw116:w ≠ [116]:=fun e=>by rw [e] at hk;exact absurd hk (by decide)
 have hn1:∀ c,num1 w 9 c=some (0,c):=fun c=>by unfold num1;rw [if_neg (by decide),if_neg (by decide),if_neg hw116]
 rw [rdK_of hk (by decide)]
 refine goR ?_
 unfold nf_s_l2Read
 refine rs_bd (nextP_cons hs00 hp00 hws) (rs_bd rfl (rs_bd rfl (rs_bd rfl (rs_bd rfl (rs_bd hkl (rs_T rfl (rs_bd hsh (rs_T rfl (rs_bd rfl (rs_bd rfl (rs_bd rfl (rs_bd rfl (rs_bd rfl ?_)))))))))))))
 refine rs_bd (a:=(false,PUnit.unit)) (bd rfl (br_F rfl (by rw [decide_eq_false (show ¬ ((d + 1:Nat):Int)=0 by omega)]))) (rs_F rfl ?_)
 refine rs_bd (a:=stJ d ws (p0 + 1) false 9 0) (rfl) (rs_lo (rs_T rfl ?_))
 fF
 fF
 bB
 fF
 fF
 bB
 fF
 uw
 refine ResS.congr ?_ (tail_good hws d (by omega) ih (many:=0) (t:=Ty.zero) (h0:=parts 9) hs0 hp0 (by decide))
 simp only [rdK,Option.bind_some,Option.bind_none,Option.map_none,hn1,show ∀ c,readS 9 c=some ([],c) from fun _=>rfl,show ∀ c,readZ 9 c=some ([],c) from fun _=>rfl,show ∀ c,num2 9 0 c=some ((0,0),c) from fun _=>rfl,show ∀ c,readT 9 c=some (Ty.zero,c) from fun _=>rfl]
theorem readK_10 {ws:Words} (hws:ws.length ≤ 1048577) (hm:∀ w ∈ ws,w.length ≤ 1048576) (d:Nat) (hd:d ≤ 23) (ih:ReadsTS ws d) {w:List UInt8} {c0:Words} {p0:Int} (hs00:Suf ws (w :: c0)) (hp00:p0=(ws.length:Int) - ((c0.length:Int) + 1)) (hk:kindOf w=10) :
  ResS ws (rdS (d + 1) (w :: c0)) (CC f_s_l2Read [.lptr 0 0,.v (.int .i64 ((d + 1:Nat):Int))] [.box [.v (.sl (strsC ws)),.v (.int .i64 p0),.v (.bool false)]]):=by
 have hs0:=hs00.tail
 have hp0:p0 + 1=(ws.length:Int) - c0.length:=by omega
 have hkl:=l2Kind_law w
 rw [hk] at hkl
 have hsh:=shape_s 10
 have hw116:w ≠ [116]:=fun e=>by rw [e] at hk;exact absurd hk (by decide)
 have hn1:∀ c,num1 w 10 c=some (0,c):=fun c=>by unfold num1;rw [if_neg (by decide),if_neg (by decide),if_neg hw116]
 rw [rdK_of hk (by decide)]
 refine goR ?_
 unfold nf_s_l2Read
 refine rs_bd (nextP_cons hs00 hp00 hws) (rs_bd rfl (rs_bd rfl (rs_bd rfl (rs_bd rfl (rs_bd hkl (rs_T rfl (rs_bd hsh (rs_T rfl (rs_bd rfl (rs_bd rfl (rs_bd rfl (rs_bd rfl (rs_bd rfl ?_)))))))))))))
 refine rs_bd (a:=(false,PUnit.unit)) (bd rfl (br_F rfl (by rw [decide_eq_false (show ¬ ((d + 1:Nat):Int)=0 by omega)]))) (rs_F rfl ?_)
 refine rs_bd (a:=stJ d ws (p0 + 1) false 10 0) (rfl) (rs_lo (rs_T rfl ?_))
 fF
 fF
 bB
 fF
 fF
 bB
 fF
 uw
 refine ResS.congr ?_ (tail_good hws d (by omega) ih (many:=0) (t:=Ty.zero) (h0:=parts 10) hs0 hp0 (by decide))
 simp only [rdK,Option.bind_some,Option.bind_none,Option.map_none,hn1,show ∀ c,readS 10 c=some ([],c) from fun _=>rfl,show ∀ c,readZ 10 c=some ([],c) from fun _=>rfl,show ∀ c,num2 10 0 c=some ((0,0),c) from fun _=>rfl,show ∀ c,readT 10 c=some (Ty.zero,c) from fun _=>rfl]
theorem readK_11 {ws:Words} (hws:ws.length ≤ 1048577) (hm:∀ w ∈ ws,w.length ≤ 1048576) (d:Nat) (hd:d ≤ 23) (ih:ReadsTS ws d) {w:List UInt8} {c0:Words} {p0:Int} (hs00:Suf ws (w :: c0)) (hp00:p0=(ws.length:Int) - ((c0.length:Int) + 1)) (hk:kindOf w=11) :
  ResS ws (rdS (d + 1) (w :: c0)) (CC f_s_l2Read [.lptr 0 0,.v (.int .i64 ((d + 1:Nat):Int))] [.box [.v (.sl (strsC ws)),.v (.int .i64 p0),.v (.bool false)]]):=by
 have hs0:=hs00.tail
 have hp0:p0 + 1=(ws.length:Int) - c0.length:=by omega
 have hkl:=l2Kind_law w
 rw [hk] at hkl
 have hsh:=shape_s 11
 have hw116:w ≠ [116]:=fun e=>by rw [e] at hk;exact absurd hk (by decide)
 have hn1:∀ c,num1 w 11 c=some (0,c):=fun c=>by unfold num1;rw [if_neg (by decide),if_neg (by decide),if_neg hw116]
 rw [rdK_of hk (by decide)]
 refine goR ?_
 unfold nf_s_l2Read
 refine rs_bd (nextP_cons hs00 hp00 hws) (rs_bd rfl (rs_bd rfl (rs_bd rfl (rs_bd rfl (rs_bd hkl (rs_T rfl (rs_bd hsh (rs_T rfl (rs_bd rfl (rs_bd rfl (rs_bd rfl (rs_bd rfl (rs_bd rfl ?_)))))))))))))
 refine rs_bd (a:=(false,PUnit.unit)) (bd rfl (br_F rfl (by rw [decide_eq_false (show ¬ ((d + 1:Nat):Int)=0 by omega)]))) (rs_F rfl ?_)
 refine rs_bd (a:=stJ d ws (p0 + 1) false 11 0) (rfl) (rs_lo (rs_T rfl ?_))
 fF
 fF
 bB
 fF
 fF
 bB
 fF
 uw
 refine ResS.congr ?_ (tail_good hws d (by omega) ih (many:=0) (t:=Ty.zero) (h0:=parts 11) hs0 hp0 (by decide))
 simp only [rdK,Option.bind_some,Option.bind_none,Option.map_none,hn1,show ∀ c,readS 11 c=some ([],c) from fun _=>rfl,show ∀ c,readZ 11 c=some ([],c) from fun _=>rfl,show ∀ c,num2 11 0 c=some ((0,0),c) from fun _=>rfl,show ∀ c,readT 11 c=some (Ty.zero,c) from fun _=>rfl]
theorem readK_12 {ws:Words} (hws:ws.length ≤ 1048577) (hm:∀ w ∈ ws,w.length ≤ 1048576) (d:Nat) (hd:d ≤ 23) (ih:ReadsTS ws d) {w:List UInt8} {c0:Words} {p0:Int} (hs00:Suf ws (w :: c0)) (hp00:p0=(ws.length:Int) - ((c0.length:Int) + 1)) (hk:kindOf w=12) :
  ResS ws (rdS (d + 1) (w :: c0)) (CC f_s_l2Read [.lptr 0 0,.v (.int .i64 ((d + 1:Nat):Int))] [.box [.v (.sl (strsC ws)),.v (.int .i64 p0),.v (.bool false)]]):=by
 have hs0:=hs00.tail
 have hp0:p0 + 1=(ws.length:Int) - c0.length:=by omega
 have hkl:=l2Kind_law w
 rw [hk] at hkl
 have hsh:=shape_s 12
 have hw116:w ≠ [116]:=fun e=>by rw [e] at hk;exact absurd hk (by decide)
 have hn1:∀ c,num1 w 12 c=some (0,c):=fun c=>by unfold num1;rw [if_neg (by decide),if_neg (by decide),if_neg hw116]
 rw [rdK_of hk (by decide)]
 refine goR ?_
 unfold nf_s_l2Read
 refine rs_bd (nextP_cons hs00 hp00 hws) (rs_bd rfl (rs_bd rfl (rs_bd rfl (rs_bd rfl (rs_bd hkl (rs_T rfl (rs_bd hsh (rs_T rfl (rs_bd rfl (rs_bd rfl (rs_bd rfl (rs_bd rfl (rs_bd rfl ?_)))))))))))))
 refine rs_bd (a:=(false,PUnit.unit)) (bd rfl (br_F rfl (by rw [decide_eq_false (show ¬ ((d + 1:Nat):Int)=0 by omega)]))) (rs_F rfl ?_)
 refine rs_bd (a:=stJ d ws (p0 + 1) false 12 0) (rfl) (rs_lo (rs_T rfl ?_))
 fF
 fF
 bB
 fF
 fF
 bB
 tT
 cases q1:rd 6 c0 with
 |none=>
  obtain ⟨t1,i1,ht1⟩:=l1R_none hws hs0 hp0 q1
  aT ht1 t1
  uw
  have hT:readT 12 c0=none:=q1
  exact ResS.bad (by simp only [rdK,Option.bind_some,Option.bind_none,Option.map_none,hn1,show ∀ c,readS 12 c=some ([],c) from fun _=>rfl,show ∀ c,readZ 12 c=some ([],c) from fun _=>rfl,show ∀ c,num2 12 0 c=some ((0,0),c) from fun _=>rfl,hT]) (tail_bad hws (t:=t1))
 |some x=>
  obtain ⟨t1,r1⟩:=x
  aT (l1R_some hws hs0 hp0 q1) t1
  uw
  have hT:readT 12 c0=some (t1,r1):=q1
  have hsT:Suf ws r1:=hs0.used (rd_used 6 _ _ _ q1)
  refine ResS.congr ?_ (tail_good hws d (by omega) ih (many:=0) (t:=t1) (h0:=parts 12) hsT rfl (by decide))
  simp only [rdK,Option.bind_some,Option.bind_none,Option.map_none,hn1,show ∀ c,readS 12 c=some ([],c) from fun _=>rfl,show ∀ c,readZ 12 c=some ([],c) from fun _=>rfl,show ∀ c,num2 12 0 c=some ((0,0),c) from fun _=>rfl,hT]
theorem readK_13 {ws:Words} (hws:ws.length ≤ 1048577) (hm:∀ w ∈ ws,w.length ≤ 1048576) (d:Nat) (hd:d ≤ 23) (ih:ReadsTS ws d) {w:List UInt8} {c0:Words} {p0:Int} (hs00:Suf ws (w :: c0)) (hp00:p0=(ws.length:Int) - ((c0.length:Int) + 1)) (hk:kindOf w=13) :
  ResS ws (rdS (d + 1) (w :: c0)) (CC f_s_l2Read [.lptr 0 0,.v (.int .i64 ((d + 1:Nat):Int))] [.box [.v (.sl (strsC ws)),.v (.int .i64 p0),.v (.bool false)]]):=by
 have hs0:=hs00.tail
 have hp0:p0 + 1=(ws.length:Int) - c0.length:=by omega
 have hkl:=l2Kind_law w
 rw [hk] at hkl
 have hsh:=shape_s 13
 have hw116:w ≠ [116]:=fun e=>by rw [e] at hk;exact absurd hk (by decide)
 have hn1:∀ c,num1 w 13 c=some (0,c):=fun c=>by unfold num1;rw [if_neg (by decide),if_neg (by decide),if_neg hw116]
 rw [rdK_of hk (by decide)]
 refine goR ?_
 unfold nf_s_l2Read
 refine rs_bd (nextP_cons hs00 hp00 hws) (rs_bd rfl (rs_bd rfl (rs_bd rfl (rs_bd rfl (rs_bd hkl (rs_T rfl (rs_bd hsh (rs_T rfl (rs_bd rfl (rs_bd rfl (rs_bd rfl (rs_bd rfl (rs_bd rfl ?_)))))))))))))
 refine rs_bd (a:=(false,PUnit.unit)) (bd rfl (br_F rfl (by rw [decide_eq_false (show ¬ ((d + 1:Nat):Int)=0 by omega)]))) (rs_F rfl ?_)
 refine rs_bd (a:=stJ d ws (p0 + 1) false 13 0) (rfl) (rs_lo (rs_T rfl ?_))
 fF
 fF
 bB
 fF
 fF
 bB
 fF
 uw
 refine ResS.congr ?_ (tail_good hws d (by omega) ih (many:=0) (t:=Ty.zero) (h0:=parts 13) hs0 hp0 (by decide))
 simp only [rdK,Option.bind_some,Option.bind_none,Option.map_none,hn1,show ∀ c,readS 13 c=some ([],c) from fun _=>rfl,show ∀ c,readZ 13 c=some ([],c) from fun _=>rfl,show ∀ c,num2 13 0 c=some ((0,0),c) from fun _=>rfl,show ∀ c,readT 13 c=some (Ty.zero,c) from fun _=>rfl]
theorem readK_14 {ws:Words} (hws:ws.length ≤ 1048577) (hm:∀ w ∈ ws,w.length ≤ 1048576) (d:Nat) (hd:d ≤ 23) (ih:ReadsTS ws d) {w:List UInt8} {c0:Words} {p0:Int} (hs00:Suf ws (w :: c0)) (hp00:p0=(ws.length:Int) - ((c0.length:Int) + 1)) (hk:kindOf w=14) :
  ResS ws (rdS (d + 1) (w :: c0)) (CC f_s_l2Read [.lptr 0 0,.v (.int .i64 ((d + 1:Nat):Int))] [.box [.v (.sl (strsC ws)),.v (.int .i64 p0),.v (.bool false)]]):=by
 have hs0:=hs00.tail
 have hp0:p0 + 1=(ws.length:Int) - c0.length:=by omega
 have hkl:=l2Kind_law w
 rw [hk] at hkl
 have hsh:=shape_s 14
 have hw116:w ≠ [116]:=fun e=>by rw [e] at hk;exact absurd hk (by decide)
 have hn1:∀ c,num1 w 14 c=some (0,c):=fun c=>by unfold num1;rw [if_neg (by decide),if_neg (by decide),if_neg hw116]
 rw [rdK_of hk (by decide)]
 refine goR ?_
 unfold nf_s_l2Read
 refine rs_bd (nextP_cons hs00 hp00 hws) (rs_bd rfl (rs_bd rfl (rs_bd rfl (rs_bd rfl (rs_bd hkl (rs_T rfl (rs_bd hsh (rs_T rfl (rs_bd rfl (rs_bd rfl (rs_bd rfl (rs_bd rfl (rs_bd rfl ?_)))))))))))))
 refine rs_bd (a:=(false,PUnit.unit)) (bd rfl (br_F rfl (by rw [decide_eq_false (show ¬ ((d + 1:Nat):Int)=0 by omega)]))) (rs_F rfl ?_)
 refine rs_bd (a:=stJ d ws (p0 + 1) false 14 0) (rfl) (rs_lo (rs_T rfl ?_))
 tT
 rcases c0 with _ | ⟨w1,c1⟩
 ·have hq1:p0 + 1=(ws.length:Int):=by simpa using hp0
  nT nextP_nil hq1 false
  tT
  nT nextP_nil hq1 true
  bB
  fF
  fF
  bB
  fF
  uw
  exact ResS.bad (by simp only [rdK,Option.bind_some,Option.bind_none,Option.map_none,hn1,show readS 14 []=none from rfl]) (tail_bad hws (t:=Ty.zero))
 ·have hr1:p0 + 1=(ws.length:Int) - ((c1.length:Int) + 1):=by rw [hp0];simp
  have hs1:=hs0.tail
  have hp1:p0 + 1 + 1=(ws.length:Int) - c1.length:=by omega
  nT nextP_cons hs0 hr1 hws
  tT
  rcases c1 with _ | ⟨w2,c2⟩
  ·have hq2:p0 + 1 + 1=(ws.length:Int):=by simpa using hp1
   nT nextP_nil hq2 false
   bB
   fF
   fF
   bB
   fF
   uw
   exact ResS.bad (by simp only [rdK,Option.bind_some,Option.bind_none,Option.map_none,hn1,show ∀ c,readS 14 (w1 :: c)=some (w1,c) from fun _=>rfl,show readZ 14 []=none from rfl]) (tail_bad hws (t:=Ty.zero))
  ·have hr2:p0 + 1 + 1=(ws.length:Int) - ((c2.length:Int) + 1):=by rw [hp1];simp
   have hs2:=hs1.tail
   have hp2:p0 + 1 + 1 + 1=(ws.length:Int) - c2.length:=by omega
   nT nextP_cons hs1 hr2 hws
   bB
   fF
   fF
   bB
   fF
   uw
   refine ResS.congr ?_ (tail_good hws d (by omega) ih (many:=0) (t:=Ty.zero) (h0:=parts 14) hs2 hp2 (by decide))
   simp only [rdK,Option.bind_some,Option.bind_none,Option.map_none,hn1,show ∀ c,readS 14 (w1 :: c)=some (w1,c) from fun _=>rfl,show ∀ c,readZ 14 (w2 :: c)=some (w2,c) from fun _=>rfl,show ∀ c,num2 14 0 c=some ((0,0),c) from fun _=>rfl,show ∀ c,readT 14 c=some (Ty.zero,c) from fun _=>rfl]
theorem readK_15 {ws:Words} (hws:ws.length ≤ 1048577) (hm:∀ w ∈ ws,w.length ≤ 1048576) (d:Nat) (hd:d ≤ 23) (ih:ReadsTS ws d) {w:List UInt8} {c0:Words} {p0:Int} (hs00:Suf ws (w :: c0)) (hp00:p0=(ws.length:Int) - ((c0.length:Int) + 1)) (hk:kindOf w=15) :
  ResS ws (rdS (d + 1) (w :: c0)) (CC f_s_l2Read [.lptr 0 0,.v (.int .i64 ((d + 1:Nat):Int))] [.box [.v (.sl (strsC ws)),.v (.int .i64 p0),.v (.bool false)]]):=by
 have hs0:=hs00.tail
 have hp0:p0 + 1=(ws.length:Int) - c0.length:=by omega
 have hkl:=l2Kind_law w
 rw [hk] at hkl
 have hsh:=shape_s 15
 have hw116:w ≠ [116]:=fun e=>by rw [e] at hk;exact absurd hk (by decide)
 rw [rdK_of hk (by decide)]
 refine goR ?_
 unfold nf_s_l2Read
 refine rs_bd (nextP_cons hs00 hp00 hws) (rs_bd rfl (rs_bd rfl (rs_bd rfl (rs_bd rfl (rs_bd hkl (rs_T rfl (rs_bd hsh (rs_T rfl (rs_bd rfl (rs_bd rfl (rs_bd rfl (rs_bd rfl (rs_bd rfl ?_)))))))))))))
 refine rs_bd (a:=(false,PUnit.unit)) (bd rfl (br_F rfl (by rw [decide_eq_false (show ¬ ((d + 1:Nat):Int)=0 by omega)]))) (rs_F rfl ?_)
 rcases c0 with _ | ⟨w9,c9⟩
 ·have hq:p0 + 1=(ws.length:Int):=by simpa using hp0
  refine rs_bd (a:=stJ d ws (p0 + 1) true 15 (signS [])) (bd rfl (br_F rfl (bd rfl (br_F rfl (bd rfl (br_T rfl (bd (nextP_nil hq false) (bd rfl (bd rfl (bd rfl (bd rfl (bd (l2Sign_law []) (br_T rfl rfl))))))))))))) (rs_lo (rs_T rfl ?_))
  fF
  fF
  bB
  fF
  fF
  bB
  fF
  uw
  exact ResS.bad (by simp only [rdK,Option.bind_some,Option.bind_none,Option.map_none,show num1 w 15 []=none from rfl]) (tail_bad hws (t:=Ty.zero))
 ·have hr:p0 + 1=(ws.length:Int) - ((c9.length:Int) + 1):=by rw [hp0];simp
  have hs9:=hs0.tail
  have hp9:p0 + 1 + 1=(ws.length:Int) - c9.length:=by omega
  refine rs_bd (a:=stJ d ws (p0 + 1 + 1) false 15 (signS w9)) (bd rfl (br_F rfl (bd rfl (br_F rfl (bd rfl (br_T rfl (bd (nextP_cons hs0 hr hws) (bd rfl (bd rfl (bd rfl (bd rfl (bd (l2Sign_law w9) (br_T rfl rfl))))))))))))) (rs_lo (rs_T rfl ?_))
  fF
  fF
  bB
  fF
  fF
  bB
  fF
  uw
  refine ResS.congr ?_ (tail_good hws d (by omega) ih (many:=0) (t:=Ty.zero) (h0:=parts 15) hs9 hp9 (by decide))
  simp only [rdK,Option.bind_some,Option.bind_none,Option.map_none,show ∀ c,num1 w 15 (w9 :: c)=some (signS w9,c) from fun _=>rfl,show ∀ c,readS 15 c=some ([],c) from fun _=>rfl,show ∀ c,readZ 15 c=some ([],c) from fun _=>rfl,show ∀ c,num2 15 (signS w9) c=some (((signS w9),0),c) from fun _=>rfl,show ∀ c,readT 15 c=some (Ty.zero,c) from fun _=>rfl]
theorem readK_16 {ws:Words} (hws:ws.length ≤ 1048577) (hm:∀ w ∈ ws,w.length ≤ 1048576) (d:Nat) (hd:d ≤ 23) (ih:ReadsTS ws d) {w:List UInt8} {c0:Words} {p0:Int} (hs00:Suf ws (w :: c0)) (hp00:p0=(ws.length:Int) - ((c0.length:Int) + 1)) (hk:kindOf w=16) :
  ResS ws (rdS (d + 1) (w :: c0)) (CC f_s_l2Read [.lptr 0 0,.v (.int .i64 ((d + 1:Nat):Int))] [.box [.v (.sl (strsC ws)),.v (.int .i64 p0),.v (.bool false)]]):=by
 have hs0:=hs00.tail
 have hp0:p0 + 1=(ws.length:Int) - c0.length:=by omega
 have hkl:=l2Kind_law w
 rw [hk] at hkl
 have hsh:=shape_s 16
 have hw116:w ≠ [116]:=fun e=>by rw [e] at hk;exact absurd hk (by decide)
 have hn1:∀ c,num1 w 16 c=some (0,c):=fun c=>by unfold num1;rw [if_neg (by decide),if_neg (by decide),if_neg hw116]
 rw [rdK_of hk (by decide)]
 refine goR ?_
 unfold nf_s_l2Read
 refine rs_bd (nextP_cons hs00 hp00 hws) (rs_bd rfl (rs_bd rfl (rs_bd rfl (rs_bd rfl (rs_bd hkl (rs_T rfl (rs_bd hsh (rs_T rfl (rs_bd rfl (rs_bd rfl (rs_bd rfl (rs_bd rfl (rs_bd rfl ?_)))))))))))))
 refine rs_bd (a:=(false,PUnit.unit)) (bd rfl (br_F rfl (by rw [decide_eq_false (show ¬ ((d + 1:Nat):Int)=0 by omega)]))) (rs_F rfl ?_)
 refine rs_bd (a:=stJ d ws (p0 + 1) false 16 0) (rfl) (rs_lo (rs_T rfl ?_))
 fF
 fF
 bB
 fF
 fF
 bB
 tT
 cases q1:rd 6 c0 with
 |none=>
  obtain ⟨t1,i1,ht1⟩:=l1R_none hws hs0 hp0 q1
  aT ht1 t1
  uw
  have hT:readT 16 c0=none:=q1
  exact ResS.bad (by simp only [rdK,Option.bind_some,Option.bind_none,Option.map_none,hn1,show ∀ c,readS 16 c=some ([],c) from fun _=>rfl,show ∀ c,readZ 16 c=some ([],c) from fun _=>rfl,show ∀ c,num2 16 0 c=some ((0,0),c) from fun _=>rfl,hT]) (tail_bad hws (t:=t1))
 |some x=>
  obtain ⟨t1,r1⟩:=x
  aT (l1R_some hws hs0 hp0 q1) t1
  uw
  have hT:readT 16 c0=some (t1,r1):=q1
  have hsT:Suf ws r1:=hs0.used (rd_used 6 _ _ _ q1)
  refine ResS.congr ?_ (tail_good hws d (by omega) ih (many:=0) (t:=t1) (h0:=parts 16) hsT rfl (by decide))
  simp only [rdK,Option.bind_some,Option.bind_none,Option.map_none,hn1,show ∀ c,readS 16 c=some ([],c) from fun _=>rfl,show ∀ c,readZ 16 c=some ([],c) from fun _=>rfl,show ∀ c,num2 16 0 c=some ((0,0),c) from fun _=>rfl,hT]
theorem readK_17 {ws:Words} (hws:ws.length ≤ 1048577) (hm:∀ w ∈ ws,w.length ≤ 1048576) (d:Nat) (hd:d ≤ 23) (ih:ReadsTS ws d) {w:List UInt8} {c0:Words} {p0:Int} (hs00:Suf ws (w :: c0)) (hp00:p0=(ws.length:Int) - ((c0.length:Int) + 1)) (hk:kindOf w=17) :
  ResS ws (rdS (d + 1) (w :: c0)) (CC f_s_l2Read [.lptr 0 0,.v (.int .i64 ((d + 1:Nat):Int))] [.box [.v (.sl (strsC ws)),.v (.int .i64 p0),.v (.bool false)]]):=by
 have hs0:=hs00.tail
 have hp0:p0 + 1=(ws.length:Int) - c0.length:=by omega
 have hkl:=l2Kind_law w
 rw [hk] at hkl
 have hsh:=shape_s 17
 have hw116:w ≠ [116]:=fun e=>by rw [e] at hk;exact absurd hk (by decide)
 have hn1:∀ c,num1 w 17 c=some (0,c):=fun c=>by unfold num1;rw [if_neg (by decide),if_neg (by decide),if_neg hw116]
 rw [rdK_of hk (by decide)]
 refine goR ?_
 unfold nf_s_l2Read
 refine rs_bd (nextP_cons hs00 hp00 hws) (rs_bd rfl (rs_bd rfl (rs_bd rfl (rs_bd rfl (rs_bd hkl (rs_T rfl (rs_bd hsh (rs_T rfl (rs_bd rfl (rs_bd rfl (rs_bd rfl (rs_bd rfl (rs_bd rfl ?_)))))))))))))
 refine rs_bd (a:=(false,PUnit.unit)) (bd rfl (br_F rfl (by rw [decide_eq_false (show ¬ ((d + 1:Nat):Int)=0 by omega)]))) (rs_F rfl ?_)
 refine rs_bd (a:=stJ d ws (p0 + 1) false 17 0) (rfl) (rs_lo (rs_T rfl ?_))
 tT
 rcases c0 with _ | ⟨w1,c1⟩
 ·have hq1:p0 + 1=(ws.length:Int):=by simpa using hp0
  nT nextP_nil hq1 false
  fF
  bB
  fF
  fF
  bB
  fF
  uw
  exact ResS.bad (by simp only [rdK,Option.bind_some,Option.bind_none,Option.map_none,hn1,show readS 17 []=none from rfl]) (tail_bad hws (t:=Ty.zero))
 ·have hr1:p0 + 1=(ws.length:Int) - ((c1.length:Int) + 1):=by rw [hp0];simp
  have hs1:=hs0.tail
  have hp1:p0 + 1 + 1=(ws.length:Int) - c1.length:=by omega
  nT nextP_cons hs0 hr1 hws
  fF
  bB
  fF
  fF
  bB
  fF
  uw
  refine ResS.congr ?_ (tail_good hws d (by omega) ih (many:=0) (t:=Ty.zero) (h0:=parts 17) hs1 hp1 (by decide))
  simp only [rdK,Option.bind_some,Option.bind_none,Option.map_none,hn1,show ∀ c,readS 17 (w1 :: c)=some (w1,c) from fun _=>rfl,show ∀ c,readZ 17 c=some ([],c) from fun _=>rfl,show ∀ c,num2 17 0 c=some ((0,0),c) from fun _=>rfl,show ∀ c,readT 17 c=some (Ty.zero,c) from fun _=>rfl]
theorem l2Read_law {ws:Words} (hws:ws.length ≤ 1048577) (hm:∀ w ∈ ws,w.length ≤ 1048576):∀ d:Nat,d ≤ 24→ReadsTS ws d:=by
 intro d
 induction d with
 |zero=>
  intro _ c p hs hp
  refine ⟨(fun t r h=>by cases h),fun _=>?_⟩
  cases c with
  |nil=>exact ⟨_,_,read_bad0 (nextP_nil (by simpa using hp) false) (.inr rfl)⟩
  |cons w c=>exact ⟨_,_,read_bad0 (nextP_cons hs (by rw [hp];simp) hws) (.inr rfl)⟩
 |succ d ih=>
  intro hd c p hs hp
  have ih:=ih (by omega)
  cases c with
  |nil=>exact ⟨(fun t r h=>by cases h),fun _=>⟨_,_,read_bad0 (nextP_nil (by simpa using hp) false) (.inl (by decide))⟩⟩
  |cons w c=>
   have hp2:p=(ws.length:Int) - ((c.length:Int) + 1):=by rw [hp];simp
   have hk:=kindOf_rng w
   have hc:kindOf w=0∨kindOf w=1∨kindOf w=2∨kindOf w=3∨kindOf w=4∨kindOf w=5∨kindOf w=6∨kindOf w=7∨kindOf w=8∨kindOf w=9∨kindOf w=10∨kindOf w=11∨kindOf w=12∨kindOf w=13∨kindOf w=14∨kindOf w=15∨kindOf w=16∨kindOf w=17:=by omega
   rcases hc with e | e | e | e | e | e | e | e | e | e | e | e | e | e | e | e | e | e
   ·refine ⟨fun t r h=>?_,fun _=>⟨_,_,read_bad0 (nextP_cons hs hp2 hws) (.inl e)⟩⟩
    rw [rdS,if_pos e] at h
    cases h
   ·exact readK_1 hws hm d (by omega) ih hs hp2 e
   ·exact readK_2 hws hm d (by omega) ih hs hp2 e
   ·exact readK_3 hws hm d (by omega) ih hs hp2 e
   ·exact readK_4 hws hm d (by omega) ih hs hp2 e
   ·exact readK_5 hws hm d (by omega) ih hs hp2 e
   ·exact readK_6 hws hm d (by omega) ih hs hp2 e
   ·exact readK_7 hws hm d (by omega) ih hs hp2 e
   ·exact readK_8 hws hm d (by omega) ih hs hp2 e
   ·exact readK_9 hws hm d (by omega) ih hs hp2 e
   ·exact readK_10 hws hm d (by omega) ih hs hp2 e
   ·exact readK_11 hws hm d (by omega) ih hs hp2 e
   ·exact readK_12 hws hm d (by omega) ih hs hp2 e
   ·exact readK_13 hws hm d (by omega) ih hs hp2 e
   ·exact readK_14 hws hm d (by omega) ih hs hp2 e
   ·exact readK_15 hws hm d (by omega) ih hs hp2 e
   ·exact readK_16 hws hm d (by omega) ih hs hp2 e
   ·exact readK_17 hws hm d (by omega) ih hs hp2 e
end Go.Proofs.YtegbnddjgifcdaaGreatDoor.Abs

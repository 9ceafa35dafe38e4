/- A part. -/
import Derived.Test.YtegbnddjgifcdaaGreatDoorTyText
import Derived.Test.YtegbnddjgifcdaaGreatDoorSplitW
set_option linter.unusedVariables false
set_option linter.unusedSimpArgs false
set_option linter.unusedSectionVars false
set_option maxRecDepth 100000
namespace Go.Proofs.YtegbnddjgifcdaaGreatDoor.Abs
open Go Go.Proofs
open Classical
namespace Ty
theorem kw_word {t:Ty} (h:t.headOk):kw (word t.k t.n)=some (t.k,t.n):=by
 rcases h.kind with e | e | e | e | e | e
 ·have hn:t.n=0:=by rcases h.2 with h | h;exact h;omega
  rw [e,hn];rfl
 ·have hn:t.n=0:=by rcases h.2 with h | h;exact h;omega
  rw [e,hn];rfl
 ·have e1:word 3 t.n=118 :: Lib.itoa t.n:=rfl
  rw [e,e1,itoa_digit h.num]
  rcases h.num with hn | hn<;>rw [hn]<;>rfl
 ·have hn:t.n=0:=by rcases h.2 with h | h;exact h;omega
  rw [e,hn];rfl
 ·have hn:t.n=0:=by rcases h.2 with h | h;exact h;omega
  rw [e,hn];rfl
 ·have hn:t.n=0:=by rcases h.2 with h | h;exact h;omega
  rw [e,hn];rfl
theorem word_plain {t:Ty} (h:t.headOk):∀ c ∈ word t.k t.n,c ≠ 32:=by
 rcases h.kind with e | e | e | e | e | e
 ·rw [e];show ∀ c ∈ [(105:UInt8)],c ≠ 32;decide
 ·rw [e];show ∀ c ∈ [(98:UInt8)],c ≠ 32;decide
 ·have e1:word 3 t.n=118 :: Lib.itoa t.n:=rfl
  rw [e,e1,itoa_digit h.num]
  rcases h.num with hn | hn<;>rw [hn]<;>decide
 ·rw [e];show ∀ c ∈ [(102:UInt8)],c ≠ 32;decide
 ·rw [e];show ∀ c ∈ [(112:UInt8)],c ≠ 32;decide
 ·rw [e];show ∀ c ∈ [(108:UInt8)],c ≠ 32;decide
theorem toks_plain:∀ t:Ty,t.good→∀ w ∈ t.toks,∀ c ∈ w,c ≠ 32:=ind fun t ih hg=>by
 obtain ⟨hh,hp⟩:=(good_def t).1 hg
 rw [toks_def]
 intro w hw
 rcases List.mem_cons.1 hw with rfl | hw
 ·exact word_plain hh
 ·unfold toksL at hw
  obtain ⟨l,hl,hw⟩:=List.mem_flatten.1 hw
  obtain ⟨u,hu,rfl⟩:=List.mem_map.1 hl
  exact ih u hu (hp u hu) w hw
theorem depthL_mem {l:List Ty}:∀ {u:Ty},u ∈ l→u.depth ≤ depthL l:=by
 induction l with
 |nil=>intro u h;cases h
 |cons x l ih=>
  intro u h
  rw [depthL_cons]
  rcases List.mem_cons.1 h with rfl | h
  ·omega
  ·have:=ih h;omega
theorem ar_head {t:Ty} (h:t.headOk):ar t.k=t.a.length:=by
 have h1:=h.1
 have h2:=parts_ar (k:=t.k) (by rcases h.kind with e | e | e | e | e | e<;>omega)
 omega
theorem rd_toks:∀ t:Ty,t.good→∀ (d:Nat),t.depth ≤ d→∀ r,rd d (t.toks ++ r)=some (t,r):=ind fun t ih hg d hd r=>by
 obtain ⟨hh,hp⟩:=(good_def t).1 hg
 rw [depth_def] at hd
 obtain ⟨e,rfl⟩:∃ e,d=e + 1:=⟨d - 1,by omega⟩
 have:∀ l:List Ty,(∀ u ∈ l,u ∈ t.a)→seqR (rd e) l.length (toksL l ++ r)=some (l,r):=by
  intro l
  induction l with
  |nil=>intro _;rfl
  |cons u l ihl=>
   intro hl
   have hu:=hl u (by simp)
   rw [List.length_cons,seqR,toksL_cons,List.append_assoc,ih u hu (hp u hu) e (by have:=depthL_mem hu;omega)]
   simp only [Option.bind_some]
   rw [ihl fun x hx=>hl x (by simp [hx])]
   rfl
 rw [toks_def,List.cons_append,rd,kw_word hh]
 simp only [Option.bind_some]
 rw [ar_head hh,this t.a fun u hu=>hu]
 simp only [Option.map_some]
 rw [eta]
theorem cut_join:∀ (b:List (List UInt8)) (a:List UInt8),(∀ c ∈ a,c ≠ 32)→(∀ w ∈ b,∀ c ∈ w,c ≠ 32)→cutP [] (a ++ Lib.joinTail [32] b)=a :: b
 |[],a,ha,_=>by
  have:Lib.joinTail [32] ([]:List (List UInt8))=[]:=rfl
  rw [this,List.append_nil,cutP_none _ ha];rfl
 |x :: b,a,ha,hb=>by
  rw [joinTail_cons,List.cons_append,cutP_hit _ _ ha,cut_join b x (hb x (by simp)) fun w hw=>hb w (by simp [hw])]
  rfl
theorem cut_text {t:Ty} (h:t.good):cutP [] t.text=t.toks:=by
 have h1:=toks_plain t h
 rw [← join_toks,toks_def,Lib.join_cons]
 rw [toks_def] at h1
 exact cut_join _ _ (h1 _ (by simp)) fun w hw=>h1 w (by simp [hw])
end Ty
end Go.Proofs.YtegbnddjgifcdaaGreatDoor.Abs

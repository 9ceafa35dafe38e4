/- A part. -/
import Derived.Test.YtegbnddjgifcdaaGreatDoorParseS
import Derived.Lib.SplitLaws
set_option linter.unusedVariables false
set_option linter.unusedSimpArgs false
set_option linter.unusedSectionVars false
set_option maxRecDepth 100000
namespace Go.Proofs.YtegbnddjgifcdaaGreatDoor.Abs
open Go Go.Proofs
open Classical
def cutP:List UInt8→List UInt8→List (List UInt8)
 |p,[]=>[p]
 |p,c :: s=>if c=32 then p :: cutP [] s else cutP (p ++ [c]) s
theorem cutP_none {s:List UInt8}:∀ (p:List UInt8),(∀ c ∈ s,c ≠ 32)→cutP p s=[p ++ s]:=by
 induction s with
 |nil=>intro p _;simp [cutP]
 |cons c s ih=>intro p h;rw [cutP,if_neg (h c (by simp)),ih _ fun x hx=>h x (by simp [hx])];simp
theorem cutP_hit {q:List UInt8}:∀ (p r:List UInt8),(∀ c ∈ q,c ≠ 32)→cutP p (q ++ 32 :: r)=(p ++ q) :: cutP [] r:=by
 induction q with
 |nil=>intro p r _;simp [cutP]
 |cons c s ih=>intro p r h;rw [List.cons_append,cutP,if_neg (h c (by simp)),ih _ _ fun x hx=>h x (by simp [hx])];simp
theorem cutP_len {s:List UInt8}:∀ p:List UInt8,(cutP p s).length ≤ s.length + 1:=by
 induction s with
 |nil=>intro p;simp [cutP]
 |cons c s ih=>
  intro p
  rw [cutP]
  split
  ·have:=ih [];simp only [List.length_cons];omega
  ·have:=ih (p ++ [c]);simp only [List.length_cons];omega
theorem first_blank (s:List UInt8):(∀ c ∈ s,c ≠ 32)∨∃ q r:List UInt8,s=q ++ 32 :: r∧∀ c ∈ q,c ≠ 32:=by
 induction s with
 |nil=>exact .inl (by simp)
 |cons c s ih=>
  by_cases hc:c=32
  ·exact .inr ⟨[],s,by simp [hc],by simp⟩
  ·rcases ih with h | ⟨q,r,h,hq⟩
   ·exact .inl fun x hx=>by rcases List.mem_cons.1 hx with rfl | hx;exact hc;exact h x hx
   ·exact .inr ⟨c :: q,r,by simp [h],fun x hx=>by rcases List.mem_cons.1 hx with rfl | hx;exact hc;exact hq x hx⟩
theorem occ_none {s:List UInt8} (h:∀ c ∈ s,c ≠ 32) (j:Nat):Lib.occAt s [32] j=false:=by
 cases hb:Lib.occAt s [32] j with
 |false=>rfl
 |true=>exact absurd rfl (h 32 (List.mem_of_getElem? (Lib.occAt_head rfl hb)))
theorem index_blank {q r:List UInt8} (h:∀ c ∈ q,c ≠ 32):Lib.index (q ++ 32 :: r) [32]=q.length:=by
 refine Lib.index_first (by simp) ?_ fun j hj=>?_
 ·simp [Lib.occAt]
 ·cases hb:Lib.occAt (q ++ 32 :: r) [32] j with
  |false=>rfl
  |true=>
   have h1:=Lib.occAt_head rfl hb
   rw [List.getElem?_append_left hj] at h1
   exact absurd rfl (h 32 (List.mem_of_getElem? h1))
theorem split_cut:∀ (n:Nat) (s:List UInt8),s.length ≤ n→Lib.split s [32]=cutP [] s:=by
 intro n
 induction n with
 |zero=>
  intro s hs
  have:s=[]:=List.eq_nil_of_length_eq_zero (by omega)
  subst this
  rfl
 |succ n ih=>
  intro s hs
  rcases first_blank s with h | ⟨q,r,rfl,h⟩
  ·rw [cutP_none _ h]
   unfold Lib.split
   rw [Lib.count_miss (Lib.index_none fun j _=>occ_none h j)]
   rfl
  ·rw [cutP_hit _ _ h]
   have hi:=index_blank (r:=r) h
   unfold Lib.split
   rw [Lib.count_hit (by simp) hi]
   have hd:(q ++ 32 :: r).drop (q.length + [(32:UInt8)].length)=r:=by
    rw [List.length_singleton,show q.length + 1=q.length + 1 from rfl,← List.drop_drop];simp
   rw [hd,Nat.add_comm 1,Lib.splitK]
   rw [if_neg (by rw [hi];simp),hi,Int.toNat_natCast,hd]
   have:=ih r (by simp at hs;omega)
   unfold Lib.split at this
   rw [this]
   simp
theorem split_loop (s:List UInt8) (hs:s.length ≤ 1048576):∀ (rest a p:List UInt8) (done:List (List UInt8)),s=a ++ p ++ rest→done.length + rest.length ≤ 1048576→
  LL f_s_l1Split 0 lc_s_l1Split_0 [] k_s_l1Split_0 ((s,(),(a.length:Int),(a.length:Int) + p.length,()),strsC done,()) =
   some (.out 0 ((s,(),(s.length:Int) + 1,(s.length:Int) + 1,()),strsC (done ++ cutP p rest),())):=by
 intro rest
 induction rest with
 |nil=>
  intro a p done h hl
  have hlen:(a.length:Int) + p.length=s.length:=by rw [h];simp
  have w1:IntKind.i64.wrap ((s.length:Int) + 1)=(s.length:Int) + 1:=by rw [wrap_i64]<;>omega
  apply gl_s_l1Split_0
  unfold nl_s_l1Split_0
  rw [hlen]
  have d1:decide ((s.length:Int) ≤ (s.length:Int))=true:=decide_eq_true (Int.le_refl _)
  have d2:decide ((s.length:Int)=(s.length:Int))=true:=decide_eq_true rfl
  have d3:decide ((0:Int) ≤ (a.length:Int))=true:=decide_eq_true (by omega)
  have d4:decide ((a.length:Int) ≤ (s.length:Int))=true:=decide_eq_true (by omega)
  have d5:decide ((strsC done).length + 1 ≤ 4294967296)=true:=decide_eq_true (by simp at hl ⊢;omega)
  have e1:List.drop (a.length:Int).toNat (List.take (s.length:Int).toNat s)=p:=by
   rw [Int.toNat_natCast,Int.toNat_natCast,List.take_length,h];simp
  have e2:strsC done ++ [CVal.str p]=strsC (done ++ cutP p []):=by simp [strsC,cutP]
  simp only [d1,d2,d3,d4,d5,br_true',Option.bind_some,Bool.and_true,w1,e1,e2]
  apply gl_s_l1Split_0
  unfold nl_s_l1Split_0
  have d6:decide ((s.length:Int) + 1 ≤ (s.length:Int))=false:=decide_eq_false (by omega)
  simp only [d6,br_false']
 |cons c rest ih=>
  intro a p done h hl
  have hlt:a.length + p.length < s.length:=by rw [h];simp
  have w1:IntKind.i64.wrap ((a.length:Int) + p.length + 1)=(a.length:Int) + p.length + 1:=by rw [wrap_i64]<;>omega
  have hget:s[((a.length:Int) + p.length).toNat]? = some c:=by
   rw [show ((a.length:Int) + p.length).toNat=(a ++ p).length by simp;omega,h]
   simp
  have d1:decide ((a.length:Int) + p.length ≤ (s.length:Int))=true:=decide_eq_true (by omega)
  have d2:decide ((a.length:Int) + p.length=(s.length:Int))=false:=decide_eq_false (by omega)
  have d3:decide ((0:Int) ≤ (a.length:Int) + p.length)=true:=decide_eq_true (by omega)
  have d3':decide ((0:Int) ≤ (a.length:Int))=true:=decide_eq_true (by omega)
  have d4:decide ((a.length:Int) ≤ (a.length:Int) + p.length)=true:=decide_eq_true (by omega)
  have d5:decide ((strsC done).length + 1 ≤ 4294967296)=true:=decide_eq_true (by simp at hl ⊢;omega)
  by_cases hc:c=32
  ·subst hc
   have:=ih (a ++ p ++ [32]) [] (done ++ [p]) (by rw [h];simp) (by simp at hl ⊢;omega)
   have el:(((a ++ p ++ [(32:UInt8)]).length:Nat):Int)=(a.length:Int) + p.length + 1:=by simp;omega
   rw [el] at this
   simp only [List.length_nil,Int.cast_ofNat_Int,Int.add_zero] at this
   apply gl_s_l1Split_0
   unfold nl_s_l1Split_0
   have d6:decide ((((32:UInt8).toNat:Nat):Int)=32)=true:=by decide
   have e1:List.drop (a.length:Int).toNat (List.take ((a.length:Int) + p.length).toNat s)=p:=by
    rw [Int.toNat_natCast,show ((a.length:Int) + p.length).toNat=(a ++ p).length by simp;omega,h,List.take_left',List.drop_left']<;>simp
   have e2:strsC done ++ [CVal.str p]=strsC (done ++ [p]):=by simp [strsC]
   simp only [d1,d2,d3,d3',d4,d5,d6,hget,br_true',br_false',Option.bind_some,Bool.and_true,w1,e1,e2]
   rw [this,cutP,if_pos rfl]
   simp
  ·have:=ih a (p ++ [c]) done (by rw [h];simp) (by simp at hl ⊢;omega)
   rw [List.length_append,List.length_singleton,Int.natCast_add,Int.cast_ofNat_Int,← Int.add_assoc] at this
   apply gl_s_l1Split_0
   unfold nl_s_l1Split_0
   have d6:decide (((c.toNat:Nat):Int)=32)=false:=decide_eq_false fun h=>hc (UInt8.toNat_inj.1 (by simpa using (by exact_mod_cast h:c.toNat=32)))
   simp only [d1,d2,d3,d6,hget,br_true',br_false',Option.bind_some,w1]
   rw [cutP,if_neg hc]
   exact this
theorem l1Split_law (s:List UInt8) (hs:s.length ≤ 1048576):CC f_s_l1Split [.v (.str s)] []=some (.sl (strsC (cutP [] s)),[]):=by
 have h:=split_loop s hs s [] [] [] (by simp) (by simpa using hs)
 apply go_s_l1Split
 unfold nf_s_l1Split
 simp only [List.length_nil,Int.cast_ofNat_Int,Int.add_zero,List.nil_append,strsC,List.map_nil] at h
 simp only [h,Option.bind_some,loK_out,beq_self_eq_true,br_true']
end Go.Proofs.YtegbnddjgifcdaaGreatDoor.Abs

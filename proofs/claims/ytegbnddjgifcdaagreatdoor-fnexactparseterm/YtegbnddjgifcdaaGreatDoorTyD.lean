/- A part. -/
import Derived.Test.YtegbnddjgifcdaaGreatDoorData
set_option linter.unusedVariables false
set_option linter.unusedSimpArgs false
set_option linter.unusedSectionVars false
set_option maxRecDepth 100000
namespace Go.Proofs.YtegbnddjgifcdaaGreatDoor.Abs
open Go Go.Proofs
theorem Ty.wt_mk {k n:Int} {l:List Ty} (hk:i64 k) (hn:i64 n) (hl:l.length ≤ 1048576) (h:∀ t ∈ l,t.wt):(Ty.mk k n l).wt:=by
 rw [Ty.wt_def];exact ⟨hk,hn,by unfold maxLen;rw [Ty.a_mk];omega,h⟩
theorem Ty.szL_le {l:List Ty} {m:Nat} (h:∀ t ∈ l,t.sz + 2 ≤ m):Ty.szL l + 2 * l.length ≤ m * l.length:=by
 induction l with
 |nil=>simp
 |cons t l ih=>
  have h1:=h t (by simp)
  have h2:=ih fun x hx=>h x (by simp [hx])
  simp only [Ty.szL_cons,List.length_cons,Nat.mul_add]
  omega
def tyD (d:Nat) (t:Ty):Prop:=t.wt∧t.sz + 2 ≤ 2 ^ (d + 1)
theorem tyD_mk {d:Nat} {k x n:Int} {l:List Ty} (hn:(l.length:Int)=n) (hx:0 ≤ x∧x ≤ 10) (hk:0 ≤ k∧k ≤ 10) (hl:l.length ≤ 2) (h:∀ t ∈ l,tyD d t):tyD (d + 1) (.mk k x l):=by
 refine ⟨Ty.wt_mk (by unfold i64;omega) (by unfold i64;omega) (by omega) fun t ht=>(h t ht).1,?_⟩
 rw [Ty.sz_def]
 have:=Ty.szL_le fun t ht=>(h t ht).2
 simp only [Ty.a_mk]
 have h4:2 ^ (d + 1 + 1)=2 * 2 ^ (d + 1):=by rw [Nat.pow_succ];omega
 have h5:2 ^ (d + 1) ≥ 2:=by have:=Nat.one_le_two_pow (n:=d);rw [Nat.pow_succ];omega
 have:l.length=0∨l.length=1∨l.length=2:=by omega
 rcases this with h | h | h<;>rw [h] at this ⊢<;>omega
end Go.Proofs.YtegbnddjgifcdaaGreatDoor.Abs

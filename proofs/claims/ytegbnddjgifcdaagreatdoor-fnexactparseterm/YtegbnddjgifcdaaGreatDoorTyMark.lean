/- A part. -/
import Derived.Test.YtegbnddjgifcdaaGreatDoorData
set_option linter.unusedVariables false
set_option linter.unusedSimpArgs false
namespace Go.Proofs.YtegbnddjgifcdaaGreatDoor.Abs
open Go Go.Proofs
mutual
def markT:Ty→Int→Ty
 |.mk _ _ a,k=>.mk k (k + 1) (markTL a (k + 2))
def markTL:List Ty→Int→List Ty
 |[],_=>[]
 |t :: r,k=>markT t k :: markTL r (k + numT t)
def numT:Ty→Nat
 |.mk _ _ a=>2 + numTL a
def numTL:List Ty→Nat
 |[]=>0
 |t :: r=>numT t + numTL r
end
mutual
theorem numT_sz:∀ t:Ty,numT t=2 + 2 * t.sz
 |.mk k n a=>by simp only [numT,Ty.sz_def,Ty.a_mk];rw [numTL_sz a]
theorem numTL_sz:∀ l:List Ty,numTL l=2 * (l.length + Ty.szL l)
 |[]=>rfl
 |t :: r=>by simp only [numTL,Ty.szL_cons,List.length_cons];rw [numT_sz t,numTL_sz r];omega
end
@[simp] theorem markTL_len:∀ (l:List Ty) (k:Int),(markTL l k).length=l.length
 |[],_=>rfl
 |t :: r,k=>by simp [markTL,markTL_len r]
end Go.Proofs.YtegbnddjgifcdaaGreatDoor.Abs

/- Marks in types: how many there are; and what names no memory. -/
import Derived.Test.YthnjnnnobipnfaaData
set_option linter.unusedVariables false
set_option linter.unusedSimpArgs false
namespace Go.Proofs.Ythnjnnnobipnfaa.Abs
open Go Go.Proofs

mutual
/-- Numbers, counted on from k, in place of all that a type holds. -/
def markT : Ty → Int → Ty
  | .mk _ _ a, k => .mk k (k + 1) (markTL a (k + 2))
def markTL : List Ty → Int → List Ty
  | [], _ => []
  | t :: r, k => markT t k :: markTL r (k + numT t)
/-- How many. -/
def numT : Ty → Nat
  | .mk _ _ a => 2 + numTL a
def numTL : List Ty → Nat
  | [] => 0
  | t :: r => numT t + numTL r
end
mutual
theorem numT_sz : ∀ t : Ty, numT t = 2 + 2 * t.sz
  | .mk k n a => by simp only [numT, Ty.sz_def, Ty.a_mk]; rw [numTL_sz a]
theorem numTL_sz : ∀ l : List Ty, numTL l = 2 * (l.length + Ty.szL l)
  | [] => rfl
  | t :: r => by simp only [numTL, Ty.szL_cons, List.length_cons]; rw [numT_sz t, numTL_sz r]; omega
end
mutual
theorem numT_mark : ∀ (t : Ty) (k : Int), numT (markT t k) = numT t
  | .mk _ _ a, k => by simp only [markT, numT]; rw [numTL_mark a]
theorem numTL_mark : ∀ (l : List Ty) (k : Int), numTL (markTL l k) = numTL l
  | [], _ => rfl
  | t :: r, k => by simp only [markTL, numTL]; rw [numT_mark t, numTL_mark r]
end
@[simp] theorem markTL_len : ∀ (l : List Ty) (k : Int), (markTL l k).length = l.length
  | [], _ => rfl
  | t :: r, k => by simp [markTL, markTL_len r]
mutual
theorem plain_enc : ∀ t : Ty, t.enc.plain = true
  | .mk k n a => by rw [Ty.enc_def]; simp [CVal.plain, plainL, plain_encL a]
theorem plain_encL : ∀ l : List Ty, plainL (l.map Ty.enc) = true
  | [] => rfl
  | t :: r => by simp [plainL, plain_enc t, plain_encL r]
end
end Go.Proofs.Ythnjnnnobipnfaa.Abs

/- Types: whether two are the same. -/
import Derived.Test.YtegbnddjgifcdaaDoorInLaws
import Derived.Test.YtegbnddjgifcdaaDoorTyFns
import Derived.Test.YtegbnddjgifcdaaDoorSlicesTy
set_option linter.unusedVariables false
set_option linter.unusedSectionVars false
set_option linter.unusedSimpArgs false
namespace Go.Proofs.YtegbnddjgifcdaaDoor.Abs
open Go Go.Proofs


namespace Ty
mutual
def same : Ty → Ty → Bool
  | .mk k n a, .mk k' n' a' => decide (k = k') && (decide (n = n') && sameL a a')
def sameL : List Ty → List Ty → Bool
  | [], [] => true
  | x :: l, y :: r => same x y && sameL l r
  | _, _ => false
end
theorem same_def (t u : Ty) : t.same u = (decide (t.k = u.k) && (decide (t.n = u.n) && sameL t.a u.a)) := by
  cases t; cases u; rw [same]; rfl
theorem sameL_all2 : ∀ (l r : List Ty), sameL l r = all2Ty same l r
  | [], [] => by rw [sameL, all2Ty]
  | [], _ :: _ => by rw [sameL, all2Ty] <;> simp
  | _ :: _, [] => by rw [sameL, all2Ty] <;> simp
  | x :: l, y :: r => by rw [sameL, all2Ty, sameL_all2 l r]
theorem sameL_len : ∀ {l r : List Ty}, l.length ≠ r.length → sameL l r = false
  | [], [], h => by simp at h
  | [], _ :: _, _ => by rw [sameL] <;> simp
  | _ :: _, [], _ => by rw [sameL] <;> simp
  | x :: l, y :: r, h => by rw [sameL, sameL_len (by simpa using h)]; simp
theorem same_iff : ∀ t : Ty, ∀ u, t.same u = true ↔ t = u := ind fun t ih u => by
  have hl : ∀ (l r : List Ty), (∀ x ∈ l, ∀ u, x.same u = true ↔ x = u) → (sameL l r = true ↔ l = r) := by
    intro l
    induction l with
    | nil => intro r _; cases r <;> simp [sameL]
    | cons x l ih => intro r h; cases r with
      | nil => simp [sameL]
      | cons y r => simp [sameL, h x (by simp) y, ih r fun z hz => h z (by simp [hz])]
  rw [same_def]
  simp only [Bool.and_eq_true, decide_eq_true_eq, hl t.a u.a ih]
  cases t; cases u; simp
end Ty

theorem SameTy_i : ∀ t : Ty, t.ok → ∀ u : Ty, CC f_i_SameTy [.v t.enc, .v u.enc] [] = some (.bool (t.same u), []) := Ty.ind fun t ih hok u => by
  have h := equalTy_law (c := .func f_i_SameTy []) (p := Ty.same) (ts := t.a) (us := u.a) hok.len fun x hx y hy => apC (cs := [x.enc, y.enc]) (by decide) rfl rfl rfl (by
    show CC f_i_SameTy [.v x.enc, .v y.enc] [] = _
    exact ih x hx (hok.part hx) y)
  rw [← Ty.sameL_all2] at h
  rw [Ty.same_def, Ty.enc_def t, Ty.enc_def u]
  apply go_i_SameTy
  unfold nf_i_SameTy
  by_cases h1 : t.k = u.k
  · by_cases h2 : t.n = u.n
    · simp [h1, h2, h]
    · simp [h1, h2]
  · simp [h1]

end Go.Proofs.YtegbnddjgifcdaaDoor.Abs

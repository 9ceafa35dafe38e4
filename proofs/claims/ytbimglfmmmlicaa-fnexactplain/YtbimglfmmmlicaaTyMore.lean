/- Types: their variables, and whether some node is so. -/
import Derived.Test.YtbimglfmmmlicaaTyLaws
import Derived.Test.YtbimglfmmmlicaaSlicesTy
set_option linter.unusedVariables false
set_option linter.unusedSectionVars false
set_option linter.unusedSimpArgs false
namespace Go.Proofs.Ytbimglfmmmlicaa.Abs
open Go Go.Proofs
open Classical

namespace Ty
def vars : Ty → Int
  | .mk k n a => (a.map vars).foldl max (if k = 3 then IntKind.i64.wrap (n + 1) else 0)
def varsL (m : Int) (l : List Ty) : Int := (l.map vars).foldl max m
theorem vars_def (t : Ty) : t.vars = varsL (if t.k = 3 then IntKind.i64.wrap (t.n + 1) else 0) t.a := by cases t; rw [vars]; rfl
@[simp] theorem varsL_nil {m : Int} : varsL m [] = m := rfl
@[simp] theorem varsL_cons {m : Int} {t : Ty} {l : List Ty} : varsL m (t :: l) = varsL (max m t.vars) l := rfl
def any (p : Ty → Bool) : Ty → Bool
  | .mk k n a => p (.mk k n a) || (a.map (any p)).any id
theorem any_def (p : Ty → Bool) (t : Ty) : t.any p = (p t || t.a.any (any p)) := by
  cases t with | mk k n a => rw [any, List.any_map]; rfl
theorem varsL_ge {l : List Ty} : ∀ {m : Int}, m ≤ varsL m l := by
  induction l with
  | nil => intro m; simp
  | cons t l ih => intro m; have := ih (m := max m t.vars); simp only [varsL_cons]; omega
theorem varsL_zero {l : List Ty} : ∀ {m : Int}, 0 ≤ m → (∀ t ∈ l, 0 ≤ t.vars) → (varsL m l = 0 ↔ m = 0 ∧ ∀ t ∈ l, t.vars = 0) := by
  induction l with
  | nil => intro m _ _; simp
  | cons t l ih =>
    intro m hm h
    have h1 := h t (by simp)
    rw [varsL_cons, ih (by omega) fun u hu => h u (by simp [hu])]
    simp only [List.mem_cons, forall_eq_or_imp]
    constructor
    · rintro ⟨a, b⟩; exact ⟨by omega, by omega, b⟩
    · rintro ⟨a, b, c⟩; exact ⟨by omega, c⟩
theorem good.vars : ∀ t : Ty, t.good → 0 ≤ t.vars ∧ (t.vars = 0 ↔ t.any (fun x => decide (x.k = 3)) = false) := ind fun t ih hg => by
  obtain ⟨hh, hp⟩ := (good_def t).1 hg
  have h0 : 0 ≤ (if t.k = 3 then IntKind.i64.wrap (t.n + 1) else 0) ∧ ((if t.k = 3 then IntKind.i64.wrap (t.n + 1) else 0) = 0 ↔ ¬ t.k = 3) := by
    by_cases h3 : t.k = 3
    · have : t.n = 0 ∨ t.n = 1 := by rcases hh.2 with h | h; exact .inl h; exact .inr h.2
      rcases this with h | h <;> simp [h3, h, IntKind.wrap, IntKind.signed, IntKind.bits]
    · simp [h3]
  have hz := varsL_zero h0.1 fun u hu => (ih u hu (hp u hu)).1
  rw [vars_def, any_def]
  refine ⟨Int.le_trans h0.1 varsL_ge, ?_⟩
  rw [hz, h0.2]
  simp only [Bool.or_eq_false_iff, decide_eq_false_iff_not, List.any_eq_false]
  constructor
  · rintro ⟨a, b⟩
    exact ⟨a, fun u hu => by simpa using ((ih u hu (hp u hu)).2.1 (b u hu))⟩
  · rintro ⟨a, b⟩
    exact ⟨a, fun u hu => (ih u hu (hp u hu)).2.2 (by simpa using b u hu)⟩
end Ty

theorem maxE (m n : Int) : (bif decide (m < n) then n else m) = max m n := by
  by_cases h : m < n
  · simp [h]; omega
  · simp [h]; omega

/-! Whether some node is so. -/

end Go.Proofs.Ytbimglfmmmlicaa.Abs

/- Terms: whether some node is so. -/
import Derived.Test.YtbimglfmmmlicaaTermLaws
import Derived.Test.YtbimglfmmmlicaaTyMore
set_option linter.unusedVariables false
set_option linter.unusedSectionVars false
set_option linter.unusedSimpArgs false
namespace Go.Proofs.Ytbimglfmmmlicaa.Abs
open Go Go.Proofs
open Classical

namespace Term
def any (p : Term → Bool) : Term → Bool
  | .mk k n s z t ts a => p (.mk k n s z t ts a) || (a.map (any p)).any id
theorem any_def (p : Term → Bool) (t : Term) : t.any p = (p t || t.a.any (any p)) := by
  cases t with | mk k n s z t ts a => rw [any, List.any_map]; rfl
/-- What holds of a right node tells of all right ones. -/
theorem any_congr {p q : Term → Bool} (h : ∀ t : Term, t.head = true → p t = q t) : ∀ t : Term, t.good → t.any p = t.any q := ind fun t ih hg => by
  obtain ⟨h1, h2⟩ := (good_def t).1 hg
  rw [any_def, any_def, h t h1]
  congr 1
  have : ∀ l : List Term, (∀ u ∈ l, u.any p = u.any q) → l.any (any p) = l.any (any q) := by
    intro l
    induction l with
    | nil => intro _; rfl
    | cons u l ih => intro h; rw [List.any_cons, List.any_cons, h u (by simp), ih fun v hv => h v (by simp [hv])]
  exact this t.a fun u hu => ih u hu (h2 u hu)
theorem any_of_ok {p q : Term → Bool} (h : ∀ t : Term, t.ok → p t = q t) : ∀ t : Term, t.ok → t.any p = t.any q := ind fun t ih hok => by
  rw [any_def, any_def, h t hok]
  congr 1
  have : ∀ l : List Term, (∀ u ∈ l, u.any p = u.any q) → l.any (any p) = l.any (any q) := by
    intro l
    induction l with
    | nil => intro _; rfl
    | cons u l ih => intro h; rw [List.any_cons, List.any_cons, h u (by simp), ih fun v hv => h v (by simp [hv])]
  exact this t.a fun u hu => ih u hu (hok.a hu)
end Term

theorem anyTerm_law {g : Nat} {caps : List CVal} {p : Term → Bool} : ∀ t : Term, (∀ u : Term, u.ok → CC apId [.v (.func g caps), .v u.enc] [] = some (.bool (p u), [])) → t.ok →
    CC f_i_anyTerm [.v t.enc, .v (.func g caps)] [] = some (.bool (t.any p), []) := fun t hall => by
  revert t
  refine Term.ind fun t ih hok => ?_
  have h1 : ∀ u ∈ t.a, CC apId [.v (.func f_i_anyTerm_1 [.fp (.func g caps) 0]), .v u.enc] [] = some (.bool (u.any p), []) := by
    intro u hu
    refine apC (cs := [u.enc]) (by decide) rfl rfl rfl ?_
    have := ih u hu (hok.a hu)
    show CC f_i_anyTerm_1 [.v u.enc, .v (.fp (.func g caps) 0)] [] = _
    rw [Term.enc_def]
    apply go_i_anyTerm_1
    unfold nf_i_anyTerm_1
    simp only [Term.enc_eta, cell_func, Option.bind_some, this]
  have h2 := containsTerm_law hok.a_len h1
  have h3 := hall t hok
  rw [Term.any_def]
  rw [Term.enc_def]
  apply go_i_anyTerm
  unfold nf_i_anyTerm
  simp only [Term.enc_eta, cell_func, Option.bind_some, h3, h2, asBool_bool, cond_false]
  cases p t <;> rfl
end Go.Proofs.Ytbimglfmmmlicaa.Abs

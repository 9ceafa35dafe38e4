/- Types: their variables, and whether some node is so. -/
import Derived.Test.YtegbnddjgifcdaaDoorTyLaws
import Derived.Test.YtegbnddjgifcdaaDoorSlicesTy
set_option linter.unusedVariables false
set_option linter.unusedSectionVars false
set_option linter.unusedSimpArgs false
namespace Go.Proofs.YtegbnddjgifcdaaDoor.Abs
open Go Go.Proofs
open Classical

namespace Ty
def vars : Ty → Int
  | .mk k n a => (a.map vars).foldl max (if k = 3 then IntKind.i64.wrap (n + 1) else 0)
def varsL (m : Int) (l : List Ty) : Int := (l.map vars).foldl max m
theorem vars_def (t : Ty) : t.vars = varsL (if t.k = 3 then IntKind.i64.wrap (t.n + 1) else 0) t.a := by cases t; rw [vars]; rfl
@[simp] theorem varsL_nil {m : Int} : varsL m [] = m := rfl
@[simp] theorem varsL_cons {m : Int} {t : Ty} {l : List Ty} : varsL m (t :: l) = varsL (max m t.vars) l := rfl
def any (p : Ty → Bool) : Ty → Bool
  | .mk k n a => p (.mk k n a) || (a.map (any p)).any id
theorem any_def (p : Ty → Bool) (t : Ty) : t.any p = (p t || t.a.any (any p)) := by
  cases t with | mk k n a => rw [any, List.any_map]; rfl
theorem varsL_ge {l : List Ty} : ∀ {m : Int}, m ≤ varsL m l := by
  induction l with
  | nil => intro m; simp
  | cons t l ih => intro m; have := ih (m := max m t.vars); simp only [varsL_cons]; omega
theorem varsL_zero {l : List Ty} : ∀ {m : Int}, 0 ≤ m → (∀ t ∈ l, 0 ≤ t.vars) → (varsL m l = 0 ↔ m = 0 ∧ ∀ t ∈ l, t.vars = 0) := by
  induction l with
  | nil => intro m _ _; simp
  | cons t l ih =>
    intro m hm h
    have h1 := h t (by simp)
    rw [varsL_cons, ih (by omega) fun u hu => h u (by simp [hu])]
    simp only [List.mem_cons, forall_eq_or_imp]
    constructor
    · rintro ⟨a, b⟩; exact ⟨by omega, by omega, b⟩
    · rintro ⟨a, b, c⟩; exact ⟨by omega, c⟩
theorem good.vars : ∀ t : Ty, t.good → 0 ≤ t.vars ∧ (t.vars = 0 ↔ t.any (fun x => decide (x.k = 3)) = false) := ind fun t ih hg => by
  obtain ⟨hh, hp⟩ := (good_def t).1 hg
  have h0 : 0 ≤ (if t.k = 3 then IntKind.i64.wrap (t.n + 1) else 0) ∧ ((if t.k = 3 then IntKind.i64.wrap (t.n + 1) else 0) = 0 ↔ ¬ t.k = 3) := by
    by_cases h3 : t.k = 3
    · have : t.n = 0 ∨ t.n = 1 := by rcases hh.2 with h | h; exact .inl h; exact .inr h.2
      rcases this with h | h <;> simp [h3, h, IntKind.wrap, IntKind.signed, IntKind.bits]
    · simp [h3]
  have hz := varsL_zero h0.1 fun u hu => (ih u hu (hp u hu)).1
  rw [vars_def, any_def]
  refine ⟨Int.le_trans h0.1 varsL_ge, ?_⟩
  rw [hz, h0.2]
  simp only [Bool.or_eq_false_iff, decide_eq_false_iff_not, List.any_eq_false]
  constructor
  · rintro ⟨a, b⟩
    exact ⟨a, fun u hu => by simpa using ((ih u hu (hp u hu)).2.1 (b u hu))⟩
  · rintro ⟨a, b⟩
    exact ⟨a, fun u hu => (ih u hu (hp u hu)).2.2 (by simpa using b u hu)⟩
end Ty

theorem maxE (m n : Int) : (bif decide (m < n) then n else m) = max m n := by
  by_cases h : m < n
  · simp [h]; omega
  · simp [h]; omega

theorem vars_i_loop : ∀ (suf pre : List Ty) (m : Int), (pre ++ suf).length ≤ 1048576 → (∀ t ∈ suf, CC f_i_varsOf [.v t.enc] [] = some (.int .i64 t.vars, [])) →
    LL f_i_varsOf 0 lc_i_varsOf_0 [] k_i_varsOf_0 ((m, (pre ++ suf).map Ty.enc, ((pre ++ suf).length : Int), (pre.length : Int), ()), ()) =
      some (.out 0 ((Ty.varsL m suf, (pre ++ suf).map Ty.enc, ((pre ++ suf).length : Int), ((pre ++ suf).length : Int), ()), ()))
  | [], pre, m, hl, h => by
    apply gl_i_varsOf_0
    unfold nl_i_varsOf_0
    rw [lt_end']
    simp
  | t :: suf, pre, m, hl, h => by
    apply gl_i_varsOf_0
    unfold nl_i_varsOf_0
    have ih := vars_i_loop suf (pre ++ [t]) (max m t.vars) (by simpa using hl) (fun u hu => h u (by simp [hu]))
    simp only [List.append_assoc, List.singleton_append] at ih
    rw [lt_mid', nn_mid, get_mid, wrap_mid pre suf t hl]
    simp only [br_true', Option.bind_some, Ty.enc_fits, Ty.enc_sub, Ty.enc_isAggN, Ty.enc_cell0, Ty.enc_cell1, Ty.enc_cell2, Ty.enc_eta, h t (by simp), asInt_int, maxE]
    exact ih
theorem vars_i : ∀ t : Ty, t.ok → CC f_i_varsOf [.v t.enc] [] = some (.int .i64 t.vars, []) := Ty.ind fun t ih hok => by
  have hloop := fun m => vars_i_loop t.a [] m (by simpa using hok.len) fun u hu => ih u hu (hok.part hu)
  simp only [List.nil_append, List.length_nil, Int.cast_ofNat_Int] at hloop
  rw [Ty.vars_def, Ty.enc_def]
  apply go_i_varsOf
  unfold nf_i_varsOf
  simp only [List.length_map, hloop, br_decide]
  split <;> rfl

theorem VarsOf_i {t : Ty} (hok : t.ok) : CC f_i_VarsOf [.v t.enc] [] = some (.int .i64 (if t.right then t.vars else 0), []) := by
  have h := TyOk_i hok
  have h2 := vars_i t hok
  rw [Ty.enc_def] at h h2 ⊢
  apply go_i_VarsOf
  unfold nf_i_VarsOf
  simp only [h, h2, Option.bind_some, asBool_bool, br_not, br_decide]
  split <;> rfl
/-! Whether some node is so. -/

theorem anyTy_law {g : Nat} {caps : List CVal} {p : Ty → Bool} : ∀ t : Ty, (∀ u : Ty, u.ok → CC apId [.v (.func g caps), .v u.enc] [] = some (.bool (p u), [])) → t.ok →
    CC f_i_anyTy [.v t.enc, .v (.func g caps)] [] = some (.bool (t.any p), []) := fun t hall => by
  revert t
  refine Ty.ind fun t ih hok => ?_
  have h1 : ∀ u ∈ t.a, CC apId [.v (.func f_i_anyTy_1 [.fp (.func g caps) 0]), .v u.enc] [] = some (.bool (u.any p), []) := by
    intro u hu
    refine apC (cs := [u.enc]) (by decide) rfl rfl rfl ?_
    have := ih u hu (hok.part hu)
    rw [Ty.enc_def] at this
    show CC f_i_anyTy_1 [.v u.enc, .v (.fp (.func g caps) 0)] [] = _
    rw [Ty.enc_def]
    apply go_i_anyTy_1
    unfold nf_i_anyTy_1
    simp only [cell_func, Option.bind_some, this]
  have h2 := containsTy_law hok.len h1
  have h3 := hall t hok
  rw [Ty.any_def]
  rw [Ty.enc_def] at h3 ⊢
  apply go_i_anyTy
  unfold nf_i_anyTy
  simp only [cell_func, Option.bind_some, h3, h2, asBool_bool, cond_false]
  cases p t <;> rfl

theorem Ground_i {t : Ty} (hok : t.ok) : CC f_i_Ground [.v t.enc] [] = some (.bool (decide (t.right ∧ t.vars = 0)), []) := by
  have h := TyOk_i hok
  have h2 := anyTy_law (g := f_i_Ground_1) (caps := []) (p := fun x => decide (x.k = 3)) t (fun u hu => by
    refine apC (cs := [u.enc]) (by decide) rfl rfl rfl ?_
    show CC f_i_Ground_1 [.v u.enc] [] = _
    rw [Ty.enc_def]
    apply go_i_Ground_1
    rfl) hok
  have hv := fun hr : t.right => (Ty.good.vars t hr.1).2
  rw [Ty.enc_def] at h h2 ⊢
  apply go_i_Ground
  unfold nf_i_Ground
  simp only [h, h2, Option.bind_some, asBool_bool, br_decide]
  by_cases hr : t.right
  · have hv := hv hr
    simp only [hr, if_true, Option.bind_some, true_and]
    by_cases h0 : t.vars = 0
    · simp [h0, hv.1 h0]
    · have : t.any (fun x => decide (x.k = 3)) = true := by
        cases hb : t.any (fun x => decide (x.k = 3)) with
        | true => rfl
        | false => exact (h0 (hv.2 hb)).elim
      simp [h0, this]
  · simp [hr]
end Go.Proofs.YtegbnddjgifcdaaDoor.Abs

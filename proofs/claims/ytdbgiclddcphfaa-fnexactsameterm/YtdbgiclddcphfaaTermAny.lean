/- Terms: whether some node is so. -/
import Derived.Test.YtdbgiclddcphfaaTermLaws
import Derived.Test.YtdbgiclddcphfaaTyMore
set_option linter.unusedVariables false
set_option linter.unusedSectionVars false
set_option linter.unusedSimpArgs false
namespace Go.Proofs.Ytdbgiclddcphfaa.Abs
open Go Go.Proofs
open Classical

namespace Term
def any (p : Term → Bool) : Term → Bool
  | .mk k n s z t ts a => p (.mk k n s z t ts a) || (a.map (any p)).any id
theorem any_def (p : Term → Bool) (t : Term) : t.any p = (p t || t.a.any (any p)) := by
  cases t with | mk k n s z t ts a => rw [any, List.any_map]; rfl
/-- What holds of a right node tells of all right ones. -/
theorem any_congr {p q : Term → Bool} (h : ∀ t : Term, t.head = true → p t = q t) : ∀ t : Term, t.good → t.any p = t.any q := ind fun t ih hg => by
  obtain ⟨h1, h2⟩ := (good_def t).1 hg
  rw [any_def, any_def, h t h1]
  congr 1
  have : ∀ l : List Term, (∀ u ∈ l, u.any p = u.any q) → l.any (any p) = l.any (any q) := by
    intro l
    induction l with
    | nil => intro _; rfl
    | cons u l ih => intro h; rw [List.any_cons, List.any_cons, h u (by simp), ih fun v hv => h v (by simp [hv])]
  exact this t.a fun u hu => ih u hu (h2 u hu)
theorem any_of_ok {p q : Term → Bool} (h : ∀ t : Term, t.ok → p t = q t) : ∀ t : Term, t.ok → t.any p = t.any q := ind fun t ih hok => by
  rw [any_def, any_def, h t hok]
  congr 1
  have : ∀ l : List Term, (∀ u ∈ l, u.any p = u.any q) → l.any (any p) = l.any (any q) := by
    intro l
    induction l with
    | nil => intro _; rfl
    | cons u l ih => intro h; rw [List.any_cons, List.any_cons, h u (by simp), ih fun v hv => h v (by simp [hv])]
  exact this t.a fun u hu => ih u hu (hok.a hu)
end Term

theorem anyTerm_law {g : Nat} {caps : List CVal} {p : Term → Bool} : ∀ t : Term, (∀ u : Term, u.ok → CC apId [.v (.func g caps), .v u.enc] [] = some (.bool (p u), [])) → t.ok →
    CC f_i_anyTerm [.v t.enc, .v (.func g caps)] [] = some (.bool (t.any p), []) := fun t hall => by
  revert t
  refine Term.ind fun t ih hok => ?_
  have h1 : ∀ u ∈ t.a, CC apId [.v (.func f_i_anyTerm_1 [.fp (.func g caps) 0]), .v u.enc] [] = some (.bool (u.any p), []) := by
    intro u hu
    refine apC (cs := [u.enc]) (by decide) rfl rfl ?_
    have := ih u hu (hok.a hu)
    show CC f_i_anyTerm_1 [.v u.enc, .v (.fp (.func g caps) 0)] [] = _
    rw [Term.enc_def]
    apply go_i_anyTerm_1
    unfold nf_i_anyTerm_1
    simp only [Term.enc_eta, cell_func, Option.bind_some, this]
  have h2 := containsTerm_law hok.a_len h1
  have h3 := hall t hok
  rw [Term.any_def]
  rw [Term.enc_def]
  apply go_i_anyTerm
  unfold nf_i_anyTerm
  simp only [Term.enc_eta, cell_func, Option.bind_some, h3, h2, asBool_bool, cond_false]
  cases p t <;> rfl
/-- A node that is not for one type alone. -/
noncomputable def polyB (t : Term) : Bool := ((decide (t.k = 6) || decide (t.k = 7)) && decide (0 < t.n)) || (decide (0 < t.ts.length) || decide (0 < t.t.vars))
theorem poly_eq {t : Term} (h : t.head = true) : (((decide (t.k = 6) || decide (t.k = 7)) && decide (0 < t.n)) || (decide (0 < t.ts.length) || (hasT t.k && !decide (t.t.right ∧ t.t.vars = 0)))) = polyB t := by
  unfold polyB
  unfold Term.head at h
  simp only [Bool.and_eq_true] at h
  obtain ⟨_, _, _, _, hT, hz, _⟩ := h
  congr 2
  cases ht : hasT t.k with
  | true =>
    rw [ht] at hT
    have hr : t.t.right := by
      have : t.t.rightB = true := by cases hh : t.t.rightB <;> simp [hh] at hT ⊢
      simpa [Ty.rightB] using this
    have hv := (Ty.good.vars t.t hr.1).1
    by_cases h0 : t.t.vars = 0
    · simp [hr, h0]
    · have : 0 < t.t.vars := by omega
      simp [h0, this]
  | false =>
    rw [ht] at hz
    have : t.t = Ty.zero := (Ty.same_iff t.t Ty.zero).1 (by simpa using hz)
    rw [this]
    have : Ty.zero.vars = 0 := by rw [Ty.vars_def]; rfl
    simp [this]
theorem mono_node {t : Term} (hok : t.ok) : CC f_i_IsMono_1 [.v t.enc] [] = some (.bool (((decide (t.k = 6) || decide (t.k = 7)) && decide (0 < t.n)) || (decide (0 < t.ts.length) || (hasT t.k && !decide (t.t.right ∧ t.t.vars = 0)))), []) := by
  have h := Ground_i hok.t
  have hl : decide ((0 : Int) < (((t.ts.map Ty.enc).length : Nat) : Int)) = decide (0 < t.ts.length) := by
    rw [List.length_map]; by_cases h : 0 < t.ts.length
    · rw [decide_eq_true h, decide_eq_true (by omega)]
    · rw [decide_eq_false h, decide_eq_false (by omega)]
  rw [Term.enc_def]
  apply go_i_IsMono_1
  unfold nf_i_IsMono_1
  simp only [Ty.enc_eta, h, hasT_i, hl, Option.bind_some, asBool_bool]
  cases decide (t.k = 6) <;> cases decide (t.k = 7) <;> cases decide (0 < t.n) <;> cases decide (0 < t.ts.length) <;> cases hasT t.k <;> simp
theorem IsMono_i {t : Term} (hok : t.ok) : CC f_i_IsMono [.v t.enc] [] = some (.bool (decide t.right && !t.any polyB), []) := by
  have h := TermOk_i hok
  have h2 := anyTerm_law (g := f_i_IsMono_1) (caps := []) t (fun u hu => apC (cs := [u.enc]) (by decide) rfl rfl (mono_node hu)) hok
  rw [Term.enc_def]
  apply go_i_IsMono
  unfold nf_i_IsMono
  simp only [Term.enc_eta, h, h2, Option.bind_some, asBool_bool]
  by_cases hr : t.right
  · rw [Term.any_congr (fun u hu => poly_eq hu) t hr.1]
    simp [hr]
  · simp [hr]
theorem l5Mono_loop (p0 p1 : Int) (p2 p3 : List UInt8) (p4 p5 : Int) (p6 p7 : List CVal) : ∀ (suf pre : List Term), (pre ++ suf).length ≤ 1048576 → (∀ t ∈ suf, CC f_s_l5Mono [.v t.enc] [] = some (.bool (!t.any polyB), [])) →
    ∃ q, LL f_s_l5Mono 0 lc_s_l5Mono_0 [] k_s_l5Mono_0 (((), (pre.length : Int), ()), (p0, p1, p2, p3, p4, p5, p6, p7, (pre ++ suf).map Term.enc, ()), ()) =
      some (bif suf.any (Term.any polyB) then .ret (.bool false, []) else .out 0 q)
  | [], pre, hl, h => by
    refine ⟨(((), (pre.length : Int), ()), (p0, p1, p2, p3, p4, p5, p6, p7, (pre ++ []).map Term.enc, ()), ()), ?_⟩
    apply gl_s_l5Mono_0
    unfold nl_s_l5Mono_0
    rw [lt_end]; rfl
  | t :: suf, pre, hl, h => by
    obtain ⟨q, ih⟩ := l5Mono_loop p0 p1 p2 p3 p4 p5 p6 p7 suf (pre ++ [t]) (by simpa using hl) (fun u hu => h u (by simp [hu]))
    simp only [List.append_assoc, List.singleton_append] at ih
    refine ⟨q, ?_⟩
    apply gl_s_l5Mono_0
    unfold nl_s_l5Mono_0
    rw [lt_mid, nn_mid, get_mid, wrap_mid pre suf t hl]
    simp only [br_true', Option.bind_some, Term.enc_fits, Term.enc_sub, h t (by simp), asBool_bool, List.any_cons]
    cases t.any polyB with
    | true => rfl
    | false =>
      simp only [Bool.not_false, Bool.not_true, br_false', Bool.false_or]
      exact ih
theorem l5Mono_law : ∀ t : Term, t.ok → CC f_s_l5Mono [.v t.enc] [] = some (.bool (!t.any polyB), []) := Term.ind fun t ih hok => by
  obtain ⟨q, hloop⟩ := l5Mono_loop t.k t.n t.s t.z t.t.k t.t.n (t.t.a.map Ty.enc) (t.ts.map Ty.enc) t.a [] (by simpa using hok.a_len) fun u hu => ih u hu (hok.a hu)
  simp only [List.nil_append, List.length_nil, Int.cast_ofNat_Int] at hloop
  have hl : decide ((0 : Int) < (((t.ts.map Ty.enc).length : Nat) : Int)) = decide (0 < t.ts.length) := by
    rw [List.length_map]; by_cases h : 0 < t.ts.length
    · rw [decide_eq_true h, decide_eq_true (by omega)]
    · rw [decide_eq_false h, decide_eq_false (by omega)]
  rw [Term.any_def, Term.enc_def]
  apply go_s_l5Mono
  unfold nf_s_l5Mono
  simp only [Ty.enc_eta, vars_s t.t hok.t, hl, hloop, Option.bind_some, asBool_bool, asInt_int]
  have e : polyB t = (((decide (t.k = 6) || decide (t.k = 7)) && decide (0 < t.n)) || (decide (0 < t.ts.length) || decide (0 < t.t.vars))) := rfl
  rw [e]
  cases decide (t.k = 6) <;> cases decide (t.k = 7) <;> cases decide (0 < t.n) <;> cases decide (0 < t.ts.length) <;> cases decide (0 < t.t.vars) <;> cases t.a.any (Term.any polyB) <;> rfl
theorem IsMono_s {t : Term} (hok : t.ok) : CC f_s_IsMono [.v t.enc] [] = some (.bool (decide t.right && !t.any polyB), []) := by
  have h := TermOk_s hok
  have h2 := l5Mono_law t hok
  rw [Term.enc_def]
  apply go_s_IsMono
  unfold nf_s_IsMono
  simp only [Term.enc_eta, h, h2, Option.bind_some, asBool_bool, cond_true]
  by_cases hr : t.right <;> simp [hr]
end Go.Proofs.Ytdbgiclddcphfaa.Abs

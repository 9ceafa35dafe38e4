/- Terms: whether two are the same. -/
import Derived.Test.YtdbgiclddcphfaaTermFns
import Derived.Test.YtdbgiclddcphfaaTySame
import Derived.Test.YtdbgiclddcphfaaSlicesTerm
set_option linter.unusedVariables false
set_option linter.unusedSectionVars false
set_option linter.unusedSimpArgs false
namespace Go.Proofs.Ytdbgiclddcphfaa.Abs
open Go Go.Proofs

namespace Term
mutual
def same : Term → Term → Bool
  | .mk k n s z t ts a, .mk k' n' s' z' t' ts' a' => decide (k = k') && (decide (n = n') && (decide (s = s') && (decide (z = z') && (t.same t' && (Ty.sameL ts ts' && sameL a a')))))
def sameL : List Term → List Term → Bool
  | [], [] => true
  | x :: l, y :: r => same x y && sameL l r
  | _, _ => false
end
theorem same_def (t u : Term) : t.same u = (decide (t.k = u.k) && (decide (t.n = u.n) && (decide (t.s = u.s) && (decide (t.z = u.z) && (t.t.same u.t && (Ty.sameL t.ts u.ts && sameL t.a u.a)))))) := by
  cases t; cases u; rw [same]; rfl
theorem sameL_all2 : ∀ (l r : List Term), sameL l r = all2Term same l r
  | [], [] => by rw [sameL, all2Term]
  | [], _ :: _ => by rw [sameL, all2Term] <;> simp
  | _ :: _, [] => by rw [sameL, all2Term] <;> simp
  | x :: l, y :: r => by rw [sameL, all2Term, sameL_all2 l r]
theorem sameL_len : ∀ {l r : List Term}, l.length ≠ r.length → sameL l r = false
  | [], [], h => by simp at h
  | [], _ :: _, _ => by rw [sameL] <;> simp
  | _ :: _, [], _ => by rw [sameL] <;> simp
  | x :: l, y :: r, h => by rw [sameL, sameL_len (by simpa using h)]; simp
end Term

theorem SameTerm_i : ∀ t : Term, t.ok → ∀ u : Term, CC f_i_SameTerm [.v t.enc, .v u.enc] [] = some (.bool (t.same u), []) := Term.ind fun t ih hok u => by
  have h := equalTerm_law (c := .func f_i_SameTerm []) (p := Term.same) (ts := t.a) (us := u.a) hok.a_len fun x hx y hy => apC (cs := [x.enc, y.enc]) (by decide) rfl rfl (by
    show CC f_i_SameTerm [.v x.enc, .v y.enc] [] = _
    exact ih x hx (hok.a hx) y)
  have h2 := equalTy_law (c := .func f_i_SameTy []) (p := Ty.same) (ts := t.ts) (us := u.ts) hok.ts_len fun x hx y hy => apC (cs := [x.enc, y.enc]) (by decide) rfl rfl (by
    show CC f_i_SameTy [.v x.enc, .v y.enc] [] = _
    exact SameTy_i x (hok.ts hx) y)
  have h3 := SameTy_i t.t hok.t u.t
  rw [← Term.sameL_all2] at h
  rw [← Ty.sameL_all2] at h2
  rw [Term.same_def, Term.enc_def t, Term.enc_def u]
  apply go_i_SameTerm
  unfold nf_i_SameTerm
  simp only [Ty.enc_eta, h, h2, h3, Option.bind_some, cond_true, asBool_bool]
  cases decide (t.k = u.k) <;> cases decide (t.n = u.n) <;> cases decide (t.s = u.s) <;> cases decide (t.z = u.z) <;> cases t.t.same u.t <;> cases Ty.sameL t.ts u.ts <;> rfl

theorem SameTerm_s_loop0 (p0 p1 : Int) (p2 p3 : List UInt8) (p4 p5 : Int) (p6 p8 : List CVal) (q0 q1 : Int) (q2 q3 : List UInt8) (q4 q5 : Int) (q6 q8 : List CVal) : ∀ (suf pre suf' pre' : List Ty), (pre ++ suf).length ≤ 1048576 → pre.length = pre'.length → suf.length = suf'.length → (∀ t ∈ suf, t.ok) →
    ∃ q, LL f_s_SameTerm 0 lc_s_SameTerm_0 [] k_s_SameTerm_0 (((), (), (pre.length : Int), ()), (p0, p1, p2, p3, p4, p5, p6, (pre ++ suf).map Ty.enc, p8, ()), (q0, q1, q2, q3, q4, q5, q6, (pre' ++ suf').map Ty.enc, q8, ()), ()) =
      some (bif Ty.sameL suf suf' then .out 0 (((), (), q, ()), (p0, p1, p2, p3, p4, p5, p6, (pre ++ suf).map Ty.enc, p8, ()), (q0, q1, q2, q3, q4, q5, q6, (pre' ++ suf').map Ty.enc, q8, ()), ()) else .ret (.bool false, []))
  | [], pre, [], pre', hl, hp, hs, h => by
    refine ⟨(pre.length : Int), ?_⟩
    apply gl_s_SameTerm_0
    unfold nl_s_SameTerm_0
    rw [lt_end, Ty.sameL]; rfl
  | [], pre, _ :: _, pre', hl, hp, hs, h => by simp at hs
  | _ :: _, pre, [], pre', hl, hp, hs, h => by simp at hs
  | t :: suf, pre, u :: suf', pre', hl, hp, hs, h => by
    obtain ⟨q, ih⟩ := SameTerm_s_loop0 p0 p1 p2 p3 p4 p5 p6 p8 q0 q1 q2 q3 q4 q5 q6 q8 suf (pre ++ [t]) suf' (pre' ++ [u]) (by simpa using hl) (by simp [hp]) (by simpa using hs) (fun x hx => h x (by simp [hx]))
    simp only [List.append_assoc, List.singleton_append] at ih
    refine ⟨q, ?_⟩
    apply gl_s_SameTerm_0
    unfold nl_s_SameTerm_0
    have e : ((pre' ++ u :: suf').map Ty.enc)[((pre.length : Nat) : Int).toNat]? = some u.enc := by rw [hp]; exact get_mid _ _ _ _
    rw [lt_mid, nn_mid, get_mid, wrap_mid pre suf t hl, e]
    simp only [br_true', Option.bind_some, Ty.enc_fits, Ty.enc_sub, SameTy_s t (h t (by simp)) u, asBool_bool, Ty.sameL]
    cases t.same u with
    | true =>
      simp only [Bool.not_true, br_false', Bool.true_and]
      exact ih
    | false => rfl
theorem SameTerm_s_loop2 (p0 p1 : Int) (p2 p3 : List UInt8) (p4 p5 : Int) (p6 p7 : List CVal) (q0 q1 : Int) (q2 q3 : List UInt8) (q4 q5 : Int) (q6 q7 : List CVal) : ∀ (suf pre suf' pre' : List Term), (pre ++ suf).length ≤ 1048576 → pre.length = pre'.length → suf.length = suf'.length → (∀ t ∈ suf, ∀ u, CC f_s_SameTerm [.v t.enc, .v u.enc] [] = some (.bool (t.same u), [])) →
    ∃ q, LL f_s_SameTerm 2 lc_s_SameTerm_2 [] k_s_SameTerm_2 (((), (), (pre.length : Int), ()), (p0, p1, p2, p3, p4, p5, p6, p7, (pre ++ suf).map Term.enc, ()), (q0, q1, q2, q3, q4, q5, q6, q7, (pre' ++ suf').map Term.enc, ()), ()) =
      some (bif Term.sameL suf suf' then .out 2 q else .ret (.bool false, []))
  | [], pre, [], pre', hl, hp, hs, h => by
    refine ⟨(((), (), (pre.length : Int), ()), (p0, p1, p2, p3, p4, p5, p6, p7, (pre ++ []).map Term.enc, ()), (q0, q1, q2, q3, q4, q5, q6, q7, (pre' ++ []).map Term.enc, ()), ()), ?_⟩
    apply gl_s_SameTerm_2
    unfold nl_s_SameTerm_2
    rw [lt_end, Term.sameL]; rfl
  | [], pre, _ :: _, pre', hl, hp, hs, h => by simp at hs
  | _ :: _, pre, [], pre', hl, hp, hs, h => by simp at hs
  | t :: suf, pre, u :: suf', pre', hl, hp, hs, h => by
    obtain ⟨q, ih⟩ := SameTerm_s_loop2 p0 p1 p2 p3 p4 p5 p6 p7 q0 q1 q2 q3 q4 q5 q6 q7 suf (pre ++ [t]) suf' (pre' ++ [u]) (by simpa using hl) (by simp [hp]) (by simpa using hs) (fun x hx y => h x (by simp [hx]) y)
    simp only [List.append_assoc, List.singleton_append] at ih
    refine ⟨q, ?_⟩
    apply gl_s_SameTerm_2
    unfold nl_s_SameTerm_2
    have e : ((pre' ++ u :: suf').map Term.enc)[((pre.length : Nat) : Int).toNat]? = some u.enc := by rw [hp]; exact get_mid _ _ _ _
    rw [lt_mid, nn_mid, get_mid, wrap_mid pre suf t hl, e]
    simp only [br_true', Option.bind_some, Term.enc_fits, Term.enc_sub, h t (by simp) u, asBool_bool, Term.sameL]
    cases t.same u with
    | true =>
      simp only [Bool.not_true, br_false', Bool.true_and]
      exact ih
    | false => rfl
theorem SameTerm_s : ∀ t : Term, t.ok → ∀ u : Term, CC f_s_SameTerm [.v t.enc, .v u.enc] [] = some (.bool (t.same u), []) := Term.ind fun t ih hok u => by
  have h3 := SameTy_s t.t hok.t u.t
  rw [Term.same_def, Term.enc_def t, Term.enc_def u]
  apply go_s_SameTerm
  unfold nf_s_SameTerm
  simp only [Ty.enc_eta, h3, Option.bind_some, asBool_bool]
  have hd1 : decide ((((t.ts.map Ty.enc).length : Nat) : Int) = (((u.ts.map Ty.enc).length : Nat) : Int)) = decide (t.ts.length = u.ts.length) := by
    rw [List.length_map, List.length_map]
    by_cases h : t.ts.length = u.ts.length
    · simp [h]
    · rw [decide_eq_false h, decide_eq_false (by omega)]
  have hd2 : decide ((((t.a.map Term.enc).length : Nat) : Int) = (((u.a.map Term.enc).length : Nat) : Int)) = decide (t.a.length = u.a.length) := by
    rw [List.length_map, List.length_map]
    by_cases h : t.a.length = u.a.length
    · simp [h]
    · rw [decide_eq_false h, decide_eq_false (by omega)]
  rw [hd1, hd2]
  by_cases l1 : t.ts.length = u.ts.length
  · by_cases l2 : t.a.length = u.a.length
    · obtain ⟨x, hx⟩ := SameTerm_s_loop0 t.k t.n t.s t.z t.t.k t.t.n (t.t.a.map Ty.enc) (t.a.map Term.enc) u.k u.n u.s u.z u.t.k u.t.n (u.t.a.map Ty.enc) (u.a.map Term.enc) t.ts [] u.ts [] (by simpa using hok.ts_len) rfl l1 (fun y hy => hok.ts hy)
      obtain ⟨y, hy⟩ := SameTerm_s_loop2 t.k t.n t.s t.z t.t.k t.t.n (t.t.a.map Ty.enc) (t.ts.map Ty.enc) u.k u.n u.s u.z u.t.k u.t.n (u.t.a.map Ty.enc) (u.ts.map Ty.enc) t.a [] u.a [] (by simpa using hok.a_len) rfl l2 (fun y hy => ih y hy (hok.a hy))
      simp only [List.nil_append, List.length_nil, Int.cast_ofNat_Int] at hx hy
      rw [hx]
      generalize decide (t.k = u.k) = b1
      generalize decide (t.n = u.n) = b2
      generalize decide (t.s = u.s) = b3
      generalize decide (t.z = u.z) = b4
      generalize t.t.same u.t = b5
      cases b1
      · rfl
      cases b2
      · rfl
      cases b3
      · rfl
      cases b4
      · rfl
      cases b5
      · rfl
      simp only [Bool.not_true, br_false', l1, l2, decide_true, Option.bind_some, Bool.true_and]
      cases Ty.sameL t.ts u.ts with
      | false => rfl
      | true =>
        simp only [cond_true, Option.bind_some, loK_out, beq_self_eq_true, br_true', hy, Bool.true_and]
        cases Term.sameL t.a u.a <;> rfl
    · rw [Term.sameL_len l2]
      cases decide (t.k = u.k) <;> cases decide (t.n = u.n) <;> cases decide (t.s = u.s) <;> cases decide (t.z = u.z) <;> cases t.t.same u.t <;> simp [l1, l2]
  · rw [Ty.sameL_len l1]
    cases decide (t.k = u.k) <;> cases decide (t.n = u.n) <;> cases decide (t.s = u.s) <;> cases decide (t.z = u.z) <;> cases t.t.same u.t <;> simp [l1]
theorem law_SameTerm {t u : Term} (hw : t.wt) (hu : u.wt) : CC f_l_FnExactSameTerm [.v t.enc, .v u.enc] [] = some (.bool true, []) := by
  have hs := szTerm_law t hw 1048576 (by omega) (by omega)
  have e := Term.enc_def t
  have e' := Term.enc_def u
  by_cases hn : (1048576 : Int) < (t.sz : Int)
  · have h1 : left 1048576 t.sz < 0 := (left_neg (by omega)).2 hn
    rw [e, e']
    apply go_l_FnExactSameTerm
    unfold nf_l_FnExactSameTerm
    simp only [← e, hs, Option.bind_some, asInt_int, h1, decide_true, br_true']
  · have hok : t.ok := ⟨hw, by omega⟩
    have h1 : ¬ left 1048576 t.sz < 0 := fun h => hn ((left_neg (by omega)).1 h)
    have hl := left_ok hn
    have hs' := szTerm_law u hu (left 1048576 t.sz) (by omega) (by omega)
    by_cases hn' : left 1048576 t.sz < (u.sz : Int)
    · have h1' : left (left 1048576 t.sz) u.sz < 0 := (left_neg (by omega)).2 hn'
      rw [e, e']
      apply go_l_FnExactSameTerm
      unfold nf_l_FnExactSameTerm
      simp only [← e, ← e', hs, hs', Option.bind_some, asInt_int, h1, h1', decide_true, decide_false, br_true', br_false']
    · have hok' : u.ok := ⟨hu, by omega⟩
      have h1' : ¬ left (left 1048576 t.sz) u.sz < 0 := fun h => hn' ((left_neg (by omega)).1 h)
      rw [e, e']
      apply go_l_FnExactSameTerm
      unfold nf_l_FnExactSameTerm
      simp only [← e, ← e', hs, hs', Option.bind_some, asInt_int, h1, h1', decide_false, br_false', toTerm_law t hok, toTerm_law u hok', SameTerm_s t hok u, SameTerm_i t hok u, eqTerm_law t hok, eqTerm_law u hok', asBool_bool, br_not, beq_self_eq_true, br_true', Term.enc_isAggN, Term.enc_cell0, Term.enc_cell1, Term.enc_cell2, Term.enc_cell3, Term.enc_cell4, Term.enc_cell5, Term.enc_cell6, Term.enc_cell7, Term.enc_cell8, Term.enc_eta]
end Go.Proofs.Ytdbgiclddcphfaa.Abs

/- Types: whether two are the same. -/
import Derived.Test.YthnjnnnobipnfaaInLaws
import Derived.Test.YthnjnnnobipnfaaTyFns
import Derived.Test.YthnjnnnobipnfaaSlicesTy
set_option linter.unusedVariables false
set_option linter.unusedSectionVars false
set_option linter.unusedSimpArgs false
namespace Go.Proofs.Ythnjnnnobipnfaa.Abs
open Go Go.Proofs


namespace Ty
mutual
def same : Ty → Ty → Bool
  | .mk k n a, .mk k' n' a' => decide (k = k') && (decide (n = n') && sameL a a')
def sameL : List Ty → List Ty → Bool
  | [], [] => true
  | x :: l, y :: r => same x y && sameL l r
  | _, _ => false
end
theorem same_def (t u : Ty) : t.same u = (decide (t.k = u.k) && (decide (t.n = u.n) && sameL t.a u.a)) := by
  cases t; cases u; rw [same]; rfl
theorem sameL_all2 : ∀ (l r : List Ty), sameL l r = all2Ty same l r
  | [], [] => by rw [sameL, all2Ty]
  | [], _ :: _ => by rw [sameL, all2Ty] <;> simp
  | _ :: _, [] => by rw [sameL, all2Ty] <;> simp
  | x :: l, y :: r => by rw [sameL, all2Ty, sameL_all2 l r]
theorem sameL_len : ∀ {l r : List Ty}, l.length ≠ r.length → sameL l r = false
  | [], [], h => by simp at h
  | [], _ :: _, _ => by rw [sameL] <;> simp
  | _ :: _, [], _ => by rw [sameL] <;> simp
  | x :: l, y :: r, h => by rw [sameL, sameL_len (by simpa using h)]; simp
theorem same_iff : ∀ t : Ty, ∀ u, t.same u = true ↔ t = u := ind fun t ih u => by
  have hl : ∀ (l r : List Ty), (∀ x ∈ l, ∀ u, x.same u = true ↔ x = u) → (sameL l r = true ↔ l = r) := by
    intro l
    induction l with
    | nil => intro r _; cases r <;> simp [sameL]
    | cons x l ih => intro r h; cases r with
      | nil => simp [sameL]
      | cons y r => simp [sameL, h x (by simp) y, ih r fun z hz => h z (by simp [hz])]
  rw [same_def]
  simp only [Bool.and_eq_true, decide_eq_true_eq, hl t.a u.a ih]
  cases t; cases u; simp
end Ty

theorem SameTy_i : ∀ t : Ty, t.ok → ∀ u : Ty, CC f_i_SameTy [.v t.enc, .v u.enc] [] = some (.bool (t.same u), []) := Ty.ind fun t ih hok u => by
  have h := equalTy_law (c := .func f_i_SameTy []) (p := Ty.same) (ts := t.a) (us := u.a) hok.len fun x hx y hy => apC (cs := [x.enc, y.enc]) (by decide) rfl rfl rfl (by
    show CC f_i_SameTy [.v x.enc, .v y.enc] [] = _
    exact ih x hx (hok.part hx) y)
  rw [← Ty.sameL_all2] at h
  rw [Ty.same_def, Ty.enc_def t, Ty.enc_def u]
  apply go_i_SameTy
  unfold nf_i_SameTy
  by_cases h1 : t.k = u.k
  · by_cases h2 : t.n = u.n
    · simp [h1, h2, h]
    · simp [h1, h2]
  · simp [h1]

theorem SameTy_s_loop (k n k' n' : Int) : ∀ (suf pre suf' pre' : List Ty), (pre ++ suf).length ≤ 1048576 → pre.length = pre'.length → suf.length = suf'.length → (∀ t ∈ suf, ∀ u, CC f_s_SameTy [.v t.enc, .v u.enc] [] = some (.bool (t.same u), [])) →
    ∃ q, LL f_s_SameTy 0 lc_s_SameTy_0 [] k_s_SameTy_0 (((), (), (pre.length : Int), ()), (k, n, (pre ++ suf).map Ty.enc, ()), (k', n', (pre' ++ suf').map Ty.enc, ()), ()) =
      some (if Ty.sameL suf suf' then .out 0 q else .ret (.bool false, []))
  | [], pre, [], pre', hl, hp, hs, h => by
    refine ⟨_, gl_s_SameTy_0 _ _ _ _ _ _ _ _ (by unfold nl_s_SameTy_0; rw [lt_end, Ty.sameL]; rfl)⟩
  | [], pre, _ :: _, pre', hl, hp, hs, h => by simp at hs
  | _ :: _, pre, [], pre', hl, hp, hs, h => by simp at hs
  | t :: suf, pre, u :: suf', pre', hl, hp, hs, h => by
    obtain ⟨q, ih⟩ := SameTy_s_loop k n k' n' suf (pre ++ [t]) suf' (pre' ++ [u]) (by simpa using hl) (by simp [hp]) (by simpa using hs) (fun x hx y => h x (by simp [hx]) y)
    simp only [List.append_assoc, List.singleton_append] at ih
    refine ⟨q, gl_s_SameTy_0 _ _ _ _ _ _ _ _ ?_⟩
    unfold nl_s_SameTy_0
    have e : ((pre' ++ u :: suf').map Ty.enc)[((pre.length : Nat) : Int).toNat]? = some u.enc := by rw [hp]; exact get_mid _ _ _ _
    rw [lt_mid, nn_mid, get_mid, wrap_mid pre suf t hl, e]
    simp only [br_true', Option.bind_some, Ty.enc_fits, Ty.enc_sub, Ty.enc_isAggN, Ty.enc_cell0, Ty.enc_cell1, Ty.enc_cell2, Ty.enc_eta, h t (by simp) u, asBool_bool, Ty.sameL]
    by_cases hpu : t.same u = true
    · simp only [hpu, Bool.not_true, br_false', Bool.true_and]
      exact ih
    · have hpu : t.same u = false := by simpa using hpu
      simp [hpu]
theorem SameTy_s : ∀ t : Ty, t.ok → ∀ u : Ty, CC f_s_SameTy [.v t.enc, .v u.enc] [] = some (.bool (t.same u), []) := Ty.ind fun t ih hok u => by
  rw [Ty.same_def, Ty.enc_def t, Ty.enc_def u]
  apply go_s_SameTy
  unfold nf_s_SameTy
  by_cases h1 : t.k = u.k
  · by_cases h2 : t.n = u.n
    · by_cases hlen : t.a.length = u.a.length
      · obtain ⟨q, hloop⟩ := SameTy_s_loop t.k t.n u.k u.n t.a [] u.a [] (by simpa using hok.len) rfl hlen fun x hx y => ih x hx (hok.part hx) y
        simp only [List.nil_append, List.length_nil, Int.cast_ofNat_Int] at hloop
        have hd : decide ((((t.a.map Ty.enc).length : Nat) : Int) = (((u.a.map Ty.enc).length : Nat) : Int)) = true := by simp [hlen]
        simp only [h1, h2, decide_true, Bool.not_true, br_false', hd, Option.bind_some, Bool.true_and]
        rw [h1, h2] at hloop
        rw [hloop]
        cases Ty.sameL t.a u.a <;> rfl
      · have hd : decide ((((t.a.map Ty.enc).length : Nat) : Int) = (((u.a.map Ty.enc).length : Nat) : Int)) = false := by simp; omega
        rw [Ty.sameL_len hlen]
        simp only [h1, h2, decide_true, Bool.not_true, br_false', hd, Option.bind_some, Bool.not_false, br_true', Bool.and_false]
    · simp [h1, h2]
  · simp [h1]
end Go.Proofs.Ythnjnnnobipnfaa.Abs

/- Searching a slice of Ty with a function, and comparing two. -/
import Derived.Test.YthnjnnnobipnfaaData
import Derived.Test.YthnjnnnobipnfaaD1Eqs
set_option linter.unusedVariables false
set_option linter.unusedSectionVars false
set_option linter.unusedSimpArgs false
namespace Go.Proofs.Ythnjnnnobipnfaa.Abs
open Go Go.Proofs

theorem indexTy_loop {c : CVal} {p : Ty → Bool} : ∀ (suf pre : List Ty), (pre ++ suf).length ≤ 1048576 → (∀ t ∈ suf, CC apId [.v c, .v t.enc] [] = some (.bool (p t), [])) →
    LL f_slices_IndexFunc_Ty 0 lc_slices_IndexFunc_Ty_0 [] k_slices_IndexFunc_Ty_0 (((pre ++ suf).map Ty.enc, c, ((pre ++ suf).length : Int), (pre.length : Int), ()), ()) =
      some (if suf.any p then .ret (.int .i64 ((pre.length + suf.findIdx p : Nat) : Int), []) else .out 0 (((pre ++ suf).map Ty.enc, c, ((pre ++ suf).length : Int), ((pre ++ suf).length : Int), ()), ()))
  | [], pre, hl, h => by
    apply gl_slices_IndexFunc_Ty_0
    unfold nl_slices_IndexFunc_Ty_0
    rw [lt_end']
    simp
  | t :: suf, pre, hl, h => by
    apply gl_slices_IndexFunc_Ty_0
    unfold nl_slices_IndexFunc_Ty_0
    have ih := indexTy_loop suf (pre ++ [t]) (by simpa using hl) (fun u hu => h u (by simp [hu]))
    simp only [List.append_assoc, List.singleton_append] at ih
    rw [lt_mid', nn_mid, get_mid, wrap_mid pre suf t hl]
    simp only [br_true', Option.bind_some, Ty.enc_fits, Ty.enc_sub, h t (by simp), asBool_bool, List.any_cons, List.findIdx_cons]
    cases hp : p t with
    | true => simp
    | false =>
      simp only [br_false', Bool.false_or, cond_false]
      rw [ih]
      simp only [List.length_append, List.length_cons, List.length_nil]
      rw [show pre.length + (0 + 1) + suf.findIdx p = pre.length + (suf.findIdx p + 1) by omega]
theorem indexTy_law {c : CVal} {p : Ty → Bool} {ts : List Ty} (hl : ts.length ≤ 1048576) (h : ∀ t ∈ ts, CC apId [.v c, .v t.enc] [] = some (.bool (p t), [])) :
    CC f_slices_IndexFunc_Ty [.v (.sl (ts.map Ty.enc)), .v c] [] = some (.int .i64 (if ts.any p then (ts.findIdx p : Int) else -1), []) := by
  have hloop := indexTy_loop ts [] (by simpa using hl) h
  simp only [List.nil_append, List.length_nil, Int.cast_ofNat_Int, Nat.zero_add] at hloop
  apply go_slices_IndexFunc_Ty
  unfold nf_slices_IndexFunc_Ty
  simp only [List.length_map, hloop]
  split <;> rfl
theorem containsTy_law {c : CVal} {p : Ty → Bool} {ts : List Ty} (hl : ts.length ≤ 1048576) (h : ∀ t ∈ ts, CC apId [.v c, .v t.enc] [] = some (.bool (p t), [])) :
    CC f_slices_ContainsFunc_Ty [.v (.sl (ts.map Ty.enc)), .v c] [] = some (.bool (ts.any p), []) := by
  apply go_slices_ContainsFunc_Ty
  unfold nf_slices_ContainsFunc_Ty
  simp only [indexTy_law hl h, Option.bind_some, asInt_int]
  split
  · rename_i hh
    rw [hh]
    have : (0 : Int) ≤ (ts.findIdx p : Int) := by omega
    simp
  · rename_i hh
    have : ts.any p = false := by simpa using hh
    rw [this]; rfl
/-- Two slices, part by part. -/
def all2Ty (p : Ty → Ty → Bool) : List Ty → List Ty → Bool
  | [], [] => true
  | x :: l, y :: r => p x y && all2Ty p l r
  | _, _ => false
theorem equalTy_loop {c : CVal} {p : Ty → Ty → Bool} : ∀ (suf pre suf' pre' : List Ty), (pre ++ suf).length ≤ 1048576 → pre.length = pre'.length → suf.length = suf'.length → (∀ t ∈ suf, ∀ u ∈ suf', CC apId [.v c, .v t.enc, .v u.enc] [] = some (.bool (p t u), [])) →
    ∃ q, LL f_slices_EqualFunc_Ty 0 lc_slices_EqualFunc_Ty_0 [] k_slices_EqualFunc_Ty_0 (((pre' ++ suf').map Ty.enc, c, (pre ++ suf).map Ty.enc, ((pre ++ suf).length : Int), (pre.length : Int), ()), ()) =
      some (if all2Ty p suf suf' then .out 0 q else .ret (.bool false, []))
  | [], pre, [], pre', hl, hp, hs, h => by
    refine ⟨_, gl_slices_EqualFunc_Ty_0 _ _ _ _ _ _ (by unfold nl_slices_EqualFunc_Ty_0; rw [lt_end']; rfl)⟩
  | [], pre, _ :: _, pre', hl, hp, hs, h => by simp at hs
  | _ :: _, pre, [], pre', hl, hp, hs, h => by simp at hs
  | t :: suf, pre, u :: suf', pre', hl, hp, hs, h => by
    obtain ⟨q, ih⟩ := equalTy_loop (c := c) (p := p) suf (pre ++ [t]) suf' (pre' ++ [u]) (by simpa using hl) (by simp [hp]) (by simpa using hs) (fun x hx y hy => h x (by simp [hx]) y (by simp [hy]))
    simp only [List.append_assoc, List.singleton_append] at ih
    refine ⟨q, gl_slices_EqualFunc_Ty_0 _ _ _ _ _ _ ?_⟩
    unfold nl_slices_EqualFunc_Ty_0
    have e : ((pre' ++ u :: suf').map Ty.enc)[((pre.length : Nat) : Int).toNat]? = some u.enc := by rw [hp]; exact get_mid _ _ _ _
    rw [lt_mid', nn_mid, get_mid, wrap_mid pre suf t hl, e]
    simp only [br_true', Option.bind_some, Ty.enc_fits, Ty.enc_sub, Ty.enc_isAggN, Ty.enc_cell0, Ty.enc_cell1, Ty.enc_cell2, Ty.enc_eta, h t (by simp) u (by simp), asBool_bool, all2Ty]
    by_cases hpu : p t u = true
    · simp only [hpu, Bool.not_true, br_false', Bool.true_and]
      exact ih
    · have hpu : p t u = false := by simpa using hpu
      simp [hpu]
theorem equalTy_law {c : CVal} {p : Ty → Ty → Bool} {ts us : List Ty} (hl : ts.length ≤ 1048576) (h : ∀ t ∈ ts, ∀ u ∈ us, CC apId [.v c, .v t.enc, .v u.enc] [] = some (.bool (p t u), [])) :
    CC f_slices_EqualFunc_Ty [.v (.sl (ts.map Ty.enc)), .v (.sl (us.map Ty.enc)), .v c] [] = some (.bool (all2Ty p ts us), []) := by
  apply go_slices_EqualFunc_Ty
  unfold nf_slices_EqualFunc_Ty
  by_cases hlen : ts.length = us.length
  · obtain ⟨q, hloop⟩ := equalTy_loop ts [] us [] (by simpa using hl) rfl hlen h
    simp only [List.nil_append, List.length_nil, Int.cast_ofNat_Int] at hloop
    have hd : decide ((((ts.map Ty.enc).length : Nat) : Int) = (((us.map Ty.enc).length : Nat) : Int)) = true := by simp [hlen]
    rw [hd]
    simp only [Bool.not_true, br_false', List.length_map, hloop]
    split
    · rename_i hh; rw [hh]; rfl
    · rename_i hh
      have : all2Ty p ts us = false := by simpa using hh
      rw [this]; rfl
  · have hd : decide ((((ts.map Ty.enc).length : Nat) : Int) = (((us.map Ty.enc).length : Nat) : Int)) = false := by simp; omega
    rw [hd]
    have e : ∀ (ts us : List Ty), ts.length ≠ us.length → all2Ty p ts us = false := by
      intro ts
      induction ts with
      | nil => intro us h; cases us with
        | nil => simp at h
        | cons => rfl
      | cons t ts ih => intro us h; cases us with
        | nil => rfl
        | cons u us => simp only [all2Ty]; rw [ih us (by simpa using h)]; simp
    rw [e ts us hlen]; rfl
end Go.Proofs.Ythnjnnnobipnfaa.Abs

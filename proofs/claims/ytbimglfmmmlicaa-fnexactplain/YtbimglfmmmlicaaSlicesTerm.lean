/- Searching a slice of Term with a function, and comparing two. -/
import Derived.Test.YtbimglfmmmlicaaDataTerm
import Derived.Test.YtbimglfmmmlicaaQ1Eqs
set_option linter.unusedVariables false
set_option linter.unusedSectionVars false
set_option linter.unusedSimpArgs false
namespace Go.Proofs.Ytbimglfmmmlicaa.Abs
open Go Go.Proofs

theorem indexTerm_loop {c : CVal} {p : Term → Bool} : ∀ (suf pre : List Term), (pre ++ suf).length ≤ 1048576 → (∀ t ∈ suf, CC apId [.v c, .v t.enc] [] = some (.bool (p t), [])) →
    LL f_slices_IndexFunc_Term 0 lc_slices_IndexFunc_Term_0 [] k_slices_IndexFunc_Term_0 (((pre ++ suf).map Term.enc, c, ((pre ++ suf).length : Int), (pre.length : Int), ()), ()) =
      some (if suf.any p then .ret (.int .i64 ((pre.length + suf.findIdx p : Nat) : Int), []) else .out 0 (((pre ++ suf).map Term.enc, c, ((pre ++ suf).length : Int), ((pre ++ suf).length : Int), ()), ()))
  | [], pre, hl, h => by
    apply gl_slices_IndexFunc_Term_0
    unfold nl_slices_IndexFunc_Term_0
    rw [lt_end']
    simp
  | t :: suf, pre, hl, h => by
    apply gl_slices_IndexFunc_Term_0
    unfold nl_slices_IndexFunc_Term_0
    have ih := indexTerm_loop suf (pre ++ [t]) (by simpa using hl) (fun u hu => h u (by simp [hu]))
    simp only [List.append_assoc, List.singleton_append] at ih
    rw [lt_mid', nn_mid, get_mid, wrap_mid pre suf t hl]
    simp only [br_true', Option.bind_some, Term.enc_fits, Term.enc_sub, Term.enc_isAggN, Term.enc_cell0, Term.enc_cell1, Term.enc_cell2, Term.enc_cell3, Term.enc_cell4, Term.enc_cell5, Term.enc_cell6, Term.enc_cell7, Term.enc_cell8, Term.enc_eta, h t (by simp), asBool_bool, List.any_cons, List.findIdx_cons]
    cases hp : p t with
    | true => simp
    | false =>
      simp only [br_false', Bool.false_or, cond_false]
      rw [ih]
      simp only [List.length_append, List.length_cons, List.length_nil]
      rw [show pre.length + (0 + 1) + suf.findIdx p = pre.length + (suf.findIdx p + 1) by omega]
theorem indexTerm_law {c : CVal} {p : Term → Bool} {ts : List Term} (hl : ts.length ≤ 1048576) (h : ∀ t ∈ ts, CC apId [.v c, .v t.enc] [] = some (.bool (p t), [])) :
    CC f_slices_IndexFunc_Term [.v (.sl (ts.map Term.enc)), .v c] [] = some (.int .i64 (if ts.any p then (ts.findIdx p : Int) else -1), []) := by
  have hloop := indexTerm_loop ts [] (by simpa using hl) h
  simp only [List.nil_append, List.length_nil, Int.cast_ofNat_Int, Nat.zero_add] at hloop
  apply go_slices_IndexFunc_Term
  unfold nf_slices_IndexFunc_Term
  simp only [List.length_map, hloop]
  split <;> rfl
theorem containsTerm_law {c : CVal} {p : Term → Bool} {ts : List Term} (hl : ts.length ≤ 1048576) (h : ∀ t ∈ ts, CC apId [.v c, .v t.enc] [] = some (.bool (p t), [])) :
    CC f_slices_ContainsFunc_Term [.v (.sl (ts.map Term.enc)), .v c] [] = some (.bool (ts.any p), []) := by
  apply go_slices_ContainsFunc_Term
  unfold nf_slices_ContainsFunc_Term
  simp only [indexTerm_law hl h, Option.bind_some, asInt_int]
  split
  · rename_i hh
    rw [hh]
    have : (0 : Int) ≤ (ts.findIdx p : Int) := by omega
    simp
  · rename_i hh
    have : ts.any p = false := by simpa using hh
    rw [this]; rfl
end Go.Proofs.Ytbimglfmmmlicaa.Abs

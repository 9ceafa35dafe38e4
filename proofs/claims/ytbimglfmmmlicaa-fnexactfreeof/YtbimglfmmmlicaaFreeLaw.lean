/- Free names: the law FnExactFreeOf on data. -/
import Derived.Test.YtbimglfmmmlicaaFree
import Derived.Test.YtbimglfmmmlicaaTermMark
import Derived.Test.YtbimglfmmmlicaaStrsFns
set_option linter.unusedVariables false
set_option linter.unusedSimpArgs false
set_option maxRecDepth 100000
namespace Go.Proofs.Ytbimglfmmmlicaa.Abs
open Go Go.Proofs
open Classical

/-- One function that puts free names behind others. -/
def FreeLaw (f : FuncId) (t : Term) : Prop := t.good → ∀ b o : List (List UInt8), b.length + 2 * t.nodes ≤ 100000 → o.length + t.nodes ≤ 100000 →
  CC f [.v t.enc, .v (.sl (b.map .str)), .lref 0 0] [PB.arr ⟨true, false, 0⟩ false 1 (o.map .str)] = some (.nilp, [(t.free b o).map .str])
theorem freeIn_loop (t0 : Term) (b : List (List UInt8)) : ∀ (suf pre : List Term) (o : List (List UInt8)), t0.a = pre ++ suf → (pre ++ suf).length ≤ 1048576 → b.length + 2 * Term.nodesL suf + 2 ≤ 100000 → o.length + Term.nodesL suf ≤ 100000 → (∀ t ∈ suf, t.good) → (∀ t ∈ suf, FreeLaw f_i_freeIn t) →
    LL f_i_freeIn 0 lc_i_freeIn_0 [PSh.arr ⟨true, false, 0⟩ false 1] k_i_freeIn_0 ((b.map .str, (), (), (pre ++ suf).map Term.enc, ((pre ++ suf).length : Int), (pre.length : Int), ()), o.map .str, (t0.k, t0.n, t0.s, t0.z, t0.t.k, t0.t.n, t0.t.a.map Ty.enc, t0.ts.map Ty.enc, (pre ++ suf).map Term.enc, ()), ()) =
      some (.out 0 ((b.map .str, (), (), (pre ++ suf).map Term.enc, ((pre ++ suf).length : Int), ((pre ++ suf).length : Int), ()), (freeL t0.k t0.s t0.z pre.length suf b o).map .str, (t0.k, t0.n, t0.s, t0.z, t0.t.k, t0.t.n, t0.t.a.map Ty.enc, t0.ts.map Ty.enc, (pre ++ suf).map Term.enc, ()), ()))
  | [], pre, o, ha, hl, hb, ho, hg, h => by
    apply gl_i_freeIn_0
    unfold nl_i_freeIn_0
    rw [lt_end']
    simp [freeL]
  | t :: suf, pre, o, ha, hl, hb, ho, hg, h => by
    simp only [Term.nodesL_cons] at hb ho
    have hlen := free_len t (b ++ bindK t0.k t0.s t0.z pre.length) o
    have hbk := bindK_len t0.k t0.s t0.z pre.length
    have ih := freeIn_loop t0 b suf (pre ++ [t]) (t.free (b ++ bindK t0.k t0.s t0.z pre.length) o) (by simpa using ha) (by simpa using hl) (by omega) (by omega) (fun u hu => hg u (by simp [hu])) (fun u hu => h u (by simp [hu]))
    have hbi := boundIn_law t0 pre.length
    have hc := Concat_law b (bindK t0.k t0.s t0.z pre.length) (by omega)
    have ht := h t (by simp) (hg t (by simp)) (b ++ bindK t0.k t0.s t0.z pre.length) o (by simp only [List.length_append]; omega) (by omega)
    simp only [List.append_assoc, List.singleton_append] at ih
    rw [Term.enc_def, ha] at hbi
    have hp : CVal.plain (.sl ((b ++ bindK t0.k t0.s t0.z pre.length).map .str)) = true := by simp only [CVal.plain]; exact plainEls _
    have ha2 : [CVal.sl (b.map .str), CVal.sl ((bindK t0.k t0.s t0.z pre.length).map .str)].all (CVal.fits false 1) = true := rfl
    apply gl_i_freeIn_0
    unfold nl_i_freeIn_0
    rw [lt_mid', nn_mid, get_mid, wrap_mid pre suf t hl]
    simp only [br_true', br_false', Option.bind_some, Term.enc_fits, Term.enc_sub, Term.enc_isAggN, Term.enc_cell0, Term.enc_cell1, Term.enc_cell2, Term.enc_cell3, Term.enc_cell4, Term.enc_cell5, Term.enc_cell6, Term.enc_cell7, Term.enc_cell8, hbi, ha2, hc, hp, Bool.not_true, isFlat_sl, asSl_sl, Term.enc_eta, ht, List.getElem?_cons_zero, freeL]
    rw [show pre.length + 1 = (pre ++ [t]).length by simp]
    exact ih
theorem freeIn_law : ∀ t : Term, t.ok → FreeLaw f_i_freeIn t := Term.ind fun t ih hok hg b o hb ho => by
  have hn := Term.nodes_def t
  have hgd := (Term.good_def t).1 hg
  have hva : t.k = 3 → t.a = [] := by
    intro hk
    have h := hgd.1
    unfold Term.head at h
    simp only [Bool.and_eq_true, decide_eq_true_eq] at h
    have := h.1
    rw [hk] at this
    exact List.eq_nil_of_length_eq_zero (by have : (t.a.length : Int) = 0 := this; omega)
  have hloop := freeIn_loop t b t.a [] o rfl (by simpa using hok.a_len) (by omega) (by omega) hgd.2 fun u hu => ih u hu (hok.a hu)
  simp only [List.nil_append, List.length_nil, Int.cast_ofNat_Int] at hloop
  have c1 := contains_i (l := b) (by omega) t.s
  have c2 := contains_i (l := o) (by omega) t.s
  have d0 : decide (o.length + 1 ≤ 4294967296) = true := decide_eq_true (by omega)
  rw [free_def, Term.enc_def]
  apply go_i_freeIn
  unfold nf_i_freeIn
  simp only [c1, c2, Option.bind_some, asBool_bool, br_decide, br_not, scalar_bool, Bool.not_true, br_false', List.length_map, d0, Bool.and_true, br_true', mapApp1]
  by_cases hk : t.k = 3
  · have ha := hva hk
    rw [hk] at hloop
    by_cases h1 : t.s ∈ b
    · simp [hk, h1, hloop]
    · by_cases h2 : t.s ∈ o
      · simp [hk, h1, h2, hloop]
      · simp [hk, h1, h2, ha, freeL]
  · simp [hk, hloop]
theorem l2Free_loop (t0 : Term) (b : List (List UInt8)) : ∀ (suf pre : List Term) (o : List (List UInt8)), t0.a = pre ++ suf → (pre ++ suf).length ≤ 1048576 → b.length + 2 * Term.nodesL suf + 2 ≤ 100000 → o.length + Term.nodesL suf ≤ 100000 → (∀ t ∈ suf, t.good) → (∀ t ∈ suf, FreeLaw f_s_l2Free t) →
    LL f_s_l2Free 0 lc_s_l2Free_0 [PSh.arr ⟨true, false, 0⟩ false 1] k_s_l2Free_0 ((b.map .str, (), (), (pre.length : Int), ()), o.map .str, (t0.k, t0.n, t0.s, t0.z, t0.t.k, t0.t.n, t0.t.a.map Ty.enc, t0.ts.map Ty.enc, (pre ++ suf).map Term.enc, ()), ()) =
      some (.out 0 ((b.map .str, (), (), ((pre ++ suf).length : Int), ()), (freeL t0.k t0.s t0.z pre.length suf b o).map .str, (t0.k, t0.n, t0.s, t0.z, t0.t.k, t0.t.n, t0.t.a.map Ty.enc, t0.ts.map Ty.enc, (pre ++ suf).map Term.enc, ()), ()))
  | [], pre, o, ha, hl, hb, ho, hg, h => by
    apply gl_s_l2Free_0
    unfold nl_s_l2Free_0
    rw [lt_end]
    simp [freeL]
  | t :: suf, pre, o, ha, hl, hb, ho, hg, h => by
    simp only [Term.nodesL_cons] at hb ho
    have hlen := free_len t (b ++ bindK t0.k t0.s t0.z pre.length) o
    have hbk := bindK_len t0.k t0.s t0.z pre.length
    have ih := l2Free_loop t0 b suf (pre ++ [t]) (t.free (b ++ bindK t0.k t0.s t0.z pre.length) o) (by simpa using ha) (by simpa using hl) (by omega) (by omega) (fun u hu => hg u (by simp [hu])) (fun u hu => h u (by simp [hu]))
    have hbi := l2Binds_law t0 pre.length
    have ht := h t (by simp) (hg t (by simp)) (b ++ bindK t0.k t0.s t0.z pre.length) o (by simp only [List.length_append]; omega) (by omega)
    simp only [List.append_assoc, List.singleton_append] at ih
    rw [Term.enc_def, ha] at hbi
    have d1 : decide (b.length ≤ 4294967296) = true := decide_eq_true (by omega)
    have d2 : decide (b.length + (bindK t0.k t0.s t0.z pre.length).length ≤ 4294967296) = true := decide_eq_true (by omega)
    apply gl_s_l2Free_0
    unfold nl_s_l2Free_0
    rw [lt_mid, nn_mid, get_mid, wrap_mid pre suf t hl]
    simp only [br_true', Option.bind_some, Term.enc_fits, Term.enc_sub, allStr, List.length_map, d1, d2, Bool.and_true, hbi, asSl_sl, mapApp, ht, List.getElem?_cons_zero, freeL]
    rw [show pre.length + 1 = (pre ++ [t]).length by simp]
    exact ih
theorem l2Free_law : ∀ t : Term, t.ok → FreeLaw f_s_l2Free t := Term.ind fun t ih hok hg b o hb ho => by
  have hn := Term.nodes_def t
  have hgd := (Term.good_def t).1 hg
  have hloop := fun o ho => l2Free_loop t b t.a [] o rfl (by simpa using hok.a_len) (by omega) ho hgd.2 fun u hu => ih u hu (hok.a hu)
  simp only [List.nil_append, List.length_nil, Int.cast_ofNat_Int] at hloop
  have c1 := has_s (l := b) (by omega) t.s
  have c2 := has_s (l := o) (by omega) t.s
  have d0 : decide (o.length + 1 ≤ 4294967296) = true := decide_eq_true (by omega)
  have l0 := hloop o (by omega)
  have l1 := hloop (o ++ [t.s]) (by simp only [List.length_append, List.length_singleton]; omega)
  rw [free_def, Term.enc_def]
  apply go_s_l2Free
  unfold nf_s_l2Free
  simp only [c1, c2, Option.bind_some, asBool_bool, br_decide, br_not, scalar_bool, Bool.not_true, br_false', List.length_map, d0, Bool.and_true, br_true', mapApp1]
  by_cases hk : t.k = 3
  · rw [hk] at l0 l1
    by_cases h1 : t.s ∈ b
    · simp [hk, h1, l0]
    · by_cases h2 : t.s ∈ o
      · simp [hk, h1, h2, l0]
      · rw [← mapApp1] at l1
        simp [hk, h1, h2, l1]
  · simp [hk, l0]

noncomputable def Term.frees (t : Term) : List (List UInt8) := if t.right then t.free [] [] else []
theorem FreeOf_i {t : Term} (hok : t.ok) : CC f_i_FreeOf [.v t.enc] [] = some (.sl (t.frees.map .str), []) := by
  have h1 := TermOk_i hok
  have h2 := fun hr : t.right => freeIn_law t hok hr.1 [] [] (by have := hr.2.2; simp; omega) (by have := hr.2.2; simp; omega)
  rw [Term.enc_def] at h1 ⊢
  apply go_i_FreeOf
  unfold nf_i_FreeOf Term.frees
  simp only [h1, Option.bind_some, asBool_bool, br_not, br_decide]
  by_cases hr : t.right
  · have := h2 hr
    simp only [List.map_nil] at this
    simp [hr, this]
  · simp [hr]
theorem FreeOf_s {t : Term} (hok : t.ok) : CC f_s_FreeOf [.v t.enc] [] = some (.sl (t.frees.map .str), []) := by
  have h1 := TermOk_s hok
  have h2 := fun hr : t.right => l2Free_law t hok hr.1 [] [] (by have := hr.2.2; simp; omega) (by have := hr.2.2; simp; omega)
  rw [Term.enc_def] at h1 ⊢
  apply go_s_FreeOf
  unfold nf_s_FreeOf Term.frees
  simp only [h1, Option.bind_some, asBool_bool, br_not, br_decide]
  by_cases hr : t.right
  · have := h2 hr
    simp only [List.map_nil] at this
    simp [hr, this]
  · simp [hr]
theorem frees_len (t : Term) : t.frees.length ≤ 150 := by
  unfold Term.frees
  split
  · rename_i h; have := free_len t [] []; have := h.2.2; simp at *; omega
  · simp

theorem primOk : PrimOk E := ⟨fun _ => rfl, fun g p hg args pbs ret hr => by
  have hg : (match g with | 55 => some xSort | 56 => some xCompact | 57 => some xClone | 42 => some xContains | 102 => some xGrow | _ => none : Option _) = some p := hg
  split at hg
  · cases hg; exact xSort_ok hr
  · cases hg; exact xCompact_ok hr
  · cases hg; exact xClone_ok hr
  · cases hg; exact xContains_ok hr
  · cases hg; exact xGrow_ok hr
  · cases hg⟩
theorem law_FreeOf {t : Term} (hw : t.wt) : CC f_l_FnExactFreeOf [.v t.enc] [] = some (.bool true, []) := by
  have hs := szTerm_law t hw 1048576 (by omega) (by omega)
  have e := Term.enc_def t
  by_cases hn : (1048576 : Int) < (t.sz : Int)
  · have h1 : left 1048576 t.sz < 0 := (left_neg (by omega)).2 hn
    rw [e]
    apply go_l_FnExactFreeOf
    unfold nf_l_FnExactFreeOf
    simp only [← e, hs, Option.bind_some, asInt_int, h1, decide_true, br_true']
  · have hok : t.ok := ⟨hw, by omega⟩
    have h1 : ¬ left 1048576 t.sz < 0 := fun h => hn ((left_neg (by omega)).1 h)
    have hS := FreeOf_s hok
    have hI := FreeOf_i hok
    have hlen := frees_len t
    have hT := toTerm_law t hok
    have hE1 := eqTerm_law t hok
    have hE2 := eqStringS_law (l := t.frees) (by omega)
    have b1 := numTm_sz t
    have b2 := hok.2
    have m1 := markTerm_law hok 1 (by omega) (by omega)
    have m2 := markStringS_law (l := t.frees) (by omega) 1 (by omega) (by omega)
    have m3 := heldStringS_law t.frees.length (by omega) 1 (by omega) (by omega)
    have hp : CVal.plain (.sl (t.frees.map .str)) = true := by simp only [CVal.plain]; exact plainEls _
    have n1 : ¬ (1 + (numTL t.t.a : Int) + (numTL t.ts : Int) + (numTmL t.a : Int) < 0) := by omega
    have n2 : ¬ (1 + (t.frees.length : Int) < 0) := by omega
    rw [e]
    apply go_l_FnExactFreeOf
    unfold nf_l_FnExactFreeOf
    simp only [← e, hs, hT, hS, hI, Option.bind_some, asInt_int, h1, decide_true, decide_false, br_true', br_false', List.getElem?_cons_zero, List.getElem?_cons_succ, Term.enc_isAggN, Term.enc_cell0, Term.enc_cell1, Term.enc_cell2, Term.enc_cell3, Term.enc_cell4, Term.enc_cell5, Term.enc_cell6, Term.enc_cell7, Term.enc_cell8, asSl_sl, isFlat_sl, Term.enc_eta, hp, Bool.not_true, hE1, hE2, scalar_bool, scalar_int, asBool_bool, m1, m2, m3, n1, n2]
end Go.Proofs.Ytbimglfmmmlicaa.Abs

/- Names of binders. -/
import Derived.Test.YtbimglfmmmlicaaTermLaws
set_option linter.unusedVariables false
set_option linter.unusedSimpArgs false
set_option maxRecDepth 100000
namespace Go.Proofs.Ytbimglfmmmlicaa.Abs
open Go Go.Proofs
open Classical

namespace Term
/-- The names that a term itself binds. -/
def bown (t : Term) : List (List UInt8) :=
  if t.k = 4 then [t.s] else if t.k = 6 then [t.s] else if t.k = 7 then [t.s] else if t.k = 17 then [t.s] else if t.k = 14 then [t.s, t.z] else []
/-- All that are bound in it, from the front. -/
def bnd : Term → List (List UInt8)
  | .mk k n s z t ts a => (Term.mk k n s z t ts a).bown ++ (a.map bnd).flatten
def bndL (l : List Term) : List (List UInt8) := (l.map bnd).flatten
theorem bnd_def (t : Term) : t.bnd = t.bown ++ bndL t.a := by cases t; rw [bnd]; rfl
@[simp] theorem bndL_nil : bndL [] = [] := rfl
@[simp] theorem bndL_cons {t : Term} {l : List Term} : bndL (t :: l) = t.bnd ++ bndL l := by simp [bndL]
theorem bown_len (t : Term) : t.bown.length ≤ 2 := by
  unfold bown
  by_cases h1 : t.k = 4 <;> by_cases h2 : t.k = 6 <;> by_cases h3 : t.k = 7 <;> by_cases h4 : t.k = 17 <;> by_cases h5 : t.k = 14 <;> simp [*]
theorem bnd_len : ∀ t : Term, t.bnd.length ≤ 2 * t.nodes := ind fun t ih => by
  have : ∀ l : List Term, (∀ u ∈ l, u.bnd.length ≤ 2 * u.nodes) → (bndL l).length ≤ 2 * nodesL l := by
    intro l
    induction l with
    | nil => simp
    | cons u l ih =>
      intro h
      have h1 := h u (by simp)
      have h2 := ih fun v hv => h v (by simp [hv])
      simp only [bndL_cons, List.length_append, nodesL_cons]; omega
  have h := this t.a ih
  have h2 := bown_len t
  rw [bnd_def, nodes_def, List.length_append]; omega
end Term

/-- One function that puts names behind others. -/
def BndLaw (f : FuncId) (t : Term) : Prop := ∀ b : List (List UInt8), b.length + 2 * t.nodes ≤ 100000000 →
  CC f [.v t.enc, .lref 0 0] [PB.arr ⟨true, false, 0⟩ false 1 (b.map .str)] = some (.nilp, [(b ++ t.bnd).map .str])
theorem l6Own_law (t : Term) : CC f_s_l6Own [.v t.enc] [] = some (.sl (t.bown.map .str), []) := by
  rw [Term.enc_def]
  apply go_s_l6Own
  unfold nf_s_l6Own Term.bown
  simp only [br_decide]
  repeat' split
  all_goals rfl
theorem l6Binders_loop (t0 : Term) : ∀ (suf pre : List Term) (b : List (List UInt8)), t0.a = pre ++ suf → (pre ++ suf).length ≤ 1048576 → b.length + 2 * Term.nodesL suf ≤ 100000000 → (∀ t ∈ suf, BndLaw f_s_l6Binders t) →
    LL f_s_l6Binders 0 lc_s_l6Binders_0 [PSh.arr ⟨true, false, 0⟩ false 1] k_s_l6Binders_0 (((), (), (pre.length : Int), ()), b.map .str, (t0.k, t0.n, t0.s, t0.z, t0.t.k, t0.t.n, t0.t.a.map Ty.enc, t0.ts.map Ty.enc, (pre ++ suf).map Term.enc, ()), ()) =
      some (.out 0 (((), (), ((pre ++ suf).length : Int), ()), (b ++ Term.bndL suf).map .str, (t0.k, t0.n, t0.s, t0.z, t0.t.k, t0.t.n, t0.t.a.map Ty.enc, t0.ts.map Ty.enc, (pre ++ suf).map Term.enc, ()), ()))
  | [], pre, b, ha, hl, hb, h => by
    apply gl_s_l6Binders_0
    unfold nl_s_l6Binders_0
    rw [lt_end]
    simp
  | t :: suf, pre, b, ha, hl, hb, h => by
    simp only [Term.nodesL_cons] at hb
    have hlen := Term.bnd_len t
    apply gl_s_l6Binders_0
    unfold nl_s_l6Binders_0
    have ih := l6Binders_loop t0 suf (pre ++ [t]) (b ++ t.bnd) (by simpa using ha) (by simpa using hl) (by simp only [List.length_append]; omega) (fun u hu => h u (by simp [hu]))
    simp only [List.append_assoc, List.singleton_append] at ih
    rw [lt_mid, nn_mid, get_mid, wrap_mid pre suf t hl]
    simp only [br_true', Option.bind_some, Term.enc_fits, Term.enc_sub, h t (by simp) b (by omega), List.getElem?_cons_zero, Term.bndL_cons]
    exact ih
theorem l6Binders_law : ∀ t : Term, t.ok → BndLaw f_s_l6Binders t := Term.ind fun t ih hok b hb => by
  have hn := Term.nodes_def t
  have ho := Term.bown_len t
  have hloop := l6Binders_loop t t.a [] (b ++ t.bown) rfl (by simpa using hok.a_len) (by simp only [List.length_append]; omega) fun u hu => ih u hu (hok.a hu)
  simp only [List.nil_append, List.length_nil, Int.cast_ofNat_Int] at hloop
  have e1 : (t.bown.map CVal.str).all (CVal.fitsF false [CK.str]) = true := by simp [CVal.fitsF, okCells, CK.ok]
  have e2 : decide ((b.map CVal.str).length + (t.bown.map CVal.str).length ≤ 4294967296) = true := by
    simp only [List.length_map]
    exact decide_eq_true (by omega)
  have e3 : b.map CVal.str ++ t.bown.map CVal.str = (b ++ t.bown).map CVal.str := by simp
  have hown := l6Own_law t
  rw [Term.bnd_def, Term.enc_def]
  rw [Term.enc_def] at hown
  apply go_s_l6Binders
  unfold nf_s_l6Binders
  simp only [hown, Option.bind_some, asSl_sl, e1, br_true', e2, Bool.and_true, e3, hloop, loK_out, beq_self_eq_true]
  rw [List.append_assoc]

theorem bindersIn_loop : ∀ (suf pre : List Term) (b : List (List UInt8)), (pre ++ suf).length ≤ 1048576 → b.length + 2 * Term.nodesL suf ≤ 100000000 → (∀ t ∈ suf, BndLaw f_i_bindersIn t) →
    LL f_i_bindersIn 0 lc_i_bindersIn_0 [PSh.arr ⟨true, false, 0⟩ false 1] k_i_bindersIn_0 (((), (pre ++ suf).map Term.enc, ((pre ++ suf).length : Int), (pre.length : Int), ()), b.map .str, ()) =
      some (.out 0 (((), (pre ++ suf).map Term.enc, ((pre ++ suf).length : Int), ((pre ++ suf).length : Int), ()), (b ++ Term.bndL suf).map .str, ()))
  | [], pre, b, hl, hb, h => by
    apply gl_i_bindersIn_0
    unfold nl_i_bindersIn_0
    rw [lt_end']
    simp
  | t :: suf, pre, b, hl, hb, h => by
    simp only [Term.nodesL_cons] at hb
    have hlen := Term.bnd_len t
    apply gl_i_bindersIn_0
    unfold nl_i_bindersIn_0
    have ih := bindersIn_loop suf (pre ++ [t]) (b ++ t.bnd) (by simpa using hl) (by simp only [List.length_append]; omega) (fun u hu => h u (by simp [hu]))
    simp only [List.append_assoc, List.singleton_append] at ih
    rw [lt_mid', nn_mid, get_mid, wrap_mid pre suf t hl]
    simp only [br_true', Option.bind_some, Term.enc_fits, Term.enc_sub, Term.enc_isAggN, Term.enc_cell0, Term.enc_cell1, Term.enc_cell2, Term.enc_cell3, Term.enc_cell4, Term.enc_cell5, Term.enc_cell6, Term.enc_cell7, Term.enc_cell8, Term.enc_eta, h t (by simp) b (by omega), List.getElem?_cons_zero, Term.bndL_cons]
    exact ih
theorem bindsS_law (k : Int) : CC f_i_bindsS [.v (.int .i64 k)] [] = some (.bool (decide (k = 4) || (decide (k = 6) || (decide (k = 7) || (decide (k = 14) || decide (k = 17))))), []) := by
  apply go_i_bindsS
  unfold nf_i_bindsS
  simp only [br_decide]
  repeat' split
  all_goals simp [*]
theorem bindersIn_law : ∀ t : Term, t.ok → BndLaw f_i_bindersIn t := Term.ind fun t ih hok b hb => by
  have hn := Term.nodes_def t
  have ho := Term.bown_len t
  have hloop := fun b hb => bindersIn_loop t.a [] b (by simpa using hok.a_len) hb fun u hu => ih u hu (hok.a hu)
  simp only [List.nil_append, List.length_nil, Int.cast_ofNat_Int] at hloop
  have e2 : ∀ l : List (List UInt8), l.length ≤ b.length + 1 → decide (l.length + 1 ≤ 4294967296) = true := fun l hl => decide_eq_true (by omega)
  have e3 : ∀ (l : List (List UInt8)) (x : List UInt8), l.map CVal.str ++ [CVal.str x] = (l ++ [x]).map CVal.str := by simp
  have l0 := hloop b (by omega)
  have l1 := hloop (b ++ [t.s]) (by simp only [List.length_append, List.length_cons, List.length_nil]; omega)
  have l2 := hloop (b ++ [t.s] ++ [t.z]) (by simp only [List.length_append, List.length_cons, List.length_nil]; omega)
  have d0 := e2 b (by omega)
  have d1 := e2 (b ++ [t.s]) (by simp)
  rw [Term.bnd_def, Term.enc_def]
  apply go_i_bindersIn
  unfold nf_i_bindersIn Term.bown
  simp only [bindsS_law, Option.bind_some, asBool_bool, e3, d0, d1, List.length_map, Bool.and_true, br_true', br_decide]
  rw [← List.append_assoc]
  by_cases h4 : t.k = 4
  · simp only [h4, decide_true, Bool.true_or, br_true', if_true, l1, Option.bind_some, loK_out, beq_self_eq_true, reduceIte, show ¬ (4 : Int) = 14 by omega]
  · by_cases h6 : t.k = 6
    · simp only [h6, decide_true, Bool.true_or, Bool.or_true, br_true', if_true, l1, Option.bind_some, loK_out, beq_self_eq_true, reduceIte, show ¬ (6 : Int) = 14 by omega, show ¬ (6 : Int) = 4 by omega]
    · by_cases h7 : t.k = 7
      · simp only [h7, decide_true, Bool.true_or, Bool.or_true, br_true', if_true, l1, Option.bind_some, loK_out, beq_self_eq_true, reduceIte, show ¬ (7 : Int) = 14 by omega, show ¬ (7 : Int) = 4 by omega, show ¬ (7 : Int) = 6 by omega]
      · by_cases h17 : t.k = 17
        · simp only [h17, decide_true, Bool.true_or, Bool.or_true, br_true', if_true, l1, Option.bind_some, loK_out, beq_self_eq_true, reduceIte, show ¬ (17 : Int) = 14 by omega, show ¬ (17 : Int) = 4 by omega, show ¬ (17 : Int) = 6 by omega, show ¬ (17 : Int) = 7 by omega]
        · by_cases h14 : t.k = 14
          · have e9 : b ++ [t.s, t.z] = b ++ [t.s] ++ [t.z] := by simp
            simp only [h14, decide_true, Bool.true_or, Bool.or_true, br_true', if_true, e9, l2, Option.bind_some, loK_out, beq_self_eq_true, reduceIte, show ¬ (14 : Int) = 17 by omega, show ¬ (14 : Int) = 4 by omega, show ¬ (14 : Int) = 6 by omega, show ¬ (14 : Int) = 7 by omega]
          · simp only [h4, h6, h7, h17, h14, decide_false, Bool.or_false, br_false', if_false, List.append_nil, l0, Option.bind_some, loK_out, beq_self_eq_true, br_true']

noncomputable def Term.binders (t : Term) : List (List UInt8) := if t.right then t.bnd else []
theorem Binders_i {t : Term} (hok : t.ok) : CC f_i_Binders [.v t.enc] [] = some (.sl (t.binders.map .str), []) := by
  have h1 := TermOk_i hok
  have h2 := fun hr : t.right => bindersIn_law t hok [] (by have := hr.2.2; simp; omega)
  rw [Term.enc_def] at h1 ⊢
  apply go_i_Binders
  unfold nf_i_Binders Term.binders
  simp only [h1, Option.bind_some, asBool_bool, br_not, br_decide]
  by_cases hr : t.right
  · have := h2 hr
    simp only [List.map_nil, List.nil_append] at this
    simp [hr, this]
  · simp [hr]
theorem Binders_s {t : Term} (hok : t.ok) : CC f_s_Binders [.v t.enc] [] = some (.sl (t.binders.map .str), []) := by
  have h1 := TermOk_s hok
  have h2 := fun hr : t.right => l6Binders_law t hok [] (by have := hr.2.2; simp; omega)
  rw [Term.enc_def] at h1 ⊢
  apply go_s_Binders
  unfold nf_s_Binders Term.binders
  simp only [h1, Option.bind_some, asBool_bool, br_not, br_decide]
  by_cases hr : t.right
  · have := h2 hr
    simp only [List.map_nil, List.nil_append] at this
    simp [hr, this]
  · simp [hr]
theorem binders_len (t : Term) : t.binders.length ≤ 300 := by
  unfold Term.binders
  split
  · rename_i h; have := Term.bnd_len t; have := h.2.2; omega
  · simp
end Go.Proofs.Ytbimglfmmmlicaa.Abs

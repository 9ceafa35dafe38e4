/- The laws of the first seat, on data. -/
import Derived.Test.YtlgonbonnjkekaaTyLaws
import Derived.Test.YtlgonbonnjkekaaInsLaws
import Derived.Test.YtlgonbonnjkekaaInsFns
import Derived.Test.YtlgonbonnjkekaaOutcomeFns
set_option linter.unusedVariables false
set_option linter.unusedSectionVars false
set_option linter.unusedSimpArgs false
namespace Go.Proofs.Ytlgonbonnjkekaa.Abs
open Go Go.Proofs
open Classical

theorem primOk : PrimOk E := fun g p h => by cases h

theorem law_TyOk {t : Ty} (hw : t.wt) : CC f_l_FnExactTyOk [.v t.enc] [] = some (.bool true, []) := by
  have hs := szTy_law t hw 1048576 (by omega) (by omega)
  have e := Ty.enc_def t
  by_cases hn : (1048576 : Int) < (t.sz : Int)
  · have h1 : left 1048576 t.sz < 0 := (left_neg (by omega)).2 hn
    rw [e] at hs ⊢
    apply go_l_FnExactTyOk
    unfold nf_l_FnExactTyOk
    simp only [hs, Option.bind_some, asInt_int, h1, decide_true, br_true']
  · have hok : t.ok := ⟨hw, by omega⟩
    have h1 : ¬ left 1048576 t.sz < 0 := fun h => hn ((left_neg (by omega)).1 h)
    rw [e]
    apply go_l_FnExactTyOk
    unfold nf_l_FnExactTyOk
    simp only [← e, hs, Option.bind_some, asInt_int, h1, decide_false, br_false', toTy_law t hok, TyOk_s hok, TyOk_i hok, eqTy_law t hok, Ty.enc_isAggN, Ty.enc_cell0, Ty.enc_cell1, Ty.enc_cell2, Ty.enc_eta, br_true', asBool_bool, br_not, beq_self_eq_true]

theorem TyNodes_i {t : Ty} (hok : t.ok) : CC f_i_TyNodes [.v t.enc] [] = some (.int .i64 (if t.right then (t.nodes : Int) else 0), []) := by
  have h := TyOk_i hok
  have h2 := measure_law t hok
  rw [Ty.enc_def]
  apply go_i_TyNodes
  unfold nf_i_TyNodes
  by_cases hr : t.right
  · have hg : t.good := hr.1
    simp [h, h2, hr, hg]
  · simp [h, hr]
theorem TyNodes_s {t : Ty} (hok : t.ok) : CC f_s_TyNodes [.v t.enc] [] = some (.int .i64 (if t.right then (t.nodes : Int) else 0), []) := by
  obtain ⟨c', h, h2⟩ := look_law t hok 6 0 (by omega) (by omega)
  rw [Ty.enc_def]
  apply go_s_TyNodes
  unfold nf_s_TyNodes
  have e : (t.good ∧ t.depth ≤ 6 ∧ 0 + t.nodes ≤ 60) ↔ t.right := by unfold Ty.right; rw [Nat.zero_add]
  simp only [Int.cast_ofNat_Int, e] at h h2
  by_cases hr : t.right
  · have := h2 hr
    have e : c' = (t.nodes : Int) := by omega
    simp [h, hr, e]
  · simp [h, hr]
theorem law_TyNodes {t : Ty} (hw : t.wt) : CC f_l_FnExactTyNodes [.v t.enc] [] = some (.bool true, []) := by
  have hs := szTy_law t hw 1048576 (by omega) (by omega)
  have e := Ty.enc_def t
  by_cases hn : (1048576 : Int) < (t.sz : Int)
  · have h1 : left 1048576 t.sz < 0 := (left_neg (by omega)).2 hn
    rw [e] at hs ⊢
    apply go_l_FnExactTyNodes
    unfold nf_l_FnExactTyNodes
    simp only [hs, Option.bind_some, asInt_int, h1, decide_true, br_true']
  · have hok : t.ok := ⟨hw, by omega⟩
    have h1 : ¬ left 1048576 t.sz < 0 := fun h => hn ((left_neg (by omega)).1 h)
    rw [e]
    apply go_l_FnExactTyNodes
    unfold nf_l_FnExactTyNodes
    simp only [← e, hs, Option.bind_some, asInt_int, h1, decide_false, br_false', toTy_law t hok, TyNodes_s hok, TyNodes_i hok, eqTy_law t hok, Ty.enc_isAggN, Ty.enc_cell0, Ty.enc_cell1, Ty.enc_cell2, Ty.enc_eta, br_true', asBool_bool, br_not, decide_true]

theorem law_SameEnd {t u : Outcome} (hw : t.wt) (hu : u.wt) : CC f_l_FnExactSameEnd [.v t.enc, .v u.enc] [] = some (.bool true, []) := by
  have hs := szOutcome_law t hw 1048576 (by omega) (by omega)
  have e := Outcome.enc_def t
  have e' := Outcome.enc_def u
  have same : CC f_i_SameEnd [.v t.enc, .v u.enc] [] = CC f_s_SameEnd [.v t.enc, .v u.enc] [] ∧ ∃ b, CC f_s_SameEnd [.v t.enc, .v u.enc] [] = some (.bool b, []) := by
    rw [e, e']
    have : ∃ b, nf_s_SameEnd CC LL t.e t.n t.s u.e u.n u.s = some (.bool b, []) := by
      unfold nf_s_SameEnd
      simp only [br_decide]
      cases (decide (t.e = u.e) && (decide (t.n = u.n) && (decide (t.s = u.s) && true))) with
      | true => exact ⟨true, rfl⟩
      | false =>
        simp only [br_false']
        split
        · exact ⟨_, rfl⟩
        · exact ⟨_, rfl⟩
    obtain ⟨b, hb⟩ := this
    have h1 := go_s_SameEnd _ _ _ _ _ _ _ hb
    have h2 := go_i_SameEnd _ _ _ _ _ _ _ (show nf_i_SameEnd CC LL t.e t.n t.s u.e u.n u.s = _ from hb)
    exact ⟨by rw [h1, h2], b, h1⟩
  by_cases hn : (1048576 : Int) < (t.sz : Int)
  · have h1 : left 1048576 t.sz < 0 := (left_neg (by omega)).2 hn
    rw [e, e']
    apply go_l_FnExactSameEnd
    unfold nf_l_FnExactSameEnd
    simp only [← e, hs, Option.bind_some, asInt_int, h1, decide_true, br_true']
  · have hok : t.ok := ⟨hw, by omega⟩
    have h1 : ¬ left 1048576 t.sz < 0 := fun h => hn ((left_neg (by omega)).1 h)
    have hl := left_ok hn
    have hs' := szOutcome_law u hu (left 1048576 t.sz) (by omega) (by omega)
    by_cases hn' : left 1048576 t.sz < (u.sz : Int)
    · have h1' : left (left 1048576 t.sz) u.sz < 0 := (left_neg (by omega)).2 hn'
      rw [e, e']
      apply go_l_FnExactSameEnd
      unfold nf_l_FnExactSameEnd
      simp only [← e, ← e', hs, hs', Option.bind_some, asInt_int, h1, h1', decide_true, decide_false, br_true', br_false']
    · have hok' : u.ok := ⟨hu, by omega⟩
      have h1' : ¬ left (left 1048576 t.sz) u.sz < 0 := fun h => hn' ((left_neg (by omega)).1 h)
      obtain ⟨hsame, b, hb⟩ := same
      rw [hb] at hsame
      rw [e, e']
      apply go_l_FnExactSameEnd
      unfold nf_l_FnExactSameEnd
      simp only [← e, ← e', hs, hs', Option.bind_some, asInt_int, h1, h1', decide_false, br_false', toOutcome_law t hok, toOutcome_law u hok', hb, hsame, asBool_bool, br_not, beq_self_eq_true, br_true']

theorem Writes_i (t : Ins) : CC f_i_Writes [.v t.enc] [] = some (.int .i64 (if (uses t.op).1 && !decide (t.op = 17) then t.d else -1), []) := by
  rw [Ins.enc_def]
  apply go_i_Writes
  unfold nf_i_Writes
  simp only [hasPart_law, uses_D, Option.bind_some, asBool_bool]
  cases (uses t.op).1 with
  | true => by_cases h : t.op = 17 <;> simp [h]
  | false => simp
theorem Writes_s (t : Ins) : CC f_s_Writes [.v t.enc] [] = some (.int .i64 (if (uses t.op).1 && !decide (t.op = 17) then t.d else -1), []) := by
  rw [Ins.enc_def]
  apply go_s_Writes
  unfold nf_s_Writes
  simp only [uses_law, Option.bind_some, isAgg_agg, cell_agg, List.getElem?_cons_zero, asBool_bool, br_true']
  by_cases h : t.op = 17
  · simp [h]
  · cases (uses t.op).1 <;> simp [h]
theorem law_Writes {t : Ins} (hw : t.wt) : CC f_l_FnExactWrites [.v t.enc] [] = some (.bool true, []) := by
  have hs := szIns_law t hw 1048576 (by omega) (by omega)
  have e := Ins.enc_def t
  by_cases hn : (1048576 : Int) < (t.sz : Int)
  · have h1 : left 1048576 t.sz < 0 := (left_neg (by omega)).2 hn
    rw [e] at hs ⊢
    apply go_l_FnExactWrites
    unfold nf_l_FnExactWrites
    simp only [hs, Option.bind_some, asInt_int, h1, decide_true, br_true']
  · have hok : t.ok := ⟨hw, by omega⟩
    have h1 : ¬ left 1048576 t.sz < 0 := fun h => hn ((left_neg (by omega)).1 h)
    rw [e]
    apply go_l_FnExactWrites
    unfold nf_l_FnExactWrites
    simp only [← e, hs, Option.bind_some, asInt_int, h1, decide_false, br_false', toIns_law t hok, Writes_s, Writes_i, eqIns_law t hok, Ins.enc_isAggN, Ins.enc_cell0, Ins.enc_cell1, Ins.enc_cell2, Ins.enc_cell3, Ins.enc_cell4, Ins.enc_cell5, Ins.enc_cell6, Ins.enc_eta, br_true', asBool_bool, br_not, decide_true]
end Go.Proofs.Ytlgonbonnjkekaa.Abs

/- The laws FnExactLambdas and FnExactLambdaAt on data. -/
import Derived.Test.YthnjnnnobipnfaaLambdaLaws
import Derived.Test.YthnjnnnobipnfaaTermMark
set_option linter.unusedVariables false
set_option linter.unusedSectionVars false
set_option linter.unusedSimpArgs false
set_option maxRecDepth 100000
set_option maxHeartbeats 2000000
namespace Go.Proofs.Ythnjnnnobipnfaa.Abs
open Go Go.Proofs
open Classical
theorem primOk : PrimOk E := ⟨fun _ => rfl, fun g p h => by cases h⟩
theorem plainL_of {α : Type} (f : α → CVal) : ∀ l : List α, (∀ x ∈ l, (f x).plain = true) → plainL (l.map f) = true
  | [], _ => rfl
  | x :: l, h => by
    have h1 := h x (by simp)
    have h2 := plainL_of f l fun y hy => h y (by simp [hy])
    show ((f x).plain && plainL (l.map f)) = true
    rw [h1, h2]; rfl
theorem plain_tm : ∀ t : Term, t.enc.plain = true := Term.ind fun t ih => by
  have h1 := plainL_of Ty.enc t.t.a fun x _ => plain_enc x
  have h2 := plainL_of Ty.enc t.ts fun x _ => plain_enc x
  have h3 := plainL_of Term.enc t.a ih
  rw [Term.enc_def]
  simp only [CVal.plain, plainL, h1, h2, h3, Bool.and_self, Bool.and_true]
theorem plain2 {t : Term} {b : Bool} : CVal.plain (.tup [t.enc, .bool b]) = true := by
  simp only [CVal.plain, plainL, plain_tm, Bool.and_self, Bool.and_true]
theorem LambdaAt_both {t : Term} (hok : t.ok) {n : Int} (hn : i64 n) :
    ∃ (o : Term) (b : Bool), o.ok ∧ CC f_s_LambdaAt [.v t.enc, .v (.int .i64 n)] [] = some (.tup [o.enc, .bool b], []) ∧ CC f_i_LambdaAt [.v t.enc, .v (.int .i64 n)] [] = some (.tup [o.enc, .bool b], []) := by
  have h1 := LambdaAt_s hok hn
  have h2 := LambdaAt_i hok hn
  cases h : (if 0 ≤ n then t.fns[n.toNat]? else none) with
  | none =>
    rw [h] at h1 h2
    refine ⟨.mk 0 0 [] [] (.mk 0 0 []) [] [], false, ⟨?_, ?_⟩, ?_, ?_⟩
    · rw [Term.wt_def]
      refine ⟨by show i64 0; unfold i64; omega, by show i64 0; unfold i64; omega, Nat.zero_le _, Nat.zero_le _, ?_, ⟨Nat.zero_le _, fun u hu => by cases hu⟩, Nat.zero_le _, fun u hu => by cases hu⟩
      rw [Ty.wt_def]
      exact ⟨by show i64 0; unfold i64; omega, by show i64 0; unfold i64; omega, Nat.zero_le _, fun u hu => by cases hu⟩
    · rw [Term.sz_def]; simp [Ty.sz_def]
    · rw [h1, Term.enc_def]; rfl
    · rw [h2, Term.enc_def]; rfl
  | some u =>
    rw [h] at h1 h2
    have hu : t.fns[n.toNat]? = some u := by
      split at h
      · exact h
      · cases h
    exact ⟨u, true, Term.fns_ok hok u (List.mem_of_getElem? hu), h1, h2⟩
theorem law_Lambdas {t : Term} (hw : t.wt) : CC f_l_FnExactLambdas [.v t.enc] [] = some (.bool true, []) := by
  have hs := szTerm_law t hw 1048576 (by omega) (by omega)
  have e := Term.enc_def t
  by_cases hn : (1048576 : Int) < (t.sz : Int)
  · have h1 : left 1048576 t.sz < 0 := (left_neg (by omega)).2 hn
    rw [e]
    apply go_l_FnExactLambdas
    unfold nf_l_FnExactLambdas
    simp only [← e, hs, Option.bind_some, asInt_int, h1, decide_true, br_true']
  · have hok : t.ok := ⟨hw, by omega⟩
    have h1 : ¬ left 1048576 t.sz < 0 := fun h => hn ((left_neg (by omega)).1 h)
    have hS := Lambdas_s hok
    have hI := Lambdas_i hok
    rw [e]
    apply go_l_FnExactLambdas
    unfold nf_l_FnExactLambdas
    simp only [← e, hs, Option.bind_some, asInt_int, h1, decide_false, br_false', toTerm_law t hok, hS, hI, eqTerm_law t hok, Term.enc_isAggN, Term.enc_cell0, Term.enc_cell1, Term.enc_cell2, Term.enc_cell3, Term.enc_cell4, Term.enc_cell5, Term.enc_cell6, Term.enc_cell7, Term.enc_cell8, Term.enc_eta, br_true', asBool_bool, asStr_str, asSl_sl, scalar_int, scalar_bool, isFlat_sl, br_not, Bool.not_true, decide_true, beq_self_eq_true, Ty.enc_eta]
theorem law_LambdaAt {t : Term} (hw : t.wt) {n : Int} (hi : i64 n) : CC f_l_FnExactLambdaAt [.v t.enc, .v (.int .i64 n)] [] = some (.bool true, []) := by
  have hs := szTerm_law t hw 1048576 (by omega) (by omega)
  have e := Term.enc_def t
  by_cases hn : (1048576 : Int) < (t.sz : Int)
  · have h1 : left 1048576 t.sz < 0 := (left_neg (by omega)).2 hn
    rw [e]
    apply go_l_FnExactLambdaAt
    unfold nf_l_FnExactLambdaAt
    simp only [← e, hs, Option.bind_some, asInt_int, h1, decide_true, br_true']
  · have hok : t.ok := ⟨hw, by omega⟩
    have h1 : ¬ left 1048576 t.sz < 0 := fun h => hn ((left_neg (by omega)).1 h)
    obtain ⟨o, b, ho, hS, hI⟩ := LambdaAt_both hok hi
    have hT := toTerm_law t hok
    have hE1 := eqTerm_law t hok
    have hE3 := eqTerm_law o ho
    have z1 := numTm_sz t
    have z2 := numTm_sz o
    have q1 : numTm t = 6 + numTL t.t.a + numTL t.ts + numTmL t.a := by cases t; rfl
    have q2 : numTm o = 6 + numTL o.t.a + numTL o.ts + numTmL o.a := by cases o; rfl
    have b1 := hok.2
    have b2 := ho.2
    have m1 := markTerm_law hok 1 (by omega) (by omega)
    have m3 := markTerm_law ho 1 (by omega) (by omega)
    have m4 := heldTerm_law ho 1 (by omega) (by omega)
    have n1 : ¬ (1 + (numTL t.t.a : Int) + (numTL t.ts : Int) + (numTmL t.a : Int) < 0) := by omega
    have n2 : ¬ (1 + (numTL o.t.a : Int) + (numTL o.ts : Int) + (numTmL o.a : Int) < 0) := by omega
    rw [e]
    apply go_l_FnExactLambdaAt
    unfold nf_l_FnExactLambdaAt
    simp only [← e, hs, hT, hS, hI, Option.bind_some, asInt_int, h1, decide_true, decide_false, br_true', br_false', asTup_tup, List.getElem?_cons_zero, List.getElem?_cons_succ, Term.enc_isAggN, Term.enc_cell0, Term.enc_cell1, Term.enc_cell2, Term.enc_cell3, Term.enc_cell4, Term.enc_cell5, Term.enc_cell6, Term.enc_cell7, Term.enc_cell8, asSl_sl, isFlat_sl, Term.enc_eta, Bool.not_true, isFlat_bool, hE1, hE3, scalar_bool, scalar_int, asBool_bool, m1, m3, m4, n1, n2, plain2]
    cases b <;> rfl
end Go.Proofs.Ythnjnnnobipnfaa.Abs

/- The law FnTypes. -/
import Derived.Test.YtegbnddjgifcdaaDoorDrawSubst
import Derived.Test.YtegbnddjgifcdaaDoorTyBack
import Derived.Test.YtegbnddjgifcdaaDoorParseT
import Derived.Test.YtegbnddjgifcdaaDoorTySame
import Derived.Test.YtegbnddjgifcdaaDoorTyMore
set_option linter.unusedVariables false
set_option linter.unusedSimpArgs false
set_option linter.unusedSectionVars false
set_option maxRecDepth 100000
namespace Go.Proofs.YtegbnddjgifcdaaDoor.Abs
open Go Go.Proofs
open Classical

theorem primOk : PrimOk E := ⟨fun _ => rfl, fun g p hg args pbs ret hr => by
  have hg : (match g with | 27 => some xSplit | 34 => some xJoin | 65 => some xItoa | _ => none : Option _) = some p := hg
  split at hg
  · cases hg; exact xSplit_ok hr
  · cases hg; exact xJoin_ok hr
  · cases hg; exact xItoa_ok hr
  · cases hg⟩
theorem TyNodes_i {t : Ty} (hok : t.ok) : CC f_i_TyNodes [.v t.enc] [] = some (.int .i64 (if t.right then (t.nodes : Int) else 0), []) := by
  have h := TyOk_i hok
  have h2 := measure_law t hok
  rw [Ty.enc_def]
  apply go_i_TyNodes
  unfold nf_i_TyNodes
  by_cases hr : t.right
  · have hg : t.good := hr.1
    simp [h, h2, hr, hg]
  · simp [h, hr]
theorem DrawTyText_law {b : List UInt8} (hb : b.length ≤ 1048576) : ∃ t : Ty, tyA t ∧ CC f_s_DrawTyText [.v (.sl (bytesC b))] [] = some (t.enc, []) := by
  obtain ⟨h0, e0⟩ := l1New_law hb
  obtain ⟨_, i1, g1, ⟨t, rfl, ht⟩, a1, b1, e1⟩ := l1Any_law hb 0 h0 (by omega) (by omega)
  refine ⟨t, ht, ?_⟩
  apply go_s_DrawTyText
  unfold nf_s_DrawTyText
  unfold cur at e1
  have ha : CVal.isAggN 3 (.agg [.sl (bytesC b), .int .i64 0, .int .i64 h0]) = true := rfl
  have c0 : (CVal.agg [.sl (bytesC b), .int .i64 0, .int .i64 h0]).cell 0 = some (.sl (bytesC b)) := rfl
  have c1 : (CVal.agg [.sl (bytesC b), .int .i64 0, .int .i64 h0]).cell 1 = some (.int .i64 0) := rfl
  have c2 : (CVal.agg [.sl (bytesC b), .int .i64 0, .int .i64 h0]).cell 2 = some (.int .i64 h0) := rfl
  have cf : CVal.asFp (.fp (.agg [.sl (bytesC b), .int .i64 0, .int .i64 h0]) 0) = some ((.agg [.sl (bytesC b), .int .i64 0, .int .i64 h0]), 0) := rfl
  simp only [e0, e1, ha, c0, c1, c2, cf, Option.bind_some, List.getElem?_cons_zero, List.getElem?_cons_succ, curL, decide_true, Bool.and_true, br_true', asSl_sl, asInt_int, Ty.enc_isAggN, Ty.enc_cell0, Ty.enc_cell1, Ty.enc_cell2, Bool.true_and, Ty.enc_eta]
theorem law_FnTypes {b : List UInt8} (_ : b.length ≤ maxLen) : CC f_l_FnTypes [.v (.sl (bytesC b))] [] = some (.bool true, []) := by
  have hlen : (bytesC b).length = b.length := by simp [bytesC]
  have hbig : CC f_l_big [.v (.sl (bytesC b))] [] = some (.bool (decide (1048576 < (b.length : Int))), []) := by
    apply go_l_big
    unfold nf_l_big
    rw [hlen]
  apply go_l_FnTypes
  unfold nf_l_FnTypes
  by_cases hb : 1048576 < (b.length : Int)
  · simp [hbig, hb]
  · obtain ⟨t, ht, hd⟩ := DrawTyText_law (b := b) (by omega)
    have hok : t.ok := ⟨ht.1, by have := ht.2; omega⟩
    have hb' : decide (1048576 < (b.length : Int)) = false := decide_eq_false hb
    have h1 := TyText_i hok
    have h2 := TyNodes_i hok
    have h3 := TyOk_s hok
    have h4 := TyOk_i hok
    by_cases hr : t.right
    · rw [if_pos hr] at h1 h2
      have hdr : decide t.right = true := decide_eq_true hr
      rw [hdr] at h3 h4
      have hp : parseT t.text = some t := by
        unfold parseT
        rw [Ty.cut_text hr.1]
        have := Ty.rd_toks t hr.1 6 hr.2.1 []
        rw [List.append_nil] at this
        rw [this]
        simp [hr]
      have hlen2 := Ty.text_len t hr.1
      have hn := hr.2.2
      have h5 := ParseTy_i (s := t.text) (by omega)
      rw [hp] at h5
      simp only [outT] at h5
      have h7 := SameTy_i t hok t
      rw [(Ty.same_iff t t).2 rfl] at h7
      have h8 := VarsOf_i hok
      rw [if_pos hr] at h8
      have h9 := Ground_i hok
      have n1 : decide ((0 : Int) < (t.nodes : Int)) = true := decide_eq_true (by rw [Ty.nodes_def]; omega)
      have n2 : decide ((t.nodes : Int) ≤ 60) = true := decide_eq_true (by omega)
      have e9 : (decide (t.vars = 0) == decide (t.right ∧ t.vars = 0)) = true := by
        by_cases hv : t.vars = 0 <;> simp [hr, hv]
      simp only [hbig, hb', hd, h1, h2, h3, h4, h5, h7, h8, h9, n1, n2, Option.bind_some, asBool_bool, br_false', br_true', asTup_tup, List.getElem?_cons_zero, List.getElem?_cons_succ, Ty.enc_isAggN, Ty.enc_cell0, Ty.enc_cell1, Ty.enc_cell2, Ty.enc_eta, beq_self_eq_true, Bool.not_false, Bool.not_true, asInt_int, asSl_sl, asStr_str, scalar_bool, scalar_int, cond_true, cond_false, e9, isFlat_str, isFlat_int, Bool.and_true]
    · rw [if_neg hr] at h1 h2
      have hdr : decide t.right = false := decide_eq_false hr
      rw [hdr] at h3 h4
      simp only [hbig, hb', hd, h1, h2, h3, h4, Option.bind_some, asBool_bool, br_false', br_true', List.getElem?_cons_zero, List.getElem?_cons_succ, Ty.enc_isAggN, Ty.enc_cell0, Ty.enc_cell1, Ty.enc_cell2, Ty.enc_eta, beq_self_eq_true, Bool.not_false, Bool.not_true, asInt_int, asStr_str, scalar_bool, scalar_int, decide_true, cond_true, cond_false, isFlat_str, isFlat_int, Bool.and_true]
end Go.Proofs.YtegbnddjgifcdaaDoor.Abs

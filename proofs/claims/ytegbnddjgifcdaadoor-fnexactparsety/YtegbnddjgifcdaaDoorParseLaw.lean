/- The law FnExactParseTy on data. -/
import Derived.Test.YtegbnddjgifcdaaDoorParseT
import Derived.Test.YtegbnddjgifcdaaDoorTyMarks
set_option linter.unusedVariables false
set_option linter.unusedSimpArgs false
set_option linter.unusedSectionVars false
set_option maxRecDepth 100000
namespace Go.Proofs.YtegbnddjgifcdaaDoor.Abs
open Go Go.Proofs
open Classical

theorem primOk : PrimOk E := ⟨fun _ => rfl, fun g p hg args pbs ret hr => by
  have hg : (match g with | 27 => some xSplit | _ => none : Option _) = some p := hg
  split at hg
  · cases hg; exact xSplit_ok hr
  · cases hg⟩
theorem numTL_le {t : Ty} (h : t.sz ≤ 1048576) : numTL t.a ≤ 2097152 := by
  rw [numTL_sz]; rw [Ty.sz_def] at h; omega
theorem law_ParseTy {s : List UInt8} (_ : s.length ≤ maxLen) : CC f_l_FnExactParseTy [.v (.str s)] [] = some (.bool true, []) := by
  apply go_l_FnExactParseTy
  unfold nf_l_FnExactParseTy
  by_cases hs : (1048576 : Int) < (s.length : Int)
  · simp only [decide_eq_true hs, br_true']
  · have hS := ParseTy_s (s := s) (by omega)
    have hI := ParseTy_i (s := s) (by omega)
    obtain ⟨o, b, ho, e⟩ : ∃ (o : Ty) (b : Bool), o.ok ∧ outT (parseT s) = .tup [o.enc, .bool b] := by
      cases hp : parseT s with
      | none => exact ⟨.mk 0 0 [], false, ⟨by rw [Ty.wt_def]; simp [i64], by simp [Ty.sz_def]⟩, rfl⟩
      | some t => exact ⟨t, true, parseT_ok hp, rfl⟩
    rw [e] at hS hI
    have hE3 := eqTy_law o ho
    have b2 := numTL_le ho.2
    have m3 := markTy_law ho 1 (by omega) (by omega)
    have m4 := heldTy_law ho 1 o.k o.n (by omega) (by omega)
    have n2 : ¬ (1 + (numTL o.a : Int) < 0) := by omega
    simp only [decide_eq_false hs, hS, hI, Option.bind_some, asInt_int, br_true', br_false', asTup_tup, List.getElem?_cons_zero, List.getElem?_cons_succ, Ty.enc_isAggN, Ty.enc_cell0, Ty.enc_cell1, Ty.enc_cell2, asSl_sl, isFlat_sl, Ty.enc_eta, Bool.not_true, isFlat_bool, hE3, scalar_bool, scalar_int, asBool_bool, m3, m4, n2, decide_false, decide_true]
    cases b <;> rfl
end Go.Proofs.YtegbnddjgifcdaaDoor.Abs

/- ParseTy, both ways. -/
import Derived.Test.YtegbnddjgifcdaaDoorSplitW
set_option linter.unusedVariables false
set_option linter.unusedSimpArgs false
set_option linter.unusedSectionVars false
set_option maxRecDepth 100000
namespace Go.Proofs.YtegbnddjgifcdaaDoor.Abs
open Go Go.Proofs
open Classical

theorem Split_law {s : List UInt8} (hs : s.length ≤ 1048576) : CC f_strings_Split [.v (.str s), .v (.str [32])] [] = some (.sl (strsC (cutP [] s)), []) := by
  rw [← split_cut s.length s (Nat.le_refl _)]
  exact extW (by decide) rfl (xSplit_eq (by omega) (by simp))
/-- What a text tells. -/
noncomputable def parseT (s : List UInt8) : Option Ty := match rd 6 (cutP [] s) with
  | some (t, []) => if t.right then some t else none
  | _ => none
theorem rd_ok {c : List (List UInt8)} {t : Ty} {r : List (List UInt8)} (h : rd 6 c = some (t, r)) : t.ok := by
  have := rd_tyD 6 c t r h
  refine ⟨this.1, ?_⟩
  have h2 := this.2
  simp at h2
  omega
theorem parseT_ok {s : List UInt8} {t : Ty} (h : parseT s = some t) : t.ok := by
  unfold parseT at h
  split at h
  · rename_i u e
    split at h
    · cases h; exact rd_ok e
    · cases h
  · cases h
def outT (o : Option Ty) : CVal := match o with
  | some t => .tup [t.enc, .bool true]
  | none => .tup [(Ty.mk 0 0 []).enc, .bool false]
theorem ez : (Ty.mk 0 0 []).enc = .agg [.int .i64 0, .int .i64 0, .sl []] := by rw [Ty.enc_def]; rfl
theorem ParseTy_i {s : List UInt8} (hs : s.length ≤ 1048576) : CC f_i_ParseTy [.v (.str s)] [] = some (outT (parseT s), []) := by
  have h1 := Split_law hs
  have h2 := ty_law 6 (by omega) (cutP [] s)
  simp only [Int.cast_ofNat_Int] at h2
  apply go_i_ParseTy
  unfold nf_i_ParseTy
  unfold parseT
  cases hr : rd 6 (cutP [] s) with
  | none =>
    obtain ⟨t, r, e⟩ := h2.2 hr
    simp only [h1, e, Option.bind_some, isFlat_sl, Bool.and_true, br_true', br_false', List.getElem?_cons_zero, List.getElem?_cons_succ, Ty.enc_isAggN, Ty.enc_cell0, Ty.enc_cell1, Ty.enc_cell2, asSl_sl, asBool_bool, outT, ez]
  | some x =>
    obtain ⟨t, r⟩ := x
    have e := h2.1 t r hr
    have hok := rd_ok hr
    have h3 := TyOk_i hok
    simp only [h1, e, Option.bind_some, isFlat_sl, Bool.and_true, br_true', br_false', List.getElem?_cons_zero, List.getElem?_cons_succ, Ty.enc_isAggN, Ty.enc_cell0, Ty.enc_cell1, Ty.enc_cell2, asSl_sl, asBool_bool, asInt_int, Ty.enc_eta, h3, scalar_bool, Bool.not_true]
    cases r with
    | nil =>
      have d1 : decide ((0 : Int) < ((strsC []).length : Int)) = false := decide_eq_false (by simp)
      by_cases hR : t.right
      · simp only [d1, hR, decide_true, Bool.not_true, br_true', br_false', Option.bind_some, if_true, outT, Ty.enc_eta]
      · simp only [d1, hR, decide_false, Bool.not_false, br_true', br_false', Option.bind_some, if_false, outT, ez]
    | cons w r =>
      have d1 : decide ((0 : Int) < ((strsC (w :: r)).length : Int)) = true := decide_eq_true (by simp)
      simp only [d1, br_true', br_false', Option.bind_some, outT, ez]
end Go.Proofs.YtegbnddjgifcdaaDoor.Abs

/- The law FnExactSubstTy on data. -/
import Derived.Test.YtjndiaahgjhaeaaTySubst
import Derived.Test.YtjndiaahgjhaeaaTyMarks
set_option linter.unusedVariables false
set_option linter.unusedSimpArgs false
set_option maxRecDepth 100000
namespace Go.Proofs.Ytjndiaahgjhaeaa.Abs
open Go Go.Proofs
open Classical
theorem primOk : PrimOk E := ⟨fun _ => rfl, fun g p h => by cases h⟩
theorem numTL_le {t : Ty} (h : t.sz ≤ 1048576) : numTL t.a ≤ 2097152 := by
  rw [numTL_sz]; rw [Ty.sz_def] at h; omega
theorem SubstTy_both {t : Ty} {ts : List Ty} (hok : t.ok) (hl : ts.length ≤ 1048576) (hts : ∀ u ∈ ts, u.ok) :
    ∃ (o : Ty) (b : Bool), o.ok ∧ CC f_s_SubstTy [.v t.enc, .v (.sl (ts.map Ty.enc))] [] = some (.tup [o.enc, .bool b], []) ∧ CC f_i_SubstTy [.v t.enc, .v (.sl (ts.map Ty.enc))] [] = some (.tup [o.enc, .bool b], []) := by
  have h1 := SubstTy_s hok hl hts
  have h2 := SubstTy_i hok hl hts
  by_cases h : SubstTyOk t ts
  · rw [if_pos h] at h1 h2
    exact ⟨_, _, Ty.put_ok hts (fun u hu => (h.1.2.1 u hu).2.2) hok h.1.1.2.2, h1, h2⟩
  · rw [if_neg h] at h1 h2
    refine ⟨_, _, ?_, h1, h2⟩
    constructor
    · rw [Ty.wt_def]; simp [i64]
    · simp [Ty.sz_def]
theorem plain2 {t : Ty} {b : Bool} : CVal.plain (.tup [t.enc, .bool b]) = true := by simp [CVal.plain, plainL, plain_enc]
theorem law_SubstTy {t : Ty} {ts : List Ty} (hw : t.wt) (hws : ts.length ≤ maxLen ∧ ∀ u ∈ ts, u.wt) : CC f_l_FnExactSubstTy [.v t.enc, .v (.sl (ts.map Ty.enc))] [] = some (.bool true, []) := by
  have hs := szTy_law t hw 1048576 (by omega) (by omega)
  have e := Ty.enc_def t
  by_cases hn : (1048576 : Int) < (t.sz : Int)
  · have h1 : left 1048576 t.sz < 0 := (left_neg (by omega)).2 hn
    rw [e]
    apply go_l_FnExactSubstTy
    unfold nf_l_FnExactSubstTy
    simp only [← e, hs, Option.bind_some, asInt_int, h1, decide_true, br_true']
  · have hok : t.ok := ⟨hw, by omega⟩
    have h1 : ¬ left 1048576 t.sz < 0 := fun h => hn ((left_neg (by omega)).1 h)
    have hs2 := szTyS_law hws.1 (fun u hu => szTy_law u (hws.2 u hu)) (left 1048576 t.sz) (by omega) (by rw [left_ok hn]; omega)
    by_cases hn2 : left 1048576 t.sz < ((ts.length + Ty.szL ts : Nat) : Int)
    · have h2 : left (left 1048576 t.sz) (ts.length + Ty.szL ts) < 0 := (left_neg (by omega)).2 hn2
      rw [e]
      apply go_l_FnExactSubstTy
      unfold nf_l_FnExactSubstTy
      simp only [← e, hs, hs2, Option.bind_some, asInt_int, h1, h2, decide_true, decide_false, br_true', br_false']
    · have h2 : ¬ left (left 1048576 t.sz) (ts.length + Ty.szL ts) < 0 := fun h => hn2 ((left_neg (by omega)).1 h)
      rw [left_ok hn] at hn2
      have hsum : t.sz + ts.length + Ty.szL ts ≤ 1048576 := by omega
      have hl : ts.length ≤ 1048576 := by omega
      have hts : ∀ u ∈ ts, u.ok := fun u hu => ⟨hws.2 u hu, by have := Ty.sz_mem hu; omega⟩
      obtain ⟨o, b, ho, hS, hI⟩ := SubstTy_both hok hl hts
      have hT := toTyS_law hl fun u hu => toTy_law u (hts u hu)
      have hT1 := toTy_law t hok
      have hE1 := eqTy_law t hok
      have hE2 := eqTyS_law hl fun u hu => eqTy_law u (hts u hu)
      have hE3 := eqTy_law o ho
      have b1 := numTL_le hok.2
      have b2 := numTL_le ho.2
      have b3 : numTL ts ≤ 2097152 := by rw [numTL_sz]; omega
      have m1 := markTy_law hok 1 (by omega) (by omega)
      have m2 := markTyS_law hl (fun u hu => MarkTy_all u (hts u hu)) (1 + numTL t.a) (by omega) (by omega)
      have m3 := markTy_law ho 1 (by omega) (by omega)
      have m4 := heldTy_law ho 1 o.k o.n (by omega) (by omega)
      have n1 : ¬ (1 + (numTL t.a : Int) + (numTL ts : Int) < 0) := by omega
      have n2 : ¬ (1 + (numTL o.a : Int) < 0) := by omega
      rw [e]
      apply go_l_FnExactSubstTy
      unfold nf_l_FnExactSubstTy
      simp only [← e, hs, hs2, hT, hT1, hS, hI, Option.bind_some, asInt_int, h1, h2, decide_true, decide_false, br_true', br_false', asTup_tup, List.getElem?_cons_zero, List.getElem?_cons_succ, Ty.enc_isAggN, Ty.enc_cell0, Ty.enc_cell1, Ty.enc_cell2, asSl_sl, isFlat_sl, Ty.enc_eta, plain2, Bool.not_true, isFlat_bool, hE1, hE2, hE3, scalar_bool, scalar_int, asBool_bool, m1, m2, m3, m4, n1, n2]
      cases b <;> rfl
end Go.Proofs.Ytjndiaahgjhaeaa.Abs

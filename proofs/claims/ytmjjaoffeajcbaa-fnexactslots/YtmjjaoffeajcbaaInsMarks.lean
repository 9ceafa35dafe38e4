/- Marks in instructions. -/
import Derived.Test.YtmjjaoffeajcbaaIntMark
import Derived.Test.YtmjjaoffeajcbaaInsFns
set_option linter.unusedVariables false
set_option linter.unusedSimpArgs false
set_option linter.unusedSectionVars false
set_option maxRecDepth 100000
namespace Go.Proofs.Ytmjjaoffeajcbaa.Abs
open Go Go.Proofs

theorem all_fits_ints (l : List Int) : (l.map (CVal.int .i64)).all (CVal.fits false 1) = true := by simp
/-! ### Marks in instructions -/
def insMarks (l : List Ins) : Nat := (l.map fun i => 6 + i.l.length).sum
theorem insMarks_cons {i : Ins} {l : List Ins} : insMarks (i :: l) = 6 + i.l.length + insMarks l := by simp [insMarks]
theorem insMarks_le : ∀ l : List Ins, insMarks l ≤ 6 * l.length + Ins.szL l
  | [] => by simp [insMarks]
  | i :: l => by
    have := insMarks_le l
    rw [insMarks_cons, Ins.szL_cons, Ins.sz_def, List.length_cons]; omega
theorem sp1 {a b c d e f g z : CVal} : splice [a, b, c, d, e, f, g] 1 [z] = [a, z, c, d, e, f, g] := rfl
theorem sp2 {a b c d e f g z : CVal} : splice [a, b, c, d, e, f, g] 2 [z] = [a, b, z, d, e, f, g] := rfl
theorem sp3 {a b c d e f g z : CVal} : splice [a, b, c, d, e, f, g] 3 [z] = [a, b, c, z, e, f, g] := rfl
theorem sp4 {a b c d e f g z : CVal} : splice [a, b, c, d, e, f, g] 4 [z] = [a, b, c, d, z, f, g] := rfl
theorem sp6 {a b c d e f g z : CVal} : splice [a, b, c, d, e, f, g] 6 [z] = [a, b, c, d, e, f, z] := rfl
theorem sp0 {a b c d e f g : CVal} : List.drop 1 [a, b, c, d, e, f, g] = [b, c, d, e, f, g] := rfl
theorem cells7 {l : List CVal} : CVal.cells (.agg l) = l := rfl
theorem len7 {a b c d e f g : CVal} : [a, b, c, d, e, f, g].length = 7 := rfl
theorem fits7 {l : List CVal} : CVal.fits false 1 (.agg l) = false := by simp [CVal.fits, CVal.isFlat]
theorem put5 {a b c d e f g z : CVal} : CVal.putCell (.agg [a, b, c, d, e, f, g]) 5 z = .agg [a, b, c, d, e, z, g] := rfl
theorem cell5 {a b c d e f g : CVal} : CVal.cell (.agg [a, b, c, d, e, f, g]) 5 = some f := rfl
theorem markInsS_loop : ∀ (suf : List Ins) (done : List CVal) (k : Int), done.length + suf.length ≤ 2000000 → (∀ x ∈ suf, x.l.length ≤ 2000000) → 0 ≤ k → k + insMarks suf ≤ 1000000000 →
    ∃ out, LL f_l_markInsS 0 lc_l_markInsS_0 [PSh.arr ⟨true, true, 0⟩ false 7] k_l_markInsS_0 (((), k, (done.length : Int), ()), done ++ suf.map Ins.enc, ()) =
      some (.out 0 (((), k + insMarks suf, ((done.length + suf.length : Nat) : Int), ()), out, ()))
  | [], done, k, hl, hx, h0, hb => by
    refine ⟨done, ?_⟩
    apply gl_l_markInsS_0
    unfold nl_l_markInsS_0
    simp [insMarks]
  | s :: suf, done, k, hl, hx, h0, hb => by
    simp only [List.length_cons] at hl
    rw [insMarks_cons] at hb
    have hs := hx s (by simp)
    have w1 : IntKind.i64.wrap (k + 1) = k + 1 := by rw [wrap_i64] <;> omega
    have w2 : IntKind.i64.wrap (k + 1 + 1) = k + 1 + 1 := by rw [wrap_i64] <;> omega
    have w3 : IntKind.i64.wrap (k + 1 + 1 + 1) = k + 1 + 1 + 1 := by rw [wrap_i64] <;> omega
    have w4 : IntKind.i64.wrap (k + 1 + 1 + 1 + 1) = k + 1 + 1 + 1 + 1 := by rw [wrap_i64] <;> omega
    have w5 : IntKind.i64.wrap (k + 1 + 1 + 1 + 1 + 1) = k + 1 + 1 + 1 + 1 + 1 := by rw [wrap_i64] <;> omega
    have w6 : IntKind.i64.wrap (k + 1 + 1 + 1 + 1 + 1 + (s.l.length : Int) + 1) = k + 1 + 1 + 1 + 1 + 1 + (s.l.length : Int) + 1 := by rw [wrap_i64] <;> omega
    have hm := markIntS_law (l := s.l) (by omega) (k + 1 + 1 + 1 + 1 + 1) (by omega) (by omega)
    have w7 : IntKind.i64.wrap ((done.length : Int) + 1) = (done.length : Int) + 1 := by rw [wrap_i64] <;> omega
    obtain ⟨out, ih⟩ := markInsS_loop suf (done ++ [CVal.agg [.int .i64 k, .int .i64 (k + 1), .int .i64 (k + 1 + 1), .int .i64 (k + 1 + 1 + 1), .int .i64 (k + 1 + 1 + 1 + 1), .sl ((markIL s.l.length (k + 1 + 1 + 1 + 1 + 1)).map (.int .i64)), .int .i64 (k + 1 + 1 + 1 + 1 + 1 + (s.l.length : Int))]])
      (k + 1 + 1 + 1 + 1 + 1 + (s.l.length : Int) + 1) (by simp; omega) (fun x h => hx x (by simp [h])) (by omega) (by omega)
    simp only [List.append_assoc, List.singleton_append, List.length_append, List.length_cons, List.length_nil] at ih
    rw [show ((done.length + (0 + 1) : Nat) : Int) = (done.length : Int) + 1 by omega] at ih
    refine ⟨out, ?_⟩
    have e0 : ((done.length : Nat) : Int).toNat = done.length := by simp
    apply gl_l_markInsS_0
    unfold nl_l_markInsS_0
    rw [List.map_cons, lti_done, Ins.enc_def]
    simp only [nn_mid, br_true', br_false', e0, lt_done, get_done, set_done, Bool.and_true, Option.bind_some, fits7, isAgg_agg, cells7, len7, sp0, sp1, sp2, sp3, sp4, sp6, w1, w2, w3, w4, w5, cell5, asSl_sl, all_fits_ints, hm, List.getElem?_cons_zero, put5, asInt_int, isFlat_int, w6, w7, decide_true, Bool.true_and, List.length_cons, List.length_nil, Nat.reduceAdd, Nat.reduceLeDiff]
    rw [ih]
    rw [insMarks_cons]
    have e5 : k + 1 + 1 + 1 + 1 + 1 + (s.l.length : Int) + 1 + (insMarks suf : Int) = k + ((6 + s.l.length + insMarks suf : Nat) : Int) := by omega
    have e7 : done.length + (0 + 1) + suf.length = done.length + (suf.length + 1) := by omega
    rw [e5, e7]
    rfl
end Go.Proofs.Ytmjjaoffeajcbaa.Abs

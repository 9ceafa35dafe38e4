/- Marks in lists of lists of numbers, and in pieces. -/
import Derived.Test.YtmjjaoffeajcbaaIntSS
import Derived.Test.YtmjjaoffeajcbaaIntMark
import Derived.Test.YtmjjaoffeajcbaaInsFns
set_option linter.unusedVariables false
set_option linter.unusedSimpArgs false
set_option linter.unusedSectionVars false
set_option maxRecDepth 100000
namespace Go.Proofs.Ytmjjaoffeajcbaa.Abs
open Go Go.Proofs

/-- So many marks in each list. -/
def markSL : List Nat → Int → List (List Int)
  | [], _ => []
  | n :: r, k => markIL n k :: markSL r (k + n)
theorem markSL_len : ∀ {ns : List Nat} {k : Int}, (markSL ns k).length = ns.length
  | [], _ => rfl
  | n :: r, k => by simp [markSL, markSL_len (ns := r)]
theorem all_fits_ints (l : List Int) : (l.map (CVal.int .i64)).all (CVal.fits false 1) = true := by simp
theorem markIntSS_loop : ∀ (suf : List (List Int)) (done : List CVal) (k : Int), done.length + suf.length ≤ 1000000 → (∀ x ∈ suf, x.length ≤ 1000000) → 0 ≤ k → k + SzSS suf ≤ 1000000000 →
    LL f_l_markIntSS 0 lc_l_markIntSS_0 [PSh.arr ⟨true, true, 0⟩ false 1] k_l_markIntSS_0 (((), k, (done.length : Int), ()), done ++ suf.map ei, ()) =
      some (.out 0 (((), k + SzSS suf, ((done.length + suf.length : Nat) : Int), ()), done ++ (markSL (suf.map List.length) k).map ei, ()))
  | [], done, k, hl, hx, h0, hb => by
    apply gl_l_markIntSS_0
    unfold nl_l_markIntSS_0
    simp [markSL, SzSS]
  | s :: suf, done, k, hl, hx, h0, hb => by
    simp only [List.length_cons] at hl
    rw [SzSS_cons] at hb
    have hs := hx s (by simp)
    have w3 : IntKind.i64.wrap ((done.length : Int) + 1) = ((done ++ [ei (markIL s.length k)]).length : Int) := by rw [wrap_i64 (by omega) (by omega)]; simp
    have ih := markIntSS_loop suf (done ++ [ei (markIL s.length k)]) (k + s.length) (by simp; omega) (fun x h => hx x (by simp [h])) (by omega) (by omega)
    simp only [List.append_assoc, List.singleton_append] at ih
    have e0 : ((done.length : Nat) : Int).toNat = done.length := by simp
    have hm := markIntS_law (l := s) (by omega) k h0 (by omega)
    have hp : CVal.putCell (ei s) 0 (.sl ((markIL s.length k).map (.int .i64))) = ei (markIL s.length k) := rfl
    apply gl_l_markIntSS_0
    unfold nl_l_markIntSS_0
    rw [List.map_cons, lti_done]
    simp only [nn_mid, br_true', e0]
    rw [lt_done, get_done]
    simp only [Option.bind_some, Bool.and_true, br_true', ei_cell, ei_asSl, all_fits_ints, hm, List.getElem?_cons_zero, asInt_int, hp, set_done, w3]
    rw [ih]
    simp only [List.length_append, List.length_cons, List.length_nil, List.map_cons, markSL, SzSS_cons]
    have e5 : k + (s.length : Int) + (SzSS suf : Int) = k + ((s.length + SzSS suf : Nat) : Int) := by omega
    have e7 : done.length + (0 + 1) + suf.length = done.length + (suf.length + 1) := by omega
    rw [e5, e7]
theorem markIntSS_law {l : List (List Int)} (hl : l.length ≤ 1000000) (hx : ∀ x ∈ l, x.length ≤ 1000000) (k : Int) (h0 : 0 ≤ k) (hb : k + SzSS l ≤ 1000000000) :
    CC f_l_markIntSS [.lref 0 0, .v (.int .i64 k)] [PB.arr ⟨true, true, 0⟩ false 1 (l.map ei)] = some (.int .i64 (k + SzSS l), [(markSL (l.map List.length) k).map ei]) := by
  have hloop := markIntSS_loop l [] k (by simpa using hl) hx h0 hb
  simp only [List.nil_append, List.length_nil, Int.cast_ofNat_Int] at hloop
  apply go_l_markIntSS
  unfold nf_l_markIntSS
  rw [hloop]
  rfl
theorem heldIntSS_loop : ∀ (ns : List Nat) (done : List CVal) (k : Int), done.length + ns.length ≤ 1000000 → (∀ x ∈ ns, x ≤ 1000000) → 0 ≤ k → k + ns.sum ≤ 1000000000 →
    ∃ q, LL f_l_heldIntSS 0 lc_l_heldIntSS_0 [] k_l_heldIntSS_0 ((done ++ (markSL ns k).map ei, k, (done.length : Int), ()), ()) =
      some (.out 0 ((q, k + ns.sum, ((done.length + ns.length : Nat) : Int), ()), ()))
  | [], done, k, hl, hx, h0, hb => by
    refine ⟨_, gl_l_heldIntSS_0 _ _ _ _ (by unfold nl_l_heldIntSS_0; simp [markSL]; rfl)⟩
  | n :: ns, done, k, hl, hx, h0, hb => by
    simp only [List.length_cons] at hl
    rw [List.sum_cons] at hb
    have hs := hx n (by simp)
    have w3 : IntKind.i64.wrap ((done.length : Int) + 1) = ((done ++ [ei (markIL n k)]).length : Int) := by rw [wrap_i64 (by omega) (by omega)]; simp
    obtain ⟨q, ih⟩ := heldIntSS_loop ns (done ++ [ei (markIL n k)]) (k + n) (by simp; omega) (fun x h => hx x (by simp [h])) (by omega) (by omega)
    simp only [List.append_assoc, List.singleton_append] at ih
    have e0 : ((done.length : Nat) : Int).toNat = done.length := by simp
    have hh := heldIntS_law n (by omega) k h0 (by omega)
    have nn : ¬ k + (n : Int) < 0 := by omega
    refine ⟨q, gl_l_heldIntSS_0 _ _ _ _ ?_⟩
    unfold nl_l_heldIntSS_0
    rw [show (markSL (n :: ns) k).map ei = ei (markIL n k) :: (markSL ns (k + n)).map ei from rfl, lti_done]
    simp only [nn_mid, br_true', e0]
    rw [get_done]
    simp only [Option.bind_some, ei_fits, ei_cell, br_true']
    rw [show CC f_l_heldIntS [.v (ei (markIL n k)), .v (.int .i64 k)] [] = _ from hh]
    simp only [Option.bind_some, asInt_int, decide_eq_false nn, br_false', w3]
    rw [ih]
    simp only [List.length_append, List.length_cons, List.length_nil, List.sum_cons]
    have e5 : k + (n : Int) + (ns.sum : Int) = k + ((n + ns.sum : Nat) : Int) := by omega
    have e7 : done.length + (0 + 1) + ns.length = done.length + (ns.length + 1) := by omega
    rw [e5, e7]
theorem heldIntSS_law (ns : List Nat) (hl : ns.length ≤ 1000000) (hx : ∀ x ∈ ns, x ≤ 1000000) (k : Int) (h0 : 0 ≤ k) (hb : k + ns.sum ≤ 1000000000) :
    CC f_l_heldIntSS [.v (.sl ((markSL ns k).map ei)), .v (.int .i64 k)] [] = some (.int .i64 (k + ns.sum), []) := by
  obtain ⟨q, hloop⟩ := heldIntSS_loop ns [] k (by simpa using hl) hx h0 hb
  simp only [List.nil_append, List.length_nil, Int.cast_ofNat_Int] at hloop
  apply go_l_heldIntSS
  unfold nf_l_heldIntSS
  rw [hloop]
  rfl

/-! ### Marks in instructions -/
def insMarks (l : List Ins) : Nat := (l.map fun i => 6 + i.l.length).sum
theorem insMarks_cons {i : Ins} {l : List Ins} : insMarks (i :: l) = 6 + i.l.length + insMarks l := by simp [insMarks]
theorem insMarks_le : ∀ l : List Ins, insMarks l ≤ 6 * l.length + Ins.szL l
  | [] => by simp [insMarks]
  | i :: l => by
    have := insMarks_le l
    rw [insMarks_cons, Ins.szL_cons, Ins.sz_def, List.length_cons]; omega
theorem sp1 {a b c d e f g z : CVal} : splice [a, b, c, d, e, f, g] 1 [z] = [a, z, c, d, e, f, g] := rfl
theorem sp2 {a b c d e f g z : CVal} : splice [a, b, c, d, e, f, g] 2 [z] = [a, b, z, d, e, f, g] := rfl
theorem sp3 {a b c d e f g z : CVal} : splice [a, b, c, d, e, f, g] 3 [z] = [a, b, c, z, e, f, g] := rfl
theorem sp4 {a b c d e f g z : CVal} : splice [a, b, c, d, e, f, g] 4 [z] = [a, b, c, d, z, f, g] := rfl
theorem sp6 {a b c d e f g z : CVal} : splice [a, b, c, d, e, f, g] 6 [z] = [a, b, c, d, e, f, z] := rfl
theorem sp0 {a b c d e f g : CVal} : List.drop 1 [a, b, c, d, e, f, g] = [b, c, d, e, f, g] := rfl
theorem cells7 {l : List CVal} : CVal.cells (.agg l) = l := rfl
theorem len7 {a b c d e f g : CVal} : [a, b, c, d, e, f, g].length = 7 := rfl
theorem fits7 {l : List CVal} : CVal.fits false 1 (.agg l) = false := by simp [CVal.fits, CVal.isFlat]
theorem put5 {a b c d e f g z : CVal} : CVal.putCell (.agg [a, b, c, d, e, f, g]) 5 z = .agg [a, b, c, d, e, z, g] := rfl
theorem cell5 {a b c d e f g : CVal} : CVal.cell (.agg [a, b, c, d, e, f, g]) 5 = some f := rfl
theorem markInsS_loop : ∀ (suf : List Ins) (done : List CVal) (k : Int), done.length + suf.length ≤ 2000000 → (∀ x ∈ suf, x.l.length ≤ 2000000) → 0 ≤ k → k + insMarks suf ≤ 1000000000 →
    ∃ out, LL f_l_markInsS 0 lc_l_markInsS_0 [PSh.arr ⟨true, true, 0⟩ false 7] k_l_markInsS_0 (((), k, (done.length : Int), ()), done ++ suf.map Ins.enc, ()) =
      some (.out 0 (((), k + insMarks suf, ((done.length + suf.length : Nat) : Int), ()), out, ()))
  | [], done, k, hl, hx, h0, hb => by
    refine ⟨done, ?_⟩
    apply gl_l_markInsS_0
    unfold nl_l_markInsS_0
    simp [insMarks]
  | s :: suf, done, k, hl, hx, h0, hb => by
    simp only [List.length_cons] at hl
    rw [insMarks_cons] at hb
    have hs := hx s (by simp)
    have w1 : IntKind.i64.wrap (k + 1) = k + 1 := by rw [wrap_i64] <;> omega
    have w2 : IntKind.i64.wrap (k + 1 + 1) = k + 1 + 1 := by rw [wrap_i64] <;> omega
    have w3 : IntKind.i64.wrap (k + 1 + 1 + 1) = k + 1 + 1 + 1 := by rw [wrap_i64] <;> omega
    have w4 : IntKind.i64.wrap (k + 1 + 1 + 1 + 1) = k + 1 + 1 + 1 + 1 := by rw [wrap_i64] <;> omega
    have w5 : IntKind.i64.wrap (k + 1 + 1 + 1 + 1 + 1) = k + 1 + 1 + 1 + 1 + 1 := by rw [wrap_i64] <;> omega
    have w6 : IntKind.i64.wrap (k + 1 + 1 + 1 + 1 + 1 + (s.l.length : Int) + 1) = k + 1 + 1 + 1 + 1 + 1 + (s.l.length : Int) + 1 := by rw [wrap_i64] <;> omega
    have hm := markIntS_law (l := s.l) (by omega) (k + 1 + 1 + 1 + 1 + 1) (by omega) (by omega)
    have w7 : IntKind.i64.wrap ((done.length : Int) + 1) = (done.length : Int) + 1 := by rw [wrap_i64] <;> omega
    obtain ⟨out, ih⟩ := markInsS_loop suf (done ++ [CVal.agg [.int .i64 k, .int .i64 (k + 1), .int .i64 (k + 1 + 1), .int .i64 (k + 1 + 1 + 1), .int .i64 (k + 1 + 1 + 1 + 1), .sl ((markIL s.l.length (k + 1 + 1 + 1 + 1 + 1)).map (.int .i64)), .int .i64 (k + 1 + 1 + 1 + 1 + 1 + (s.l.length : Int))]])
      (k + 1 + 1 + 1 + 1 + 1 + (s.l.length : Int) + 1) (by simp; omega) (fun x h => hx x (by simp [h])) (by omega) (by omega)
    simp only [List.append_assoc, List.singleton_append, List.length_append, List.length_cons, List.length_nil] at ih
    rw [show ((done.length + (0 + 1) : Nat) : Int) = (done.length : Int) + 1 by omega] at ih
    refine ⟨out, ?_⟩
    have e0 : ((done.length : Nat) : Int).toNat = done.length := by simp
    apply gl_l_markInsS_0
    unfold nl_l_markInsS_0
    rw [List.map_cons, lti_done, Ins.enc_def]
    simp only [nn_mid, br_true', br_false', e0, lt_done, get_done, set_done, Bool.and_true, Option.bind_some, fits7, isAgg_agg, cells7, len7, sp0, sp1, sp2, sp3, sp4, sp6, w1, w2, w3, w4, w5, cell5, asSl_sl, all_fits_ints, hm, List.getElem?_cons_zero, put5, asInt_int, isFlat_int, w6, w7, decide_true, Bool.true_and, List.length_cons, List.length_nil, Nat.reduceAdd, Nat.reduceLeDiff]
    rw [ih]
    rw [insMarks_cons]
    have e5 : k + 1 + 1 + 1 + 1 + 1 + (s.l.length : Int) + 1 + (insMarks suf : Int) = k + ((6 + s.l.length + insMarks suf : Nat) : Int) := by omega
    have e7 : done.length + (0 + 1) + suf.length = done.length + (suf.length + 1) := by omega
    rw [e5, e7]
    rfl
end Go.Proofs.Ytmjjaoffeajcbaa.Abs

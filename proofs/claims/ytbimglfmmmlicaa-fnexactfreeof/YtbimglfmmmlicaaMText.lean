/- The texts that stand for numbers, and marks in slices of texts. -/
import Derived.Test.YtbimglfmmmlicaaData
import Derived.Test.YtbimglfmmmlicaaH1Eqs
set_option linter.unusedVariables false
set_option linter.unusedSimpArgs false
set_option maxRecDepth 100000
namespace Go.Proofs.Ytbimglfmmmlicaa.Abs
open Go Go.Proofs

/-- A number's digits, ahead of others. -/
def mdigits (k : Nat) (acc : List UInt8) : List UInt8 :=
  if h : k = 0 then acc else mdigits (k / 10) (UInt8.ofNat (48 + k % 10) :: acc)
termination_by k
decreasing_by omega
def mtext (k : Int) : List UInt8 := if k ≤ 0 then [109, 48] else 109 :: mdigits k.toNat []
theorem mdigits_len : ∀ (k : Nat) (acc : List UInt8), (mdigits k acc).length ≤ k + acc.length := by
  intro k
  induction k using Nat.strongRecOn with
  | ind k ih =>
    intro acc
    rw [mdigits]
    split
    · omega
    · have := ih (k / 10) (by omega) (UInt8.ofNat (48 + k % 10) :: acc)
      simp only [List.length_cons] at this
      omega
theorem markText_loop : ∀ (k : Nat) (acc : List UInt8), k ≤ 4000000000 → k + acc.length ≤ 1000000000000 →
    LL f_l_markText 0 lc_l_markText_0 [] k_l_markText_0 (((k : Int), acc, ()), ()) = some (.out 0 ((0, mdigits k acc, ()), ())) := by
  intro k
  induction k using Nat.strongRecOn with
  | ind k ih =>
    intro acc hk hl
    apply gl_l_markText_0
    unfold nl_l_markText_0
    rw [mdigits]
    by_cases h0 : k = 0
    · subst h0; simp
    · have e1 : (0 : Int) < (k : Int) := by omega
      have e2 : 1 + acc.length ≤ 1152921504606846976 := by omega
      have e3 : IntKind.i64.wrap ((k : Int).tdiv 10) = ((k / 10 : Nat) : Int) := by
        rw [show (k : Int).tdiv 10 = ((k / 10 : Nat) : Int) by rw [Int.tdiv_eq_ediv_of_nonneg (by omega)]; omega, wrap_i64] <;> omega
      have e4 : UInt8.ofNat (IntKind.u8.wrap (IntKind.i64.wrap (48 + (k : Int).tmod 10))).toNat = UInt8.ofNat (48 + k % 10) := by
        have h1 : (k : Int).tmod 10 = ((k % 10 : Nat) : Int) := by rw [Int.tmod_eq_emod_of_nonneg (by omega)]; omega
        have h2 : k % 10 < 10 := by omega
        rw [h1, wrap_i64 (by omega) (by omega)]
        congr 1
        simp [IntKind.wrap, IntKind.signed, IntKind.bits]
        omega
      rw [dif_neg h0]
      simp only [e1, e2, e3, e4, decide_true, br_true', List.singleton_append]
      exact ih (k / 10) (by omega) _ (by omega) (by simp; omega)
theorem markText_law (k : Int) (hk : k ≤ 4000000000) : CC f_l_markText [.v (.int .i64 k)] [] = some (.str (mtext k), []) := by
  apply go_l_markText
  unfold nf_l_markText mtext
  by_cases h : k ≤ 0
  · simp [h]
  · have hl := markText_loop k.toNat [] (by omega) (by simp; omega)
    have := mdigits_len k.toNat []
    simp at this
    have e2 : 1 + (mdigits k.toNat []).length ≤ 1152921504606846976 := by omega
    rw [show ((k.toNat : Nat) : Int) = k by omega] at hl
    simp only [h, decide_false, br_false', hl, Option.bind_some, loK_out, beq_self_eq_true, br_true', e2, decide_true, if_false, List.singleton_append]

/-- So many marks. -/
def markSL : Nat → Int → List CVal
  | 0, _ => []
  | n + 1, k => .str (mtext k) :: markSL n (k + 1)
theorem markStringS_loop : ∀ (suf : List (List UInt8)) (done : List CVal) (k : Int), done.length + suf.length ≤ 100000000 → 0 ≤ k → k + suf.length ≤ 1000000000 →
    LL f_l_markStringS 0 lc_l_markStringS_0 [PSh.arr ⟨true, true, 0⟩ false 1] k_l_markStringS_0 (((), k, (done.length : Int), ()), done ++ suf.map .str, ()) =
      some (.out 0 (((), k + suf.length, ((done.length + suf.length : Nat) : Int), ()), done ++ markSL suf.length k, ()))
  | [], done, k, hl, h0, hb => by
    apply gl_l_markStringS_0
    unfold nl_l_markStringS_0
    simp [markSL]
  | s :: suf, done, k, hl, h0, hb => by
    simp only [List.length_cons] at hl hb
    apply gl_l_markStringS_0
    unfold nl_l_markStringS_0
    have w1 : IntKind.i64.wrap (k + 1) = k + 1 := by rw [wrap_i64] <;> omega
    have w3 : IntKind.i64.wrap ((done.length : Int) + 1) = ((done ++ [CVal.str (mtext k)]).length : Int) := by rw [wrap_i64 (by omega) (by omega)]; simp
    have ih := markStringS_loop suf (done ++ [.str (mtext k)]) (k + 1) (by simp; omega) (by omega) (by omega)
    simp only [List.append_assoc, List.singleton_append] at ih
    have e0 : ((done.length : Nat) : Int).toNat = done.length := by simp
    rw [List.map_cons, lti_done]
    simp only [nn_mid, br_true', e0]
    rw [lt_done, get_done]
    simp only [markText_law k (by omega), Option.bind_some, Bool.and_true, br_true', isFlat_str, asStr_str, fits_str, set_done, w1, w3]
    rw [ih]
    simp only [List.length_append, List.length_cons, List.length_nil, markSL]
    have e5 : k + 1 + (suf.length : Int) = k + ((suf.length + 1 : Nat) : Int) := by omega
    have e7 : done.length + (0 + 1) + suf.length = done.length + (suf.length + 1) := by omega
    rw [e5, e7]
theorem markStringS_law {l : List (List UInt8)} (hl : l.length ≤ 100000000) (k : Int) (h0 : 0 ≤ k) (hb : k + l.length ≤ 1000000000) :
    CC f_l_markStringS [.lref 0 0, .v (.int .i64 k)] [PB.arr ⟨true, true, 0⟩ false 1 (l.map .str)] = some (.int .i64 (k + l.length), [markSL l.length k]) := by
  have hloop := markStringS_loop l [] k (by simpa using hl) h0 hb
  simp only [List.nil_append, List.length_nil, Int.cast_ofNat_Int] at hloop
  apply go_l_markStringS
  unfold nf_l_markStringS
  rw [hloop]
  rfl
theorem heldStringS_loop : ∀ (n : Nat) (done : List CVal) (k : Int), done.length + n ≤ 100000000 → 0 ≤ k → k + n ≤ 1000000000 →
    ∃ q, LL f_l_heldStringS 0 lc_l_heldStringS_0 [] k_l_heldStringS_0 ((done ++ markSL n k, k, (done.length : Int), ()), ()) =
      some (.out 0 ((q, k + n, ((done.length + n : Nat) : Int), ()), ()))
  | 0, done, k, hl, h0, hb => by
    refine ⟨_, gl_l_heldStringS_0 _ _ _ _ (by unfold nl_l_heldStringS_0; simp [markSL]; rfl)⟩
  | n + 1, done, k, hl, h0, hb => by
    have w1 : IntKind.i64.wrap (k + 1) = k + 1 := by rw [wrap_i64] <;> omega
    have w3 : IntKind.i64.wrap ((done.length : Int) + 1) = ((done ++ [CVal.str (mtext k)]).length : Int) := by rw [wrap_i64 (by omega) (by omega)]; simp
    obtain ⟨q, ih⟩ := heldStringS_loop n (done ++ [.str (mtext k)]) (k + 1) (by simp; omega) (by omega) (by omega)
    simp only [List.append_assoc, List.singleton_append] at ih
    have e0 : ((done.length : Nat) : Int).toNat = done.length := by simp
    refine ⟨q, gl_l_heldStringS_0 _ _ _ _ ?_⟩
    unfold nl_l_heldStringS_0
    rw [show markSL (n + 1) k = .str (mtext k) :: markSL n (k + 1) from rfl, lti_done]
    simp only [nn_mid, br_true', e0]
    rw [get_done]
    simp only [Option.bind_some, fits_str, cell_str, br_true', markText_law k (by omega), asStr_str, decide_true, Bool.not_true, br_false', w1, w3]
    rw [ih]
    simp only [List.length_append, List.length_cons, List.length_nil]
    have e5 : k + 1 + (n : Int) = k + ((n + 1 : Nat) : Int) := by omega
    have e7 : done.length + (0 + 1) + n = done.length + (n + 1) := by omega
    rw [e5, e7]
theorem heldStringS_law (n : Nat) (hl : n ≤ 100000000) (k : Int) (h0 : 0 ≤ k) (hb : k + n ≤ 1000000000) :
    CC f_l_heldStringS [.v (.sl (markSL n k)), .v (.int .i64 k)] [] = some (.int .i64 (k + n), []) := by
  obtain ⟨q, hloop⟩ := heldStringS_loop n [] k (by simpa using hl) h0 hb
  simp only [List.nil_append, List.length_nil, Int.cast_ofNat_Int] at hloop
  apply go_l_heldStringS
  unfold nf_l_heldStringS
  rw [hloop]
  rfl
end Go.Proofs.Ytbimglfmmmlicaa.Abs

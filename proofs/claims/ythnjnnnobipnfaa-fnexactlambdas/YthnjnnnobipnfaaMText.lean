/- The texts that stand for numbers, and marks in slices of texts. -/
import Derived.Test.YthnjnnnobipnfaaData
import Derived.Test.YthnjnnnobipnfaaD1Eqs
set_option linter.unusedVariables false
set_option linter.unusedSimpArgs false
set_option maxRecDepth 100000
namespace Go.Proofs.Ythnjnnnobipnfaa.Abs
open Go Go.Proofs

/-- A number's digits, ahead of others. -/
def mdigits (k : Nat) (acc : List UInt8) : List UInt8 :=
  if h : k = 0 then acc else mdigits (k / 10) (UInt8.ofNat (48 + k % 10) :: acc)
termination_by k
decreasing_by omega
def mtext (k : Int) : List UInt8 := if k ≤ 0 then [109, 48] else 109 :: mdigits k.toNat []
theorem mdigits_len : ∀ (k : Nat) (acc : List UInt8), (mdigits k acc).length ≤ k + acc.length := by
  intro k
  induction k using Nat.strongRecOn with
  | ind k ih =>
    intro acc
    rw [mdigits]
    split
    · omega
    · have := ih (k / 10) (by omega) (UInt8.ofNat (48 + k % 10) :: acc)
      simp only [List.length_cons] at this
      omega
theorem markText_loop : ∀ (k : Nat) (acc : List UInt8), k ≤ 4000000000 → k + acc.length ≤ 1000000000000 →
    LL f_l_markText 0 lc_l_markText_0 [] k_l_markText_0 (((k : Int), acc, ()), ()) = some (.out 0 ((0, mdigits k acc, ()), ())) := by
  intro k
  induction k using Nat.strongRecOn with
  | ind k ih =>
    intro acc hk hl
    apply gl_l_markText_0
    unfold nl_l_markText_0
    rw [mdigits]
    by_cases h0 : k = 0
    · subst h0; simp
    · have e1 : (0 : Int) < (k : Int) := by omega
      have e2 : 1 + acc.length ≤ 1152921504606846976 := by omega
      have e3 : IntKind.i64.wrap ((k : Int).tdiv 10) = ((k / 10 : Nat) : Int) := by
        rw [show (k : Int).tdiv 10 = ((k / 10 : Nat) : Int) by rw [Int.tdiv_eq_ediv_of_nonneg (by omega)]; omega, wrap_i64] <;> omega
      have e4 : UInt8.ofNat (IntKind.u8.wrap (IntKind.i64.wrap (48 + (k : Int).tmod 10))).toNat = UInt8.ofNat (48 + k % 10) := by
        have h1 : (k : Int).tmod 10 = ((k % 10 : Nat) : Int) := by rw [Int.tmod_eq_emod_of_nonneg (by omega)]; omega
        have h2 : k % 10 < 10 := by omega
        rw [h1, wrap_i64 (by omega) (by omega)]
        congr 1
        simp [IntKind.wrap, IntKind.signed, IntKind.bits]
        omega
      rw [dif_neg h0]
      simp only [e1, e2, e3, e4, decide_true, br_true', List.singleton_append]
      exact ih (k / 10) (by omega) _ (by omega) (by simp; omega)
theorem markText_law (k : Int) (hk : k ≤ 4000000000) : CC f_l_markText [.v (.int .i64 k)] [] = some (.str (mtext k), []) := by
  apply go_l_markText
  unfold nf_l_markText mtext
  by_cases h : k ≤ 0
  · simp [h]
  · have hl := markText_loop k.toNat [] (by omega) (by simp; omega)
    have := mdigits_len k.toNat []
    simp at this
    have e2 : 1 + (mdigits k.toNat []).length ≤ 1152921504606846976 := by omega
    rw [show ((k.toNat : Nat) : Int) = k by omega] at hl
    simp only [h, decide_false, br_false', hl, Option.bind_some, loK_out, beq_self_eq_true, br_true', e2, decide_true, if_false, List.singleton_append]

end Go.Proofs.Ythnjnnnobipnfaa.Abs

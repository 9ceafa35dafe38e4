/- Lists of texts: what is made of them, and their size. -/
import Derived.Test.YtbimglfmmmlicaaData
import Derived.Test.YtbimglfmmmlicaaH1Eqs
set_option linter.unusedVariables false
set_option linter.unusedSectionVars false
set_option linter.unusedSimpArgs false
namespace Go.Proofs.Ytbimglfmmmlicaa.Abs
open Go Go.Proofs

/-! Lists of texts. -/
theorem eqStringS_loop : ∀ (suf pre : List (List UInt8)), (pre ++ suf).length ≤ 1048576 →
    LL f_l_eqStringS 0 lc_l_eqStringS_0 [] k_l_eqStringS_0 (((pre ++ suf).map .str, (pre ++ suf).map .str, (pre.length : Int), ()), ()) =
      some (.out 0 (((pre ++ suf).map .str, (pre ++ suf).map .str, ((pre ++ suf).length : Int), ()), ()))
  | [], pre, hl => by
    apply gl_l_eqStringS_0
    unfold nl_l_eqStringS_0
    rw [lt_end]
    simp
  | t :: suf, pre, hl => by
    apply gl_l_eqStringS_0
    unfold nl_l_eqStringS_0
    have ih := eqStringS_loop suf (pre ++ [t]) (by simpa using hl)
    simp only [List.append_assoc, List.singleton_append] at ih
    rw [lt_mid, nn_mid, get_mid, wrap_mid pre suf t hl]
    simp only [br_true', Option.bind_some, isFlat_str, fits_flat, fits_int, cell_str, asStr_str, decide_true, Bool.not_true, br_false']
    exact ih
theorem eqStringS_law {l : List (List UInt8)} (hl : l.length ≤ 1048576) : CC f_l_eqStringS [.v (.sl (l.map .str)), .v (.sl (l.map .str))] [] = some (.bool true, []) := by
  apply go_l_eqStringS
  unfold nf_l_eqStringS
  have hloop := eqStringS_loop l [] (by simpa using hl)
  simp only [List.nil_append, List.length_nil, Int.cast_ofNat_Int] at hloop
  simp only [hloop, decide_true, Bool.not_true, br_false', Option.bind_some, loK_out]
  rfl
end Go.Proofs.Ytbimglfmmmlicaa.Abs

/- A drawn type and what is drawn to be put into it. -/
import Derived.Test.YtegbnddjgifcdaaDoorDrawBend
set_option linter.unusedVariables false
set_option linter.unusedSimpArgs false
set_option linter.unusedSectionVars false
set_option maxRecDepth 100000
namespace Go.Proofs.YtegbnddjgifcdaaDoor.Abs
open Go Go.Proofs
open Classical

/-- As drawn types are. -/
def tyA (t : Ty) : Prop := t.wt ∧ t.sz ≤ 100
theorem l1Any_law {b : List UInt8} (hb : b.length ≤ 1048576) : Draws b f_s_l1Any [] fun c => ∃ t : Ty, c = t.enc ∧ tyA t := by
  intro i h h0 h1
  obtain ⟨_, i1, g1, ⟨t, rfl, ht⟩, a1, b1, e1⟩ := l1Ty_law hb 4 (by omega) i h h0 h1
  obtain ⟨_, i2, g2, ⟨o, rfl⟩, a2, b2, e2⟩ := l1Once_law hb (n := 6) (by omega) (by omega) i1 g1 a1 b1
  have hz := ht.2
  simp only [Int.cast_ofNat_Int] at e1
  cases o
  · refine ⟨_, i2, g2, ⟨t, rfl, ht.1, by simp at hz; omega⟩, a2, b2, ?_⟩
    apply go_s_l1Any
    unfold nf_s_l1Any
    unfold cur at e1 e2
    simp only [e1, e2, Option.bind_some, List.getElem?_cons_zero, List.getElem?_cons_succ, curL, asBool_bool, br_true', br_false', Ty.enc_isAggN, Ty.enc_cell0, Ty.enc_cell1, Ty.enc_cell2, Ty.enc_eta]
  · obtain ⟨_, i3, g3, ⟨u, rfl, hu⟩, a3, b3, e3⟩ := l1Bend_law hb t ⟨ht.1, by simp at hz; omega⟩ i2 g2 a2 b2
    refine ⟨_, i3, g3, ⟨u, rfl, hu.1, by have := hu.2; simp at hz; omega⟩, a3, b3, ?_⟩
    apply go_s_l1Any
    unfold nf_s_l1Any
    unfold cur at e1 e2 e3
    simp only [e1, e2, e3, Option.bind_some, List.getElem?_cons_zero, List.getElem?_cons_succ, curL, asBool_bool, br_true', br_false', Ty.enc_isAggN, Ty.enc_cell0, Ty.enc_cell1, Ty.enc_cell2, Ty.enc_eta]
theorem new_loop {b : List UInt8} (hb : b.length ≤ 1048576) : ∀ (m : Nat) (h i : Int), i + m = b.length → 0 ≤ i → ∃ (h' i' : Int),
    LL f_s_l1New 0 lc_s_l1New_0 [] k_s_l1New_0 ((bytesC b, h, i, ()), ()) = some (.out 0 ((bytesC b, h', i', ()), ()))
  | 0, h, i, hm, h0 => by
    refine ⟨h, i, ?_⟩
    apply gl_s_l1New_0
    unfold nl_s_l1New_0
    have e : decide (i < ((bytesC b).length : Int)) = false := decide_eq_false (by simp [bytesC]; omega)
    simp only [e, br_false', Option.bind_some]
  | m + 1, h, i, hm, h0 => by
    have hlt : i.toNat < b.length := by omega
    have hget : (bytesC b)[i.toNat]? = some (.int .u8 (b[i.toNat].toNat)) := by simp [bytesC, hlt]
    have e : decide (i < ((bytesC b).length : Int)) = true := decide_eq_true (by simp [bytesC]; omega)
    have d2 : decide ((0 : Int) ≤ i) = true := decide_eq_true h0
    have hw : IntKind.i64.wrap (i + 1) = i + 1 := by rw [wrap_i64] <;> omega
    cases h4 : decide (i < 4000)
    · refine ⟨h, i, ?_⟩
      apply gl_s_l1New_0
      unfold nl_s_l1New_0
      simp only [e, h4, br_true', br_false', Option.bind_some]
    · obtain ⟨h', i', ih⟩ := new_loop hb m (bAnd .i64 (IntKind.i64.wrap (IntKind.i64.wrap (IntKind.i64.wrap (h * 137) + IntKind.i64.wrap (b[i.toNat].toNat : Int)) + 11)) 1073741823) (i + 1) (by omega) (by omega)
      refine ⟨h', i', ?_⟩
      apply gl_s_l1New_0
      unfold nl_s_l1New_0
      simp only [e, h4, d2, hget, br_true', br_false', Option.bind_some, Bool.and_true, fits_int, cell_int, asInt_int, hw]
      exact ih
theorem l1New_law {b : List UInt8} (hb : b.length ≤ 1048576) : ∃ h : Int, CC f_s_l1New [.v (.sl (bytesC b))] [] = some (.fp (.agg [.sl (bytesC b), .int .i64 0, .int .i64 h]) 0, []) := by
  obtain ⟨h', i', e⟩ := new_loop hb b.length (IntKind.i64.wrap (122122 + ((bytesC b).length : Int))) 0 (by omega) (by omega)
  refine ⟨h', ?_⟩
  apply go_s_l1New
  unfold nf_s_l1New
  simp only [e, Option.bind_some, loK_out, beq_self_eq_true, br_true']
end Go.Proofs.YtegbnddjgifcdaaDoor.Abs

/- Which registers may not share: the pairs told, on data. -/
import Derived.Test.YtmjjaoffeajcbaaClashS2
set_option linter.unusedVariables false
set_option linter.unusedSimpArgs false
set_option linter.unusedSectionVars false
set_option maxRecDepth 100000
namespace Go.Proofs.Ytmjjaoffeajcbaa.Abs
open Go Go.Proofs

def ep (x : Int × Int) : CVal := .agg [.int .i64 x.1, .int .i64 x.2]
/-- The pairs of a row, from b on. -/
def pairRow (g : Nat → Bool) (a : Nat) : Nat → Nat → List (Int × Int)
  | _, 0 => []
  | b, d + 1 => (if (g b && decide (a < b)) = true then [((a : Int), (b : Int))] else []) ++ pairRow g a (b + 1) d
theorem pairRow_len {g : Nat → Bool} {a : Nat} : ∀ {d b : Nat}, (pairRow g a b d).length ≤ d
  | 0, _ => Nat.le_refl _
  | d + 1, b => by
    have := pairRow_len (g := g) (a := a) (d := d) (b := b + 1)
    unfold pairRow
    rw [List.length_append]
    split <;> simp <;> omega
theorem pairRow_skip {g : Nat → Bool} {a : Nat} : ∀ (k b d : Nat), b + k ≤ a + 1 → pairRow g a b (k + d) = pairRow g a (b + k) d
  | 0, b, d, h => by simp
  | k + 1, b, d, h => by
    rw [show k + 1 + d = (k + d) + 1 by omega]
    unfold pairRow
    have : decide (a < b) = false := decide_eq_false (by omega)
    rw [this, Bool.and_false]
    simp only [Bool.false_eq_true, if_false, List.nil_append]
    rw [pairRow_skip k (b + 1) d (by omega), show b + 1 + k = b + (k + 1) by omega]
    cases d <;> rfl
def pairsFrom (R : Nat) (T : Nat → Nat → Bool) : Nat → Nat → List (Int × Int)
  | _, 0 => []
  | a, d + 1 => pairRow (T a) a 0 R ++ pairsFrom R T (a + 1) d
theorem pairs_len {R : Nat} {T : Nat → Nat → Bool} : ∀ {d a : Nat}, (pairsFrom R T a d).length ≤ d * R
  | 0, _ => by simp [pairsFrom]
  | d + 1, a => by
    have h1 := pairs_len (R := R) (T := T) (d := d) (a := a + 1)
    have h2 := pairRow_len (g := T a) (a := a) (d := R) (b := 0)
    unfold pairsFrom
    rw [List.length_append, Nat.succ_mul]; omega
theorem Pi_loop2 {R : Nat} (hR : R ≤ 400) (g : Nat → Bool) (a : Nat) (tb : List CVal) (j : Int) : ∀ (d b : Nat) (acc : List (Int × Int)), b + d = R → acc.length + d ≤ 1000000 →
    LL f_i_Clashes 2 lc_i_Clashes_2 [] k_i_Clashes_2 (((), (a : Int), tb, (R : Int), j, rowL R g, (R : Int), (b : Int), ()), acc.map ep, ()) =
      some (.out 2 (((), (a : Int), tb, (R : Int), j, rowL R g, (R : Int), (R : Int), ()), (acc ++ pairRow g a b d).map ep, ()))
  | 0, b, acc, h, hl => by
    have e : b = R := by omega
    subst e
    apply gl_i_Clashes_2
    unfold nl_i_Clashes_2
    simp [pairRow]
  | d + 1, b, acc, h, hl => by
    have hb : b < R := by omega
    have hw := wrap_succ (i := b) (by omega)
    have hlt : decide ((b : Int) < (R : Int)) = true := decide_eq_true (by omega)
    have tbn : ((b : Nat) : Int).toNat = b := by simp
    have hab : decide ((a : Int) < (b : Int)) = decide (a < b) := by rw [decide_eq_decide]; omega
    have b2 : (decide ((acc.map ep).length + 1 ≤ 4294967296) && true && true) = true := by
      rw [decide_eq_true (by rw [List.length_map]; omega)]; rfl
    have ih0 := Pi_loop2 hR g a tb j d (b + 1) acc (by omega) (by omega)
    have ih1 := Pi_loop2 hR g a tb j d (b + 1) (acc ++ [((a : Int), (b : Int))]) (by omega) (by simp; omega)
    rw [show (((b + 1 : Nat)) : Int) = (b : Int) + 1 by omega] at ih0 ih1
    simp only [List.map_append, List.map_cons, List.map_nil, List.append_assoc] at ih1
    apply gl_i_Clashes_2
    unfold nl_i_Clashes_2
    simp only [hlt, br_true', ge0, tbn, rowL_get hb, Option.bind_some, fits_bool, cell_bool, asBool_bool, hw, hab, b2, pairRow]
    cases hg : g b with
    | true =>
      cases hd : decide (a < b) with
      | true =>
        simp only [br_true', Option.bind_some, Bool.and_self, if_true, List.map_append, List.map_cons, List.map_nil]
        exact ih1
      | false =>
        simp only [br_true', br_false', Option.bind_some, Bool.and_false, Bool.false_eq_true, if_false, List.nil_append]
        exact ih0
    | false =>
      simp only [br_false', Option.bind_some, Bool.false_and, Bool.false_eq_true, if_false, List.nil_append]
      exact ih0
theorem Pi_loop0 {R : Nat} (hR : R ≤ 400) (T : Nat → Nat → Bool) : ∀ (d a : Nat) (acc : List (Int × Int)), a + d = R → acc.length + d * R ≤ 1000000 →
    LL f_i_Clashes 0 lc_i_Clashes_0 [] k_i_Clashes_0 (((), em R R T, (R : Int), (a : Int), ()), acc.map ep, ()) =
      some (.out 0 (((), em R R T, (R : Int), (R : Int), ()), (acc ++ pairsFrom R T a d).map ep, ()))
  | 0, a, acc, h, hl => by
    have e : a = R := by omega
    subst e
    apply gl_i_Clashes_0
    unfold nl_i_Clashes_0
    simp [pairsFrom]
  | d + 1, a, acc, h, hl => by
    rw [Nat.succ_mul] at hl
    have ha : a < R := by omega
    have hw := wrap_succ (i := a) (by omega)
    have hlt : decide ((a : Int) < (R : Int)) = true := decide_eq_true (by omega)
    have ta : ((a : Nat) : Int).toNat = a := by simp
    have h2 := Pi_loop2 hR (T a) a (em R R T) (a : Int) R 0 acc (by omega) (by omega)
    simp only [Int.cast_ofNat_Int] at h2
    have hrl := pairRow_len (g := T a) (a := a) (d := R) (b := 0)
    have ih := Pi_loop0 hR T d (a + 1) (acc ++ pairRow (T a) a 0 R) (by omega) (by rw [List.length_append]; omega)
    rw [show (((a + 1 : Nat)) : Int) = (a : Int) + 1 by omega, List.append_assoc] at ih
    apply gl_i_Clashes_0
    unfold nl_i_Clashes_0
    simp only [hlt, br_true', ge0, ta, em_get ha, Option.bind_some, fits_sl, cell_sl, asSl_sl, rowL_len]
    rw [h2]
    simp only [Option.bind_some, loK_out, beq_self_eq_true, br_true', hw, pairsFrom]
    exact ih
end Go.Proofs.Ytmjjaoffeajcbaa.Abs

/- Which registers may not share: the pairs told, on data. -/
import Derived.Test.YtmjjaoffeajcbaaClashS2
set_option linter.unusedVariables false
set_option linter.unusedSimpArgs false
set_option linter.unusedSectionVars false
set_option maxRecDepth 100000
namespace Go.Proofs.Ytmjjaoffeajcbaa.Abs
open Go Go.Proofs

def ep (x : Int × Int) : CVal := .agg [.int .i64 x.1, .int .i64 x.2]
/-- The pairs of a row, from b on. -/
def pairRow (g : Nat → Bool) (a : Nat) : Nat → Nat → List (Int × Int)
  | _, 0 => []
  | b, d + 1 => (if (g b && decide (a < b)) = true then [((a : Int), (b : Int))] else []) ++ pairRow g a (b + 1) d
theorem pairRow_len {g : Nat → Bool} {a : Nat} : ∀ {d b : Nat}, (pairRow g a b d).length ≤ d
  | 0, _ => Nat.le_refl _
  | d + 1, b => by
    have := pairRow_len (g := g) (a := a) (d := d) (b := b + 1)
    unfold pairRow
    rw [List.length_append]
    split <;> simp <;> omega
theorem pairRow_skip {g : Nat → Bool} {a : Nat} : ∀ (k b d : Nat), b + k ≤ a + 1 → pairRow g a b (k + d) = pairRow g a (b + k) d
  | 0, b, d, h => by simp
  | k + 1, b, d, h => by
    rw [show k + 1 + d = (k + d) + 1 by omega]
    unfold pairRow
    have : decide (a < b) = false := decide_eq_false (by omega)
    rw [this, Bool.and_false]
    simp only [Bool.false_eq_true, if_false, List.nil_append]
    rw [pairRow_skip k (b + 1) d (by omega), show b + 1 + k = b + (k + 1) by omega]
    cases d <;> rfl
def pairsFrom (R : Nat) (T : Nat → Nat → Bool) : Nat → Nat → List (Int × Int)
  | _, 0 => []
  | a, d + 1 => pairRow (T a) a 0 R ++ pairsFrom R T (a + 1) d
theorem pairs_len {R : Nat} {T : Nat → Nat → Bool} : ∀ {d a : Nat}, (pairsFrom R T a d).length ≤ d * R
  | 0, _ => by simp [pairsFrom]
  | d + 1, a => by
    have h1 := pairs_len (R := R) (T := T) (d := d) (a := a + 1)
    have h2 := pairRow_len (g := T a) (a := a) (d := R) (b := 0)
    unfold pairsFrom
    rw [List.length_append, Nat.succ_mul]; omega
theorem Pi_loop2 {R : Nat} (hR : R ≤ 400) (g : Nat → Bool) (a : Nat) (tb : List CVal) (j : Int) : ∀ (d b : Nat) (acc : List (Int × Int)), b + d = R → acc.length + d ≤ 1000000 →
    LL f_i_Clashes 2 lc_i_Clashes_2 [] k_i_Clashes_2 (((), (a : Int), tb, (R : Int), j, rowL R g, (R : Int), (b : Int), ()), acc.map ep, ()) =
      some (.out 2 (((), (a : Int), tb, (R : Int), j, rowL R g, (R : Int), (R : Int), ()), (acc ++ pairRow g a b d).map ep, ()))
  | 0, b, acc, h, hl => by
    have e : b = R := by omega
    subst e
    apply gl_i_Clashes_2
    unfold nl_i_Clashes_2
    simp [pairRow]
  | d + 1, b, acc, h, hl => by
    have hb : b < R := by omega
    have hw := wrap_succ (i := b) (by omega)
    have hlt : decide ((b : Int) < (R : Int)) = true := decide_eq_true (by omega)
    have tbn : ((b : Nat) : Int).toNat = b := by simp
    have hab : decide ((a : Int) < (b : Int)) = decide (a < b) := by rw [decide_eq_decide]; omega
    have b2 : (decide ((acc.map ep).length + 1 ≤ 4294967296) && true && true) = true := by
      rw [decide_eq_true (by rw [List.length_map]; omega)]; rfl
    have ih0 := Pi_loop2 hR g a tb j d (b + 1) acc (by omega) (by omega)
    have ih1 := Pi_loop2 hR g a tb j d (b + 1) (acc ++ [((a : Int), (b : Int))]) (by omega) (by simp; omega)
    rw [show (((b + 1 : Nat)) : Int) = (b : Int) + 1 by omega] at ih0 ih1
    simp only [List.map_append, List.map_cons, List.map_nil, List.append_assoc] at ih1
    apply gl_i_Clashes_2
    unfold nl_i_Clashes_2
    simp only [hlt, br_true', ge0, tbn, rowL_get hb, Option.bind_some, fits_bool, cell_bool, asBool_bool, hw, hab, b2, pairRow]
    cases hg : g b with
    | true =>
      cases hd : decide (a < b) with
      | true =>
        simp only [br_true', Option.bind_some, Bool.and_self, if_true, List.map_append, List.map_cons, List.map_nil]
        exact ih1
      | false =>
        simp only [br_true', br_false', Option.bind_some, Bool.and_false, Bool.false_eq_true, if_false, List.nil_append]
        exact ih0
    | false =>
      simp only [br_false', Option.bind_some, Bool.false_and, Bool.false_eq_true, if_false, List.nil_append]
      exact ih0
theorem Pi_loop0 {R : Nat} (hR : R ≤ 400) (T : Nat → Nat → Bool) : ∀ (d a : Nat) (acc : List (Int × Int)), a + d = R → acc.length + d * R ≤ 1000000 →
    LL f_i_Clashes 0 lc_i_Clashes_0 [] k_i_Clashes_0 (((), em R R T, (R : Int), (a : Int), ()), acc.map ep, ()) =
      some (.out 0 (((), em R R T, (R : Int), (R : Int), ()), (acc ++ pairsFrom R T a d).map ep, ()))
  | 0, a, acc, h, hl => by
    have e : a = R := by omega
    subst e
    apply gl_i_Clashes_0
    unfold nl_i_Clashes_0
    simp [pairsFrom]
  | d + 1, a, acc, h, hl => by
    rw [Nat.succ_mul] at hl
    have ha : a < R := by omega
    have hw := wrap_succ (i := a) (by omega)
    have hlt : decide ((a : Int) < (R : Int)) = true := decide_eq_true (by omega)
    have ta : ((a : Nat) : Int).toNat = a := by simp
    have h2 := Pi_loop2 hR (T a) a (em R R T) (a : Int) R 0 acc (by omega) (by omega)
    simp only [Int.cast_ofNat_Int] at h2
    have hrl := pairRow_len (g := T a) (a := a) (d := R) (b := 0)
    have ih := Pi_loop0 hR T d (a + 1) (acc ++ pairRow (T a) a 0 R) (by omega) (by rw [List.length_append]; omega)
    rw [show (((a + 1 : Nat)) : Int) = (a : Int) + 1 by omega, List.append_assoc] at ih
    apply gl_i_Clashes_0
    unfold nl_i_Clashes_0
    simp only [hlt, br_true', ge0, ta, em_get ha, Option.bind_some, fits_sl, cell_sl, asSl_sl, rowL_len]
    rw [h2]
    simp only [Option.bind_some, loK_out, beq_self_eq_true, br_true', hw, pairsFrom]
    exact ih
theorem Ps_loop2 {p : Piece} (F : Fit p) (T : Nat → Nat → Bool) {a : Nat} (ha : a < p.regs.toNat) : ∀ (d b : Nat) (acc : List (Int × Int)), b + d = p.regs.toNat → a < b → acc.length + d ≤ 1000000 →
    LL f_s_Clashes 2 lc_s_Clashes_2 [] k_s_Clashes_2 ((.fp p.enc 0, (), em p.regs.toNat p.regs.toNat T, (a : Int), (b : Int), ()), acc.map ep, ()) =
      some (.out 2 ((.fp p.enc 0, (), em p.regs.toNat p.regs.toNat T, (a : Int), p.regs, ()), (acc ++ pairRow (T a) a b d).map ep, ()))
  | 0, b, acc, h, hab, hl => by
    have hr0 := F.r0
    have e : (b : Int) = p.regs := by omega
    rw [e]
    apply gl_s_Clashes_2
    unfold nl_s_Clashes_2
    simp [pairRow]
  | d + 1, b, acc, h, hab, hl => by
    have hR := F.r
    have hb : b < p.regs.toNat := by omega
    have hw := wrap_succ (i := b) (by omega)
    have hlt : decide ((b : Int) < p.regs) = true := decide_eq_true (by omega)
    have ta : ((a : Nat) : Int).toNat = a := by simp
    have tbn : ((b : Nat) : Int).toNat = b := by simp
    have hd : decide (a < b) = true := decide_eq_true hab
    have b2 : (decide ((acc.map ep).length + 1 ≤ 4294967296) && true && true) = true := by
      rw [decide_eq_true (by rw [List.length_map]; omega)]; rfl
    have b3 : decide ((acc.map ep).length + 1 ≤ 4294967296) = true := decide_eq_true (by rw [List.length_map]; omega)
    have ih0 := Ps_loop2 F T ha d (b + 1) acc (by omega) (by omega) (by omega)
    have ih1 := Ps_loop2 F T ha d (b + 1) (acc ++ [((a : Int), (b : Int))]) (by omega) (by omega) (by simp; omega)
    rw [show (((b + 1 : Nat)) : Int) = (b : Int) + 1 by omega] at ih0 ih1
    simp only [List.map_append, List.map_cons, List.map_nil, List.append_assoc] at ih1
    apply gl_s_Clashes_2
    unfold nl_s_Clashes_2
    simp only [asFp_fp, Option.bind_some, Nat.zero_add, Piece.enc_cell2, asInt_int, hlt, br_true', ge0', ta, em_get ha, fits_sl, cell_sl, asSl_sl, tbn, rowL_get hb, fits_bool, cell_bool, asBool_bool, hw, b3, pairRow, hd, Bool.and_true]
    cases hg : T a b with
    | true =>
      simp only [br_true', if_true, List.map_append, List.map_cons, List.map_nil]
      exact ih1
    | false =>
      simp only [br_false', Bool.false_eq_true, if_false, List.nil_append]
      exact ih0
theorem Ps_loop0 {p : Piece} (F : Fit p) (T : Nat → Nat → Bool) : ∀ (d a : Nat) (acc : List (Int × Int)), a + d = p.regs.toNat → acc.length + d * p.regs.toNat ≤ 1000000 →
    LL f_s_Clashes 0 lc_s_Clashes_0 [] k_s_Clashes_0 ((.fp p.enc 0, (), em p.regs.toNat p.regs.toNat T, (a : Int), ()), acc.map ep, ()) =
      some (.out 0 ((.fp p.enc 0, (), em p.regs.toNat p.regs.toNat T, p.regs, ()), (acc ++ pairsFrom p.regs.toNat T a d).map ep, ()))
  | 0, a, acc, h, hl => by
    have hr0 := F.r0
    have e : (a : Int) = p.regs := by omega
    rw [e]
    apply gl_s_Clashes_0
    unfold nl_s_Clashes_0
    simp [pairsFrom]
  | d + 1, a, acc, h, hl => by
    rw [Nat.succ_mul] at hl
    have hR := F.r
    have ha : a < p.regs.toNat := by omega
    have hw := wrap_succ (i := a) (by omega)
    have hlt : decide ((a : Int) < p.regs) = true := decide_eq_true (by omega)
    have h2 := Ps_loop2 F T ha (p.regs.toNat - (a + 1)) (a + 1) acc (by omega) (by omega) (by omega)
    have hsk := pairRow_skip (g := T a) (a := a) (a + 1) 0 (p.regs.toNat - (a + 1)) (by omega)
    rw [show a + 1 + (p.regs.toNat - (a + 1)) = p.regs.toNat by omega, Nat.zero_add] at hsk
    rw [← hsk, show (((a + 1 : Nat)) : Int) = (a : Int) + 1 by omega] at h2
    have hrl := pairRow_len (g := T a) (a := a) (d := p.regs.toNat) (b := 0)
    have ih := Ps_loop0 F T d (a + 1) (acc ++ pairRow (T a) a 0 p.regs.toNat) (by omega) (by rw [List.length_append]; omega)
    rw [show (((a + 1 : Nat)) : Int) = (a : Int) + 1 by omega, List.append_assoc] at ih
    apply gl_s_Clashes_0
    unfold nl_s_Clashes_0
    simp only [asFp_fp, Option.bind_some, Nat.zero_add, Piece.enc_cell2, asInt_int, hlt, br_true', hw]
    rw [h2]
    simp only [Option.bind_some, loK_out, beq_self_eq_true, br_true', hw, pairsFrom]
    exact ih
theorem Clashes_both {p : Piece} (hok : p.ok) : ∃ T : Nat → Nat → Bool, CC f_i_Clashes [.v p.enc] [] = some (.sl ((bif pieceB p then pairsFrom p.regs.toNat T 0 p.regs.toNat else []).map ep), []) ∧
    CC f_s_Clashes [.v p.enc] [] = some (.sl ((bif pieceB p then pairsFrom p.regs.toNat T 0 p.regs.toNat else []).map ep), []) ∧
    (pieceB p = true → CC f_i_clashes [.v p.enc] [] = some (.sl (em p.regs.toNat p.regs.toNat T), []) ∧ CC f_s_l11Table [.v p.enc] [] = some (.sl (em p.regs.toNat p.regs.toNat T), [])) := by
  have hP := pieceOk_i hok
  have hP2 := pieceOk_s hok
  cases hb : pieceB p with
  | false =>
    refine ⟨fun _ _ => false, ?_, ?_, fun h => by cases h⟩
    · rw [Piece.enc_def]
      apply go_i_Clashes
      unfold nf_i_Clashes
      simp only [Piece.enc_eta, hP, hb, Option.bind_some, asBool_bool, Bool.not_false, br_true']
      rfl
    · rw [Piece.enc_def]
      apply go_s_Clashes
      unfold nf_s_Clashes
      simp only [Piece.enc_eta, hP2, hb, Option.bind_some, asBool_bool, Bool.not_false, br_true']
      rfl
  | true =>
    have F := fit_of hok hb
    have hR := F.r
    obtain ⟨G, g1, g2⟩ := solve_law F
    have hC := clashes_law F G g1
    have hT := Table_law F G g2
    have hm : p.regs.toNat * p.regs.toNat ≤ 400 * 400 := Nat.mul_le_mul (by omega) (by omega)
    refine ⟨clashT p G, ?_, ?_, fun _ => ⟨hC, hT⟩⟩
    · have hloop := Pi_loop0 (R := p.regs.toNat) (by omega) (clashT p G) p.regs.toNat 0 [] (by omega) (by simp; omega)
      simp only [Int.cast_ofNat_Int, List.map_nil, List.nil_append] at hloop
      rw [Piece.enc_def]
      apply go_i_Clashes
      unfold nf_i_Clashes
      simp only [Piece.enc_eta, hP, hb, Option.bind_some, asBool_bool, Bool.not_true, br_false', hC, asSl_sl, em_len]
      rw [hloop]
      rfl
    · have hloop := Ps_loop0 F (clashT p G) p.regs.toNat 0 [] (by omega) (by simp; omega)
      simp only [Int.cast_ofNat_Int, List.map_nil, List.nil_append] at hloop
      rw [Piece.enc_def]
      apply go_s_Clashes
      unfold nf_s_Clashes
      simp only [Piece.enc_eta, hP2, hb, Option.bind_some, asBool_bool, Bool.not_true, br_false', hT, asSl_sl]
      rw [hloop]
      rfl
end Go.Proofs.Ytmjjaoffeajcbaa.Abs

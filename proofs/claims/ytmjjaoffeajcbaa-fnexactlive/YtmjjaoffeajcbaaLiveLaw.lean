/- What lives, as lists: the program and the reference on data. -/
import Derived.Test.YtmjjaoffeajcbaaSolveLaw
import Derived.Test.YtmjjaoffeajcbaaIntSS
set_option linter.unusedVariables false
set_option linter.unusedSimpArgs false
set_option linter.unusedSectionVars false
set_option maxRecDepth 100000
namespace Go.Proofs.Ytmjjaoffeajcbaa.Abs
open Go Go.Proofs

/-- The places of a row's marks, from r on. -/
def thingsFrom (g : Nat → Bool) : Nat → Nat → List Int
  | _, 0 => []
  | r, d + 1 => (if g r = true then [(r : Int)] else []) ++ thingsFrom g (r + 1) d
theorem things_len {g : Nat → Bool} : ∀ {d r : Nat}, (thingsFrom g r d).length ≤ d
  | 0, _ => Nat.le_refl _
  | d + 1, r => by
    have := things_len (g := g) (d := d) (r := r + 1)
    unfold thingsFrom
    rw [List.length_append]
    split <;> simp <;> omega
theorem things_mem {g : Nat → Bool} {x : Int} : ∀ {d r : Nat}, x ∈ thingsFrom g r d ↔ ∃ k : Nat, x = (k : Int) ∧ r ≤ k ∧ k < r + d ∧ g k = true
  | 0, r => by
    simp only [thingsFrom, List.not_mem_nil, false_iff]
    rintro ⟨k, _, h1, h2, _⟩; omega
  | d + 1, r => by
    unfold thingsFrom
    rw [List.mem_append, things_mem (d := d) (r := r + 1)]
    constructor
    · rintro (h | ⟨k, h1, h2, h3, h4⟩)
      · split at h
        · rename_i hg
          simp at h
          exact ⟨r, h, Nat.le_refl _, by omega, hg⟩
        · cases h
      · exact ⟨k, h1, by omega, by omega, h4⟩
    · rintro ⟨k, h1, h2, h3, h4⟩
      by_cases e : k = r
      · subst e
        exact .inl (by rw [if_pos h4]; simp [h1])
      · exact .inr ⟨k, h1, by omega, by omega, h4⟩
def livesFrom (R : Nat) (f : Nat → Nat → Bool) : Nat → Nat → List (List Int)
  | _, 0 => []
  | i, d + 1 => thingsFrom (f i) 0 R :: livesFrom R f (i + 1) d
theorem lives_len {R : Nat} {f : Nat → Nat → Bool} : ∀ {d i : Nat}, (livesFrom R f i d).length = d
  | 0, _ => rfl
  | d + 1, i => by simp [livesFrom, lives_len (d := d) (i := i + 1)]
theorem lives_mem {R : Nat} {f : Nat → Nat → Bool} : ∀ {d i : Nat} {l : List Int}, l ∈ livesFrom R f i d → l.length ≤ R
  | 0, _, l, h => by cases h
  | d + 1, i, l, h => by
    rcases List.mem_cons.1 h with e | h
    · rw [e]; exact things_len
    · exact lives_mem (d := d) (i := i + 1) h
theorem things_loop (R : Nat) (hR : R ≤ 1048576) (g : Nat → Bool) : ∀ (d r : Nat) (acc : List Int), r + d = R → acc.length ≤ r →
    LL f_i_things 0 lc_i_things_0 [] k_i_things_0 (((), rowL R g, (R : Int), (r : Int), ()), acc.map (.int .i64), ()) =
      some (.out 0 (((), rowL R g, (R : Int), (R : Int), ()), (acc ++ thingsFrom g r d).map (.int .i64), ()))
  | 0, r, acc, h, ha => by
    have e : r = R := by omega
    subst e
    apply gl_i_things_0
    unfold nl_i_things_0
    simp [thingsFrom]
  | d + 1, r, acc, h, ha => by
    have hr : r < R := by omega
    have hw := wrap_succ (i := r) (by omega)
    have hlt : decide ((r : Int) < (R : Int)) = true := decide_eq_true (by omega)
    have tr : ((r : Nat) : Int).toNat = r := by simp
    have b2 : (decide ((acc.map (CVal.int .i64)).length + 1 ≤ 4294967296) && true && true) = true := by
      rw [decide_eq_true (by rw [List.length_map]; omega)]; rfl
    apply gl_i_things_0
    unfold nl_i_things_0
    simp only [hlt, br_true', ge0, tr, rowL_get hr, Option.bind_some, fits_bool, cell_bool, asBool_bool, hw, b2, thingsFrom]
    cases hg : g r with
    | true =>
      have ih := things_loop R hR g d (r + 1) (acc ++ [(r : Int)]) (by omega) (by simp; omega)
      rw [show (((r + 1 : Nat)) : Int) = (r : Int) + 1 by omega] at ih
      simp only [List.map_append, List.map_cons, List.map_nil, List.append_assoc] at ih
      simp only [br_true', if_true, List.map_append, List.map_cons, List.map_nil]
      exact ih
    | false =>
      have ih := things_loop R hR g d (r + 1) acc (by omega) (by omega)
      rw [show (((r + 1 : Nat)) : Int) = (r : Int) + 1 by omega] at ih
      simp only [br_false', Bool.false_eq_true, if_false, List.nil_append]
      exact ih
theorem things_law {R : Nat} (hR : R ≤ 1048576) (g : Nat → Bool) : CC f_i_things [.v (.sl (rowL R g))] [] = some (ei (thingsFrom g 0 R), []) := by
  have hloop := things_loop R hR g R 0 [] (by omega) (Nat.le_refl _)
  simp only [Int.cast_ofNat_Int, List.map_nil, List.nil_append] at hloop
  apply go_i_things
  unfold nf_i_things
  simp only [rowL_len]
  rw [hloop]
  rfl
theorem Live_loop (n R : Nat) (hn : n ≤ 1048576) (hR : R ≤ 1048576) (f : Nat → Nat → Bool) : ∀ (d i : Nat) (acc : List (List Int)), i + d = n → acc.length ≤ i →
    LL f_i_Live 0 lc_i_Live_0 [] k_i_Live_0 (((), em n R f, (n : Int), (i : Int), ()), acc.map ei, ()) =
      some (.out 0 (((), em n R f, (n : Int), (n : Int), ()), (acc ++ livesFrom R f i d).map ei, ()))
  | 0, i, acc, h, ha => by
    have e : i = n := by omega
    subst e
    apply gl_i_Live_0
    unfold nl_i_Live_0
    simp [livesFrom]
  | d + 1, i, acc, h, ha => by
    have hi : i < n := by omega
    have hw := wrap_succ (i := i) (by omega)
    have hlt : decide ((i : Int) < (n : Int)) = true := decide_eq_true (by omega)
    have ti : ((i : Nat) : Int).toNat = i := by simp
    have b2 : (decide ((acc.map ei).length + 1 ≤ 4294967296) && true && true) = true := by
      rw [decide_eq_true (by rw [List.length_map]; omega)]; rfl
    have ih := Live_loop n R hn hR f d (i + 1) (acc ++ [thingsFrom (f i) 0 R]) (by omega) (by simp; omega)
    rw [show (((i + 1 : Nat)) : Int) = (i : Int) + 1 by omega] at ih
    simp only [List.map_append, List.map_cons, List.map_nil, List.append_assoc] at ih
    apply gl_i_Live_0
    unfold nl_i_Live_0
    simp only [hlt, br_true', ge0, ti, em_get hi, Option.bind_some, fits_sl, cell_sl, things_law hR (f i), ei_flat, ei_asSl, hw, b2, livesFrom, List.map_append, List.map_cons]
    exact ih
theorem Live_i {p : Piece} (hok : p.ok) : ∃ G, CC f_i_Live [.v p.enc] [] = some (.sl ((bif pieceB p then livesFrom p.regs.toNat G 0 p.ins.length else []).map ei), []) ∧
    (pieceB p = true → CC f_s_l10Solve [.v p.enc] [] = some (.fp (.agg [.int .i64 p.lam, .int .i64 p.inn, .int .i64 p.regs, .sl (p.ins.map Ins.enc), .sl (em p.ins.length p.regs.toNat G), .bool false]) 0, [])) := by
  have hP := pieceOk_i hok
  cases hb : pieceB p with
  | false =>
    refine ⟨fun _ _ => false, ?_, fun h => by cases h⟩
    rw [Piece.enc_def]
    apply go_i_Live
    unfold nf_i_Live
    simp only [Piece.enc_eta, hP, hb, Option.bind_some, asBool_bool, Bool.not_false, br_true']
    rfl
  | true =>
    have F := fit_of hok hb
    obtain ⟨G, g1, g2⟩ := solve_law F
    refine ⟨G, ?_, fun _ => g2⟩
    have hn := F.n
    have hR := F.r
    have hloop := Live_loop p.ins.length p.regs.toNat (by omega) (by omega) G p.ins.length 0 [] (by omega) (Nat.le_refl _)
    simp only [Int.cast_ofNat_Int, List.map_nil, List.nil_append] at hloop
    rw [Piece.enc_def]
    apply go_i_Live
    unfold nf_i_Live
    simp only [Piece.enc_eta, hP, hb, Option.bind_some, asBool_bool, Bool.not_true, br_false', g1, asSl_sl, em_len]
    rw [hloop]
    rfl
theorem Lists_loop2 {n R : Nat} (hR : R ≤ 1048576) (f : Nat → Nat → Bool) {i : Nat} (hi : i < n) (out : List CVal) : ∀ (d r : Nat) (acc : List Int), r + d = R → acc.length ≤ r →
    LL f_s_l10Lists 2 lc_s_l10Lists_2 [] k_s_l10Lists_2 ((em n R f, (), (i : Int), (), (r : Int), ()), out, acc.map (.int .i64), ()) =
      some (.out 2 ((em n R f, (), (i : Int), (), (R : Int), ()), out, (acc ++ thingsFrom (f i) r d).map (.int .i64), ()))
  | 0, r, acc, h, ha => by
    have e : r = R := by omega
    subst e
    have ti : ((i : Nat) : Int).toNat = i := by simp
    apply gl_s_l10Lists_2
    unfold nl_s_l10Lists_2
    simp only [ge0, br_true', ti, em_get hi, Option.bind_some, fits_sl, cell_sl, asSl_sl, rowL_len, Int.lt_irrefl, decide_false, br_false']
    simp [thingsFrom]
  | d + 1, r, acc, h, ha => by
    have hr : r < R := by omega
    have hw := wrap_succ (i := r) (by omega)
    have hlt : decide ((r : Int) < (R : Int)) = true := decide_eq_true (by omega)
    have ti : ((i : Nat) : Int).toNat = i := by simp
    have tr : ((r : Nat) : Int).toNat = r := by simp
    have b2 : (decide ((acc.map (CVal.int .i64)).length + 1 ≤ 4294967296) && true && true) = true := by
      rw [decide_eq_true (by rw [List.length_map]; omega)]; rfl
    apply gl_s_l10Lists_2
    unfold nl_s_l10Lists_2
    simp only [ge0, br_true', ti, em_get hi, Option.bind_some, fits_sl, cell_sl, asSl_sl, rowL_len, hlt, tr, rowL_get hr, fits_bool, cell_bool, asBool_bool, hw, b2, thingsFrom]
    cases hg : f i r with
    | true =>
      have ih := Lists_loop2 hR f hi out d (r + 1) (acc ++ [(r : Int)]) (by omega) (by simp; omega)
      rw [show (((r + 1 : Nat)) : Int) = (r : Int) + 1 by omega] at ih
      simp only [List.map_append, List.map_cons, List.map_nil, List.append_assoc] at ih
      simp only [br_true', if_true, List.map_append, List.map_cons, List.map_nil]
      exact ih
    | false =>
      have ih := Lists_loop2 hR f hi out d (r + 1) acc (by omega) (by omega)
      rw [show (((r + 1 : Nat)) : Int) = (r : Int) + 1 by omega] at ih
      simp only [br_false', Bool.false_eq_true, if_false, List.nil_append]
      exact ih
theorem Lists_loop0 (n R : Nat) (hn : n ≤ 1048576) (hR : R ≤ 1048576) (f : Nat → Nat → Bool) : ∀ (d i : Nat) (acc : List (List Int)), i + d = n → acc.length ≤ i →
    LL f_s_l10Lists 0 lc_s_l10Lists_0 [] k_s_l10Lists_0 ((em n R f, (), (i : Int), ()), acc.map ei, ()) =
      some (.out 0 ((em n R f, (), (n : Int), ()), (acc ++ livesFrom R f i d).map ei, ()))
  | 0, i, acc, h, ha => by
    have e : i = n := by omega
    subst e
    apply gl_s_l10Lists_0
    unfold nl_s_l10Lists_0
    simp [livesFrom]
  | d + 1, i, acc, h, ha => by
    have hi : i < n := by omega
    have hw := wrap_succ (i := i) (by omega)
    have hlt : decide ((i : Int) < (((em n R f).length : Nat) : Int)) = true := decide_eq_true (by rw [em_len]; omega)
    have b2 : (decide ((acc.map ei).length + 1 ≤ 4294967296) && true && true) = true := by
      rw [decide_eq_true (by rw [List.length_map]; omega)]; rfl
    have h2 := Lists_loop2 hR f hi (acc.map ei) R 0 [] (by omega) (Nat.le_refl _)
    simp only [Int.cast_ofNat_Int, List.map_nil, List.nil_append] at h2
    have ih := Lists_loop0 n R hn hR f d (i + 1) (acc ++ [thingsFrom (f i) 0 R]) (by omega) (by simp; omega)
    rw [show (((i + 1 : Nat)) : Int) = (i : Int) + 1 by omega] at ih
    simp only [List.map_append, List.map_cons, List.map_nil, List.append_assoc] at ih
    apply gl_s_l10Lists_0
    unfold nl_s_l10Lists_0
    rw [hlt, h2]
    simp only [br_true', Option.bind_some, loK_out, beq_self_eq_true, b2, hw, livesFrom, List.map_append, List.map_cons]
    exact ih
theorem Lists_law {n R : Nat} (hn : n ≤ 1048576) (hR : R ≤ 1048576) (f : Nat → Nat → Bool) : CC f_s_l10Lists [.v (.sl (em n R f))] [] = some (.sl ((livesFrom R f 0 n).map ei), []) := by
  have hloop := Lists_loop0 n R hn hR f n 0 [] (by omega) (Nat.le_refl _)
  simp only [Int.cast_ofNat_Int, List.map_nil, List.nil_append] at hloop
  apply go_s_l10Lists
  unfold nf_s_l10Lists
  rw [hloop]
  rfl
theorem Live_both {p : Piece} (hok : p.ok) : ∃ l : List (List Int), l.length ≤ 600 ∧ (∀ x ∈ l, x.length ≤ 400) ∧ CC f_i_Live [.v p.enc] [] = some (.sl (l.map ei), []) ∧ CC f_s_Live [.v p.enc] [] = some (.sl (l.map ei), []) := by
  obtain ⟨G, h1, h2⟩ := Live_i hok
  have hP := pieceOk_s hok
  cases hb : pieceB p with
  | false =>
    rw [hb] at h1
    refine ⟨[], by simp, by simp, h1, ?_⟩
    rw [Piece.enc_def]
    apply go_s_Live
    unfold nf_s_Live
    simp only [Piece.enc_eta, hP, hb, Option.bind_some, asBool_bool, Bool.not_false, br_true']
    rfl
  | true =>
    have F := fit_of hok hb
    have hn := F.n
    have hR := F.r
    rw [hb] at h1
    refine ⟨livesFrom p.regs.toNat G 0 p.ins.length, by rw [lives_len]; exact hn, fun x hx => by have := lives_mem hx; omega, h1, ?_⟩
    rw [Piece.enc_def]
    apply go_s_Live
    unfold nf_s_Live
    simp only [Piece.enc_eta, hP, hb, Option.bind_some, asBool_bool, Bool.not_true, br_false', h2 hb, asFp_fp, Nat.zero_add, cell_agg, List.getElem?_cons_zero, List.getElem?_cons_succ, Lists_law (n := p.ins.length) (R := p.regs.toNat) (by omega) (by omega) G]
end Go.Proofs.Ytmjjaoffeajcbaa.Abs

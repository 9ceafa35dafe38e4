/- Code: when it is right; the functions that it names; the reference's answers. -/
import Derived.Test.YtomkegeojknihaaCodeLaws
set_option linter.unusedVariables false
set_option linter.unusedSectionVars false
set_option linter.unusedSimpArgs false
namespace Go.Proofs.Ytomkegeojknihaa.Abs
open Go Go.Proofs

theorem lamB_eq (p : Piece) : lamB p = decide ((-1 ≤ p.lam ∧ p.lam ≤ 149) ∧ ¬ p.inn < 0 ∧ (p.lam < 0 → p.inn = 0) ∧ (0 ≤ p.lam → ¬ p.inn < 1)) := by
  unfold lamB
  rw [Bool.eq_iff_iff]
  simp only [Bool.or_eq_true, Bool.and_eq_true, decide_eq_true_eq]
  omega
theorem l9Piece_loop {p : Piece} (hok : p.ok) (h0 : 0 ≤ p.regs) : ∀ (suf pre : List Ins), p.ins = pre ++ suf →
    LL f_s_l9Piece 0 lc_s_l9Piece_0 [] k_s_l9Piece_0 ((.fp p.enc 0, (p.ins.length : Int), (pre.length : Int), ()), ()) =
      some (bif suf.all (insB p) then .out 0 ((.fp p.enc 0, (p.ins.length : Int), (p.ins.length : Int), ()), ()) else .ret (.bool false, []))
  | [], pre, he => by
    apply gl_s_l9Piece_0
    unfold nl_s_l9Piece_0
    have e : p.ins.length = pre.length := by rw [he]; simp
    have : decide ((pre.length : Int) < (p.ins.length : Int)) = false := decide_eq_false (by omega)
    rw [this, e]; rfl
  | x :: suf, pre, he => by
    have ih := l9Piece_loop hok h0 suf (pre ++ [x]) (by simp [he])
    apply gl_s_l9Piece_0
    unfold nl_s_l9Piece_0
    have hl := hok.ins_len
    have h1 : decide ((pre.length : Int) < (p.ins.length : Int)) = true := by rw [he]; simp; omega
    have hl' : (pre ++ x :: suf).length ≤ 1048576 := by rw [← he]; exact hl
    have h2 : (p.ins.map Ins.enc)[((pre.length : Nat) : Int).toNat]? = some x.enc := by rw [he]; exact get_mid _ _ _ _
    have h3 := insOk_s hok (hok.ins (show x ∈ p.ins by rw [he]; simp)) h0
    rw [h1, nn_mid, wrap_mid pre suf x hl']
    simp only [br_true', Option.bind_some, asFp_fp, Nat.zero_add, Piece.enc_sub, Piece.enc_cell3, asSl_sl, h2, Ins.enc_fits, Ins.enc_sub, h3, asBool_bool, List.all_cons, br_not, ih]
    cases insB p x with
    | true => simp
    | false => simp
theorem pieceOk_s {p : Piece} (hok : p.ok) : CC f_s_l9Piece [.v p.enc] [] = some (.bool (pieceB p), []) := by
  have hl := hok.ins_len
  rw [Piece.enc_def]
  apply go_s_l9Piece
  unfold nf_s_l9Piece pieceB
  rw [lamB_eq]
  simp only [Piece.enc_eta, l1In_law, List.length_map, Option.bind_some, asBool_bool, br_not]
  generalize hb : (br (decide (-1 ≤ p.lam ∧ p.lam ≤ 149)) _ _ : Option (Bool × PUnit)) = blk
  have hblk : blk = some (!(decide (1 ≤ (p.ins.length : Int) ∧ (p.ins.length : Int) ≤ 600) && (decide ((-1 ≤ p.lam ∧ p.lam ≤ 149) ∧ ¬ p.inn < 0 ∧ (p.lam < 0 → p.inn = 0) ∧ (0 ≤ p.lam → ¬ p.inn < 1)) && decide (p.inn ≤ p.regs ∧ p.regs ≤ 400))), PUnit.unit) := by
    rw [← hb]
    by_cases a1 : -1 ≤ p.lam ∧ p.lam ≤ 149
    · by_cases a2 : p.inn < 0
      · simp [a1, a2]
      · by_cases a3 : p.lam < 0
        · have a5 : ¬ 0 ≤ p.lam := by omega
          by_cases a4 : p.inn = 0
          · simp only [decide_eq_true a1, decide_eq_false a2, decide_eq_true a3, decide_eq_false a5, decide_eq_true a4, br_true', br_false', Bool.not_true]
            rw [decide_eq_true (show (-1 ≤ p.lam ∧ p.lam ≤ 149) ∧ ¬ p.inn < 0 ∧ (p.lam < 0 → p.inn = 0) ∧ (0 ≤ p.lam → ¬ p.inn < 1) by omega)]
            cases decide (p.inn ≤ p.regs ∧ p.regs ≤ 400) <;> cases decide (1 ≤ (p.ins.length : Int) ∧ (p.ins.length : Int) ≤ 600) <;> rfl
          · simp only [decide_eq_true a1, decide_eq_false a2, decide_eq_true a3, decide_eq_false a4, br_true', br_false', Bool.not_false]
            rw [decide_eq_false (show ¬ ((-1 ≤ p.lam ∧ p.lam ≤ 149) ∧ ¬ p.inn < 0 ∧ (p.lam < 0 → p.inn = 0) ∧ (0 ≤ p.lam → ¬ p.inn < 1)) by omega)]
            simp
        · have a5 : 0 ≤ p.lam := by omega
          by_cases a6 : p.inn < 1
          · simp only [decide_eq_true a1, decide_eq_false a2, decide_eq_false a3, decide_eq_true a5, decide_eq_true a6, br_true', br_false']
            rw [decide_eq_false (show ¬ ((-1 ≤ p.lam ∧ p.lam ≤ 149) ∧ ¬ p.inn < 0 ∧ (p.lam < 0 → p.inn = 0) ∧ (0 ≤ p.lam → ¬ p.inn < 1)) by omega)]
            simp
          · simp only [decide_eq_true a1, decide_eq_false a2, decide_eq_false a3, decide_eq_true a5, decide_eq_false a6, br_true', br_false']
            rw [decide_eq_true (show (-1 ≤ p.lam ∧ p.lam ≤ 149) ∧ ¬ p.inn < 0 ∧ (p.lam < 0 → p.inn = 0) ∧ (0 ≤ p.lam → ¬ p.inn < 1) by omega)]
            cases decide (p.inn ≤ p.regs ∧ p.regs ≤ 400) <;> cases decide (1 ≤ (p.ins.length : Int) ∧ (p.ins.length : Int) ≤ 600) <;> rfl
    · simp [a1]
  rw [hblk]
  generalize hlam : decide ((-1 ≤ p.lam ∧ p.lam ≤ 149) ∧ ¬ p.inn < 0 ∧ (p.lam < 0 → p.inn = 0) ∧ (0 ≤ p.lam → ¬ p.inn < 1)) = bl
  by_cases hn : 1 ≤ (p.ins.length : Int) ∧ (p.ins.length : Int) ≤ 600
  · rw [decide_eq_true hn]
    cases bl with
    | false => rfl
    | true =>
      by_cases hr : p.inn ≤ p.regs ∧ p.regs ≤ 400
      · have h0 : 0 ≤ p.regs := by
          have := of_decide_eq_true hlam
          omega
        rw [decide_eq_true hr]
        simp only [Bool.and_self, Bool.not_true, Bool.true_and, Option.bind_some, br_false']
        have hloop := l9Piece_loop hok h0 p.ins [] (by simp)
        simp only [List.length_nil, Int.cast_ofNat_Int] at hloop
        rw [hloop]
        cases p.ins.all (insB p) with
        | false => rfl
        | true =>
          obtain ⟨x, hx, hg, hnn⟩ := last_ins hl (by omega)
          simp only [cond_true, Option.bind_some, loK_out, beq_self_eq_true, br_true', asFp_fp, Nat.zero_add, Piece.enc_cell3, hnn, asSl_sl, hg, Ins.enc_fits, Ins.enc_cell0, asInt_int, Bool.true_and]
          unfold lastB
          rw [hx]
          by_cases h15 : x.op = 15
          · simp [h15]
          · simp [h15]
      · rw [decide_eq_false hr]; rfl
  · rw [decide_eq_false hn]; rfl

/-! ### The functions that are named -/
def pieceAt (c : Code) (lam : Int) : Int := if c.funs.any (fun p => decide (p.lam = lam)) then ((c.funs.findIdx fun p => decide (p.lam = lam) : Nat) : Int) else -1
theorem pieceAt_i {c : Code} (hok : c.ok) (lam : Int) : CC f_i_pieceAt [.v c.enc, .v (.int .i64 lam)] [] = some (.int .i64 (pieceAt c lam), []) := by
  have hc : ∀ t ∈ c.funs, CC apId [.v (.func f_i_pieceAt_1 [.fp (.int .i64 lam) 0]), .v t.enc] [] = some (.bool (decide (t.lam = lam)), []) := by
    intro t ht
    refine apC (cs := [t.enc]) (by decide) rfl rfl ?_
    show CC f_i_pieceAt_1 [.v t.enc, .v (.fp (.int .i64 lam) 0)] [] = _
    rw [Piece.enc_def]
    apply go_i_pieceAt_1
    rfl
  have h := indexPiece_law hok.funs_len hc
  rw [Code.enc_def]
  apply go_i_pieceAt
  unfold nf_i_pieceAt
  rw [h]; rfl
theorem l9Fun_loop {c : Code} (hok : c.ok) (lam : Int) : ∀ (suf pre : List Piece), c.funs = pre ++ suf →
    ∃ q, LL f_s_l9Fun 0 lc_s_l9Fun_0 [] k_s_l9Fun_0 ((lam, .fp c.enc 0, (pre.length : Int), ()), ()) =
      some (if suf.any (fun p => decide (p.lam = lam)) then .ret (.int .i64 ((pre.length + suf.findIdx fun p => decide (p.lam = lam) : Nat) : Int), []) else .out 0 q)
  | [], pre, he => by
    refine ⟨((lam, .fp c.enc 0, (pre.length : Int), ()), ()), ?_⟩
    apply gl_s_l9Fun_0
    unfold nl_s_l9Fun_0
    simp only [asFp_fp, Option.bind_some, Nat.zero_add, Code.enc_cell0, asSl_sl]
    have : decide ((pre.length : Int) < (((c.funs.map Piece.enc).length : Nat) : Int)) = false := by rw [he]; simp
    rw [this]; rfl
  | x :: suf, pre, he => by
    obtain ⟨q, ih⟩ := l9Fun_loop hok lam suf (pre ++ [x]) (by simp [he])
    refine ⟨q, ?_⟩
    apply gl_s_l9Fun_0
    unfold nl_s_l9Fun_0
    have hl' : (pre ++ x :: suf).length ≤ 1048576 := by rw [← he]; exact hok.funs_len
    have h1 : decide ((pre.length : Int) < (((c.funs.map Piece.enc).length : Nat) : Int)) = true := by rw [he]; simp; omega
    have h2 : (c.funs.map Piece.enc)[((pre.length : Nat) : Int).toNat]? = some x.enc := by rw [he]; exact get_mid _ _ _ _
    simp only [asFp_fp, Option.bind_some, Nat.zero_add, Code.enc_cell0, asSl_sl]
    rw [h1, nn_mid, h2, wrap_mid pre suf x hl']
    simp only [br_true', Option.bind_some, Piece.enc_fits, Piece.enc_cell0, asInt_int, List.any_cons, List.findIdx_cons, ih]
    by_cases hx : x.lam = lam
    · simp [hx]
    · simp only [decide_eq_false hx, br_false', Bool.false_or, cond_false]
      simp only [List.length_append, List.length_cons, List.length_nil]
      rw [show pre.length + (0 + 1) + suf.findIdx (fun p => decide (p.lam = lam)) = pre.length + (suf.findIdx (fun p => decide (p.lam = lam)) + 1) by omega]
theorem pieceAt_s {c : Code} (hok : c.ok) (lam : Int) : CC f_s_l9Fun [.v c.enc, .v (.int .i64 lam)] [] = some (.int .i64 (pieceAt c lam), []) := by
  obtain ⟨q, h⟩ := l9Fun_loop hok lam c.funs [] (by simp)
  simp only [List.length_nil, Int.cast_ofNat_Int, Nat.zero_add] at h
  rw [Code.enc_def]
  apply go_s_l9Fun
  unfold nf_s_l9Fun pieceAt
  rw [Code.enc_eta, h]
  split <;> rfl
theorem pieceAt_lt (c : Code) (lam : Int) (h : 0 ≤ pieceAt c lam) : (pieceAt c lam).toNat < c.funs.length := by
  unfold pieceAt at h ⊢
  split at h
  · rename_i ha
    rw [if_pos ha]
    have := List.findIdx_lt_length_of_exists (p := fun p : Piece => decide (p.lam = lam)) (by simpa using ha)
    simpa using this
  · omega
def makeB (c : Code) (i : Ins) : Bool := decide (0 ≤ pieceAt c i.n) && decide ((i.l.length : Int) = IntKind.i64.wrap (((c.funs[(pieceAt c i.n).toNat]?).map Piece.inn).getD 0 - 1))
def lamInsB (c : Code) (i : Ins) : Bool := bif decide (i.op = 8) then makeB c i else bif decide (i.op = 14) then i.l.all (fun lam => decide (0 ≤ pieceAt c lam)) else true
def lamsB (c : Code) (p : Piece) : Bool := p.ins.all (lamInsB c)
theorem at_get {c : Code} {lam : Int} (h : 0 ≤ pieceAt c lam) : ∃ p, c.funs[(pieceAt c lam).toNat]? = some p ∧ (c.funs.map Piece.enc)[(pieceAt c lam).toNat]? = some p.enc := by
  have := pieceAt_lt c lam h
  exact ⟨c.funs[(pieceAt c lam).toNat], List.getElem?_eq_getElem this, by simp [this]⟩
theorem lams_loop {c : Code} (hok : c.ok) (i : Ins) (hr : rise none i.l = true) : ∀ (suf pre : List Int), i.l = pre ++ suf → i.l.length ≤ 1048576 →
    ∃ q, LL f_i_lamsOk_1 0 lc_i_lamsOk_1_0 [] k_i_lamsOk_1_0 ((.fp c.enc 0, (), i.l.map (.int .i64), (i.l.length : Int), (pre.length : Int), ()), (i.op, i.d, i.x, i.y, i.n, i.l.map (.int .i64), i.to, ()), ()) =
      some (bif bif decide (i.op = 14) then suf.all (fun lam => decide (0 ≤ pieceAt c lam)) else true then .out 0 q else .ret (.bool true, [])) := by
  have hrise : ∀ (pre suf : List Int) (x a : Int), rise none (pre ++ [a] ++ x :: suf) = true → a < x := by
    intro pre
    have : ∀ (pre : List Int) (o : Option Int) (suf : List Int) (x a : Int), rise o (pre ++ [a] ++ x :: suf) = true → a < x := by
      intro pre
      induction pre with
      | nil =>
        intro o suf x a h
        cases o <;> simp [rise] at h
        · exact h.1
        · exact h.2.1
      | cons y r ih =>
        intro o suf x a h
        cases o with
        | none => exact ih _ suf x a (by simpa [rise] using h)
        | some z => simp [rise] at h; exact ih (some y) suf x a (by simpa using h.2)
    exact this pre none
  intro suf
  induction suf with
  | nil =>
    intro pre he hl
    refine ⟨((.fp c.enc 0, (), i.l.map (.int .i64), (i.l.length : Int), (pre.length : Int), ()), (i.op, i.d, i.x, i.y, i.n, i.l.map (.int .i64), i.to, ()), ()), ?_⟩
    apply gl_i_lamsOk_1_0
    unfold nl_i_lamsOk_1_0
    have : decide ((pre.length : Int) < (i.l.length : Int)) = false := by rw [he]; simp
    rw [this]
    cases decide (i.op = 14) <;> rfl
  | cons x suf ih =>
    intro pre he hl
    obtain ⟨q, ih⟩ := ih (pre ++ [x]) (by simp [he]) hl
    refine ⟨q, ?_⟩
    apply gl_i_lamsOk_1_0
    unfold nl_i_lamsOk_1_0
    have h1 : decide ((pre.length : Int) < (i.l.length : Int)) = true := by rw [he]; simp; omega
    have hl' : (pre ++ x :: suf).length ≤ 1048576 := by rw [← he]; exact hl
    have h2 : (i.l.map (CVal.int .i64))[((pre.length : Nat) : Int).toNat]? = some (.int .i64 x) := by rw [he]; exact get_mid _ _ _ _
    rw [h1, nn_mid, h2, wrap_mid pre suf x hl']
    simp only [br_true', Option.bind_some, fits_int, cell_int, asInt_int, asFp_fp, Code.enc_sub, pieceAt_i hok, ih]
    by_cases h14 : i.op = 14
    · simp only [decide_eq_true h14, br_true', cond_true, List.all_cons]
      by_cases hx : 0 ≤ pieceAt c x
      · have hx' : ¬ pieceAt c x < 0 := by omega
        simp only [decide_eq_false hx', decide_eq_true hx, br_false', Bool.true_and]
        rcases eq_snoc pre with rfl | ⟨p, a, rfl⟩
        · simp
        · have hpos : decide ((0 : Int) < ((p ++ [a]).length : Int)) = true := decide_eq_true (by simp only [List.length_append, List.length_cons, List.length_nil]; omega)
          have hg : (i.l.map (CVal.int .i64))[(IntKind.i64.wrap (((p ++ [a]).length : Int) - 1)).toNat]? = some (.int .i64 a) := by rw [he]; exact get_last p (x :: suf) a hl'
          have hn := nn_last p a (by simp at hl' ⊢; omega)
          have hax : ¬ x ≤ a := by have := hrise p suf x a (by rw [← he]; exact hr); omega
          simp only [hpos, br_true', hn, hg, Option.bind_some, fits_int, cell_int, asInt_int, decide_eq_false hax, br_false']
      · have hx' : pieceAt c x < 0 := by omega
        simp [hx', hx]
    · simp [h14]
theorem lamIns_i {c : Code} (hok : c.ok) {i : Ins} (hi : i.ok) (hr : i.op = 14 → rise none i.l = true) : CC f_i_lamsOk_1 [.v i.enc, .v (.fp c.enc 0)] [] = some (.bool (!lamInsB c i), []) := by
  have hat := pieceAt_i hok i.n
  rw [Code.enc_def] at *
  rw [Ins.enc_def]
  apply go_i_lamsOk_1
  unfold nf_i_lamsOk_1 lamInsB
  simp only [Code.enc_eta, List.length_map] at hat ⊢
  by_cases h8 : i.op = 8
  · simp only [decide_eq_true h8, br_true', cond_true, hat, Option.bind_some, asInt_int, asIdx_int]
    unfold makeB
    by_cases hx : 0 ≤ pieceAt c i.n
    · have hx' : ¬ pieceAt c i.n < 0 := by omega
      obtain ⟨p, hp, hg⟩ := at_get hx
      simp only [decide_eq_false hx', decide_eq_true hx, br_false', Bool.and_true, br_true', hg, hp, Option.bind_some, Piece.enc_fits, Piece.enc_cell1, asInt_int, Option.map_some, Option.getD_some, Bool.true_and]
    · have hx' : pieceAt c i.n < 0 := by omega
      simp [hx', hx]
  · simp only [decide_eq_false h8, br_false', cond_false]
    by_cases h14 : i.op = 14
    · obtain ⟨q, hloop⟩ := lams_loop hok i (hr h14) i.l [] (by simp) hi.l_len
      simp only [List.length_nil, Int.cast_ofNat_Int] at hloop
      rw [hloop]
      simp only [decide_eq_true h14, cond_true]
      cases i.l.all fun lam => decide (0 ≤ pieceAt c lam) with
      | true => rfl
      | false => rfl
    · have hloop : ∃ q, LL f_i_lamsOk_1 0 lc_i_lamsOk_1_0 [] k_i_lamsOk_1_0 ((.fp c.enc 0, (), i.l.map (.int .i64), (i.l.length : Int), 0, ()), (i.op, i.d, i.x, i.y, i.n, i.l.map (.int .i64), i.to, ()), ()) = some (.out 0 q) := by
        have : ∀ (suf pre : List Int), i.l = pre ++ suf → ∃ q, LL f_i_lamsOk_1 0 lc_i_lamsOk_1_0 [] k_i_lamsOk_1_0 ((.fp c.enc 0, (), i.l.map (.int .i64), (i.l.length : Int), (pre.length : Int), ()), (i.op, i.d, i.x, i.y, i.n, i.l.map (.int .i64), i.to, ()), ()) = some (.out 0 q) := by
          intro suf
          induction suf with
          | nil =>
            intro pre he
            refine ⟨((.fp c.enc 0, (), i.l.map (.int .i64), (i.l.length : Int), (pre.length : Int), ()), (i.op, i.d, i.x, i.y, i.n, i.l.map (.int .i64), i.to, ()), ()), ?_⟩
            apply gl_i_lamsOk_1_0
            unfold nl_i_lamsOk_1_0
            have : decide ((pre.length : Int) < (i.l.length : Int)) = false := by rw [he]; simp
            rw [this]
            rfl
          | cons x suf ih =>
            intro pre he
            obtain ⟨q, ih⟩ := ih (pre ++ [x]) (by simp [he])
            refine ⟨q, ?_⟩
            apply gl_i_lamsOk_1_0
            unfold nl_i_lamsOk_1_0
            have h1 : decide ((pre.length : Int) < (i.l.length : Int)) = true := by rw [he]; simp; omega
            have hl' : (pre ++ x :: suf).length ≤ 1048576 := by rw [← he]; exact hi.l_len
            have h2 : (i.l.map (CVal.int .i64))[((pre.length : Nat) : Int).toNat]? = some (.int .i64 x) := by rw [he]; exact get_mid _ _ _ _
            rw [h1, nn_mid, h2, wrap_mid pre suf x hl']
            simp only [br_true', Option.bind_some, fits_int, cell_int, asInt_int, decide_eq_false h14, br_false', ih]
        obtain ⟨q, h⟩ := this i.l [] (by simp)
        exact ⟨q, h⟩
      obtain ⟨q, hloop⟩ := hloop
      rw [hloop]
      simp [h14]
theorem lamsOk_i {c : Code} (hok : c.ok) {p : Piece} (hp : p.ok) (hr : ∀ i ∈ p.ins, i.op = 14 → rise none i.l = true) : CC f_i_lamsOk [.v c.enc, .v p.enc] [] = some (.bool (lamsB c p), []) := by
  have hc : ∀ t ∈ p.ins, CC apId [.v (.func f_i_lamsOk_1 [.fp c.enc 0]), .v t.enc] [] = some (.bool (!lamInsB c t), []) := by
    intro t ht
    exact apC (cs := [t.enc]) (by decide) rfl rfl (lamIns_i hok (hp.ins ht) (hr t ht))
  have h := containsIns_law hp.ins_len hc
  rw [Code.enc_def] at *
  rw [Piece.enc_def]
  apply go_i_lamsOk
  unfold nf_i_lamsOk lamsB
  rw [h]
  simp only [Option.bind_some, asBool_bool, any_not, Bool.not_not]
theorem l9Lams_in {c : Code} (hok : c.ok) {i : Ins} (hi : i.ok) (k : Int) (a0 a1 a2 : Int) (a3 : List CVal) : ∀ (suf pre : List Int), i.l = pre ++ suf →
    ∃ q, LL f_s_l9Lams 2 lc_s_l9Lams_2 [] k_s_l9Lams_2 ((.fp c.enc 0, (), k, (), (pre.length : Int), ()), (a0, a1, a2, a3, ()), (i.op, i.d, i.x, i.y, i.n, i.l.map (.int .i64), i.to, ()), ()) =
      some (bif bif decide (i.op = 14) then suf.all (fun lam => decide (0 ≤ pieceAt c lam)) else true then
        .out 2 ((.fp c.enc 0, (), k, (), q, ()), (a0, a1, a2, a3, ()), (i.op, i.d, i.x, i.y, i.n, i.l.map (.int .i64), i.to, ()), ()) else .ret (.bool false, []))
  | [], pre, he => by
    refine ⟨(pre.length : Int), ?_⟩
    apply gl_s_l9Lams_2
    unfold nl_s_l9Lams_2
    have : decide ((pre.length : Int) < (((i.l.map (CVal.int .i64)).length : Nat) : Int)) = false := by rw [he]; simp
    rw [this]
    cases decide (i.op = 14) <;> rfl
  | x :: suf, pre, he => by
    by_cases h14 : i.op = 14
    · obtain ⟨q, ih⟩ := l9Lams_in hok hi k a0 a1 a2 a3 suf (pre ++ [x]) (by simp [he])
      refine ⟨q, ?_⟩
      apply gl_s_l9Lams_2
      unfold nl_s_l9Lams_2
      have h1 : decide ((pre.length : Int) < (((i.l.map (CVal.int .i64)).length : Nat) : Int)) = true := by rw [he]; simp; omega
      have hl' : (pre ++ x :: suf).length ≤ 1048576 := by rw [← he]; exact hi.l_len
      have h2 : (i.l.map (CVal.int .i64))[((pre.length : Nat) : Int).toNat]? = some (.int .i64 x) := by rw [he]; exact get_mid _ _ _ _
      rw [h1, nn_mid, h2, wrap_mid pre suf x hl']
      simp only [br_true', Option.bind_some, fits_int, cell_int, asInt_int, asFp_fp, Code.enc_sub, pieceAt_s hok, ih, decide_eq_true h14, cond_true, List.all_cons]
      by_cases hx : 0 ≤ pieceAt c x
      · have hx' : ¬ pieceAt c x < 0 := by omega
        simp [hx', hx]
      · have hx' : pieceAt c x < 0 := by omega
        simp [hx', hx]
    · refine ⟨(pre.length : Int), ?_⟩
      apply gl_s_l9Lams_2
      unfold nl_s_l9Lams_2
      simp only [decide_eq_false h14, br_self, Option.bind_some, br_false', cond_false, cond_true]
end Go.Proofs.Ytomkegeojknihaa.Abs

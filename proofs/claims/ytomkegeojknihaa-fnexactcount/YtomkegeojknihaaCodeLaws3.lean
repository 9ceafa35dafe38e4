/- Code: when it is right; how much there is. -/
import Derived.Test.YtomkegeojknihaaCodeLaws2
set_option linter.unusedVariables false
set_option linter.unusedSectionVars false
set_option linter.unusedSimpArgs false
namespace Go.Proofs.Ytomkegeojknihaa.Abs
open Go Go.Proofs

theorem l9Lams_loop {c : Code} (hok : c.ok) {p : Piece} (hp : p.ok) : ∀ (suf pre : List Ins), p.ins = pre ++ suf →
    ∃ q, LL f_s_l9Lams 0 lc_s_l9Lams_0 [] k_s_l9Lams_0 ((.fp c.enc 0, (), (pre.length : Int), ()), (p.lam, p.inn, p.regs, p.ins.map Ins.enc, ()), ()) =
      some (bif suf.all (lamInsB c) then .out 0 q else .ret (.bool false, []))
  | [], pre, he => by
    refine ⟨((.fp c.enc 0, (), (pre.length : Int), ()), (p.lam, p.inn, p.regs, p.ins.map Ins.enc, ()), ()), ?_⟩
    apply gl_s_l9Lams_0
    unfold nl_s_l9Lams_0
    have : decide ((pre.length : Int) < (((p.ins.map Ins.enc).length : Nat) : Int)) = false := by rw [he]; simp
    rw [this]; rfl
  | x :: suf, pre, he => by
    obtain ⟨q, ih⟩ := l9Lams_loop hok hp suf (pre ++ [x]) (by simp [he])
    refine ⟨q, ?_⟩
    have hx : x.ok := hp.ins (show x ∈ p.ins by rw [he]; simp)
    obtain ⟨q2, hin⟩ := l9Lams_in hok hx (pre.length : Int) p.lam p.inn p.regs (p.ins.map Ins.enc) x.l [] (by simp)
    simp only [List.length_nil, Int.cast_ofNat_Int] at hin
    apply gl_s_l9Lams_0
    unfold nl_s_l9Lams_0
    have hl' : (pre ++ x :: suf).length ≤ 1048576 := by rw [← he]; exact hp.ins_len
    have h1 : decide ((pre.length : Int) < (((p.ins.map Ins.enc).length : Nat) : Int)) = true := by rw [he]; simp; omega
    have h2 : (p.ins.map Ins.enc)[((pre.length : Nat) : Int).toNat]? = some x.enc := by rw [he]; exact get_mid _ _ _ _
    rw [h1, nn_mid, h2]
    simp only [br_true', Option.bind_some, Ins.enc_fits, Ins.enc_sub, Ins.enc_isAggN, Ins.enc_cell0, Ins.enc_cell1, Ins.enc_cell2, Ins.enc_cell3, Ins.enc_cell4, Ins.enc_cell5, Ins.enc_cell6, asInt_int, asSl_sl, asFp_fp, Code.enc_sub, Nat.zero_add, Code.enc_cell0, pieceAt_s hok, asIdx_int, hin, List.all_cons, List.length_map]
    unfold lamInsB
    by_cases h8 : x.op = 8
    · have h14 : ¬ x.op = 14 := by omega
      simp only [decide_eq_true h8, decide_eq_false h14, br_true', cond_true, cond_false]
      unfold makeB
      by_cases hx : 0 ≤ pieceAt c x.n
      · have hx' : ¬ pieceAt c x.n < 0 := by omega
        obtain ⟨g, hg1, hg2⟩ := at_get hx
        simp only [decide_eq_false hx', decide_eq_true hx, br_false', Bool.and_true, br_true', hg1, hg2, Option.bind_some, Piece.enc_fits, Piece.enc_cell1, asInt_int, Option.map_some, Option.getD_some, Bool.true_and]
        by_cases hlen : (x.l.length : Int) = IntKind.i64.wrap (g.inn - 1)
        · simp only [decide_eq_true hlen, Bool.not_true, br_false', loK_out, beq_self_eq_true, br_true', Bool.true_and, wrap_mid pre suf x hl', Option.bind_some]
          exact ih
        · simp only [decide_eq_false hlen, Bool.not_false, br_true', Bool.false_and, cond_false]
      · have hx' : pieceAt c x.n < 0 := by omega
        simp [hx', hx]
    · simp only [decide_eq_false h8, br_false', cond_false]
      cases hb : (bif decide (x.op = 14) then x.l.all (fun lam => decide (0 ≤ pieceAt c lam)) else true) with
      | true =>
        simp only [cond_true, Option.bind_some, loK_out, beq_self_eq_true, br_true', Bool.true_and, wrap_mid pre suf x hl']
        exact ih
      | false => rfl
theorem lamsOk_s {c : Code} (hok : c.ok) {p : Piece} (hp : p.ok) : CC f_s_l9Lams [.v c.enc, .v p.enc] [] = some (.bool (lamsB c p), []) := by
  obtain ⟨q, h⟩ := l9Lams_loop hok hp p.ins [] (by simp)
  simp only [List.length_nil, Int.cast_ofNat_Int] at h
  rw [Code.enc_def, Piece.enc_def]
  apply go_s_l9Lams
  unfold nf_s_l9Lams lamsB
  rw [Code.enc_eta, h]
  cases p.ins.all (lamInsB c) <;> rfl
theorem pieceB_rise {p : Piece} (h : pieceB p = true) : ∀ i ∈ p.ins, i.op = 14 → rise none i.l = true := by
  intro i hi h14
  unfold pieceB at h
  simp only [Bool.and_eq_true, List.all_eq_true] at h
  have hi := h.2.2.2.1 i hi
  unfold insB at hi
  simp only [Bool.and_eq_true] at hi
  have hl := hi.2.2.2.2.2.2
  unfold listB at hl
  have h8 : ¬ i.op = 8 := by omega
  rw [decide_eq_false h8, cond_false] at hl
  cases hll : i.l with
  | nil => rfl
  | cons x r =>
    rw [hll] at hl
    simp only [List.isEmpty_cons, cond_false, Bool.and_eq_true] at hl
    exact hl.2.2

/-! ### All of it -/
def funB (c : Code) (p : Piece) : Bool := decide (0 ≤ p.lam) && (pieceB p && lamsB c p)
def riseP : Option Int → List Piece → Bool
  | _, [] => true
  | none, x :: r => riseP (some x.lam) r
  | some q, x :: r => decide (q < x.lam) && riseP (some x.lam) r
def codeB (c : Code) : Bool := decide (c.funs.length ≤ 200) && (decide (c.main.lam = -1) && (pieceB c.main && (lamsB c c.main && (riseP none c.funs && c.funs.all (funB c)))))
def stepsB (c : Code) : Option Int → List Piece → Bool
  | _, [] => true
  | none, x :: r => funB c x && stepsB c (some x.lam) r
  | some q, x :: r => decide (q < x.lam) && (funB c x && stepsB c (some x.lam) r)
theorem stepsB_eq (c : Code) : ∀ (l : List Piece) (o : Option Int), stepsB c o l = (riseP o l && l.all (funB c))
  | [], o => by cases o <;> rfl
  | x :: r, none => by
    simp only [stepsB, riseP, List.all_cons, stepsB_eq c r]
    cases funB c x <;> cases riseP (some x.lam) r <;> rfl
  | x :: r, some q => by
    simp only [stepsB, riseP, List.all_cons, stepsB_eq c r]
    cases funB c x <;> cases riseP (some x.lam) r <;> cases decide (q < x.lam) <;> rfl
theorem get_lastP (q suf : List Piece) (a : Piece) (h : (q ++ [a] ++ suf).length ≤ 1048576) : ((q ++ [a] ++ suf).map Piece.enc)[(IntKind.i64.wrap (((q ++ [a]).length : Int) - 1)).toNat]? = some a.enc := by
  have : IntKind.i64.wrap (((q ++ [a]).length : Int) - 1) = (q.length : Int) := by
    rw [wrap_i64] <;> simp at h ⊢ <;> omega
  rw [this]
  simp
theorem nn_lastP (q : List Piece) (a : Piece) (h : (q ++ [a]).length ≤ 1048576) : (decide ((0 : Int) ≤ IntKind.i64.wrap (((q ++ [a]).length : Int) - 1)) && true) = true := by
  have : IntKind.i64.wrap (((q ++ [a]).length : Int) - 1) = (q.length : Int) := by
    rw [wrap_i64] <;> simp at h ⊢ <;> omega
  rw [this]
  simp
theorem eq_snocP (l : List Piece) : l = [] ∨ ∃ q a, l = q ++ [a] := by
  rcases List.eq_nil_or_concat l with h | ⟨q, a, h⟩
  · exact .inl h
  · exact .inr ⟨q, a, by simpa using h⟩
/-- What the program asks of a function's piece. -/
theorem funB_eq (c : Code) (p : Piece) : (decide (0 ≤ p.lam ∧ p.lam ≤ 149) && (!decide (p.inn < 1) && (pieceB p && lamsB c p))) = funB c p := by
  unfold funB
  cases hp : pieceB p with
  | false => simp
  | true =>
    unfold pieceB at hp
    simp only [Bool.and_eq_true] at hp
    have h2 := hp.2.1
    unfold lamB at h2
    simp only [Bool.or_eq_true, Bool.and_eq_true, decide_eq_true_eq] at h2
    by_cases h0 : 0 ≤ p.lam
    · rw [decide_eq_true (show 0 ≤ p.lam ∧ p.lam ≤ 149 by omega), decide_eq_true h0, decide_eq_false (show ¬ p.inn < 1 by omega)]; simp
    · rw [decide_eq_false (show ¬ (0 ≤ p.lam ∧ p.lam ≤ 149) by omega), decide_eq_false h0]; rfl
theorem CodeOk_iloop {c : Code} (hok : c.ok) : ∀ (suf pre : List Piece), c.funs = pre ++ suf →
    ∃ q, LL f_i_CodeOk 0 lc_i_CodeOk_0 [] k_i_CodeOk_0 (((), c.funs.map Piece.enc, (c.funs.length : Int), (pre.length : Int), ()), (c.funs.map Piece.enc, c.main.lam, c.main.inn, c.main.regs, c.main.ins.map Ins.enc, ()), ()) =
      some (bif stepsB c (pre.getLast?.map Piece.lam) suf then .out 0 q else .ret (.bool false, []))
  | [], pre, he => by
    refine ⟨(((), c.funs.map Piece.enc, (c.funs.length : Int), (pre.length : Int), ()), (c.funs.map Piece.enc, c.main.lam, c.main.inn, c.main.regs, c.main.ins.map Ins.enc, ()), ()), ?_⟩
    apply gl_i_CodeOk_0
    unfold nl_i_CodeOk_0
    have : decide ((pre.length : Int) < (c.funs.length : Int)) = false := by rw [he]; simp
    rw [this]; simp [stepsB]
  | x :: suf, pre, he => by
    obtain ⟨q, ih⟩ := CodeOk_iloop hok suf (pre ++ [x]) (by simp [he])
    refine ⟨q, ?_⟩
    have hx : x.ok := hok.funs (show x ∈ c.funs by rw [he]; simp)
    have hP := pieceOk_i hx
    have hS : stepsB c ((pre ++ [x]).getLast?.map Piece.lam) suf = stepsB c (some x.lam) suf := by simp
    rw [hS] at ih
    apply gl_i_CodeOk_0
    unfold nl_i_CodeOk_0
    have hl' : (pre ++ x :: suf).length ≤ 1048576 := by rw [← he]; exact hok.funs_len
    have h1 : decide ((pre.length : Int) < (c.funs.length : Int)) = true := by rw [he]; simp; omega
    have h2 : (c.funs.map Piece.enc)[((pre.length : Nat) : Int).toNat]? = some x.enc := by rw [he]; exact get_mid _ _ _ _
    rw [h1, nn_mid, h2, wrap_mid pre suf x hl']
    simp only [br_true', Option.bind_some, Piece.enc_fits, Piece.enc_sub, Piece.enc_isAggN, Piece.enc_cell0, Piece.enc_cell1, Piece.enc_cell2, Piece.enc_cell3, asInt_int, in_law, asBool_bool, br_not, Piece.enc_eta, Code.enc_eta, hP]
    have htail : (br (decide (x.inn < 1)) (some (true, PUnit.unit)) (br (pieceB x) ((CC f_i_lamsOk [.v c.enc, .v x.enc] []).bind fun r => r.1.asBool.bind fun b => some (!b, PUnit.unit)) (some (true, PUnit.unit))) : Option (Bool × PUnit)) =
        some (!(!decide (x.inn < 1) && (pieceB x && lamsB c x)), PUnit.unit) := by
      cases decide (x.inn < 1) with
      | true => rfl
      | false =>
        cases hp : pieceB x with
        | false => rfl
        | true =>
          simp only [br_false', br_true', lamsOk_i hok hx (pieceB_rise hp), Option.bind_some, asBool_bool, Bool.not_false, Bool.true_and]
    rcases eq_snocP pre with rfl | ⟨p, a, rfl⟩
    · simp only [List.length_nil, Int.cast_ofNat_Int, Int.lt_irrefl, decide_false, br_false', htail, List.getLast?_nil, Option.map_none, stepsB]
      rw [← funB_eq]
      cases decide (0 ≤ x.lam ∧ x.lam ≤ 149) with
      | false => rfl
      | true =>
        cases (!decide (x.inn < 1) && (pieceB x && lamsB c x)) with
        | false => rfl
        | true =>
          simp only [br_true', Option.bind_some, Bool.not_true, br_false', Bool.true_and]
          exact ih
    · have hpos : decide ((0 : Int) < ((p ++ [a]).length : Int)) = true := decide_eq_true (by simp only [List.length_append, List.length_cons, List.length_nil]; omega)
      have hg : (c.funs.map Piece.enc)[(IntKind.i64.wrap (((p ++ [a]).length : Int) - 1)).toNat]? = some a.enc := by rw [he]; exact get_lastP p (x :: suf) a hl'
      have hn := nn_lastP p a (by simp at hl' ⊢; omega)
      simp only [hpos, br_true', hn, hg, Option.bind_some, Piece.enc_fits, Piece.enc_cell0, asInt_int, htail, List.getLast?_concat, Option.map_some, stepsB]
      rw [← funB_eq]
      cases decide (0 ≤ x.lam ∧ x.lam ≤ 149) with
      | false => simp
      | true =>
        by_cases hax : a.lam < x.lam
        · have h3 : ¬ x.lam ≤ a.lam := by omega
          simp only [decide_eq_false h3, decide_eq_true hax, br_true', br_false', Bool.true_and]
          cases (!decide (x.inn < 1) && (pieceB x && lamsB c x)) with
          | false => rfl
          | true =>
            simp only [Option.bind_some, Bool.not_true, br_false', Bool.true_and]
            exact ih
        · have h3 : x.lam ≤ a.lam := by omega
          simp [h3, hax]
theorem CodeOk_i {c : Code} (hok : c.ok) : CC f_i_CodeOk [.v c.enc] [] = some (.bool (codeB c), []) := by
  have hP := pieceOk_i hok.main
  obtain ⟨q, hloop⟩ := CodeOk_iloop hok c.funs [] (by simp)
  simp only [List.length_nil, Int.cast_ofNat_Int, List.getLast?_nil, Option.map_none, stepsB_eq] at hloop
  rw [Code.enc_def]
  apply go_i_CodeOk
  unfold nf_i_CodeOk codeB
  simp only [Piece.enc_eta, Code.enc_eta, hP, List.length_map, Option.bind_some, asBool_bool, br_not, hloop]
  have hlen : decide ((200 : Int) < (c.funs.length : Int)) = !decide (c.funs.length ≤ 200) := by
    by_cases h : c.funs.length ≤ 200
    · rw [decide_eq_true h, decide_eq_false (by omega)]; rfl
    · rw [decide_eq_false h, decide_eq_true (by omega)]; rfl
  rw [hlen]
  cases decide (c.funs.length ≤ 200) with
  | false => rfl
  | true =>
    by_cases hlam : c.main.lam = -1
    · rw [decide_eq_true hlam]
      simp only [Bool.not_true, br_false', br_true', Bool.true_and]
      cases hp : pieceB c.main with
      | false => by_cases hi : c.main.inn = 0 <;> simp [hi]
      | true =>
        have hi : c.main.inn = 0 := by
          unfold pieceB at hp
          simp only [Bool.and_eq_true] at hp
          have h2 := hp.2.1
          unfold lamB at h2
          simp only [Bool.or_eq_true, Bool.and_eq_true, decide_eq_true_eq] at h2
          omega
        have hL := lamsOk_i hok hok.main (pieceB_rise hp)
        simp only [decide_eq_true hi, br_true', hL, Option.bind_some, asBool_bool, Bool.true_and]
        cases lamsB c c.main with
        | false => rfl
        | true =>
          simp only [Bool.not_true, br_false', Bool.true_and]
          cases (riseP none c.funs && c.funs.all (funB c)) <;> rfl
    · rw [decide_eq_false hlam]; rfl
theorem CodeOk_sloop {c : Code} (hok : c.ok) : ∀ (suf pre : List Piece), c.funs = pre ++ suf →
    ∃ q, LL f_s_CodeOk 0 lc_s_CodeOk_0 [] k_s_CodeOk_0 (((), (pre.length : Int), ()), (c.funs.map Piece.enc, c.main.lam, c.main.inn, c.main.regs, c.main.ins.map Ins.enc, ()), ()) =
      some (bif stepsB c (pre.getLast?.map Piece.lam) suf then .out 0 q else .ret (.bool false, []))
  | [], pre, he => by
    refine ⟨(((), (pre.length : Int), ()), (c.funs.map Piece.enc, c.main.lam, c.main.inn, c.main.regs, c.main.ins.map Ins.enc, ()), ()), ?_⟩
    apply gl_s_CodeOk_0
    unfold nl_s_CodeOk_0
    have : decide ((pre.length : Int) < (((c.funs.map Piece.enc).length : Nat) : Int)) = false := by rw [he]; simp
    rw [this]; simp [stepsB]
  | x :: suf, pre, he => by
    obtain ⟨q, ih⟩ := CodeOk_sloop hok suf (pre ++ [x]) (by simp [he])
    refine ⟨q, ?_⟩
    have hx : x.ok := hok.funs (show x ∈ c.funs by rw [he]; simp)
    have hP := pieceOk_s hx
    have hL := lamsOk_s hok hx
    have hS : stepsB c ((pre ++ [x]).getLast?.map Piece.lam) suf = stepsB c (some x.lam) suf := by simp
    rw [hS] at ih
    apply gl_s_CodeOk_0
    unfold nl_s_CodeOk_0
    have hl' : (pre ++ x :: suf).length ≤ 1048576 := by rw [← he]; exact hok.funs_len
    have h1 : decide ((pre.length : Int) < (((c.funs.map Piece.enc).length : Nat) : Int)) = true := by rw [he]; simp; omega
    have h2 : (c.funs.map Piece.enc)[((pre.length : Nat) : Int).toNat]? = some x.enc := by rw [he]; exact get_mid _ _ _ _
    rw [h1, nn_mid, h2, wrap_mid pre suf x hl']
    have hneg : decide (x.lam < 0) = !decide (0 ≤ x.lam) := by
      by_cases h : 0 ≤ x.lam
      · rw [decide_eq_true h, decide_eq_false (by omega)]; rfl
      · rw [decide_eq_false h, decide_eq_true (by omega)]; rfl
    simp only [br_true', Option.bind_some, Piece.enc_fits, Piece.enc_sub, Piece.enc_isAggN, Piece.enc_cell0, Piece.enc_cell1, Piece.enc_cell2, Piece.enc_cell3, asInt_int, asBool_bool, br_not, Piece.enc_eta, Code.enc_eta, hP, hL, hneg]
    have htail : (br (pieceB x) (some (!lamsB c x, PUnit.unit)) (some (true, PUnit.unit)) : Option (Bool × PUnit)) = some (!(pieceB x && lamsB c x), PUnit.unit) := by
      cases pieceB x <;> rfl
    rcases eq_snocP pre with rfl | ⟨p, a, rfl⟩
    · simp only [List.length_nil, Int.cast_ofNat_Int, Int.lt_irrefl, decide_false, br_false', htail, List.getLast?_nil, Option.map_none, stepsB]
      unfold funB
      cases decide (0 ≤ x.lam) with
      | false => rfl
      | true =>
        cases (pieceB x && lamsB c x) with
        | false => rfl
        | true =>
          simp only [br_true', Option.bind_some, Bool.not_true, br_false', Bool.true_and]
          exact ih
    · have hpos : decide ((0 : Int) < ((p ++ [a]).length : Int)) = true := decide_eq_true (by simp only [List.length_append, List.length_cons, List.length_nil]; omega)
      have hg : (c.funs.map Piece.enc)[(IntKind.i64.wrap (((p ++ [a]).length : Int) - 1)).toNat]? = some a.enc := by rw [he]; exact get_lastP p (x :: suf) a hl'
      have hn := nn_lastP p a (by simp at hl' ⊢; omega)
      simp only [hpos, br_true', hn, hg, Option.bind_some, Piece.enc_fits, Piece.enc_cell0, asInt_int, htail, List.getLast?_concat, Option.map_some, stepsB]
      unfold funB
      cases decide (0 ≤ x.lam) with
      | false => simp
      | true =>
        by_cases hax : a.lam < x.lam
        · have h3 : ¬ x.lam ≤ a.lam := by omega
          simp only [decide_eq_false h3, decide_eq_true hax, br_true', br_false', Bool.true_and]
          cases (pieceB x && lamsB c x) with
          | false => rfl
          | true =>
            simp only [Option.bind_some, Bool.not_true, br_false', Bool.true_and]
            exact ih
        · have h3 : x.lam ≤ a.lam := by omega
          simp [h3, hax]
theorem CodeOk_s {c : Code} (hok : c.ok) : CC f_s_CodeOk [.v c.enc] [] = some (.bool (codeB c), []) := by
  have hP := pieceOk_s hok.main
  have hL := lamsOk_s hok hok.main
  obtain ⟨q, hloop⟩ := CodeOk_sloop hok c.funs [] (by simp)
  simp only [List.length_nil, Int.cast_ofNat_Int, List.getLast?_nil, Option.map_none, stepsB_eq] at hloop
  rw [Code.enc_def]
  apply go_s_CodeOk
  unfold nf_s_CodeOk codeB
  simp only [Piece.enc_eta, Code.enc_eta, hP, hL, List.length_map, Option.bind_some, asBool_bool, br_not, hloop]
  have hlen : decide ((200 : Int) < (c.funs.length : Int)) = !decide (c.funs.length ≤ 200) := by
    by_cases h : c.funs.length ≤ 200
    · rw [decide_eq_true h, decide_eq_false (by omega)]; rfl
    · rw [decide_eq_false h, decide_eq_true (by omega)]; rfl
  rw [hlen]
  cases decide (c.funs.length ≤ 200) <;> cases decide (c.main.lam = -1) <;> cases pieceB c.main <;> cases lamsB c c.main <;> cases (riseP none c.funs && c.funs.all (funB c)) <;> rfl

/-! ### How many instructions -/
def insCount (l : List Piece) : Nat := (l.map fun p => p.ins.length).sum
theorem insCount_cons (p : Piece) (l : List Piece) : insCount (p :: l) = p.ins.length + insCount l := by simp [insCount]
theorem insCount_le (l : List Piece) : insCount l ≤ Piece.szL l := by
  induction l with
  | nil => simp [insCount]
  | cons p l ih =>
    rw [insCount_cons, Piece.szL_cons]
    have := Piece.sz_def p
    omega
theorem Count_iloop (b : Nat) : ∀ (suf pre : List Piece) (n : Nat), (pre ++ suf).length ≤ 1048576 → n + insCount suf ≤ 4194304 →
    ∃ q, LL f_i_Count 0 lc_i_Count_0 [] k_i_Count_0 (((n : Int), (pre ++ suf).map Piece.enc, ((pre ++ suf).length : Int), (pre.length : Int), ()), ()) =
      some (.out 0 ((((n + insCount suf : Nat) : Int), (pre ++ suf).map Piece.enc, ((pre ++ suf).length : Int), q, ()), ()))
  | [], pre, n, hl, hn => by
    refine ⟨(pre.length : Int), ?_⟩
    apply gl_i_Count_0
    unfold nl_i_Count_0
    rw [lt_end']; simp [insCount]
  | x :: suf, pre, n, hl, hn => by
    rw [insCount_cons] at hn ⊢
    obtain ⟨q, ih⟩ := Count_iloop b suf (pre ++ [x]) (n + x.ins.length) (by simpa using hl) (by omega)
    simp only [List.append_assoc, List.singleton_append] at ih
    refine ⟨q, ?_⟩
    apply gl_i_Count_0
    unfold nl_i_Count_0
    have hw : IntKind.i64.wrap ((n : Int) + (((x.ins.map Ins.enc).length : Nat) : Int)) = ((n + x.ins.length : Nat) : Int) := by rw [List.length_map, wrap_i64] <;> omega
    rw [lt_mid', nn_mid, get_mid, wrap_mid pre suf x hl]
    simp only [br_true', Option.bind_some, Piece.enc_fits, Piece.enc_sub, Piece.enc_isAggN, Piece.enc_cell0, Piece.enc_cell1, Piece.enc_cell2, Piece.enc_cell3, asSl_sl, hw, ih]
    rw [show n + x.ins.length + insCount suf = n + (x.ins.length + insCount suf) by omega]
theorem Count_sloop (a0 a1 a2 : Int) (a3 : List CVal) : ∀ (suf pre : List Piece) (n : Nat), (pre ++ suf).length ≤ 1048576 → n + insCount suf ≤ 4194304 →
    ∃ q, LL f_s_Count 0 lc_s_Count_0 [] k_s_Count_0 (((), (n : Int), (pre.length : Int), ()), ((pre ++ suf).map Piece.enc, a0, a1, a2, a3, ()), ()) =
      some (.out 0 (((), ((n + insCount suf : Nat) : Int), q, ()), ((pre ++ suf).map Piece.enc, a0, a1, a2, a3, ()), ()))
  | [], pre, n, hl, hn => by
    refine ⟨(pre.length : Int), ?_⟩
    apply gl_s_Count_0
    unfold nl_s_Count_0
    rw [lt_end]; simp [insCount]
  | x :: suf, pre, n, hl, hn => by
    rw [insCount_cons] at hn ⊢
    obtain ⟨q, ih⟩ := Count_sloop a0 a1 a2 a3 suf (pre ++ [x]) (n + x.ins.length) (by simpa using hl) (by omega)
    simp only [List.append_assoc, List.singleton_append] at ih
    refine ⟨q, ?_⟩
    apply gl_s_Count_0
    unfold nl_s_Count_0
    have hw : IntKind.i64.wrap ((n : Int) + (((x.ins.map Ins.enc).length : Nat) : Int)) = ((n + x.ins.length : Nat) : Int) := by rw [List.length_map, wrap_i64] <;> omega
    rw [lt_mid, nn_mid, get_mid, wrap_mid pre suf x hl]
    simp only [br_true', Option.bind_some, Piece.enc_fits, Piece.enc_cell3, asSl_sl, hw, ih]
    rw [show n + x.ins.length + insCount suf = n + (x.ins.length + insCount suf) by omega]
def countC (c : Code) : Int := bif codeB c then ((c.main.ins.length + insCount c.funs : Nat) : Int) else 0
theorem count_le {c : Code} (hok : c.ok) : c.main.ins.length + insCount c.funs ≤ 4194304 := by
  have h1 := hok.2
  rw [Code.sz_def] at h1
  have h2 := insCount_le c.funs
  have h3 := hok.main.ins_len
  omega
theorem Count_i {c : Code} (hok : c.ok) : CC f_i_Count [.v c.enc] [] = some (.int .i64 (countC c), []) := by
  have h := CodeOk_i hok
  obtain ⟨q, hloop⟩ := Count_iloop 0 c.funs [] c.main.ins.length (by simpa using hok.funs_len) (count_le hok)
  simp only [List.nil_append, List.length_nil, Int.cast_ofNat_Int] at hloop
  rw [Code.enc_def]
  apply go_i_Count
  unfold nf_i_Count countC
  simp only [Piece.enc_eta, Code.enc_eta, h, List.length_map, Option.bind_some, asBool_bool, br_not, hloop]
  cases codeB c <;> rfl
theorem Count_s {c : Code} (hok : c.ok) : CC f_s_Count [.v c.enc] [] = some (.int .i64 (countC c), []) := by
  have h := CodeOk_s hok
  obtain ⟨q, hloop⟩ := Count_sloop c.main.lam c.main.inn c.main.regs (c.main.ins.map Ins.enc) c.funs [] c.main.ins.length (by simpa using hok.funs_len) (count_le hok)
  simp only [List.nil_append, List.length_nil, Int.cast_ofNat_Int] at hloop
  rw [Code.enc_def]
  apply go_s_Count
  unfold nf_s_Count countC
  simp only [Piece.enc_eta, Code.enc_eta, h, List.length_map, Option.bind_some, asBool_bool, br_not, hloop]
  cases codeB c <;> rfl
end Go.Proofs.Ytomkegeojknihaa.Abs

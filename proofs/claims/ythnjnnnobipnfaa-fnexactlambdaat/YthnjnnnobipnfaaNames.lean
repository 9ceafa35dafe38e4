/- Names. -/
import Derived.Test.YthnjnnnobipnfaaTyLaws
set_option linter.unusedVariables false
set_option linter.unusedSectionVars false
set_option linter.unusedSimpArgs false
namespace Go.Proofs.Ythnjnnnobipnfaa.Abs
open Go Go.Proofs
open Classical

/-- A letter. -/
def letterB (c : UInt8) : Bool := decide ((97 : Int) ≤ (c.toNat : Int) ∧ (c.toNat : Int) ≤ 122)
def digitB (c : UInt8) : Bool := decide ((48 : Int) ≤ (c.toNat : Int) ∧ (c.toNat : Int) ≤ 57)
/-- What a name is made of; a plain one has no dot. -/
def nameB (plain : Bool) (c : UInt8) : Bool := letterB c || (digitB c || (!plain && decide ((c.toNat : Int) = 46)))
def startB : List UInt8 → Bool
  | [] => true
  | c :: _ => letterB c
def isName (plain : Bool) (s : List UInt8) : Bool := decide (1 ≤ s.length ∧ s.length ≤ 8) && (startB s && s.all (nameB plain))
theorem isName_step (c : UInt8) (i : Int) (K : Option (LO k_i_isName_0.T)) : ((br (decide ((97 : Int) ≤ (↑c.toNat : Int))) (some (decide ((↑c.toNat : Int) ≤ (122 : Int)), PUnit.unit)) (some (false, PUnit.unit))).bind fun y_1 : Bool × PUnit =>
          (br (!y_1.1)
                (br (decide (i = (0 : Int))) (some (true, PUnit.unit))
                  (br (decide ((↑c.toNat : Int) < (48 : Int)))
                    (some (!decide ((↑c.toNat : Int) = (46 : Int)), PUnit.unit))
                    (br (decide ((57 : Int) < (↑c.toNat : Int)))
                      (some (!decide ((↑c.toNat : Int) = (46 : Int)), PUnit.unit)) (some (false, PUnit.unit)))))
                (some (false, PUnit.unit))).bind
            fun y : Bool × PUnit => br y.1 (some (LO.ret (CVal.bool false, []))) K) = br (letterB c || (!decide (i = 0) && nameB false c)) K (some (LO.ret (CVal.bool false, []))) := by
  unfold nameB letterB digitB
  simp only [br_decide]
  by_cases h1 : (97 : Int) ≤ (c.toNat : Int) <;> by_cases h2 : (c.toNat : Int) ≤ 122 <;> by_cases h3 : i = 0 <;> by_cases h4 : (c.toNat : Int) < 48 <;> by_cases h5 : (57 : Int) < (c.toNat : Int) <;> by_cases h6 : (c.toNat : Int) = 46 <;>
    first | (exfalso; omega) | (have h7 : ((48 : Int) ≤ (c.toNat : Int)) ↔ ¬ ((c.toNat : Int) < 48) := by omega
                                have h8 : ((c.toNat : Int) ≤ 57) ↔ ¬ ((57 : Int) < (c.toNat : Int)) := by omega
                                simp only [h1, h2, h3, h4, h5, h6, h7, h8]; simp [br])
theorem isName_tail : ∀ (suf pre : List UInt8), pre ≠ [] → (pre ++ suf).length ≤ 1048576 →
    LL f_i_isName 0 lc_i_isName_0 [] k_i_isName_0 ((pre ++ suf, ((pre ++ suf).length : Int), (pre.length : Int), ()), ()) =
      some (if suf.all (nameB false) then .out 0 ((pre ++ suf, ((pre ++ suf).length : Int), ((pre ++ suf).length : Int), ()), ()) else .ret (.bool false, []))
  | [], pre, hp, hl => by
    apply gl_i_isName_0
    unfold nl_i_isName_0
    rw [lt_end']
    simp
  | c :: suf, pre, hp, hl => by
    apply gl_i_isName_0
    unfold nl_i_isName_0
    have ih := isName_tail suf (pre ++ [c]) (by simp) (by simpa using hl)
    simp only [List.append_assoc, List.singleton_append] at ih
    have h0 : ¬ ((pre.length : Nat) : Int) = 0 := by
      intro h
      exact hp (List.eq_nil_of_length_eq_zero (by omega))
    rw [lt_mid', nn_mid', get_mid', wrap_mid pre suf c hl]
    simp only [br_true', Option.bind_some, isName_step]
    have e : (letterB c || (!decide (((pre.length : Nat) : Int) = 0) && nameB false c)) = nameB false c := by
      rw [decide_eq_false h0]
      unfold nameB
      cases letterB c <;> simp
    rw [e, ih, List.all_cons]
    by_cases hb : nameB false c = true
    · rw [hb, br_true', Bool.true_and]
    · have hb : nameB false c = false := by simpa using hb
      rw [hb, br_false', Bool.false_and]; rfl
theorem isName_i (s : List UInt8) (hl : s.length ≤ 1048576) : CC f_i_isName [.v (.str s)] [] = some (.bool (isName false s), []) := by
  apply go_i_isName
  unfold nf_i_isName
  have hloop : ∀ i : Int, i = 0 → LL f_i_isName 0 lc_i_isName_0 [] k_i_isName_0 ((s, (s.length : Int), i, ()), ()) = some (if startB s && s.all (nameB false) then .out 0 ((s, (s.length : Int), (s.length : Int), ()), ()) else .ret (.bool false, [])) := by
    intro i hi
    cases s with
    | nil =>
      subst hi
      apply gl_i_isName_0
      rfl
    | cons c r =>
      apply gl_i_isName_0
      unfold nl_i_isName_0
      have ih := isName_tail r [c] (by simp) (by simpa using hl)
      simp only [List.singleton_append, List.length_singleton, Int.cast_ofNat_Int] at ih
      have h1 : decide (i < ((c :: r).length : Int)) = true := decide_eq_true (by simp only [List.length_cons]; omega)
      have h2 : decide ((0 : Int) ≤ i) = true := decide_eq_true (by omega)
      have h3 : (c :: r)[i.toNat]? = some c := by rw [hi]; rfl
      have hw : IntKind.i64.wrap (i + 1) = 1 := by rw [wrap_i64] <;> omega
      rw [h1, h2, h3]
      simp only [br_true', Option.bind_some]
      rw [isName_step, hw, ih, decide_eq_true hi]
      have e : letterB c = true → nameB false c = true := by intro h; unfold nameB; rw [h]; rfl
      simp only [Bool.not_true, Bool.false_and, Bool.or_false]
      by_cases hc : letterB c = true
      · simp only [hc, br_true', startB, List.all_cons, e hc, Bool.true_and]
      · have hc : letterB c = false := by simpa using hc
        simp only [hc, br_false', startB, Bool.false_and]
        rfl
  rw [hloop 0 rfl]
  unfold isName
  cases h : (startB s && s.all (nameB false)) with
  | true =>
    simp only [if_true, Option.bind_some, loK_out, in_law, Bool.and_true]
    have : decide ((1 : Int) ≤ (s.length : Int) ∧ (s.length : Int) ≤ 8) = decide (1 ≤ s.length ∧ s.length ≤ 8) := by
      by_cases hh : 1 ≤ s.length ∧ s.length ≤ 8
      · rw [decide_eq_true hh, decide_eq_true (by omega)]
      · rw [decide_eq_false hh, decide_eq_false (by omega)]
    rw [this]
    rfl
  | false => simp
theorem wrapB (c : UInt8) : IntKind.i64.wrap (c.toNat : Int) = (c.toNat : Int) := by
  have := c.toNat_lt
  rw [wrap_i64] <;> omega
theorem l2Name_loop (plain : Bool) : ∀ (suf pre : List UInt8), (pre ++ suf).length ≤ 1048576 →
    LL f_s_l2Name 0 lc_s_l2Name_0 [] k_s_l2Name_0 ((pre ++ suf, plain, (pre.length : Int), ()), ()) =
      some (if suf.all (nameB plain) then .out 0 ((pre ++ suf, plain, ((pre ++ suf).length : Int), ()), ()) else .ret (.bool false, []))
  | [], pre, hl => by
    apply gl_s_l2Name_0
    unfold nl_s_l2Name_0
    rw [lt_end']
    simp
  | c :: suf, pre, hl => by
    apply gl_s_l2Name_0
    unfold nl_s_l2Name_0
    have ih := l2Name_loop plain suf (pre ++ [c]) (by simpa using hl)
    simp only [List.append_assoc, List.singleton_append] at ih
    rw [lt_mid', nn_mid', get_mid', wrap_mid pre suf c hl]
    simp only [br_true', Option.bind_some, l1In_law, asBool_bool, wrapB, ih, List.all_cons]
    have e1 : decide ((97 : Int) ≤ (c.toNat : Int) ∧ (c.toNat : Int) ≤ 122) = letterB c := rfl
    have e2 : decide ((48 : Int) ≤ (c.toNat : Int) ∧ (c.toNat : Int) ≤ 57) = digitB c := rfl
    rw [e1, e2]
    have e3 : nameB plain c = (letterB c || (digitB c || (!plain && decide ((c.toNat : Int) = 46)))) := rfl
    by_cases hb : nameB plain c = true
    · simp only [hb, Bool.true_and]
      rw [e3] at hb
      cases h1 : letterB c <;> cases h2 : digitB c <;> cases h3 : plain <;> cases h4 : decide ((c.toNat : Int) = 46) <;> simp [h1, h2, h3, h4] at hb <;> rfl
    · have hb : nameB plain c = false := by simpa using hb
      simp only [hb, Bool.false_and]
      rw [e3] at hb
      cases h1 : letterB c <;> cases h2 : digitB c <;> cases h3 : plain <;> cases h4 : decide ((c.toNat : Int) = 46) <;> simp [h1, h2, h3, h4] at hb <;> rfl
theorem isName_s (s : List UInt8) (plain : Bool) (hl : s.length ≤ 1048576) : CC f_s_l2Name [.v (.str s), .v (.bool plain)] [] = some (.bool (isName plain s), []) := by
  apply go_s_l2Name
  unfold nf_s_l2Name
  have hloop := l2Name_loop plain s [] (by simpa using hl)
  simp only [List.nil_append, List.length_nil, Int.cast_ofNat_Int] at hloop
  have e : decide ((1 : Int) ≤ (s.length : Int) ∧ (s.length : Int) ≤ 8) = decide (1 ≤ s.length ∧ s.length ≤ 8) := by
    by_cases hh : 1 ≤ s.length ∧ s.length ≤ 8
    · rw [decide_eq_true hh, decide_eq_true (by omega)]
    · rw [decide_eq_false hh, decide_eq_false (by omega)]
  simp only [l1In_law, Option.bind_some, asBool_bool, e, br_not]
  unfold isName
  by_cases h : 1 ≤ s.length ∧ s.length ≤ 8
  · cases s with
    | nil => simp at h
    | cons c r =>
      simp only [decide_eq_true h, br_true', List.getElem?_cons_zero, Option.bind_some, l1In_law, wrapB, asBool_bool, Bool.true_and, startB]
      have e1 : decide ((97 : Int) ≤ (c.toNat : Int) ∧ (c.toNat : Int) ≤ 122) = letterB c := rfl
      rw [e1, hloop]
      cases letterB c with
      | true =>
        simp only [Bool.not_true, br_false', Bool.true_and]
        split
        · rename_i hh; rw [hh]; rfl
        · rename_i hh
          have : (c :: r).all (nameB plain) = false := by simpa using hh
          rw [this]; rfl
      | false => simp
  · simp [h]
end Go.Proofs.Ythnjnnnobipnfaa.Abs

/- Whether lists of what lives are right: the law FnExactLiveOk on data. -/
import Derived.Test.YtmjjaoffeajcbaaWantI
import Derived.Test.YtmjjaoffeajcbaaWantS
import Derived.Test.YtmjjaoffeajcbaaIntSS
set_option linter.unusedVariables false
set_option linter.unusedSimpArgs false
set_option linter.unusedSectionVars false
set_option maxRecDepth 100000
namespace Go.Proofs.Ytmjjaoffeajcbaa.Abs
open Go Go.Proofs

/-- A list's numbers are registers, and rise. -/
def goodB (R : Int) (o : Option Int) (l : List Int) : Bool := l.all (fun r => decide (0 ≤ r ∧ r ≤ R - 1)) && rise o l
theorem goodB_nil {R : Int} {o : Option Int} : goodB R o [] = true := by cases o <;> rfl
theorem goodB_none {R : Int} {x : Int} {l : List Int} : goodB R none (x :: l) = (decide (0 ≤ x ∧ x ≤ R - 1) && goodB R (some x) l) := by
  unfold goodB
  rw [rise_none, List.all_cons, Bool.and_assoc]
theorem goodB_some {R : Int} {a x : Int} {l : List Int} : goodB R (some a) (x :: l) = (decide (0 ≤ x ∧ x ≤ R - 1) && (decide (a < x) && goodB R (some x) l)) := by
  unfold goodB
  simp only [List.all_cons, rise]
  cases decide (0 ≤ x ∧ x ≤ R - 1) <;> cases decide (a < x) <;> simp
theorem bif_and {α : Type} {b c : Bool} {x y : α} : (bif (b && c) then x else y) = bif b then (bif c then x else y) else y := by cases b <;> rfl
section
variable {p : Piece} (F : Fit p)
include F
theorem wrap_regs : IntKind.i64.wrap (p.regs - 1) = p.regs - 1 := by
  have := F.r; have := F.r0
  rw [wrap_i64] <;> omega
theorem Oki_loop2 (lv : List CVal) (n k : Int) (em0 : List CVal) : ∀ (suf pre : List Int) (g : Nat → Bool), (pre ++ suf).length ≤ 1048576 →
    LL f_i_LiveOk 2 lc_i_LiveOk_2 [] k_i_LiveOk_2 (((), (), (pre ++ suf).map (.int .i64), (), lv, n, k, (pre ++ suf).map (.int .i64), ((pre ++ suf).length : Int), (pre.length : Int), ()), (p.lam, p.inn, p.regs, p.ins.map Ins.enc, ()), em0, rowL p.regs.toNat g, ()) =
      some (bif goodB p.regs pre.getLast? suf then .out 2 (((), (), (pre ++ suf).map (.int .i64), (), lv, n, k, (pre ++ suf).map (.int .i64), ((pre ++ suf).length : Int), ((pre ++ suf).length : Int), ()), (p.lam, p.inn, p.regs, p.ins.map Ins.enc, ()), em0, rowL p.regs.toNat (setAll suf g), ()) else .ret (.bool false, []))
  | [], pre, g, hl => by
    apply gl_i_LiveOk_2
    unfold nl_i_LiveOk_2
    rw [lt_end', goodB_nil]
    simp [setAll]
  | x :: suf, pre, g, hl => by
    have ih := Oki_loop2 lv n k em0 suf (pre ++ [x]) (fun r => if r = x.toNat then true else g r) (by simpa using hl)
    simp only [List.append_assoc, List.singleton_append, List.getLast?_concat] at ih
    have hw := wrap_regs F
    -- once it is a register that is above the one ahead
    have go : ∀ h : 0 ≤ x ∧ x ≤ p.regs - 1, br (decide ((0 : Int) ≤ x) && true) (br (decide (x.toNat < (rowL p.regs.toNat g).length) && true) ((rowL p.regs.toNat g)[x.toNat]?.bind fun y_1 =>
        br (CVal.fits false 1 y_1)
          (LL f_i_LiveOk 2 lc_i_LiveOk_2 [] k_i_LiveOk_2 (((), (), (pre ++ x :: suf).map (.int .i64), (), lv, n, k, (pre ++ x :: suf).map (.int .i64), ((pre ++ x :: suf).length : Int), ((pre ++ [x]).length : Int), ()), (p.lam, p.inn, p.regs, p.ins.map Ins.enc, ()), em0, (rowL p.regs.toNat g).set x.toNat (.bool true), ()))
          (br (y_1.isAgg && decide (1 ≤ y_1.cells.length)) (LL f_i_LiveOk 2 lc_i_LiveOk_2 [] k_i_LiveOk_2 (((), (), (pre ++ x :: suf).map (.int .i64), (), lv, n, k, (pre ++ x :: suf).map (.int .i64), ((pre ++ x :: suf).length : Int), ((pre ++ [x]).length : Int), ()), (p.lam, p.inn, p.regs, p.ins.map Ins.enc, ()), em0, (rowL p.regs.toNat g).set x.toNat (.agg (.bool true :: List.drop 1 y_1.cells)), ())) none)) none) none =
        some (bif goodB p.regs (some x) suf then .out 2 (((), (), (pre ++ x :: suf).map (.int .i64), (), lv, n, k, (pre ++ x :: suf).map (.int .i64), ((pre ++ x :: suf).length : Int), ((pre ++ x :: suf).length : Int), ()), (p.lam, p.inn, p.regs, p.ins.map Ins.enc, ()), em0, rowL p.regs.toNat (setAll (x :: suf) g), ()) else .ret (.bool false, [])) := by
      intro h
      have hx : x.toNat < p.regs.toNat := by omega
      simp only [decide_eq_true h.1, rowL_len, decide_eq_true hx, Bool.and_true, br_true', rowL_get hx, Option.bind_some, fits_bool, rowL_set]
      exact ih
    apply gl_i_LiveOk_2
    unfold nl_i_LiveOk_2
    rw [lt_mid', nn_mid, get_mid, wrap_mid pre suf x hl]
    simp only [br_true', Option.bind_some, fits_int, cell_int, hw, in_law, asBool_bool, asInt_int, asIdx_int]
    rcases eq_snoc pre with rfl | ⟨q, a, rfl⟩
    · rw [List.getLast?_nil, goodB_none, bif_and]
      by_cases h : 0 ≤ x ∧ x ≤ p.regs - 1
      · simp only [decide_eq_true h, Bool.not_true, br_false', List.length_nil, Int.cast_ofNat_Int, Int.lt_irrefl, decide_false, Option.bind_some, cond_true]
        exact go h
      · simp only [decide_eq_false h, Bool.not_false, br_true', Option.bind_some, cond_false]
    · rw [List.getLast?_concat, goodB_some, bif_and, bif_and]
      by_cases h : 0 ≤ x ∧ x ≤ p.regs - 1
      · have hpos : decide ((0 : Int) < ((q ++ [a]).length : Int)) = true := decide_eq_true (by simp only [List.length_append, List.length_cons, List.length_nil]; omega)
        have hg := get_last q (x :: suf) a (by simpa using hl)
        have hn := nn_last q a (by simp at hl ⊢; omega)
        simp only [decide_eq_true h, Bool.not_true, br_false', hpos, br_true', hn, hg, Option.bind_some, fits_int, cell_int, asInt_int, cond_true]
        by_cases hax : a < x
        · have h3 : ¬ x ≤ a := by omega
          simp only [decide_eq_false h3, br_false', decide_eq_true hax, cond_true]
          exact go h
        · have h3 : x ≤ a := by omega
          simp only [decide_eq_true h3, br_true', decide_eq_false hax, cond_false]
      · simp only [decide_eq_false h, Bool.not_false, br_true', Option.bind_some, cond_false]
end

/-- What lists say that lives. -/
def lvB (lv : List (List Int)) (i r : Nat) : Bool := ((lv[i]?).getD []).any fun k => decide (k.toNat = r)
def goodAll (R : Int) (lv : List (List Int)) : Bool := lv.all (goodB R none)
section
variable {p : Piece} (F : Fit p)
include F
theorem Oki_loop0 : ∀ (suf pre : List (List Int)), (pre ++ suf).length ≤ 1048576 → (∀ t ∈ suf, t.length ≤ 1048576) →
    LL f_i_LiveOk 0 lc_i_LiveOk_0 [] k_i_LiveOk_0 (((), (), (pre ++ suf).map ei, ((pre ++ suf).length : Int), (pre.length : Int), ()), (p.lam, p.inn, p.regs, p.ins.map Ins.enc, ()), em pre.length p.regs.toNat (lvB (pre ++ suf)), ()) =
      some (bif goodAll p.regs suf then .out 0 (((), (), (pre ++ suf).map ei, ((pre ++ suf).length : Int), ((pre ++ suf).length : Int), ()), (p.lam, p.inn, p.regs, p.ins.map Ins.enc, ()), em (pre ++ suf).length p.regs.toNat (lvB (pre ++ suf)), ()) else .ret (.bool false, []))
  | [], pre, hl, ht => by
    apply gl_i_LiveOk_0
    unfold nl_i_LiveOk_0
    rw [lt_end']
    simp [goodAll]
  | t :: suf, pre, hl, ht => by
    have ih := Oki_loop0 suf (pre ++ [t]) (by simpa using hl) (fun q hq => ht q (by simp [hq]))
    simp only [List.append_assoc, List.singleton_append] at ih
    have hin := Oki_loop2 F ((pre ++ t :: suf).map ei) ((pre ++ t :: suf).length : Int) (pre.length : Int) (em pre.length p.regs.toNat (lvB (pre ++ t :: suf))) t [] (fun _ => false) (by simpa using ht t (by simp))
    simp only [List.nil_append, List.length_nil, Int.cast_ofNat_Int, List.getLast?_nil] at hin
    have hr := F.r
    have b1 : (decide ((0 : Int) ≤ p.regs) && decide (p.regs = p.regs) && decide (p.regs ≤ (1048576 : Int))) = true := by
      rw [decide_eq_true F.r0, decide_eq_true rfl, decide_eq_true (show p.regs ≤ 1048576 by omega)]; rfl
    have hpl : pre.length + 1 ≤ 1048576 := by simp at hl; omega
    have b2 : (decide ((em pre.length p.regs.toNat (lvB (pre ++ t :: suf))).length + 1 ≤ 4294967296) && true && true) = true := by
      rw [decide_eq_true (by rw [em_len]; omega)]; rfl
    have e3 : em pre.length p.regs.toNat (lvB (pre ++ t :: suf)) ++ [.sl (rowL p.regs.toNat (setAll t fun _ => false))] = em (pre ++ [t]).length p.regs.toNat (lvB (pre ++ t :: suf)) := by
      rw [em_snoc, List.length_append, List.length_singleton]
      refine em_congr fun i hi r hr => ?_
      split
      · rename_i e
        rw [setAll_at, e]
        unfold lvB
        simp
      · rfl
    apply gl_i_LiveOk_0
    unfold nl_i_LiveOk_0
    rw [b1, lt_mid', nn_mid, get_mid]
    simp only [br_true', Option.bind_some, ei_fits, ei_cell, ei_asSl, rowL_false, List.length_map]
    rw [hin]
    unfold goodAll
    rw [List.all_cons, bif_and]
    cases goodB p.regs none t with
    | false => rfl
    | true =>
      simp only [cond_true, Option.bind_some, loK_out, beq_self_eq_true, br_true', b2, e3, wrap_mid pre suf t hl]
      exact ih
end

/-- From r on, d of them: each one that is in the one row is in the other. -/
def allFrom (w g : Nat → Bool) : Nat → Nat → Bool
  | _, 0 => true
  | r, d + 1 => (!w r || g r) && allFrom w g (r + 1) d
theorem allFrom_iff {w g : Nat → Bool} : ∀ {d r : Nat}, allFrom w g r d = true ↔ ∀ r', r ≤ r' → r' < r + d → w r' = true → g r' = true
  | 0, r => by
    simp only [allFrom, true_iff]
    intro r' h1 h2; omega
  | d + 1, r => by
    simp only [allFrom, Bool.and_eq_true, allFrom_iff (d := d) (r := r + 1)]
    constructor
    · rintro ⟨h1, h2⟩ r' h3 h4 hw
      by_cases e : r' = r
      · subst e; rw [hw] at h1; simpa using h1
      · exact h2 r' (by omega) (by omega) hw
    · intro h
      refine ⟨?_, fun r' h1 h2 hw => h r' (by omega) (by omega) hw⟩
      cases hw : w r with
      | false => rfl
      | true => rw [h r (by omega) (by omega) hw]; rfl
def rowsFrom (R : Nat) (w g : Nat → Nat → Bool) : Nat → Nat → Bool
  | _, 0 => true
  | i, d + 1 => allFrom (w i) (g i) 0 R && rowsFrom R w g (i + 1) d
theorem rowsFrom_iff {R : Nat} {w g : Nat → Nat → Bool} : ∀ {d i : Nat}, rowsFrom R w g i d = true ↔ ∀ i', i ≤ i' → i' < i + d → ∀ r, r < R → w i' r = true → g i' r = true
  | 0, i => by
    simp only [rowsFrom, true_iff]
    intro i' h1 h2; omega
  | d + 1, i => by
    simp only [rowsFrom, Bool.and_eq_true, allFrom_iff, rowsFrom_iff (d := d) (i := i + 1)]
    constructor
    · rintro ⟨h1, h2⟩ i' h3 h4 r hr hw
      by_cases e : i' = i
      · subst e; exact h1 r (Nat.zero_le _) (by omega) hw
      · exact h2 i' (by omega) (by omega) r hr hw
    · intro h
      exact ⟨fun r _ hr hw => h i (by omega) (by omega) r (by omega) hw, fun i' h1 h2 r hr hw => h i' (by omega) (by omega) r hr hw⟩
section
variable {p : Piece} (F : Fit p)
include F
theorem Oki_loop6 (f : Nat → Nat → Bool) (w : Nat → Bool) {i : Nat} (hi : i < p.ins.length) (n k : Int) : ∀ (d r : Nat), r + d = p.regs.toNat →
    LL f_i_LiveOk 6 lc_i_LiveOk_6 [] k_i_LiveOk_6 (((), (), (i : Int), n, k, (), p.regs, (r : Int), ()), (p.lam, p.inn, p.regs, p.ins.map Ins.enc, ()), em p.ins.length p.regs.toNat f, rowL p.regs.toNat w, ()) =
      some (bif allFrom w (f i) r d then .out 6 (((), (), (i : Int), n, k, (), p.regs, p.regs, ()), (p.lam, p.inn, p.regs, p.ins.map Ins.enc, ()), em p.ins.length p.regs.toNat f, rowL p.regs.toNat w, ()) else .ret (.bool false, []))
  | 0, r, h => by
    have hr0 := F.r0
    have e : (r : Int) = p.regs := by omega
    rw [e]
    apply gl_i_LiveOk_6
    unfold nl_i_LiveOk_6
    rw [show decide (p.regs < p.regs) = false by simp]
    rfl
  | d + 1, r, h => by
    have hr0 := F.r0
    have hR := F.r
    have hr : r < p.regs.toNat := by omega
    have ih := Oki_loop6 f w hi n k d (r + 1) (by omega)
    have hw := wrap_succ (i := r) (by omega)
    rw [show (((r + 1 : Nat)) : Int) = (r : Int) + 1 by omega] at ih
    have hlt : decide ((r : Int) < p.regs) = true := decide_eq_true (by omega)
    have ti : ((i : Nat) : Int).toNat = i := by simp
    have tr : ((r : Nat) : Int).toNat = r := by simp
    apply gl_i_LiveOk_6
    unfold nl_i_LiveOk_6
    simp only [hlt, br_true', ge0', ti, tr, Bool.and_true, rowL_get hr, Option.bind_some, fits_bool, cell_bool, asBool_bool, em_len, decide_eq_true hi, em_get hi, cell_sl, asSl_sl, rowL_len, decide_eq_true hr, hw, allFrom, bif_and]
    cases hwr : w r with
    | false =>
      simp only [br_false', Option.bind_some, Bool.not_false, Bool.true_or, cond_true]
      exact ih
    | true =>
      simp only [br_true', Option.bind_some, Bool.not_true, Bool.false_or]
      cases hf : f i r with
      | true =>
        simp only [Bool.not_true, br_false', cond_true]
        exact ih
      | false =>
        simp only [Bool.not_false, br_true', cond_false]
theorem Oki_loop4 (f : Nat → Nat → Bool) : ∀ (d i : Nat), i + d = p.ins.length →
    LL f_i_LiveOk 4 lc_i_LiveOk_4 [] k_i_LiveOk_4 (((), (), (p.ins.length : Int), (i : Int), ()), (p.lam, p.inn, p.regs, p.ins.map Ins.enc, ()), em p.ins.length p.regs.toNat f, ()) =
      some (bif rowsFrom p.regs.toNat (wantB p f) f i d then .out 4 (((), (), (p.ins.length : Int), (p.ins.length : Int), ()), (p.lam, p.inn, p.regs, p.ins.map Ins.enc, ()), em p.ins.length p.regs.toNat f, ()) else .ret (.bool false, []))
  | 0, i, h => by
    have e : i = p.ins.length := by omega
    subst e
    apply gl_i_LiveOk_4
    unfold nl_i_LiveOk_4
    simp [rowsFrom]
  | d + 1, i, h => by
    have hn := F.n
    have hr0 := F.r0
    have hi : i < p.ins.length := by omega
    have ih := Oki_loop4 f d (i + 1) (by omega)
    have hw := wrap_succ (i := i) (by omega)
    rw [show (((i + 1 : Nat)) : Int) = (i : Int) + 1 by omega] at ih
    have hlt : decide ((i : Int) < (p.ins.length : Int)) = true := decide_eq_true (by omega)
    have hW := wanted_law F f hi
    have h6 := Oki_loop6 F f (wantB p f i) hi (p.ins.length : Int) (i : Int) p.regs.toNat 0 (by omega)
    simp only [Int.cast_ofNat_Int] at h6
    have e2 : ((p.regs.toNat : Nat) : Int) = p.regs := by omega
    apply gl_i_LiveOk_4
    unfold nl_i_LiveOk_4
    simp only [hlt, br_true', Piece.enc_eta, hW, Option.bind_some, asSl_sl, rowL_len, e2, rowL_plain, Bool.not_true, br_false', isFlat_sl]
    rw [h6]
    unfold rowsFrom
    rw [bif_and]
    cases allFrom (wantB p f i) (f i) 0 p.regs.toNat with
    | false => rfl
    | true =>
      simp only [cond_true, Option.bind_some, loK_out, beq_self_eq_true, br_true', hw]
      exact ih
end
end Go.Proofs.Ytmjjaoffeajcbaa.Abs

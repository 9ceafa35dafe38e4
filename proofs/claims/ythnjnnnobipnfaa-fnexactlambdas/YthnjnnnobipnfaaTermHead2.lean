/- Terms: both tell the same of what is no part. -/
import Derived.Test.YthnjnnnobipnfaaTermHead
set_option linter.unusedVariables false
set_option linter.unusedSectionVars false
set_option linter.unusedSimpArgs false
namespace Go.Proofs.Ythnjnnnobipnfaa.Abs
open Go Go.Proofs
open Classical

theorem fix_get {t : Term} (h7 : t.k = 7) (h1 : (t.a.length : Int) = parts t.k) : ∃ x : Term, (t.a.map Term.enc)[0]? = some x.enc ∧ t.fixB = decide (x.k = 4) := by
  have hp : parts t.k = 2 := by rw [h7]; rfl
  rw [hp] at h1
  unfold Term.fixB
  cases ha : t.a with
  | nil => rw [ha] at h1; simp at h1
  | cons x r => exact ⟨x, by simp, rfl⟩

theorem headOk_i {t : Term} (hok : t.ok) : CC f_i_headOk [.v t.enc] [] = some (.bool t.head, []) := by
  have hc := containsTy_law (c := .func f_i_headOk_1 []) (p := fun x => !x.rightB) (ts := t.ts) hok.ts_len fun x hx => apC (cs := [x.enc]) (by decide) rfl rfl rfl (headTy_law x (hok.ts hx))
  have hs := SameTy_i t.t hok.t Ty.zero
  rw [Ty.zero_enc] at hs
  have hr : CC f_i_TyOk [.v t.t.enc] [] = some (.bool t.t.rightB, []) := TyOk_i hok.t
  have hn := namesOk_i t.k t.s t.z hok.s_len hok.z_len
  rw [Term.enc_def]
  apply go_i_headOk
  unfold nf_i_headOk Term.head
  simp only [List.length_map, parts_i, numberOk_i, hn, hasT_i, Ty.enc_eta, hr, hs, hc, Option.bind_some, asInt_int, asBool_bool]
  by_cases h1 : (t.a.length : Int) = parts t.k
  · simp only [h1, decide_true, Bool.not_true, br_false', Bool.true_and]
    have hfix : (br (decide (t.k = 7)) ((t.a.map Term.enc)[0]?.bind fun y => br (CVal.fits true 9 y) ((y.cell 0).bind fun c => (CVal.asInt .i64 c).bind fun n => some (!decide (n = 4), PUnit.unit)) none) (some (false, PUnit.unit)) : Option (Bool × PUnit)) = some (!(!decide (t.k = 7) || t.fixB), PUnit.unit) := by
      by_cases h7 : t.k = 7
      · obtain ⟨x, hx, hf⟩ := fix_get h7 h1
        simp [h7, hx, hf]
      · simp [h7]
    rw [hfix]
    generalize (!decide (t.k = 7) || t.fixB) = b0
    generalize numberOk t.k t.n = b2
    generalize namesOk t.k t.s t.z = b3
    cases b2
    · rfl
    cases b3
    · rfl
    cases b0
    · rfl
    simp only [Bool.not_true, br_false', Option.bind_some, Bool.true_and]
    generalize hasT t.k = b4
    generalize t.t.rightB = b5
    generalize t.t.same Ty.zero = b6
    generalize (t.ts.any fun x => !x.rightB) = b7
    have hlast : (br (decide (t.k = 3)) ((br (decide ((t.ts.length : Int) ≤ 2)) (some (!b7, PUnit.unit)) (some (false, PUnit.unit)) : Option (Bool × PUnit)).bind fun y => some (CVal.bool y.1, []))
        ((br (decide ((t.ts.length : Int) ≤ 0)) (some (!b7, PUnit.unit)) (some (false, PUnit.unit)) : Option (Bool × PUnit)).bind fun y => some (CVal.bool y.1, [])) : Option Ret) = some (CVal.bool (decide ((t.ts.length : Int) ≤ if t.k = 3 then 2 else 0) && !b7), []) := by
      by_cases h3 : t.k = 3
      · simp only [h3, decide_true, br_true', if_true, and_step, Option.bind_some]
      · simp only [h3, decide_false, br_false', if_false, and_step, Option.bind_some]
    rw [hlast]
    cases b4 <;> cases b5 <;> cases b6 <;> simp
  · simp [h1]

theorem One_loop (c0 c1 : Int) (c2 c3 : List UInt8) (c4 c5 : Int) (c6 c8 : List CVal) : ∀ (suf pre : List Ty), (pre ++ suf).length ≤ 1048576 → (∀ t ∈ suf, t.ok) →
    ∃ q, LL f_s_l2One 0 lc_s_l2One_0 [] k_s_l2One_0 (((), (pre.length : Int), ()), (c0, c1, c2, c3, c4, c5, c6, (pre ++ suf).map Ty.enc, c8, ()), ()) =
      some (bif suf.any fun x => !x.rightB then .ret (.bool false, []) else .out 0 (((), q, ()), (c0, c1, c2, c3, c4, c5, c6, (pre ++ suf).map Ty.enc, c8, ()), ()))
  | [], pre, hl, h => by
    refine ⟨(pre.length : Int), gl_s_l2One_0 _ _ _ _ _ _ _ _ _ _ _ ?_⟩
    unfold nl_s_l2One_0
    rw [lt_end]
    rfl
  | t :: suf, pre, hl, h => by
    obtain ⟨q, ih⟩ := One_loop c0 c1 c2 c3 c4 c5 c6 c8 suf (pre ++ [t]) (by simpa using hl) (fun u hu => h u (by simp [hu]))
    simp only [List.append_assoc, List.singleton_append] at ih
    refine ⟨q, gl_s_l2One_0 _ _ _ _ _ _ _ _ _ _ _ ?_⟩
    unfold nl_s_l2One_0
    have hr : CC f_s_TyOk [.v t.enc] [] = some (.bool t.rightB, []) := TyOk_s (h t (by simp))
    rw [lt_mid, nn_mid, get_mid, wrap_mid pre suf t hl]
    simp only [br_true', Option.bind_some, Ty.enc_fits, Ty.enc_sub, Ty.enc_isAggN, Ty.enc_cell0, Ty.enc_cell1, Ty.enc_cell2, Ty.enc_eta, hr, asBool_bool, List.any_cons]
    cases t.rightB with
    | true =>
      simp only [Bool.not_true, br_false', Bool.false_or]
      exact ih
    | false => rfl

theorem namesOk_eq (k : Int) (s z : List UInt8) : namesOk k s z = (((bindsS k || decide (k = 3)) == isName false s) && (((bindsS k || decide (k = 3)) || decide (s = [])) && ((decide (k = 14) == isName false z) && ((decide (k = 14) || decide (z = [])) && !(decide (k = 14) && decide (s = z)))))) := by
  have he : isName false [] = false := rfl
  unfold namesOk
  by_cases h14 : k = 14
  · have : bindsS k = true := by rw [h14]; rfl
    simp only [h14, if_true, decide_true]
    rw [show bindsS 14 = true from rfl]
    cases isName false s <;> cases isName false z <;> cases decide (s = z) <;> rfl
  · simp only [h14, if_false, decide_false]
    by_cases hz : z = []
    · simp only [hz, he, decide_true]
      cases (bindsS k || decide (k = 3)) <;> cases isName false s <;> by_cases hs : s = [] <;> simp [hs] 
    · simp only [hz, decide_false]
      cases (bindsS k || decide (k = 3)) <;> cases isName false s <;> cases isName false z <;> by_cases hs : s = [] <;> simp [hs]

theorem part_step {E1 : Option (Bool × PUnit)} {B T : Bool} {K : Option Ret} (h1 : E1 = some (!B, PUnit.unit)) (h2 : K = some (CVal.bool T, [])) : (E1.bind fun y => br y.1 (some (CVal.bool false, [])) K) = some (CVal.bool (B && T), []) := by
  rw [h1, h2]
  cases B <;> rfl

theorem One_s {t : Term} (hok : t.ok) : CC f_s_l2One [.v t.enc] [] = some (.bool t.head, []) := by
  obtain ⟨q, hloop⟩ := One_loop t.k t.n t.s t.z t.t.k t.t.n (t.t.a.map Ty.enc) (t.a.map Term.enc) t.ts [] (by simpa using hok.ts_len) (fun x hx => hok.ts hx)
  simp only [List.nil_append, List.length_nil, Int.cast_ofNat_Int] at hloop
  have hs := SameTy_s t.t hok.t Ty.zero
  rw [Ty.zero_enc] at hs
  have hr : CC f_s_TyOk [.v t.t.enc] [] = some (.bool t.t.rightB, []) := TyOk_s hok.t
  have hn := numberOk_s t
  have h2 := isName_s t.s false hok.s_len
  have h3 := isName_s t.z false hok.z_len
  rw [Term.enc_def]
  apply go_s_l2One
  unfold nf_s_l2One Term.head
  rw [namesOk_eq]
  simp only [shape_s, isAggN_agg, List.length_cons, List.length_nil, List.length_map, beq_self_eq_true, br_true', cell_agg, List.getElem?_cons_zero, List.getElem?_cons_succ, Term.enc_eta, hn, h2, h3, Ty.enc_eta, hr, hs, Option.bind_some, asInt_int, asBool_bool, hloop]
  by_cases h1 : (t.a.length : Int) = parts t.k
  · simp only [h1, decide_true, Bool.not_true, br_false', Bool.true_and]
    have hfix : (br (!decide (t.k = 7)) (some (true, PUnit.unit)) ((t.a.map Term.enc)[0]?.bind fun y => br (CVal.fits true 9 y) ((y.cell 0).bind fun c => (CVal.asInt .i64 c).bind fun n => some (decide (n = 4), PUnit.unit)) none) : Option (Bool × PUnit)) = some ((!decide (t.k = 7) || t.fixB), PUnit.unit) := by
      by_cases h7 : t.k = 7
      · obtain ⟨x, hx, hf⟩ := fix_get h7 h1
        simp [h7, hx, hf]
      · simp [h7]
    generalize numberOk t.k t.n = b2
    generalize (bindsS t.k || decide (t.k = 3)) = bS
    generalize isName false t.s = nS
    generalize isName false t.z = nZ
    generalize decide (t.k = 14) = bZ
    generalize decide (t.s = []) = eS
    generalize decide (t.z = []) = eZ
    generalize decide (t.s = t.z) = eSZ
    rw [← Bool.and_assoc]
    refine part_step ?_ ?_
    · cases b2 <;> cases bS <;> cases nS <;> cases nZ <;> cases bZ <;> cases eS <;> cases eZ <;> cases eSZ <;> rfl
    have hl : (decide ((t.ts.length : Int) ≤ if t.k = 3 then 2 else 0)) = (!decide ((2 : Int) < (t.ts.length : Int)) && (decide (t.k = 3) || !decide ((0 : Int) < (t.ts.length : Int)))) := by
      by_cases h3 : t.k = 3
      · simp only [h3, if_true, decide_true, Bool.true_or, Bool.and_true]
        by_cases hh : (2 : Int) < (t.ts.length : Int)
        · rw [decide_eq_true hh, decide_eq_false (by omega)]; rfl
        · rw [decide_eq_false hh, decide_eq_true (by omega)]; rfl
      · simp only [h3, if_false, decide_false, Bool.false_or]
        by_cases hh : (0 : Int) < (t.ts.length : Int)
        · rw [decide_eq_true hh, decide_eq_false (by omega)]; simp
        · rw [decide_eq_false hh, decide_eq_true (by omega), decide_eq_false (by omega)]; rfl
    rw [hl]
    generalize hfx : (!decide (t.k = 7) || t.fixB) = b0
    generalize hasT t.k = b4
    generalize t.t.rightB = b5
    generalize t.t.same Ty.zero = b6
    generalize (t.ts.any fun x => !x.rightB) = b7
    generalize decide ((2 : Int) < (t.ts.length : Int)) = b8
    generalize decide ((0 : Int) < (t.ts.length : Int)) = b9
    rw [hfx] at hfix
    have e : (b0 && ((b4 == b5) && ((b4 || b6) && ((!b8 && (decide (t.k = 3) || !b9)) && !b7)))) = (((b4 == b5) && ((b4 || b6) && (!b8 && (decide (t.k = 3) || !b9)))) && (!b7 && b0)) := by
      cases b0 <;> cases b4 <;> cases b5 <;> cases b6 <;> cases b7 <;> cases b8 <;> cases b9 <;> cases decide (t.k = 3) <;> rfl
    rw [e]
    refine part_step ?_ ?_
    · generalize decide (t.k = 3) = b3
      cases b4 <;> cases b5 <;> cases b6 <;> cases b8 <;> cases b9 <;> cases b3 <;> rfl
    · cases b7 with
      | true => rfl
      | false =>
        simp only [cond_false, Option.bind_some, loK_out, beq_self_eq_true, br_true', hfix, Bool.not_false, Bool.true_and]
  · simp [h1]
end Go.Proofs.Ythnjnnnobipnfaa.Abs

/- Names that differ: the law FnExactAllUnlike on data. -/
import Derived.Test.YtbimglfmmmlicaaBinders
import Derived.Test.YtbimglfmmmlicaaPrimStr
set_option linter.unusedVariables false
set_option linter.unusedSimpArgs false
set_option maxRecDepth 100000
namespace Go.Proofs.Ytbimglfmmmlicaa.Abs
open Go Go.Proofs
open Classical

abbrev Str := List UInt8
theorem sortE_pair (l : List Str) : (sortE l).Pairwise (· ≤ ·) := by
  have := List.pairwise_mergeSort (le := fun x y : Str => decide (x ≤ y)) (fun a b c h1 h2 => decide_eq_true (List.le_trans (of_decide_eq_true h1) (of_decide_eq_true h2)))
    (fun a b => by rcases List.le_total a b with h | h <;> simp [h]) l
  simpa [sortE] using this
theorem sortE_len {l : List Str} : (sortE l).length = l.length := by simp [sortE]
theorem sortE_nodup {l : List Str} : (sortE l).Nodup ↔ l.Nodup := (List.mergeSort_perm l _).nodup_iff
theorem get_bang {zs : List Str} {j : Nat} (h : j < zs.length) : zs.toArray[j]! = zs[j] := by
  rw [getElem!_pos _ j (by simpa using h)]; simp
theorem cut_all {zs : List Str} (hs : zs.Pairwise (· ≤ ·)) : (Lib.compact zs).length = zs.length ↔ zs.Nodup := by
  constructor
  · intro h
    have hk : ∀ j, j < zs.length → Lib.keeps zs.toArray j = true := by
      unfold Lib.compact Lib.compactUpTo at h
      rw [List.length_map] at h
      have := List.length_filter_eq_length_iff.1 (h.trans (List.length_range (n := zs.length)).symm)
      exact fun j hj => this j (List.mem_range.2 hj)
    refine List.pairwise_iff_getElem.2 fun i j hi hj hij e => ?_
    have h1 := hk j hj
    have h2 : j = 0 ∨ zs.toArray[j]! ≠ zs.toArray[j - 1]! := by simpa [Lib.keeps] using h1
    rcases h2 with h2 | h2
    · omega
    · rw [get_bang hj, get_bang (by omega)] at h2
      have a1 : zs[j - 1] ≤ zs[j] := List.pairwise_iff_getElem.1 hs (j - 1) j (by omega) hj (by omega)
      have a2 : zs[i] ≤ zs[j - 1] := by
        rcases Nat.lt_or_ge i (j - 1) with h | h
        · exact List.pairwise_iff_getElem.1 hs i (j - 1) hi (by omega) h
        · obtain rfl : i = j - 1 := by omega
          exact List.le_refl _
      exact h2 (List.le_antisymm (e ▸ a2) a1)
  · intro h
    have hk : ∀ j, j < zs.length → Lib.keeps zs.toArray j = true := by
      intro j hj
      rcases Nat.eq_zero_or_pos j with h0 | h0
      · simp [Lib.keeps, h0]
      · refine Lib.keeps_pos ?_
        rw [get_bang hj, get_bang (by omega)]
        exact fun e => List.pairwise_iff_getElem.1 h (j - 1) j (by omega) hj (by omega) e.symm
    rw [Lib.compact_all zs hk]

/-- Whether one stands twice. -/
def dupB : List Str → List Str → Bool
  | _, [] => false
  | pre, s :: r => decide (s ∈ pre) || dupB (pre ++ [s]) r
theorem dup_nodup : ∀ {suf pre : List Str}, pre.Nodup → (dupB pre suf = false ↔ (pre ++ suf).Nodup)
  | [], pre, h => by simp [dupB, h]
  | s :: r, pre, h => by
    by_cases hs : s ∈ pre
    · simp only [dupB, hs, decide_true, Bool.true_or]
      constructor
      · intro h; cases h
      · intro hn
        exact absurd rfl ((List.nodup_append.1 hn).2.2 s hs s (by simp))
    · have hn : (pre ++ [s]).Nodup := by
        rw [List.nodup_append]
        refine ⟨h, by simp, fun a ha b hb e => ?_⟩
        simp at hb
        subst hb e
        exact hs ha
      have := dup_nodup (suf := r) hn
      simp only [dupB, hs, decide_false, Bool.false_or, this, List.append_assoc, List.singleton_append]

theorem Sort_law {m : Md} {l : List Str} (h : l.length ≤ 4000000000) : CC f_slices_Sort_string [.lref 0 0] [.arr m false 1 (l.map .str)] = some (.tup [], [(sortE l).map .str]) :=
  extW (by decide) rfl (xSort_eq h)
theorem Compact_law {m : Md} (hm : m.fix = false) {l : List Str} (h : l.length ≤ 4000000000) : CC f_slices_Compact_string [.lref 0 0] [.arr m false 1 (l.map .str)] = some (.nilp, [(Lib.compact l).map .str]) :=
  extW (by decide) rfl (xCompact_eq hm h)
theorem Clone_law {l : List Str} (h : l.length ≤ 4000000000) : CC f_slices_Clone_string [.v (.sl (l.map .str))] [] = some (.sl (l.map .str), []) :=
  extW (by decide) rfl (xClone_eq h)

theorem AllUnlike_i {t : Term} (hok : t.ok) : CC f_i_AllUnlike [.v t.enc] [] = some (.bool (decide t.right && !dupB [] t.binders), []) := by
  have h1 := TermOk_i hok
  have h2 := Binders_i hok
  have hlen := binders_len t
  have h3 := Sort_law (m := ⟨true, true, 0⟩) (l := t.binders) (by omega)
  have hl2 : (sortE t.binders).length ≤ 4000000000 := by rw [sortE_len]; omega
  have h4 := Clone_law hl2
  have h5 := Compact_law (m := ⟨true, false, 0⟩) rfl hl2
  have e : decide (((((Lib.compact (sortE t.binders)).length : Nat)) : Int) = (((sortE t.binders).length : Nat) : Int)) = !dupB [] t.binders := by
    have a := cut_all (sortE_pair t.binders)
    have hd2 : dupB [] t.binders = false ↔ t.binders.Nodup := by simpa using dup_nodup (suf := t.binders) (pre := []) List.nodup_nil
    rw [sortE_nodup, ← hd2] at a
    cases hd : dupB [] t.binders with
    | false => rw [hd] at a; simp [a.2 rfl]
    | true =>
      rw [hd] at a
      have : ¬ (Lib.compact (sortE t.binders)).length = (sortE t.binders).length := fun h => by have := a.1 h; cases this
      rw [Bool.not_true]
      exact decide_eq_false (by omega)
  have hp : CVal.plain (.sl ((sortE t.binders).map .str)) = true := by simp [CVal.plain, plainEls]
  rw [Term.enc_def] at h1 h2 ⊢
  apply go_i_AllUnlike
  unfold nf_i_AllUnlike
  simp only [h1, h2, h3, h4, h5, hp, Bool.not_true, br_false', Option.bind_some, asSl_sl, isFlat_sl, br_true', asBool_bool, List.getElem?_cons_zero, List.length_map, e]
  by_cases hr : t.right <;> simp [hr]

theorem l2Has_loop (s : Str) : ∀ (suf pre : List Str), (pre ++ suf).length ≤ 1048576 →
    ∃ q, LL f_s_l2Has 0 lc_s_l2Has_0 [] k_s_l2Has_0 (((pre ++ suf).map .str, s, (pre.length : Int), ()), ()) = some (if s ∈ suf then .ret (.bool true, []) else .out 0 q)
  | [], pre, hl => ⟨_, gl_s_l2Has_0 _ _ _ _ (by unfold nl_s_l2Has_0; rw [lt_end]; simp; rfl)⟩
  | x :: suf, pre, hl => by
    obtain ⟨q, ih⟩ := l2Has_loop s suf (pre ++ [x]) (by simpa using hl)
    simp only [List.append_assoc, List.singleton_append] at ih
    refine ⟨q, gl_s_l2Has_0 _ _ _ _ ?_⟩
    unfold nl_s_l2Has_0
    rw [lt_mid, nn_mid, get_mid, wrap_mid pre suf x hl]
    simp only [br_true', Option.bind_some, fits_str, cell_str, asStr_str, br_decide]
    by_cases h : x = s
    · simp [h]
    · have h' : ¬ s = x := fun e => h e.symm
      simp only [h, if_false, List.mem_cons, h', false_or]
      exact ih
theorem l2Has_law {l : List Str} (hl : l.length ≤ 1048576) (s : Str) : CC f_s_l2Has [.v (.sl (l.map .str)), .v (.str s)] [] = some (.bool (decide (s ∈ l)), []) := by
  obtain ⟨q, hloop⟩ := l2Has_loop s l [] (by simpa using hl)
  simp only [List.nil_append, List.length_nil, Int.cast_ofNat_Int] at hloop
  apply go_s_l2Has
  unfold nf_s_l2Has
  rw [hloop]
  by_cases h : s ∈ l <;> simp [h]
theorem AllUnlike_s_loop (t : Term) : ∀ (suf pre : List Str), (pre ++ suf).length ≤ 1048576 →
    LL f_s_AllUnlike 0 lc_s_AllUnlike_0 [] k_s_AllUnlike_0 (((), (pre ++ suf).map .str, (pre.length : Int), ()), (t.k, t.n, t.s, t.z, t.t.k, t.t.n, t.t.a.map Ty.enc, t.ts.map Ty.enc, t.a.map Term.enc, ()), ()) =
      some (bif dupB pre suf then .ret (.bool false, []) else .out 0 (((), (pre ++ suf).map .str, ((pre ++ suf).length : Int), ()), (t.k, t.n, t.s, t.z, t.t.k, t.t.n, t.t.a.map Ty.enc, t.ts.map Ty.enc, t.a.map Term.enc, ()), ()))
  | [], pre, hl => by
    apply gl_s_AllUnlike_0
    unfold nl_s_AllUnlike_0
    rw [lt_end]
    simp [dupB]
  | x :: suf, pre, hl => by
    have ih := AllUnlike_s_loop t suf (pre ++ [x]) (by simpa using hl)
    simp only [List.append_assoc, List.singleton_append] at ih
    have hall : ((pre ++ x :: suf).map CVal.str).all (CVal.fits false 1) = true := by simp
    have hle : decide ((pre.length : Int) ≤ (((pre ++ x :: suf).map CVal.str).length : Int)) = true := by simp; omega
    have hnn : decide ((0 : Int) ≤ (pre.length : Int)) = true := by simp
    have htk : List.drop 0 (List.take ((pre.length : Nat) : Int).toNat ((pre ++ x :: suf).map CVal.str)) = pre.map .str := by simp
    have hh := l2Has_law (l := pre) (by simp only [List.length_append] at hl; omega) x
    apply gl_s_AllUnlike_0
    unfold nl_s_AllUnlike_0
    rw [lt_mid, get_mid, wrap_mid pre suf x hl, hall, hle, hnn, htk]
    simp only [Bool.and_true, br_true', Option.bind_some, fits_str, cell_str, hh, asBool_bool, dupB]
    by_cases hm : x ∈ pre
    · simp [hm]
    · simp only [hm, decide_false, br_false', Bool.false_or]
      exact ih
theorem AllUnlike_s {t : Term} (hok : t.ok) : CC f_s_AllUnlike [.v t.enc] [] = some (.bool (decide t.right && !dupB [] t.binders), []) := by
  have h1 := TermOk_s hok
  have h2 := Binders_s hok
  have hlen := binders_len t
  have hloop := AllUnlike_s_loop t t.binders [] (by simp; omega)
  simp only [List.nil_append, List.length_nil, Int.cast_ofNat_Int] at hloop
  have e := Term.enc_def t
  rw [Term.enc_def] at h2 ⊢
  apply go_s_AllUnlike
  unfold nf_s_AllUnlike
  simp only [h2, hloop, Option.bind_some, asSl_sl]
  cases hd : dupB [] t.binders with
  | true => simp
  | false => simp only [cond_false, loK_out, beq_self_eq_true, br_true', ← e, h1, Option.bind_some, Bool.not_false, Bool.and_true]
end Go.Proofs.Ytbimglfmmmlicaa.Abs

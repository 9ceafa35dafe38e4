/- Free names. -/
import Derived.Test.YtbimglfmmmlicaaTermLaws
set_option linter.unusedVariables false
set_option linter.unusedSimpArgs false
set_option maxRecDepth 100000
namespace Go.Proofs.Ytbimglfmmmlicaa.Abs
open Go Go.Proofs
open Classical

theorem has_loop (s : List UInt8) : ∀ (suf pre : List (List UInt8)), (pre ++ suf).length ≤ 1048576 →
    ∃ q, LL f_s_l2Has 0 lc_s_l2Has_0 [] k_s_l2Has_0 (((pre ++ suf).map .str, s, (pre.length : Int), ()), ()) = some (if s ∈ suf then .ret (.bool true, []) else .out 0 q)
  | [], pre, hl => ⟨_, gl_s_l2Has_0 _ _ _ _ (by unfold nl_s_l2Has_0; rw [lt_end]; simp; rfl)⟩
  | x :: suf, pre, hl => by
    obtain ⟨q, ih⟩ := has_loop s suf (pre ++ [x]) (by simpa using hl)
    simp only [List.append_assoc, List.singleton_append] at ih
    refine ⟨q, gl_s_l2Has_0 _ _ _ _ ?_⟩
    unfold nl_s_l2Has_0
    rw [lt_mid, nn_mid, get_mid, wrap_mid pre suf x hl]
    simp only [br_true', Option.bind_some, fits_str, cell_str, asStr_str, br_decide]
    by_cases h : x = s
    · simp [h]
    · have h' : ¬ s = x := fun e => h e.symm
      simp only [h, if_false, List.mem_cons, h', false_or]
      exact ih
theorem has_s {l : List (List UInt8)} (hl : l.length ≤ 1048576) (s : List UInt8) : CC f_s_l2Has [.v (.sl (l.map .str)), .v (.str s)] [] = some (.bool (decide (s ∈ l)), []) := by
  obtain ⟨q, hloop⟩ := has_loop s l [] (by simpa using hl)
  simp only [List.nil_append, List.length_nil, Int.cast_ofNat_Int] at hloop
  apply go_s_l2Has
  unfold nf_s_l2Has
  rw [hloop]
  by_cases h : s ∈ l <;> simp [h]
theorem index_loop (s : List UInt8) : ∀ (suf pre : List (List UInt8)), (pre ++ suf).length ≤ 1048576 →
    ∃ (q : _) (n : Nat), LL f_slices_Index_string 0 lc_slices_Index_string_0 [] k_slices_Index_string_0 (((pre ++ suf).map .str, s, ((pre ++ suf).length : Int), (pre.length : Int), ()), ()) = some (if s ∈ suf then .ret (.int .i64 (n : Int), []) else .out 0 q)
  | [], pre, hl => ⟨_, 0, gl_slices_Index_string_0 _ _ _ _ _ (by unfold nl_slices_Index_string_0; rw [lt_end']; simp; rfl)⟩
  | x :: suf, pre, hl => by
    obtain ⟨q, n, ih⟩ := index_loop s suf (pre ++ [x]) (by simpa using hl)
    simp only [List.append_assoc, List.singleton_append] at ih
    refine ⟨q, if s = x then pre.length else n, gl_slices_Index_string_0 _ _ _ _ _ ?_⟩
    unfold nl_slices_Index_string_0
    rw [lt_mid', nn_mid, get_mid, wrap_mid pre suf x hl]
    simp only [br_true', Option.bind_some, fits_str, cell_str, asStr_str, br_decide]
    by_cases h : s = x
    · simp [h]
    · simp only [h, if_false, List.mem_cons, false_or]
      exact ih
theorem contains_i {l : List (List UInt8)} (hl : l.length ≤ 1048576) (s : List UInt8) : CC f_slices_Contains_string [.v (.sl (l.map .str)), .v (.str s)] [] = some (.bool (decide (s ∈ l)), []) := by
  obtain ⟨q, n, hloop⟩ := index_loop s l [] (by simpa using hl)
  simp only [List.nil_append, List.length_nil, Int.cast_ofNat_Int] at hloop
  have hi : ∃ n : Int, CC f_slices_Index_string [.v (.sl (l.map .str)), .v (.str s)] [] = some (.int .i64 n, []) ∧ (0 ≤ n ↔ s ∈ l) := by
    by_cases h : s ∈ l
    · refine ⟨n, ?_, by simp [h]⟩
      apply go_slices_Index_string
      unfold nf_slices_Index_string
      rw [List.length_map, hloop]
      simp [h]
    · refine ⟨-1, ?_, by simp [h]⟩
      apply go_slices_Index_string
      unfold nf_slices_Index_string
      rw [List.length_map, hloop]
      simp [h]
  obtain ⟨n, h1, h2⟩ := hi
  apply go_slices_Contains_string
  unfold nf_slices_Contains_string
  rw [h1]
  simp [h2]

/-- What a part stands under. -/
def bindK (k : Int) (s z : List UInt8) (i : Nat) : List (List UInt8) :=
  if k = 4 then [s] else if k = 7 then [s] else if k = 6 ∧ i = 1 then [s] else if k = 17 ∧ i = 1 then [s] else if k = 14 ∧ i = 2 then [s, z] else []
theorem bindK_len (k : Int) (s z : List UInt8) (i : Nat) : (bindK k s z i).length ≤ 2 := by
  unfold bindK
  repeat' split
  all_goals simp
mutual
/-- A term's free names, behind others. -/
def Term.free : Term → List (List UInt8) → List (List UInt8) → List (List UInt8)
  | .mk k _ s z _ _ a, b, o => freeL k s z 0 a b (if k = 3 ∧ s ∉ b ∧ s ∉ o then o ++ [s] else o)
def freeL (k : Int) (s z : List UInt8) : Nat → List Term → List (List UInt8) → List (List UInt8) → List (List UInt8)
  | _, [], b, o => o
  | i, t :: r, b, o => freeL k s z (i + 1) r b (Term.free t (b ++ bindK k s z i) o)
end
theorem free_def (t : Term) (b o : List (List UInt8)) : t.free b o = freeL t.k t.s t.z 0 t.a b (if t.k = 3 ∧ t.s ∉ b ∧ t.s ∉ o then o ++ [t.s] else o) := by
  cases t; rw [Term.free]; rfl
mutual
theorem free_len : ∀ (t : Term) (b o : List (List UInt8)), (t.free b o).length ≤ o.length + t.nodes
  | .mk k n s z t ts a, b, o => by
    have h := freeL_len k s z 0 a b (if k = 3 ∧ s ∉ b ∧ s ∉ o then o ++ [s] else o)
    have h2 : (if k = 3 ∧ s ∉ b ∧ s ∉ o then o ++ [s] else o).length ≤ o.length + 1 := by split <;> simp
    rw [Term.free, Term.nodes_def]
    show _ ≤ o.length + (Term.nodesL a + 1)
    omega
theorem freeL_len (k : Int) (s z : List UInt8) : ∀ (i : Nat) (l : List Term) (b o : List (List UInt8)), (freeL k s z i l b o).length ≤ o.length + Term.nodesL l
  | _, [], b, o => by simp [freeL]
  | i, t :: r, b, o => by
    have h1 := free_len t (b ++ bindK k s z i) o
    have h2 := freeL_len k s z (i + 1) r b (t.free (b ++ bindK k s z i) o)
    simp only [freeL, Term.nodesL_cons]
    omega
end

theorem boundIn_law (t : Term) (i : Nat) : CC f_i_boundIn [.v t.enc, .v (.int .i64 (i : Int))] [] = some (.sl ((bindK t.k t.s t.z i).map .str), []) := by
  have e1 : ((i : Int) = 1) ↔ i = 1 := by omega
  have e2 : ((i : Int) = 2) ↔ i = 2 := by omega
  rw [Term.enc_def]
  apply go_i_boundIn
  unfold nf_i_boundIn bindK
  simp only [br_decide, e1, e2]
  by_cases h4 : t.k = 4
  · simp [h4]
  · by_cases h7 : t.k = 7
    · simp [h7]
    · by_cases h6 : t.k = 6
      · by_cases h1 : i = 1 <;> simp [h6, h1]
      · by_cases h17 : t.k = 17
        · by_cases h1 : i = 1 <;> simp [h17, h1]
        · by_cases h14 : t.k = 14
          · by_cases h2 : i = 2 <;> simp [h14, h2]
          · simp [h4, h6, h7, h17, h14]
theorem l2Binds_law (t : Term) (i : Nat) : CC f_s_l2Binds [.v t.enc, .v (.int .i64 (i : Int))] [] = some (.sl ((bindK t.k t.s t.z i).map .str), []) := by
  have e1 : ((i : Int) = 1) ↔ i = 1 := by omega
  have e2 : ((i : Int) = 2) ↔ i = 2 := by omega
  rw [Term.enc_def]
  apply go_s_l2Binds
  unfold nf_s_l2Binds bindK
  simp only [br_decide, e1, e2]
  by_cases h4 : t.k = 4
  · simp [h4]
  · by_cases h7 : t.k = 7
    · simp [h7]
    · by_cases h6 : t.k = 6
      · by_cases h1 : i = 1 <;> simp [h6, h1]
      · by_cases h17 : t.k = 17
        · by_cases h1 : i = 1 <;> simp [h17, h1]
        · by_cases h14 : t.k = 14
          · by_cases h2 : i = 2 <;> simp [h14, h2]
          · simp [h4, h6, h7, h17, h14]
theorem allStr (l : List (List UInt8)) : (l.map CVal.str).all (CVal.fitsF false [CK.str]) = true := by simp [CVal.fitsF, okCells, CK.ok]
theorem allStr' (l : List (List UInt8)) : l.all (CVal.fitsF false [CK.str] ∘ CVal.str) = true := by simp [CVal.fitsF, okCells, CK.ok]
theorem mapApp (b c : List (List UInt8)) : b.map CVal.str ++ c.map CVal.str = (b ++ c).map CVal.str := by simp
theorem mapApp1 (b : List (List UInt8)) (c : List UInt8) : b.map CVal.str ++ [CVal.str c] = (b ++ [c]).map CVal.str := by simp
theorem Concat_law (b c : List (List UInt8)) (hb : b.length + c.length ≤ 1000000) : CC f_slices_Concat_string [.v (.sl [.sl (b.map .str), .sl (c.map .str)])] [] = some (.sl ((b ++ c).map .str), []) := by
  have w1 : IntKind.i64.wrap (0 + (b.length : Int)) = (b.length : Int) := by rw [wrap_i64] <;> omega
  have w2 : IntKind.i64.wrap ((b.length : Int) + (c.length : Int)) = (b.length : Int) + (c.length : Int) := by rw [wrap_i64] <;> omega
  have v1 : IntKind.i64.wrap ((0 : Int) + 1) = 1 := by rw [wrap_i64] <;> omega
  have v2 : IntKind.i64.wrap ((1 : Int) + 1) = 2 := by rw [wrap_i64] <;> omega
  have v3 : IntKind.i64.wrap 1 = 1 := by rw [wrap_i64] <;> omega
  have v4 : IntKind.i64.wrap 2 = 2 := by rw [wrap_i64] <;> omega
  have w3 : IntKind.i64.wrap (b.length : Int) = (b.length : Int) := by rw [wrap_i64] <;> omega
  have n1 : ¬ (b.length : Int) < 0 := by omega
  have n2 : ¬ (b.length : Int) + (c.length : Int) < 0 := by omega
  have d1 : b.length ≤ 4294967296 := by omega
  have d2 : b.length + c.length ≤ 4294967296 := by omega
  have hg : CC f_slices_Grow_string [.nl, .v (.int .i64 ((b.length : Int) + (c.length : Int)))] [] = some (.sl [], []) := extW (by decide) rfl (xGrow_eq (by omega) (by omega))
  have l0 : LL f_slices_Concat_string 0 lc_slices_Concat_string_0 [] k_slices_Concat_string_0 (([.sl (b.map .str), .sl (c.map .str)], 0, [.sl (b.map .str), .sl (c.map .str)], 2, 0, ()), ()) =
      some (.out 0 (([.sl (b.map .str), .sl (c.map .str)], (b.length : Int) + (c.length : Int), [.sl (b.map .str), .sl (c.map .str)], 2, 2, ()), ())) := by
    apply gl_slices_Concat_string_0
    unfold nl_slices_Concat_string_0
    have : LL f_slices_Concat_string 0 lc_slices_Concat_string_0 [] k_slices_Concat_string_0 (([.sl (b.map .str), .sl (c.map .str)], (b.length : Int), [.sl (b.map .str), .sl (c.map .str)], 2, 1, ()), ()) =
      some (.out 0 (([.sl (b.map .str), .sl (c.map .str)], (b.length : Int) + (c.length : Int), [.sl (b.map .str), .sl (c.map .str)], 2, 2, ()), ())) := by
      apply gl_slices_Concat_string_0
      unfold nl_slices_Concat_string_0
      have : LL f_slices_Concat_string 0 lc_slices_Concat_string_0 [] k_slices_Concat_string_0 (([.sl (b.map .str), .sl (c.map .str)], (b.length : Int) + (c.length : Int), [.sl (b.map .str), .sl (c.map .str)], 2, 2, ()), ()) =
        some (.out 0 (([.sl (b.map .str), .sl (c.map .str)], (b.length : Int) + (c.length : Int), [.sl (b.map .str), .sl (c.map .str)], 2, 2, ()), ())) := by
        apply gl_slices_Concat_string_0
        rfl
      simp [w2, v2, v4, n2, this, CVal.fits, CVal.cell, CVal.cells, CVal.isFlat]
    simp [w1, w3, v1, v3, n1, this, CVal.fits, CVal.cell, CVal.cells, CVal.isFlat]
  have l2 : LL f_slices_Concat_string 2 lc_slices_Concat_string_2 [] k_slices_Concat_string_2 (((), [.sl (b.map .str), .sl (c.map .str)], 2, 0, ()), [], ()) =
      some (.out 2 (((), [.sl (b.map .str), .sl (c.map .str)], 2, 2, ()), b.map .str ++ c.map .str, ())) := by
    apply gl_slices_Concat_string_2
    unfold nl_slices_Concat_string_2
    have : LL f_slices_Concat_string 2 lc_slices_Concat_string_2 [] k_slices_Concat_string_2 (((), [.sl (b.map .str), .sl (c.map .str)], 2, 1, ()), b.map .str, ()) =
      some (.out 2 (((), [.sl (b.map .str), .sl (c.map .str)], 2, 2, ()), b.map .str ++ c.map .str, ())) := by
      apply gl_slices_Concat_string_2
      unfold nl_slices_Concat_string_2
      have : LL f_slices_Concat_string 2 lc_slices_Concat_string_2 [] k_slices_Concat_string_2 (((), [.sl (b.map .str), .sl (c.map .str)], 2, 2, ()), b.map .str ++ c.map .str, ()) =
        some (.out 2 (((), [.sl (b.map .str), .sl (c.map .str)], 2, 2, ()), b.map .str ++ c.map .str, ())) := by
        apply gl_slices_Concat_string_2
        rfl
      simp [allStr' c, v2, v4, this, d2, CVal.fits, CVal.cell, CVal.cells, CVal.isFlat]
    simp [allStr' b, v1, v3, this, d1, CVal.fits, CVal.cell, CVal.cells, CVal.isFlat]
  apply go_slices_Concat_string
  unfold nf_slices_Concat_string
  simp only [List.length_cons, List.length_nil]
  simp [l0, l2, hg]
end Go.Proofs.Ytbimglfmmmlicaa.Abs

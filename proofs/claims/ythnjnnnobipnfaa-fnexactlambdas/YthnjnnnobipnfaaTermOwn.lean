/- Copies of terms: all the function's own. -/
import Derived.Test.YthnjnnnobipnfaaTermPlain
import Derived.Test.YthnjnnnobipnfaaTyOwn
set_option linter.unusedVariables false
set_option linter.unusedSectionVars false
set_option linter.unusedSimpArgs false
set_option maxRecDepth 100000
set_option maxHeartbeats 1000000
namespace Go.Proofs.Ythnjnnnobipnfaa.Abs
open Go Go.Proofs
open Classical

theorem copyTys_loop : ∀ (suf pre : List Ty), (pre ++ suf).length ≤ 1048576 → (∀ t ∈ suf, t.ok) →
    LL f_s_l2CopyTys 0 lc_s_l2CopyTys_0 [] k_s_l2CopyTys_0 (((pre ++ suf).map Ty.enc, (), (pre.length : Int), ()), pre.map Ty.enc, ()) =
      some (.out 0 (((pre ++ suf).map Ty.enc, (), ((pre ++ suf).length : Int), ()), (pre ++ suf).map Ty.enc, ()))
  | [], pre, hl, h => by
    apply gl_s_l2CopyTys_0
    unfold nl_s_l2CopyTys_0
    rw [lt_end]
    simp
  | t :: suf, pre, hl, h => by
    apply gl_s_l2CopyTys_0
    unfold nl_s_l2CopyTys_0
    have ih := copyTys_loop suf (pre ++ [t]) (by simpa using hl) (fun w hw => h w (by simp [hw]))
    simp only [List.append_assoc, List.singleton_append] at ih
    have hle : (decide ((pre.map Ty.enc).length + 1 ≤ 4294967296) && true && true) = true := by rw [List.length_map]; simp at hl ⊢; omega
    have e3 : pre.map Ty.enc ++ [t.enc] = (pre ++ [t]).map Ty.enc := by simp
    rw [lt_mid, nn_mid, get_mid, wrap_mid pre suf t hl]
    refine br_T rfl (br_T rfl (bd rfl (br_T (Ty.enc_fits t) (bd (Ty.enc_sub t) (bd (l1Copy_law t (h t (by simp))) (br_T (Ty.enc_isAggN t) (bd (Ty.enc_cell0 t) (bd (Ty.enc_cell1 t) (bd (Ty.enc_cell2 t) (bd rfl (bd asInt_int (bd asInt_int (br_T hle ?_)))))))))))))
    rw [← Ty.enc_def t, e3]
    exact ih
theorem copyTys_law {l : List Ty} (hl : l.length ≤ 1048576) (h : ∀ t ∈ l, t.ok) : CC f_s_l2CopyTys [.v (.sl (l.map Ty.enc))] [] = some (.sl (l.map Ty.enc), []) := by
  have hloop := copyTys_loop l [] (by simpa using hl) h
  simp only [List.nil_append, List.length_nil, List.map_nil, Int.cast_ofNat_Int] at hloop
  apply go_s_l2CopyTys
  unfold nf_s_l2CopyTys
  rw [hloop]
  rfl
theorem l2Copy_loop {k n tk tn : Int} {s z : List UInt8} {ta ts : List CVal} {k' n' tk' tn' : Int} {s' z' : List UInt8} {ta' ts' : List CVal} : ∀ (suf pre : List Term), (pre ++ suf).length ≤ 1048576 → (∀ t ∈ suf, CC f_s_l2Copy [.v t.enc] [] = some (t.enc, [])) →
    LL f_s_l2Copy 0 lc_s_l2Copy_0 [] k_s_l2Copy_0 (((), (), (), (pre.length : Int), ()), (k, n, s, z, tk, tn, ta, ts, (pre ++ suf).map Term.enc, ()), (0, 0, [], [], 0, 0, (), (), (), ()), [], [], [], (k', n', s', z', tk', tn', (), (), (), ()), ta', ts', pre.map Term.enc, ()) =
      some (.out 0 (((), (), (), ((pre ++ suf).length : Int), ()), (k, n, s, z, tk, tn, ta, ts, (pre ++ suf).map Term.enc, ()), (0, 0, [], [], 0, 0, (), (), (), ()), [], [], [], (k', n', s', z', tk', tn', (), (), (), ()), ta', ts', (pre ++ suf).map Term.enc, ()))
  | [], pre, hl, h => by
    apply gl_s_l2Copy_0
    unfold nl_s_l2Copy_0
    rw [lt_end]
    simp
  | t :: suf, pre, hl, h => by
    apply gl_s_l2Copy_0
    unfold nl_s_l2Copy_0
    have ih := l2Copy_loop (k := k) (n := n) (tk := tk) (tn := tn) (s := s) (z := z) (ta := ta) (ts := ts) (k' := k') (n' := n') (tk' := tk') (tn' := tn') (s' := s') (z' := z') (ta' := ta') (ts' := ts') suf (pre ++ [t]) (by simpa using hl) (fun w hw => h w (by simp [hw]))
    simp only [List.append_assoc, List.singleton_append] at ih
    have hle : (decide ((pre.map Term.enc).length + 1 ≤ 4294967296) && true && true) = true := by rw [List.length_map]; simp at hl ⊢; omega
    have e3 : pre.map Term.enc ++ [t.enc] = (pre ++ [t]).map Term.enc := by simp
    rw [lt_mid, nn_mid, get_mid, wrap_mid pre suf t hl]
    refine br_T rfl (br_T rfl (bd rfl (br_T (Term.enc_fits t) (bd (Term.enc_sub t) (bd (h t (by simp)) (br_T (Term.enc_isAggN t) (bd (Term.enc_cell0 t) (bd (Term.enc_cell1 t) (bd (Term.enc_cell2 t) (bd (Term.enc_cell3 t) (bd (Term.enc_cell4 t) (bd (Term.enc_cell5 t) (bd (Term.enc_cell6 t) (bd (Term.enc_cell7 t) (bd (Term.enc_cell8 t) (bd rfl (bd rfl (bd rfl (bd asInt_int (bd asInt_int (bd rfl (bd rfl (bd asInt_int (bd asInt_int (br_T hle ?_)))))))))))))))))))))))))
    rw [← Term.enc_def t, e3]
    exact ih
theorem l2Copy_law : ∀ t : Term, t.ok → CC f_s_l2Copy [.v t.enc] [] = some (t.enc, []) := Term.ind fun t ih hok => by
  have hloop := l2Copy_loop (k := t.k) (n := t.n) (tk := t.t.k) (tn := t.t.n) (s := t.s) (z := t.z) (ta := t.t.a.map Ty.enc) (ts := t.ts.map Ty.enc) (k' := t.k) (n' := t.n) (tk' := t.t.k) (tn' := t.t.n) (s' := t.s) (z' := t.z) (ta' := t.t.a.map Ty.enc) (ts' := t.ts.map Ty.enc) t.a [] (by simpa using hok.a_len) fun u hu => ih u hu (hok.a hu)
  simp only [List.nil_append, List.length_nil, List.map_nil, Int.cast_ofNat_Int] at hloop
  have h1 := l1Copy_law t.t hok.t
  rw [Ty.enc_def] at h1
  rw [Term.enc_def]
  apply go_s_l2Copy
  unfold nf_s_l2Copy
  refine bd h1 (br_T rfl (bd rfl (bd rfl (bd rfl (bd rfl (bd (copyTys_law hok.ts_len fun u hu => hok.ts hu) (br_T rfl (bd rfl (bd asInt_int (bd asInt_int (bd hloop (lo_out (br_T rfl ?_)))))))))))))
  rfl
theorem cloneTs_loop {X1 : Int × Int × List UInt8 × List UInt8 × Int × Int × List CVal × List CVal × List CVal × Unit} {k' n' tk' tn' : Int} {s' z' : List UInt8} {ta' a' : List CVal} : ∀ (suf pre : List Ty), (pre ++ suf).length ≤ 1048576 → (∀ t ∈ suf, t.ok) →
    LL f_i_cloneTerm 0 lc_i_cloneTerm_0 [] k_i_cloneTerm_0 (((), (), (), (pre ++ suf).map Ty.enc, ((pre ++ suf).length : Int), (pre.length : Int), ()), X1, (0, 0, [], [], 0, 0, (), (), (), ()), [], [], [], (k', n', s', z', tk', tn', (), (), (), ()), ta', pre.map Ty.enc, a', ()) =
      some (.out 0 (((), (), (), (pre ++ suf).map Ty.enc, ((pre ++ suf).length : Int), ((pre ++ suf).length : Int), ()), X1, (0, 0, [], [], 0, 0, (), (), (), ()), [], [], [], (k', n', s', z', tk', tn', (), (), (), ()), ta', (pre ++ suf).map Ty.enc, a', ()))
  | [], pre, hl, h => by
    obtain ⟨x0, x1, x2, x3, x4, x5, x6, x7, x8, x9⟩ := X1
    apply gl_i_cloneTerm_0
    unfold nl_i_cloneTerm_0
    rw [lt_end']
    simp
  | t :: suf, pre, hl, h => by
    have ih := cloneTs_loop (X1 := X1) (k' := k') (n' := n') (tk' := tk') (tn' := tn') (s' := s') (z' := z') (ta' := ta') (a' := a') suf (pre ++ [t]) (by simpa using hl) (fun w hw => h w (by simp [hw]))
    obtain ⟨x0, x1, x2, x3, x4, x5, x6, x7, x8, x9⟩ := X1
    apply gl_i_cloneTerm_0
    unfold nl_i_cloneTerm_0
    simp only [List.append_assoc, List.singleton_append] at ih
    have hle : (decide ((pre.map Ty.enc).length + 1 ≤ 4294967296) && true && true) = true := by rw [List.length_map]; simp at hl ⊢; omega
    have e3 : pre.map Ty.enc ++ [t.enc] = (pre ++ [t]).map Ty.enc := by simp
    have hc := cloneTy_law t (h t (by simp))
    rw [Ty.enc_def] at hc
    rw [lt_mid', nn_mid, get_mid, wrap_mid pre suf t hl]
    refine br_T rfl (br_T rfl (bd rfl (br_T (Ty.enc_fits t) (bd (Ty.enc_sub t) (br_T (Ty.enc_isAggN t) (bd (Ty.enc_cell0 t) (bd (Ty.enc_cell1 t) (bd (Ty.enc_cell2 t) (bd hc (br_T rfl (bd rfl (bd rfl (bd rfl (bd rfl (bd asInt_int (bd asInt_int (br_T hle ?_)))))))))))))))))
    rw [← Ty.enc_def t, e3]
    exact ih
theorem cloneA_loop {k' n' tk' tn' : Int} {s' z' : List UInt8} {ta' ts' : List CVal} : ∀ (suf pre : List Term), (pre ++ suf).length ≤ 1048576 → (∀ t ∈ suf, CC f_i_cloneTerm [.v t.enc] [] = some (t.enc, [])) →
    LL f_i_cloneTerm 2 lc_i_cloneTerm_2 [] k_i_cloneTerm_2 (((), (), (pre ++ suf).map Term.enc, ((pre ++ suf).length : Int), (pre.length : Int), ()), (0, 0, [], [], 0, 0, (), (), (), ()), [], [], [], (k', n', s', z', tk', tn', (), (), (), ()), ta', ts', pre.map Term.enc, ()) =
      some (.out 2 (((), (), (pre ++ suf).map Term.enc, ((pre ++ suf).length : Int), ((pre ++ suf).length : Int), ()), (0, 0, [], [], 0, 0, (), (), (), ()), [], [], [], (k', n', s', z', tk', tn', (), (), (), ()), ta', ts', (pre ++ suf).map Term.enc, ()))
  | [], pre, hl, h => by
    apply gl_i_cloneTerm_2
    unfold nl_i_cloneTerm_2
    rw [lt_end']
    simp
  | t :: suf, pre, hl, h => by
    have ih := cloneA_loop (k' := k') (n' := n') (tk' := tk') (tn' := tn') (s' := s') (z' := z') (ta' := ta') (ts' := ts') suf (pre ++ [t]) (by simpa using hl) (fun w hw => h w (by simp [hw]))
    apply gl_i_cloneTerm_2
    unfold nl_i_cloneTerm_2
    simp only [List.append_assoc, List.singleton_append] at ih
    have hle : (decide ((pre.map Term.enc).length + 1 ≤ 4294967296) && true && true) = true := by rw [List.length_map]; simp at hl ⊢; omega
    have e3 : pre.map Term.enc ++ [t.enc] = (pre ++ [t]).map Term.enc := by simp
    have hc := h t (by simp)
    rw [Term.enc_def] at hc
    rw [lt_mid', nn_mid, get_mid, wrap_mid pre suf t hl]
    refine br_T rfl (br_T rfl (bd rfl (br_T (Term.enc_fits t) (bd (Term.enc_sub t) (br_T (Term.enc_isAggN t) (bd (Term.enc_cell0 t) (bd (Term.enc_cell1 t) (bd (Term.enc_cell2 t) (bd (Term.enc_cell3 t) (bd (Term.enc_cell4 t) (bd (Term.enc_cell5 t) (bd (Term.enc_cell6 t) (bd (Term.enc_cell7 t) (bd (Term.enc_cell8 t) (bd hc (br_T rfl (bd rfl (bd rfl (bd rfl (bd rfl (bd rfl (bd rfl (bd rfl (bd rfl (bd rfl (bd rfl (bd rfl (bd rfl (bd asInt_int (bd asInt_int (bd rfl (bd rfl (bd asInt_int (bd asInt_int (br_T hle ?_)))))))))))))))))))))))))))))))))))
    rw [← Term.enc_def t, e3]
    exact ih
theorem cloneTerm_law : ∀ t : Term, t.ok → CC f_i_cloneTerm [.v t.enc] [] = some (t.enc, []) := Term.ind fun t ih hok => by
  have h0 := cloneTs_loop (X1 := (t.k, t.n, t.s, t.z, t.t.k, t.t.n, t.t.a.map Ty.enc, t.ts.map Ty.enc, t.a.map Term.enc, ())) (k' := t.k) (n' := t.n) (tk' := t.t.k) (tn' := t.t.n) (s' := t.s) (z' := t.z) (ta' := t.t.a.map Ty.enc) (a' := []) t.ts [] (by simpa using hok.ts_len) fun u hu => hok.ts hu
  have h2 := cloneA_loop (k' := t.k) (n' := t.n) (tk' := t.t.k) (tn' := t.t.n) (s' := t.s) (z' := t.z) (ta' := t.t.a.map Ty.enc) (ts' := t.ts.map Ty.enc) t.a [] (by simpa using hok.a_len) fun u hu => ih u hu (hok.a hu)
  simp only [List.nil_append, List.length_nil, List.map_nil, Int.cast_ofNat_Int] at h0 h2
  have h1 := cloneTy_law t.t hok.t
  rw [Ty.enc_def] at h1
  rw [Term.enc_def]
  apply go_i_cloneTerm
  unfold nf_i_cloneTerm
  refine bd h1 (br_T rfl (bd rfl (bd rfl (bd rfl (bd rfl (bd asInt_int (bd asInt_int ?_)))))))
  rw [List.length_map]
  refine bd h0 (lo_out (br_T rfl ?_))
  have e : ((List.map Term.enc t.a).length : Int) = (t.a.length : Int) := by rw [List.length_map]
  show ((LL f_i_cloneTerm 2 lc_i_cloneTerm_2 [] k_i_cloneTerm_2 (((), (), t.a.map Term.enc, ((t.a.map Term.enc).length : Int), 0, ()), (0, 0, [], [], 0, 0, (), (), (), ()), [], [], [], (t.k, t.n, t.s, t.z, t.t.k, t.t.n, (), (), (), ()), t.t.a.map Ty.enc, t.ts.map Ty.enc, [], ())).bind _) = _
  rw [e]
  refine bd h2 (lo_out (br_T rfl ?_))
  rfl
end Go.Proofs.Ythnjnnnobipnfaa.Abs

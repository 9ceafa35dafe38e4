/- Nodes by their numbers, both ways. -/
import Derived.Test.YthnjnnnobipnfaaNodes
import Derived.Test.YthnjnnnobipnfaaTermOwn
set_option linter.unusedVariables false
set_option linter.unusedSectionVars false
set_option linter.unusedSimpArgs false
set_option maxRecDepth 100000
set_option maxHeartbeats 1000000
namespace Go.Proofs.Ythnjnnnobipnfaa.Abs
open Go Go.Proofs
open Classical

theorem l6All_loop {k n tk tn : Int} {s z : List UInt8} {ta ts : List CVal} : ∀ (suf pre : List Term) (acc : List Term), (pre ++ suf).length ≤ 1048576 →
    (∀ t ∈ suf, ∀ acc : List Term, acc.length + t.nodes ≤ 4000000 → CC f_s_l6All [.v t.enc, .lref 0 0] [PB.arr ⟨false, false, 0⟩ false 9 (acc.map Term.enc)] = some (.nilp, [(acc ++ t.pre).map Term.enc])) → acc.length + Term.nodesL suf ≤ 4000000 →
    LL f_s_l6All 0 lc_s_l6All_0 [PSh.arr ⟨false, false, 0⟩ false 9] k_s_l6All_0 (((), (), (pre.length : Int), ()), acc.map Term.enc, (k, n, s, z, tk, tn, ta, ts, (pre ++ suf).map Term.enc, ()), ()) =
      some (.out 0 (((), (), ((pre ++ suf).length : Int), ()), (acc ++ Term.preL suf).map Term.enc, (k, n, s, z, tk, tn, ta, ts, (pre ++ suf).map Term.enc, ()), ()))
  | [], pre, acc, hl, h, hb => by
    apply gl_s_l6All_0
    unfold nl_s_l6All_0
    rw [lt_end]
    simp
  | t :: suf, pre, acc, hl, h, hb => by
    apply gl_s_l6All_0
    unfold nl_s_l6All_0
    simp only [Term.nodesL_cons] at hb
    have ht := h t (by simp) acc (by omega)
    have ih := l6All_loop (k := k) (n := n) (s := s) (z := z) (tk := tk) (tn := tn) (ta := ta) (ts := ts) suf (pre ++ [t]) (acc ++ t.pre) (by simpa using hl) (fun u hu => h u (by simp [hu])) (by rw [List.length_append, Term.pre_len]; omega)
    simp only [List.append_assoc, List.singleton_append] at ih
    rw [lt_mid, nn_mid, get_mid, wrap_mid pre suf t hl]
    simp only [br_true', Option.bind_some, Term.enc_fits, Term.enc_sub, ht, List.getElem?_cons_zero, Term.preL_cons]
    exact ih
theorem l6All_law : ∀ t : Term, t.ok → ∀ acc : List Term, acc.length + t.nodes ≤ 4000000 →
    CC f_s_l6All [.v t.enc, .lref 0 0] [PB.arr ⟨false, false, 0⟩ false 9 (acc.map Term.enc)] = some (.nilp, [(acc ++ t.pre).map Term.enc]) := Term.ind fun t ih hok acc hb => by
  rw [Term.nodes_def] at hb
  have hloop := l6All_loop (k := t.k) (n := t.n) (s := t.s) (z := t.z) (tk := t.t.k) (tn := t.t.n) (ta := t.t.a.map Ty.enc) (ts := t.ts.map Ty.enc) t.a [] (acc ++ [t]) (by simpa using hok.a_len) (fun u hu => ih u hu (hok.a hu)) (by simp; omega)
  simp only [List.nil_append, List.length_nil, Int.cast_ofNat_Int, List.map_append, List.map_cons, List.map_nil] at hloop
  have hle : (decide ((acc.map Term.enc).length + 1 ≤ 4294967296) && true && true) = true := by rw [List.length_map]; simp; omega
  rw [Term.enc_def] at hloop ⊢
  apply go_s_l6All
  unfold nf_s_l6All
  refine br_T hle (bd hloop (lo_out (br_T rfl ?_)))
  rw [Term.pre_def, ← Term.enc_def]
  simp
def outN (o : Option Term) : CVal := match o with
  | some u => .tup [u.enc, .bool true]
  | none => .tup [.agg [.int .i64 0, .int .i64 0, .str [], .str [], .int .i64 0, .int .i64 0, .sl [], .sl [], .sl []], .bool false]
theorem numbered_loop {k n tk tn i0 : Int} {s z : List UInt8} {ta ts a0 : List CVal} : ∀ (suf pre : List Term) (i : Int), (pre ++ suf).length ≤ 1048576 → 0 ≤ i →
    (∀ t ∈ suf, ∀ i : Int, 0 ≤ i → i + t.nodes ≤ 4000000 → CC f_i_numbered [.v t.enc, .lptr 0 0] [.box [.v (.int .i64 i)]] = some (nodeC t i, [[.int .i64 (i + t.nodes)]])) → i + Term.nodesL suf ≤ 4000000 → i = i0 + 1 + Term.nodesL pre →
    LL f_i_numbered 0 lc_i_numbered_0 [PSh.box [none]] k_i_numbered_0 (((), (), (pre ++ suf).map Term.enc, ((pre ++ suf).length : Int), (pre.length : Int), ()), (i, ()), (k, n, s, z, tk, tn, ta, ts, a0, i0, (), ()), kidsC pre (i0 + 1), ()) =
      some (.out 0 (((), (), (pre ++ suf).map Term.enc, ((pre ++ suf).length : Int), ((pre ++ suf).length : Int), ()), (i + Term.nodesL suf, ()), (k, n, s, z, tk, tn, ta, ts, a0, i0, (), ()), kidsC (pre ++ suf) (i0 + 1), ()))
  | [], pre, i, hl, h0, h, hb, hi => by
    apply gl_i_numbered_0
    unfold nl_i_numbered_0
    rw [lt_end']
    simp
  | t :: suf, pre, i, hl, h0, h, hb, hi => by
    apply gl_i_numbered_0
    unfold nl_i_numbered_0
    simp only [Term.nodesL_cons] at hb
    have ht := h t (by simp) i h0 (by omega)
    rw [Term.enc_def] at ht
    have hnl : Term.nodesL (pre ++ [t]) = Term.nodesL pre + t.nodes := by unfold Term.nodesL; simp
    have ih := numbered_loop (k := k) (n := n) (tk := tk) (tn := tn) (i0 := i0) (s := s) (z := z) (ta := ta) (ts := ts) (a0 := a0) suf (pre ++ [t]) (i + t.nodes) (by simpa using hl) (by omega) (fun u hu => h u (by simp [hu])) (by omega) (by rw [hnl]; omega)
    simp only [List.append_assoc, List.singleton_append] at ih
    have hle : (decide ((kidsC pre (i0 + 1)).length + 1 ≤ 4294967296) && true && true) = true := by rw [kidsC_len]; simp at hl ⊢; omega
    have hk : kidsC pre (i0 + 1) ++ [nodeC t i] = kidsC (pre ++ [t]) (i0 + 1) := by rw [kidsC_append, hi]
    have hf : (nodeC t i).isFlat = true := by rw [nodeC_def]; rfl
    have hp : (nodeC t i).isPt = true := by rw [nodeC_def]; rfl
    have hfits : ([nodeC t i].all (CVal.fitsF false [CK.any])) = true := by rw [nodeC_def]; rfl
    rw [lt_mid', nn_mid, get_mid, wrap_mid pre suf t hl]
    refine br_T rfl (br_T rfl (bd rfl (br_T (Term.enc_fits t) (bd (Term.enc_sub t) (br_T (Term.enc_isAggN t) (bd (Term.enc_cell0 t) (bd (Term.enc_cell1 t) (bd (Term.enc_cell2 t) (bd (Term.enc_cell3 t) (bd (Term.enc_cell4 t) (bd (Term.enc_cell5 t) (bd (Term.enc_cell6 t) (bd (Term.enc_cell7 t) (bd (Term.enc_cell8 t) (bd ht (bd rfl (bd rfl (br_T (by simp [hf]) (br_T hp (br_T hfits (br_T hle (bd asInt_int ?_))))))))))))))))))))))
    show LL f_i_numbered 0 lc_i_numbered_0 [PSh.box [none]] k_i_numbered_0 (((), (), (pre ++ t :: suf).map Term.enc, ((pre ++ t :: suf).length : Int), ((pre ++ [t]).length : Int), ()), (i + t.nodes, ()), (k, n, s, z, tk, tn, ta, ts, a0, i0, (), ()), kidsC pre (i0 + 1) ++ [nodeC t i], ()) = _
    rw [hk, ih]
    have e : i + (t.nodes : Int) + (Term.nodesL suf : Int) = i + (Term.nodesL (t :: suf) : Int) := by rw [Term.nodesL_cons]; omega
    rw [e]
theorem numbered_law : ∀ t : Term, t.ok → ∀ i : Int, 0 ≤ i → i + t.nodes ≤ 4000000 → CC f_i_numbered [.v t.enc, .lptr 0 0] [.box [.v (.int .i64 i)]] = some (nodeC t i, [[.int .i64 (i + t.nodes)]]) := Term.ind fun t ih hok i h0 hb => by
  have hnd := Term.nodes_def t
  have hloop := numbered_loop (k := t.k) (n := t.n) (tk := t.t.k) (tn := t.t.n) (i0 := i) (s := t.s) (z := t.z) (ta := t.t.a.map Ty.enc) (ts := t.ts.map Ty.enc) (a0 := t.a.map Term.enc) t.a [] (i + 1) (by simpa using hok.a_len) (by omega) (fun u hu => ih u hu (hok.a hu)) (by omega) (by simp)
  simp only [List.nil_append, List.length_nil, Int.cast_ofNat_Int, kidsC_nil] at hloop
  have hw : IntKind.i64.wrap (i + 1) = i + 1 := by rw [wrap_i64] <;> omega
  rw [Term.enc_def]
  apply go_i_numbered
  unfold nf_i_numbered
  rw [hw, List.length_map]
  refine bd hloop (lo_out (br_T rfl ?_))
  rw [nodeC_def]
  have e : i + (t.nodes : Int) = i + 1 + (Term.nodesL t.a : Int) := by omega
  rw [e]
theorem nodesIn_loop : ∀ (suf : List Term) (done : List CVal) (i : Int) (acc : List CVal), done.length + suf.length ≤ 1048576 →
    (∀ t ∈ suf, ∀ (i : Int) (acc : List CVal), acc.length + t.nodes ≤ 4000000 → CC f_i_nodesIn [.v (nodeC t i), .lref 0 0] [PB.arr ⟨true, false, 0⟩ false 1 acc] = some (.nilp, [acc ++ allC t i])) → acc.length + Term.nodesL suf ≤ 4000000 →
    ∃ q, LL f_i_nodesIn 0 lc_i_nodesIn_0 [PSh.arr ⟨true, false, 0⟩ false 1] k_i_nodesIn_0 (((), done ++ kidsC suf i, ((done.length + suf.length : Nat) : Int), (done.length : Int), ()), acc, ()) =
      some (.out 0 (q, acc ++ allL suf i, ()))
  | [], done, i, acc, hl, h, hb => by
    refine ⟨_, gl_i_nodesIn_0 _ _ _ _ _ (by unfold nl_i_nodesIn_0; rw [allL_nil]; simp; rfl)⟩
  | t :: suf, done, i, acc, hl, h, hb => by
    simp only [Term.nodesL_cons] at hb
    have ht := h t (by simp) i acc (by omega)
    have hlen : (allC t i).length = t.nodes := by rw [(flat_for t i).len, Term.pre_len]
    obtain ⟨q, ih⟩ := nodesIn_loop suf (done ++ [nodeC t i]) (i + t.nodes) (acc ++ allC t i) (by simp at hl ⊢; omega) (fun u hu => h u (by simp [hu])) (by rw [List.length_append, hlen]; omega)
    have hfits : CVal.fits false 1 (nodeC t i) = true := by rw [nodeC_def]; rfl
    have hcell : (nodeC t i).cell 0 = some (nodeC t i) := by rw [nodeC_def]; rfl
    have hg : (done ++ kidsC (t :: suf) i)[((done.length : Int)).toNat]? = some (nodeC t i) := by rw [kidsC_cons]; simp
    have hw : IntKind.i64.wrap ((done.length : Int) + 1) = ((done ++ [nodeC t i]).length : Int) := by simp at hl ⊢; rw [wrap_i64] <;> omega
    refine ⟨q, gl_i_nodesIn_0 _ _ _ _ _ ?_⟩
    unfold nl_i_nodesIn_0
    refine br_T (decide_eq_true (by simp; omega)) (br_T (by simp) (bd hg (br_T hfits (bd hcell (bd ht (bd rfl ?_))))))
    rw [hw, allL_cons, ← List.append_assoc, ← ih, kidsC_cons]
    simp only [List.append_assoc, List.singleton_append, List.length_append, List.length_cons, List.length_nil]
    have e : done.length + (suf.length + 1) = done.length + (0 + 1) + suf.length := by omega
    rw [e]
theorem nodesIn_law : ∀ t : Term, t.ok → ∀ (i : Int) (acc : List CVal), acc.length + t.nodes ≤ 4000000 → CC f_i_nodesIn [.v (nodeC t i), .lref 0 0] [PB.arr ⟨true, false, 0⟩ false 1 acc] = some (.nilp, [acc ++ allC t i]) := Term.ind fun t ih hok i acc hb => by
  rw [Term.nodes_def] at hb
  obtain ⟨q, hloop⟩ := nodesIn_loop t.a [] (i + 1) (acc ++ [nodeC t i]) (by simpa using hok.a_len) (fun u hu => ih u hu (hok.a hu)) (by simp; omega)
  simp only [List.nil_append, List.length_nil, Int.cast_ofNat_Int, Nat.zero_add] at hloop
  have hle : (decide (acc.length + 1 ≤ 4294967296) && true && true) = true := by simp; omega
  have hf : (nodeC t i).isFlat = true := by rw [nodeC_def]; rfl
  have hp : (nodeC t i).isPt = true := by rw [nodeC_def]; rfl
  have hfits : ([nodeC t i].all (CVal.fitsF false [CK.any])) = true := by rw [nodeC_def]; rfl
  have hfp : (nodeC t i).asFp = some (.agg [.int .i64 t.k, .int .i64 t.n, .str t.s, .str t.z, .int .i64 t.t.k, .int .i64 t.t.n, .sl (t.t.a.map Ty.enc), .sl (t.ts.map Ty.enc), .sl (t.a.map Term.enc), .int .i64 i, .sl (kidsC t.a (i + 1))], 0) := by rw [nodeC_def]; rfl
  apply go_i_nodesIn
  unfold nf_i_nodesIn
  refine br_T (by simp [hf]) (br_T hp (br_T hfits (br_T hle (bd hfp (bd rfl (bd rfl (bd rfl ?_)))))))
  rw [kidsC_len]
  refine bd hloop (lo_out (br_T rfl ?_))
  rw [allC_def]
  simp
theorem allNodes_law {t : Term} (hok : t.ok) : CC f_i_allNodes [.v t.enc] [] = some (.sl (if t.right then allC t 0 else []), []) := by
  have h := TermOk_i hok
  have hn := hok.nodes
  have h1 := numbered_law t hok 0 (by omega) (by omega)
  rw [Term.enc_def] at h h1 ⊢
  apply go_i_allNodes
  unfold nf_i_allNodes
  refine bd h (bd rfl ?_)
  by_cases hr : t.right
  · rw [if_pos hr]
    have h2 := nodesIn_law t hok 0 [] (by simp; omega)
    refine br_F (by simp [hr]) (bd h1 (bd rfl (bd rfl (bd h2 (bd rfl ?_)))))
    rfl
  · rw [if_neg hr]
    exact br_T (by simp [hr]) rfl
end Go.Proofs.Ythnjnnnobipnfaa.Abs

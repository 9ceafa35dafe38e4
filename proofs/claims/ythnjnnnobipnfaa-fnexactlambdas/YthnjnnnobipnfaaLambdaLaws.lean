/- The functions within a term, both ways. -/
import Derived.Test.YthnjnnnobipnfaaNodeLaws
set_option linter.unusedVariables false
set_option linter.unusedSectionVars false
set_option linter.unusedSimpArgs false
set_option maxRecDepth 100000
set_option maxHeartbeats 1000000
namespace Go.Proofs.Ythnjnnnobipnfaa.Abs
open Go Go.Proofs
open Classical

/-- What an element of one cell must be, to be put about. -/
structure OneEl (x : CVal) : Prop where
  pt : x.isPt = true
  fl : x.isFlat = true
  fi : CVal.fits false 1 x = true
  ce : x.cell 0 = some x

theorem indexN_loop {f : CVal} {p : CVal → Bool} : ∀ (suf pre : List CVal), (pre ++ suf).length ≤ 4000000 → (∀ x ∈ suf, OneEl x) → (∀ x ∈ suf, CC apId [.v f, .v x] [] = some (.bool (p x), [])) →
    LL f_slices_IndexFunc_p_node 0 lc_slices_IndexFunc_p_node_0 [] k_slices_IndexFunc_p_node_0 ((pre ++ suf, f, ((pre ++ suf).length : Int), (pre.length : Int), ()), ()) =
      some (if suf.any p then .ret (.int .i64 ((pre.length + suf.findIdx p : Nat) : Int), []) else .out 0 ((pre ++ suf, f, ((pre ++ suf).length : Int), ((pre ++ suf).length : Int), ()), ()))
  | [], pre, hl, ho, h => by
    apply gl_slices_IndexFunc_p_node_0
    unfold nl_slices_IndexFunc_p_node_0
    exact br_F (by simp) (by simp)
  | x :: suf, pre, hl, ho, h => by
    apply gl_slices_IndexFunc_p_node_0
    unfold nl_slices_IndexFunc_p_node_0
    have ih := indexN_loop (f := f) (p := p) suf (pre ++ [x]) (by simpa using hl) (fun u hu => ho u (by simp [hu])) (fun u hu => h u (by simp [hu]))
    simp only [List.append_assoc, List.singleton_append] at ih
    have o := ho x (by simp)
    have hg : (pre ++ x :: suf)[((pre.length : Int)).toNat]? = some x := by simp
    have hw : IntKind.i64.wrap ((pre.length : Int) + 1) = ((pre ++ [x]).length : Int) := by simp at hl ⊢; rw [wrap_i64] <;> omega
    refine br_T (by simp <;> omega) (br_T (by simp) (bd hg (br_T o.fi (bd o.ce (bd (h x (by simp)) (bd rfl ?_))))))
    rw [hw]
    simp only [List.any_cons, List.findIdx_cons]
    cases hp : p x with
    | true => simp
    | false =>
      simp only [br_false', Bool.false_or, cond_false]
      rw [ih]
      simp only [List.length_append, List.length_cons, List.length_nil]
      rw [show pre.length + (0 + 1) + suf.findIdx p = pre.length + (suf.findIdx p + 1) by omega]
theorem indexN_law {f : CVal} {p : CVal → Bool} {xs : List CVal} (hl : xs.length ≤ 4000000) (ho : ∀ x ∈ xs, OneEl x) (h : ∀ x ∈ xs, CC apId [.v f, .v x] [] = some (.bool (p x), [])) :
    CC f_slices_IndexFunc_p_node [.v (.sl xs), .v f] [] = some (.int .i64 (if xs.any p then (xs.findIdx p : Int) else -1), []) := by
  have hloop := indexN_loop xs [] (by simpa using hl) ho h
  simp only [List.nil_append, List.length_nil, Int.cast_ofNat_Int, Nat.zero_add] at hloop
  apply go_slices_IndexFunc_p_node
  unfold nf_slices_IndexFunc_p_node
  refine bd hloop ?_
  split <;> rfl

theorem delete_loop {f : CVal} {p : CVal → Bool} : ∀ (suf junk kept : List CVal) (y : CVal), (kept ++ y :: junk ++ suf).length ≤ 4000000 → (∀ x ∈ suf, OneEl x) → (∀ x ∈ y :: junk, OneEl x) → (∀ x ∈ suf, CC apId [.v f, .v x] [] = some (.bool (p x), [])) →
    ∃ junk', junk'.length = (y :: junk ++ suf).length - (suf.filter fun x => !p x).length ∧ (suf.filter fun x => !p x).length ≤ suf.length ∧
      LL f_slices_DeleteFunc_p_node 0 lc_slices_DeleteFunc_p_node_0 [PSh.arr ⟨true, false, 0⟩ false 1] k_slices_DeleteFunc_p_node_0 (((), f, (kept.length : Int), ((kept ++ y :: junk).length : Int), ()), kept ++ y :: junk ++ suf, ()) =
        some (.out 0 (((), f, ((kept ++ suf.filter fun x => !p x).length : Int), ((kept ++ y :: junk ++ suf).length : Int), ()), (kept ++ suf.filter fun x => !p x) ++ junk', ()))
  | [], junk, kept, y, hl, ho, hj, h => by
    refine ⟨y :: junk, by simp, by simp, ?_⟩
    apply gl_slices_DeleteFunc_p_node_0
    unfold nl_slices_DeleteFunc_p_node_0
    exact br_F (by simp) (by simp)
  | x :: suf, junk, kept, y, hl, ho, hj, h => by
    have o := ho x (by simp)
    have oy := hj y (by simp)
    have hg : (kept ++ y :: junk ++ x :: suf)[(((kept ++ y :: junk).length : Nat) : Int).toNat]? = some x := by
      rw [Int.toNat_natCast, List.getElem?_append_right (Nat.le_refl _)]; simp
    have hgy : (kept ++ y :: junk ++ x :: suf)[((kept.length : Nat) : Int).toNat]? = some y := by
      rw [Int.toNat_natCast, List.append_assoc, List.getElem?_append_right (Nat.le_refl _)]; simp
    have hw : IntKind.i64.wrap (((kept ++ y :: junk).length : Int) + 1) = ((kept ++ y :: junk).length : Int) + 1 := by simp at hl ⊢; rw [wrap_i64] <;> omega
    have hw2 : IntKind.i64.wrap ((kept.length : Int) + 1) = (kept.length : Int) + 1 := by simp at hl ⊢; rw [wrap_i64] <;> omega
    cases hp : p x with
    | true =>
      obtain ⟨junk', h1, h2, ih⟩ := delete_loop (f := f) (p := p) suf (junk ++ [x]) kept y (by simpa using hl) (fun u hu => ho u (by simp [hu])) (fun u hu => by
        simp only [List.mem_cons, List.mem_append, List.not_mem_nil, or_false] at hu
        rcases hu with rfl | hu | rfl
        · exact oy
        · exact hj u (by simp [hu])
        · exact o) (fun u hu => h u (by simp [hu]))
      have e1 : kept ++ y :: (junk ++ [x]) ++ suf = kept ++ y :: junk ++ x :: suf := by simp
      have e2 : (x :: suf).filter (fun x => !p x) = suf.filter fun x => !p x := by simp [hp]
      rw [e1] at ih
      rw [e2]
      refine ⟨junk', by rw [h1]; simp <;> omega, by simp <;> omega, ?_⟩
      apply gl_slices_DeleteFunc_p_node_0
      unfold nl_slices_DeleteFunc_p_node_0
      refine br_T (by simp <;> omega) (br_T (by simp <;> omega) (br_T (by simp <;> omega) (bd hg (bd o.ce (br_T o.pt (bd (h x (by simp)) (bd rfl ?_)))))))
      rw [hp, hw]
      refine br_F rfl ?_
      rw [← ih]
      have e3 : ((kept ++ y :: (junk ++ [x])).length : Int) = ((kept ++ y :: junk).length : Int) + 1 := by simp; omega
      rw [e3]
    | false =>
      have hset : (kept ++ y :: junk ++ x :: suf).set kept.length x = kept ++ x :: junk ++ x :: suf := by simp
      have e2 : (x :: suf).filter (fun x => !p x) = x :: suf.filter fun x => !p x := by simp [hp]
      have e4 : kept ++ x :: suf.filter (fun x => !p x) = (kept ++ [x]) ++ suf.filter fun x => !p x := by simp
      rw [e2, e4]
      -- what is left behind
      obtain ⟨z, rest, hz, hzo⟩ : ∃ z rest, junk ++ [x] = z :: rest ∧ ∀ u ∈ z :: rest, OneEl u := by
        cases junk with
        | nil => exact ⟨x, [], rfl, fun u hu => by simp at hu; subst hu; exact o⟩
        | cons z r => exact ⟨z, r ++ [x], rfl, fun u hu => by
            simp only [List.mem_cons, List.mem_append, List.not_mem_nil, or_false] at hu
            rcases hu with rfl | hu | rfl
            · exact hj u (by simp)
            · exact hj u (by simp [hu])
            · exact o⟩
      have hzl : rest.length = junk.length := by have := congrArg List.length hz; simp at this; omega
      obtain ⟨junk', h1, h2, ih⟩ := delete_loop (f := f) (p := p) suf rest (kept ++ [x]) z (by simp at hl ⊢; omega) (fun u hu => ho u (by simp [hu])) hzo (fun u hu => h u (by simp [hu]))
      refine ⟨junk', by rw [h1]; simp <;> omega, by simp <;> omega, ?_⟩
      apply gl_slices_DeleteFunc_p_node_0
      unfold nl_slices_DeleteFunc_p_node_0
      refine br_T (by simp <;> omega) (br_T (by simp <;> omega) (br_T (by simp <;> omega) (bd hg (bd o.ce (br_T o.pt (bd (h x (by simp)) (bd rfl ?_)))))))
      rw [hp, hw, hw2]
      refine br_T rfl (br_T (by simp <;> omega) (br_T (by simp <;> omega) (br_T (by simp [o.fl]) (br_T o.pt (bd hgy (br_T o.fi (br_T oy.fi ?_)))))))
      have e5 : kept ++ [x] ++ z :: rest ++ suf = kept ++ x :: junk ++ x :: suf := by rw [← hz]; simp
      have e6 : ((kept ++ [x] ++ z :: rest).length : Int) = ((kept ++ y :: junk).length : Int) + 1 := by simp; omega
      have e7 : ((kept ++ [x]).length : Int) = (kept.length : Int) + 1 := by simp
      have e8 : ((kept ++ [x] ++ z :: rest ++ suf).length : Int) = ((kept ++ y :: junk ++ x :: suf).length : Int) := by rw [e5]; simp
      rw [e8, e6, e7, e5] at ih
      rw [Int.toNat_natCast, hset]
      exact ih
theorem filter_first {p : CVal → Bool} : ∀ xs : List CVal, xs.any p = true → ∃ x r, xs = xs.take (xs.findIdx p) ++ x :: r ∧ p x = true ∧ (∀ y ∈ xs.take (xs.findIdx p), p y = false)
  | [], h => by simp at h
  | x :: xs, h => by
    cases hp : p x with
    | true => exact ⟨x, xs, by simp [List.findIdx_cons, hp], hp, by simp [List.findIdx_cons, hp]⟩
    | false =>
      obtain ⟨y, r, h1, h2, h3⟩ := filter_first (p := p) xs (by simpa [hp] using h)
      refine ⟨y, r, ?_, h2, ?_⟩
      · simp only [List.findIdx_cons, hp, cond_false, List.take_succ_cons, List.cons_append]
        rw [← h1]
      · simp only [List.findIdx_cons, hp, cond_false, List.take_succ_cons]
        intro u hu
        rcases List.mem_cons.1 hu with rfl | hu
        · exact hp
        · exact h3 u hu
theorem delete_law {f : CVal} {p : CVal → Bool} {xs : List CVal} (hl : xs.length ≤ 4000000) (ho : ∀ x ∈ xs, OneEl x) (h : ∀ x ∈ xs, CC apId [.v f, .v x] [] = some (.bool (p x), [])) :
    CC f_slices_DeleteFunc_p_node [.lref 0 0, .v f] [PB.arr ⟨true, false, 0⟩ false 1 xs] = some (.nilp, [xs.filter fun x => !p x]) := by
  have hi := indexN_law hl ho h
  apply go_slices_DeleteFunc_p_node
  unfold nf_slices_DeleteFunc_p_node
  refine bd hi (br_F rfl (bd rfl ?_))
  by_cases ha : xs.any p = true
  · obtain ⟨x, r, hx, hpx, hno⟩ := filter_first xs ha
    rw [if_pos ha]
    generalize hk : xs.take (xs.findIdx p) = kept at hx hno
    have hkl : xs.findIdx p = kept.length := by
      have h1 : xs.findIdx p ≤ xs.length := List.findIdx_le_length
      rw [← hk, List.length_take]; omega
    rw [hkl]
    subst hx
    have hf : (kept ++ x :: r).filter (fun x => !p x) = kept ++ r.filter fun x => !p x := by
      rw [List.filter_append, List.filter_eq_self.2 (fun y hy => by simp [hno y hy])]
      simp [hpx]
    obtain ⟨junk', h1, h2, hloop⟩ := delete_loop (f := f) (p := p) r [] kept x (by simpa using hl) (fun u hu => ho u (by simp [hu])) (fun u hu => ho u (by simp at hu; subst hu; simp)) (fun u hu => h u (by simp [hu]))
    have e1 : kept ++ [x] ++ r = kept ++ x :: r := by simp
    have hw : IntKind.i64.wrap ((kept.length : Int) + 1) = ((kept ++ [x]).length : Int) := by simp at hl ⊢; rw [wrap_i64] <;> omega
    rw [e1] at hloop
    refine br_F (by simp <;> omega) (bd rfl (bd rfl ?_))
    rw [hw]
    refine bd hloop (lo_out (br_T rfl ?_))
    rw [hf]
    show br (decide (0 ≤ ((kept ++ r.filter fun x => !p x).length : Int)) && decide (((kept ++ r.filter fun x => !p x).length : Int) ≤ (((kept ++ r.filter fun x => !p x) ++ junk').length : Int)) && true) _ _ = _
    refine br_T (by simp <;> omega) ?_
    refine br_T (by simp <;> omega) ?_
    have hle3 : ∀ (A J : Nat), (decide (0 ≤ (A : Int)) && decide ((A : Int) ≤ ((min A (A + J) + (A + J - A) : Nat) : Int)) && true) = true := fun A J => by simp; omega
    refine br_T (by
      dsimp only
      simp only [List.length_append, List.length_take, List.length_replicate, Int.toNat_natCast]
      exact hle3 _ _) ?_
    have e9 : (((kept ++ r.filter fun x => !p x).length : Int)).toNat = (kept ++ r.filter fun x => !p x).length := Int.toNat_natCast _
    simp only [e9, List.take_left]
  · rw [if_neg ha]
    refine br_T rfl ?_
    have : xs.filter (fun x => !p x) = xs := List.filter_eq_self.2 fun y hy => by
      have : xs.any p = false := by simpa using ha
      rw [List.any_eq_false] at this
      simpa using this y hy
    rw [this]

def fnT (t : Term) : Bool := t.k == 4
/-- Whether a node is one of a function. -/
def fnC : CVal → Bool
  | .fp (.agg (.int _ k :: _)) _ => k == 4
  | _ => false
theorem fnC_node (t : Term) (i : Int) : fnC (nodeC t i) = fnT t := by rw [nodeC_def]; rfl
theorem node_one (t : Term) (i : Int) : OneEl (nodeC t i) := by rw [nodeC_def]; exact ⟨rfl, rfl, rfl, rfl⟩
theorem NodesFor.mem : ∀ {l : List Term} {i : Int} {c : List CVal}, NodesFor l i c → ∀ x ∈ c, ∃ u j, u ∈ l ∧ x = nodeC u j
  | [], i, c, h, x, hx => by cases h; cases hx
  | v :: l, i, c, ⟨r, h, h1⟩, x, hx => by
    subst h
    rcases List.mem_cons.1 hx with rfl | hx
    · exact ⟨v, i, by simp, rfl⟩
    · obtain ⟨u, j, h2, h3⟩ := h1.mem x hx
      exact ⟨u, j, by simp [h2], h3⟩
theorem NodesFor.fns : ∀ {l : List Term} {i : Int} {c : List CVal}, NodesFor l i c → (c.filter fnC).length = (l.filter fnT).length ∧ ∀ (n : Nat) (u : Term), (l.filter fnT)[n]? = some u → ∃ j, (c.filter fnC)[n]? = some (nodeC u j)
  | [], i, c, h => by cases h; exact ⟨rfl, fun n u h => by simp at h⟩
  | v :: l, i, c, ⟨r, h, h1⟩ => by
    subst h
    obtain ⟨h2, h3⟩ := h1.fns
    cases hv : fnT v with
    | true =>
      have e1 : (nodeC v i :: r).filter fnC = nodeC v i :: r.filter fnC := by simp [fnC_node, hv]
      have e2 : (v :: l).filter fnT = v :: l.filter fnT := by simp [hv]
      rw [e1, e2]
      refine ⟨by simp [h2], fun n u hn => ?_⟩
      cases n with
      | zero => simp at hn; subst hn; exact ⟨i, rfl⟩
      | succ n =>
        obtain ⟨j, hj⟩ := h3 n u (by simpa using hn)
        exact ⟨j, by simpa using hj⟩
    | false =>
      have e1 : (nodeC v i :: r).filter fnC = r.filter fnC := by simp [fnC_node, hv]
      have e2 : (v :: l).filter fnT = l.filter fnT := by simp [hv]
      rw [e1, e2]
      exact ⟨h2, h3⟩

/-- The functions within a term. -/
noncomputable def Term.fns (t : Term) : List Term := if t.right then t.pre.filter fnT else []
theorem Term.fns_ok {t : Term} (hok : t.ok) : ∀ u ∈ t.fns, u.ok := by
  intro u hu
  unfold Term.fns at hu
  split at hu
  · exact Term.pre_ok t hok u (List.mem_filter.1 hu).1
  · cases hu
theorem Term.fns_len {t : Term} (hok : t.ok) : t.fns.length ≤ 4000000 := by
  have := hok.nodes
  unfold Term.fns
  split
  · have h1 := List.length_filter_le fnT t.pre
    rw [Term.pre_len] at h1; omega
  · simp

theorem isFn_law (t : Term) (i : Int) : CC apId [.v (.func f_i_lambdas_1 []), .v (nodeC t i)] [] = some (.bool (!fnT t), []) := by
  refine apC (g := f_i_lambdas_1) (caps := []) (cs := [nodeC t i]) (by decide) rfl rfl rfl ?_
  apply go_i_lambdas_1
  unfold nf_i_lambdas_1
  rw [nodeC_def]
  refine bd rfl (bd rfl (bd rfl ?_))
  rfl
theorem lambdas_i {t : Term} (hok : t.ok) : ∃ cs, CC f_i_lambdas [.v t.enc] [] = some (.sl cs, []) ∧ cs.length = t.fns.length ∧ ∀ (n : Nat) (u : Term), t.fns[n]? = some u → ∃ j, (cs[n]? : Option CVal) = some (nodeC u j) := by
  have h := allNodes_law hok
  have hn := hok.nodes
  rw [Term.enc_def] at h ⊢
  unfold Term.fns
  by_cases hr : t.right
  · rw [if_pos hr] at h
    simp only [if_pos hr]
    have hf := flat_for t 0
    have hd := delete_law (f := .func f_i_lambdas_1 []) (p := fun x => !fnC x) (xs := allC t 0) (by rw [hf.len, Term.pre_len]; omega)
      (fun x hx => by obtain ⟨u, j, _, rfl⟩ := hf.mem x hx; exact node_one u j) (fun x hx => by obtain ⟨u, j, _, rfl⟩ := hf.mem x hx; rw [isFn_law, fnC_node])
    simp only [Bool.not_not] at hd
    obtain ⟨h2, h3⟩ := hf.fns
    refine ⟨(allC t 0).filter fnC, ?_, h2, h3⟩
    apply go_i_lambdas
    unfold nf_i_lambdas
    exact bd h (br_T rfl (bd rfl (bd hd (bd rfl rfl))))
  · rw [if_neg hr] at h
    simp only [if_neg hr]
    have hd := delete_law (f := .func f_i_lambdas_1 []) (p := fun x => !fnC x) (xs := []) (by simp) (by simp) (by simp)
    refine ⟨[], ?_, rfl, fun n u h => by simp at h⟩
    apply go_i_lambdas
    unfold nf_i_lambdas
    exact bd h (br_T rfl (bd rfl (bd hd (bd rfl rfl))))
theorem fns_loop : ∀ (suf pre acc : List Term), (pre ++ suf).length ≤ 4000000 → (acc ++ suf).length ≤ 4000000 →
    LL f_s_l6Lambdas 0 lc_s_l6Lambdas_0 [] k_s_l6Lambdas_0 (((), (), (pre.length : Int), ()), acc.map Term.enc, (pre ++ suf).map Term.enc, ()) =
      some (.out 0 (((), (), ((pre ++ suf).length : Int), ()), (acc ++ suf.filter fnT).map Term.enc, (pre ++ suf).map Term.enc, ()))
  | [], pre, acc, hl, ha => by
    apply gl_s_l6Lambdas_0
    unfold nl_s_l6Lambdas_0
    exact br_F (by simp) (by simp)
  | t :: suf, pre, acc, hl, ha => by
    apply gl_s_l6Lambdas_0
    unfold nl_s_l6Lambdas_0
    have hg : ((pre ++ t :: suf).map Term.enc)[((pre.length : Int)).toNat]? = some t.enc := by simp
    have hw : IntKind.i64.wrap ((pre.length : Int) + 1) = ((pre ++ [t]).length : Int) := by simp at hl ⊢; rw [wrap_i64] <;> omega
    have ef : fnT t = decide (t.k = 4) := by unfold fnT; by_cases h : t.k = 4 <;> simp [h]
    refine br_T (by simp <;> omega) (br_T (by simp) (br_T (by simp) (bd hg (bd (Term.enc_cell0 t) (bd asInt_int ?_)))))
    rw [hw]
    by_cases hk : t.k = 4
    · have ih := fns_loop suf (pre ++ [t]) (acc ++ [t]) (by simpa using hl) (by simpa using ha)
      have e1 : (t :: suf).filter fnT = t :: suf.filter fnT := by simp [ef, hk]
      rw [e1]
      simp only [List.append_assoc, List.singleton_append] at ih
      have hfits : ([t.enc].all (CVal.fits true 9)) = true := by simp [Term.enc_fits]
      refine br_T (by simp [hk]) (br_T (by simp) (br_T (by simp) (bd hg (bd (Term.enc_sub t) (br_T hfits (br_T hfits (br_T (by simp at ha ⊢; omega) ?_)))))))
      have e2 : acc.map Term.enc ++ [t.enc] = (acc ++ [t]).map Term.enc := by simp
      rw [e2]
      exact ih
    · have ih := fns_loop suf (pre ++ [t]) acc (by simpa using hl) (by simp at ha ⊢; omega)
      have e1 : (t :: suf).filter fnT = suf.filter fnT := by simp [ef, hk]
      rw [e1]
      simp only [List.append_assoc, List.singleton_append] at ih
      refine br_F (by simp [hk]) ?_
      exact ih
theorem l6Lambdas_law {t : Term} (hok : t.ok) : CC f_s_l6Lambdas [.v t.enc] [] = some (.sl (t.fns.map Term.enc), []) := by
  have h := TermOk_s hok
  have hn := hok.nodes
  have h2 := l6All_law t hok [] (by simp <;> omega)
  rw [Term.enc_def] at h h2 ⊢
  apply go_s_l6Lambdas
  unfold nf_s_l6Lambdas
  unfold Term.fns
  refine bd h (bd rfl ?_)
  by_cases hr : t.right
  · rw [if_pos hr]
    have hloop := fns_loop t.pre [] [] (by rw [List.nil_append, Term.pre_len]; omega) (by rw [List.nil_append, Term.pre_len]; omega)
    simp only [List.nil_append, List.length_nil, Int.cast_ofNat_Int, List.map_nil] at hloop
    exact br_F (by simp [hr]) (bd h2 (bd rfl (bd hloop (lo_out (br_T rfl rfl)))))
  · rw [if_neg hr]
    exact br_T (by simp [hr]) rfl
theorem Lambdas_s {t : Term} (hok : t.ok) : CC f_s_Lambdas [.v t.enc] [] = some (.int .i64 (t.fns.length : Int), []) := by
  have h := l6Lambdas_law hok
  rw [Term.enc_def] at h ⊢
  apply go_s_Lambdas
  unfold nf_s_Lambdas
  refine bd h (bd rfl ?_)
  rw [List.length_map]
theorem Lambdas_i {t : Term} (hok : t.ok) : CC f_i_Lambdas [.v t.enc] [] = some (.int .i64 (t.fns.length : Int), []) := by
  obtain ⟨cs, h, hl, _⟩ := lambdas_i hok
  rw [Term.enc_def] at h ⊢
  apply go_i_Lambdas
  unfold nf_i_Lambdas
  refine bd h (bd rfl ?_)
  rw [hl]
theorem LambdaAt_s {t : Term} (hok : t.ok) {n : Int} (hn : i64 n) : CC f_s_LambdaAt [.v t.enc, .v (.int .i64 n)] [] = some (outN (if 0 ≤ n then t.fns[n.toNat]? else none), []) := by
  have h := l6Lambdas_law hok
  have hl := Term.fns_len hok
  rw [Term.enc_def] at h ⊢
  apply go_s_LambdaAt
  unfold nf_s_LambdaAt
  refine bd h (bd rfl ?_)
  have hw : IntKind.i64.wrap (((t.fns.map Term.enc).length : Int) - 1) = (t.fns.length : Int) - 1 := by rw [List.length_map, wrap_i64] <;> omega
  rw [hw]
  refine bd (l1In_law _ _ _) (bd rfl ?_)
  by_cases hin : 0 ≤ n ∧ n ≤ (t.fns.length : Int) - 1
  · have hlt : n.toNat < t.fns.length := by omega
    obtain ⟨u, hu⟩ : ∃ u, t.fns[n.toNat]? = some u := ⟨_, List.getElem?_eq_getElem hlt⟩
    have huo := Term.fns_ok hok u (List.mem_of_getElem? hu)
    have hg : (t.fns.map Term.enc)[n.toNat]? = some u.enc := by rw [List.getElem?_map, hu]; rfl
    have hc := l2Copy_law u huo
    rw [if_pos hin.1, hu]
    refine br_F (by simp [hin]) (br_T (by simp [hin.1]) (bd rfl (bd hg (br_T (Term.enc_fits u) ?_))))
    refine bd (Term.enc_sub u) (bd hc (br_T (Term.enc_isAggN u) (bd (Term.enc_cell0 u) (bd (Term.enc_cell1 u) (bd (Term.enc_cell2 u) (bd (Term.enc_cell3 u) (bd (Term.enc_cell4 u) (bd (Term.enc_cell5 u) (bd (Term.enc_cell6 u) (bd (Term.enc_cell7 u) (bd (Term.enc_cell8 u) (bd rfl (bd rfl (bd rfl (bd asInt_int (bd asInt_int (bd rfl (bd rfl (bd asInt_int (bd asInt_int ?_))))))))))))))))))))
    rw [← Term.enc_def u]
    rfl
  · have hX : (if 0 ≤ n then t.fns[n.toNat]? else none) = none := by
      split
      · next h9 => exact List.getElem?_eq_none (by omega)
      · rfl
    rw [hX]
    exact br_T (by simp <;> omega) rfl
theorem LambdaAt_i {t : Term} (hok : t.ok) {n : Int} (hn : i64 n) : CC f_i_LambdaAt [.v t.enc, .v (.int .i64 n)] [] = some (outN (if 0 ≤ n then t.fns[n.toNat]? else none), []) := by
  obtain ⟨cs, h, hcl, hcs⟩ := lambdas_i hok
  have hl := Term.fns_len hok
  rw [Term.enc_def] at h ⊢
  apply go_i_LambdaAt
  unfold nf_i_LambdaAt
  refine bd h (bd rfl ?_)
  have hw : IntKind.i64.wrap ((cs.length : Int) - 1) = (t.fns.length : Int) - 1 := by rw [hcl, wrap_i64] <;> omega
  rw [hw]
  refine bd (in_law _ _ _) (bd rfl ?_)
  by_cases hin : 0 ≤ n ∧ n ≤ (t.fns.length : Int) - 1
  · have hlt : n.toNat < t.fns.length := by omega
    obtain ⟨u, hu⟩ : ∃ u, t.fns[n.toNat]? = some u := ⟨_, List.getElem?_eq_getElem hlt⟩
    have huo := Term.fns_ok hok u (List.mem_of_getElem? hu)
    obtain ⟨j, hg⟩ := hcs n.toNat u hu
    have hc := cloneTerm_law u huo
    have o := node_one u j
    have hfp : (nodeC u j).asFp = some (.agg [.int .i64 u.k, .int .i64 u.n, .str u.s, .str u.z, .int .i64 u.t.k, .int .i64 u.t.n, .sl (u.t.a.map Ty.enc), .sl (u.ts.map Ty.enc), .sl (u.a.map Term.enc), .int .i64 j, .sl (kidsC u.a (j + 1))], 0) := by rw [nodeC_def]; rfl
    rw [if_pos hin.1, hu]
    refine br_F (by simp [hin]) (br_T (by simp [hin.1]) (bd rfl (bd hg (br_T o.fi (bd o.ce (bd hfp (bd (a := u.enc) (by rw [Term.enc_def]; rfl) (bd hc ?_))))))))
    refine br_T (Term.enc_isAggN u) (bd (Term.enc_cell0 u) (bd (Term.enc_cell1 u) (bd (Term.enc_cell2 u) (bd (Term.enc_cell3 u) (bd (Term.enc_cell4 u) (bd (Term.enc_cell5 u) (bd (Term.enc_cell6 u) (bd (Term.enc_cell7 u) (bd (Term.enc_cell8 u) (bd rfl (bd rfl (bd rfl (bd asInt_int (bd asInt_int (bd rfl (bd rfl (bd asInt_int (bd asInt_int ?_))))))))))))))))))
    rw [← Term.enc_def u]
    rfl
  · have hX : (if 0 ≤ n then t.fns[n.toNat]? else none) = none := by
      split
      · next h9 => exact List.getElem?_eq_none (by omega)
      · rfl
    rw [hX]
    exact br_T (by simp <;> omega) rfl
end Go.Proofs.Ythnjnnnobipnfaa.Abs

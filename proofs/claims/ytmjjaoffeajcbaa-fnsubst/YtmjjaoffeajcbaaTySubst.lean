/- Types put for variables. -/
import Derived.Test.YtmjjaoffeajcbaaTyOwn
import Derived.Test.YtmjjaoffeajcbaaTyMore
set_option linter.unusedVariables false
set_option linter.unusedSimpArgs false
set_option maxRecDepth 100000
namespace Go.Proofs.Ytmjjaoffeajcbaa.Abs
open Go Go.Proofs
open Classical

namespace Ty
/-- A type with others for its variables. -/
def put (ts : List Ty) : Ty → Ty
  | .mk k n a => if k = 3 then (ts[n.toNat]?).getD (.mk 0 0 []) else .mk k n (a.map (put ts))
theorem put_def (ts : List Ty) (t : Ty) : t.put ts = if t.k = 3 then (ts[t.n.toNat]?).getD (.mk 0 0 []) else .mk t.k t.n (t.a.map (put ts)) := by
  cases t; rw [put]; rfl
/-- All its variables are there. -/
def cov (m : Nat) : Ty → Prop
  | .mk k n a => (k = 3 → 0 ≤ n ∧ n < m) ∧ ∀ t ∈ a, t.cov m
theorem cov_def (m : Nat) (t : Ty) : t.cov m ↔ (t.k = 3 → 0 ≤ t.n ∧ t.n < m) ∧ ∀ u ∈ t.a, u.cov m := by cases t; rw [cov]; rfl
theorem varsL_mem {l : List Ty} : ∀ {m : Int} {t : Ty}, t ∈ l → t.vars ≤ varsL m l := by
  induction l with
  | nil => intro m t h; simp at h
  | cons u l ih =>
    intro m t h
    rw [varsL_cons]
    rcases List.mem_cons.1 h with h | h
    · subst h
      have := varsL_ge (l := l) (m := max m t.vars)
      omega
    · exact ih h
theorem cov_of (m : Nat) : ∀ t : Ty, t.good → t.vars ≤ m → t.cov m := ind fun t ih hg hv => by
  obtain ⟨hh, hp⟩ := (good_def t).1 hg
  rw [vars_def] at hv
  refine (cov_def m t).2 ⟨fun h3 => ?_, fun u hu => ih u hu (hp u hu) (Int.le_trans (varsL_mem hu) hv)⟩
  have h1 := varsL_ge (l := t.a) (m := if t.k = 3 then IntKind.i64.wrap (t.n + 1) else 0)
  rw [if_pos h3] at h1 hv
  have : t.n = 0 ∨ t.n = 1 := by rcases hh.2 with h | h; exact .inl h; exact .inr h.2
  have hw : IntKind.i64.wrap (t.n + 1) = t.n + 1 := by rw [wrap_i64] <;> omega
  rw [hw] at h1 hv
  omega
/-! Sizes. -/
theorem put_nodes (ts : List Ty) (h : ∀ u ∈ ts, u.nodes ≤ 60) : ∀ t : Ty, (t.put ts).nodes ≤ 60 * t.nodes := ind fun t ih => by
  have e : ∀ l : List Ty, (∀ u ∈ l, (u.put ts).nodes ≤ 60 * u.nodes) → nodesL (l.map (put ts)) ≤ 60 * nodesL l := by
    intro l
    induction l with
    | nil => intro _; simp
    | cons u l ih => 
      intro h
      have h1 := h u (by simp)
      have h2 := ih fun v hv => h v (by simp [hv])
      simp only [List.map_cons, nodesL_cons]; omega
  rw [put_def]
  have := nodes_def t
  split
  · cases hh : ts[t.n.toNat]? with
    | none => simp [nodes_def]; omega
    | some u =>
      have := h u (List.mem_of_getElem? hh)
      simp only [Option.getD_some]; omega
  · rw [nodes_def]
    have := e t.a ih
    simp only [a_mk]; omega
theorem put_wt (ts : List Ty) (h : ∀ u ∈ ts, u.wt) : ∀ t : Ty, t.wt → (t.put ts).wt := ind fun t ih hw => by
  obtain ⟨h1, h2, h3, h4⟩ := (wt_def t).1 hw
  rw [put_def]
  split
  · cases hh : ts[t.n.toNat]? with
    | none => rw [wt_def]; simp [i64]
    | some u => exact h u (List.mem_of_getElem? hh)
  · rw [wt_def]
    refine ⟨h1, h2, by simpa using h3, ?_⟩
    intro u hu
    simp only [a_mk, List.mem_map] at hu
    obtain ⟨v, hv, rfl⟩ := hu
    exact ih v hv (h4 v hv)
theorem put_ok {ts : List Ty} (h : ∀ u ∈ ts, u.ok) (hr : ∀ u ∈ ts, u.nodes ≤ 60) {t : Ty} (ht : t.ok) (hn : t.nodes ≤ 60) : (t.put ts).ok := by
  refine ⟨put_wt ts (fun u hu => (h u hu).1) t ht.1, ?_⟩
  have := put_nodes ts hr t
  unfold nodes at this hn
  omega
end Ty

theorem subst_loop (ts : List Ty) (p q u v : Int) : ∀ (suf pre : List Ty), (pre ++ suf).length ≤ 1048576 → (∀ t ∈ suf, CC f_i_subst [.v t.enc, .v (.sl (ts.map Ty.enc))] [] = some ((t.put ts).enc, [])) →
    LL f_i_subst 0 lc_i_subst_0 [] k_i_subst_0 ((ts.map Ty.enc, (), (), (pre ++ suf).map Ty.enc, ((pre ++ suf).length : Int), (pre.length : Int), ()), (p, q, (), ()), [], (u, v, (), ()), (pre.map (Ty.put ts)).map Ty.enc, ()) =
      some (.out 0 ((ts.map Ty.enc, (), (), (pre ++ suf).map Ty.enc, ((pre ++ suf).length : Int), ((pre ++ suf).length : Int), ()), (p, q, (), ()), [], (u, v, (), ()), ((pre ++ suf).map (Ty.put ts)).map Ty.enc, ()))
  | [], pre, hl, h => by
    apply gl_i_subst_0
    unfold nl_i_subst_0
    simp
  | t :: suf, pre, hl, h => by
    apply gl_i_subst_0
    unfold nl_i_subst_0
    have ih := subst_loop ts p q u v suf (pre ++ [t]) (by simpa using hl) (fun w hw => h w (by simp [hw]))
    simp only [List.append_assoc, List.singleton_append] at ih
    have e2 : decide (((pre.map (Ty.put ts)).map Ty.enc).length + 1 ≤ 4294967296) = true := by
      simp at hl ⊢; omega
    have e3 : (pre.map (Ty.put ts)).map Ty.enc ++ [(t.put ts).enc] = ((pre ++ [t]).map (Ty.put ts)).map Ty.enc := by simp
    rw [lt_mid', nn_mid, get_mid, wrap_mid pre suf t hl]
    simp only [br_true', Option.bind_some, Ty.enc_fits, Ty.enc_sub, Ty.enc_isAggN, Ty.enc_cell0, Ty.enc_cell1, Ty.enc_cell2, Ty.enc_eta, h t (by simp), Bool.and_true, asSl_sl, asInt_int, e2, e3, all1_enc]
    exact ih
theorem getTs {ts : List Ty} {n : Int} {m : Nat} (hm : m = ts.length) (h : 0 ≤ n ∧ n < m) : ∃ u, ts[n.toNat]? = some u ∧ (ts.map Ty.enc)[n.toNat]? = some u.enc ∧ u ∈ ts := by
  have hlt : n.toNat < ts.length := by omega
  refine ⟨ts[n.toNat], by simp [hlt], by simp [hlt], List.getElem_mem hlt⟩
theorem subst_law {ts : List Ty} (hts : ∀ u ∈ ts, u.ok) : ∀ t : Ty, t.ok → t.cov ts.length → CC f_i_subst [.v t.enc, .v (.sl (ts.map Ty.enc))] [] = some ((t.put ts).enc, []) := Ty.ind fun t ih hok hc => by
  obtain ⟨hc1, hc2⟩ := (Ty.cov_def _ t).1 hc
  have hloop := subst_loop ts 0 0 t.k t.n t.a [] (by simpa using hok.len) fun u hu => ih u hu (hok.part hu) (hc2 u hu)
  simp only [List.nil_append, List.length_nil, List.map_nil, Int.cast_ofNat_Int] at hloop
  rw [Ty.enc_def]
  apply go_i_subst
  unfold nf_i_subst
  rw [Ty.put_def]
  by_cases h3 : t.k = 3
  · obtain ⟨u, hu1, hu2, hu3⟩ := getTs rfl (hc1 h3)
    rw [if_pos h3]
    have h0 := (hc1 h3).1
    simp only [h3, decide_true, br_true', h0, Bool.and_true, hu1, hu2, Option.bind_some, Option.getD_some, Ty.enc_fits, Ty.enc_sub, cloneTy_law u (hts u hu3), Ty.enc_isAggN, Ty.enc_cell0, Ty.enc_cell1, Ty.enc_cell2, asSl_sl, asInt_int, Ty.enc_eta]
  · rw [if_neg h3]
    simp only [h3, decide_false, br_false', List.length_map, hloop, Option.bind_some, loK_out, br_true', beq_self_eq_true]
    rw [Ty.enc_def]
    simp

theorem l1Put_loop (ts : List Ty) (k n p q u v : Int) : ∀ (suf pre : List Ty), (pre ++ suf).length ≤ 1048576 → (∀ t ∈ suf, CC f_s_l1Put [.v t.enc, .v (.sl (ts.map Ty.enc))] [] = some ((t.put ts).enc, [])) →
    LL f_s_l1Put 0 lc_s_l1Put_0 [] k_s_l1Put_0 ((ts.map Ty.enc, (), (), (), (pre.length : Int), ()), (k, n, (pre ++ suf).map Ty.enc, ()), (p, q, (), ()), [], (u, v, (), ()), (pre.map (Ty.put ts)).map Ty.enc, ()) =
      some (.out 0 ((ts.map Ty.enc, (), (), (), ((pre ++ suf).length : Int), ()), (k, n, (pre ++ suf).map Ty.enc, ()), (p, q, (), ()), [], (u, v, (), ()), ((pre ++ suf).map (Ty.put ts)).map Ty.enc, ()))
  | [], pre, hl, h => by
    apply gl_s_l1Put_0
    unfold nl_s_l1Put_0
    rw [lt_end]
    simp
  | t :: suf, pre, hl, h => by
    apply gl_s_l1Put_0
    unfold nl_s_l1Put_0
    have ih := l1Put_loop ts k n p q u v suf (pre ++ [t]) (by simpa using hl) (fun w hw => h w (by simp [hw]))
    simp only [List.append_assoc, List.singleton_append] at ih
    have e2 : decide (((pre.map (Ty.put ts)).map Ty.enc).length + 1 ≤ 4294967296) = true := by
      simp at hl ⊢; omega
    have e3 : (pre.map (Ty.put ts)).map Ty.enc ++ [(t.put ts).enc] = ((pre ++ [t]).map (Ty.put ts)).map Ty.enc := by simp
    rw [lt_mid, nn_mid, get_mid, wrap_mid pre suf t hl]
    simp only [br_true', Option.bind_some, Ty.enc_fits, Ty.enc_sub, Ty.enc_isAggN, Ty.enc_cell0, Ty.enc_cell1, Ty.enc_cell2, Ty.enc_eta, h t (by simp), Bool.and_true, asSl_sl, asInt_int, e2, e3, all1_enc]
    exact ih
theorem l1Put_law {ts : List Ty} (hts : ∀ u ∈ ts, u.ok) : ∀ t : Ty, t.ok → t.cov ts.length → CC f_s_l1Put [.v t.enc, .v (.sl (ts.map Ty.enc))] [] = some ((t.put ts).enc, []) := Ty.ind fun t ih hok hc => by
  obtain ⟨hc1, hc2⟩ := (Ty.cov_def _ t).1 hc
  have hloop := l1Put_loop ts t.k t.n 0 0 t.k t.n t.a [] (by simpa using hok.len) fun u hu => ih u hu (hok.part hu) (hc2 u hu)
  simp only [List.nil_append, List.length_nil, List.map_nil, Int.cast_ofNat_Int] at hloop
  rw [Ty.enc_def]
  apply go_s_l1Put
  unfold nf_s_l1Put
  rw [Ty.put_def]
  by_cases h3 : t.k = 3
  · obtain ⟨u, hu1, hu2, hu3⟩ := getTs rfl (hc1 h3)
    rw [if_pos h3]
    have h0 := (hc1 h3).1
    have h9 : t.n < ((ts.map Ty.enc).length : Int) := by simpa using (hc1 h3).2
    simp only [h3, decide_true, br_true', h0, h9, Bool.and_true, hu1, hu2, Option.bind_some, Option.getD_some, Ty.enc_fits, Ty.enc_sub, l1Copy_law u (hts u hu3), Ty.enc_isAggN, Ty.enc_cell0, Ty.enc_cell1, Ty.enc_cell2, asSl_sl, asInt_int, Ty.enc_eta]
  · rw [if_neg h3]
    simp only [h3, decide_false, br_false', hloop, Option.bind_some, loK_out, br_true', beq_self_eq_true]
    rw [Ty.enc_def]
    simp

/-! What SubstTy answers. -/
def SubstTyOk (t : Ty) (ts : List Ty) : Prop := (t.right ∧ (∀ u ∈ ts, u.right) ∧ t.vars ≤ ts.length) ∧ (t.put ts).right
theorem SubstTy_i {t : Ty} {ts : List Ty} (hok : t.ok) (hl : ts.length ≤ 1048576) (hts : ∀ u ∈ ts, u.ok) :
    CC f_i_SubstTy [.v t.enc, .v (.sl (ts.map Ty.enc))] [] = some (if SubstTyOk t ts then .tup [(t.put ts).enc, .bool true] else .tup [(Ty.mk 0 0 []).enc, .bool false], []) := by
  have h1 := TyOk_i hok
  have h2 := VarsOf_i hok
  have h3 := containsTy_law (c := .func f_i_SubstTy_1 []) (p := fun u => !decide u.right) hl fun u hu => by
    refine apC (cs := [u.enc]) (by decide) rfl rfl rfl ?_
    have := TyOk_i (hts u hu)
    show CC f_i_SubstTy_1 [.v u.enc] [] = _
    rw [Ty.enc_def] at this ⊢
    apply go_i_SubstTy_1
    unfold nf_i_SubstTy_1
    simp only [this, Option.bind_some, asBool_bool]
  have ez : (Ty.mk 0 0 []).enc = .agg [.int .i64 0, .int .i64 0, .sl []] := by rw [Ty.enc_def]; rfl
  have main : (t.right ∧ (∀ u ∈ ts, u.right) ∧ t.vars ≤ ts.length) → CC f_i_subst [.v t.enc, .v (.sl (ts.map Ty.enc))] [] = some ((t.put ts).enc, []) ∧ CC f_i_TyOk [.v (t.put ts).enc] [] = some (.bool (decide (t.put ts).right), []) := fun hr =>
    ⟨subst_law hts t hok (Ty.cov_of _ t hr.1.1 hr.2.2), TyOk_i (Ty.put_ok hts (fun u hu => (hr.2.1 u hu).2.2) hok hr.1.2.2)⟩
  rw [ez]
  unfold SubstTyOk
  rw [Ty.enc_def] at h1 h2 ⊢
  apply go_i_SubstTy
  unfold nf_i_SubstTy
  simp only [h1, h2, h3, Option.bind_some, asBool_bool, asInt_int, br_not, br_decide, cond_false, List.length_map]
  by_cases hr : t.right
  · by_cases ha : ∀ u ∈ ts, u.right
    · have ha' : (ts.any fun u => !decide u.right) = false := by
        rw [List.any_eq_false]; intro u hu; simp [ha u hu]
      by_cases hv : t.vars ≤ ts.length
      · obtain ⟨m1, m2⟩ := main ⟨hr, ha, hv⟩
        have hv' : ¬ ((ts.length : Int) < t.vars) := by omega
        simp only [hr, if_true, Option.bind_some, ha', br_false', hv', decide_false, m1, Ty.enc_isAggN, Ty.enc_cell0, Ty.enc_cell1, Ty.enc_cell2, asSl_sl, asInt_int, Ty.enc_eta, br_true', m2, scalar_bool, Bool.not_true, asBool_bool, ha, hv, true_and, br_decide]
        by_cases hp : (t.put ts).right
        · simp [hp]; exact ha
        · simp [hp]
      · have hv' : ((ts.length : Int) < t.vars) := by omega
        simp [hr, ha', hv', hv]
    · have ha' : (ts.any fun u => !decide u.right) = true := by
        rw [List.any_eq_true]
        simp only [Classical.not_forall] at ha
        obtain ⟨u, hu, hn⟩ := ha
        exact ⟨u, hu, by simp [hn]⟩
      simp [hr, ha', ha]
  · simp [hr]
theorem SubstTy_s_loop (k n p q : Int) (l : List CVal) : ∀ (suf pre : List Ty), (pre ++ suf).length ≤ 1048576 → (∀ t ∈ suf, t.ok) →
    LL f_s_SubstTy 0 lc_s_SubstTy_0 [] k_s_SubstTy_0 (((pre ++ suf).map Ty.enc, (), (), (pre.length : Int), ()), (k, n, l, ()), (p, q, (), ()), [], ()) =
      some (if ∀ t ∈ suf, t.right then .out 0 (((pre ++ suf).map Ty.enc, (), (), ((pre ++ suf).length : Int), ()), (k, n, l, ()), (p, q, (), ()), [], ()) else .ret (.tup [.agg [.int .i64 0, .int .i64 0, .sl []], .bool false], []))
  | [], pre, hl, h => by
    apply gl_s_SubstTy_0
    unfold nl_s_SubstTy_0
    rw [lt_end]
    simp
  | t :: suf, pre, hl, h => by
    apply gl_s_SubstTy_0
    unfold nl_s_SubstTy_0
    have ih := SubstTy_s_loop k n p q l suf (pre ++ [t]) (by simpa using hl) (fun w hw => h w (by simp [hw]))
    simp only [List.append_assoc, List.singleton_append] at ih
    rw [lt_mid, nn_mid, get_mid, wrap_mid pre suf t hl]
    simp only [br_true', Option.bind_some, Ty.enc_fits, Ty.enc_sub, TyOk_s (h t (by simp)), asBool_bool, br_not, br_decide, List.mem_cons, forall_eq_or_imp]
    by_cases hr : t.right
    · simp only [hr, if_true, true_and]; exact ih
    · simp [hr]
theorem SubstTy_s {t : Ty} {ts : List Ty} (hok : t.ok) (hl : ts.length ≤ 1048576) (hts : ∀ u ∈ ts, u.ok) :
    CC f_s_SubstTy [.v t.enc, .v (.sl (ts.map Ty.enc))] [] = some (if SubstTyOk t ts then .tup [(t.put ts).enc, .bool true] else .tup [(Ty.mk 0 0 []).enc, .bool false], []) := by
  have h1 := TyOk_s hok
  have h2 := vars_s t hok
  have hloop := SubstTy_s_loop t.k t.n 0 0 (t.a.map Ty.enc) ts [] (by simpa using hl) hts
  simp only [List.nil_append, List.length_nil, Int.cast_ofNat_Int] at hloop
  have ez : (Ty.mk 0 0 []).enc = .agg [.int .i64 0, .int .i64 0, .sl []] := by rw [Ty.enc_def]; rfl
  have main : (t.right ∧ (∀ u ∈ ts, u.right) ∧ t.vars ≤ ts.length) → CC f_s_l1Put [.v t.enc, .v (.sl (ts.map Ty.enc))] [] = some ((t.put ts).enc, []) ∧ CC f_s_TyOk [.v (t.put ts).enc] [] = some (.bool (decide (t.put ts).right), []) := fun hr =>
    ⟨l1Put_law hts t hok (Ty.cov_of _ t hr.1.1 hr.2.2), TyOk_s (Ty.put_ok hts (fun u hu => (hr.2.1 u hu).2.2) hok hr.1.2.2)⟩
  rw [ez]
  unfold SubstTyOk
  rw [Ty.enc_def] at h1 h2 ⊢
  apply go_s_SubstTy
  unfold nf_s_SubstTy
  simp only [h1, h2, hloop, Option.bind_some, asBool_bool, asInt_int, br_not, br_decide, List.length_map]
  by_cases hr : t.right
  · by_cases hv : t.vars ≤ ts.length
    · have hv' : ¬ ((ts.length : Int) < t.vars) := by omega
      by_cases ha : ∀ u ∈ ts, u.right
      · obtain ⟨m1, m2⟩ := main ⟨hr, ha, hv⟩
        simp only [hr, if_true, Option.bind_some, br_false', hv', decide_false, if_pos ha, loK_out, beq_self_eq_true, m1, Ty.enc_isAggN, Ty.enc_cell0, Ty.enc_cell1, Ty.enc_cell2, asSl_sl, asInt_int, Ty.enc_eta, br_true', m2, scalar_bool, Bool.not_true, asBool_bool, hv, true_and, br_decide]
        by_cases hp : (t.put ts).right
        · simp [hp]; exact ha
        · simp [hp]
      · simp only [hr, if_true, Option.bind_some, br_false', hv', decide_false, if_neg ha, loK_ret, ha, false_and, and_false, if_false]
    · have hv' : ((ts.length : Int) < t.vars) := by omega
      simp [hr, hv', hv]
  · simp [hr]
end Go.Proofs.Ytmjjaoffeajcbaa.Abs

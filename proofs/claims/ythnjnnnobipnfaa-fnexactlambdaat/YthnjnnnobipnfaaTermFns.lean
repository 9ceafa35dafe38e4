/- Term: what is made of it, and its size. -/
import Derived.Test.YthnjnnnobipnfaaDataTerm
import Derived.Test.YthnjnnnobipnfaaD1Eqs
import Derived.Test.YthnjnnnobipnfaaTyFns
set_option linter.unusedVariables false
set_option linter.unusedSectionVars false
set_option linter.unusedSimpArgs false
namespace Go.Proofs.Ythnjnnnobipnfaa.Abs
open Go Go.Proofs

def SzTerm (t : Term) : Prop := ∀ l : Int, 0 ≤ l → l ≤ 1048576 → CC f_l_szTerm [.v t.enc, .v (.int .i64 l)] [] = some (.int .i64 (left l t.sz), [])
theorem szTermS_loop : ∀ (suf pre : List Term) (l : Int), (pre ++ suf).length ≤ 1048576 → (∀ t ∈ suf, SzTerm t) → 0 ≤ l → l ≤ 1048576 →
    LL f_l_szTermS 0 lc_l_szTermS_0 [] k_l_szTermS_0 (((pre ++ suf).map Term.enc, l, (pre.length : Int), ()), ()) =
      some (if l < (Term.szL suf : Int) then .ret (.int .i64 (-1), []) else .out 0 (((pre ++ suf).map Term.enc, l - Term.szL suf, ((pre ++ suf).length : Int), ()), ()))
  | [], pre, l, hl, h, h0, h1 => by
    apply gl_l_szTermS_0
    unfold nl_l_szTermS_0
    rw [lt_end]
    have : ¬ l < 0 := by omega
    simp [this]
  | t :: suf, pre, l, hl, h, h0, h1 => by
    apply gl_l_szTermS_0
    unfold nl_l_szTermS_0
    rw [lt_mid, nn_mid, get_mid, wrap_mid pre suf t hl]
    have ht := h t (by simp) l h0 h1
    simp only [br_true', Option.bind_some, Term.enc_fits, Term.enc_sub, Term.enc_isAggN, Term.enc_cell0, Term.enc_cell1, Term.enc_cell2, Term.enc_cell3, Term.enc_cell4, Term.enc_cell5, Term.enc_cell6, Term.enc_cell7, Term.enc_cell8, Term.enc_eta, ht, asInt_int]
    by_cases hn : l < (t.sz : Int)
    · have h2 : l < (Term.szL (t :: suf) : Int) := by simp; omega
      rw [if_pos h2, show decide (left l t.sz < 0) = true from decide_eq_true ((left_neg h0).2 hn)]
      rfl
    · have h3 : ¬ left l t.sz < 0 := fun hc => hn ((left_neg h0).1 hc)
      have ih := szTermS_loop suf (pre ++ [t]) (l - t.sz) (by simpa using hl) (fun u hu => h u (by simp [hu])) (by omega) (by omega)
      simp only [List.append_assoc, List.singleton_append] at ih
      rw [left_ok hn] at h3 ⊢
      simp only [h3, decide_false, br_false']
      rw [ih]
      have e : (l - (t.sz : Int) < (Term.szL suf : Int)) ↔ (l < (Term.szL (t :: suf) : Int)) := by simp; omega
      have e2 : l - (t.sz : Int) - (Term.szL suf : Int) = l - (Term.szL (t :: suf) : Int) := by simp; omega
      simp only [e, e2]
theorem szTermS_law {ts : List Term} (hl : ts.length ≤ maxLen) (h : ∀ t ∈ ts, SzTerm t) (l : Int) (h0 : 0 ≤ l) (h1 : l ≤ 1048576) :
    CC f_l_szTermS [.v (.sl (ts.map Term.enc)), .v (.int .i64 l)] [] = some (.int .i64 (left l (ts.length + Term.szL ts)), []) := by
  apply go_l_szTermS
  unfold nf_l_szTermS
  have hw : IntKind.i64.wrap (l - ((ts.map Term.enc).length : Int)) = l - (ts.length : Int) := by
    unfold maxLen at hl
    rw [List.length_map, wrap_i64] <;> omega
  rw [hw]
  by_cases hs : l < (ts.length : Int)
  · have : l - (ts.length : Int) < 0 := by omega
    have h2 : left l (ts.length + Term.szL ts) = -1 := by unfold left; rw [if_pos (by omega)]
    simp [this, h2]
  · have h3 : ¬ l - (ts.length : Int) < 0 := by omega
    have hloop := szTermS_loop ts [] (l - ts.length) (by simp; omega) h (by omega) (by omega)
    simp only [List.nil_append, List.length_nil] at hloop
    simp only [h3, decide_false, br_false']
    rw [show ((0 : Int)) = ((0 : Nat) : Int) from rfl, hloop]
    by_cases h4 : l - (ts.length : Int) < (Term.szL ts : Int)
    · have h2 : left l (ts.length + Term.szL ts) = -1 := by unfold left; rw [if_pos (by omega)]
      simp [h4, h2]
    · have h2 : left l (ts.length + Term.szL ts) = l - (ts.length : Int) - (Term.szL ts : Int) := by unfold left; rw [if_neg (by omega)]; omega
      simp [h4, h2]
theorem szTerm_law : ∀ t : Term, t.wt → SzTerm t := Term.ind fun t ih hw l h0 h1 => by
  have hw := (Term.wt_def t).1 hw
  have hsz := Term.sz_def t
  rw [Term.enc_def]
  apply go_l_szTerm
  unfold nf_l_szTerm
  have w0 : IntKind.i64.wrap (l - (t.s.length : Int)) = l - (t.s.length : Int) := by
    have := hw.2.2.1
    unfold maxLen at this
    rw [wrap_i64] <;> omega
  rw [w0]
  by_cases g0 : l < (t.s.length : Int)
  · rw [show decide (l - (t.s.length : Int) < 0) = true from decide_eq_true (by omega), br_true']
    have : left l t.sz = -1 := by unfold left; rw [if_pos (by omega)]
    rw [this]
  rw [show decide (l - (t.s.length : Int) < 0) = false from decide_eq_false (by omega), br_false']
  have w1 : IntKind.i64.wrap ((l - (t.s.length : Int)) - (t.z.length : Int)) = (l - (t.s.length : Int)) - (t.z.length : Int) := by
    have := hw.2.2.2.1
    unfold maxLen at this
    rw [wrap_i64] <;> omega
  rw [w1]
  by_cases g1 : (l - (t.s.length : Int)) < (t.z.length : Int)
  · rw [show decide ((l - (t.s.length : Int)) - (t.z.length : Int) < 0) = true from decide_eq_true (by omega), br_true']
    have : left l t.sz = -1 := by unfold left; rw [if_pos (by omega)]
    rw [this]
  rw [show decide ((l - (t.s.length : Int)) - (t.z.length : Int) < 0) = false from decide_eq_false (by omega), br_false']
  have c2 := szTy_law t.t (hw.2.2.2.2.1) (((l - (t.s.length : Int)) - (t.z.length : Int))) (by omega) (by omega)
  simp only [Ty.enc_eta, c2, Option.bind_some, asInt_int]
  by_cases g2 : ((l - (t.s.length : Int)) - (t.z.length : Int)) < ((t.t.sz : Nat) : Int)
  · rw [show decide (left (((l - (t.s.length : Int)) - (t.z.length : Int))) t.t.sz < 0) = true from decide_eq_true ((left_neg (by omega)).2 g2), br_true']
    have : left l t.sz = -1 := by unfold left; rw [if_pos (by omega)]
    rw [this]
  rw [show decide (left (((l - (t.s.length : Int)) - (t.z.length : Int))) t.t.sz < 0) = false from decide_eq_false (fun hc => g2 ((left_neg (by omega)).1 hc)), br_false', left_ok g2]
  have c3 := szTyS_law (hw.2.2.2.2.2.1).1 (fun u hu => szTy_law u ((hw.2.2.2.2.2.1).2 u hu)) ((((l - (t.s.length : Int)) - (t.z.length : Int)) - ((t.t.sz : Nat) : Int))) (by omega) (by omega)
  simp only [c3, Option.bind_some, asInt_int]
  by_cases g3 : (((l - (t.s.length : Int)) - (t.z.length : Int)) - ((t.t.sz : Nat) : Int)) < (((t.ts.length + Ty.szL t.ts) : Nat) : Int)
  · rw [show decide (left ((((l - (t.s.length : Int)) - (t.z.length : Int)) - ((t.t.sz : Nat) : Int))) (t.ts.length + Ty.szL t.ts) < 0) = true from decide_eq_true ((left_neg (by omega)).2 g3), br_true']
    have : left l t.sz = -1 := by unfold left; rw [if_pos (by omega)]
    rw [this]
  rw [show decide (left ((((l - (t.s.length : Int)) - (t.z.length : Int)) - ((t.t.sz : Nat) : Int))) (t.ts.length + Ty.szL t.ts) < 0) = false from decide_eq_false (fun hc => g3 ((left_neg (by omega)).1 hc)), br_false', left_ok g3]
  have c4 := szTermS_law (hw.2.2.2.2.2.2).1 (fun u hu => ih u hu ((hw.2.2.2.2.2.2).2 u hu)) (((((l - (t.s.length : Int)) - (t.z.length : Int)) - ((t.t.sz : Nat) : Int)) - (((t.ts.length + Ty.szL t.ts) : Nat) : Int))) (by omega) (by omega)
  simp only [c4, Option.bind_some, asInt_int]
  by_cases g4 : ((((l - (t.s.length : Int)) - (t.z.length : Int)) - ((t.t.sz : Nat) : Int)) - (((t.ts.length + Ty.szL t.ts) : Nat) : Int)) < (((t.a.length + Term.szL t.a) : Nat) : Int)
  · rw [show decide (left (((((l - (t.s.length : Int)) - (t.z.length : Int)) - ((t.t.sz : Nat) : Int)) - (((t.ts.length + Ty.szL t.ts) : Nat) : Int))) (t.a.length + Term.szL t.a) < 0) = true from decide_eq_true ((left_neg (by omega)).2 g4), br_true']
    have : left l t.sz = -1 := by unfold left; rw [if_pos (by omega)]
    rw [this]
  rw [show decide (left (((((l - (t.s.length : Int)) - (t.z.length : Int)) - ((t.t.sz : Nat) : Int)) - (((t.ts.length + Ty.szL t.ts) : Nat) : Int))) (t.a.length + Term.szL t.a) < 0) = false from decide_eq_false (fun hc => g4 ((left_neg (by omega)).1 hc)), br_false', left_ok g4]
  have : left l t.sz = (((((l - (t.s.length : Int)) - (t.z.length : Int)) - ((t.t.sz : Nat) : Int)) - (((t.ts.length + Ty.szL t.ts) : Nat) : Int)) - (((t.a.length + Term.szL t.a) : Nat) : Int)) := by unfold left; rw [if_neg (by omega)]; omega
  rw [this]
theorem toTermS_loop : ∀ (suf pre : List Term) (zs : List CVal), (pre ++ suf).length ≤ 1048576 → (∀ t ∈ suf, CC f_l_toTerm [.v t.enc] [] = some (t.enc, [])) → zs.length = suf.length → (∀ z ∈ zs, ∃ cs, z = .agg cs ∧ cs.length = 9) →
    LL f_l_toTermS 0 lc_l_toTermS_0 [] k_l_toTermS_0 (((pre ++ suf).map Term.enc, (), (pre.length : Int), ()), pre.map Term.enc ++ zs, ()) =
      some (.out 0 (((pre ++ suf).map Term.enc, (), ((pre ++ suf).length : Int), ()), (pre ++ suf).map Term.enc, ()))
  | [], pre, zs, hl, h, hz, hs => by
    apply gl_l_toTermS_0
    unfold nl_l_toTermS_0
    rw [lt_end]
    have : zs = [] := List.eq_nil_of_length_eq_zero (by simpa using hz)
    subst this
    simp
  | t :: suf, pre, [], hl, h, hz, hs => by simp at hz
  | t :: suf, pre, z :: zs, hl, h, hz, hs => by
    apply gl_l_toTermS_0
    unfold nl_l_toTermS_0
    obtain ⟨cs, rfl, hcs⟩ := hs z (by simp)
    have e1 : (pre.map Term.enc ++ CVal.agg cs :: zs)[((pre.length : Nat) : Int).toNat]? = some (.agg cs) := by simp
    have e2 : (pre.map Term.enc ++ CVal.agg cs :: zs).set ((pre.length : Nat) : Int).toNat t.enc = (pre ++ [t]).map Term.enc ++ zs := by
      simp [List.set_append]
    have e3 : decide (((pre.length : Nat) : Int).toNat < (pre.map Term.enc ++ CVal.agg cs :: zs).length) = true := by simp
    have ih := toTermS_loop suf (pre ++ [t]) zs (by simpa using hl) (fun u hu => h u (by simp [hu])) (by simpa using hz) (fun z hz => hs z (by simp [hz]))
    simp only [List.append_assoc, List.singleton_append] at ih
    rw [lt_mid, nn_mid, get_mid, wrap_mid pre suf t hl, e1, e3]
    simp only [br_true', Option.bind_some, Term.enc_fits, Term.enc_sub, Term.enc_isAggN, Term.enc_cell0, Term.enc_cell1, Term.enc_cell2, Term.enc_cell3, Term.enc_cell4, Term.enc_cell5, Term.enc_cell6, Term.enc_cell7, Term.enc_cell8, Term.enc_eta, h t (by simp), Bool.and_true, fits_agg, hcs, beq_self_eq_true, asSl_sl, asInt_int, asStr_str]
    rw [e2]
    exact ih
theorem toTermS_law {ts : List Term} (hl : ts.length ≤ 1048576) (h : ∀ t ∈ ts, CC f_l_toTerm [.v t.enc] [] = some (t.enc, [])) : CC f_l_toTermS [.v (.sl (ts.map Term.enc))] [] = some (.sl (ts.map Term.enc), []) := by
  apply go_l_toTermS
  unfold nf_l_toTermS
  have hloop := toTermS_loop ts [] (List.replicate ts.length (.agg [.int .i64 0, .int .i64 0, .str [], .str [], .int .i64 0, .int .i64 0, .sl [], .sl [], .sl []])) (by simpa using hl) h (by simp) (fun z hz => ⟨_, (List.eq_of_mem_replicate hz), rfl⟩)
  simp only [List.nil_append, List.length_nil, List.map_nil, Int.cast_ofNat_Int] at hloop
  simp only [List.length_map, Int.toNat_natCast, hloop, decide_true, Bool.true_and, show decide ((ts.length : Int) ≤ 1048576) = true by simpa using (by omega), br_true', Option.bind_some, loK_out]
  rfl
theorem eqTermS_loop : ∀ (suf pre : List Term), (pre ++ suf).length ≤ 1048576 → (∀ t ∈ suf, CC f_l_eqTerm [.v t.enc, .v t.enc] [] = some (.bool true, [])) →
    LL f_l_eqTermS 0 lc_l_eqTermS_0 [] k_l_eqTermS_0 (((pre ++ suf).map Term.enc, (pre ++ suf).map Term.enc, (pre.length : Int), ()), ()) =
      some (.out 0 (((pre ++ suf).map Term.enc, (pre ++ suf).map Term.enc, ((pre ++ suf).length : Int), ()), ()))
  | [], pre, hl, h => by
    apply gl_l_eqTermS_0
    unfold nl_l_eqTermS_0
    rw [lt_end]
    simp
  | t :: suf, pre, hl, h => by
    apply gl_l_eqTermS_0
    unfold nl_l_eqTermS_0
    have ih := eqTermS_loop suf (pre ++ [t]) (by simpa using hl) (fun u hu => h u (by simp [hu]))
    simp only [List.append_assoc, List.singleton_append] at ih
    rw [lt_mid, nn_mid, get_mid, wrap_mid pre suf t hl]
    simp only [br_true', Option.bind_some, Term.enc_fits, Term.enc_sub, Term.enc_isAggN, Term.enc_cell0, Term.enc_cell1, Term.enc_cell2, Term.enc_cell3, Term.enc_cell4, Term.enc_cell5, Term.enc_cell6, Term.enc_cell7, Term.enc_cell8, Term.enc_eta, h t (by simp), asBool_bool, Bool.not_true, br_false', Term.enc_isAggN, Term.enc_cell0, Term.enc_cell1, Term.enc_cell2, Term.enc_cell3, Term.enc_cell4, Term.enc_cell5, Term.enc_cell6, Term.enc_cell7, Term.enc_cell8, Term.enc_eta]
    exact ih
theorem eqTermS_law {ts : List Term} (hl : ts.length ≤ 1048576) (h : ∀ t ∈ ts, CC f_l_eqTerm [.v t.enc, .v t.enc] [] = some (.bool true, [])) : CC f_l_eqTermS [.v (.sl (ts.map Term.enc)), .v (.sl (ts.map Term.enc))] [] = some (.bool true, []) := by
  apply go_l_eqTermS
  unfold nf_l_eqTermS
  have hloop := eqTermS_loop ts [] (by simpa using hl) h
  simp only [List.nil_append, List.length_nil, Int.cast_ofNat_Int] at hloop
  simp only [hloop, decide_true, Bool.not_true, br_false', Option.bind_some, loK_out]
  rfl
theorem toTerm_law : ∀ t : Term, t.ok → CC f_l_toTerm [.v t.enc] [] = some (t.enc, []) := Term.ind fun t ih hok => by
  have h0 := toTy_law t.t hok.t
  have h1 := toTyS_law hok.ts_len (fun u hu => toTy_law u (hok.ts hu))
  have h2 := toTermS_law hok.a_len (fun u hu => ih u hu (hok.a hu))
  rw [Term.enc_def]
  apply go_l_toTerm
  unfold nf_l_toTerm
  simp only [h0, h1, h2, Option.bind_some, isFlat_sl, Bool.and_true, br_true', Ty.enc_eta, Ty.enc_isAggN, Ty.enc_fits, Ty.enc_cell0, Ty.enc_cell1, Ty.enc_cell2, asSl_sl, asInt_int, asStr_str]
theorem eqTerm_law : ∀ t : Term, t.ok → CC f_l_eqTerm [.v t.enc, .v t.enc] [] = some (.bool true, []) := Term.ind fun t ih hok => by
  have h0 := eqTy_law t.t hok.t
  have h1 := eqTyS_law hok.ts_len (fun u hu => eqTy_law u (hok.ts hu))
  have h2 := eqTermS_law hok.a_len (fun u hu => ih u hu (hok.a hu))
  rw [Term.enc_def]
  apply go_l_eqTerm
  unfold nf_l_eqTerm
  simp only [h0, h1, h2, Option.bind_some, decide_true, Bool.not_true, br_false', br_true', asBool_bool, Ty.enc_eta]
end Go.Proofs.Ythnjnnnobipnfaa.Abs

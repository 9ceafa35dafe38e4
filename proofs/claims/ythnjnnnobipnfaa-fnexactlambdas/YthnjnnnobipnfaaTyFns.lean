/- Types: what is made of them, and their sizes. -/
import Derived.Test.YthnjnnnobipnfaaData
import Derived.Test.YthnjnnnobipnfaaD1Eqs
set_option linter.unusedVariables false
set_option linter.unusedSectionVars false
set_option linter.unusedSimpArgs false
namespace Go.Proofs.Ythnjnnnobipnfaa.Abs
open Go Go.Proofs

/-! Sizes. -/
def SzTy (t : Ty) : Prop := ∀ l : Int, 0 ≤ l → l ≤ 1048576 → CC f_l_szTy [.v t.enc, .v (.int .i64 l)] [] = some (.int .i64 (left l t.sz), [])

theorem szTyS_loop : ∀ (suf pre : List Ty) (l : Int), (pre ++ suf).length ≤ 1048576 → (∀ t ∈ suf, SzTy t) → 0 ≤ l → l ≤ 1048576 →
    LL f_l_szTyS 0 lc_l_szTyS_0 [] k_l_szTyS_0 (((pre ++ suf).map Ty.enc, l, (pre.length : Int), ()), ()) =
      some (if l < (Ty.szL suf : Int) then .ret (.int .i64 (-1), []) else .out 0 (((pre ++ suf).map Ty.enc, l - Ty.szL suf, ((pre ++ suf).length : Int), ()), ()))
  | [], pre, l, hl, h, h0, h1 => by
    apply gl_l_szTyS_0
    unfold nl_l_szTyS_0
    rw [lt_end]
    have : ¬ l < 0 := by omega
    simp [this]
  | t :: suf, pre, l, hl, h, h0, h1 => by
    apply gl_l_szTyS_0
    unfold nl_l_szTyS_0
    rw [lt_mid, nn_mid, get_mid, wrap_mid pre suf t hl]
    have ht := h t (by simp) l h0 h1
    simp only [br_true', Option.bind_some, Ty.enc_fits, Ty.enc_sub, ht, asInt_int]
    by_cases hn : l < (t.sz : Int)
    · have h2 : l < (Ty.szL (t :: suf) : Int) := by simp; omega
      rw [if_pos h2, show decide (left l t.sz < 0) = true from decide_eq_true ((left_neg h0).2 hn)]
      rfl
    · have h3 : ¬ left l t.sz < 0 := fun hc => hn ((left_neg h0).1 hc)
      have ih := szTyS_loop suf (pre ++ [t]) (l - t.sz) (by simpa using hl) (fun u hu => h u (by simp [hu])) (by omega) (by omega)
      simp only [List.append_assoc, List.singleton_append] at ih
      rw [left_ok hn] at h3 ⊢
      simp only [h3, decide_false, br_false']
      rw [ih]
      have e : (l - (t.sz : Int) < (Ty.szL suf : Int)) ↔ (l < (Ty.szL (t :: suf) : Int)) := by simp; omega
      have e2 : l - (t.sz : Int) - (Ty.szL suf : Int) = l - (Ty.szL (t :: suf) : Int) := by simp; omega
      simp only [e, e2]

theorem szTyS_law {ts : List Ty} (hl : ts.length ≤ maxLen) (h : ∀ t ∈ ts, SzTy t) (l : Int) (h0 : 0 ≤ l) (h1 : l ≤ 1048576) :
    CC f_l_szTyS [.v (.sl (ts.map Ty.enc)), .v (.int .i64 l)] [] = some (.int .i64 (left l (ts.length + Ty.szL ts)), []) := by
  apply go_l_szTyS
  unfold nf_l_szTyS
  have hw : IntKind.i64.wrap (l - ((ts.map Ty.enc).length : Int)) = l - (ts.length : Int) := by
    unfold maxLen at hl
    rw [List.length_map, wrap_i64] <;> omega
  rw [hw]
  by_cases hs : l < (ts.length : Int)
  · have : l - (ts.length : Int) < 0 := by omega
    have h2 : left l (ts.length + Ty.szL ts) = -1 := by unfold left; rw [if_pos (by omega)]
    simp [this, h2]
  · have h3 : ¬ l - (ts.length : Int) < 0 := by omega
    have hloop := szTyS_loop ts [] (l - ts.length) (by simp; omega) h (by omega) (by omega)
    simp only [List.nil_append, List.length_nil] at hloop
    simp only [h3, decide_false, br_false']
    rw [show ((0 : Int)) = ((0 : Nat) : Int) from rfl, hloop]
    by_cases h4 : l - (ts.length : Int) < (Ty.szL ts : Int)
    · have h2 : left l (ts.length + Ty.szL ts) = -1 := by unfold left; rw [if_pos (by omega)]
      simp [h4, h2]
    · have h2 : left l (ts.length + Ty.szL ts) = l - (ts.length : Int) - (Ty.szL ts : Int) := by unfold left; rw [if_neg (by omega)]; omega
      simp [h4, h2]

theorem szTy_law : ∀ t : Ty, t.wt → SzTy t := Ty.ind fun t ih hw l h0 h1 => by
  have hw' := (Ty.wt_def t).1 hw
  have h := szTyS_law hw'.2.2.1 (fun u hu => ih u hu (hw'.2.2.2 u hu)) l h0 h1
  rw [Ty.enc_def]
  apply go_l_szTy
  unfold nf_l_szTy
  rw [h, ← Ty.sz_def]
  by_cases hn : l < (t.sz : Int)
  · have : left l t.sz = -1 := by unfold left; rw [if_pos hn]
    simp [this]
  · have h2 : ¬ left l t.sz < 0 := fun hc => hn ((left_neg h0).1 hc)
    simp [h2]

/-! Copies. -/
theorem toTyS_loop : ∀ (suf pre : List Ty) (zs : List CVal), (pre ++ suf).length ≤ 1048576 → (∀ t ∈ suf, CC f_l_toTy [.v t.enc] [] = some (t.enc, [])) → zs.length = suf.length → (∀ z ∈ zs, ∃ cs, z = .agg cs ∧ cs.length = 3) →
    LL f_l_toTyS 0 lc_l_toTyS_0 [] k_l_toTyS_0 (((pre ++ suf).map Ty.enc, (), (pre.length : Int), ()), pre.map Ty.enc ++ zs, ()) =
      some (.out 0 (((pre ++ suf).map Ty.enc, (), ((pre ++ suf).length : Int), ()), (pre ++ suf).map Ty.enc, ()))
  | [], pre, zs, hl, h, hz, hs => by
    apply gl_l_toTyS_0
    unfold nl_l_toTyS_0
    rw [lt_end]
    have : zs = [] := List.eq_nil_of_length_eq_zero (by simpa using hz)
    subst this
    simp
  | t :: suf, pre, [], hl, h, hz, hs => by simp at hz
  | t :: suf, pre, z :: zs, hl, h, hz, hs => by
    apply gl_l_toTyS_0
    unfold nl_l_toTyS_0
    obtain ⟨cs, rfl, hcs⟩ := hs z (by simp)
    have e1 : (pre.map Ty.enc ++ CVal.agg cs :: zs)[((pre.length : Nat) : Int).toNat]? = some (.agg cs) := by simp
    have e2 : (pre.map Ty.enc ++ CVal.agg cs :: zs).set ((pre.length : Nat) : Int).toNat t.enc = (pre ++ [t]).map Ty.enc ++ zs := by
      simp [List.set_append]
    have e3 : decide (((pre.length : Nat) : Int).toNat < (pre.map Ty.enc ++ CVal.agg cs :: zs).length) = true := by simp
    have ih := toTyS_loop suf (pre ++ [t]) zs (by simpa using hl) (fun u hu => h u (by simp [hu])) (by simpa using hz) (fun z hz => hs z (by simp [hz]))
    simp only [List.append_assoc, List.singleton_append] at ih
    rw [lt_mid, nn_mid, get_mid, wrap_mid pre suf t hl, e1, e3]
    simp only [br_true', Option.bind_some, Ty.enc_fits, Ty.enc_sub, h t (by simp), Bool.and_true, fits_agg, hcs, beq_self_eq_true, Ty.enc_isAggN, Ty.enc_cell0, Ty.enc_cell1, Ty.enc_cell2, asSl_sl, asInt_int, Ty.enc_eta, e2]
    exact ih

theorem toTyS_law {ts : List Ty} (hl : ts.length ≤ 1048576) (h : ∀ t ∈ ts, CC f_l_toTy [.v t.enc] [] = some (t.enc, [])) : CC f_l_toTyS [.v (.sl (ts.map Ty.enc))] [] = some (.sl (ts.map Ty.enc), []) := by
  apply go_l_toTyS
  unfold nf_l_toTyS
  have hloop := toTyS_loop ts [] (List.replicate ts.length (.agg [.int .i64 0, .int .i64 0, .sl []])) (by simpa using hl) h (by simp) (fun z hz => ⟨_, (List.eq_of_mem_replicate hz), rfl⟩)
  simp only [List.nil_append, List.length_nil, List.map_nil, Int.cast_ofNat_Int] at hloop
  simp only [List.length_map, Int.toNat_natCast, hloop, decide_true, Bool.true_and, show decide ((ts.length : Int) ≤ 1048576) = true by simpa using (by omega), br_true', Option.bind_some, loK_out]
  rfl

theorem toTy_law : ∀ t : Ty, t.ok → CC f_l_toTy [.v t.enc] [] = some (t.enc, []) := Ty.ind fun t ih hok => by
  have h := toTyS_law hok.len fun u hu => ih u hu (hok.part hu)
  rw [Ty.enc_def]
  apply go_l_toTy
  unfold nf_l_toTy
  simp only [h, Option.bind_some, isFlat_sl, Bool.and_true, br_true', asSl_sl]

/-! Equal to itself. -/
theorem eqTyS_loop : ∀ (suf pre : List Ty), (pre ++ suf).length ≤ 1048576 → (∀ t ∈ suf, CC f_l_eqTy [.v t.enc, .v t.enc] [] = some (.bool true, [])) →
    LL f_l_eqTyS 0 lc_l_eqTyS_0 [] k_l_eqTyS_0 (((pre ++ suf).map Ty.enc, (pre ++ suf).map Ty.enc, (pre.length : Int), ()), ()) =
      some (.out 0 (((pre ++ suf).map Ty.enc, (pre ++ suf).map Ty.enc, ((pre ++ suf).length : Int), ()), ()))
  | [], pre, hl, h => by
    apply gl_l_eqTyS_0
    unfold nl_l_eqTyS_0
    rw [lt_end]
    simp
  | t :: suf, pre, hl, h => by
    apply gl_l_eqTyS_0
    unfold nl_l_eqTyS_0
    have ih := eqTyS_loop suf (pre ++ [t]) (by simpa using hl) (fun u hu => h u (by simp [hu]))
    simp only [List.append_assoc, List.singleton_append] at ih
    rw [lt_mid, nn_mid, get_mid, wrap_mid pre suf t hl]
    simp only [br_true', Option.bind_some, Ty.enc_fits, Ty.enc_sub, h t (by simp), asBool_bool, Bool.not_true, br_false', Ty.enc_isAggN, Ty.enc_cell0, Ty.enc_cell1, Ty.enc_cell2, Ty.enc_eta]
    exact ih
theorem eqTyS_law {ts : List Ty} (hl : ts.length ≤ 1048576) (h : ∀ t ∈ ts, CC f_l_eqTy [.v t.enc, .v t.enc] [] = some (.bool true, [])) : CC f_l_eqTyS [.v (.sl (ts.map Ty.enc)), .v (.sl (ts.map Ty.enc))] [] = some (.bool true, []) := by
  apply go_l_eqTyS
  unfold nf_l_eqTyS
  have hloop := eqTyS_loop ts [] (by simpa using hl) h
  simp only [List.nil_append, List.length_nil, Int.cast_ofNat_Int] at hloop
  simp only [hloop, decide_true, Bool.not_true, br_false', Option.bind_some, loK_out]
  rfl
theorem eqTy_law : ∀ t : Ty, t.ok → CC f_l_eqTy [.v t.enc, .v t.enc] [] = some (.bool true, []) := Ty.ind fun t ih hok => by
  have h := eqTyS_law hok.len fun u hu => ih u hu (hok.part hu)
  rw [Ty.enc_def]
  apply go_l_eqTy
  unfold nf_l_eqTy
  simp only [h, Option.bind_some, decide_true, Bool.not_true, br_false', asBool_bool]
end Go.Proofs.Ythnjnnnobipnfaa.Abs

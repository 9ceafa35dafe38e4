/- The law FnSubst. -/
import Derived.Test.YtmjjaoffeajcbaaDrawSubst
import Derived.Test.YtmjjaoffeajcbaaTySame
import Derived.Test.YtmjjaoffeajcbaaPutLaws
set_option linter.unusedVariables false
set_option linter.unusedSimpArgs false
set_option linter.unusedSectionVars false
set_option maxRecDepth 100000
namespace Go.Proofs.Ytmjjaoffeajcbaa.Abs
open Go Go.Proofs
open Classical

theorem primOk : PrimOk E := ⟨fun _ => rfl, fun g p h => by cases h⟩
theorem Ty.vars_nn : ∀ t : Ty, t.good → 0 ≤ t.vars := by
  intro t hg
  obtain ⟨hh, hp⟩ := (good_def t).1 hg
  rw [vars_def]
  refine Int.le_trans ?_ varsL_ge
  split
  · have hn : t.n = 0 ∨ t.n = 1 := by rcases hh.2 with h | h; exact .inl h; exact .inr h.2
    rw [wrap_i64 (by omega) (by omega)]; omega
  · omega
noncomputable def vo (t : Ty) : Int := if t.right then t.vars else 0
theorem subst_fn_loop {ts : List Ty} (hl : ts.length ≤ 10) (hok : ∀ u ∈ ts, u.ok) (p q s u : Int) (r v : List CVal) : ∀ (suf pre : List Ty) (M : Int) (g : Bool), pre ++ suf = ts → ∃ (M' : Int) (g' : Bool), M ≤ M' ∧ (∀ x ∈ suf, vo x ≤ M') ∧ (g' = true → g = true ∧ ∀ x ∈ suf, x.right ∧ x.vars = 0) ∧
    LL f_l_FnSubst 0 lc_l_FnSubst_0 [] k_l_FnSubst_0 (((), ts.map Ty.enc, (), M, g, (pre.length : Int), ()), (p, q, r, ()), (s, u, v, ()), ()) =
      some (.out 0 (((), ts.map Ty.enc, (), M', g', (ts.length : Int), ()), (p, q, r, ()), (s, u, v, ()), ()))
  | [], pre, M, g, hts => by
    refine ⟨M, g, by omega, by simp, fun h => ⟨h, by simp⟩, ?_⟩
    apply gl_l_FnSubst_0
    unfold nl_l_FnSubst_0
    have : pre = ts := by simpa using hts
    subst this
    simp
  | x :: suf, pre, M, g, hts => by
    have hx : x.ok := hok x (by rw [← hts]; simp)
    obtain ⟨M', g', hM, hM', hg, ih⟩ := subst_fn_loop hl hok p q s u r v suf (pre ++ [x]) (if M < vo x then vo x else M) (g && decide (x.right ∧ x.vars = 0)) (by simpa using hts)
    refine ⟨M', g', ?_, ?_, ?_, ?_⟩
    · split at hM <;> omega
    · intro y hy
      rcases List.mem_cons.1 hy with rfl | hy
      · split at hM <;> omega
      · exact hM' y hy
    · intro h
      obtain ⟨h1, h2⟩ := hg h
      rw [Bool.and_eq_true, decide_eq_true_eq] at h1
      refine ⟨h1.1, fun y hy => ?_⟩
      rcases List.mem_cons.1 hy with rfl | hy
      · exact h1.2
      · exact h2 y hy
    · apply gl_l_FnSubst_0
      unfold nl_l_FnSubst_0
      have e1 : decide ((pre.length : Int) < ((ts.map Ty.enc).length : Int)) = true := decide_eq_true (by rw [← hts]; simp; omega)
      have e2 : decide ((0 : Int) ≤ (pre.length : Int)) = true := decide_eq_true (by omega)
      have e3 : (ts.map Ty.enc)[(pre.length : Int).toNat]? = some x.enc := by rw [← hts]; simp
      have w : IntKind.i64.wrap ((pre.length : Int) + 1) = ((pre ++ [x]).length : Int) := by
        have : pre.length ≤ 10 := by rw [← hts] at hl; simp at hl; omega
        rw [List.length_append, List.length_singleton, wrap_i64] <;> omega
      have hv := VarsOf_i hx
      have hgr := Ground_i hx
      have hvo : (if x.right then x.vars else 0) = vo x := rfl
      rw [hvo] at hv
      by_cases hc : M < vo x <;> simp only [hc, if_true, if_false] at ih <;> cases g <;>
        simp only [e1, e2, e3, br_true', br_false', Bool.and_true, Bool.true_and, Bool.false_and, Option.bind_some, Ty.enc_fits, Ty.enc_sub, hv, hgr, asInt_int, asBool_bool, hc, decide_true, decide_false, cond_true, w] at ih ⊢ <;> exact ih
theorem law_FnSubst {b : List UInt8} (_ : b.length ≤ maxLen) : CC f_l_FnSubst [.v (.sl (bytesC b))] [] = some (.bool true, []) := by
  have hlen : (bytesC b).length = b.length := by simp [bytesC]
  have hbig : CC f_l_big [.v (.sl (bytesC b))] [] = some (.bool (decide (1048576 < (b.length : Int))), []) := by
    apply go_l_big
    unfold nf_l_big
    rw [hlen]
  apply go_l_FnSubst
  unfold nf_l_FnSubst
  by_cases hb : 1048576 < (b.length : Int)
  · simp [hbig, hb]
  · obtain ⟨t, ts, ht, hl, hts, hd⟩ := DrawSubstTy_law (b := b) (by omega)
    have htok : t.ok := ⟨ht.1, by have := ht.2; omega⟩
    have htsok : ∀ u ∈ ts, u.ok := fun u hu => ⟨(hts u hu).1, by have := (hts u hu).2; omega⟩
    have h1 := SubstTy_i htok (by omega) htsok
    have h2 := SubstTy_s htok (by omega) htsok
    have hb' : decide (1048576 < (b.length : Int)) = false := decide_eq_false hb
    by_cases hs : SubstTyOk t ts
    · rw [if_pos hs] at h1 h2
      obtain ⟨⟨hr, hrs, hv⟩, hx⟩ := hs
      obtain ⟨M, g, hM, hMs, hg, e⟩ := subst_fn_loop hl htsok t.k t.n (t.put ts).k (t.put ts).n (t.a.map Ty.enc) ((t.put ts).a.map Ty.enc) ts [] 0 true rfl
      simp only [List.length_nil, Int.cast_ofNat_Int] at e
      have hvs : ∀ u ∈ ts, u.vars ≤ M := fun u hu => by have := hMs u hu; unfold vo at this; rw [if_pos (hrs u hu)] at this; exact this
      have hxok : (t.put ts).ok := Ty.put_ok htsok (fun u hu => (hrs u hu).2.2) htok hr.2.2
      have h3 := TyOk_i hxok
      have h4 := VarsOf_i hxok
      have h5 := Ground_i hxok
      have hself : SubstTyOk t Ty.selfs := by
        refine ⟨⟨hr, Ty.selfs_right, ?_⟩, ?_⟩
        · have := Ty.good_vars2 t hr.1; simpa [Ty.selfs] using this
        · rw [Ty.put_self t hr.1]; exact hr
      have h6 := SubstTy_i htok (ts := Ty.selfs) (by simp [Ty.selfs]) Ty.selfs_ok
      rw [if_pos hself, Ty.put_self t hr.1] at h6
      have eself : Ty.selfs.map Ty.enc = [.agg [.int .i64 3, .int .i64 0, .sl []], .agg [.int .i64 3, .int .i64 1, .sl []]] := by
        simp [Ty.selfs, Ty.enc_def]
      rw [eself] at h6
      have h7 := SameTy_i t htok t
      rw [(Ty.same_iff t t).2 rfl] at h7
      have hxv : (t.put ts).vars ≤ M := Ty.put_vars hM hvs t
      rw [if_pos hx] at h4
      have hxv' : decide ((t.put ts).vars ≤ M) = true := decide_eq_true hxv
      have hx' : decide (t.put ts).right = true := decide_eq_true hx
      rw [hx'] at h3
      simp only [hbig, hb', hd, h1, h2, Option.bind_some, asBool_bool, br_false', br_true', asTup_tup, List.getElem?_cons_zero, List.getElem?_cons_succ, Ty.enc_isAggN, Ty.enc_cell0, Ty.enc_cell1, Ty.enc_cell2, Ty.enc_eta, beq_self_eq_true, Bool.not_false, Bool.not_true, asInt_int, asSl_sl, e, loK_out, scalar_bool, h3, h4, h6, h7, hxv', cond_true, cond_false]
      cases g
      · simp only [br_true', br_false', Bool.not_false, Option.bind_some]
      · have hgx : decide ((t.put ts).right ∧ (t.put ts).vars = 0) = true := by
          have h0 := (hg rfl).2
          have h1 : (t.put ts).vars ≤ 0 := Ty.put_vars (by omega) (fun u hu => by have := (h0 u hu).2; omega) t
          have h2 := Ty.vars_nn _ hx.1
          exact decide_eq_true ⟨hx, by omega⟩
        rw [hgx] at h5
        simp only [br_true', br_false', Bool.not_true, Option.bind_some, h5, asBool_bool]
    · rw [if_neg hs] at h1 h2
      simp only [hbig, hb', hd, h1, h2, Option.bind_some, asBool_bool, br_false', br_true', asTup_tup, List.getElem?_cons_zero, List.getElem?_cons_succ, Ty.enc_isAggN, Ty.enc_cell0, Ty.enc_cell1, Ty.enc_cell2, Ty.enc_eta, Ty.k_mk, Ty.n_mk, Ty.a_mk, beq_self_eq_true, Bool.not_false, Bool.not_true, asInt_int, decide_true, scalar_bool]
end Go.Proofs.Ytmjjaoffeajcbaa.Abs

/- A type bent; any type; a type and what is put into it. -/
import Derived.Test.YtegbnddjgifcdaaDoorDrawTy
set_option linter.unusedVariables false
set_option linter.unusedSimpArgs false
set_option linter.unusedSectionVars false
set_option maxRecDepth 100000
namespace Go.Proofs.YtegbnddjgifcdaaDoor.Abs
open Go Go.Proofs
open Classical

namespace Ty
theorem szL_set {u : Ty} : ∀ {l : List Ty} {i : Nat} (h : i < l.length), szL (l.set i u) + l[i].sz = szL l + u.sz
  | t :: l, 0, h => by simp only [List.set_cons_zero, szL_cons, List.getElem_cons_zero]; omega
  | t :: l, i + 1, h => by
    have := szL_set (u := u) (l := l) (i := i) (by simpa using h)
    simp only [List.set_cons_succ, szL_cons, List.getElem_cons_succ]; omega
theorem wt_mk' {k n : Int} {l : List Ty} (hk : i64 k) (hn : i64 n) (hl : l.length ≤ 1048577) (h : ∀ t ∈ l, t.wt) : (Ty.mk k n l).wt := by
  rw [Ty.wt_def]; exact ⟨hk, hn, by unfold maxLen; rw [Ty.a_mk]; omega, h⟩
/-- As a bent type is. -/
def bent (t u : Ty) : Prop := u.wt ∧ u.sz ≤ t.sz + 10
theorem bent_kn {t : Ty} (h : t.wt) {k n : Int} (hk : i64 k) (hn : i64 n) : bent t (.mk k n t.a) := by
  obtain ⟨h1, h2, h3, h4⟩ := (wt_def t).1 h
  refine ⟨(wt_def _).2 ⟨hk, hn, h3, h4⟩, ?_⟩
  rw [sz_def, sz_def]; simp only [a_mk]; omega
theorem wrapped {t : Ty} (h : t.wt) (n : Nat) : ∃ u : Ty, u.wt ∧ u.sz = t.sz + 1 ∧ u.enc = .agg [.int .i64 6, .int .i64 0, .sl [t.enc]] := by
  refine ⟨.mk 6 0 [t], wt_mk (by unfold i64; omega) (by unfold i64; omega) (by simp) (by simpa using h), by rw [sz_def]; simp; omega, by rw [enc_def]; simp⟩
theorem szL_app (l m : List Ty) : szL (l ++ m) = szL l + szL m := by
  induction l with
  | nil => simp
  | cons t l ih => simp only [List.cons_append, szL_cons, ih]; omega
end Ty
theorem bend_loop {b : List UInt8} (i h p q : Int) : ∀ (m : Nat) (j : Int) (t : Ty), j + m = 5 → 0 ≤ j → t.wt → ∃ u : Ty, u.wt ∧ u.sz = t.sz + m ∧
    LL f_s_l1Bend 1 lc_s_l1Bend_1 [PSh.box [none, none, none]] k_s_l1Bend_1 (((), (), j, ()), (bytesC b, i, h, ()), (t.k, t.n, (), ()), t.a.map Ty.enc, (p, q, (), ()), [], ()) =
      some (.out 1 (((), (), 5, ()), (bytesC b, i, h, ()), (u.k, u.n, (), ()), u.a.map Ty.enc, (p, q, (), ()), [], ()))
  | 0, j, t, hj, h0, ht => by
    refine ⟨t, ht, rfl, ?_⟩
    apply gl_s_l1Bend_1
    unfold nl_s_l1Bend_1
    have : j = 5 := by omega
    subst this
    simp
  | m + 1, j, t, hj, h0, ht => by
    have hw : (Ty.mk 6 0 [t]).wt := Ty.wt_mk (by unfold i64; omega) (by unfold i64; omega) (by simp) (by simpa using ht)
    have hs : (Ty.mk 6 0 [t]).sz = t.sz + 1 := by rw [Ty.sz_def]; simp; omega
    obtain ⟨u, hu, hz, ih⟩ := bend_loop i h p q m (j + 1) (.mk 6 0 [t]) (by omega) (by omega) hw
    refine ⟨u, hu, by omega, ?_⟩
    apply gl_s_l1Bend_1
    unfold nl_s_l1Bend_1
    have e : decide (j < 5) = true := decide_eq_true (by omega)
    have w : IntKind.i64.wrap (j + 1) = j + 1 := by rw [wrap_i64] <;> omega
    simp only [Ty.k_mk, Ty.n_mk, Ty.a_mk, List.map_cons, List.map_nil] at ih
    simp only [e, br_true', w, ← Ty.enc_def]
    exact ih
set_option maxHeartbeats 4000000 in
theorem l1Bend_law {b : List UInt8} (hb : b.length ≤ 1048576) : ∀ t : Ty, t.ok → Draws b f_s_l1Bend [.v t.enc] fun c => ∃ u : Ty, c = u.enc ∧ t.bent u := Ty.ind fun t ih hok => by
  intro i h h0 h1
  obtain ⟨wk, wn, wl, wp⟩ := (Ty.wt_def t).1 hok.1
  have hcopy' : CC f_s_l1Copy [.v (.agg [.int .i64 t.k, .int .i64 t.n, .sl (t.a.map Ty.enc)])] [] = some (t.enc, []) := by rw [← Ty.enc_def]; exact l1Copy_law t hok
  have hlen := hok.len
  rw [Ty.enc_def]
  by_cases hlt : (0 : Int) < (t.a.length : Int)
  · have c1 : decide ((0 : Int) < ((t.a.map Ty.enc).length : Int)) = true := decide_eq_true (by simpa using hlt)
    obtain ⟨_, i0, g0, ⟨o, rfl⟩, a0, b0, e0⟩ := l1Once_law hb (n := 2) (by omega) (by omega) i h h0 h1
    cases o
    · obtain ⟨_, i1, g1, ⟨x, hx, rfl⟩, a1, b1, e1⟩ := l1Below_law hb (n := 5) (by omega) (by omega) i0 g0 a0 b0
      have hx5 : x = 0 ∨ x = 1 ∨ x = 2 ∨ x = 3 ∨ x = 4 := by omega
      rcases hx5 with rfl | rfl | rfl | rfl | rfl
      · obtain ⟨_, i2, g2, ⟨y, hy, rfl⟩, a2, b2, e2⟩ := l1Below_law hb (n := 8) (by omega) (by omega) i1 g1 a1 b1
        refine ⟨_, i2, g2, ⟨_, rfl, Ty.bent_kn hok.1 (k := y) (n := t.n) (by unfold i64; omega) wn⟩, a2, b2, ?_⟩
        apply go_s_l1Bend
        unfold nf_s_l1Bend
        unfold cur at e1 e2 e0
        simp only [hcopy', Int.cast_ofNat_Int, Int.reduceEq, decide_true, decide_false, Option.bind_some, Ty.enc_isAggN, Ty.enc_cell0, Ty.enc_cell1, Ty.enc_cell2, br_true', br_false', asSl_sl, c1, List.getElem?_cons_zero, List.getElem?_cons_succ, curL, cond_true, asBool_bool, asInt_int, Bool.and_true, loK_out, beq_self_eq_true, e0, e1, e2, isFlat_int]
        simp only [Ty.enc_def, Ty.k_mk, Ty.n_mk, Ty.a_mk, List.map_append, List.map_cons, List.map_nil]
      · obtain ⟨_, i2, g2, ⟨y, hy, rfl⟩, a2, b2, e2⟩ := l1Int_law hb (l := [0, 1, 2, -1]) (by decide) (by decide) i1 g1 a1 b1
        have hy2 : -1 ≤ y ∧ y ≤ 2 := by simp at hy; omega
        refine ⟨_, i2, g2, ⟨_, rfl, Ty.bent_kn hok.1 (k := t.k) (n := y) wk (by unfold i64; omega)⟩, a2, b2, ?_⟩
        apply go_s_l1Bend
        unfold nf_s_l1Bend
        simp only [List.map_cons, List.map_nil] at e2
        unfold cur at e1 e2 e0
        simp only [hcopy', Int.cast_ofNat_Int, Int.reduceEq, decide_true, decide_false, Option.bind_some, Ty.enc_isAggN, Ty.enc_cell0, Ty.enc_cell1, Ty.enc_cell2, br_true', br_false', asSl_sl, c1, List.getElem?_cons_zero, List.getElem?_cons_succ, curL, cond_true, asBool_bool, asInt_int, Bool.and_true, loK_out, beq_self_eq_true, e0, e1, e2, isFlat_int]
        simp only [Ty.enc_def, Ty.k_mk, Ty.n_mk, Ty.a_mk, List.map_append, List.map_cons, List.map_nil]
      · refine ⟨_, i1, g1, ⟨.mk t.k t.n (t.a ++ [.mk 1 0 []]), rfl, ?_⟩, a1, b1, ?_⟩
        · refine ⟨Ty.wt_mk' wk wn (by simp; omega) ?_, ?_⟩
          · intro y hy
            rcases List.mem_append.1 hy with hy | hy
            · exact wp y hy
            · simp at hy; subst hy; exact Ty.wt_mk (by unfold i64; omega) (by unfold i64; omega) (by simp) (by simp)
          · rw [Ty.sz_def, Ty.sz_def t]
            have hz : (Ty.mk 1 0 []).sz = 0 := by rw [Ty.sz_def]; simp
            simp only [Ty.a_mk, List.length_append, List.length_singleton, Ty.szL_app, Ty.szL_cons, Ty.szL_nil, hz]; omega
        · apply go_s_l1Bend
          unfold nf_s_l1Bend
          have z2 : decide ((t.a.map Ty.enc).length + 1 ≤ 4294967296) = true := decide_eq_true (by simp; omega)
          unfold cur at e1 e0
          simp only [hcopy', Int.cast_ofNat_Int, Int.reduceEq, decide_true, decide_false, Option.bind_some, Ty.enc_isAggN, Ty.enc_cell0, Ty.enc_cell1, Ty.enc_cell2, br_true', br_false', asSl_sl, c1, List.getElem?_cons_zero, List.getElem?_cons_succ, curL, cond_true, asBool_bool, asInt_int, Bool.and_true, loK_out, beq_self_eq_true, e0, e1, z2]
          simp only [Ty.enc_def, Ty.k_mk, Ty.n_mk, Ty.a_mk, List.map_append, List.map_cons, List.map_nil]
      · obtain ⟨u, hu, hz, e2⟩ := bend_loop (b := b) i1 g1 0 0 5 0 t (by omega) (by omega) hok.1
        refine ⟨_, i1, g1, ⟨u, rfl, hu, by omega⟩, a1, b1, ?_⟩
        apply go_s_l1Bend
        unfold nf_s_l1Bend
        unfold cur at e1 e0
        simp only [hcopy', Int.cast_ofNat_Int, Int.reduceEq, decide_true, decide_false, Option.bind_some, Ty.enc_isAggN, Ty.enc_cell0, Ty.enc_cell1, Ty.enc_cell2, br_true', br_false', asSl_sl, c1, List.getElem?_cons_zero, List.getElem?_cons_succ, curL, cond_true, asBool_bool, asInt_int, Bool.and_true, loK_out, beq_self_eq_true, e0, e1, e2]
        simp only [Ty.enc_def, Ty.k_mk, Ty.n_mk, Ty.a_mk]
      · refine ⟨_, i1, g1, ⟨_, rfl, Ty.bent_kn hok.1 (k := t.k) (n := t.n) wk wn⟩, a1, b1, ?_⟩
        apply go_s_l1Bend
        unfold nf_s_l1Bend
        unfold cur at e1 e0
        simp only [hcopy', Int.cast_ofNat_Int, Int.reduceEq, decide_true, decide_false, Option.bind_some, Ty.enc_isAggN, Ty.enc_cell0, Ty.enc_cell1, Ty.enc_cell2, br_true', br_false', asSl_sl, c1, List.getElem?_cons_zero, List.getElem?_cons_succ, curL, cond_true, asBool_bool, asInt_int, Bool.and_true, loK_out, beq_self_eq_true, e0, e1]
        simp only [Ty.enc_def, Ty.k_mk, Ty.n_mk, Ty.a_mk, List.map_append, List.map_cons, List.map_nil]
    · obtain ⟨_, i1, g1, ⟨x, hx, rfl⟩, a1, b1, e1⟩ := l1Below_law hb (n := (t.a.length : Int)) (by omega) (by omega) i0 g0 a0 b0
      have hxl : x < t.a.length := by omega
      obtain ⟨_, i2, g2, ⟨u, rfl, hu⟩, a2, b2, e2⟩ := ih t.a[x] (List.getElem_mem hxl) (hok.part (List.getElem_mem hxl)) i1 g1 a1 b1
      refine ⟨_, i2, g2, ⟨.mk t.k t.n (t.a.set x u), rfl, ?_⟩, a2, b2, ?_⟩
      · refine ⟨(Ty.wt_def _).2 ⟨wk, wn, by simpa using wl, fun y hy => ?_⟩, ?_⟩
        · rcases List.mem_or_eq_of_mem_set hy with hy | rfl
          · exact wp y hy
          · exact hu.1
        · have := Ty.szL_set (u := u) hxl
          have := hu.2
          rw [Ty.sz_def, Ty.sz_def t]; simp only [Ty.a_mk, List.length_set]; omega
      · apply go_s_l1Bend
        unfold nf_s_l1Bend
        have f1 : decide ((0 : Int) ≤ ((x : Nat) : Int)) = true := decide_eq_true (by omega)
        have f2 : decide (((x : Nat) : Int).toNat < (t.a.map Ty.enc).length) = true := decide_eq_true (by simpa using hxl)
        have f3 : (t.a.map Ty.enc)[((x : Nat) : Int).toNat]? = some t.a[x].enc := by simp [hxl]
        have f4 : (t.a.map Ty.enc).set ((x : Nat) : Int).toNat u.enc = (t.a.set x u).map Ty.enc := by simp [List.map_set]
        have f5 : (((t.a.map Ty.enc).length : Nat) : Int) = (t.a.length : Int) := by simp
        have f6 : decide ((0 : Int) < (t.a.length : Int)) = true := decide_eq_true hlt
        unfold cur at e0 e1 e2
        simp only [hcopy', Option.bind_some, Ty.enc_isAggN, Ty.enc_cell0, Ty.enc_cell1, Ty.enc_cell2, br_true', asSl_sl, c1, e0, List.getElem?_cons_zero, List.getElem?_cons_succ, curL, cond_true, Ty.enc_isAggN, Ty.enc_cell0, Ty.enc_cell1, Ty.enc_cell2, asBool_bool, f5, f6, e1, asIdx_int, f1, f2, Bool.and_true, f3, Ty.enc_sub, e2, Ty.enc_fits, f4]
        rw [Ty.enc_def]; simp only [Ty.k_mk, Ty.n_mk, Ty.a_mk]
  · have c1 : decide ((0 : Int) < ((t.a.map Ty.enc).length : Int)) = false := decide_eq_false (by simpa using hlt)
    obtain ⟨_, i1, g1, ⟨x, hx, rfl⟩, a1, b1, e1⟩ := l1Below_law hb (n := 5) (by omega) (by omega) i h h0 h1
    have hx5 : x = 0 ∨ x = 1 ∨ x = 2 ∨ x = 3 ∨ x = 4 := by omega
    rcases hx5 with rfl | rfl | rfl | rfl | rfl
    · obtain ⟨_, i2, g2, ⟨y, hy, rfl⟩, a2, b2, e2⟩ := l1Below_law hb (n := 8) (by omega) (by omega) i1 g1 a1 b1
      refine ⟨_, i2, g2, ⟨_, rfl, Ty.bent_kn hok.1 (k := y) (n := t.n) (by unfold i64; omega) wn⟩, a2, b2, ?_⟩
      apply go_s_l1Bend
      unfold nf_s_l1Bend
      unfold cur at e1 e2
      simp only [hcopy', Int.cast_ofNat_Int, Int.reduceEq, decide_true, decide_false, Option.bind_some, Ty.enc_isAggN, Ty.enc_cell0, Ty.enc_cell1, Ty.enc_cell2, br_true', br_false', asSl_sl, c1, List.getElem?_cons_zero, List.getElem?_cons_succ, curL, cond_true, asBool_bool, asInt_int, Bool.and_true, loK_out, beq_self_eq_true, e1, e2, isFlat_int]
      simp only [Ty.enc_def, Ty.k_mk, Ty.n_mk, Ty.a_mk, List.map_append, List.map_cons, List.map_nil]
    · obtain ⟨_, i2, g2, ⟨y, hy, rfl⟩, a2, b2, e2⟩ := l1Int_law hb (l := [0, 1, 2, -1]) (by decide) (by decide) i1 g1 a1 b1
      have hy2 : -1 ≤ y ∧ y ≤ 2 := by simp at hy; omega
      refine ⟨_, i2, g2, ⟨_, rfl, Ty.bent_kn hok.1 (k := t.k) (n := y) wk (by unfold i64; omega)⟩, a2, b2, ?_⟩
      apply go_s_l1Bend
      unfold nf_s_l1Bend
      simp only [List.map_cons, List.map_nil] at e2
      unfold cur at e1 e2
      simp only [hcopy', Int.cast_ofNat_Int, Int.reduceEq, decide_true, decide_false, Option.bind_some, Ty.enc_isAggN, Ty.enc_cell0, Ty.enc_cell1, Ty.enc_cell2, br_true', br_false', asSl_sl, c1, List.getElem?_cons_zero, List.getElem?_cons_succ, curL, cond_true, asBool_bool, asInt_int, Bool.and_true, loK_out, beq_self_eq_true, e1, e2, isFlat_int]
      simp only [Ty.enc_def, Ty.k_mk, Ty.n_mk, Ty.a_mk, List.map_append, List.map_cons, List.map_nil]
    · refine ⟨_, i1, g1, ⟨.mk t.k t.n (t.a ++ [.mk 1 0 []]), rfl, ?_⟩, a1, b1, ?_⟩
      · refine ⟨Ty.wt_mk' wk wn (by simp; omega) ?_, ?_⟩
        · intro y hy
          rcases List.mem_append.1 hy with hy | hy
          · exact wp y hy
          · simp at hy; subst hy; exact Ty.wt_mk (by unfold i64; omega) (by unfold i64; omega) (by simp) (by simp)
        · rw [Ty.sz_def, Ty.sz_def t]
          have hz : (Ty.mk 1 0 []).sz = 0 := by rw [Ty.sz_def]; simp
          simp only [Ty.a_mk, List.length_append, List.length_singleton, Ty.szL_app, Ty.szL_cons, Ty.szL_nil, hz]; omega
      · apply go_s_l1Bend
        unfold nf_s_l1Bend
        have z2 : decide ((t.a.map Ty.enc).length + 1 ≤ 4294967296) = true := decide_eq_true (by simp; omega)
        unfold cur at e1
        simp only [hcopy', Int.cast_ofNat_Int, Int.reduceEq, decide_true, decide_false, Option.bind_some, Ty.enc_isAggN, Ty.enc_cell0, Ty.enc_cell1, Ty.enc_cell2, br_true', br_false', asSl_sl, c1, List.getElem?_cons_zero, List.getElem?_cons_succ, curL, cond_true, asBool_bool, asInt_int, Bool.and_true, loK_out, beq_self_eq_true, e1, z2]
        simp only [Ty.enc_def, Ty.k_mk, Ty.n_mk, Ty.a_mk, List.map_append, List.map_cons, List.map_nil]
    · obtain ⟨u, hu, hz, e2⟩ := bend_loop (b := b) i1 g1 0 0 5 0 t (by omega) (by omega) hok.1
      refine ⟨_, i1, g1, ⟨u, rfl, hu, by omega⟩, a1, b1, ?_⟩
      apply go_s_l1Bend
      unfold nf_s_l1Bend
      unfold cur at e1
      simp only [hcopy', Int.cast_ofNat_Int, Int.reduceEq, decide_true, decide_false, Option.bind_some, Ty.enc_isAggN, Ty.enc_cell0, Ty.enc_cell1, Ty.enc_cell2, br_true', br_false', asSl_sl, c1, List.getElem?_cons_zero, List.getElem?_cons_succ, curL, cond_true, asBool_bool, asInt_int, Bool.and_true, loK_out, beq_self_eq_true, e1, e2]
      simp only [Ty.enc_def, Ty.k_mk, Ty.n_mk, Ty.a_mk]
    · refine ⟨_, i1, g1, ⟨_, rfl, Ty.bent_kn hok.1 (k := t.k) (n := t.n) wk wn⟩, a1, b1, ?_⟩
      apply go_s_l1Bend
      unfold nf_s_l1Bend
      unfold cur at e1
      simp only [hcopy', Int.cast_ofNat_Int, Int.reduceEq, decide_true, decide_false, Option.bind_some, Ty.enc_isAggN, Ty.enc_cell0, Ty.enc_cell1, Ty.enc_cell2, br_true', br_false', asSl_sl, c1, List.getElem?_cons_zero, List.getElem?_cons_succ, curL, cond_true, asBool_bool, asInt_int, Bool.and_true, loK_out, beq_self_eq_true, e1]
      simp only [Ty.enc_def, Ty.k_mk, Ty.n_mk, Ty.a_mk, List.map_append, List.map_cons, List.map_nil]
end Go.Proofs.YtegbnddjgifcdaaDoor.Abs

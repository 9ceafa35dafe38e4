/- Drawn types. -/
import Derived.Test.YtegbnddjgifcdaaDoorDrawLaws
import Derived.Test.YtegbnddjgifcdaaDoorTyD
set_option linter.unusedVariables false
set_option linter.unusedSimpArgs false
set_option linter.unusedSectionVars false
set_option maxRecDepth 100000
namespace Go.Proofs.YtegbnddjgifcdaaDoor.Abs
open Go Go.Proofs
open Classical

theorem l1Args_law {k n : Int} (h : k = 1 ∧ n = 0 ∨ k = 2 ∧ n = 0 ∨ k = 3 ∧ n = 0 ∨ k = 6 ∧ n = 1 ∨ k = 4 ∧ n = 2 ∨ k = 5 ∧ n = 2) : CC f_s_l1Args [.v (.int .i64 k)] [] = some (.int .i64 n, []) := by
  apply go_s_l1Args
  unfold nf_s_l1Args
  rcases h with ⟨rfl, rfl⟩ | ⟨rfl, rfl⟩ | ⟨rfl, rfl⟩ | ⟨rfl, rfl⟩ | ⟨rfl, rfl⟩ | ⟨rfl, rfl⟩ <;> simp
theorem l1Ty_loop {b : List UInt8} {d k n : Int} (hd0 : 0 ≤ d) (hd1 : d ≤ 100) (hn2 : n ≤ 2) (hk : CC f_s_l1Args [.v (.int .i64 k)] [] = some (.int .i64 n, [])) {P : Ty → Prop}
    (hrec : 0 < n → Draws b f_s_l1Ty [.v (.int .i64 (d - 1)), .v (.int .i64 2)] fun c => ∃ t : Ty, c = t.enc ∧ P t) (p q u v : Int) :
    ∀ (m : Nat) (pre : List Ty) (i h : Int), (pre.length : Int) + m = n → (∀ t ∈ pre, P t) → 0 ≤ i → i ≤ b.length → ∃ (l : List Ty) (i' h' : Int), (l.length : Int) = n ∧ (∀ t ∈ l, P t) ∧ 0 ≤ i' ∧ i' ≤ b.length ∧
      LL f_s_l1Ty 0 lc_s_l1Ty_0 [PSh.box [none, none, none]] k_s_l1Ty_0 (((), d, 2, (), k, (), (pre.length : Int), ()), (bytesC b, i, h, ()), (p, q, (), ()), [], (u, v, (), ()), pre.map Ty.enc, ()) =
        some (.out 0 (((), d, 2, (), k, (), n, ()), (bytesC b, i', h', ()), (p, q, (), ()), [], (u, v, (), ()), l.map Ty.enc, ()))
  | 0, pre, i, h, hm, hp, h0, h1 => by
    refine ⟨pre, i, h, by omega, hp, h0, h1, ?_⟩
    apply gl_s_l1Ty_0
    unfold nl_s_l1Ty_0
    have e : decide ((pre.length : Int) < n) = false := decide_eq_false (by omega)
    have e2 : (pre.length : Int) = n := by omega
    simp only [hk, Option.bind_some, asInt_int, e, br_false']
    rw [e2]
  | m + 1, pre, i, h, hm, hp, h0, h1 => by
    obtain ⟨_, i1, g1, ⟨t, rfl, ht⟩, a1, b1, e1⟩ := hrec (by omega) i h h0 h1
    obtain ⟨l, i', h', hl, hp', h0', h1', ih⟩ := l1Ty_loop hd0 hd1 hn2 hk hrec p q u v m (pre ++ [t]) i1 g1 (by simp; omega) (by
      intro x hx
      rcases List.mem_append.1 hx with hx | hx
      · exact hp x hx
      · simp at hx; exact hx ▸ ht) a1 b1
    refine ⟨l, i', h', hl, hp', h0', h1', ?_⟩
    apply gl_s_l1Ty_0
    unfold nl_s_l1Ty_0
    have e : decide ((pre.length : Int) < n) = true := decide_eq_true (by omega)
    have w1 : IntKind.i64.wrap (d - 1) = d - 1 := by rw [wrap_i64] <;> omega
    have w2 : IntKind.i64.wrap ((pre.length : Int) + 1) = ((pre ++ [t]).length : Int) := by rw [List.length_append, List.length_singleton, wrap_i64] <;> omega
    have e2 : decide ((pre.map Ty.enc).length + 1 ≤ 4294967296) = true := by simp; omega
    have e3 : pre.map Ty.enc ++ [t.enc] = (pre ++ [t]).map Ty.enc := by simp
    unfold cur at e1
    simp only [hk, Option.bind_some, asInt_int, e, br_true', w1, e1, List.getElem?_cons_zero, List.getElem?_cons_succ, curL, all1_enc, e2, Bool.and_true, asSl_sl, w2, e3]
    exact ih
theorem l1Ty_law {b : List UInt8} (hb : b.length ≤ 1048576) : ∀ d : Nat, d ≤ 50 → Draws b f_s_l1Ty [.v (.int .i64 d), .v (.int .i64 2)] fun c => ∃ t : Ty, c = t.enc ∧ tyD (d + 1) t := by
  intro d
  induction d using Nat.strongRecOn with
  | _ d ih => ?_
  intro hd i h h0 h1
  obtain ⟨_, i1, g1, ⟨k, hk, rfl⟩, a1, b1, e1⟩ := l1Int_law hb (l := [1, 1, 2, 4, 5, 6, 3]) (by decide) (by decide) i h h0 h1
  have hk1 : 1 ≤ k ∧ k ≤ 6 := by simp at hk; omega
  simp only [List.map_cons, List.map_nil] at e1
  unfold cur at e1
  by_cases hleaf : (d : Int) ≤ 1 ∧ 3 < k
  · obtain ⟨l, i', h', hl, hp', h0', h1', e2⟩ := l1Ty_loop (b := b) (d := d) (k := 1) (n := 0) (by omega) (by omega) (by omega) (l1Args_law (by omega)) (P := tyD d) (by omega) 0 0 1 0 0 [] i1 g1 (by simp) (by simp) a1 b1
    refine ⟨_, i', h', ⟨.mk 1 0 l, rfl, tyD_mk hl (by omega) (by omega) (by omega) hp'⟩, h0', h1', ?_⟩
    apply go_s_l1Ty
    unfold nf_s_l1Ty
    have d1 : decide (k = 3) = false := decide_eq_false (by omega)
    have d2 : decide (3 < k) = true := decide_eq_true (by omega)
    have d3 : decide ((d : Int) ≤ 1) = true := decide_eq_true (by omega)
    simp only [List.length_nil, List.map_nil, Int.cast_ofNat_Int] at e2
    simp only [e1, Option.bind_some, List.getElem?_cons_zero, List.getElem?_cons_succ, curL, asInt_int, asSl_sl, d1, d2, d3, br_true', br_false', e2, loK_out, beq_self_eq_true, Ty.enc_def, Ty.k_mk, Ty.n_mk, Ty.a_mk]
  · by_cases h3 : k = 3
    · obtain ⟨_, i2, g2, ⟨x, hx, rfl⟩, a2, b2, e3⟩ := l1Below_law hb (n := 2) (by omega) (by omega) i1 g1 a1 b1
      obtain ⟨l, i', h', hl, hp', h0', h1', e2⟩ := l1Ty_loop (b := b) (d := d) (k := 3) (n := 0) (by omega) (by omega) (by omega) (l1Args_law (by omega)) (P := tyD d) (by omega) 0 0 3 x 0 [] i2 g2 (by simp) (by simp) a2 b2
      refine ⟨_, i', h', ⟨.mk 3 x l, rfl, tyD_mk hl (by omega) (by omega) (by omega) hp'⟩, h0', h1', ?_⟩
      apply go_s_l1Ty
      unfold nf_s_l1Ty
      have d0 : decide ((2 : Int) = 0) = false := by decide
      have d2 : decide ((3 : Int) < 3) = false := by decide
      simp only [List.length_nil, List.map_nil, Int.cast_ofNat_Int] at e2
      unfold cur at e3
      subst h3
      cases hdd : decide ((d : Int) ≤ 1) <;>
        simp only [hdd, e1, Option.bind_some, List.getElem?_cons_zero, List.getElem?_cons_succ, curL, asInt_int, asSl_sl, d0, d2, decide_true, br_true', br_false', e2, e3, loK_out, beq_self_eq_true, Ty.enc_def, Ty.k_mk, Ty.n_mk, Ty.a_mk, isFlat_int, Bool.and_true]
    · have key : ∃ n : Int, CC f_s_l1Args [.v (.int .i64 k)] [] = some (.int .i64 n, []) ∧ 0 ≤ n ∧ n ≤ 2 ∧ (0 < n → 3 < k) := by
        have : k = 1 ∨ k = 2 ∨ k = 6 ∨ k = 4 ∨ k = 5 := by simp at hk; omega
        rcases this with rfl | rfl | rfl | rfl | rfl
        · exact ⟨0, l1Args_law (by omega), by omega, by omega, by omega⟩
        · exact ⟨0, l1Args_law (by omega), by omega, by omega, by omega⟩
        · exact ⟨1, l1Args_law (by omega), by omega, by omega, by omega⟩
        · exact ⟨2, l1Args_law (by omega), by omega, by omega, by omega⟩
        · exact ⟨2, l1Args_law (by omega), by omega, by omega, by omega⟩
      obtain ⟨n, hn, hn0, hn2, hn3⟩ := key
      obtain ⟨l, i', h', hl, hp', h0', h1', e2⟩ := l1Ty_loop (b := b) (d := d) (k := k) (n := n) (by omega) (by omega) (by omega) hn (P := tyD d) (by
        intro hpos
        have hd1 : 1 ≤ d := by omega
        have := ih (d - 1) (by omega) (by omega)
        rw [show d - 1 + 1 = d by omega, show ((d - 1 : Nat) : Int) = (d : Int) - 1 by omega] at this
        exact this) 0 0 k 0 n.toNat [] i1 g1 (by simp; omega) (by simp) a1 b1
      refine ⟨_, i', h', ⟨.mk k 0 l, rfl, tyD_mk hl (by omega) (by omega) (by omega) hp'⟩, h0', h1', ?_⟩
      apply go_s_l1Ty
      unfold nf_s_l1Ty
      have d1 : decide (k = 3) = false := decide_eq_false h3
      simp only [List.length_nil, List.map_nil, Int.cast_ofNat_Int] at e2
      cases hdd : decide ((d : Int) ≤ 1)
      · simp only [hdd, d1, e1, Option.bind_some, List.getElem?_cons_zero, List.getElem?_cons_succ, curL, asInt_int, asSl_sl, br_true', br_false', e2, loK_out, beq_self_eq_true, Ty.enc_def, Ty.k_mk, Ty.n_mk, Ty.a_mk, isFlat_int, Bool.and_true]
      · have d2 : decide (3 < k) = false := decide_eq_false (by have := of_decide_eq_true hdd; omega)
        simp only [hdd, d1, d2, e1, Option.bind_some, List.getElem?_cons_zero, List.getElem?_cons_succ, curL, asInt_int, asSl_sl, br_true', br_false', e2, loK_out, beq_self_eq_true, Ty.enc_def, Ty.k_mk, Ty.n_mk, Ty.a_mk, isFlat_int, Bool.and_true]
end Go.Proofs.YtegbnddjgifcdaaDoor.Abs

/- Lists of pairs: held against each other, and marks in them. -/
import Derived.Test.YtmjjaoffeajcbaaClashLaw
set_option linter.unusedVariables false
set_option linter.unusedSimpArgs false
set_option linter.unusedSectionVars false
set_option maxRecDepth 100000
namespace Go.Proofs.Ytmjjaoffeajcbaa.Abs
open Go Go.Proofs

@[simp] theorem ep_fits {x : Int × Int} : CVal.fits true 2 (ep x) = true := rfl
@[simp] theorem ep_sub {x : Int × Int} : (ep x).sub 0 2 = some (ep x) := rfl
theorem ep_cell0 {x : Int × Int} : (ep x).cell 0 = some (.int .i64 x.1) := rfl
theorem ep_cell1 {x : Int × Int} : (ep x).cell 1 = some (.int .i64 x.2) := rfl
theorem dd0 : (decide ((0 : Int) ≤ 0) && decide ((0 : Int) < 2) && true) = true := rfl
theorem dd1 : (decide ((0 : Int) ≤ 1) && decide ((1 : Int) < 2) && true) = true := rfl
theorem w01 : IntKind.i64.wrap ((0 : Int) + 1) = 1 := by rw [wrap_i64] <;> omega
theorem w12 : IntKind.i64.wrap ((1 : Int) + 1) = 2 := by rw [wrap_i64] <;> omega
theorem o0 : (0 : Nat) + (0 : Int).toNat * 1 = 0 := rfl
theorem o1 : (0 : Nat) + (1 : Int).toNat * 1 = 1 := rfl
theorem eqIntA2_law (x : Int × Int) : CC f_l_eqIntA2 [.v (ep x), .v (ep x)] [] = some (.bool true, []) := by
  have h2 : LL f_l_eqIntA2 0 lc_l_eqIntA2_0 [] k_l_eqIntA2_0 ((.fp (ep x) 0, .fp (ep x) 0, 2, ()), ()) = some (.out 0 ((.fp (ep x) 0, .fp (ep x) 0, 2, ()), ())) := by
    apply gl_l_eqIntA2_0
    unfold nl_l_eqIntA2_0
    rfl
  have h1 : LL f_l_eqIntA2 0 lc_l_eqIntA2_0 [] k_l_eqIntA2_0 ((.fp (ep x) 0, .fp (ep x) 0, 1, ()), ()) = some (.out 0 ((.fp (ep x) 0, .fp (ep x) 0, 2, ()), ())) := by
    apply gl_l_eqIntA2_0
    unfold nl_l_eqIntA2_0
    simp only [show decide ((1 : Int) < 2) = true from rfl, br_true', dd1, asFp_fp, Option.bind_some, o1, ep_cell1, asInt_int, decide_true, Bool.not_true, br_false', w12, Bool.and_true, show decide ((0 : Int) ≤ 1) = true from rfl]
    exact h2
  have h0 : LL f_l_eqIntA2 0 lc_l_eqIntA2_0 [] k_l_eqIntA2_0 ((.fp (ep x) 0, .fp (ep x) 0, 0, ()), ()) = some (.out 0 ((.fp (ep x) 0, .fp (ep x) 0, 2, ()), ())) := by
    apply gl_l_eqIntA2_0
    unfold nl_l_eqIntA2_0
    simp only [show decide ((0 : Int) < 2) = true from rfl, br_true', dd0, asFp_fp, Option.bind_some, o0, ep_cell0, asInt_int, decide_true, Bool.not_true, br_false', w01, Bool.and_true, show decide ((0 : Int) ≤ 0) = true from rfl]
    exact h1
  unfold ep at h0 ⊢
  apply go_l_eqIntA2
  unfold nf_l_eqIntA2
  rw [h0]
  rfl
theorem eqIntA2S_loop : ∀ (suf pre : List (Int × Int)), (pre ++ suf).length ≤ 1048576 →
    LL f_l_eqIntA2S 0 lc_l_eqIntA2S_0 [] k_l_eqIntA2S_0 (((pre ++ suf).map ep, (pre ++ suf).map ep, (pre.length : Int), ()), ()) =
      some (.out 0 (((pre ++ suf).map ep, (pre ++ suf).map ep, ((pre ++ suf).length : Int), ()), ()))
  | [], pre, hl => by
    apply gl_l_eqIntA2S_0
    unfold nl_l_eqIntA2S_0
    rw [lt_end]
    simp
  | t :: suf, pre, hl => by
    have ih := eqIntA2S_loop suf (pre ++ [t]) (by simpa using hl)
    simp only [List.append_assoc, List.singleton_append] at ih
    apply gl_l_eqIntA2S_0
    unfold nl_l_eqIntA2S_0
    rw [lt_mid, nn_mid, get_mid, wrap_mid pre suf t hl]
    simp only [br_true', Option.bind_some, ep_fits, ep_sub, eqIntA2_law, asBool_bool, Bool.not_true, br_false']
    exact ih
theorem eqIntA2S_law {ts : List (Int × Int)} (hl : ts.length ≤ 1048576) : CC f_l_eqIntA2S [.v (.sl (ts.map ep)), .v (.sl (ts.map ep))] [] = some (.bool true, []) := by
  apply go_l_eqIntA2S
  unfold nf_l_eqIntA2S
  have hloop := eqIntA2S_loop ts [] (by simpa using hl)
  simp only [List.nil_append, List.length_nil, Int.cast_ofNat_Int] at hloop
  simp only [hloop, decide_true, Bool.not_true, br_false', Option.bind_some, loK_out]
  rfl
/-- So many pairs of marks. -/
def markPL : Nat → Int → List (Int × Int)
  | 0, _ => []
  | n + 1, k => (k, k + 1) :: markPL n (k + 2)
@[simp] theorem markPL_len : ∀ {n : Nat} {k : Int}, (markPL n k).length = n
  | 0, _ => rfl
  | n + 1, k => by simp [markPL, markPL_len (n := n)]
theorem ep_nofits {x : Int × Int} {b : Bool} : (b && CVal.fits false 1 (ep x)) = false := by simp [ep, CVal.fits, CVal.isFlat]
theorem ep_isAgg {x : Int × Int} : (ep x).isAgg = true := rfl
theorem ep_cells {x : Int × Int} : (ep x).cells = [.int .i64 x.1, .int .i64 x.2] := rfl
theorem spA {a b z : CVal} : splice [a, b] 0 [z] = [z, b] := rfl
theorem spB {a b z : CVal} : splice [a, b] 1 [z] = [a, z] := rfl
theorem markA2_row (done : List CVal) (x : Int × Int) (r : List CVal) (k : Int) (h0 : 0 ≤ k) (hk : k ≤ 1000000000) :
    LL f_l_markIntA2S 2 lc_l_markIntA2S_2 [PSh.arr ⟨true, true, 0⟩ false 2] k_l_markIntA2S_2 (((), k, (done.length : Int), 0, ()), done ++ ep x :: r, ()) =
      some (.out 2 (((), k + 2, (done.length : Int), 2, ()), done ++ ep (k, k + 1) :: r, ())) := by
  have e0 : ((done.length : Nat) : Int).toNat = done.length := by simp
  have w1 : IntKind.i64.wrap (k + 1) = k + 1 := by rw [wrap_i64] <;> omega
  have w2 : IntKind.i64.wrap (k + 1 + 1) = k + 2 := by rw [wrap_i64] <;> omega
  have h2 : LL f_l_markIntA2S 2 lc_l_markIntA2S_2 [PSh.arr ⟨true, true, 0⟩ false 2] k_l_markIntA2S_2 (((), k + 2, (done.length : Int), 2, ()), done ++ ep (k, k + 1) :: r, ()) =
      some (.out 2 (((), k + 2, (done.length : Int), 2, ()), done ++ ep (k, k + 1) :: r, ())) := by
    apply gl_l_markIntA2S_2
    unfold nl_l_markIntA2S_2
    rfl
  have h1 : LL f_l_markIntA2S 2 lc_l_markIntA2S_2 [PSh.arr ⟨true, true, 0⟩ false 2] k_l_markIntA2S_2 (((), k + 1, (done.length : Int), 1, ()), done ++ ep (k, x.2) :: r, ()) =
      some (.out 2 (((), k + 2, (done.length : Int), 2, ()), done ++ ep (k, k + 1) :: r, ())) := by
    apply gl_l_markIntA2S_2
    unfold nl_l_markIntA2S_2
    simp only [show decide ((1 : Int) < 2) = true from rfl, br_true', nn_mid, e0, lt_done, get_done, set_done, Bool.and_true, dd1, show decide ((0 : Int) ≤ 1) = true from rfl, Bool.and_self, Option.bind_some, ep_nofits, br_false', ep_isAgg, ep_cells, o1, spB, List.length_cons, List.length_nil, Bool.true_and, w2, w12, show decide ((1 : Nat) + 1 ≤ 0 + 1 + 1) = true from rfl, show decide ((0 : Int) ≤ (done.length : Int)) = true from by simp]
    exact h2
  apply gl_l_markIntA2S_2
  unfold nl_l_markIntA2S_2
  simp only [show decide ((0 : Int) < 2) = true from rfl, br_true', nn_mid, e0, lt_done, get_done, set_done, Bool.and_true, dd0, show decide ((0 : Int) ≤ 0) = true from rfl, Bool.and_self, Option.bind_some, ep_nofits, br_false', ep_isAgg, ep_cells, o0, spA, List.length_cons, List.length_nil, Bool.true_and, w1, w01, show decide ((0 : Nat) + 1 ≤ 0 + 1 + 1) = true from rfl, show decide ((0 : Int) ≤ (done.length : Int)) = true from by simp]
  exact h1
theorem markA2_loop : ∀ (suf : List (Int × Int)) (done : List CVal) (k : Int), done.length + suf.length ≤ 1000000 → 0 ≤ k → k + 2 * suf.length ≤ 1000000000 →
    LL f_l_markIntA2S 0 lc_l_markIntA2S_0 [PSh.arr ⟨true, true, 0⟩ false 2] k_l_markIntA2S_0 (((), k, (done.length : Int), ()), done ++ suf.map ep, ()) =
      some (.out 0 (((), k + 2 * suf.length, ((done.length + suf.length : Nat) : Int), ()), done ++ (markPL suf.length k).map ep, ()))
  | [], done, k, hl, h0, hb => by
    apply gl_l_markIntA2S_0
    unfold nl_l_markIntA2S_0
    simp [markPL]
  | s :: suf, done, k, hl, h0, hb => by
    simp only [List.length_cons] at hl hb
    have ih := markA2_loop suf (done ++ [ep (k, k + 1)]) (k + 2) (by simp; omega) (by omega) (by omega)
    simp only [List.append_assoc, List.singleton_append] at ih
    have w3 : IntKind.i64.wrap ((done.length : Int) + 1) = ((done ++ [ep (k, k + 1)]).length : Int) := by rw [wrap_i64 (by omega) (by omega)]; simp
    have hr := markA2_row done s (suf.map ep) k h0 (by omega)
    apply gl_l_markIntA2S_0
    unfold nl_l_markIntA2S_0
    rw [List.map_cons, lti_done, hr]
    simp only [br_true', Option.bind_some, loK_out, beq_self_eq_true, w3]
    rw [ih]
    simp only [List.length_append, List.length_cons, List.length_nil, markPL, List.map_cons]
    have e5 : k + 2 + 2 * (suf.length : Int) = k + 2 * ((suf.length + 1 : Nat) : Int) := by omega
    have e7 : done.length + (0 + 1) + suf.length = done.length + (suf.length + 1) := by omega
    rw [e5, e7]
theorem markA2_law {l : List (Int × Int)} (hl : l.length ≤ 1000000) (k : Int) (h0 : 0 ≤ k) (hb : k + 2 * l.length ≤ 1000000000) :
    CC f_l_markIntA2S [.lref 0 0, .v (.int .i64 k)] [PB.arr ⟨true, true, 0⟩ false 2 (l.map ep)] = some (.int .i64 (k + 2 * l.length), [(markPL l.length k).map ep]) := by
  have hloop := markA2_loop l [] k (by simpa using hl) h0 hb
  simp only [List.nil_append, List.length_nil, Int.cast_ofNat_Int] at hloop
  apply go_l_markIntA2S
  unfold nf_l_markIntA2S
  rw [hloop]
  rfl
theorem heldA2_row (done r : List CVal) (k : Int) (h0 : 0 ≤ k) (hk : k ≤ 1000000000) :
    LL f_l_heldIntA2S 2 lc_l_heldIntA2S_2 [] k_l_heldIntA2S_2 ((done ++ ep (k, k + 1) :: r, k, (done.length : Int), 0, ()), ()) =
      some (.out 2 ((done ++ ep (k, k + 1) :: r, k + 2, (done.length : Int), 2, ()), ())) := by
  have e0 : ((done.length : Nat) : Int).toNat = done.length := by simp
  have w1 : IntKind.i64.wrap (k + 1) = k + 1 := by rw [wrap_i64] <;> omega
  have w2 : IntKind.i64.wrap (k + 1 + 1) = k + 2 := by rw [wrap_i64] <;> omega
  have h2 : LL f_l_heldIntA2S 2 lc_l_heldIntA2S_2 [] k_l_heldIntA2S_2 ((done ++ ep (k, k + 1) :: r, k + 2, (done.length : Int), 2, ()), ()) =
      some (.out 2 ((done ++ ep (k, k + 1) :: r, k + 2, (done.length : Int), 2, ()), ())) := by
    apply gl_l_heldIntA2S_2
    unfold nl_l_heldIntA2S_2
    rfl
  have h1 : LL f_l_heldIntA2S 2 lc_l_heldIntA2S_2 [] k_l_heldIntA2S_2 ((done ++ ep (k, k + 1) :: r, k + 1, (done.length : Int), 1, ()), ()) =
      some (.out 2 ((done ++ ep (k, k + 1) :: r, k + 2, (done.length : Int), 2, ()), ())) := by
    apply gl_l_heldIntA2S_2
    unfold nl_l_heldIntA2S_2
    simp only [show decide ((1 : Int) < 2) = true from rfl, br_true', nn_mid, e0, get_done, Bool.and_true, dd1, show decide ((0 : Int) ≤ 1) = true from rfl, Bool.and_self, Option.bind_some, ep_fits, o1, ep_cell1, asInt_int, decide_true, Bool.not_true, br_false', w2, w12, show decide ((0 : Int) ≤ (done.length : Int)) = true from by simp]
    exact h2
  apply gl_l_heldIntA2S_2
  unfold nl_l_heldIntA2S_2
  simp only [show decide ((0 : Int) < 2) = true from rfl, br_true', nn_mid, e0, get_done, Bool.and_true, dd0, show decide ((0 : Int) ≤ 0) = true from rfl, Bool.and_self, Option.bind_some, ep_fits, o0, ep_cell0, asInt_int, decide_true, Bool.not_true, br_false', w1, w01, show decide ((0 : Int) ≤ (done.length : Int)) = true from by simp]
  exact h1
theorem heldA2_loop : ∀ (n : Nat) (done : List CVal) (k : Int), done.length + n ≤ 1000000 → 0 ≤ k → k + 2 * n ≤ 1000000000 →
    LL f_l_heldIntA2S 0 lc_l_heldIntA2S_0 [] k_l_heldIntA2S_0 ((done ++ (markPL n k).map ep, k, (done.length : Int), ()), ()) =
      some (.out 0 ((done ++ (markPL n k).map ep, k + 2 * n, ((done.length + n : Nat) : Int), ()), ()))
  | 0, done, k, hl, h0, hb => by
    apply gl_l_heldIntA2S_0
    unfold nl_l_heldIntA2S_0
    simp [markPL]
  | n + 1, done, k, hl, h0, hb => by
    have ih := heldA2_loop n (done ++ [ep (k, k + 1)]) (k + 2) (by simp; omega) (by omega) (by omega)
    simp only [List.append_assoc, List.singleton_append] at ih
    have w3 : IntKind.i64.wrap ((done.length : Int) + 1) = ((done ++ [ep (k, k + 1)]).length : Int) := by rw [wrap_i64 (by omega) (by omega)]; simp
    have hr := heldA2_row done ((markPL n (k + 2)).map ep) k h0 (by omega)
    apply gl_l_heldIntA2S_0
    unfold nl_l_heldIntA2S_0
    rw [show (markPL (n + 1) k).map ep = ep (k, k + 1) :: (markPL n (k + 2)).map ep from rfl, lti_done, hr]
    simp only [br_true', Option.bind_some, loK_out, beq_self_eq_true, w3]
    rw [ih]
    simp only [List.length_append, List.length_cons, List.length_nil]
    have e5 : k + 2 + 2 * (n : Int) = k + 2 * ((n + 1 : Nat) : Int) := by omega
    have e7 : done.length + (0 + 1) + n = done.length + (n + 1) := by omega
    rw [e5, e7]
theorem heldA2_law (n : Nat) (hl : n ≤ 1000000) (k : Int) (h0 : 0 ≤ k) (hb : k + 2 * n ≤ 1000000000) :
    CC f_l_heldIntA2S [.v (.sl ((markPL n k).map ep)), .v (.int .i64 k)] [] = some (.int .i64 (k + 2 * n), []) := by
  have hloop := heldA2_loop n [] k (by simpa using hl) h0 hb
  simp only [List.nil_append, List.length_nil, Int.cast_ofNat_Int] at hloop
  apply go_l_heldIntA2S
  unfold nf_l_heldIntA2S
  rw [hloop]
  rfl
end Go.Proofs.Ytmjjaoffeajcbaa.Abs

/- Lists of lists of numbers: what is made of them, and their size. -/
import Derived.Test.YtmjjaoffeajcbaaIntsFns
set_option linter.unusedVariables false
set_option linter.unusedSimpArgs false
set_option maxRecDepth 100000
namespace Go.Proofs.Ytmjjaoffeajcbaa.Abs
open Go Go.Proofs

def ei (l : List Int) : CVal := .sl (l.map (.int .i64))
def SzSS (l : List (List Int)) : Nat := (l.map List.length).sum
theorem SzSS_cons {x : List Int} {l : List (List Int)} : SzSS (x :: l) = x.length + SzSS l := by simp [SzSS]
theorem SzSS_mem {x : List Int} : ∀ {l : List (List Int)}, x ∈ l → x.length ≤ SzSS l
  | [], h => by cases h
  | y :: l, h => by
    rw [SzSS_cons]
    rcases List.mem_cons.1 h with e | e
    · subst e; omega
    · have := SzSS_mem e; omega
@[simp] theorem ei_fits {l : List Int} : CVal.fits false 1 (ei l) = true := rfl
@[simp] theorem ei_cell {l : List Int} : (ei l).cell 0 = some (ei l) := rfl
@[simp] theorem ei_asSl {l : List Int} : (ei l).asSl = some (l.map (.int .i64)) := rfl
@[simp] theorem ei_flat {l : List Int} : (ei l).isFlat = true := rfl
theorem szIntSS_loop : ∀ (suf pre : List (List Int)) (l : Int), (pre ++ suf).length ≤ 1048576 → (∀ t ∈ suf, t.length ≤ maxLen) → 0 ≤ l → l ≤ 1048576 →
    LL f_l_szIntSS 0 lc_l_szIntSS_0 [] k_l_szIntSS_0 (((pre ++ suf).map ei, l, (pre.length : Int), ()), ()) =
      some (if l < (SzSS suf : Int) then .ret (.int .i64 (-1), []) else .out 0 (((pre ++ suf).map ei, l - SzSS suf, ((pre ++ suf).length : Int), ()), ()))
  | [], pre, l, hl, h, h0, h1 => by
    apply gl_l_szIntSS_0
    unfold nl_l_szIntSS_0
    rw [lt_end]
    have : ¬ l < 0 := by omega
    simp [this, SzSS]
  | t :: suf, pre, l, hl, h, h0, h1 => by
    have ht := szIntS_law (h t (by simp)) l h0 h1
    apply gl_l_szIntSS_0
    unfold nl_l_szIntSS_0
    rw [lt_mid, nn_mid, get_mid, wrap_mid pre suf t hl]
    simp only [br_true', Option.bind_some, ei_fits, ei_cell]
    unfold ei at ht ⊢
    simp only [ht, Option.bind_some, asInt_int]
    rw [SzSS_cons]
    by_cases hn : l < (t.length : Int)
    · rw [if_pos (by omega), show decide (left l t.length < 0) = true from decide_eq_true ((left_neg h0).2 hn)]
      rfl
    · have h3 : ¬ left l t.length < 0 := fun hc => hn ((left_neg h0).1 hc)
      have ih := szIntSS_loop suf (pre ++ [t]) (l - t.length) (by simpa using hl) (fun u hu => h u (by simp [hu])) (by omega) (by omega)
      simp only [List.append_assoc, List.singleton_append] at ih
      rw [left_ok hn] at h3 ⊢
      simp only [h3, decide_false, br_false']
      unfold ei at ih
      rw [ih]
      have e : (l - (t.length : Int) < (SzSS suf : Int)) ↔ (l < ((t.length + SzSS suf : Nat) : Int)) := by omega
      have e2 : l - (t.length : Int) - (SzSS suf : Int) = l - ((t.length + SzSS suf : Nat) : Int) := by omega
      simp only [e, e2]
theorem szIntSS_law {ts : List (List Int)} (hl : ts.length ≤ maxLen) (h : ∀ t ∈ ts, t.length ≤ maxLen) (l : Int) (h0 : 0 ≤ l) (h1 : l ≤ 1048576) :
    CC f_l_szIntSS [.v (.sl (ts.map ei)), .v (.int .i64 l)] [] = some (.int .i64 (left l (ts.length + SzSS ts)), []) := by
  apply go_l_szIntSS
  unfold nf_l_szIntSS
  have hw : IntKind.i64.wrap (l - ((ts.map ei).length : Int)) = l - (ts.length : Int) := by
    unfold maxLen at hl
    rw [List.length_map, wrap_i64] <;> omega
  rw [hw]
  by_cases hs : l < (ts.length : Int)
  · have : l - (ts.length : Int) < 0 := by omega
    have h2 : left l (ts.length + SzSS ts) = -1 := by unfold left; rw [if_pos (by omega)]
    simp [this, h2]
  · have h3 : ¬ l - (ts.length : Int) < 0 := by omega
    have hloop := szIntSS_loop ts [] (l - ts.length) (by simp; omega) h (by omega) (by omega)
    simp only [List.nil_append, List.length_nil] at hloop
    simp only [h3, decide_false, br_false']
    rw [show ((0 : Int)) = ((0 : Nat) : Int) from rfl, hloop]
    by_cases h4 : l - (ts.length : Int) < (SzSS ts : Int)
    · have h2 : left l (ts.length + SzSS ts) = -1 := by unfold left; rw [if_pos (by omega)]
      simp [h4, h2]
    · have h2 : left l (ts.length + SzSS ts) = l - (ts.length : Int) - (SzSS ts : Int) := by unfold left; rw [if_neg (by omega)]; omega
      simp [h4, h2]
theorem toIntSS_loop : ∀ (suf pre : List (List Int)) (zs : List CVal), (pre ++ suf).length ≤ 1048576 → (∀ t ∈ suf, t.length ≤ 1048576) → zs.length = suf.length → (∀ z ∈ zs, z.isFlat = true) →
    LL f_l_toIntSS 0 lc_l_toIntSS_0 [] k_l_toIntSS_0 (((pre ++ suf).map ei, (), (pre.length : Int), ()), pre.map ei ++ zs, ()) =
      some (.out 0 (((pre ++ suf).map ei, (), ((pre ++ suf).length : Int), ()), (pre ++ suf).map ei, ()))
  | [], pre, zs, hl, h, hz, hs => by
    apply gl_l_toIntSS_0
    unfold nl_l_toIntSS_0
    rw [lt_end]
    have : zs = [] := List.eq_nil_of_length_eq_zero (by simpa using hz)
    subst this
    simp
  | t :: suf, pre, [], hl, h, hz, hs => by simp at hz
  | t :: suf, pre, z :: zs, hl, h, hz, hs => by
    have ht := toIntS_law (h t (by simp))
    have hz0 := hs z (by simp)
    have e1 : (pre.map ei ++ z :: zs)[((pre.length : Nat) : Int).toNat]? = some z := by simp
    have e2 : (pre.map ei ++ z :: zs).set ((pre.length : Nat) : Int).toNat (.sl (t.map (.int .i64))) = (pre ++ [t]).map ei ++ zs := by
      simp [List.set_append, ei]
    have e3 : decide (((pre.length : Nat) : Int).toNat < (pre.map ei ++ z :: zs).length) = true := by simp
    have ih := toIntSS_loop suf (pre ++ [t]) zs (by simpa using hl) (fun u hu => h u (by simp [hu])) (by simpa using hz) (fun z hz => hs z (by simp [hz]))
    simp only [List.append_assoc, List.singleton_append] at ih
    apply gl_l_toIntSS_0
    unfold nl_l_toIntSS_0
    rw [lt_mid, nn_mid, get_mid, wrap_mid pre suf t hl, e1, e3]
    simp only [br_true', Option.bind_some, ei_fits, ei_cell]
    rw [show CC f_l_toIntS [.v (ei t)] [] = some (.sl (t.map (.int .i64)), []) from ht]
    simp only [br_true', Option.bind_some, isFlat_sl, asSl_sl, Bool.and_true, fits_flat hz0, e2]
    exact ih
theorem toIntSS_law {ts : List (List Int)} (hl : ts.length ≤ 1048576) (h : ∀ t ∈ ts, t.length ≤ 1048576) : CC f_l_toIntSS [.v (.sl (ts.map ei))] [] = some (.sl (ts.map ei), []) := by
  apply go_l_toIntSS
  unfold nf_l_toIntSS
  have hloop := toIntSS_loop ts [] (List.replicate ts.length (.sl [])) (by simpa using hl) h (by simp) (fun z hz => by rw [List.eq_of_mem_replicate hz]; rfl)
  simp only [List.nil_append, List.length_nil, List.map_nil, Int.cast_ofNat_Int] at hloop
  simp only [List.length_map, Int.toNat_natCast, hloop, decide_true, Bool.true_and, show decide ((ts.length : Int) ≤ 1048576) = true by simpa using (by omega), br_true', Option.bind_some, loK_out]
  rfl
theorem eqIntSS_loop : ∀ (suf pre : List (List Int)), (pre ++ suf).length ≤ 1048576 → (∀ t ∈ suf, t.length ≤ 1048576) →
    LL f_l_eqIntSS 0 lc_l_eqIntSS_0 [] k_l_eqIntSS_0 (((pre ++ suf).map ei, (pre ++ suf).map ei, (pre.length : Int), ()), ()) =
      some (.out 0 (((pre ++ suf).map ei, (pre ++ suf).map ei, ((pre ++ suf).length : Int), ()), ()))
  | [], pre, hl, h => by
    apply gl_l_eqIntSS_0
    unfold nl_l_eqIntSS_0
    rw [lt_end]
    simp
  | t :: suf, pre, hl, h => by
    have ht := eqIntS_law (h t (by simp))
    have ih := eqIntSS_loop suf (pre ++ [t]) (by simpa using hl) (fun u hu => h u (by simp [hu]))
    simp only [List.append_assoc, List.singleton_append] at ih
    apply gl_l_eqIntSS_0
    unfold nl_l_eqIntSS_0
    rw [lt_mid, nn_mid, get_mid, wrap_mid pre suf t hl]
    simp only [br_true', Option.bind_some, ei_fits, ei_cell]
    rw [show CC f_l_eqIntS [.v (ei t), .v (ei t)] [] = some (.bool true, []) from ht]
    simp only [Option.bind_some, asBool_bool, Bool.not_true, br_false']
    exact ih
theorem eqIntSS_law {ts : List (List Int)} (hl : ts.length ≤ 1048576) (h : ∀ t ∈ ts, t.length ≤ 1048576) : CC f_l_eqIntSS [.v (.sl (ts.map ei)), .v (.sl (ts.map ei))] [] = some (.bool true, []) := by
  apply go_l_eqIntSS
  unfold nf_l_eqIntSS
  have hloop := eqIntSS_loop ts [] (by simpa using hl) h
  simp only [List.nil_append, List.length_nil, Int.cast_ofNat_Int] at hloop
  simp only [hloop, decide_true, Bool.not_true, br_false', Option.bind_some, loK_out]
  rfl
end Go.Proofs.Ytmjjaoffeajcbaa.Abs

/- The text of an instruction. -/
import Derived.Test.YtomkegeojknihaaDoorIntText
import Derived.Test.YtomkegeojknihaaDoorInsFns
set_option linter.unusedVariables false
set_option linter.unusedSectionVars false
set_option linter.unusedSimpArgs false
namespace Go.Proofs.YtomkegeojknihaaDoor.Abs
open Go Go.Proofs

/-- Numbers as texts, each with a space ahead. -/
def spaced : List Int → List UInt8
  | [] => []
  | n :: r => (32 : UInt8) :: (Lib.itoa n ++ spaced r)
theorem spaced_len : ∀ (l : List Int), (∀ n ∈ l, i64 n) → (spaced l).length ≤ 22 * l.length
  | [], _ => by simp [spaced]
  | n :: r, h => by
    have h1 := itoa_len n (h n (by simp))
    have h2 := spaced_len r fun m hm => h m (by simp [hm])
    simp only [spaced, List.length_cons, List.length_append]; omega
theorem spaced_append (l r : List Int) : spaced (l ++ r) = spaced l ++ spaced r := by
  induction l with
  | nil => rfl
  | cons n l ih => simp [spaced, ih]
def insText (i : Ins) : List UInt8 := Lib.itoa i.op ++ spaced ([i.d, i.x, i.y, i.n, i.to] ++ i.l)
theorem insText_sloop (i : Ins) : ∀ (suf pre : List Int) (acc : List UInt8), i.l = pre ++ suf → i.l.length ≤ 1048576 → (∀ n ∈ i.l, i64 n) → acc.length ≤ 200 + 22 * pre.length →
    ∃ q, LL f_s_InsText 0 lc_s_InsText_0 [] k_s_InsText_0 (((), acc, (pre.length : Int), ()), (i.op, i.d, i.x, i.y, i.n, i.l.map (.int .i64), i.to, ()), ()) =
      some (.out 0 (((), acc ++ spaced suf, q, ()), (i.op, i.d, i.x, i.y, i.n, i.l.map (.int .i64), i.to, ()), ()))
  | [], pre, acc, he, hl, hw, ha => by
    refine ⟨(pre.length : Int), ?_⟩
    apply gl_s_InsText_0
    unfold nl_s_InsText_0
    have : decide ((pre.length : Int) < (((i.l.map (CVal.int .i64)).length : Nat) : Int)) = false := by rw [he]; simp
    rw [this]; simp [spaced]
  | x :: suf, pre, acc, he, hl, hw, ha => by
    have hx : i64 x := hw x (by rw [he]; simp)
    have hxl := itoa_len x hx
    have hpl : pre.length ≤ 1048576 := by rw [he] at hl; simp at hl; omega
    obtain ⟨q, ih⟩ := insText_sloop i suf (pre ++ [x]) (acc ++ [32] ++ Lib.itoa x) (by simp [he]) hl hw (by simp only [List.length_append, List.length_cons, List.length_nil]; omega)
    refine ⟨q, ?_⟩
    apply gl_s_InsText_0
    unfold nl_s_InsText_0
    have h1 : decide ((pre.length : Int) < (((i.l.map (CVal.int .i64)).length : Nat) : Int)) = true := by rw [he]; simp; omega
    have hl' : (pre ++ x :: suf).length ≤ 1048576 := by rw [← he]; exact hl
    have h2 : (i.l.map (CVal.int .i64))[((pre.length : Nat) : Int).toNat]? = some (.int .i64 x) := by rw [he]; exact get_mid _ _ _ _
    rw [h1, nn_mid, h2, wrap_mid pre suf x hl', decide_eq_true (show acc.length + 1 ≤ 1152921504606846976 by omega)]
    simp only [br_true', Option.bind_some, fits_int, cell_int, l9Int_law x hx, asStr_str]
    have h3 : (acc ++ [32]).length + (Lib.itoa x).length ≤ 1152921504606846976 := by simp only [List.length_append, List.length_cons, List.length_nil]; omega
    simp only [h3, decide_true, br_true']
    refine Eq.trans ih ?_
    simp [spaced]
theorem wt_ins {i : Ins} (hok : i.ok) : (i64 i.op ∧ i64 i.d ∧ i64 i.x ∧ i64 i.y ∧ i64 i.n ∧ i64 i.to) ∧ ∀ n ∈ i.l, i64 n := by
  have h := (Ins.wt_def i).1 hok.1
  exact ⟨⟨h.1, h.2.1, h.2.2.1, h.2.2.2.1, h.2.2.2.2.1, h.2.2.2.2.2.2⟩, h.2.2.2.2.2.1.2⟩
theorem lenOk {n : Nat} (h : n ≤ 1000000000) : decide (n ≤ 1152921504606846976) = true := decide_eq_true (by omega)
theorem InsText_s {i : Ins} (hok : i.ok) : CC f_s_InsText [.v i.enc] [] = some (.str (insText i), []) := by
  obtain ⟨⟨h1, h2, h3, h4, h5, h6⟩, hl⟩ := wt_ins hok
  have l1 := itoa_len _ h1
  have l2 := itoa_len _ h2
  have l3 := itoa_len _ h3
  have l4 := itoa_len _ h4
  have l5 := itoa_len _ h5
  have l6 := itoa_len _ h6
  rw [Ins.enc_def]
  apply go_s_InsText
  unfold nf_s_InsText
  simp only [l9Int_law _ h1, l9Int_law _ h2, l9Int_law _ h3, l9Int_law _ h4, l9Int_law _ h5, l9Int_law _ h6, Option.bind_some, asStr_str]
  simp (disch := ((try simp only [List.length_append, List.length_cons, List.length_nil]); omega)) only [lenOk, br_true']
  generalize hacc : (Lib.itoa i.op ++ [(32 : UInt8)] ++ Lib.itoa i.d ++ [(32 : UInt8)] ++ Lib.itoa i.x ++ [(32 : UInt8)] ++ Lib.itoa i.y ++ [(32 : UInt8)] ++ Lib.itoa i.n ++ [(32 : UInt8)] ++ Lib.itoa i.to) = acc
  have ha : acc.length ≤ 200 := by rw [← hacc]; simp only [List.length_append, List.length_cons, List.length_nil]; omega
  obtain ⟨q, hloop⟩ := insText_sloop i i.l [] acc (by simp) hok.l_len hl (by simpa using ha)
  simp only [List.length_nil, Int.cast_ofNat_Int] at hloop
  rw [hloop]
  simp only [Option.bind_some, loK_out, beq_self_eq_true, br_true']
  rw [← hacc]
  simp [insText, spaced]
theorem insText_iloop (l : List Int) (hlen : l.length ≤ 1048586) (hw : ∀ n ∈ l, i64 n) : ∀ (suf pre : List Int) (acc : List UInt8), l = pre ++ suf → pre ≠ [] → acc.length ≤ 200 + 22 * pre.length →
    ∃ q, LL f_i_InsText 0 lc_i_InsText_0 [] k_i_InsText_0 ((acc, (), (l.length : Int), (pre.length : Int), ()), l.map (.int .i64), ()) = some (.out 0 ((acc ++ spaced suf, (), (l.length : Int), q, ()), l.map (.int .i64), ()))
  | [], pre, acc, he, hne, ha => by
    refine ⟨(pre.length : Int), ?_⟩
    apply gl_i_InsText_0
    unfold nl_i_InsText_0
    have : decide ((pre.length : Int) < (l.length : Int)) = false := by rw [he]; simp
    rw [this]; simp [spaced]
  | x :: suf, pre, acc, he, hne, ha => by
    have hx : i64 x := hw x (by rw [he]; simp)
    have hxl := itoa_len x hx
    have hpl : pre.length + suf.length + 1 ≤ 1048586 := by rw [he] at hlen; simp at hlen; omega
    obtain ⟨q, ih⟩ := insText_iloop l hlen hw suf (pre ++ [x]) (acc ++ [32] ++ Lib.itoa x) (by simp [he]) (by simp) (by simp only [List.length_append, List.length_cons, List.length_nil]; omega)
    refine ⟨q, ?_⟩
    apply gl_i_InsText_0
    unfold nl_i_InsText_0
    have h1 : decide ((pre.length : Int) < (l.length : Int)) = true := by rw [he]; simp; omega
    have h2 : (l.map (CVal.int .i64))[((pre.length : Nat) : Int).toNat]? = some (.int .i64 x) := by rw [he]; exact get_mid _ _ _ _
    have h4 : (decide (((pre.length : Nat) : Int).toNat < (l.map (CVal.int .i64)).length) && true) = true := by rw [he]; simp
    have h5 : decide ((0 : Int) < (pre.length : Int)) = true := decide_eq_true (by have := List.length_pos_iff.2 hne; omega)
    have hw' : IntKind.i64.wrap ((pre.length : Int) + 1) = ((pre ++ [x]).length : Int) := by
      rw [List.length_append, List.length_cons, List.length_nil, wrap_i64] <;> omega
    rw [h1, nn_mid, h2, h4, h5, hw']
    simp only [br_true', Option.bind_some, cell_int, Itoa_law x hx, asStr_str]
    simp (disch := ((try simp only [List.length_append, List.length_cons, List.length_nil]); omega)) only [lenOk, br_true']
    refine Eq.trans ih ?_
    simp [spaced]
theorem InsText_i {i : Ins} (hok : i.ok) : CC f_i_InsText [.v i.enc] [] = some (.str (insText i), []) := by
  obtain ⟨⟨h1, h2, h3, h4, h5, h6⟩, hl⟩ := wt_ins hok
  have hll := hok.l_len
  have l1 := itoa_len _ h1
  obtain ⟨q, hloop⟩ := insText_iloop (i.op :: ([i.d, i.x, i.y, i.n, i.to] ++ i.l)) (by simp; omega) (by
    intro n hn
    simp only [List.cons_append, List.nil_append, List.mem_cons] at hn
    rcases hn with rfl | rfl | rfl | rfl | rfl | rfl | hn
    · exact h1
    · exact h2
    · exact h3
    · exact h4
    · exact h5
    · exact h6
    · exact hl n hn) ([i.d, i.x, i.y, i.n, i.to] ++ i.l) [i.op] (Lib.itoa i.op) rfl (by simp) (by simp; omega)
  have hfirst : LL f_i_InsText 0 lc_i_InsText_0 [] k_i_InsText_0 (([], (), ((i.op :: ([i.d, i.x, i.y, i.n, i.to] ++ i.l)).length : Int), 0, ()), (i.op :: ([i.d, i.x, i.y, i.n, i.to] ++ i.l)).map (.int .i64), ()) =
      some (.out 0 ((Lib.itoa i.op ++ spaced ([i.d, i.x, i.y, i.n, i.to] ++ i.l), (), ((i.op :: ([i.d, i.x, i.y, i.n, i.to] ++ i.l)).length : Int), q, ()), (i.op :: ([i.d, i.x, i.y, i.n, i.to] ++ i.l)).map (.int .i64), ())) := by
    apply gl_i_InsText_0
    unfold nl_i_InsText_0
    have h1' : decide ((0 : Int) < ((i.op :: ([i.d, i.x, i.y, i.n, i.to] ++ i.l)).length : Int)) = true := decide_eq_true (by simp only [List.length_cons]; omega)
    have hw1 : IntKind.i64.wrap (0 + 1) = 1 := by decide
    rw [h1', hw1]
    simp only [decide_true, Bool.and_true, br_true', Int.toNat_zero, List.map_cons, List.length_cons, List.getElem?_cons_zero, Option.bind_some, cell_int, Itoa_law _ h1, asStr_str, Int.lt_irrefl, decide_false, br_false']
    rw [decide_eq_true (Nat.succ_pos _)]
    simp (disch := ((try simp only [List.length_append, List.length_cons, List.length_nil]); omega)) only [lenOk, br_true']
    exact hloop
  rw [Ins.enc_def]
  apply go_i_InsText
  unfold nf_i_InsText
  have hall : (i.l.map (CVal.int .i64)).all (CVal.fits false 1) = true := by simp
  have hlim : decide (6 + (i.l.map (CVal.int .i64)).length ≤ 4294967296) = true := decide_eq_true (by rw [List.length_map]; omega)
  rw [hall, hlim]
  simp only [Bool.and_true, br_true']
  have e : (CVal.int IntKind.i64 i.op :: CVal.int IntKind.i64 i.d :: CVal.int IntKind.i64 i.x :: CVal.int IntKind.i64 i.y :: CVal.int IntKind.i64 i.n :: CVal.int IntKind.i64 i.to :: i.l.map (CVal.int .i64)) = (i.op :: ([i.d, i.x, i.y, i.n, i.to] ++ i.l)).map (.int .i64) := by simp
  rw [e, List.length_map, hfirst]
  simp only [Option.bind_some, loK_out, beq_self_eq_true, br_true']
  rfl
end Go.Proofs.YtomkegeojknihaaDoor.Abs

/- Plain terms: the law FnExactPlain on data. -/
import Derived.Test.YtbimglfmmmlicaaTermAny
set_option linter.unusedVariables false
set_option linter.unusedSimpArgs false
set_option maxRecDepth 100000
namespace Go.Proofs.Ytbimglfmmmlicaa.Abs
open Go Go.Proofs
open Classical

theorem indexByte_mem (c : UInt8) : ∀ l : List UInt8, 0 ≤ Lib.indexByte l c ↔ c ∈ l
  | [] => by simp [Lib.indexByte]
  | b :: l => by
    have ih := indexByte_mem c l
    have hge := Lib.indexByte_ge l c
    unfold Lib.indexByte
    by_cases h : b = c
    · simp [h]
    · have h1 : (b == c) = false := by simpa using h
      have h2 : ¬ c = b := fun e => h e.symm
      simp only [h1, List.mem_cons, h2, false_or, ← ih]
      by_cases h3 : Lib.indexByte l c = -1
      · simp [h3]
      · have : (Lib.indexByte l c == -1) = false := by simpa using h3
        simp only [this]
        simp
        omega
theorem contains_law (s : List UInt8) : CC f_strings_Contains [.v (.str s), .v (.str [46])] [] = some (.bool (decide ((46 : UInt8) ∈ s)), []) := by
  have : CC f_strings_Contains [.v (.str s), .v (.str [46])] [] = some (.bool (decide (0 ≤ Lib.indexByte s 46)), []) := extW (by decide) rfl rfl
  rw [this]
  simp only [indexByte_mem]

theorem plain_name {s : List UInt8} (h : s = [] ∨ isName false s = true) : decide ((46 : UInt8) ∈ s) = (!decide (s = []) && !isName true s) := by
  rcases h with rfl | h
  · simp
  · have hne : s ≠ [] := by rintro rfl; simp [isName] at h
    unfold isName at h ⊢
    simp only [Bool.and_eq_true] at h
    obtain ⟨h1, h2, h3⟩ := h
    have hb : ∀ c : UInt8, nameB false c = true → (nameB true c = false ↔ c = 46) := by
      intro c hc
      unfold nameB letterB digitB at hc ⊢
      have e46 : ((c.toNat : Int) = 46) ↔ c = 46 := by
        constructor
        · intro h
          have h' : c.toNat = 46 := by omega
          exact UInt8.toNat_inj.1 h'
        · rintro rfl; rfl
      simp only [Bool.not_false, Bool.true_and, Bool.not_true, Bool.false_and, Bool.or_false, Bool.or_eq_true, decide_eq_true_eq] at hc
      simp only [Bool.not_true, Bool.false_and, Bool.or_false, Bool.or_eq_false_iff, decide_eq_false_iff_not, ← e46]
      omega
    have key : s.all (nameB true) = !decide ((46 : UInt8) ∈ s) := by
      have : ∀ l : List UInt8, l.all (nameB false) = true → l.all (nameB true) = !decide ((46 : UInt8) ∈ l) := by
        intro l
        induction l with
        | nil => intro _; simp
        | cons c l ih =>
          intro h
          simp only [List.all_cons, Bool.and_eq_true] at h
          rw [List.all_cons, ih h.2]
          have := hb c h.1
          cases hn : nameB true c with
          | true =>
            have hc : ¬ (46 : UInt8) = c := fun e => by have := this.2 e.symm; rw [hn] at this; cases this
            simp [hc]
          | false => simp [this.1 hn]
      exact this s h3
    rw [h1, h2, key]
    simp [hne]

/-- Some name of the node has a dot. -/
def dotB (t : Term) : Bool := decide ((46 : UInt8) ∈ t.s) || decide ((46 : UInt8) ∈ t.z)
def unplainB (t : Term) : Bool := (!decide (t.s = []) && !isName true t.s) || (!decide (t.z = []) && !isName true t.z)
theorem dot_eq {t : Term} (h : t.head = true) : dotB t = unplainB t := by
  unfold Term.head at h
  simp only [Bool.and_eq_true] at h
  obtain ⟨_, _, hN, _⟩ := h
  have hs : (t.s = [] ∨ isName false t.s = true) ∧ (t.z = [] ∨ isName false t.z = true) := by
    unfold namesOk at hN
    grind
  unfold dotB unplainB
  rw [plain_name hs.1, plain_name hs.2]
theorem plain_node {t : Term} (hok : t.ok) : CC f_i_Plain_1 [.v t.enc] [] = some (.bool (dotB t), []) := by
  rw [Term.enc_def]
  apply go_i_Plain_1
  unfold nf_i_Plain_1 dotB
  simp only [contains_law, Option.bind_some, asBool_bool, cond_false]
  cases decide ((46 : UInt8) ∈ t.s) <;> rfl
theorem Plain_i {t : Term} (hok : t.ok) : CC f_i_Plain [.v t.enc] [] = some (.bool (decide t.right && !t.any unplainB), []) := by
  have h := TermOk_i hok
  have h2 := anyTerm_law (g := f_i_Plain_1) (caps := []) t (fun u hu => apC (cs := [u.enc]) (by decide) rfl rfl rfl (plain_node hu)) hok
  rw [Term.enc_def]
  apply go_i_Plain
  unfold nf_i_Plain
  simp only [Term.enc_eta, h, h2, Option.bind_some, asBool_bool]
  by_cases hr : t.right
  · rw [Term.any_congr (fun u hu => dot_eq hu) t hr.1]
    simp [hr]
  · simp [hr]
theorem l2Plain_loop (p0 p1 : Int) (p2 p3 : List UInt8) (p4 p5 : Int) (p6 p7 : List CVal) : ∀ (suf pre : List Term), (pre ++ suf).length ≤ 1048576 → (∀ t ∈ suf, CC f_s_l2Plain [.v t.enc] [] = some (.bool (!t.any unplainB), [])) →
    ∃ q, LL f_s_l2Plain 0 lc_s_l2Plain_0 [] k_s_l2Plain_0 (((), (pre.length : Int), ()), (p0, p1, p2, p3, p4, p5, p6, p7, (pre ++ suf).map Term.enc, ()), ()) =
      some (bif suf.any (Term.any unplainB) then .ret (.bool false, []) else .out 0 q)
  | [], pre, hl, h => by
    refine ⟨(((), (pre.length : Int), ()), (p0, p1, p2, p3, p4, p5, p6, p7, (pre ++ []).map Term.enc, ()), ()), ?_⟩
    apply gl_s_l2Plain_0
    unfold nl_s_l2Plain_0
    rw [lt_end]; rfl
  | t :: suf, pre, hl, h => by
    obtain ⟨q, ih⟩ := l2Plain_loop p0 p1 p2 p3 p4 p5 p6 p7 suf (pre ++ [t]) (by simpa using hl) (fun u hu => h u (by simp [hu]))
    simp only [List.append_assoc, List.singleton_append] at ih
    refine ⟨q, ?_⟩
    apply gl_s_l2Plain_0
    unfold nl_s_l2Plain_0
    rw [lt_mid, nn_mid, get_mid, wrap_mid pre suf t hl]
    simp only [br_true', Option.bind_some, Term.enc_fits, Term.enc_sub, h t (by simp), asBool_bool, List.any_cons]
    cases t.any unplainB with
    | true => rfl
    | false =>
      simp only [Bool.not_false, Bool.not_true, br_false', Bool.false_or]
      exact ih
theorem l2Plain_law : ∀ t : Term, t.ok → CC f_s_l2Plain [.v t.enc] [] = some (.bool (!t.any unplainB), []) := Term.ind fun t ih hok => by
  obtain ⟨q, hloop⟩ := l2Plain_loop t.k t.n t.s t.z t.t.k t.t.n (t.t.a.map Ty.enc) (t.ts.map Ty.enc) t.a [] (by simpa using hok.a_len) fun u hu => ih u hu (hok.a hu)
  simp only [List.nil_append, List.length_nil, Int.cast_ofNat_Int] at hloop
  rw [Term.any_def, Term.enc_def]
  apply go_s_l2Plain
  unfold nf_s_l2Plain
  simp only [isName_s t.s true hok.s_len, isName_s t.z true hok.z_len, hloop, Option.bind_some, asBool_bool]
  have e : unplainB t = ((!decide (t.s = []) && !isName true t.s) || (!decide (t.z = []) && !isName true t.z)) := rfl
  rw [e]
  cases decide (t.s = []) <;> cases isName true t.s <;> cases decide (t.z = []) <;> cases isName true t.z <;> cases t.a.any (Term.any unplainB) <;> rfl
theorem Plain_s {t : Term} (hok : t.ok) : CC f_s_Plain [.v t.enc] [] = some (.bool (decide t.right && !t.any unplainB), []) := by
  have h := TermOk_s hok
  have h2 := l2Plain_law t hok
  rw [Term.enc_def]
  apply go_s_Plain
  unfold nf_s_Plain
  simp only [Term.enc_eta, h, h2, Option.bind_some, asBool_bool, cond_true]
  by_cases hr : t.right <;> simp [hr]
end Go.Proofs.Ytbimglfmmmlicaa.Abs

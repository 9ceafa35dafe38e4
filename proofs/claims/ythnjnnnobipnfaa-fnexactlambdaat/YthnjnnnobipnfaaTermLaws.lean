/- Terms: which are right, and how many nodes they have. -/
import Derived.Test.YthnjnnnobipnfaaTermHead2
set_option linter.unusedVariables false
set_option linter.unusedSectionVars false
set_option linter.unusedSimpArgs false
namespace Go.Proofs.Ythnjnnnobipnfaa.Abs
open Go Go.Proofs
open Classical

namespace Term
def good : Term → Prop
  | .mk k n s z t ts a => (Term.mk k n s z t ts a).head = true ∧ ∀ u ∈ a, u.good
theorem good_def (t : Term) : t.good ↔ t.head = true ∧ ∀ u ∈ t.a, u.good := by cases t; rw [good]; rfl
def depth : Term → Nat
  | .mk _ _ _ _ _ _ a => Ty.maxL (a.map depth) + 1
def depthL (l : List Term) : Nat := Ty.maxL (l.map depth)
theorem depth_def (t : Term) : t.depth = depthL t.a + 1 := by cases t; rw [depth]; rfl
def nodes : Term → Nat
  | .mk _ _ _ _ _ _ a => (a.map nodes).sum + 1
def nodesL (l : List Term) : Nat := (l.map nodes).sum
theorem nodes_def (t : Term) : t.nodes = nodesL t.a + 1 := by cases t; rw [nodes]; rfl
@[simp] theorem depthL_nil : depthL [] = 0 := rfl
@[simp] theorem depthL_cons {t : Term} {l : List Term} : depthL (t :: l) = max t.depth (depthL l) := by simp [depthL, Ty.maxL]
@[simp] theorem nodesL_nil : nodesL [] = 0 := rfl
@[simp] theorem nodesL_cons {t : Term} {l : List Term} : nodesL (t :: l) = t.nodes + nodesL l := by simp [nodesL]
theorem depth_le : ∀ t : Term, t.depth ≤ t.nodes := ind fun t ih => by
  have : ∀ l : List Term, (∀ u ∈ l, u.depth ≤ u.nodes) → depthL l ≤ nodesL l := by
    intro l
    induction l with
    | nil => simp
    | cons u l ih =>
      intro h
      have h1 := h u (by simp)
      have h2 := ih fun v hv => h v (by simp [hv])
      simp only [depthL_cons, nodesL_cons]; omega
  have := this t.a ih
  rw [depth_def, nodes_def]; omega
theorem nodes_le : ∀ t : Term, t.nodes ≤ t.sz + 1 := ind fun t ih => by
  have : ∀ l : List Term, (∀ u ∈ l, u.nodes ≤ u.sz + 1) → nodesL l ≤ l.length + szL l := by
    intro l
    induction l with
    | nil => simp
    | cons u l ih =>
      intro h
      have h1 := h u (by simp)
      have h2 := ih fun v hv => h v (by simp [hv])
      simp only [nodesL_cons, szL_cons, List.length_cons]; omega
  have := this t.a ih
  rw [nodes_def, sz_def]; omega
theorem ok.nodes {t : Term} (h : t.ok) : t.nodes ≤ 1048577 := by have := h.2; have := nodes_le t; omega
/-- What TermOk tells. -/
def right (t : Term) : Prop := t.good ∧ t.depth ≤ 24 ∧ t.nodes ≤ 150
end Term
theorem termSize_loop : ∀ (suf pre : List Term) (d m : Nat), (pre ++ suf).length ≤ 1048576 → d ≤ 1048577 → m + Term.nodesL suf ≤ 1048577 →
    (∀ t ∈ suf, CC f_i_termSize [.v t.enc] [] = some (if t.good then .tup [.int .i64 t.depth, .int .i64 t.nodes, .bool true] else .tup [.int .i64 0, .int .i64 0, .bool false], [])) →
    LL f_i_termSize 0 lc_i_termSize_0 [] k_i_termSize_0 (((d : Int), (m : Int), (pre ++ suf).map Term.enc, ((pre ++ suf).length : Int), (pre.length : Int), ()), ()) =
      some (if ∀ t ∈ suf, t.good then .out 0 (((max d (Term.depthL suf) : Nat), ((m + Term.nodesL suf : Nat) : Int), (pre ++ suf).map Term.enc, ((pre ++ suf).length : Int), ((pre ++ suf).length : Int), ()), ())
        else .ret (.tup [.int .i64 0, .int .i64 0, .bool false], []))
  | [], pre, d, m, hl, hd0, hb, h => by
    apply gl_i_termSize_0
    unfold nl_i_termSize_0
    rw [lt_end']
    simp
  | t :: suf, pre, d, m, hl, hd0, hb, h => by
    apply gl_i_termSize_0
    unfold nl_i_termSize_0
    rw [lt_mid', nn_mid, get_mid, wrap_mid pre suf t hl]
    simp only [br_true', Option.bind_some, Term.enc_fits, Term.enc_sub, Term.enc_isAggN, Term.enc_cell0, Term.enc_cell1, Term.enc_cell2, Term.enc_cell3, Term.enc_cell4, Term.enc_cell5, Term.enc_cell6, Term.enc_cell7, Term.enc_cell8, Term.enc_eta, Term.enc_isAggN, Term.enc_cell0, Term.enc_cell1, Term.enc_cell2, Term.enc_cell3, Term.enc_cell4, Term.enc_cell5, Term.enc_cell6, Term.enc_cell7, Term.enc_cell8, Term.enc_eta, h t (by simp)]
    by_cases hg : t.good
    · have e1 : (if t.depth > d then t.depth else d) = max d t.depth := by split <;> omega
      simp only [Term.nodesL_cons] at hb
      have hw : IntKind.i64.wrap ((m : Int) + (t.nodes : Int)) = ((m + t.nodes : Nat) : Int) := by rw [wrap_i64] <;> omega
      have hmx : (bif decide ((d : Int) < (t.depth : Int)) then (t.depth : Int) else (d : Int)) = ((max d t.depth : Nat) : Int) := by
        by_cases hh : (d : Int) < (t.depth : Int)
        · simp [hh]; omega
        · simp [hh]; omega
      have hd := Term.depth_le t
      have ih := termSize_loop suf (pre ++ [t]) (max d t.depth) (m + t.nodes) (by simpa using hl) (by omega) (by omega) (fun u hu => h u (by simp [hu]))
      simp only [List.append_assoc, List.singleton_append] at ih
      simp only [if_pos hg, asTup_tup, Option.bind_some, List.getElem?_cons_zero, List.getElem?_cons_succ, asBool_bool, Bool.not_true, br_false', asInt_int, hw, hmx]
      rw [ih]
      simp only [List.mem_cons, forall_eq_or_imp, hg, true_and, Term.depthL_cons, Term.nodesL_cons]
      congr 1
      have e2 : max (max d t.depth) (Term.depthL suf) = max d (max t.depth (Term.depthL suf)) := by omega
      have e3 : m + t.nodes + Term.nodesL suf = m + (t.nodes + Term.nodesL suf) := by omega
      rw [e2, e3]
    · have : ¬ ∀ u ∈ t :: suf, u.good := fun hh => hg (hh t (by simp))
      rw [if_neg this]
      simp [hg]

theorem termSize_law : ∀ t : Term, t.ok → CC f_i_termSize [.v t.enc] [] = some (if t.good then .tup [.int .i64 t.depth, .int .i64 t.nodes, .bool true] else .tup [.int .i64 0, .int .i64 0, .bool false], []) := Term.ind fun t ih hok => by
  have hn := hok.nodes
  rw [Term.nodes_def] at hn
  have hloop := termSize_loop t.a [] 0 1 (by simpa using hok.a_len) (by omega) (by omega) fun u hu => ih u hu (hok.a hu)
  simp only [List.nil_append, List.length_nil, Int.cast_ofNat_Int] at hloop
  have hd := Term.depth_le t
  rw [Term.depth_def, Term.nodes_def] at hd
  have hw : IntKind.i64.wrap ((((max 0 (Term.depthL t.a) : Nat)) : Int) + 1) = (t.depth : Int) := by rw [Term.depth_def, wrap_i64] <;> omega
  have hh := headOk_i hok
  have hgd := Term.good_def t
  rw [Term.enc_def]
  apply go_i_termSize
  unfold nf_i_termSize
  simp only [Term.enc_eta, hh, Option.bind_some, asBool_bool, List.length_map, hloop]
  by_cases h1 : t.head = true
  · simp only [h1, Bool.not_true, br_false']
    by_cases h2 : ∀ u ∈ t.a, u.good
    · have hg : t.good := hgd.2 ⟨h1, h2⟩
      rw [if_pos h2, if_pos hg]
      simp only [Option.bind_some, loK_out, hw]
      rw [Term.nodes_def]
      simp; omega
    · have hg : ¬ t.good := fun hc => h2 (hgd.1 hc).2
      rw [if_neg h2, if_neg hg]
      rfl
  · have hg : ¬ t.good := fun hc => h1 (hgd.1 hc).1
    have h1' : t.head = false := by simpa using h1
    simp [h1', hg]

theorem TermOk_i {t : Term} (hok : t.ok) : CC f_i_TermOk [.v t.enc] [] = some (.bool (decide t.right), []) := by
  have h := termSize_law t hok
  rw [Term.enc_def]
  apply go_i_TermOk
  unfold nf_i_TermOk
  simp only [Term.enc_eta, h]
  unfold Term.right
  by_cases hg : t.good
  · by_cases h1 : t.depth ≤ 24
    · have : (t.depth : Int) ≤ 24 := by omega
      by_cases h2 : t.nodes ≤ 150
      · have : (t.nodes : Int) ≤ 150 := by omega
        simp [*]
      · have : ¬ (t.nodes : Int) ≤ 150 := by omega
        simp [*]
    · have : ¬ (t.depth : Int) ≤ 24 := by omega
      simp [*]
  · simp [hg]
/-! The reference's look. -/
def LookTm (t : Term) : Prop := ∀ d c : Nat, c ≤ 150 → d ≤ 24 → ∃ c' : Int, CC f_s_l2Look [.v t.enc, .v (.int .i64 d), .lptr 0 0] [.box [.v (.int .i64 c)]] = some (.bool (decide (t.good ∧ t.depth ≤ d ∧ c + t.nodes ≤ 150)), [[.int .i64 c']]) ∧
  ((t.good ∧ t.depth ≤ d ∧ c + t.nodes ≤ 150) → c' = c + t.nodes)

theorem lookTm_loop (d : Nat) (hd : d + 1 ≤ 24) (p0 p1 : Int) (p2 p3 : List UInt8) (p4 p5 : Int) (p6 p7 : List CVal) : ∀ (suf pre : List Term) (c : Nat), (pre ++ suf).length ≤ 1048576 → c ≤ 150 → (∀ t ∈ suf, LookTm t) →
    ∃ c' : Int, LL f_s_l2Look 0 lc_s_l2Look_0 [PSh.box [none]] k_s_l2Look_0 ((((d + 1 : Nat) : Int), (), (), (pre.length : Int), ()), ((c : Int), ()), (p0, p1, p2, p3, p4, p5, p6, p7, (pre ++ suf).map Term.enc, ()), ()) =
      some (if (∀ t ∈ suf, t.good) ∧ Term.depthL suf ≤ d ∧ c + Term.nodesL suf ≤ 150 then .out 0 ((((d + 1 : Nat) : Int), (), (), ((pre ++ suf).length : Int), ()), (((c + Term.nodesL suf : Nat) : Int), ()), (p0, p1, p2, p3, p4, p5, p6, p7, (pre ++ suf).map Term.enc, ()), ())
        else .ret (.bool false, [[.int .i64 c']]))
  | [], pre, c, hl, hc, h => by
    refine ⟨0, ?_⟩
    apply gl_s_l2Look_0
    unfold nl_s_l2Look_0
    rw [lt_end]
    simp [hc]
  | t :: suf, pre, c, hl, hc, h => by
    obtain ⟨c1, h1, h2⟩ := h t (by simp) d c hc (by omega)
    have hw : IntKind.i64.wrap (((d + 1 : Nat) : Int) - 1) = (d : Int) := by rw [wrap_i64] <;> omega
    by_cases hg : t.good ∧ t.depth ≤ d ∧ c + t.nodes ≤ 150
    · obtain ⟨c2, ih⟩ := lookTm_loop d hd p0 p1 p2 p3 p4 p5 p6 p7 suf (pre ++ [t]) (c + t.nodes) (by simpa using hl) hg.2.2 (fun u hu => h u (by simp [hu]))
      simp only [List.append_assoc, List.singleton_append] at ih
      refine ⟨c2, ?_⟩
      apply gl_s_l2Look_0
      unfold nl_s_l2Look_0
      rw [lt_mid, nn_mid, get_mid, wrap_mid pre suf t hl, hw]
      simp only [br_true', Option.bind_some, Term.enc_fits, Term.enc_sub, Term.enc_isAggN, Term.enc_cell0, Term.enc_cell1, Term.enc_cell2, Term.enc_cell3, Term.enc_cell4, Term.enc_cell5, Term.enc_cell6, Term.enc_cell7, Term.enc_cell8, Term.enc_eta, h1, List.getElem?_cons_zero, List.length_cons, List.length_nil, beq_self_eq_true, asBool_bool, br_not, decide_eq_true hg, asInt_int, h2 hg]
      rw [show ((c : Int) + (t.nodes : Int)) = ((c + t.nodes : Nat) : Int) by omega, ih]
      have e : ((∀ u ∈ suf, u.good) ∧ Term.depthL suf ≤ d ∧ c + t.nodes + Term.nodesL suf ≤ 150) ↔ ((∀ u ∈ t :: suf, u.good) ∧ Term.depthL (t :: suf) ≤ d ∧ c + Term.nodesL (t :: suf) ≤ 150) := by
        simp only [List.mem_cons, forall_eq_or_imp, hg.1, true_and, Term.depthL_cons, Term.nodesL_cons]
        constructor
        · rintro ⟨a, b, e⟩; exact ⟨a, by omega, by omega⟩
        · rintro ⟨a, b, e⟩; exact ⟨a, by omega, by omega⟩
      simp only [e]
      rw [Term.nodesL_cons, ← Nat.add_assoc]
    · refine ⟨c1, ?_⟩
      have hno : ¬ ((∀ u ∈ t :: suf, u.good) ∧ Term.depthL (t :: suf) ≤ d ∧ c + Term.nodesL (t :: suf) ≤ 150) := by
        simp only [List.mem_cons, forall_eq_or_imp, Term.depthL_cons, Term.nodesL_cons]
        rintro ⟨⟨a, _⟩, b, e⟩
        exact hg ⟨a, by omega, by omega⟩
      apply gl_s_l2Look_0
      unfold nl_s_l2Look_0
      rw [lt_mid, nn_mid, get_mid, hw, if_neg hno]
      simp only [br_true', Option.bind_some, Term.enc_fits, Term.enc_sub, Term.enc_isAggN, Term.enc_cell0, Term.enc_cell1, Term.enc_cell2, Term.enc_cell3, Term.enc_cell4, Term.enc_cell5, Term.enc_cell6, Term.enc_cell7, Term.enc_cell8, Term.enc_eta, h1, List.getElem?_cons_zero, List.length_cons, List.length_nil, beq_self_eq_true, asBool_bool, br_not, decide_eq_false hg, br_false']

theorem lookTm_law : ∀ t : Term, t.ok → LookTm t := Term.ind fun t ih hok d c hc hd => by
  have hn := hok.nodes
  have hgd := Term.good_def t
  have hw : IntKind.i64.wrap ((c : Int) + 1) = ((c + 1 : Nat) : Int) := by rw [wrap_i64] <;> omega
  have hnodes := Term.nodes_def t
  have hdepth := Term.depth_def t
  have hh := One_s hok
  by_cases h0 : d = 0
  · subst h0
    have hno : ¬ (t.good ∧ t.depth ≤ 0 ∧ c + t.nodes ≤ 150) := by rintro ⟨_, h, _⟩; omega
    refine ⟨(c + 1 : Nat), ?_, fun h => (hno h).elim⟩
    rw [Term.enc_def]
    apply go_s_l2Look
    unfold nf_s_l2Look
    simp only [hw, Int.cast_ofNat_Int, decide_true, br_true', Option.bind_some, decide_eq_false hno]
  · obtain ⟨d, rfl⟩ : ∃ e, d = e + 1 := ⟨d - 1, by omega⟩
    have h0' : ¬ ((d + 1 : Nat) : Int) = 0 := by omega
    by_cases h60 : 150 < c + 1
    · have hno : ¬ (t.good ∧ t.depth ≤ d + 1 ∧ c + t.nodes ≤ 150) := by rintro ⟨_, _, h⟩; omega
      refine ⟨(c + 1 : Nat), ?_, fun h => (hno h).elim⟩
      rw [Term.enc_def]
      apply go_s_l2Look
      unfold nf_s_l2Look
      have : (150 : Int) < ((c + 1 : Nat) : Int) := by omega
      simp only [hw, h0', this, decide_true, decide_false, br_true', br_false', Option.bind_some, decide_eq_false hno]
    · have h60' : ¬ (150 : Int) < ((c + 1 : Nat) : Int) := by omega
      by_cases hhd : t.head = true
      · obtain ⟨c', hloop⟩ := lookTm_loop d (by omega) t.k t.n t.s t.z t.t.k t.t.n (t.t.a.map Ty.enc) (t.ts.map Ty.enc) t.a [] (c + 1) (by simpa using hok.a_len) (by omega) fun u hu => ih u hu (hok.a hu)
        simp only [List.nil_append, List.length_nil, Int.cast_ofNat_Int] at hloop
        have he : (t.good ∧ t.depth ≤ d + 1 ∧ c + t.nodes ≤ 150) ↔ ((∀ u ∈ t.a, u.good) ∧ Term.depthL t.a ≤ d ∧ c + 1 + Term.nodesL t.a ≤ 150) := by
          rw [Term.good_def, hdepth, hnodes]
          constructor
          · rintro ⟨⟨_, a⟩, b, e⟩; exact ⟨a, by omega, by omega⟩
          · rintro ⟨a, b, e⟩; exact ⟨⟨hhd, a⟩, by omega, by omega⟩
        have key : ∀ x, CC f_s_l2Look [.v t.enc, .v (.int .i64 ((d + 1 : Nat) : Int)), .lptr 0 0] [.box [.v (.int .i64 c)]] = some x ↔ CC f_s_l2Look [.v t.enc, .v (.int .i64 ((d + 1 : Nat) : Int)), .lptr 0 0] [.box [.v (.int .i64 c)]] = some x := fun x => Iff.rfl
        by_cases hg : t.good ∧ t.depth ≤ d + 1 ∧ c + t.nodes ≤ 150
        · refine ⟨(c + t.nodes : Nat), ?_, fun _ => by omega⟩
          have e5 : c + 1 + Term.nodesL t.a = c + t.nodes := by omega
          rw [if_pos (he.1 hg)] at hloop
          rw [Term.enc_def]
          apply go_s_l2Look
          unfold nf_s_l2Look
          simp only [Term.enc_eta, hw, h0', h60', decide_false, br_false', hh, hhd, Option.bind_some, asBool_bool, Bool.not_true, hloop, loK_out, decide_eq_true hg, e5]
          rfl
        · refine ⟨c', ?_, fun h => (hg h).elim⟩
          rw [if_neg (fun h => hg (he.2 h))] at hloop
          rw [Term.enc_def]
          apply go_s_l2Look
          unfold nf_s_l2Look
          simp only [Term.enc_eta, hw, h0', h60', decide_false, br_false', hh, hhd, Option.bind_some, asBool_bool, Bool.not_true, hloop, loK_ret, decide_eq_false hg]
      · have hhd : t.head = false := by simpa using hhd
        have hno : ¬ (t.good ∧ t.depth ≤ d + 1 ∧ c + t.nodes ≤ 150) := fun h => by have := (hgd.1 h.1).1; rw [hhd] at this; cases this
        refine ⟨(c + 1 : Nat), ?_, fun h => (hno h).elim⟩
        rw [Term.enc_def]
        apply go_s_l2Look
        unfold nf_s_l2Look
        simp only [Term.enc_eta, hw, h0', h60', decide_false, br_false', hh, hhd, Option.bind_some, asBool_bool, Bool.not_false, br_true', decide_eq_false hno]

theorem TermOk_s {t : Term} (hok : t.ok) : CC f_s_TermOk [.v t.enc] [] = some (.bool (decide t.right), []) := by
  obtain ⟨c', h, _⟩ := lookTm_law t hok 24 0 (by omega) (by omega)
  have e : (t.good ∧ t.depth ≤ 24 ∧ 0 + t.nodes ≤ 150) ↔ t.right := by unfold Term.right; rw [Nat.zero_add]
  simp only [Int.cast_ofNat_Int] at h
  rw [Term.enc_def]
  apply go_s_TermOk
  unfold nf_s_TermOk
  simp only [Term.enc_eta, h, Option.bind_some, List.getElem?_cons_zero, List.length_cons, List.length_nil, beq_self_eq_true, br_true', e]
end Go.Proofs.Ythnjnnnobipnfaa.Abs

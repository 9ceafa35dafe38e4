/- Types: what the program and the reference tell of them. -/
import Derived.Test.YthnjnnnobipnfaaTyFns
import Derived.Test.YthnjnnnobipnfaaInLaws
set_option linter.unusedVariables false
set_option linter.unusedSectionVars false
set_option linter.unusedSimpArgs false
namespace Go.Proofs.Ythnjnnnobipnfaa.Abs
open Go Go.Proofs
open Classical

def tyParts (k : Int) : Int := if k = 1 then 0 else if k = 2 then 0 else if k = 3 then 0 else if k = 6 then 1 else if k = 4 then 2 else if k = 5 then 2 else -1
theorem tyParts_i (k : Int) : CC f_i_tyParts [.v (.int .i64 k)] [] = some (.int .i64 (tyParts k), []) := by
  apply go_i_tyParts
  unfold nf_i_tyParts tyParts
  simp only [br_decide]
  repeat' split
  all_goals rfl
theorem tyParts_s (k : Int) : CC f_s_l1Args [.v (.int .i64 k)] [] = some (.int .i64 (tyParts k), []) := by
  apply go_s_l1Args
  unfold nf_s_l1Args tyParts
  simp only [br_decide]
  repeat' split
  all_goals rfl
namespace Ty
/-- Whether a node is right. -/
def headOk (t : Ty) : Prop := (t.a.length : Int) = tyParts t.k ∧ (t.n = 0 ∨ t.k = 3 ∧ t.n = 1)
instance (t : Ty) : Decidable t.headOk := by unfold headOk; infer_instance
def good : Ty → Prop
  | .mk k n a => (Ty.mk k n a).headOk ∧ ∀ t ∈ a, t.good
theorem good_def (t : Ty) : t.good ↔ t.headOk ∧ ∀ u ∈ t.a, u.good := by cases t; rw [good]; rfl
def maxL : List Nat → Nat
  | [] => 0
  | x :: l => max x (maxL l)
def depth : Ty → Nat
  | .mk _ _ a => maxL (a.map depth) + 1
def depthL (l : List Ty) : Nat := maxL (l.map depth)
theorem depth_def (t : Ty) : t.depth = depthL t.a + 1 := by cases t; rw [depth]; rfl
def nodes (t : Ty) : Nat := t.sz + 1
def nodesL (l : List Ty) : Nat := l.length + szL l
theorem nodes_def (t : Ty) : t.nodes = nodesL t.a + 1 := by unfold nodes nodesL; rw [sz_def]
@[simp] theorem depthL_nil : depthL [] = 0 := rfl
@[simp] theorem depthL_cons {t : Ty} {l : List Ty} : depthL (t :: l) = max t.depth (depthL l) := by simp [depthL, maxL]
@[simp] theorem nodesL_nil : nodesL [] = 0 := rfl
@[simp] theorem nodesL_cons {t : Ty} {l : List Ty} : nodesL (t :: l) = t.nodes + nodesL l := by simp [nodesL, nodes]; omega
theorem depth_le : ∀ t : Ty, t.depth ≤ t.nodes := ind fun t ih => by
  have : ∀ l : List Ty, (∀ u ∈ l, u.depth ≤ u.nodes) → depthL l ≤ nodesL l := by
    intro l
    induction l with
    | nil => simp
    | cons u l ih =>
      intro h
      have h1 := h u (by simp)
      have h2 := ih fun v hv => h v (by simp [hv])
      simp only [depthL_cons, nodesL_cons]; omega
  have := this t.a ih
  rw [depth_def, nodes_def]; omega
theorem ok.nodes {t : Ty} (h : t.ok) : t.nodes ≤ 1048577 := by have := h.2; unfold Ty.nodes; omega
/-- What TyOk tells. -/
def right (t : Ty) : Prop := t.good ∧ t.depth ≤ 6 ∧ t.nodes ≤ 60
end Ty

theorem measure_loop : ∀ (suf pre : List Ty) (d m : Nat), (pre ++ suf).length ≤ 1048576 → d ≤ 1048577 → m + Ty.nodesL suf ≤ 1048577 →
    (∀ t ∈ suf, CC f_i_measure [.v t.enc] [] = some (if t.good then .tup [.int .i64 t.depth, .int .i64 t.nodes, .bool true] else .tup [.int .i64 0, .int .i64 0, .bool false], [])) →
    LL f_i_measure 0 lc_i_measure_0 [] k_i_measure_0 (((d : Int), (m : Int), (pre ++ suf).map Ty.enc, ((pre ++ suf).length : Int), (pre.length : Int), ()), ()) =
      some (if ∀ t ∈ suf, t.good then .out 0 (((max d (Ty.depthL suf) : Nat), ((m + Ty.nodesL suf : Nat) : Int), (pre ++ suf).map Ty.enc, ((pre ++ suf).length : Int), ((pre ++ suf).length : Int), ()), ())
        else .ret (.tup [.int .i64 0, .int .i64 0, .bool false], []))
  | [], pre, d, m, hl, hd0, hb, h => by
    apply gl_i_measure_0
    unfold nl_i_measure_0
    rw [lt_end']
    simp
  | t :: suf, pre, d, m, hl, hd0, hb, h => by
    apply gl_i_measure_0
    unfold nl_i_measure_0
    rw [lt_mid', nn_mid, get_mid, wrap_mid pre suf t hl]
    simp only [br_true', Option.bind_some, Ty.enc_fits, Ty.enc_sub, Ty.enc_isAggN, Ty.enc_cell0, Ty.enc_cell1, Ty.enc_cell2, Ty.enc_eta, h t (by simp)]
    by_cases hg : t.good
    · have e1 : (if t.depth > d then t.depth else d) = max d t.depth := by split <;> omega
      simp only [Ty.nodesL_cons] at hb
      have hw : IntKind.i64.wrap ((m : Int) + (t.nodes : Int)) = ((m + t.nodes : Nat) : Int) := by rw [wrap_i64] <;> omega
      have hmx : (bif decide ((d : Int) < (t.depth : Int)) then (t.depth : Int) else (d : Int)) = ((max d t.depth : Nat) : Int) := by
        by_cases hh : (d : Int) < (t.depth : Int)
        · simp [hh]; omega
        · simp [hh]; omega
      have hd := Ty.depth_le t
      have ih := measure_loop suf (pre ++ [t]) (max d t.depth) (m + t.nodes) (by simpa using hl) (by omega) (by omega) (fun u hu => h u (by simp [hu]))
      simp only [List.append_assoc, List.singleton_append] at ih
      simp only [if_pos hg, asTup_tup, Option.bind_some, List.getElem?_cons_zero, List.getElem?_cons_succ, asBool_bool, Bool.not_true, br_false', asInt_int, hw, hmx]
      rw [ih]
      simp only [List.mem_cons, forall_eq_or_imp, hg, true_and, Ty.depthL_cons, Ty.nodesL_cons]
      congr 1
      have e2 : max (max d t.depth) (Ty.depthL suf) = max d (max t.depth (Ty.depthL suf)) := by omega
      have e3 : m + t.nodes + Ty.nodesL suf = m + (t.nodes + Ty.nodesL suf) := by omega
      rw [e2, e3]
    · have : ¬ ∀ u ∈ t :: suf, u.good := fun hh => hg (hh t (by simp))
      rw [if_neg this]
      simp [hg]

theorem measure_law : ∀ t : Ty, t.ok → CC f_i_measure [.v t.enc] [] = some (if t.good then .tup [.int .i64 t.depth, .int .i64 t.nodes, .bool true] else .tup [.int .i64 0, .int .i64 0, .bool false], []) := Ty.ind fun t ih hok => by
  have hn := hok.nodes
  rw [Ty.nodes_def] at hn
  have hloop := measure_loop t.a [] 0 1 (by simpa using hok.len) (by omega) (by omega) fun u hu => ih u hu (hok.part hu)
  simp only [List.nil_append, List.length_nil, Int.cast_ofNat_Int] at hloop
  have hd := Ty.depth_le t
  rw [Ty.depth_def, Ty.nodes_def] at hd
  have hw : IntKind.i64.wrap ((((max 0 (Ty.depthL t.a) : Nat)) : Int) + 1) = (t.depth : Int) := by rw [Ty.depth_def, wrap_i64] <;> omega
  rw [Ty.enc_def]
  apply go_i_measure
  unfold nf_i_measure
  simp only [tyParts_i, Option.bind_some, asInt_int, br_not, br_decide, List.length_map]
  have hgd := Ty.good_def t
  unfold Ty.headOk at hgd
  by_cases h1 : (t.a.length : Int) = tyParts t.k
  · simp only [h1, if_true]
    have rest : ∀ hh : t.headOk, ((LL f_i_measure 0 lc_i_measure_0 [] k_i_measure_0 ((0, 1, t.a.map Ty.enc, tyParts t.k, 0, PUnit.unit), PUnit.unit)).bind fun r =>
        loK r (fun r => some r) fun j p => br (j == 0) (some (CVal.tup [.int .i64 (IntKind.i64.wrap (p.fst.1 + 1)), .int .i64 p.fst.snd.1, .bool true], [])) none) =
        some (if t.good then CVal.tup [.int .i64 t.depth, .int .i64 t.nodes, .bool true] else .tup [.int .i64 0, .int .i64 0, .bool false], []) := by
      intro hh
      rw [← h1, hloop]
      by_cases h2 : ∀ u ∈ t.a, u.good
      · have hg : t.good := hgd.2 ⟨hh, h2⟩
        rw [if_pos h2, if_pos hg]
        simp only [Option.bind_some, loK_out, hw]
        rw [Ty.nodes_def]
        simp; omega
      · have hg : ¬ t.good := fun hc => h2 (hgd.1 hc).2
        rw [if_neg h2, if_neg hg]
        rfl
    by_cases h3 : t.n = 0
    · simp only [h3, if_true, Option.bind_some, br_false']
      exact rest ⟨h1, .inl h3⟩
    · simp only [h3, if_false]
      by_cases h4 : t.k = 3
      · simp only [h4, if_true, Option.bind_some]
        by_cases h5 : t.n = 1
        · simp only [h5, decide_true, Bool.not_true, br_false']
          rw [h4] at rest
          have := rest ⟨h1, .inr ⟨h4, h5⟩⟩
          simpa using this
        · have hg : ¬ t.good := fun hc => by
            rcases (hgd.1 hc).1.2 with h | h
            · exact h3 h
            · exact h5 h.2
          simp [h5, hg]
      · have hg : ¬ t.good := fun hc => by
          rcases (hgd.1 hc).1.2 with h | h
          · exact h3 h
          · exact h4 h.1
        simp [h4, hg]
  · have hg : ¬ t.good := fun hc => h1 (hgd.1 hc).1.1
    simp [h1, hg]

theorem TyOk_i {t : Ty} (hok : t.ok) : CC f_i_TyOk [.v t.enc] [] = some (.bool (decide t.right), []) := by
  have h := measure_law t hok
  rw [Ty.enc_def] at h ⊢
  apply go_i_TyOk
  unfold nf_i_TyOk
  rw [h]
  unfold Ty.right
  by_cases hg : t.good
  · by_cases h1 : t.depth ≤ 6
    · have : (t.depth : Int) ≤ 6 := by omega
      by_cases h2 : t.nodes ≤ 60
      · have : (t.nodes : Int) ≤ 60 := by omega
        simp [*]
      · have : ¬ (t.nodes : Int) ≤ 60 := by omega
        simp [*]
    · have : ¬ (t.depth : Int) ≤ 6 := by omega
      simp [*]
  · simp [hg]

/-! The reference's look. -/
def LookOk (t : Ty) : Prop := ∀ d c : Nat, c ≤ 60 → d ≤ 6 → ∃ c' : Int, CC f_s_l1Look [.v t.enc, .v (.int .i64 d), .lptr 0 0] [.box [.v (.int .i64 c)]] = some (.bool (decide (t.good ∧ t.depth ≤ d ∧ c + t.nodes ≤ 60)), [[.int .i64 c']]) ∧
  ((t.good ∧ t.depth ≤ d ∧ c + t.nodes ≤ 60) → c' = c + t.nodes)

theorem look_loop (d : Nat) (hd : d + 1 ≤ 6) (k n : Int) : ∀ (suf pre : List Ty) (c : Nat), (pre ++ suf).length ≤ 1048576 → c ≤ 60 → (∀ t ∈ suf, LookOk t) →
    ∃ c' : Int, LL f_s_l1Look 0 lc_s_l1Look_0 [PSh.box [none]] k_s_l1Look_0 ((((d + 1 : Nat) : Int), (), (), (pre.length : Int), ()), ((c : Int), ()), (k, n, (pre ++ suf).map Ty.enc, ()), ()) =
      some (if (∀ t ∈ suf, t.good) ∧ Ty.depthL suf ≤ d ∧ c + Ty.nodesL suf ≤ 60 then .out 0 ((((d + 1 : Nat) : Int), (), (), ((pre ++ suf).length : Int), ()), (((c + Ty.nodesL suf : Nat) : Int), ()), (k, n, (pre ++ suf).map Ty.enc, ()), ())
        else .ret (.bool false, [[.int .i64 c']]))
  | [], pre, c, hl, hc, h => by
    refine ⟨0, ?_⟩
    apply gl_s_l1Look_0
    unfold nl_s_l1Look_0
    rw [lt_end]
    simp [hc]
  | t :: suf, pre, c, hl, hc, h => by
    obtain ⟨c1, h1, h2⟩ := h t (by simp) d c hc (by omega)
    have hw : IntKind.i64.wrap (((d + 1 : Nat) : Int) - 1) = (d : Int) := by rw [wrap_i64] <;> omega
    by_cases hg : t.good ∧ t.depth ≤ d ∧ c + t.nodes ≤ 60
    · obtain ⟨c2, ih⟩ := look_loop d hd k n suf (pre ++ [t]) (c + t.nodes) (by simpa using hl) hg.2.2 (fun u hu => h u (by simp [hu]))
      simp only [List.append_assoc, List.singleton_append] at ih
      refine ⟨c2, ?_⟩
      apply gl_s_l1Look_0
      unfold nl_s_l1Look_0
      rw [lt_mid, nn_mid, get_mid, wrap_mid pre suf t hl, hw]
      simp only [br_true', Option.bind_some, Ty.enc_fits, Ty.enc_sub, h1, List.getElem?_cons_zero, List.length_cons, List.length_nil, beq_self_eq_true, asBool_bool, br_not, decide_eq_true hg, asInt_int, h2 hg]
      rw [show ((c : Int) + (t.nodes : Int)) = ((c + t.nodes : Nat) : Int) by omega, ih]
      have e : ((∀ u ∈ suf, u.good) ∧ Ty.depthL suf ≤ d ∧ c + t.nodes + Ty.nodesL suf ≤ 60) ↔ ((∀ u ∈ t :: suf, u.good) ∧ Ty.depthL (t :: suf) ≤ d ∧ c + Ty.nodesL (t :: suf) ≤ 60) := by
        simp only [List.mem_cons, forall_eq_or_imp, hg.1, true_and, Ty.depthL_cons, Ty.nodesL_cons]
        constructor
        · rintro ⟨a, b, e⟩; exact ⟨a, by omega, by omega⟩
        · rintro ⟨a, b, e⟩; exact ⟨a, by omega, by omega⟩
      simp only [e]
      rw [Ty.nodesL_cons, ← Nat.add_assoc]
    · refine ⟨c1, ?_⟩
      have hno : ¬ ((∀ u ∈ t :: suf, u.good) ∧ Ty.depthL (t :: suf) ≤ d ∧ c + Ty.nodesL (t :: suf) ≤ 60) := by
        simp only [List.mem_cons, forall_eq_or_imp, Ty.depthL_cons, Ty.nodesL_cons]
        rintro ⟨⟨a, _⟩, b, e⟩
        exact hg ⟨a, by omega, by omega⟩
      apply gl_s_l1Look_0
      unfold nl_s_l1Look_0
      rw [lt_mid, nn_mid, get_mid, hw, if_neg hno]
      simp only [br_true', Option.bind_some, Ty.enc_fits, Ty.enc_sub, h1, List.getElem?_cons_zero, List.length_cons, List.length_nil, beq_self_eq_true, asBool_bool, br_not, decide_eq_false hg, br_false']

theorem look_law : ∀ t : Ty, t.ok → LookOk t := Ty.ind fun t ih hok d c hc hd => by
  have hn := hok.nodes
  have hgd := Ty.good_def t
  unfold Ty.headOk at hgd
  have hw : IntKind.i64.wrap ((c : Int) + 1) = ((c + 1 : Nat) : Int) := by rw [wrap_i64] <;> omega
  have bad : ∀ {p : Prop}, ¬ p → ∀ {q : Int}, p → q = c + t.nodes := fun h _ hp => (h hp).elim
  have hnodes := Ty.nodes_def t
  have hdepth := Ty.depth_def t
  by_cases h0 : d = 0
  · subst h0
    have hno : ¬ (t.good ∧ t.depth ≤ 0 ∧ c + t.nodes ≤ 60) := by rintro ⟨_, h, _⟩; omega
    refine ⟨(c + 1 : Nat), ?_, fun h => (hno h).elim⟩
    rw [Ty.enc_def]
    apply go_s_l1Look
    unfold nf_s_l1Look
    simp only [hw, Int.cast_ofNat_Int, decide_true, br_true', Option.bind_some, decide_eq_false hno]
  · obtain ⟨d, rfl⟩ : ∃ e, d = e + 1 := ⟨d - 1, by omega⟩
    have h0' : ¬ ((d + 1 : Nat) : Int) = 0 := by omega
    by_cases h60 : 60 < c + 1
    · have hno : ¬ (t.good ∧ t.depth ≤ d + 1 ∧ c + t.nodes ≤ 60) := by rintro ⟨_, _, h⟩; omega
      refine ⟨(c + 1 : Nat), ?_, fun h => (hno h).elim⟩
      rw [Ty.enc_def]
      apply go_s_l1Look
      unfold nf_s_l1Look
      have : (60 : Int) < ((c + 1 : Nat) : Int) := by omega
      simp only [hw, h0', this, decide_true, decide_false, br_true', br_false', Option.bind_some, decide_eq_false hno]
    · have h60' : ¬ (60 : Int) < ((c + 1 : Nat) : Int) := by omega
      by_cases hh : t.headOk
      · obtain ⟨c', hloop⟩ := look_loop d (by omega) t.k t.n t.a [] (c + 1) (by simpa using hok.len) (by omega) fun u hu => ih u hu (hok.part hu)
        simp only [List.nil_append, List.length_nil, Int.cast_ofNat_Int] at hloop
        have he : (t.good ∧ t.depth ≤ d + 1 ∧ c + t.nodes ≤ 60) ↔ ((∀ u ∈ t.a, u.good) ∧ Ty.depthL t.a ≤ d ∧ c + 1 + Ty.nodesL t.a ≤ 60) := by
          rw [Ty.good_def, hdepth, hnodes]
          constructor
          · rintro ⟨⟨_, a⟩, b, e⟩; exact ⟨a, by omega, by omega⟩
          · rintro ⟨a, b, e⟩; exact ⟨⟨hh, a⟩, by omega, by omega⟩
        have h1 := hh.1
        have key : (br (decide (((d + 1 : Nat) : Int) = 0)) (some (true, PUnit.unit)) (br (decide ((60 : Int) < ((c + 1 : Nat) : Int))) (some (true, PUnit.unit)) ((some (tyParts t.k) : Option Int).bind fun n => some (false, PUnit.unit)))) = some (false, PUnit.unit) := by
          simp only [h0', h60', decide_false, br_false', Option.bind_some]
        have body : nf_s_l1Look CC LL t.k t.n (t.a.map Ty.enc) ((d + 1 : Nat) : Int) (c : Int) = ((LL f_s_l1Look 0 lc_s_l1Look_0 [PSh.box [none]] k_s_l1Look_0 ((((d + 1 : Nat) : Int), (), (), (0 : Int), ()), (((c + 1 : Nat) : Int), ()), (t.k, t.n, t.a.map Ty.enc, ()), ())).bind fun r =>
            loK r (fun r => some r) fun j p => br (j == 0) (some (CVal.bool true, [[CVal.int .i64 p.snd.fst.1]])) none) := by
          unfold nf_s_l1Look
          simp only [hw, h0', h60', decide_false, br_false', tyParts_s, l1In_law, Option.bind_some, asInt_int, asBool_bool, List.length_map, h1, decide_true, Bool.not_true]
          rcases hh.2 with h3 | ⟨h3, h4⟩
          · by_cases h5 : t.k = 3
            · simp [h3, h5]
            · simp [h3, h5]
          · simp [h3, h4]
        by_cases hg : t.good ∧ t.depth ≤ d + 1 ∧ c + t.nodes ≤ 60
        · refine ⟨(c + t.nodes : Nat), ?_, fun _ => by omega⟩
          rw [Ty.enc_def]
          apply go_s_l1Look
          rw [body, hloop, if_pos (he.1 hg)]
          have e5 : c + 1 + Ty.nodesL t.a = c + t.nodes := by omega
          simp only [Option.bind_some, loK_out, decide_eq_true hg, e5]
          rfl
        · refine ⟨c', ?_, fun h => (hg h).elim⟩
          rw [Ty.enc_def]
          apply go_s_l1Look
          rw [body, hloop, if_neg (fun h => hg (he.2 h))]
          simp only [Option.bind_some, loK_ret, decide_eq_false hg]
      · have hno : ¬ (t.good ∧ t.depth ≤ d + 1 ∧ c + t.nodes ≤ 60) := fun h => hh ((Ty.good_def t).1 h.1).1
        refine ⟨(c + 1 : Nat), ?_, fun h => (hno h).elim⟩
        rw [Ty.enc_def]
        apply go_s_l1Look
        unfold nf_s_l1Look
        simp only [hw, h0', h60', decide_false, br_false', tyParts_s, l1In_law, Option.bind_some, asInt_int, asBool_bool, List.length_map, decide_eq_false hno]
        unfold Ty.headOk at hh
        by_cases h1 : (t.a.length : Int) = tyParts t.k
        · by_cases h3 : t.k = 3
          · by_cases h4 : (0 : Int) ≤ t.n ∧ t.n ≤ 1
            · exact (hh ⟨h1, by omega⟩).elim
            · simp [h1, h3, h4]
          · by_cases h4 : t.n = 0
            · exact (hh ⟨h1, .inl h4⟩).elim
            · simp [h1, h3, h4]
        · simp [h1]

theorem TyOk_s {t : Ty} (hok : t.ok) : CC f_s_TyOk [.v t.enc] [] = some (.bool (decide t.right), []) := by
  obtain ⟨c', h, _⟩ := look_law t hok 6 0 (by omega) (by omega)
  rw [Ty.enc_def] at h ⊢
  apply go_s_TyOk
  unfold nf_s_TyOk
  have e : (t.good ∧ t.depth ≤ 6 ∧ 0 + t.nodes ≤ 60) ↔ t.right := by unfold Ty.right; rw [Nat.zero_add]
  simp only [Int.cast_ofNat_Int] at h
  simp only [h, Option.bind_some, List.getElem?_cons_zero, List.length_cons, List.length_nil, beq_self_eq_true, br_true', e]
end Go.Proofs.Ythnjnnnobipnfaa.Abs

/- Nodes of a term by their numbers, in plain lists. -/
import Derived.Test.YthnjnnnobipnfaaTermLaws
set_option linter.unusedVariables false
set_option linter.unusedSectionVars false
set_option linter.unusedSimpArgs false
set_option maxRecDepth 100000
namespace Go.Proofs.Ythnjnnnobipnfaa.Abs
open Go Go.Proofs

namespace Term
/-- A term and all that lies within it, from the front. -/
def pre : Term → List Term
  | .mk k n s z t ts a => .mk k n s z t ts a :: (a.map pre).flatten
def preL (l : List Term) : List Term := (l.map pre).flatten
theorem pre_def (t : Term) : t.pre = t :: preL t.a := by cases t; rw [pre]; rfl
@[simp] theorem preL_nil : preL [] = [] := rfl
@[simp] theorem preL_cons {t : Term} {l : List Term} : preL (t :: l) = t.pre ++ preL l := by simp [preL]
theorem pre_len : ∀ t : Term, t.pre.length = t.nodes := ind fun t ih => by
  have : ∀ l : List Term, (∀ u ∈ l, u.pre.length = u.nodes) → (preL l).length = nodesL l := by
    intro l
    induction l with
    | nil => intro _; rfl
    | cons u l ih =>
      intro h
      rw [preL_cons, List.length_append, h u (by simp), ih fun v hv => h v (by simp [hv]), nodesL_cons]
  rw [pre_def, List.length_cons, this t.a ih, nodes_def]
theorem pre_ok : ∀ t : Term, t.ok → ∀ u ∈ t.pre, u.ok := ind fun t ih hok => by
  rw [pre_def]
  intro u hu
  rcases List.mem_cons.1 hu with rfl | hu
  · exact hok
  · unfold preL at hu
    obtain ⟨q, hq, hu⟩ := List.mem_flatten.1 hu
    obtain ⟨x, hx, rfl⟩ := List.mem_map.1 hq
    exact ih x hx (hok.a hx) u hu
end Term
mutual
/-- A node: a term, its number, its parts' nodes. -/
def nodeC : Term → Int → CVal
  | .mk k n s z t ts a, i => .fp (.agg [.int .i64 k, .int .i64 n, .str s, .str z, .int .i64 t.k, .int .i64 t.n, .sl (t.a.map Ty.enc), .sl (ts.map Ty.enc), .sl (a.map Term.enc), .int .i64 i, .sl (kidsC a (i + 1))]) 0
def kidsC : List Term → Int → List CVal
  | [], _ => []
  | u :: l, i => nodeC u i :: kidsC l (i + u.nodes)
end
theorem nodeC_def (t : Term) (i : Int) : nodeC t i = .fp (.agg [.int .i64 t.k, .int .i64 t.n, .str t.s, .str t.z, .int .i64 t.t.k, .int .i64 t.t.n, .sl (t.t.a.map Ty.enc), .sl (t.ts.map Ty.enc), .sl (t.a.map Term.enc), .int .i64 i, .sl (kidsC t.a (i + 1))]) 0 := by
  cases t; rw [nodeC]; rfl
theorem kidsC_nil (i : Int) : kidsC [] i = [] := by rw [kidsC]
theorem kidsC_cons (u : Term) (l : List Term) (i : Int) : kidsC (u :: l) i = nodeC u i :: kidsC l (i + u.nodes) := by rw [kidsC]
theorem kidsC_len : ∀ (l : List Term) (i : Int), (kidsC l i).length = l.length
  | [], i => by rw [kidsC_nil]; rfl
  | u :: l, i => by rw [kidsC_cons, List.length_cons, kidsC_len l, List.length_cons]
theorem kidsC_append : ∀ (l : List Term) (u : Term) (i : Int), kidsC (l ++ [u]) i = kidsC l i ++ [nodeC u (i + Term.nodesL l)]
  | [], u, i => by rw [List.nil_append, kidsC_cons, kidsC_nil, kidsC_nil]; simp
  | v :: l, u, i => by
    rw [List.cons_append, kidsC_cons, kidsC_cons, kidsC_append l u, List.cons_append, Term.nodesL_cons]
    have e : i + (v.nodes : Int) + (Term.nodesL l : Int) = i + ((v.nodes + Term.nodesL l : Nat) : Int) := by omega
    rw [e]
mutual
/-- All nodes, from the front. -/
def allC : Term → Int → List CVal
  | .mk k n s z t ts a, i => nodeC (.mk k n s z t ts a) i :: allL a (i + 1)
def allL : List Term → Int → List CVal
  | [], _ => []
  | u :: l, i => allC u i ++ allL l (i + u.nodes)
end
theorem allC_def (t : Term) (i : Int) : allC t i = nodeC t i :: allL t.a (i + 1) := by cases t; rw [allC]; rfl
theorem allL_nil (i : Int) : allL [] i = [] := by rw [allL]
theorem allL_cons (u : Term) (l : List Term) (i : Int) : allL (u :: l) i = allC u i ++ allL l (i + u.nodes) := by rw [allL]
/-- A list of nodes that goes with a list of terms. -/
def NodesFor : List Term → Int → List CVal → Prop
  | [], _, cs => cs = []
  | u :: l, i, cs => ∃ r, cs = nodeC u i :: r ∧ NodesFor l (i + 1) r
theorem NodesFor.append : ∀ {l1 : List Term} {i : Int} {c1 : List CVal} {l2 : List Term} {c2 : List CVal}, NodesFor l1 i c1 → NodesFor l2 (i + l1.length) c2 → NodesFor (l1 ++ l2) i (c1 ++ c2)
  | [], i, c1, l2, c2, h1, h2 => by
    cases h1
    simpa using h2
  | u :: l1, i, c1, l2, c2, ⟨r, h, h1⟩, h2 => by
    subst h
    refine ⟨r ++ c2, rfl, NodesFor.append h1 ?_⟩
    have e : i + 1 + (l1.length : Int) = i + ((u :: l1).length : Int) := by simp; omega
    rw [e]
    exact h2
theorem flat_for : ∀ (t : Term) (i : Int), NodesFor t.pre i (allC t i) := Term.ind fun t ih i => by
  have : ∀ (l : List Term), (∀ u ∈ l, ∀ i, NodesFor u.pre i (allC u i)) → ∀ i, NodesFor (Term.preL l) i (allL l i) := by
    intro l
    induction l with
    | nil => intro _ i; rw [allL_nil]; rfl
    | cons u l ihl =>
      intro h i
      rw [Term.preL_cons, allL_cons]
      refine NodesFor.append (h u (by simp) i) ?_
      rw [Term.pre_len]
      exact ihl (fun v hv => h v (by simp [hv])) _
  rw [Term.pre_def, allC_def]
  exact ⟨_, rfl, this t.a ih _⟩
theorem NodesFor.len : ∀ {l : List Term} {i : Int} {c : List CVal}, NodesFor l i c → c.length = l.length
  | [], i, c, h => by cases h; rfl
  | u :: l, i, c, ⟨r, h, h1⟩ => by subst h; simp [h1.len]
theorem NodesFor.get : ∀ {l : List Term} {i : Int} {c : List CVal} (n : Nat) {u : Term}, NodesFor l i c → l[n]? = some u → c[n]? = some (nodeC u (i + n))
  | [], i, c, n, u, h, hn => by simp at hn
  | v :: l, i, c, 0, u, ⟨r, h, h1⟩, hn => by
    subst h
    simp at hn
    subst hn
    simp
  | v :: l, i, c, n + 1, u, ⟨r, h, h1⟩, hn => by
    subst h
    have := h1.get n (u := u) (by simpa using hn)
    have e : i + 1 + (n : Int) = i + ((n + 1 : Nat) : Int) := by omega
    rw [e] at this
    simpa using this
end Go.Proofs.Ythnjnnnobipnfaa.Abs

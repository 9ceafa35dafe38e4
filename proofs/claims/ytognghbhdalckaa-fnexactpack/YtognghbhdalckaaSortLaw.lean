/- Lists in order, each element once: sorted and cut, or put in one by one. -/
import Derived.Test.YtognghbhdalckaaLib
set_option linter.unusedVariables false
set_option linter.unusedSectionVars false
set_option linter.unusedSimpArgs false
namespace Go.Proofs.Ytognghbhdalckaa.Abs
open Go Go.Proofs

/-- Two lists in order with the same elements are one. -/
theorem order_uniq : ∀ {l r : List Int}, l.Pairwise (· < ·) → r.Pairwise (· < ·) → (∀ x, x ∈ l ↔ x ∈ r) → l = r
  | [], [], _, _, _ => rfl
  | [], y :: r, _, _, h => by have := (h y).2 (by simp); simp at this
  | x :: l, [], _, _, h => by have := (h x).1 (by simp); simp at this
  | x :: l, y :: r, hl, hr, h => by
    rw [List.pairwise_cons] at hl hr
    have e : x = y := by
      have h1 := (h x).1 (by simp)
      have h2 := (h y).2 (by simp)
      rcases List.mem_cons.1 h1 with h1 | h1
      · exact h1
      · rcases List.mem_cons.1 h2 with h2 | h2
        · exact h2.symm
        · have := hr.1 x h1; have := hl.1 y h2; omega
    subst e
    refine congrArg _ (order_uniq hl.2 hr.2 fun z => ⟨fun hz => ?_, fun hz => ?_⟩)
    · rcases List.mem_cons.1 ((h z).1 (by simp [hz])) with e | e
      · have := hl.1 z hz; omega
      · exact e
    · rcases List.mem_cons.1 ((h z).2 (by simp [hz])) with e | e
      · have := hr.1 z hz; omega
      · exact e

/-- A number put into a list. -/
def insB (n : Int) : Bool → List Int → List Int
  | p, [] => if p then [] else [n]
  | p, x :: r => (if p = false ∧ n ≤ x then [n] else []) ++ ((if x = n then [] else [x]) ++ insB n (p || decide (n ≤ x)) r)
theorem insB_true (n : Int) : ∀ {l : List Int}, (∀ x ∈ l, n < x) → insB n true l = l
  | [], _ => rfl
  | x :: r, h => by
    have hx := h x (by simp)
    have e : ¬ x = n := by omega
    have ih := insB_true n (l := r) fun z hz => h z (by simp [hz])
    simp [insB, e, ih]
theorem insB_spec (n : Int) : ∀ {l : List Int}, l.Pairwise (· < ·) → (insB n false l).Pairwise (· < ·) ∧ ∀ x, x ∈ insB n false l ↔ x = n ∨ x ∈ l
  | [], _ => by simp [insB]
  | x :: r, h => by
    rw [List.pairwise_cons] at h
    obtain ⟨h1, h2⟩ := h
    by_cases hx : n ≤ x
    · have e : insB n true r = r := insB_true n fun z hz => by have := h1 z hz; omega
      by_cases hn : x = n
      · subst hn
        simp only [insB, hx, decide_true, Bool.or_true, e, and_self, if_true, List.nil_append, List.singleton_append]
        exact ⟨List.pairwise_cons.2 ⟨h1, h2⟩, by simp⟩
      · simp only [insB, hx, decide_true, Bool.or_true, e, and_self, if_true, hn, if_false, List.singleton_append]
        refine ⟨List.pairwise_cons.2 ⟨fun z hz => ?_, List.pairwise_cons.2 ⟨h1, h2⟩⟩, by simp⟩
        rcases List.mem_cons.1 hz with e | e
        · omega
        · have := h1 z e; omega
    · obtain ⟨i1, i2⟩ := insB_spec n h2
      have hn : ¬ x = n := by omega
      simp only [insB, hx, decide_false, Bool.or_false, and_false, if_false, hn, List.nil_append, List.singleton_append]
      refine ⟨List.pairwise_cons.2 ⟨fun z hz => ?_, i1⟩, fun z => ?_⟩
      · rcases (i2 z).1 hz with e | e
        · omega
        · exact h1 z e
      · simp only [List.mem_cons, i2 z]
        constructor
        · rintro (h | h | h) <;> simp [h]
        · rintro (h | h | h) <;> simp [h]
theorem insB_len (n : Int) : ∀ (l : List Int) (p : Bool), (insB n p l).length ≤ l.length + 1
  | [], p => by simp only [insB]; split <;> simp
  | x :: r, p => by
    have := insB_len n r (p || decide (n ≤ x))
    have h2 : ∀ {l : List Int}, (insB n true l).length ≤ l.length := by
      intro l
      induction l with
      | nil => simp [insB]
      | cons y l ih => simp only [insB, Bool.true_or]; simp only [List.length_append]; have : (if y = n then ([] : List Int) else [y]).length ≤ 1 := by split <;> simp
                       simp; omega
    simp only [insB, List.length_append, List.length_cons]
    have hi : (if x = n then ([] : List Int) else [x]).length ≤ 1 := by split <;> simp
    by_cases hp : p = false ∧ n ≤ x
    · have h3 := @h2 r
      simp only [hp.2, decide_true, Bool.or_true, if_pos hp, List.length_cons, List.length_nil] at this ⊢
      simp [hp] at *
      omega
    · simp only [if_neg hp, List.length_nil]; omega

/-- One by one. -/
def insAll (l : List Int) (ns : List Int) : List Int := ns.foldl (fun l n => insB n false l) l
theorem insAll_spec : ∀ {ns l : List Int}, l.Pairwise (· < ·) → (insAll l ns).Pairwise (· < ·) ∧ ∀ x, x ∈ insAll l ns ↔ x ∈ l ∨ x ∈ ns
  | [], l, h => by simpa [insAll] using h
  | n :: ns, l, h => by
    obtain ⟨h1, h2⟩ := insB_spec n h
    obtain ⟨h3, h4⟩ := insAll_spec (ns := ns) h1
    refine ⟨h3, fun x => ?_⟩
    rw [show insAll l (n :: ns) = insAll (insB n false l) ns from rfl, h4 x, h2 x]
    simp only [List.mem_cons]
    constructor
    · rintro ((h | h) | h) <;> simp [h]
    · rintro (h | h | h) <;> simp [h]

/-- Sorted and cut. -/
def srt (l : List Int) : List Int := Lib.compact (sortE l)
theorem sortE_mem {l : List Int} {x : Int} : x ∈ sortE l ↔ x ∈ l := by simp [sortE]
theorem sortE_len {l : List Int} : (sortE l).length = l.length := by simp [sortE]
theorem sortE_pair (l : List Int) : (sortE l).Pairwise (· ≤ ·) := by
  have := List.pairwise_mergeSort (le := fun x y : Int => decide (x ≤ y)) (fun a b c h1 h2 => by simp at *; omega) (fun a b => by simp; omega) l
  simpa [sortE] using this
theorem cut_spec {zs : List Int} (hs : zs.Pairwise (· ≤ ·)) : (Lib.compact zs).Pairwise (· < ·) ∧ ∀ x, x ∈ Lib.compact zs ↔ x ∈ zs := by
  have hle : ∀ i j, i ≤ j → j < zs.length → zs.toArray[i]! ≤ zs.toArray[j]! := by
    intro i j hij hj
    rw [getElem!_pos _ i (by simp; omega), getElem!_pos _ j (by simpa using hj)]
    simp only [List.getElem_toArray]
    rcases Nat.lt_or_ge i j with h | h
    · exact List.pairwise_iff_getElem.1 hs i j (by omega) hj h
    · obtain rfl : i = j := by omega
      exact Int.le_refl _
  have key : ∀ m, m ≤ zs.length → (Lib.compactUpTo zs.toArray m).Pairwise (· < ·) ∧ ∀ x, x ∈ Lib.compactUpTo zs.toArray m ↔ ∃ j, j < m ∧ zs.toArray[j]! = x := by
    intro m
    induction m with
    | zero => intro _; simp [Lib.compactUpTo]
    | succ m ih =>
      intro hm
      obtain ⟨h1, h2⟩ := ih (by omega)
      rw [Lib.compactUpTo_succ]
      by_cases hk : Lib.keeps zs.toArray m = true
      · rw [if_pos hk]
        have hk' : m = 0 ∨ zs.toArray[m]! ≠ zs.toArray[m - 1]! := by simpa [Lib.keeps] using hk
        refine ⟨List.pairwise_append.2 ⟨h1, by simp, fun x hx y hy => ?_⟩, fun x => ?_⟩
        · obtain ⟨j, hj, rfl⟩ := (h2 x).1 hx
          obtain rfl : y = zs.toArray[m]! := by simpa using hy
          rcases hk' with h | h
          · omega
          · have a1 := hle j (m - 1) (by omega) (by omega)
            have a2 := hle (m - 1) m (by omega) (by omega)
            omega
        · rw [List.mem_append, h2 x]
          constructor
          · rintro (⟨j, hj, e⟩ | h)
            · exact ⟨j, by omega, e⟩
            · exact ⟨m, by omega, (by simpa using h : x = zs.toArray[m]!).symm⟩
          · rintro ⟨j, hj, e⟩
            rcases Nat.lt_or_ge j m with h | h
            · exact .inl ⟨j, h, e⟩
            · obtain rfl : j = m := by omega
              exact .inr (by simp [e])
      · rw [if_neg hk, List.append_nil]
        have hk' : ¬ (m = 0 ∨ zs.toArray[m]! ≠ zs.toArray[m - 1]!) := by simpa [Lib.keeps] using hk
        refine ⟨h1, fun x => ?_⟩
        rw [h2 x]
        constructor
        · rintro ⟨j, hj, e⟩; exact ⟨j, by omega, e⟩
        · rintro ⟨j, hj, e⟩
          rcases Nat.lt_or_ge j m with h | h
          · exact ⟨j, h, e⟩
          · obtain rfl : j = m := by omega
            have h0 : j ≠ 0 := fun h => hk' (.inl h)
            have he : zs.toArray[j]! = zs.toArray[j - 1]! := Classical.byContradiction fun h => hk' (.inr h)
            exact ⟨j - 1, by omega, by rw [← he, e]⟩
  obtain ⟨h1, h2⟩ := key zs.length (Nat.le_refl _)
  refine ⟨h1, fun x => ?_⟩
  unfold Lib.compact
  rw [h2 x]
  constructor
  · rintro ⟨j, hj, e⟩
    rw [getElem!_pos _ j (by simpa using hj)] at e
    rw [← e]
    simp
  · intro hx
    obtain ⟨j, hj, e⟩ := List.getElem_of_mem hx
    exact ⟨j, hj, by rw [getElem!_pos _ j (by simpa using hj)]; simpa using e⟩
theorem srt_spec (l : List Int) : (srt l).Pairwise (· < ·) ∧ ∀ x, x ∈ srt l ↔ x ∈ l := by
  obtain ⟨h1, h2⟩ := cut_spec (sortE_pair l)
  exact ⟨h1, fun x => by unfold srt; rw [h2 x, sortE_mem]⟩
theorem srt_len (l : List Int) : (srt l).length ≤ l.length := by
  unfold srt
  have := Lib.compact_length_le (sortE l)
  rwa [sortE_len] at this
theorem srt_ins (l : List Int) : insAll [] l = srt l := by
  obtain ⟨h1, h2⟩ := insAll_spec (ns := l) (l := []) List.Pairwise.nil
  obtain ⟨h3, h4⟩ := srt_spec l
  exact order_uniq h1 h3 fun x => by rw [h2 x, h4 x]; simp
/-- A list that is in order stays. -/
theorem srt_of {l r : List Int} (h : r.Pairwise (· < ·)) (hm : ∀ x, x ∈ r ↔ x ∈ l) : srt l = r := by
  obtain ⟨h3, h4⟩ := srt_spec l
  exact order_uniq h3 h fun x => by rw [h4 x, hm x]
end Go.Proofs.Ytognghbhdalckaa.Abs

/- A text cut at the blanks. -/
import Derived.Test.YtegbnddjgifcdaaDoorParseS
import Derived.Lib.SplitLaws
set_option linter.unusedVariables false
set_option linter.unusedSimpArgs false
set_option linter.unusedSectionVars false
set_option maxRecDepth 100000
namespace Go.Proofs.YtegbnddjgifcdaaDoor.Abs
open Go Go.Proofs
open Classical

/-- Cut at the blanks; p stands ahead already. -/
def cutP : List UInt8 → List UInt8 → List (List UInt8)
  | p, [] => [p]
  | p, c :: s => if c = 32 then p :: cutP [] s else cutP (p ++ [c]) s
theorem cutP_none {s : List UInt8} : ∀ (p : List UInt8), (∀ c ∈ s, c ≠ 32) → cutP p s = [p ++ s] := by
  induction s with
  | nil => intro p _; simp [cutP]
  | cons c s ih => intro p h; rw [cutP, if_neg (h c (by simp)), ih _ fun x hx => h x (by simp [hx])]; simp
theorem cutP_hit {q : List UInt8} : ∀ (p r : List UInt8), (∀ c ∈ q, c ≠ 32) → cutP p (q ++ 32 :: r) = (p ++ q) :: cutP [] r := by
  induction q with
  | nil => intro p r _; simp [cutP]
  | cons c s ih => intro p r h; rw [List.cons_append, cutP, if_neg (h c (by simp)), ih _ _ fun x hx => h x (by simp [hx])]; simp
theorem cutP_len {s : List UInt8} : ∀ p : List UInt8, (cutP p s).length ≤ s.length + 1 := by
  induction s with
  | nil => intro p; simp [cutP]
  | cons c s ih =>
    intro p
    rw [cutP]
    split
    · have := ih []; simp only [List.length_cons]; omega
    · have := ih (p ++ [c]); simp only [List.length_cons]; omega
theorem first_blank (s : List UInt8) : (∀ c ∈ s, c ≠ 32) ∨ ∃ q r : List UInt8, s = q ++ 32 :: r ∧ ∀ c ∈ q, c ≠ 32 := by
  induction s with
  | nil => exact .inl (by simp)
  | cons c s ih =>
    by_cases hc : c = 32
    · exact .inr ⟨[], s, by simp [hc], by simp⟩
    · rcases ih with h | ⟨q, r, h, hq⟩
      · exact .inl fun x hx => by rcases List.mem_cons.1 hx with rfl | hx; exact hc; exact h x hx
      · exact .inr ⟨c :: q, r, by simp [h], fun x hx => by rcases List.mem_cons.1 hx with rfl | hx; exact hc; exact hq x hx⟩
theorem occ_none {s : List UInt8} (h : ∀ c ∈ s, c ≠ 32) (j : Nat) : Lib.occAt s [32] j = false := by
  cases hb : Lib.occAt s [32] j with
  | false => rfl
  | true => exact absurd rfl (h 32 (List.mem_of_getElem? (Lib.occAt_head rfl hb)))
theorem index_blank {q r : List UInt8} (h : ∀ c ∈ q, c ≠ 32) : Lib.index (q ++ 32 :: r) [32] = q.length := by
  refine Lib.index_first (by simp) ?_ fun j hj => ?_
  · simp [Lib.occAt]
  · cases hb : Lib.occAt (q ++ 32 :: r) [32] j with
    | false => rfl
    | true =>
      have h1 := Lib.occAt_head rfl hb
      rw [List.getElem?_append_left hj] at h1
      exact absurd rfl (h 32 (List.mem_of_getElem? h1))
theorem split_cut : ∀ (n : Nat) (s : List UInt8), s.length ≤ n → Lib.split s [32] = cutP [] s := by
  intro n
  induction n with
  | zero =>
    intro s hs
    have : s = [] := List.eq_nil_of_length_eq_zero (by omega)
    subst this
    rfl
  | succ n ih =>
    intro s hs
    rcases first_blank s with h | ⟨q, r, rfl, h⟩
    · rw [cutP_none _ h]
      unfold Lib.split
      rw [Lib.count_miss (Lib.index_none fun j _ => occ_none h j)]
      rfl
    · rw [cutP_hit _ _ h]
      have hi := index_blank (r := r) h
      unfold Lib.split
      rw [Lib.count_hit (by simp) hi]
      have hd : (q ++ 32 :: r).drop (q.length + [(32 : UInt8)].length) = r := by
        rw [List.length_singleton, show q.length + 1 = q.length + 1 from rfl, ← List.drop_drop]; simp
      rw [hd, Nat.add_comm 1, Lib.splitK]
      rw [if_neg (by rw [hi]; simp), hi, Int.toNat_natCast, hd]
      have := ih r (by simp at hs; omega)
      unfold Lib.split at this
      rw [this]
      simp
end Go.Proofs.YtegbnddjgifcdaaDoor.Abs

/- Types put for variables: which are left, and what stays. -/
import Derived.Test.YtmjjaoffeajcbaaTySubst
set_option linter.unusedVariables false
set_option linter.unusedSimpArgs false
set_option maxRecDepth 100000
namespace Go.Proofs.Ytmjjaoffeajcbaa.Abs
open Go Go.Proofs
open Classical

namespace Ty
theorem varsL_le {l : List Ty} {M : Int} : ∀ {m : Int}, m ≤ M → (∀ t ∈ l, t.vars ≤ M) → varsL m l ≤ M := by
  induction l with
  | nil => intro m h _; simpa using h
  | cons t l ih =>
    intro m h h2
    rw [varsL_cons]
    exact ih (by have := h2 t (by simp); omega) fun u hu => h2 u (by simp [hu])
theorem put_vars {ts : List Ty} {M : Int} (h0 : 0 ≤ M) (h : ∀ u ∈ ts, u.vars ≤ M) : ∀ t : Ty, (t.put ts).vars ≤ M := ind fun t ih => by
  rw [put_def]
  split
  · cases hh : ts[t.n.toNat]? with
    | none => simp only [Option.getD_none]; rw [vars_def]; simpa using h0
    | some u => exact h u (List.mem_of_getElem? hh)
  · rename_i h3
    rw [vars_def]
    rw [a_mk]
    refine varsL_le (by rw [if_neg (by rw [k_mk]; exact h3)]; exact h0) fun u hu => ?_
    obtain ⟨x, hx, rfl⟩ := List.mem_map.1 hu
    exact ih x hx
/-- The variables themselves. -/
def selfs : List Ty := [.mk 3 0 [], .mk 3 1 []]
theorem put_self : ∀ t : Ty, t.good → t.put selfs = t := ind fun t ih hg => by
  obtain ⟨hh, hp⟩ := (good_def t).1 hg
  rw [put_def]
  by_cases h3 : t.k = 3
  · rw [if_pos h3]
    have ha : t.a = [] := by
      have := hh.1
      rw [h3] at this
      have h0 : tyParts 3 = 0 := by decide
      rw [h0] at this
      exact List.eq_nil_of_length_eq_zero (by omega)
    have hn : t.n = 0 ∨ t.n = 1 := by rcases hh.2 with h | h; exact .inl h; exact .inr h.2
    rcases hn with hn | hn
    · rw [hn]
      show Ty.mk 3 0 [] = t
      rw [← eta t, h3, hn, ha]
    · rw [hn]
      show Ty.mk 3 1 [] = t
      rw [← eta t, h3, hn, ha]
  · rw [if_neg h3]
    have : t.a.map (put selfs) = t.a := by
      have : ∀ l : List Ty, (∀ u ∈ l, u.put selfs = u) → l.map (put selfs) = l := by
        intro l
        induction l with
        | nil => intro _; rfl
        | cons x l ih => intro h; rw [List.map_cons, h x (by simp), ih fun y hy => h y (by simp [hy])]
      exact this t.a fun u hu => ih u hu (hp u hu)
    rw [this, eta]
theorem good_vars2 : ∀ t : Ty, t.good → t.vars ≤ 2 := ind fun t ih hg => by
  obtain ⟨hh, hp⟩ := (good_def t).1 hg
  rw [vars_def]
  refine varsL_le ?_ fun u hu => ih u hu (hp u hu)
  split
  · have hn : t.n = 0 ∨ t.n = 1 := by rcases hh.2 with h | h; exact .inl h; exact .inr h.2
    rw [wrap_i64 (by omega) (by omega)]; omega
  · omega
theorem selfs_good : ∀ u ∈ selfs, u.good := by
  intro u hu
  simp only [selfs, List.mem_cons, List.not_mem_nil, or_false] at hu
  rw [good_def]
  rcases hu with rfl | rfl
  · exact ⟨⟨by decide, .inl rfl⟩, by simp⟩
  · exact ⟨⟨by decide, .inr ⟨rfl, rfl⟩⟩, by simp⟩
theorem selfs_right : ∀ u ∈ selfs, u.right := by
  intro u hu
  refine ⟨selfs_good u hu, ?_⟩
  simp only [selfs, List.mem_cons, List.not_mem_nil, or_false] at hu
  rcases hu with rfl | rfl <;> (rw [depth_def, nodes_def]; simp)
theorem selfs_ok : ∀ u ∈ selfs, u.ok := by
  intro u hu
  simp only [selfs, List.mem_cons, List.not_mem_nil, or_false] at hu
  rcases hu with rfl | rfl <;> exact ⟨by rw [wt_def]; simp [i64], by rw [sz_def]; simp⟩
end Ty
end Go.Proofs.Ytmjjaoffeajcbaa.Abs

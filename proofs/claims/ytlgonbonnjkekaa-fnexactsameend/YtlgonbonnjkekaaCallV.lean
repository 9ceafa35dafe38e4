/- Function values that are data: called on data, and called on what else. -/
import Derived.Test.YtlgonbonnjkekaaRun
set_option linter.unusedVariables false
set_option linter.unusedSectionVars false
set_option linter.unusedSimpArgs false
namespace Go.Proofs.Ytlgonbonnjkekaa.Abs
open Go

section
variable {R : Type}
theorem allV_some : ∀ {args : List AVal} {cs : List CVal}, allV args = some cs → args = cs.map .v
  | [], cs, h => by cases h; rfl
  | x :: r, cs, h => by
    cases x with
    | v c =>
      simp only [allV, Option.bind_eq_some_iff] at h
      obtain ⟨l, hl, h⟩ := h
      cases h
      rw [allV_some hl]; rfl
    | _ => cases h
theorem allV_map : ∀ {cs : List CVal}, allV (cs.map .v) = some cs
  | [] => rfl
  | c :: r => by
    show (allV (r.map .v)).bind _ = _
    rw [allV_map]; rfl
theorem promo_v {E : Env} {g : FuncId} {q : Nat} : ∀ {cs : List CVal} {used : Bool} {j : Nat} {b : List Blk} {K : List AVal → List Blk → Option R}, promo E g q used j (cs.map .v) b K = K (cs.map .v) b
  | [], _, _, _, _ => rfl
  | c :: r, used, j, b, K => promo_v (cs := r) (K := fun l b => K (.v c :: l) b)
theorem handAll_v {pm : Nat → PM} : ∀ {cs : List CVal} {j : Nat} {h : Hand} {K : Hand → Option R}, handAll pm j (cs.map .v) h K = K ⟨h.args ++ cs.map .v, h.ids, h.b⟩
  | [], j, h, K => by simp [handAll]
  | c :: r, j, h, K => by
    show handAll pm (j + 1) (r.map .v) ⟨h.args ++ [.v c], h.ids, h.b⟩ K = _
    rw [handAll_v]; simp
theorem borrows_v {E : Env} {g : FuncId} : ∀ {cs : List CVal} {j : Nat}, borrows E g j (cs.map .v) = false
  | [], _ => rfl
  | c :: r, j => by
    simp [borrows, borrows_v (cs := r)]
theorem callK_v {E : Env} {C : CallT} {q : Nat} {g : FuncId} {cs : List CVal} {b : List Blk} {K : AVal → List Blk → Option R} (hg : g ≠ apId) :
    callK E C q g (cs.map .v) b K = (match E.prim g with | some p => p (cs.map .v) [] | none => C g (cs.map .v) []).bind fun r =>
      match E.rm g with
      | none => K (.v r.1) b
      | some _ => none := by
  unfold callK
  rw [show (g == apId) = false by simpa using hg, promo_v, handAll_v]
  simp only [handBlks, List.all_nil, br, List.nil_append, borrows_v, Bool.false_and, backBlks]
  rfl
theorem callV_some {E : Env} {C : CallT} {q : Nat} {c : CVal} {args : List AVal} {b : List Blk} {K : AVal → List Blk → Option R} {r : R} (h : callV E C q c args b K = some r) :
    (∃ cs, args = cs.map .v ∧ apF C c cs (fun r => K (.v r) b) = some r) ∨ (allV args = none ∧ ∃ g caps, c = .func g caps ∧ callK E C q g (args ++ caps.map .v) b K = some r) := by
  unfold callV at h
  split at h
  · rename_i cs hcs
    exact .inl ⟨cs, allV_some hcs, h⟩
  · rename_i hno
    split at h
    · exact .inr ⟨hno, _, _, rfl, h⟩
    · cases h
theorem pureArgs_v {E : Env} {g : FuncId} : ∀ {cs : List CVal} {j : Nat}, pureArgs E g j (cs.map .v) = true
  | [], _ => rfl
  | c :: r, j => pureArgs_v (cs := r)
theorem blindArgs_v {E : Env} {g : FuncId} : ∀ {cs : List CVal} {j : Nat}, blindArgs E g j (cs.map .v) = true
  | [], _ => rfl
  | c :: r, j => blindArgs_v (cs := r)
theorem pureV_func {E : Env} {g : FuncId} {caps : List CVal} {args : List AVal} : pureV E (.func g caps) args = pureArgs E g 0 (args ++ caps.map .v) := by
  unfold pureV
  cases h : allV args with
  | none => rfl
  | some cs => rw [allV_some h, ← List.map_append, pureArgs_v]
theorem blindV_func {E : Env} {g : FuncId} {caps : List CVal} {args : List AVal} : blindV E (.func g caps) args = blindArgs E g 0 (args ++ caps.map .v) := by
  unfold blindV
  cases h : allV args with
  | none => rfl
  | some cs => rw [allV_some h, ← List.map_append, blindArgs_v]
end
end Go.Proofs.Ytlgonbonnjkekaa.Abs

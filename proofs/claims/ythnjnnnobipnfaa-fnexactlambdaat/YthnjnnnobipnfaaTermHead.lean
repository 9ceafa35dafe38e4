/- Terms: what a term is but for its parts. -/
import Derived.Test.YthnjnnnobipnfaaNames
import Derived.Test.YthnjnnnobipnfaaTySame
import Derived.Test.YthnjnnnobipnfaaTermFns
import Derived.Test.YthnjnnnobipnfaaSlicesTerm
set_option linter.unusedVariables false
set_option linter.unusedSectionVars false
set_option linter.unusedSimpArgs false
namespace Go.Proofs.Ythnjnnnobipnfaa.Abs
open Go Go.Proofs
open Classical

/-- What a term's kind may be. -/
theorem kCases (k : Int) : (k = 1 ∨ k = 2 ∨ k = 3 ∨ k = 4 ∨ k = 5 ∨ k = 6 ∨ k = 7 ∨ k = 8 ∨ k = 9 ∨ k = 10 ∨ k = 11 ∨ k = 12 ∨ k = 13 ∨ k = 14 ∨ k = 15 ∨ k = 16 ∨ k = 17) ∨ (¬ k = 1 ∧ ¬ k = 2 ∧ ¬ k = 3 ∧ ¬ k = 4 ∧ ¬ k = 5 ∧ ¬ k = 6 ∧ ¬ k = 7 ∧ ¬ k = 8 ∧ ¬ k = 9 ∧ ¬ k = 10 ∧ ¬ k = 11 ∧ ¬ k = 12 ∧ ¬ k = 13 ∧ ¬ k = 14 ∧ ¬ k = 15 ∧ ¬ k = 16 ∧ ¬ k = 17) := by omega
/-- How many parts a term of a kind has. -/
def parts (k : Int) : Int :=
  if k = 1 then 0 else if k = 2 then 0 else if k = 3 then 0 else if k = 12 then 0 else if k = 4 then 1 else if k = 10 then 1 else if k = 11 then 1 else if k = 16 then 1 else
  if k = 5 then 2 else if k = 6 then 2 else if k = 7 then 2 else if k = 9 then 2 else if k = 13 then 2 else if k = 15 then 2 else if k = 17 then 2 else if k = 8 then 3 else if k = 14 then 3 else -1
theorem parts_i (k : Int) : CC f_i_parts [.v (.int .i64 k)] [] = some (.int .i64 (parts k), []) := by
  apply go_i_parts
  rcases kCases k with (rfl | rfl | rfl | rfl | rfl | rfl | rfl | rfl | rfl | rfl | rfl | rfl | rfl | rfl | rfl | rfl | rfl) | ⟨h1, h2, h3, h4, h5, h6, h7, h8, h9, h10, h11, h12, h13, h14, h15, h16, h17⟩
  all_goals first | rfl | skip
  unfold nf_i_parts parts
  simp only [h1, h2, h3, h4, h5, h6, h7, h8, h9, h10, h11, h12, h13, h14, h15, h16, h17, decide_false, br_false', if_false]
def bindsS (k : Int) : Bool := decide (k = 4) || (decide (k = 6) || (decide (k = 7) || (decide (k = 14) || decide (k = 17))))
def hasT (k : Int) : Bool := decide (k = 4) || (decide (k = 7) || (decide (k = 12) || decide (k = 16)))
theorem or_step {a b : Bool} : (br a (some (true, PUnit.unit)) (some (b, PUnit.unit)) : Option (Bool × PUnit)) = some (a || b, PUnit.unit) := by cases a <;> rfl
theorem and_step {a b : Bool} : (br a (some (b, PUnit.unit)) (some (false, PUnit.unit)) : Option (Bool × PUnit)) = some (a && b, PUnit.unit) := by cases a <;> rfl
theorem bindsS_i (k : Int) : CC f_i_bindsS [.v (.int .i64 k)] [] = some (.bool (bindsS k), []) := by
  apply go_i_bindsS
  unfold nf_i_bindsS bindsS
  simp only [or_step, Option.bind_some]
theorem hasT_i (k : Int) : CC f_i_hasT [.v (.int .i64 k)] [] = some (.bool (hasT k), []) := by
  apply go_i_hasT
  unfold nf_i_hasT hasT
  simp only [or_step, Option.bind_some]
def numberOk (k n : Int) : Bool :=
  if k = 1 then decide (-1000000 ≤ n ∧ n ≤ 1000000) else if k = 2 then decide (0 ≤ n ∧ n ≤ 1) else if k = 6 then decide (0 ≤ n ∧ n ≤ 2) else if k = 7 then decide (0 ≤ n ∧ n ≤ 2) else
  if k = 15 then decide (1 ≤ n ∧ n ≤ 5) else decide (n = 0)
theorem numberOk_i (k n : Int) : CC f_i_numberOk [.v (.int .i64 k), .v (.int .i64 n)] [] = some (.bool (numberOk k n), []) := by
  apply go_i_numberOk
  unfold nf_i_numberOk numberOk
  simp only [in_law, Option.bind_some, br_decide]
  split
  · rfl
  split
  · rfl
  split
  · rfl
  split
  · rfl
  split <;> rfl
theorem numberOk_s (t : Term) : CC f_s_l2Number [.v t.enc] [] = some (.bool (numberOk t.k t.n), []) := by
  rw [Term.enc_def]
  apply go_s_l2Number
  unfold nf_s_l2Number numberOk
  simp only [l1In_law, Option.bind_some, br_decide]
  split
  · rfl
  split
  · rfl
  split
  · rfl
  split
  · rfl
  split <;> rfl
/-- Whether the names are as a kind has them. -/
def namesOk (k : Int) (s z : List UInt8) : Bool :=
  if k = 14 then isName false s && (isName false z && !decide (s = z)) else decide (z = []) && ((isName false s == (bindsS k || decide (k = 3))) && (decide (s = []) || isName false s))
theorem namesOk_i (k : Int) (s z : List UInt8) (hs : s.length ≤ 1048576) (hz : z.length ≤ 1048576) : CC f_i_namesOk [.v (.int .i64 k), .v (.str s), .v (.str z)] [] = some (.bool (namesOk k s z), []) := by
  apply go_i_namesOk
  unfold nf_i_namesOk namesOk
  simp only [isName_i s hs, isName_i z hz, bindsS_i, Option.bind_some, asBool_bool, cond_true, cond_false, br_decide]
  split
  · cases isName false s <;> cases isName false z <;> simp
  · by_cases h1 : z = []
    · cases bindsS k <;> cases isName false s <;> by_cases h3 : k = 3 <;> by_cases h2 : s = [] <;> simp [h1, h2, h3]
    · simp [h1]
/-- What the reference tells of a kind: parts, numbers, and whether S, Z, T. -/
def shapeN (k : Int) : Int := if k = 1 then 1 else if k = 2 then 1 else if k = 6 then 1 else if k = 7 then 1 else if k = 15 then 1 else 0
theorem shape_s (k : Int) : CC f_s_l2Of [.v (.int .i64 k)] [] = some (.agg [.int .i64 (parts k), .int .i64 (shapeN k), .bool (bindsS k || decide (k = 3)), .bool (decide (k = 14)), .bool (hasT k)], []) := by
  apply go_s_l2Of
  rcases kCases k with (rfl | rfl | rfl | rfl | rfl | rfl | rfl | rfl | rfl | rfl | rfl | rfl | rfl | rfl | rfl | rfl | rfl) | ⟨h1, h2, h3, h4, h5, h6, h7, h8, h9, h10, h11, h12, h13, h14, h15, h16, h17⟩
  all_goals first | rfl | skip
  unfold nf_s_l2Of parts shapeN bindsS hasT
  simp only [h1, h2, h3, h4, h5, h6, h7, h8, h9, h10, h11, h12, h13, h14, h15, h16, h17, decide_false, br_false', if_false, Bool.or_false]

namespace Ty
/-- The type that is none. -/
def zero : Ty := .mk 0 0 []
theorem zero_enc : zero.enc = .agg [.int .i64 0, .int .i64 0, .sl []] := by rw [zero, enc]; rfl
noncomputable def rightB (t : Ty) : Bool := decide t.right
end Ty
namespace Term
def fixB (t : Term) : Bool :=
  match t.a with
  | [] => false
  | x :: _ => decide (x.k = 4)
/-- Whether a term is right but for its parts. -/
noncomputable def head (t : Term) : Bool :=
  decide ((t.a.length : Int) = parts t.k) && (numberOk t.k t.n && (namesOk t.k t.s t.z && ((!decide (t.k = 7) || t.fixB) && ((hasT t.k == t.t.rightB) && ((hasT t.k || t.t.same Ty.zero) &&
    (decide ((t.ts.length : Int) ≤ if t.k = 3 then 2 else 0) && !t.ts.any fun x => !x.rightB))))))
end Term
theorem headTy_law (x : Ty) (hok : x.ok) : CC f_i_headOk_1 [.v x.enc] [] = some (.bool (!x.rightB), []) := by
  have h := TyOk_i hok
  rw [Ty.enc_def]
  apply go_i_headOk_1
  unfold nf_i_headOk_1
  simp only [Ty.enc_eta, h, Option.bind_some, asBool_bool]
  rfl
end Go.Proofs.Ythnjnnnobipnfaa.Abs

/- The text of a type. -/
import Derived.Test.YthnjnnnobipnfaaTyLaws
import Derived.Test.YthnjnnnobipnfaaTyOwn
import Derived.Lib.ItoaLen
import Derived.Lib.Join
set_option linter.unusedVariables false
set_option linter.unusedSectionVars false
set_option linter.unusedSimpArgs false
set_option maxRecDepth 100000
namespace Go.Proofs.Ythnjnnnobipnfaa.Abs
open Go Go.Proofs
open Classical

namespace Ty
def word (k n : Int) : List UInt8 := if k = 1 then [105] else if k = 2 then [98] else if k = 3 then 118 :: Lib.itoa n else if k = 4 then [102] else if k = 5 then [112] else [108]
def toks : Ty → List (List UInt8)
  | .mk k n a => word k n :: (a.map toks).flatten
def toksL (l : List Ty) : List (List UInt8) := (l.map toks).flatten
theorem toks_def (t : Ty) : t.toks = word t.k t.n :: toksL t.a := by cases t; rw [toks]; rfl
@[simp] theorem toksL_nil : toksL [] = [] := rfl
@[simp] theorem toksL_cons {t : Ty} {l : List Ty} : toksL (t :: l) = t.toks ++ toksL l := by simp [toksL]
def text : Ty → List UInt8
  | .mk k n a => word k n ++ (a.map fun t => (32 : UInt8) :: text t).flatten
def textL (l : List Ty) : List UInt8 := (l.map fun t => (32 : UInt8) :: text t).flatten
theorem text_def (t : Ty) : t.text = word t.k t.n ++ textL t.a := by cases t; rw [text]; rfl
@[simp] theorem textL_nil : textL [] = [] := rfl
@[simp] theorem textL_cons {t : Ty} {l : List Ty} : textL (t :: l) = 32 :: t.text ++ textL l := by simp [textL]
theorem joinTail_append (a b : List (List UInt8)) : Lib.joinTail [32] (a ++ b) = Lib.joinTail [32] a ++ Lib.joinTail [32] b := by simp [Lib.joinTail]
theorem joinTail_cons (a : List UInt8) (b : List (List UInt8)) : Lib.joinTail [32] (a :: b) = 32 :: a ++ Lib.joinTail [32] b := by simp [Lib.joinTail]
theorem joinTail_toks : ∀ t : Ty, Lib.joinTail [32] t.toks = 32 :: t.text := ind fun t ih => by
  have : ∀ l : List Ty, (∀ u ∈ l, Lib.joinTail [32] u.toks = 32 :: u.text) → Lib.joinTail [32] (toksL l) = textL l := by
    intro l
    induction l with
    | nil => intro _; rfl
    | cons u l ih =>
      intro h
      rw [toksL_cons, joinTail_append, h u (by simp), ih fun v hv => h v (by simp [hv]), textL_cons]
  rw [toks_def, joinTail_cons, this t.a ih, text_def]
  rfl
theorem join_toks (t : Ty) : Lib.join t.toks [32] = t.text := by
  have h := joinTail_toks t
  rw [toks_def, joinTail_cons] at h
  rw [toks_def, Lib.join_cons]
  simpa using h
theorem toks_len : ∀ t : Ty, t.toks.length = t.nodes := ind fun t ih => by
  have : ∀ l : List Ty, (∀ u ∈ l, u.toks.length = u.nodes) → (toksL l).length = nodesL l := by
    intro l
    induction l with
    | nil => intro _; rfl
    | cons u l ih =>
      intro h
      rw [toksL_cons, List.length_append, h u (by simp), ih fun v hv => h v (by simp [hv]), nodesL_cons]
  rw [toks_def, List.length_cons, this t.a ih, nodes_def]
theorem headOk.kind {t : Ty} (h : t.headOk) : t.k = 1 ∨ t.k = 2 ∨ t.k = 3 ∨ t.k = 4 ∨ t.k = 5 ∨ t.k = 6 := by
  have h1 := h.1
  unfold tyParts at h1
  repeat' split at h1
  all_goals omega
theorem headOk.num {t : Ty} (h : t.headOk) : t.n = 0 ∨ t.n = 1 := by
  rcases h.2 with h | h
  · exact .inl h
  · exact .inr h.2
theorem itoa_digit {n : Int} (h : n = 0 ∨ n = 1) : Lib.itoa n = [UInt8.ofNat (48 + n.toNat)] := by
  unfold Lib.itoa
  rw [if_neg (by omega), Lib.decDigits_one (by omega)]
theorem word_len {t : Ty} (h : t.headOk) : (word t.k t.n).length ≤ 2 := by
  unfold word
  rw [itoa_digit h.num]
  repeat' split
  all_goals simp
theorem text_len : ∀ t : Ty, t.good → t.text.length + 1 ≤ 3 * t.nodes := ind fun t ih hg => by
  obtain ⟨hh, hp⟩ := (good_def t).1 hg
  have : ∀ l : List Ty, (∀ u ∈ l, u.text.length + 1 ≤ 3 * u.nodes) → (textL l).length ≤ 3 * nodesL l := by
    intro l
    induction l with
    | nil => intro _; simp
    | cons u l ih =>
      intro h
      have h1 := h u (by simp)
      have h2 := ih fun v hv => h v (by simp [hv])
      simp only [textL_cons, List.length_append, List.length_cons, nodesL_cons]; omega
  have h1 := this t.a fun u hu => ih u hu (hp u hu)
  have h2 := word_len hh
  rw [text_def, List.length_append, nodes_def]; omega
end Ty

theorem word_at {t : Ty} (h : t.headOk) : [CVal.str [], CVal.str [(105 : UInt8)], CVal.str [(98 : UInt8)], CVal.str [(118 : UInt8)], CVal.str [(102 : UInt8)], CVal.str [(112 : UInt8)], CVal.str [(108 : UInt8)]][t.k.toNat]? = some (.str (if t.k = 3 then [118] else Ty.word t.k t.n)) := by
  rcases h.kind with e | e | e | e | e | e <;> rw [e] <;> rfl


end Go.Proofs.Ythnjnnnobipnfaa.Abs

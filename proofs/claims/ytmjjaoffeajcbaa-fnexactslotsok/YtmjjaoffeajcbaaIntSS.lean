/- Lists of lists of numbers: what is made of them, and their size. -/
import Derived.Test.YtmjjaoffeajcbaaIntsFns
set_option linter.unusedVariables false
set_option linter.unusedSimpArgs false
set_option maxRecDepth 100000
namespace Go.Proofs.Ytmjjaoffeajcbaa.Abs
open Go Go.Proofs

def ei (l : List Int) : CVal := .sl (l.map (.int .i64))
def SzSS (l : List (List Int)) : Nat := (l.map List.length).sum
theorem SzSS_cons {x : List Int} {l : List (List Int)} : SzSS (x :: l) = x.length + SzSS l := by simp [SzSS]
theorem SzSS_mem {x : List Int} : ∀ {l : List (List Int)}, x ∈ l → x.length ≤ SzSS l
  | [], h => by cases h
  | y :: l, h => by
    rw [SzSS_cons]
    rcases List.mem_cons.1 h with e | e
    · subst e; omega
    · have := SzSS_mem e; omega
@[simp] theorem ei_fits {l : List Int} : CVal.fits false 1 (ei l) = true := rfl
@[simp] theorem ei_cell {l : List Int} : (ei l).cell 0 = some (ei l) := rfl
@[simp] theorem ei_asSl {l : List Int} : (ei l).asSl = some (l.map (.int .i64)) := rfl
@[simp] theorem ei_flat {l : List Int} : (ei l).isFlat = true := rfl
end Go.Proofs.Ytmjjaoffeajcbaa.Abs

/-
  NARROWER THAN 'FOR EVERY INPUT', by the rows' own cells (each row's printed sentence says how): FnExactLambdas: loops · FnExactNodeAt: loops · FnExactLambdaAt: loops.
  DERIVED. THE GIVEN ROWS OF THIS SEAT. 3 by the template 'for every input the law returns true; each argument reads behind the call as it read before'; 0 by the template 'total and deterministic' (their statements: YthnjnnnobipnfaaTotals.lean).
  GIVEN WITH THE SEED: the statements are not yours to turn. If you find one false, say at which input.
  Laid BY PROGRAM, IN A SANDBOX (cutbox-rows.mjs): the forced cells as the released guide's own fill.sh prints them over the translation 79d126295d34e600… (all of the seat's roots in one cut). By AI agents, Wed Nov 11 2026. No macro, syntax, notation, axiom, sorry.
-/
import Derived.Test.YthnjnnnobipnfaaChecked
import GoSem.Claim
import GoSem.ClaimJoined
import GoSem.ClaimMapViews
import Derived.JoinedTies
import Derived.KernelRfl
namespace Go.Proofs.Ythnjnnnobipnfaa
/- THE CELL 'sum', in the pinned program and in every row, IS THE sha256 OF THE DUMP (.gsa) THAT YthnjnnnobipnfaaProg.lean LOADS. Nothing in Lean hashes anything: it is a label: what it is worth is what the hold of that sum in a sandbox is worth. -/
noncomputable def Try.pinned : Pinned := { name := "ythnjnnnobipnfaa", sum := "79d126295d34e60077490f6cd559b89b2d030bed3ceccaf4f22f3009204a6f68", checked := Try.checked }
namespace Rows
def none {H : Type} : Left H := { results := [], args := [] }

/-- 'laws.FnExactLambdas': WHATEVER THE INPUT: true; the input reads as it did. -/
def fnExactLambdasSpec : ChangeSpec := { name := "fnExactLambdas", fn := fun _ => fun
  | [d] => { results := [.lit (.bool true)], args := [d] }
  | _ => none }
def fnExactLambdasRow : OpenClaim := { program := "ythnjnnnobipnfaa", sum := "79d126295d34e60077490f6cd559b89b2d030bed3ceccaf4f22f3009204a6f68", func := "loop.example/g00187/laws.FnExactLambdas", spec := "fnExactLambdas", unfollowed := true, recurses := true, loops := true, apart := false }
def FnExactLambdasSaid : Prop := fnExactLambdasRow.holds Try.pinned (OpenSpec.ofChange fnExactLambdasSpec)

/-- ITS FALSE NEIGHBOUR: 'it returns false'. Refute it at one input. -/
def fnExactLambdasWrong : ChangeSpec := { name := "fnExactLambdas", fn := fun _ => fun
  | [d] => { results := [.lit (.bool false)], args := [d] }
  | _ => none }
def FnExactLambdasWrongFalsely : Prop := fnExactLambdasRow.holds Try.pinned (OpenSpec.ofChange fnExactLambdasWrong)

/-- 'laws.FnExactNodeAt': WHATEVER THE INPUT: true; the input reads as it did. -/
def fnExactNodeAtSpec : ChangeSpec := { name := "fnExactNodeAt", fn := fun _ => fun
  | [d1, d2] => { results := [.lit (.bool true)], args := [d1, d2] }
  | _ => none }
def fnExactNodeAtRow : OpenClaim := { program := "ythnjnnnobipnfaa", sum := "79d126295d34e60077490f6cd559b89b2d030bed3ceccaf4f22f3009204a6f68", func := "loop.example/g00187/laws.FnExactNodeAt", spec := "fnExactNodeAt", unfollowed := true, recurses := true, loops := true, apart := false }
def FnExactNodeAtSaid : Prop := fnExactNodeAtRow.holds Try.pinned (OpenSpec.ofChange fnExactNodeAtSpec)

/-- ITS FALSE NEIGHBOUR: 'it returns false'. Refute it at one input. -/
def fnExactNodeAtWrong : ChangeSpec := { name := "fnExactNodeAt", fn := fun _ => fun
  | [d1, d2] => { results := [.lit (.bool false)], args := [d1, d2] }
  | _ => none }
def FnExactNodeAtWrongFalsely : Prop := fnExactNodeAtRow.holds Try.pinned (OpenSpec.ofChange fnExactNodeAtWrong)

/-- 'laws.FnExactLambdaAt': WHATEVER THE INPUT: true; the input reads as it did. -/
def fnExactLambdaAtSpec : ChangeSpec := { name := "fnExactLambdaAt", fn := fun _ => fun
  | [d1, d2] => { results := [.lit (.bool true)], args := [d1, d2] }
  | _ => none }
def fnExactLambdaAtRow : OpenClaim := { program := "ythnjnnnobipnfaa", sum := "79d126295d34e60077490f6cd559b89b2d030bed3ceccaf4f22f3009204a6f68", func := "loop.example/g00187/laws.FnExactLambdaAt", spec := "fnExactLambdaAt", unfollowed := true, recurses := true, loops := true, apart := false }
def FnExactLambdaAtSaid : Prop := fnExactLambdaAtRow.holds Try.pinned (OpenSpec.ofChange fnExactLambdaAtSpec)

/-- ITS FALSE NEIGHBOUR: 'it returns false'. Refute it at one input. -/
def fnExactLambdaAtWrong : ChangeSpec := { name := "fnExactLambdaAt", fn := fun _ => fun
  | [d1, d2] => { results := [.lit (.bool false)], args := [d1, d2] }
  | _ => none }
def FnExactLambdaAtWrongFalsely : Prop := fnExactLambdaAtRow.holds Try.pinned (OpenSpec.ofChange fnExactLambdaAtWrong)

/- THE SECOND FORM. 'bulk': how many values and letters a reading holds, each counted each time it is reached (what is shared counts as often as it is met; a slice's spare places count too). A statement '..UptoSaid' is the law's where the arguments, and the package variables that the reading takes, are together of bulk at most 1048576: NARROWER than '..Said'. Prove '..Said' where nothing that the law and all that it calls make is longer than what came in: it says more and counts as full. Else prove '..UptoSaid'. A law counts once. -/
mutual
def uptoBulk {H : Type} : DataW H → Nat
  | .lit (.string bytes) => bytes.length + 1
  | .lit _ => 1
  | .nil => 1
  | .ptr d => uptoBulk d + 1
  | .slice elems spare => uptoBulkAll elems + uptoBulkAll spare + 1
  | .agg parts => uptoBulkAll parts + 1
  | .iface _ d => uptoBulk d + 1
  | .map entries => uptoBulkEntries entries + 1
  | .held _ => 1
def uptoBulkAll {H : Type} : List (DataW H) → Nat
  | [] => 0
  | d :: r => uptoBulk d + uptoBulkAll r
def uptoBulkEntries {H : Type} : List (Lit × DataW H) → Nat
  | [] => 0
  | x :: r => uptoBulkEntry x + uptoBulkEntries r
def uptoBulkEntry {H : Type} : Lit × DataW H → Nat
  | (.string bytes, d) => bytes.length + uptoBulk d + 1
  | (_, d) => uptoBulk d + 1
 end
def uptoSmall : (H : Type) → List (DataW H) → Bool := fun _ ds => decide (uptoBulkAll ds ≤ 1048576)
def OpenSpec.upto (s : _root_.Go.ChangeSpec) : _root_.Go.OpenSpec := { _root_.Go.OpenSpec.ofChange s with cond := some uptoSmall }

/-- 'laws.FnExactLambdas', WHERE WHAT IT READS IS OF BULK AT MOST 1048576: true; the input reads as it did. -/
def fnExactLambdasUptoRow : OpenClaim := { program := "ythnjnnnobipnfaa", sum := "79d126295d34e60077490f6cd559b89b2d030bed3ceccaf4f22f3009204a6f68", func := "loop.example/g00187/laws.FnExactLambdas", spec := "fnExactLambdas", unfollowed := true, recurses := true, loops := true, apart := false, narrowed := true }
def FnExactLambdasUptoSaid : Prop := fnExactLambdasUptoRow.holds Try.pinned (OpenSpec.upto fnExactLambdasSpec)

/-- 'laws.FnExactNodeAt', WHERE WHAT IT READS IS OF BULK AT MOST 1048576: true; the input reads as it did. -/
def fnExactNodeAtUptoRow : OpenClaim := { program := "ythnjnnnobipnfaa", sum := "79d126295d34e60077490f6cd559b89b2d030bed3ceccaf4f22f3009204a6f68", func := "loop.example/g00187/laws.FnExactNodeAt", spec := "fnExactNodeAt", unfollowed := true, recurses := true, loops := true, apart := false, narrowed := true }
def FnExactNodeAtUptoSaid : Prop := fnExactNodeAtUptoRow.holds Try.pinned (OpenSpec.upto fnExactNodeAtSpec)

/-- 'laws.FnExactLambdaAt', WHERE WHAT IT READS IS OF BULK AT MOST 1048576: true; the input reads as it did. -/
def fnExactLambdaAtUptoRow : OpenClaim := { program := "ythnjnnnobipnfaa", sum := "79d126295d34e60077490f6cd559b89b2d030bed3ceccaf4f22f3009204a6f68", func := "loop.example/g00187/laws.FnExactLambdaAt", spec := "fnExactLambdaAt", unfollowed := true, recurses := true, loops := true, apart := false, narrowed := true }
def FnExactLambdaAtUptoSaid : Prop := fnExactLambdaAtUptoRow.holds Try.pinned (OpenSpec.upto fnExactLambdaAtSpec)

end Rows
end Go.Proofs.Ythnjnnnobipnfaa

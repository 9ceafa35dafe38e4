/-
  NARROWER THAN 'FOR EVERY INPUT', by the rows' own cells (each row's printed sentence says how): FnExactSameTy: loops · FnExactTyOk: loops · FnExactTyNodes: loops.
  DERIVED. THE GIVEN ROWS OF THIS SEAT. 6 by the template 'for every input the law returns true; each argument reads behind the call as it read before'; 0 by the template 'total and deterministic' (their statements: YtlgonbonnjkekaaTotals.lean).
  GIVEN WITH THE SEED: the statements are not yours to turn. If you find one false, say at which input.
  Laid BY PROGRAM, IN A SANDBOX (cutbox-rows.mjs): the forced cells as the released guide's own fill.sh prints them over the translation f25f619e32c4b03a… (all of the seat's roots in one cut). By AI agents, Wed Nov 11 2026. No macro, syntax, notation, axiom, sorry.
-/
import Derived.Test.YtlgonbonnjkekaaChecked
import GoSem.Claim
import GoSem.ClaimJoined
import GoSem.ClaimMapViews
import Derived.JoinedTies
import Derived.KernelRfl
namespace Go.Proofs.Ytlgonbonnjkekaa
/- THE CELL 'sum', in the pinned program and in every row, IS THE sha256 OF THE DUMP (.gsa) THAT YtlgonbonnjkekaaProg.lean LOADS. Nothing in Lean hashes anything: it is a label: what it is worth is what the hold of that sum in a sandbox is worth. -/
noncomputable def Try.pinned : Pinned := { name := "ytlgonbonnjkekaa", sum := "f25f619e32c4b03a0cf19bdcf9f84f8205c6769d2f7b0c5e225b3fe7223a2fb1", checked := Try.checked }
namespace Rows
def none {H : Type} : Left H := { results := [], args := [] }

/-- 'laws.FnExactConstants': WHATEVER THE INPUT: true; the input reads as it did. -/
def fnExactConstantsSpec : ChangeSpec := { name := "fnExactConstants", fn := fun _ => fun
  | [] => { results := [.lit (.bool true)], args := [] }
  | _ => none }
def fnExactConstantsRow : OpenClaim := { program := "ytlgonbonnjkekaa", sum := "f25f619e32c4b03a0cf19bdcf9f84f8205c6769d2f7b0c5e225b3fe7223a2fb1", func := "loop.example/g00187/laws.FnExactConstants", spec := "fnExactConstants", apart := false }
def FnExactConstantsSaid : Prop := fnExactConstantsRow.holds Try.pinned (OpenSpec.ofChange fnExactConstantsSpec)

/-- ITS FALSE NEIGHBOUR: 'it returns false'. Refute it at one input. -/
def fnExactConstantsWrong : ChangeSpec := { name := "fnExactConstants", fn := fun _ => fun
  | [] => { results := [.lit (.bool false)], args := [] }
  | _ => none }
def FnExactConstantsWrongFalsely : Prop := fnExactConstantsRow.holds Try.pinned (OpenSpec.ofChange fnExactConstantsWrong)

/-- 'laws.FnExactSameEnd': WHATEVER THE INPUT: true; the input reads as it did. -/
def fnExactSameEndSpec : ChangeSpec := { name := "fnExactSameEnd", fn := fun _ => fun
  | [d1, d2] => { results := [.lit (.bool true)], args := [d1, d2] }
  | _ => none }
def fnExactSameEndRow : OpenClaim := { program := "ytlgonbonnjkekaa", sum := "f25f619e32c4b03a0cf19bdcf9f84f8205c6769d2f7b0c5e225b3fe7223a2fb1", func := "loop.example/g00187/laws.FnExactSameEnd", spec := "fnExactSameEnd", apart := false }
def FnExactSameEndSaid : Prop := fnExactSameEndRow.holds Try.pinned (OpenSpec.ofChange fnExactSameEndSpec)

/-- ITS FALSE NEIGHBOUR: 'it returns false'. Refute it at one input. -/
def fnExactSameEndWrong : ChangeSpec := { name := "fnExactSameEnd", fn := fun _ => fun
  | [d1, d2] => { results := [.lit (.bool false)], args := [d1, d2] }
  | _ => none }
def FnExactSameEndWrongFalsely : Prop := fnExactSameEndRow.holds Try.pinned (OpenSpec.ofChange fnExactSameEndWrong)

/-- 'laws.FnExactSameTy': WHATEVER THE INPUT: true; the input reads as it did. -/
def fnExactSameTySpec : ChangeSpec := { name := "fnExactSameTy", fn := fun _ => fun
  | [d1, d2] => { results := [.lit (.bool true)], args := [d1, d2] }
  | _ => none }
def fnExactSameTyRow : OpenClaim := { program := "ytlgonbonnjkekaa", sum := "f25f619e32c4b03a0cf19bdcf9f84f8205c6769d2f7b0c5e225b3fe7223a2fb1", func := "loop.example/g00187/laws.FnExactSameTy", spec := "fnExactSameTy", unfollowed := true, recurses := true, loops := true, apart := false }
def FnExactSameTySaid : Prop := fnExactSameTyRow.holds Try.pinned (OpenSpec.ofChange fnExactSameTySpec)

/-- ITS FALSE NEIGHBOUR: 'it returns false'. Refute it at one input. -/
def fnExactSameTyWrong : ChangeSpec := { name := "fnExactSameTy", fn := fun _ => fun
  | [d1, d2] => { results := [.lit (.bool false)], args := [d1, d2] }
  | _ => none }
def FnExactSameTyWrongFalsely : Prop := fnExactSameTyRow.holds Try.pinned (OpenSpec.ofChange fnExactSameTyWrong)

/-- 'laws.FnExactTyOk': WHATEVER THE INPUT: true; the input reads as it did. -/
def fnExactTyOkSpec : ChangeSpec := { name := "fnExactTyOk", fn := fun _ => fun
  | [d] => { results := [.lit (.bool true)], args := [d] }
  | _ => none }
def fnExactTyOkRow : OpenClaim := { program := "ytlgonbonnjkekaa", sum := "f25f619e32c4b03a0cf19bdcf9f84f8205c6769d2f7b0c5e225b3fe7223a2fb1", func := "loop.example/g00187/laws.FnExactTyOk", spec := "fnExactTyOk", recurses := true, loops := true, apart := false }
def FnExactTyOkSaid : Prop := fnExactTyOkRow.holds Try.pinned (OpenSpec.ofChange fnExactTyOkSpec)

/-- ITS FALSE NEIGHBOUR: 'it returns false'. Refute it at one input. -/
def fnExactTyOkWrong : ChangeSpec := { name := "fnExactTyOk", fn := fun _ => fun
  | [d] => { results := [.lit (.bool false)], args := [d] }
  | _ => none }
def FnExactTyOkWrongFalsely : Prop := fnExactTyOkRow.holds Try.pinned (OpenSpec.ofChange fnExactTyOkWrong)

/-- 'laws.FnExactTyNodes': WHATEVER THE INPUT: true; the input reads as it did. -/
def fnExactTyNodesSpec : ChangeSpec := { name := "fnExactTyNodes", fn := fun _ => fun
  | [d] => { results := [.lit (.bool true)], args := [d] }
  | _ => none }
def fnExactTyNodesRow : OpenClaim := { program := "ytlgonbonnjkekaa", sum := "f25f619e32c4b03a0cf19bdcf9f84f8205c6769d2f7b0c5e225b3fe7223a2fb1", func := "loop.example/g00187/laws.FnExactTyNodes", spec := "fnExactTyNodes", recurses := true, loops := true, apart := false }
def FnExactTyNodesSaid : Prop := fnExactTyNodesRow.holds Try.pinned (OpenSpec.ofChange fnExactTyNodesSpec)

/-- ITS FALSE NEIGHBOUR: 'it returns false'. Refute it at one input. -/
def fnExactTyNodesWrong : ChangeSpec := { name := "fnExactTyNodes", fn := fun _ => fun
  | [d] => { results := [.lit (.bool false)], args := [d] }
  | _ => none }
def FnExactTyNodesWrongFalsely : Prop := fnExactTyNodesRow.holds Try.pinned (OpenSpec.ofChange fnExactTyNodesWrong)

/-- 'laws.FnExactWrites': WHATEVER THE INPUT: true; the input reads as it did. -/
def fnExactWritesSpec : ChangeSpec := { name := "fnExactWrites", fn := fun _ => fun
  | [d] => { results := [.lit (.bool true)], args := [d] }
  | _ => none }
def fnExactWritesRow : OpenClaim := { program := "ytlgonbonnjkekaa", sum := "f25f619e32c4b03a0cf19bdcf9f84f8205c6769d2f7b0c5e225b3fe7223a2fb1", func := "loop.example/g00187/laws.FnExactWrites", spec := "fnExactWrites", apart := false }
def FnExactWritesSaid : Prop := fnExactWritesRow.holds Try.pinned (OpenSpec.ofChange fnExactWritesSpec)

/-- ITS FALSE NEIGHBOUR: 'it returns false'. Refute it at one input. -/
def fnExactWritesWrong : ChangeSpec := { name := "fnExactWrites", fn := fun _ => fun
  | [d] => { results := [.lit (.bool false)], args := [d] }
  | _ => none }
def FnExactWritesWrongFalsely : Prop := fnExactWritesRow.holds Try.pinned (OpenSpec.ofChange fnExactWritesWrong)

/- THE SECOND FORM. 'bulk': how many values and letters a reading holds, each counted each time it is reached (what is shared counts as often as it is met; a slice's spare places count too). A statement '..UptoSaid' is the law's where the arguments, and the package variables that the reading takes, are together of bulk at most 1048576: NARROWER than '..Said'. Prove '..Said' where nothing that the law and all that it calls make is longer than what came in: it says more and counts as full. Else prove '..UptoSaid'. A law counts once. -/
mutual
def uptoBulk {H : Type} : DataW H → Nat
  | .lit (.string bytes) => bytes.length + 1
  | .lit _ => 1
  | .nil => 1
  | .ptr d => uptoBulk d + 1
  | .slice elems spare => uptoBulkAll elems + uptoBulkAll spare + 1
  | .agg parts => uptoBulkAll parts + 1
  | .iface _ d => uptoBulk d + 1
  | .map entries => uptoBulkEntries entries + 1
  | .held _ => 1
def uptoBulkAll {H : Type} : List (DataW H) → Nat
  | [] => 0
  | d :: r => uptoBulk d + uptoBulkAll r
def uptoBulkEntries {H : Type} : List (Lit × DataW H) → Nat
  | [] => 0
  | x :: r => uptoBulkEntry x + uptoBulkEntries r
def uptoBulkEntry {H : Type} : Lit × DataW H → Nat
  | (.string bytes, d) => bytes.length + uptoBulk d + 1
  | (_, d) => uptoBulk d + 1
 end
def uptoSmall : (H : Type) → List (DataW H) → Bool := fun _ ds => decide (uptoBulkAll ds ≤ 1048576)
def OpenSpec.upto (s : _root_.Go.ChangeSpec) : _root_.Go.OpenSpec := { _root_.Go.OpenSpec.ofChange s with cond := some uptoSmall }

/-- 'laws.FnExactConstants', WHERE WHAT IT READS IS OF BULK AT MOST 1048576: true; the input reads as it did. -/
def fnExactConstantsUptoRow : OpenClaim := { program := "ytlgonbonnjkekaa", sum := "f25f619e32c4b03a0cf19bdcf9f84f8205c6769d2f7b0c5e225b3fe7223a2fb1", func := "loop.example/g00187/laws.FnExactConstants", spec := "fnExactConstants", apart := false, narrowed := true }
def FnExactConstantsUptoSaid : Prop := fnExactConstantsUptoRow.holds Try.pinned (OpenSpec.upto fnExactConstantsSpec)

/-- 'laws.FnExactSameEnd', WHERE WHAT IT READS IS OF BULK AT MOST 1048576: true; the input reads as it did. -/
def fnExactSameEndUptoRow : OpenClaim := { program := "ytlgonbonnjkekaa", sum := "f25f619e32c4b03a0cf19bdcf9f84f8205c6769d2f7b0c5e225b3fe7223a2fb1", func := "loop.example/g00187/laws.FnExactSameEnd", spec := "fnExactSameEnd", apart := false, narrowed := true }
def FnExactSameEndUptoSaid : Prop := fnExactSameEndUptoRow.holds Try.pinned (OpenSpec.upto fnExactSameEndSpec)

/-- 'laws.FnExactSameTy', WHERE WHAT IT READS IS OF BULK AT MOST 1048576: true; the input reads as it did. -/
def fnExactSameTyUptoRow : OpenClaim := { program := "ytlgonbonnjkekaa", sum := "f25f619e32c4b03a0cf19bdcf9f84f8205c6769d2f7b0c5e225b3fe7223a2fb1", func := "loop.example/g00187/laws.FnExactSameTy", spec := "fnExactSameTy", unfollowed := true, recurses := true, loops := true, apart := false, narrowed := true }
def FnExactSameTyUptoSaid : Prop := fnExactSameTyUptoRow.holds Try.pinned (OpenSpec.upto fnExactSameTySpec)

/-- 'laws.FnExactTyOk', WHERE WHAT IT READS IS OF BULK AT MOST 1048576: true; the input reads as it did. -/
def fnExactTyOkUptoRow : OpenClaim := { program := "ytlgonbonnjkekaa", sum := "f25f619e32c4b03a0cf19bdcf9f84f8205c6769d2f7b0c5e225b3fe7223a2fb1", func := "loop.example/g00187/laws.FnExactTyOk", spec := "fnExactTyOk", recurses := true, loops := true, apart := false, narrowed := true }
def FnExactTyOkUptoSaid : Prop := fnExactTyOkUptoRow.holds Try.pinned (OpenSpec.upto fnExactTyOkSpec)

/-- 'laws.FnExactTyNodes', WHERE WHAT IT READS IS OF BULK AT MOST 1048576: true; the input reads as it did. -/
def fnExactTyNodesUptoRow : OpenClaim := { program := "ytlgonbonnjkekaa", sum := "f25f619e32c4b03a0cf19bdcf9f84f8205c6769d2f7b0c5e225b3fe7223a2fb1", func := "loop.example/g00187/laws.FnExactTyNodes", spec := "fnExactTyNodes", recurses := true, loops := true, apart := false, narrowed := true }
def FnExactTyNodesUptoSaid : Prop := fnExactTyNodesUptoRow.holds Try.pinned (OpenSpec.upto fnExactTyNodesSpec)

/-- 'laws.FnExactWrites', WHERE WHAT IT READS IS OF BULK AT MOST 1048576: true; the input reads as it did. -/
def fnExactWritesUptoRow : OpenClaim := { program := "ytlgonbonnjkekaa", sum := "f25f619e32c4b03a0cf19bdcf9f84f8205c6769d2f7b0c5e225b3fe7223a2fb1", func := "loop.example/g00187/laws.FnExactWrites", spec := "fnExactWrites", apart := false, narrowed := true }
def FnExactWritesUptoSaid : Prop := fnExactWritesUptoRow.holds Try.pinned (OpenSpec.upto fnExactWritesSpec)

end Rows
end Go.Proofs.Ytlgonbonnjkekaa

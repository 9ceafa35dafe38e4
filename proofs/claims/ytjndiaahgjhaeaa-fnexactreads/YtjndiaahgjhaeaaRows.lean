/-
  NARROWER THAN 'FOR EVERY INPUT', by the rows' own cells (each row's printed sentence says how): FnExactSubstTy: loops.
  DERIVED. THE GIVEN ROWS OF THIS SEAT. 8 by the template 'for every input the law returns true; each argument reads behind the call as it read before'; 0 by the template 'total and deterministic' (their statements: YtjndiaahgjhaeaaTotals.lean).
  GIVEN WITH THE SEED: the statements are not yours to turn. If you find one false, say at which input.
  Laid BY PROGRAM, IN A SANDBOX (cutbox-rows.mjs): the forced cells as the released guide's own fill.sh prints them over the translation 7f94d5a2180839b7… (all of the seat's roots in one cut). By AI agents, Wed Nov 11 2026. No macro, syntax, notation, axiom, sorry.
-/
import Derived.Test.YtjndiaahgjhaeaaChecked
import GoSem.Claim
import GoSem.ClaimJoined
import GoSem.ClaimMapViews
import Derived.JoinedTies
import Derived.KernelRfl
namespace Go.Proofs.Ytjndiaahgjhaeaa
/- THE CELL 'sum', in the pinned program and in every row, IS THE sha256 OF THE DUMP (.gsa) THAT YtjndiaahgjhaeaaProg.lean LOADS. Nothing in Lean hashes anything: it is a label: what it is worth is what the hold of that sum in a sandbox is worth. -/
noncomputable def Try.pinned : Pinned := { name := "ytjndiaahgjhaeaa", sum := "7f94d5a2180839b7bdff3c4f4af3546a32ca217cddee246570d5aa25699ae858", checked := Try.checked }
namespace Rows
def none {H : Type} : Left H := { results := [], args := [] }

/-- 'laws.FnExactSubstTy': WHATEVER THE INPUT: true; the input reads as it did. -/
def fnExactSubstTySpec : ChangeSpec := { name := "fnExactSubstTy", fn := fun _ => fun
  | [d1, d2] => { results := [.lit (.bool true)], args := [d1, d2] }
  | _ => none }
def fnExactSubstTyRow : OpenClaim := { program := "ytjndiaahgjhaeaa", sum := "7f94d5a2180839b7bdff3c4f4af3546a32ca217cddee246570d5aa25699ae858", func := "loop.example/g00187/laws.FnExactSubstTy", spec := "fnExactSubstTy", unfollowed := true, recurses := true, loops := true, apart := false }
def FnExactSubstTySaid : Prop := fnExactSubstTyRow.holds Try.pinned (OpenSpec.ofChange fnExactSubstTySpec)

/-- ITS FALSE NEIGHBOUR: 'it returns false'. Refute it at one input. -/
def fnExactSubstTyWrong : ChangeSpec := { name := "fnExactSubstTy", fn := fun _ => fun
  | [d1, d2] => { results := [.lit (.bool false)], args := [d1, d2] }
  | _ => none }
def FnExactSubstTyWrongFalsely : Prop := fnExactSubstTyRow.holds Try.pinned (OpenSpec.ofChange fnExactSubstTyWrong)

/-- 'laws.FnExactReads': WHATEVER THE INPUT: true; the input reads as it did. -/
def fnExactReadsSpec : ChangeSpec := { name := "fnExactReads", fn := fun _ => fun
  | [d] => { results := [.lit (.bool true)], args := [d] }
  | _ => none }
def fnExactReadsRow : OpenClaim := { program := "ytjndiaahgjhaeaa", sum := "7f94d5a2180839b7bdff3c4f4af3546a32ca217cddee246570d5aa25699ae858", func := "loop.example/g00187/laws.FnExactReads", spec := "fnExactReads", recurses := true, apart := false }
def FnExactReadsSaid : Prop := fnExactReadsRow.holds Try.pinned (OpenSpec.ofChange fnExactReadsSpec)

/-- ITS FALSE NEIGHBOUR: 'it returns false'. Refute it at one input. -/
def fnExactReadsWrong : ChangeSpec := { name := "fnExactReads", fn := fun _ => fun
  | [d] => { results := [.lit (.bool false)], args := [d] }
  | _ => none }
def FnExactReadsWrongFalsely : Prop := fnExactReadsRow.holds Try.pinned (OpenSpec.ofChange fnExactReadsWrong)

/-- 'laws.FnExactNexts': WHATEVER THE INPUT: true; the input reads as it did. -/
def fnExactNextsSpec : ChangeSpec := { name := "fnExactNexts", fn := fun _ => fun
  | [d1, d2] => { results := [.lit (.bool true)], args := [d1, d2] }
  | _ => none }
def fnExactNextsRow : OpenClaim := { program := "ytjndiaahgjhaeaa", sum := "7f94d5a2180839b7bdff3c4f4af3546a32ca217cddee246570d5aa25699ae858", func := "loop.example/g00187/laws.FnExactNexts", spec := "fnExactNexts", recurses := true, apart := false }
def FnExactNextsSaid : Prop := fnExactNextsRow.holds Try.pinned (OpenSpec.ofChange fnExactNextsSpec)

/-- ITS FALSE NEIGHBOUR: 'it returns false'. Refute it at one input. -/
def fnExactNextsWrong : ChangeSpec := { name := "fnExactNexts", fn := fun _ => fun
  | [d1, d2] => { results := [.lit (.bool false)], args := [d1, d2] }
  | _ => none }
def FnExactNextsWrongFalsely : Prop := fnExactNextsRow.holds Try.pinned (OpenSpec.ofChange fnExactNextsWrong)

/-- 'laws.FnExactLive': WHATEVER THE INPUT: true; the input reads as it did. -/
def fnExactLiveSpec : ChangeSpec := { name := "fnExactLive", fn := fun _ => fun
  | [d] => { results := [.lit (.bool true)], args := [d] }
  | _ => none }
def fnExactLiveRow : OpenClaim := { program := "ytjndiaahgjhaeaa", sum := "7f94d5a2180839b7bdff3c4f4af3546a32ca217cddee246570d5aa25699ae858", func := "loop.example/g00187/laws.FnExactLive", spec := "fnExactLive", unfollowed := true, recurses := true, apart := false }
def FnExactLiveSaid : Prop := fnExactLiveRow.holds Try.pinned (OpenSpec.ofChange fnExactLiveSpec)

/-- ITS FALSE NEIGHBOUR: 'it returns false'. Refute it at one input. -/
def fnExactLiveWrong : ChangeSpec := { name := "fnExactLive", fn := fun _ => fun
  | [d] => { results := [.lit (.bool false)], args := [d] }
  | _ => none }
def FnExactLiveWrongFalsely : Prop := fnExactLiveRow.holds Try.pinned (OpenSpec.ofChange fnExactLiveWrong)

/-- 'laws.FnExactLiveOk': WHATEVER THE INPUT: true; the input reads as it did. -/
def fnExactLiveOkSpec : ChangeSpec := { name := "fnExactLiveOk", fn := fun _ => fun
  | [d1, d2] => { results := [.lit (.bool true)], args := [d1, d2] }
  | _ => none }
def fnExactLiveOkRow : OpenClaim := { program := "ytjndiaahgjhaeaa", sum := "7f94d5a2180839b7bdff3c4f4af3546a32ca217cddee246570d5aa25699ae858", func := "loop.example/g00187/laws.FnExactLiveOk", spec := "fnExactLiveOk", unfollowed := true, recurses := true, apart := false }
def FnExactLiveOkSaid : Prop := fnExactLiveOkRow.holds Try.pinned (OpenSpec.ofChange fnExactLiveOkSpec)

/-- ITS FALSE NEIGHBOUR: 'it returns false'. Refute it at one input. -/
def fnExactLiveOkWrong : ChangeSpec := { name := "fnExactLiveOk", fn := fun _ => fun
  | [d1, d2] => { results := [.lit (.bool false)], args := [d1, d2] }
  | _ => none }
def FnExactLiveOkWrongFalsely : Prop := fnExactLiveOkRow.holds Try.pinned (OpenSpec.ofChange fnExactLiveOkWrong)

/-- 'laws.FnExactSlots': WHATEVER THE INPUT: true; the input reads as it did. -/
def fnExactSlotsSpec : ChangeSpec := { name := "fnExactSlots", fn := fun _ => fun
  | [d] => { results := [.lit (.bool true)], args := [d] }
  | _ => none }
def fnExactSlotsRow : OpenClaim := { program := "ytjndiaahgjhaeaa", sum := "7f94d5a2180839b7bdff3c4f4af3546a32ca217cddee246570d5aa25699ae858", func := "loop.example/g00187/laws.FnExactSlots", spec := "fnExactSlots", unfollowed := true, recurses := true, apart := false }
def FnExactSlotsSaid : Prop := fnExactSlotsRow.holds Try.pinned (OpenSpec.ofChange fnExactSlotsSpec)

/-- ITS FALSE NEIGHBOUR: 'it returns false'. Refute it at one input. -/
def fnExactSlotsWrong : ChangeSpec := { name := "fnExactSlots", fn := fun _ => fun
  | [d] => { results := [.lit (.bool false)], args := [d] }
  | _ => none }
def FnExactSlotsWrongFalsely : Prop := fnExactSlotsRow.holds Try.pinned (OpenSpec.ofChange fnExactSlotsWrong)

/-- 'laws.FnExactSlotsOk': WHATEVER THE INPUT: true; the input reads as it did. -/
def fnExactSlotsOkSpec : ChangeSpec := { name := "fnExactSlotsOk", fn := fun _ => fun
  | [d1, d2] => { results := [.lit (.bool true)], args := [d1, d2] }
  | _ => none }
def fnExactSlotsOkRow : OpenClaim := { program := "ytjndiaahgjhaeaa", sum := "7f94d5a2180839b7bdff3c4f4af3546a32ca217cddee246570d5aa25699ae858", func := "loop.example/g00187/laws.FnExactSlotsOk", spec := "fnExactSlotsOk", unfollowed := true, recurses := true, apart := false }
def FnExactSlotsOkSaid : Prop := fnExactSlotsOkRow.holds Try.pinned (OpenSpec.ofChange fnExactSlotsOkSpec)

/-- ITS FALSE NEIGHBOUR: 'it returns false'. Refute it at one input. -/
def fnExactSlotsOkWrong : ChangeSpec := { name := "fnExactSlotsOk", fn := fun _ => fun
  | [d1, d2] => { results := [.lit (.bool false)], args := [d1, d2] }
  | _ => none }
def FnExactSlotsOkWrongFalsely : Prop := fnExactSlotsOkRow.holds Try.pinned (OpenSpec.ofChange fnExactSlotsOkWrong)

/-- 'laws.FnExactClashes': WHATEVER THE INPUT: true; the input reads as it did. -/
def fnExactClashesSpec : ChangeSpec := { name := "fnExactClashes", fn := fun _ => fun
  | [d] => { results := [.lit (.bool true)], args := [d] }
  | _ => none }
def fnExactClashesRow : OpenClaim := { program := "ytjndiaahgjhaeaa", sum := "7f94d5a2180839b7bdff3c4f4af3546a32ca217cddee246570d5aa25699ae858", func := "loop.example/g00187/laws.FnExactClashes", spec := "fnExactClashes", unfollowed := true, recurses := true, apart := false }
def FnExactClashesSaid : Prop := fnExactClashesRow.holds Try.pinned (OpenSpec.ofChange fnExactClashesSpec)

/-- ITS FALSE NEIGHBOUR: 'it returns false'. Refute it at one input. -/
def fnExactClashesWrong : ChangeSpec := { name := "fnExactClashes", fn := fun _ => fun
  | [d] => { results := [.lit (.bool false)], args := [d] }
  | _ => none }
def FnExactClashesWrongFalsely : Prop := fnExactClashesRow.holds Try.pinned (OpenSpec.ofChange fnExactClashesWrong)

/- THE SECOND FORM. 'bulk': how many values and letters a reading holds, each counted each time it is reached (what is shared counts as often as it is met; a slice's spare places count too). A statement '..UptoSaid' is the law's where the arguments, and the package variables that the reading takes, are together of bulk at most 1048576: NARROWER than '..Said'. Prove '..Said' where nothing that the law and all that it calls make is longer than what came in: it says more and counts as full. Else prove '..UptoSaid'. A law counts once. -/
mutual
def uptoBulk {H : Type} : DataW H → Nat
  | .lit (.string bytes) => bytes.length + 1
  | .lit _ => 1
  | .nil => 1
  | .ptr d => uptoBulk d + 1
  | .slice elems spare => uptoBulkAll elems + uptoBulkAll spare + 1
  | .agg parts => uptoBulkAll parts + 1
  | .iface _ d => uptoBulk d + 1
  | .map entries => uptoBulkEntries entries + 1
  | .held _ => 1
def uptoBulkAll {H : Type} : List (DataW H) → Nat
  | [] => 0
  | d :: r => uptoBulk d + uptoBulkAll r
def uptoBulkEntries {H : Type} : List (Lit × DataW H) → Nat
  | [] => 0
  | x :: r => uptoBulkEntry x + uptoBulkEntries r
def uptoBulkEntry {H : Type} : Lit × DataW H → Nat
  | (.string bytes, d) => bytes.length + uptoBulk d + 1
  | (_, d) => uptoBulk d + 1
 end
def uptoSmall : (H : Type) → List (DataW H) → Bool := fun _ ds => decide (uptoBulkAll ds ≤ 1048576)
def OpenSpec.upto (s : _root_.Go.ChangeSpec) : _root_.Go.OpenSpec := { _root_.Go.OpenSpec.ofChange s with cond := some uptoSmall }

/-- 'laws.FnExactSubstTy', WHERE WHAT IT READS IS OF BULK AT MOST 1048576: true; the input reads as it did. -/
def fnExactSubstTyUptoRow : OpenClaim := { program := "ytjndiaahgjhaeaa", sum := "7f94d5a2180839b7bdff3c4f4af3546a32ca217cddee246570d5aa25699ae858", func := "loop.example/g00187/laws.FnExactSubstTy", spec := "fnExactSubstTy", unfollowed := true, recurses := true, loops := true, apart := false, narrowed := true }
def FnExactSubstTyUptoSaid : Prop := fnExactSubstTyUptoRow.holds Try.pinned (OpenSpec.upto fnExactSubstTySpec)

/-- 'laws.FnExactReads', WHERE WHAT IT READS IS OF BULK AT MOST 1048576: true; the input reads as it did. -/
def fnExactReadsUptoRow : OpenClaim := { program := "ytjndiaahgjhaeaa", sum := "7f94d5a2180839b7bdff3c4f4af3546a32ca217cddee246570d5aa25699ae858", func := "loop.example/g00187/laws.FnExactReads", spec := "fnExactReads", recurses := true, apart := false, narrowed := true }
def FnExactReadsUptoSaid : Prop := fnExactReadsUptoRow.holds Try.pinned (OpenSpec.upto fnExactReadsSpec)

/-- 'laws.FnExactNexts', WHERE WHAT IT READS IS OF BULK AT MOST 1048576: true; the input reads as it did. -/
def fnExactNextsUptoRow : OpenClaim := { program := "ytjndiaahgjhaeaa", sum := "7f94d5a2180839b7bdff3c4f4af3546a32ca217cddee246570d5aa25699ae858", func := "loop.example/g00187/laws.FnExactNexts", spec := "fnExactNexts", recurses := true, apart := false, narrowed := true }
def FnExactNextsUptoSaid : Prop := fnExactNextsUptoRow.holds Try.pinned (OpenSpec.upto fnExactNextsSpec)

/-- 'laws.FnExactLive', WHERE WHAT IT READS IS OF BULK AT MOST 1048576: true; the input reads as it did. -/
def fnExactLiveUptoRow : OpenClaim := { program := "ytjndiaahgjhaeaa", sum := "7f94d5a2180839b7bdff3c4f4af3546a32ca217cddee246570d5aa25699ae858", func := "loop.example/g00187/laws.FnExactLive", spec := "fnExactLive", unfollowed := true, recurses := true, apart := false, narrowed := true }
def FnExactLiveUptoSaid : Prop := fnExactLiveUptoRow.holds Try.pinned (OpenSpec.upto fnExactLiveSpec)

/-- 'laws.FnExactLiveOk', WHERE WHAT IT READS IS OF BULK AT MOST 1048576: true; the input reads as it did. -/
def fnExactLiveOkUptoRow : OpenClaim := { program := "ytjndiaahgjhaeaa", sum := "7f94d5a2180839b7bdff3c4f4af3546a32ca217cddee246570d5aa25699ae858", func := "loop.example/g00187/laws.FnExactLiveOk", spec := "fnExactLiveOk", unfollowed := true, recurses := true, apart := false, narrowed := true }
def FnExactLiveOkUptoSaid : Prop := fnExactLiveOkUptoRow.holds Try.pinned (OpenSpec.upto fnExactLiveOkSpec)

/-- 'laws.FnExactSlots', WHERE WHAT IT READS IS OF BULK AT MOST 1048576: true; the input reads as it did. -/
def fnExactSlotsUptoRow : OpenClaim := { program := "ytjndiaahgjhaeaa", sum := "7f94d5a2180839b7bdff3c4f4af3546a32ca217cddee246570d5aa25699ae858", func := "loop.example/g00187/laws.FnExactSlots", spec := "fnExactSlots", unfollowed := true, recurses := true, apart := false, narrowed := true }
def FnExactSlotsUptoSaid : Prop := fnExactSlotsUptoRow.holds Try.pinned (OpenSpec.upto fnExactSlotsSpec)

/-- 'laws.FnExactSlotsOk', WHERE WHAT IT READS IS OF BULK AT MOST 1048576: true; the input reads as it did. -/
def fnExactSlotsOkUptoRow : OpenClaim := { program := "ytjndiaahgjhaeaa", sum := "7f94d5a2180839b7bdff3c4f4af3546a32ca217cddee246570d5aa25699ae858", func := "loop.example/g00187/laws.FnExactSlotsOk", spec := "fnExactSlotsOk", unfollowed := true, recurses := true, apart := false, narrowed := true }
def FnExactSlotsOkUptoSaid : Prop := fnExactSlotsOkUptoRow.holds Try.pinned (OpenSpec.upto fnExactSlotsOkSpec)

/-- 'laws.FnExactClashes', WHERE WHAT IT READS IS OF BULK AT MOST 1048576: true; the input reads as it did. -/
def fnExactClashesUptoRow : OpenClaim := { program := "ytjndiaahgjhaeaa", sum := "7f94d5a2180839b7bdff3c4f4af3546a32ca217cddee246570d5aa25699ae858", func := "loop.example/g00187/laws.FnExactClashes", spec := "fnExactClashes", unfollowed := true, recurses := true, apart := false, narrowed := true }
def FnExactClashesUptoSaid : Prop := fnExactClashesUptoRow.holds Try.pinned (OpenSpec.upto fnExactClashesSpec)

end Rows
end Go.Proofs.Ytjndiaahgjhaeaa

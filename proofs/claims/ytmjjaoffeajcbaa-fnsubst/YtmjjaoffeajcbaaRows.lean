/-
  No cell of these rows narrows 'for every input' (looked for: loops, veiled, ifaces, maps, wideKeys, modest, calm, conditions, laid).
  DERIVED. THE GIVEN ROWS OF THIS SEAT. 6 by the template 'for every input the law returns true; each argument reads behind the call as it read before'; 0 by the template 'total and deterministic' (their statements: YtmjjaoffeajcbaaTotals.lean).
  GIVEN WITH THE SEED: the statements are not yours to turn. If you find one false, say at which input.
  Laid BY PROGRAM, IN A SANDBOX (cutbox-rows.mjs): the forced cells as the released guide's own fill.sh prints them over the translation 9c5c2d7efe396d69… (all of the seat's roots in one cut). By AI agents, Wed Nov 11 2026. No macro, syntax, notation, axiom, sorry.
-/
import Derived.Test.YtmjjaoffeajcbaaChecked
import GoSem.Claim
import GoSem.ClaimJoined
import GoSem.ClaimMapViews
import Derived.JoinedTies
import Derived.KernelRfl
namespace Go.Proofs.Ytmjjaoffeajcbaa
/- THE CELL 'sum', in the pinned program and in every row, IS THE sha256 OF THE DUMP (.gsa) THAT YtmjjaoffeajcbaaProg.lean LOADS. Nothing in Lean hashes anything: it is a label: what it is worth is what the hold of that sum in a sandbox is worth. -/
noncomputable def Try.pinned : Pinned := { name := "ytmjjaoffeajcbaa", sum := "9c5c2d7efe396d69af575f7672999be6a919ec8027ce46ad0f067207e96b9ef5", checked := Try.checked }
namespace Rows
def none {H : Type} : Left H := { results := [], args := [] }

/-- 'laws.FnSubst': WHATEVER THE INPUT: true; the input reads as it did. -/
def fnSubstSpec : ChangeSpec := { name := "fnSubst", fn := fun _ => fun
  | [d] => { results := [.lit (.bool true)], args := [d] }
  | _ => none }
def fnSubstRow : OpenClaim := { program := "ytmjjaoffeajcbaa", sum := "9c5c2d7efe396d69af575f7672999be6a919ec8027ce46ad0f067207e96b9ef5", func := "loop.example/g00187/laws.FnSubst", spec := "fnSubst", unfollowed := true, recurses := true, apart := false }
def FnSubstSaid : Prop := fnSubstRow.holds Try.pinned (OpenSpec.ofChange fnSubstSpec)

/-- ITS FALSE NEIGHBOUR: 'it returns false'. Refute it at one input. -/
def fnSubstWrong : ChangeSpec := { name := "fnSubst", fn := fun _ => fun
  | [d] => { results := [.lit (.bool false)], args := [d] }
  | _ => none }
def FnSubstWrongFalsely : Prop := fnSubstRow.holds Try.pinned (OpenSpec.ofChange fnSubstWrong)

/-- 'laws.FnExactLiveOk': WHATEVER THE INPUT: true; the input reads as it did. -/
def fnExactLiveOkSpec : ChangeSpec := { name := "fnExactLiveOk", fn := fun _ => fun
  | [d1, d2] => { results := [.lit (.bool true)], args := [d1, d2] }
  | _ => none }
def fnExactLiveOkRow : OpenClaim := { program := "ytmjjaoffeajcbaa", sum := "9c5c2d7efe396d69af575f7672999be6a919ec8027ce46ad0f067207e96b9ef5", func := "loop.example/g00187/laws.FnExactLiveOk", spec := "fnExactLiveOk", unfollowed := true, recurses := true, apart := false }
def FnExactLiveOkSaid : Prop := fnExactLiveOkRow.holds Try.pinned (OpenSpec.ofChange fnExactLiveOkSpec)

/-- ITS FALSE NEIGHBOUR: 'it returns false'. Refute it at one input. -/
def fnExactLiveOkWrong : ChangeSpec := { name := "fnExactLiveOk", fn := fun _ => fun
  | [d1, d2] => { results := [.lit (.bool false)], args := [d1, d2] }
  | _ => none }
def FnExactLiveOkWrongFalsely : Prop := fnExactLiveOkRow.holds Try.pinned (OpenSpec.ofChange fnExactLiveOkWrong)

/-- 'laws.FnExactSlotsOk': WHATEVER THE INPUT: true; the input reads as it did. -/
def fnExactSlotsOkSpec : ChangeSpec := { name := "fnExactSlotsOk", fn := fun _ => fun
  | [d1, d2] => { results := [.lit (.bool true)], args := [d1, d2] }
  | _ => none }
def fnExactSlotsOkRow : OpenClaim := { program := "ytmjjaoffeajcbaa", sum := "9c5c2d7efe396d69af575f7672999be6a919ec8027ce46ad0f067207e96b9ef5", func := "loop.example/g00187/laws.FnExactSlotsOk", spec := "fnExactSlotsOk", unfollowed := true, recurses := true, apart := false }
def FnExactSlotsOkSaid : Prop := fnExactSlotsOkRow.holds Try.pinned (OpenSpec.ofChange fnExactSlotsOkSpec)

/-- ITS FALSE NEIGHBOUR: 'it returns false'. Refute it at one input. -/
def fnExactSlotsOkWrong : ChangeSpec := { name := "fnExactSlotsOk", fn := fun _ => fun
  | [d1, d2] => { results := [.lit (.bool false)], args := [d1, d2] }
  | _ => none }
def FnExactSlotsOkWrongFalsely : Prop := fnExactSlotsOkRow.holds Try.pinned (OpenSpec.ofChange fnExactSlotsOkWrong)

/-- 'laws.FnExactClashes': WHATEVER THE INPUT: true; the input reads as it did. -/
def fnExactClashesSpec : ChangeSpec := { name := "fnExactClashes", fn := fun _ => fun
  | [d] => { results := [.lit (.bool true)], args := [d] }
  | _ => none }
def fnExactClashesRow : OpenClaim := { program := "ytmjjaoffeajcbaa", sum := "9c5c2d7efe396d69af575f7672999be6a919ec8027ce46ad0f067207e96b9ef5", func := "loop.example/g00187/laws.FnExactClashes", spec := "fnExactClashes", unfollowed := true, recurses := true, apart := false }
def FnExactClashesSaid : Prop := fnExactClashesRow.holds Try.pinned (OpenSpec.ofChange fnExactClashesSpec)

/-- ITS FALSE NEIGHBOUR: 'it returns false'. Refute it at one input. -/
def fnExactClashesWrong : ChangeSpec := { name := "fnExactClashes", fn := fun _ => fun
  | [d] => { results := [.lit (.bool false)], args := [d] }
  | _ => none }
def FnExactClashesWrongFalsely : Prop := fnExactClashesRow.holds Try.pinned (OpenSpec.ofChange fnExactClashesWrong)

/-- 'laws.FnExactLive': WHATEVER THE INPUT: true; the input reads as it did. -/
def fnExactLiveSpec : ChangeSpec := { name := "fnExactLive", fn := fun _ => fun
  | [d] => { results := [.lit (.bool true)], args := [d] }
  | _ => none }
def fnExactLiveRow : OpenClaim := { program := "ytmjjaoffeajcbaa", sum := "9c5c2d7efe396d69af575f7672999be6a919ec8027ce46ad0f067207e96b9ef5", func := "loop.example/g00187/laws.FnExactLive", spec := "fnExactLive", unfollowed := true, recurses := true, apart := false }
def FnExactLiveSaid : Prop := fnExactLiveRow.holds Try.pinned (OpenSpec.ofChange fnExactLiveSpec)

/-- ITS FALSE NEIGHBOUR: 'it returns false'. Refute it at one input. -/
def fnExactLiveWrong : ChangeSpec := { name := "fnExactLive", fn := fun _ => fun
  | [d] => { results := [.lit (.bool false)], args := [d] }
  | _ => none }
def FnExactLiveWrongFalsely : Prop := fnExactLiveRow.holds Try.pinned (OpenSpec.ofChange fnExactLiveWrong)

/-- 'laws.FnExactSlots': WHATEVER THE INPUT: true; the input reads as it did. -/
def fnExactSlotsSpec : ChangeSpec := { name := "fnExactSlots", fn := fun _ => fun
  | [d] => { results := [.lit (.bool true)], args := [d] }
  | _ => none }
def fnExactSlotsRow : OpenClaim := { program := "ytmjjaoffeajcbaa", sum := "9c5c2d7efe396d69af575f7672999be6a919ec8027ce46ad0f067207e96b9ef5", func := "loop.example/g00187/laws.FnExactSlots", spec := "fnExactSlots", unfollowed := true, recurses := true, apart := false }
def FnExactSlotsSaid : Prop := fnExactSlotsRow.holds Try.pinned (OpenSpec.ofChange fnExactSlotsSpec)

/-- ITS FALSE NEIGHBOUR: 'it returns false'. Refute it at one input. -/
def fnExactSlotsWrong : ChangeSpec := { name := "fnExactSlots", fn := fun _ => fun
  | [d] => { results := [.lit (.bool false)], args := [d] }
  | _ => none }
def FnExactSlotsWrongFalsely : Prop := fnExactSlotsRow.holds Try.pinned (OpenSpec.ofChange fnExactSlotsWrong)

/- THE SECOND FORM. 'bulk': how many values and letters a reading holds, each counted each time it is reached (what is shared counts as often as it is met; a slice's spare places count too). A statement '..UptoSaid' is the law's where the arguments, and the package variables that the reading takes, are together of bulk at most 1048576: NARROWER than '..Said'. Prove '..Said' where nothing that the law and all that it calls make is longer than what came in: it says more and counts as full. Else prove '..UptoSaid'. A law counts once. -/
mutual
def uptoBulk {H : Type} : DataW H → Nat
  | .lit (.string bytes) => bytes.length + 1
  | .lit _ => 1
  | .nil => 1
  | .ptr d => uptoBulk d + 1
  | .slice elems spare => uptoBulkAll elems + uptoBulkAll spare + 1
  | .agg parts => uptoBulkAll parts + 1
  | .iface _ d => uptoBulk d + 1
  | .map entries => uptoBulkEntries entries + 1
  | .held _ => 1
def uptoBulkAll {H : Type} : List (DataW H) → Nat
  | [] => 0
  | d :: r => uptoBulk d + uptoBulkAll r
def uptoBulkEntries {H : Type} : List (Lit × DataW H) → Nat
  | [] => 0
  | x :: r => uptoBulkEntry x + uptoBulkEntries r
def uptoBulkEntry {H : Type} : Lit × DataW H → Nat
  | (.string bytes, d) => bytes.length + uptoBulk d + 1
  | (_, d) => uptoBulk d + 1
 end
def uptoSmall : (H : Type) → List (DataW H) → Bool := fun _ ds => decide (uptoBulkAll ds ≤ 1048576)
def OpenSpec.upto (s : _root_.Go.ChangeSpec) : _root_.Go.OpenSpec := { _root_.Go.OpenSpec.ofChange s with cond := some uptoSmall }

/-- 'laws.FnSubst', WHERE WHAT IT READS IS OF BULK AT MOST 1048576: true; the input reads as it did. -/
def fnSubstUptoRow : OpenClaim := { program := "ytmjjaoffeajcbaa", sum := "9c5c2d7efe396d69af575f7672999be6a919ec8027ce46ad0f067207e96b9ef5", func := "loop.example/g00187/laws.FnSubst", spec := "fnSubst", unfollowed := true, recurses := true, apart := false, narrowed := true }
def FnSubstUptoSaid : Prop := fnSubstUptoRow.holds Try.pinned (OpenSpec.upto fnSubstSpec)

/-- 'laws.FnExactLiveOk', WHERE WHAT IT READS IS OF BULK AT MOST 1048576: true; the input reads as it did. -/
def fnExactLiveOkUptoRow : OpenClaim := { program := "ytmjjaoffeajcbaa", sum := "9c5c2d7efe396d69af575f7672999be6a919ec8027ce46ad0f067207e96b9ef5", func := "loop.example/g00187/laws.FnExactLiveOk", spec := "fnExactLiveOk", unfollowed := true, recurses := true, apart := false, narrowed := true }
def FnExactLiveOkUptoSaid : Prop := fnExactLiveOkUptoRow.holds Try.pinned (OpenSpec.upto fnExactLiveOkSpec)

/-- 'laws.FnExactSlotsOk', WHERE WHAT IT READS IS OF BULK AT MOST 1048576: true; the input reads as it did. -/
def fnExactSlotsOkUptoRow : OpenClaim := { program := "ytmjjaoffeajcbaa", sum := "9c5c2d7efe396d69af575f7672999be6a919ec8027ce46ad0f067207e96b9ef5", func := "loop.example/g00187/laws.FnExactSlotsOk", spec := "fnExactSlotsOk", unfollowed := true, recurses := true, apart := false, narrowed := true }
def FnExactSlotsOkUptoSaid : Prop := fnExactSlotsOkUptoRow.holds Try.pinned (OpenSpec.upto fnExactSlotsOkSpec)

/-- 'laws.FnExactClashes', WHERE WHAT IT READS IS OF BULK AT MOST 1048576: true; the input reads as it did. -/
def fnExactClashesUptoRow : OpenClaim := { program := "ytmjjaoffeajcbaa", sum := "9c5c2d7efe396d69af575f7672999be6a919ec8027ce46ad0f067207e96b9ef5", func := "loop.example/g00187/laws.FnExactClashes", spec := "fnExactClashes", unfollowed := true, recurses := true, apart := false, narrowed := true }
def FnExactClashesUptoSaid : Prop := fnExactClashesUptoRow.holds Try.pinned (OpenSpec.upto fnExactClashesSpec)

/-- 'laws.FnExactLive', WHERE WHAT IT READS IS OF BULK AT MOST 1048576: true; the input reads as it did. -/
def fnExactLiveUptoRow : OpenClaim := { program := "ytmjjaoffeajcbaa", sum := "9c5c2d7efe396d69af575f7672999be6a919ec8027ce46ad0f067207e96b9ef5", func := "loop.example/g00187/laws.FnExactLive", spec := "fnExactLive", unfollowed := true, recurses := true, apart := false, narrowed := true }
def FnExactLiveUptoSaid : Prop := fnExactLiveUptoRow.holds Try.pinned (OpenSpec.upto fnExactLiveSpec)

/-- 'laws.FnExactSlots', WHERE WHAT IT READS IS OF BULK AT MOST 1048576: true; the input reads as it did. -/
def fnExactSlotsUptoRow : OpenClaim := { program := "ytmjjaoffeajcbaa", sum := "9c5c2d7efe396d69af575f7672999be6a919ec8027ce46ad0f067207e96b9ef5", func := "loop.example/g00187/laws.FnExactSlots", spec := "fnExactSlots", unfollowed := true, recurses := true, apart := false, narrowed := true }
def FnExactSlotsUptoSaid : Prop := fnExactSlotsUptoRow.holds Try.pinned (OpenSpec.upto fnExactSlotsSpec)

end Rows
end Go.Proofs.Ytmjjaoffeajcbaa

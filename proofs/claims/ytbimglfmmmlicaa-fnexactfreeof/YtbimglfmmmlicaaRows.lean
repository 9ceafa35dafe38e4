/-
  NARROWER THAN 'FOR EVERY INPUT', by the rows' own cells (each row's printed sentence says how): FnExactPlain: loops · FnExactBinders: loops · FnExactFreeOf: loops · FnExactAllUnlike: loops.
  DERIVED. THE GIVEN ROWS OF THIS SEAT. 5 by the template 'for every input the law returns true; each argument reads behind the call as it read before'; 0 by the template 'total and deterministic' (their statements: YtbimglfmmmlicaaTotals.lean).
  GIVEN WITH THE SEED: the statements are not yours to turn. If you find one false, say at which input.
  Laid BY PROGRAM, IN A SANDBOX (cutbox-rows.mjs): the forced cells as the released guide's own fill.sh prints them over the translation 512d1874a7218a75… (all of the seat's roots in one cut). By AI agents, Wed Nov 11 2026. No macro, syntax, notation, axiom, sorry.
-/
import Derived.Test.YtbimglfmmmlicaaChecked
import GoSem.Claim
import GoSem.ClaimJoined
import GoSem.ClaimMapViews
import Derived.JoinedTies
import Derived.KernelRfl
namespace Go.Proofs.Ytbimglfmmmlicaa
/- THE CELL 'sum', in the pinned program and in every row, IS THE sha256 OF THE DUMP (.gsa) THAT YtbimglfmmmlicaaProg.lean LOADS. Nothing in Lean hashes anything: it is a label: what it is worth is what the hold of that sum in a sandbox is worth. -/
noncomputable def Try.pinned : Pinned := { name := "ytbimglfmmmlicaa", sum := "512d1874a7218a759f0f9478202f28c9f412dfe03e5a196e6c8295db1d081266", checked := Try.checked }
namespace Rows
def none {H : Type} : Left H := { results := [], args := [] }

/-- 'laws.FnExactPlain': WHATEVER THE INPUT: true; the input reads as it did. -/
def fnExactPlainSpec : ChangeSpec := { name := "fnExactPlain", fn := fun _ => fun
  | [d] => { results := [.lit (.bool true)], args := [d] }
  | _ => none }
def fnExactPlainRow : OpenClaim := { program := "ytbimglfmmmlicaa", sum := "512d1874a7218a759f0f9478202f28c9f412dfe03e5a196e6c8295db1d081266", func := "loop.example/g00187/laws.FnExactPlain", spec := "fnExactPlain", inPlace := ["internal/bytealg.IndexByteString", "internal/bytealg.IndexString"], unfollowed := true, recurses := true, named := ["internal/bytealg.MaxLen"], loops := true, apart := false }
def FnExactPlainSaid : Prop := fnExactPlainRow.holds Try.pinned (OpenSpec.ofChange fnExactPlainSpec)

/-- ITS FALSE NEIGHBOUR: 'it returns false'. Refute it at one input. -/
def fnExactPlainWrong : ChangeSpec := { name := "fnExactPlain", fn := fun _ => fun
  | [d] => { results := [.lit (.bool false)], args := [d] }
  | _ => none }
def FnExactPlainWrongFalsely : Prop := fnExactPlainRow.holds Try.pinned (OpenSpec.ofChange fnExactPlainWrong)

/-- 'laws.FnExactBinders': WHATEVER THE INPUT: true; the input reads as it did. -/
def fnExactBindersSpec : ChangeSpec := { name := "fnExactBinders", fn := fun _ => fun
  | [d] => { results := [.lit (.bool true)], args := [d] }
  | _ => none }
def fnExactBindersRow : OpenClaim := { program := "ytbimglfmmmlicaa", sum := "512d1874a7218a759f0f9478202f28c9f412dfe03e5a196e6c8295db1d081266", func := "loop.example/g00187/laws.FnExactBinders", spec := "fnExactBinders", unfollowed := true, recurses := true, loops := true, apart := false }
def FnExactBindersSaid : Prop := fnExactBindersRow.holds Try.pinned (OpenSpec.ofChange fnExactBindersSpec)

/-- ITS FALSE NEIGHBOUR: 'it returns false'. Refute it at one input. -/
def fnExactBindersWrong : ChangeSpec := { name := "fnExactBinders", fn := fun _ => fun
  | [d] => { results := [.lit (.bool false)], args := [d] }
  | _ => none }
def FnExactBindersWrongFalsely : Prop := fnExactBindersRow.holds Try.pinned (OpenSpec.ofChange fnExactBindersWrong)

/-- 'laws.FnExactFreeOf': WHATEVER THE INPUT: true; the input reads as it did. -/
def fnExactFreeOfSpec : ChangeSpec := { name := "fnExactFreeOf", fn := fun _ => fun
  | [d] => { results := [.lit (.bool true)], args := [d] }
  | _ => none }
def fnExactFreeOfRow : OpenClaim := { program := "ytbimglfmmmlicaa", sum := "512d1874a7218a759f0f9478202f28c9f412dfe03e5a196e6c8295db1d081266", func := "loop.example/g00187/laws.FnExactFreeOf", spec := "fnExactFreeOf", unfollowed := true, recurses := true, loops := true, apart := false }
def FnExactFreeOfSaid : Prop := fnExactFreeOfRow.holds Try.pinned (OpenSpec.ofChange fnExactFreeOfSpec)

/-- ITS FALSE NEIGHBOUR: 'it returns false'. Refute it at one input. -/
def fnExactFreeOfWrong : ChangeSpec := { name := "fnExactFreeOf", fn := fun _ => fun
  | [d] => { results := [.lit (.bool false)], args := [d] }
  | _ => none }
def FnExactFreeOfWrongFalsely : Prop := fnExactFreeOfRow.holds Try.pinned (OpenSpec.ofChange fnExactFreeOfWrong)

/-- 'laws.FnExactAllUnlike': WHATEVER THE INPUT: true; the input reads as it did. -/
def fnExactAllUnlikeSpec : ChangeSpec := { name := "fnExactAllUnlike", fn := fun _ => fun
  | [d] => { results := [.lit (.bool true)], args := [d] }
  | _ => none }
def fnExactAllUnlikeRow : OpenClaim := { program := "ytbimglfmmmlicaa", sum := "512d1874a7218a759f0f9478202f28c9f412dfe03e5a196e6c8295db1d081266", func := "loop.example/g00187/laws.FnExactAllUnlike", spec := "fnExactAllUnlike", unfollowed := true, recurses := true, loops := true, apart := false }
def FnExactAllUnlikeSaid : Prop := fnExactAllUnlikeRow.holds Try.pinned (OpenSpec.ofChange fnExactAllUnlikeSpec)

/-- ITS FALSE NEIGHBOUR: 'it returns false'. Refute it at one input. -/
def fnExactAllUnlikeWrong : ChangeSpec := { name := "fnExactAllUnlike", fn := fun _ => fun
  | [d] => { results := [.lit (.bool false)], args := [d] }
  | _ => none }
def FnExactAllUnlikeWrongFalsely : Prop := fnExactAllUnlikeRow.holds Try.pinned (OpenSpec.ofChange fnExactAllUnlikeWrong)

/-- 'laws.FnSubst': WHATEVER THE INPUT: true; the input reads as it did. -/
def fnSubstSpec : ChangeSpec := { name := "fnSubst", fn := fun _ => fun
  | [d] => { results := [.lit (.bool true)], args := [d] }
  | _ => none }
def fnSubstRow : OpenClaim := { program := "ytbimglfmmmlicaa", sum := "512d1874a7218a759f0f9478202f28c9f412dfe03e5a196e6c8295db1d081266", func := "loop.example/g00187/laws.FnSubst", spec := "fnSubst", unfollowed := true, recurses := true, apart := false }
def FnSubstSaid : Prop := fnSubstRow.holds Try.pinned (OpenSpec.ofChange fnSubstSpec)

/-- ITS FALSE NEIGHBOUR: 'it returns false'. Refute it at one input. -/
def fnSubstWrong : ChangeSpec := { name := "fnSubst", fn := fun _ => fun
  | [d] => { results := [.lit (.bool false)], args := [d] }
  | _ => none }
def FnSubstWrongFalsely : Prop := fnSubstRow.holds Try.pinned (OpenSpec.ofChange fnSubstWrong)

/- THE SECOND FORM. 'bulk': how many values and letters a reading holds, each counted each time it is reached (what is shared counts as often as it is met; a slice's spare places count too). A statement '..UptoSaid' is the law's where the arguments, and the package variables that the reading takes, are together of bulk at most 1048576: NARROWER than '..Said'. Prove '..Said' where nothing that the law and all that it calls make is longer than what came in: it says more and counts as full. Else prove '..UptoSaid'. A law counts once. -/
mutual
def uptoBulk {H : Type} : DataW H → Nat
  | .lit (.string bytes) => bytes.length + 1
  | .lit _ => 1
  | .nil => 1
  | .ptr d => uptoBulk d + 1
  | .slice elems spare => uptoBulkAll elems + uptoBulkAll spare + 1
  | .agg parts => uptoBulkAll parts + 1
  | .iface _ d => uptoBulk d + 1
  | .map entries => uptoBulkEntries entries + 1
  | .held _ => 1
def uptoBulkAll {H : Type} : List (DataW H) → Nat
  | [] => 0
  | d :: r => uptoBulk d + uptoBulkAll r
def uptoBulkEntries {H : Type} : List (Lit × DataW H) → Nat
  | [] => 0
  | x :: r => uptoBulkEntry x + uptoBulkEntries r
def uptoBulkEntry {H : Type} : Lit × DataW H → Nat
  | (.string bytes, d) => bytes.length + uptoBulk d + 1
  | (_, d) => uptoBulk d + 1
 end
def uptoSmall : (H : Type) → List (DataW H) → Bool := fun _ ds => decide (uptoBulkAll ds ≤ 1048576)
def OpenSpec.upto (s : _root_.Go.ChangeSpec) : _root_.Go.OpenSpec := { _root_.Go.OpenSpec.ofChange s with cond := some uptoSmall }

/-- 'laws.FnExactPlain', WHERE WHAT IT READS IS OF BULK AT MOST 1048576: true; the input reads as it did. -/
def fnExactPlainUptoRow : OpenClaim := { program := "ytbimglfmmmlicaa", sum := "512d1874a7218a759f0f9478202f28c9f412dfe03e5a196e6c8295db1d081266", func := "loop.example/g00187/laws.FnExactPlain", spec := "fnExactPlain", inPlace := ["internal/bytealg.IndexByteString", "internal/bytealg.IndexString"], unfollowed := true, recurses := true, named := ["internal/bytealg.MaxLen"], loops := true, apart := false, narrowed := true }
def FnExactPlainUptoSaid : Prop := fnExactPlainUptoRow.holds Try.pinned (OpenSpec.upto fnExactPlainSpec)

/-- 'laws.FnExactBinders', WHERE WHAT IT READS IS OF BULK AT MOST 1048576: true; the input reads as it did. -/
def fnExactBindersUptoRow : OpenClaim := { program := "ytbimglfmmmlicaa", sum := "512d1874a7218a759f0f9478202f28c9f412dfe03e5a196e6c8295db1d081266", func := "loop.example/g00187/laws.FnExactBinders", spec := "fnExactBinders", unfollowed := true, recurses := true, loops := true, apart := false, narrowed := true }
def FnExactBindersUptoSaid : Prop := fnExactBindersUptoRow.holds Try.pinned (OpenSpec.upto fnExactBindersSpec)

/-- 'laws.FnExactFreeOf', WHERE WHAT IT READS IS OF BULK AT MOST 1048576: true; the input reads as it did. -/
def fnExactFreeOfUptoRow : OpenClaim := { program := "ytbimglfmmmlicaa", sum := "512d1874a7218a759f0f9478202f28c9f412dfe03e5a196e6c8295db1d081266", func := "loop.example/g00187/laws.FnExactFreeOf", spec := "fnExactFreeOf", unfollowed := true, recurses := true, loops := true, apart := false, narrowed := true }
def FnExactFreeOfUptoSaid : Prop := fnExactFreeOfUptoRow.holds Try.pinned (OpenSpec.upto fnExactFreeOfSpec)

/-- 'laws.FnExactAllUnlike', WHERE WHAT IT READS IS OF BULK AT MOST 1048576: true; the input reads as it did. -/
def fnExactAllUnlikeUptoRow : OpenClaim := { program := "ytbimglfmmmlicaa", sum := "512d1874a7218a759f0f9478202f28c9f412dfe03e5a196e6c8295db1d081266", func := "loop.example/g00187/laws.FnExactAllUnlike", spec := "fnExactAllUnlike", unfollowed := true, recurses := true, loops := true, apart := false, narrowed := true }
def FnExactAllUnlikeUptoSaid : Prop := fnExactAllUnlikeUptoRow.holds Try.pinned (OpenSpec.upto fnExactAllUnlikeSpec)

/-- 'laws.FnSubst', WHERE WHAT IT READS IS OF BULK AT MOST 1048576: true; the input reads as it did. -/
def fnSubstUptoRow : OpenClaim := { program := "ytbimglfmmmlicaa", sum := "512d1874a7218a759f0f9478202f28c9f412dfe03e5a196e6c8295db1d081266", func := "loop.example/g00187/laws.FnSubst", spec := "fnSubst", unfollowed := true, recurses := true, apart := false, narrowed := true }
def FnSubstUptoSaid : Prop := fnSubstUptoRow.holds Try.pinned (OpenSpec.upto fnSubstSpec)

end Rows
end Go.Proofs.Ytbimglfmmmlicaa

/-
  NARROWER THAN 'FOR EVERY INPUT', by the rows' own cells (each row's printed sentence says how): FnExactGround: loops · FnExactVarsOf: loops · FnExactIsValue: loops · FnExactSameTerm: loops · FnExactTermOk: loops · FnExactNodesOf: loops · FnExactPlain: loops · FnExactIsMono: loops · FnExactLambdas: loops · FnExactFreeOf: loops.
  DERIVED. THE GIVEN ROWS OF THIS SEAT. 12 by the template 'for every input the law returns true; each argument reads behind the call as it read before'; 0 by the template 'total and deterministic' (their statements: YtdbgiclddcphfaaTotals.lean).
  GIVEN WITH THE SEED: the statements are not yours to turn. If you find one false, say at which input.
  Laid BY PROGRAM, IN A SANDBOX (cutbox-rows.mjs): the forced cells as the released guide's own fill.sh prints them over the translation dfc43288700bbc3f… (all of the seat's roots in one cut). By AI agents, Wed Nov 11 2026. No macro, syntax, notation, axiom, sorry.
-/
import Derived.Test.YtdbgiclddcphfaaChecked
import GoSem.Claim
import GoSem.ClaimJoined
import GoSem.ClaimMapViews
import Derived.JoinedTies
import Derived.KernelRfl
namespace Go.Proofs.Ytdbgiclddcphfaa
/- THE CELL 'sum', in the pinned program and in every row, IS THE sha256 OF THE DUMP (.gsa) THAT YtdbgiclddcphfaaProg.lean LOADS. Nothing in Lean hashes anything: it is a label: what it is worth is what the hold of that sum in a sandbox is worth. -/
noncomputable def Try.pinned : Pinned := { name := "ytdbgiclddcphfaa", sum := "dfc43288700bbc3f916a3e69b6337a068cba7c91ca5badbd84bcb61b6210ef2e", checked := Try.checked }
namespace Rows
def none {H : Type} : Left H := { results := [], args := [] }

/-- 'laws.FnExactGround': WHATEVER THE INPUT: true; the input reads as it did. -/
def fnExactGroundSpec : ChangeSpec := { name := "fnExactGround", fn := fun _ => fun
  | [d] => { results := [.lit (.bool true)], args := [d] }
  | _ => none }
def fnExactGroundRow : OpenClaim := { program := "ytdbgiclddcphfaa", sum := "dfc43288700bbc3f916a3e69b6337a068cba7c91ca5badbd84bcb61b6210ef2e", func := "loop.example/g00187/laws.FnExactGround", spec := "fnExactGround", unfollowed := true, recurses := true, loops := true, apart := false }
def FnExactGroundSaid : Prop := fnExactGroundRow.holds Try.pinned (OpenSpec.ofChange fnExactGroundSpec)

/-- ITS FALSE NEIGHBOUR: 'it returns false'. Refute it at one input. -/
def fnExactGroundWrong : ChangeSpec := { name := "fnExactGround", fn := fun _ => fun
  | [d] => { results := [.lit (.bool false)], args := [d] }
  | _ => none }
def FnExactGroundWrongFalsely : Prop := fnExactGroundRow.holds Try.pinned (OpenSpec.ofChange fnExactGroundWrong)

/-- 'laws.FnExactVarsOf': WHATEVER THE INPUT: true; the input reads as it did. -/
def fnExactVarsOfSpec : ChangeSpec := { name := "fnExactVarsOf", fn := fun _ => fun
  | [d] => { results := [.lit (.bool true)], args := [d] }
  | _ => none }
def fnExactVarsOfRow : OpenClaim := { program := "ytdbgiclddcphfaa", sum := "dfc43288700bbc3f916a3e69b6337a068cba7c91ca5badbd84bcb61b6210ef2e", func := "loop.example/g00187/laws.FnExactVarsOf", spec := "fnExactVarsOf", recurses := true, loops := true, apart := false }
def FnExactVarsOfSaid : Prop := fnExactVarsOfRow.holds Try.pinned (OpenSpec.ofChange fnExactVarsOfSpec)

/-- ITS FALSE NEIGHBOUR: 'it returns false'. Refute it at one input. -/
def fnExactVarsOfWrong : ChangeSpec := { name := "fnExactVarsOf", fn := fun _ => fun
  | [d] => { results := [.lit (.bool false)], args := [d] }
  | _ => none }
def FnExactVarsOfWrongFalsely : Prop := fnExactVarsOfRow.holds Try.pinned (OpenSpec.ofChange fnExactVarsOfWrong)

/-- 'laws.FnExactIsValue': WHATEVER THE INPUT: true; the input reads as it did. -/
def fnExactIsValueSpec : ChangeSpec := { name := "fnExactIsValue", fn := fun _ => fun
  | [d] => { results := [.lit (.bool true)], args := [d] }
  | _ => none }
def fnExactIsValueRow : OpenClaim := { program := "ytdbgiclddcphfaa", sum := "dfc43288700bbc3f916a3e69b6337a068cba7c91ca5badbd84bcb61b6210ef2e", func := "loop.example/g00187/laws.FnExactIsValue", spec := "fnExactIsValue", recurses := true, loops := true, apart := false }
def FnExactIsValueSaid : Prop := fnExactIsValueRow.holds Try.pinned (OpenSpec.ofChange fnExactIsValueSpec)

/-- ITS FALSE NEIGHBOUR: 'it returns false'. Refute it at one input. -/
def fnExactIsValueWrong : ChangeSpec := { name := "fnExactIsValue", fn := fun _ => fun
  | [d] => { results := [.lit (.bool false)], args := [d] }
  | _ => none }
def FnExactIsValueWrongFalsely : Prop := fnExactIsValueRow.holds Try.pinned (OpenSpec.ofChange fnExactIsValueWrong)

/-- 'laws.FnExactGuard': WHATEVER THE INPUT: true; the input reads as it did. -/
def fnExactGuardSpec : ChangeSpec := { name := "fnExactGuard", fn := fun _ => fun
  | [d1, d2] => { results := [.lit (.bool true)], args := [d1, d2] }
  | _ => none }
def fnExactGuardRow : OpenClaim := { program := "ytdbgiclddcphfaa", sum := "dfc43288700bbc3f916a3e69b6337a068cba7c91ca5badbd84bcb61b6210ef2e", func := "loop.example/g00187/laws.FnExactGuard", spec := "fnExactGuard", apart := false }
def FnExactGuardSaid : Prop := fnExactGuardRow.holds Try.pinned (OpenSpec.ofChange fnExactGuardSpec)

/-- ITS FALSE NEIGHBOUR: 'it returns false'. Refute it at one input. -/
def fnExactGuardWrong : ChangeSpec := { name := "fnExactGuard", fn := fun _ => fun
  | [d1, d2] => { results := [.lit (.bool false)], args := [d1, d2] }
  | _ => none }
def FnExactGuardWrongFalsely : Prop := fnExactGuardRow.holds Try.pinned (OpenSpec.ofChange fnExactGuardWrong)

/-- 'laws.FnExactSameTerm': WHATEVER THE INPUT: true; the input reads as it did. -/
def fnExactSameTermSpec : ChangeSpec := { name := "fnExactSameTerm", fn := fun _ => fun
  | [d1, d2] => { results := [.lit (.bool true)], args := [d1, d2] }
  | _ => none }
def fnExactSameTermRow : OpenClaim := { program := "ytdbgiclddcphfaa", sum := "dfc43288700bbc3f916a3e69b6337a068cba7c91ca5badbd84bcb61b6210ef2e", func := "loop.example/g00187/laws.FnExactSameTerm", spec := "fnExactSameTerm", unfollowed := true, recurses := true, loops := true, apart := false }
def FnExactSameTermSaid : Prop := fnExactSameTermRow.holds Try.pinned (OpenSpec.ofChange fnExactSameTermSpec)

/-- ITS FALSE NEIGHBOUR: 'it returns false'. Refute it at one input. -/
def fnExactSameTermWrong : ChangeSpec := { name := "fnExactSameTerm", fn := fun _ => fun
  | [d1, d2] => { results := [.lit (.bool false)], args := [d1, d2] }
  | _ => none }
def FnExactSameTermWrongFalsely : Prop := fnExactSameTermRow.holds Try.pinned (OpenSpec.ofChange fnExactSameTermWrong)

/-- 'laws.FnSubst': WHATEVER THE INPUT: true; the input reads as it did. -/
def fnSubstSpec : ChangeSpec := { name := "fnSubst", fn := fun _ => fun
  | [d] => { results := [.lit (.bool true)], args := [d] }
  | _ => none }
def fnSubstRow : OpenClaim := { program := "ytdbgiclddcphfaa", sum := "dfc43288700bbc3f916a3e69b6337a068cba7c91ca5badbd84bcb61b6210ef2e", func := "loop.example/g00187/laws.FnSubst", spec := "fnSubst", unfollowed := true, recurses := true, apart := false }
def FnSubstSaid : Prop := fnSubstRow.holds Try.pinned (OpenSpec.ofChange fnSubstSpec)

/-- ITS FALSE NEIGHBOUR: 'it returns false'. Refute it at one input. -/
def fnSubstWrong : ChangeSpec := { name := "fnSubst", fn := fun _ => fun
  | [d] => { results := [.lit (.bool false)], args := [d] }
  | _ => none }
def FnSubstWrongFalsely : Prop := fnSubstRow.holds Try.pinned (OpenSpec.ofChange fnSubstWrong)

/-- 'laws.FnExactTermOk': WHATEVER THE INPUT: true; the input reads as it did. -/
def fnExactTermOkSpec : ChangeSpec := { name := "fnExactTermOk", fn := fun _ => fun
  | [d] => { results := [.lit (.bool true)], args := [d] }
  | _ => none }
def fnExactTermOkRow : OpenClaim := { program := "ytdbgiclddcphfaa", sum := "dfc43288700bbc3f916a3e69b6337a068cba7c91ca5badbd84bcb61b6210ef2e", func := "loop.example/g00187/laws.FnExactTermOk", spec := "fnExactTermOk", unfollowed := true, recurses := true, loops := true, apart := false }
def FnExactTermOkSaid : Prop := fnExactTermOkRow.holds Try.pinned (OpenSpec.ofChange fnExactTermOkSpec)

/-- ITS FALSE NEIGHBOUR: 'it returns false'. Refute it at one input. -/
def fnExactTermOkWrong : ChangeSpec := { name := "fnExactTermOk", fn := fun _ => fun
  | [d] => { results := [.lit (.bool false)], args := [d] }
  | _ => none }
def FnExactTermOkWrongFalsely : Prop := fnExactTermOkRow.holds Try.pinned (OpenSpec.ofChange fnExactTermOkWrong)

/-- 'laws.FnExactNodesOf': WHATEVER THE INPUT: true; the input reads as it did. -/
def fnExactNodesOfSpec : ChangeSpec := { name := "fnExactNodesOf", fn := fun _ => fun
  | [d] => { results := [.lit (.bool true)], args := [d] }
  | _ => none }
def fnExactNodesOfRow : OpenClaim := { program := "ytdbgiclddcphfaa", sum := "dfc43288700bbc3f916a3e69b6337a068cba7c91ca5badbd84bcb61b6210ef2e", func := "loop.example/g00187/laws.FnExactNodesOf", spec := "fnExactNodesOf", unfollowed := true, recurses := true, loops := true, apart := false }
def FnExactNodesOfSaid : Prop := fnExactNodesOfRow.holds Try.pinned (OpenSpec.ofChange fnExactNodesOfSpec)

/-- ITS FALSE NEIGHBOUR: 'it returns false'. Refute it at one input. -/
def fnExactNodesOfWrong : ChangeSpec := { name := "fnExactNodesOf", fn := fun _ => fun
  | [d] => { results := [.lit (.bool false)], args := [d] }
  | _ => none }
def FnExactNodesOfWrongFalsely : Prop := fnExactNodesOfRow.holds Try.pinned (OpenSpec.ofChange fnExactNodesOfWrong)

/-- 'laws.FnExactPlain': WHATEVER THE INPUT: true; the input reads as it did. -/
def fnExactPlainSpec : ChangeSpec := { name := "fnExactPlain", fn := fun _ => fun
  | [d] => { results := [.lit (.bool true)], args := [d] }
  | _ => none }
def fnExactPlainRow : OpenClaim := { program := "ytdbgiclddcphfaa", sum := "dfc43288700bbc3f916a3e69b6337a068cba7c91ca5badbd84bcb61b6210ef2e", func := "loop.example/g00187/laws.FnExactPlain", spec := "fnExactPlain", inPlace := ["internal/bytealg.IndexByteString", "internal/bytealg.IndexString"], unfollowed := true, recurses := true, named := ["internal/bytealg.MaxLen"], loops := true, apart := false }
def FnExactPlainSaid : Prop := fnExactPlainRow.holds Try.pinned (OpenSpec.ofChange fnExactPlainSpec)

/-- ITS FALSE NEIGHBOUR: 'it returns false'. Refute it at one input. -/
def fnExactPlainWrong : ChangeSpec := { name := "fnExactPlain", fn := fun _ => fun
  | [d] => { results := [.lit (.bool false)], args := [d] }
  | _ => none }
def FnExactPlainWrongFalsely : Prop := fnExactPlainRow.holds Try.pinned (OpenSpec.ofChange fnExactPlainWrong)

/-- 'laws.FnExactIsMono': WHATEVER THE INPUT: true; the input reads as it did. -/
def fnExactIsMonoSpec : ChangeSpec := { name := "fnExactIsMono", fn := fun _ => fun
  | [d] => { results := [.lit (.bool true)], args := [d] }
  | _ => none }
def fnExactIsMonoRow : OpenClaim := { program := "ytdbgiclddcphfaa", sum := "dfc43288700bbc3f916a3e69b6337a068cba7c91ca5badbd84bcb61b6210ef2e", func := "loop.example/g00187/laws.FnExactIsMono", spec := "fnExactIsMono", unfollowed := true, recurses := true, loops := true, apart := false }
def FnExactIsMonoSaid : Prop := fnExactIsMonoRow.holds Try.pinned (OpenSpec.ofChange fnExactIsMonoSpec)

/-- ITS FALSE NEIGHBOUR: 'it returns false'. Refute it at one input. -/
def fnExactIsMonoWrong : ChangeSpec := { name := "fnExactIsMono", fn := fun _ => fun
  | [d] => { results := [.lit (.bool false)], args := [d] }
  | _ => none }
def FnExactIsMonoWrongFalsely : Prop := fnExactIsMonoRow.holds Try.pinned (OpenSpec.ofChange fnExactIsMonoWrong)

/-- 'laws.FnExactLambdas': WHATEVER THE INPUT: true; the input reads as it did. -/
def fnExactLambdasSpec : ChangeSpec := { name := "fnExactLambdas", fn := fun _ => fun
  | [d] => { results := [.lit (.bool true)], args := [d] }
  | _ => none }
def fnExactLambdasRow : OpenClaim := { program := "ytdbgiclddcphfaa", sum := "dfc43288700bbc3f916a3e69b6337a068cba7c91ca5badbd84bcb61b6210ef2e", func := "loop.example/g00187/laws.FnExactLambdas", spec := "fnExactLambdas", unfollowed := true, recurses := true, loops := true, apart := false }
def FnExactLambdasSaid : Prop := fnExactLambdasRow.holds Try.pinned (OpenSpec.ofChange fnExactLambdasSpec)

/-- ITS FALSE NEIGHBOUR: 'it returns false'. Refute it at one input. -/
def fnExactLambdasWrong : ChangeSpec := { name := "fnExactLambdas", fn := fun _ => fun
  | [d] => { results := [.lit (.bool false)], args := [d] }
  | _ => none }
def FnExactLambdasWrongFalsely : Prop := fnExactLambdasRow.holds Try.pinned (OpenSpec.ofChange fnExactLambdasWrong)

/-- 'laws.FnExactFreeOf': WHATEVER THE INPUT: true; the input reads as it did. -/
def fnExactFreeOfSpec : ChangeSpec := { name := "fnExactFreeOf", fn := fun _ => fun
  | [d] => { results := [.lit (.bool true)], args := [d] }
  | _ => none }
def fnExactFreeOfRow : OpenClaim := { program := "ytdbgiclddcphfaa", sum := "dfc43288700bbc3f916a3e69b6337a068cba7c91ca5badbd84bcb61b6210ef2e", func := "loop.example/g00187/laws.FnExactFreeOf", spec := "fnExactFreeOf", unfollowed := true, recurses := true, loops := true, apart := false }
def FnExactFreeOfSaid : Prop := fnExactFreeOfRow.holds Try.pinned (OpenSpec.ofChange fnExactFreeOfSpec)

/-- ITS FALSE NEIGHBOUR: 'it returns false'. Refute it at one input. -/
def fnExactFreeOfWrong : ChangeSpec := { name := "fnExactFreeOf", fn := fun _ => fun
  | [d] => { results := [.lit (.bool false)], args := [d] }
  | _ => none }
def FnExactFreeOfWrongFalsely : Prop := fnExactFreeOfRow.holds Try.pinned (OpenSpec.ofChange fnExactFreeOfWrong)

/- THE SECOND FORM. 'bulk': how many values and letters a reading holds, each counted each time it is reached (what is shared counts as often as it is met; a slice's spare places count too). A statement '..UptoSaid' is the law's where the arguments, and the package variables that the reading takes, are together of bulk at most 1048576: NARROWER than '..Said'. Prove '..Said' where nothing that the law and all that it calls make is longer than what came in: it says more and counts as full. Else prove '..UptoSaid'. A law counts once. -/
mutual
def uptoBulk {H : Type} : DataW H → Nat
  | .lit (.string bytes) => bytes.length + 1
  | .lit _ => 1
  | .nil => 1
  | .ptr d => uptoBulk d + 1
  | .slice elems spare => uptoBulkAll elems + uptoBulkAll spare + 1
  | .agg parts => uptoBulkAll parts + 1
  | .iface _ d => uptoBulk d + 1
  | .map entries => uptoBulkEntries entries + 1
  | .held _ => 1
def uptoBulkAll {H : Type} : List (DataW H) → Nat
  | [] => 0
  | d :: r => uptoBulk d + uptoBulkAll r
def uptoBulkEntries {H : Type} : List (Lit × DataW H) → Nat
  | [] => 0
  | x :: r => uptoBulkEntry x + uptoBulkEntries r
def uptoBulkEntry {H : Type} : Lit × DataW H → Nat
  | (.string bytes, d) => bytes.length + uptoBulk d + 1
  | (_, d) => uptoBulk d + 1
 end
def uptoSmall : (H : Type) → List (DataW H) → Bool := fun _ ds => decide (uptoBulkAll ds ≤ 1048576)
def OpenSpec.upto (s : _root_.Go.ChangeSpec) : _root_.Go.OpenSpec := { _root_.Go.OpenSpec.ofChange s with cond := some uptoSmall }

/-- 'laws.FnExactGround', WHERE WHAT IT READS IS OF BULK AT MOST 1048576: true; the input reads as it did. -/
def fnExactGroundUptoRow : OpenClaim := { program := "ytdbgiclddcphfaa", sum := "dfc43288700bbc3f916a3e69b6337a068cba7c91ca5badbd84bcb61b6210ef2e", func := "loop.example/g00187/laws.FnExactGround", spec := "fnExactGround", unfollowed := true, recurses := true, loops := true, apart := false, narrowed := true }
def FnExactGroundUptoSaid : Prop := fnExactGroundUptoRow.holds Try.pinned (OpenSpec.upto fnExactGroundSpec)

/-- 'laws.FnExactVarsOf', WHERE WHAT IT READS IS OF BULK AT MOST 1048576: true; the input reads as it did. -/
def fnExactVarsOfUptoRow : OpenClaim := { program := "ytdbgiclddcphfaa", sum := "dfc43288700bbc3f916a3e69b6337a068cba7c91ca5badbd84bcb61b6210ef2e", func := "loop.example/g00187/laws.FnExactVarsOf", spec := "fnExactVarsOf", recurses := true, loops := true, apart := false, narrowed := true }
def FnExactVarsOfUptoSaid : Prop := fnExactVarsOfUptoRow.holds Try.pinned (OpenSpec.upto fnExactVarsOfSpec)

/-- 'laws.FnExactIsValue', WHERE WHAT IT READS IS OF BULK AT MOST 1048576: true; the input reads as it did. -/
def fnExactIsValueUptoRow : OpenClaim := { program := "ytdbgiclddcphfaa", sum := "dfc43288700bbc3f916a3e69b6337a068cba7c91ca5badbd84bcb61b6210ef2e", func := "loop.example/g00187/laws.FnExactIsValue", spec := "fnExactIsValue", recurses := true, loops := true, apart := false, narrowed := true }
def FnExactIsValueUptoSaid : Prop := fnExactIsValueUptoRow.holds Try.pinned (OpenSpec.upto fnExactIsValueSpec)

/-- 'laws.FnExactGuard', WHERE WHAT IT READS IS OF BULK AT MOST 1048576: true; the input reads as it did. -/
def fnExactGuardUptoRow : OpenClaim := { program := "ytdbgiclddcphfaa", sum := "dfc43288700bbc3f916a3e69b6337a068cba7c91ca5badbd84bcb61b6210ef2e", func := "loop.example/g00187/laws.FnExactGuard", spec := "fnExactGuard", apart := false, narrowed := true }
def FnExactGuardUptoSaid : Prop := fnExactGuardUptoRow.holds Try.pinned (OpenSpec.upto fnExactGuardSpec)

/-- 'laws.FnExactSameTerm', WHERE WHAT IT READS IS OF BULK AT MOST 1048576: true; the input reads as it did. -/
def fnExactSameTermUptoRow : OpenClaim := { program := "ytdbgiclddcphfaa", sum := "dfc43288700bbc3f916a3e69b6337a068cba7c91ca5badbd84bcb61b6210ef2e", func := "loop.example/g00187/laws.FnExactSameTerm", spec := "fnExactSameTerm", unfollowed := true, recurses := true, loops := true, apart := false, narrowed := true }
def FnExactSameTermUptoSaid : Prop := fnExactSameTermUptoRow.holds Try.pinned (OpenSpec.upto fnExactSameTermSpec)

/-- 'laws.FnSubst', WHERE WHAT IT READS IS OF BULK AT MOST 1048576: true; the input reads as it did. -/
def fnSubstUptoRow : OpenClaim := { program := "ytdbgiclddcphfaa", sum := "dfc43288700bbc3f916a3e69b6337a068cba7c91ca5badbd84bcb61b6210ef2e", func := "loop.example/g00187/laws.FnSubst", spec := "fnSubst", unfollowed := true, recurses := true, apart := false, narrowed := true }
def FnSubstUptoSaid : Prop := fnSubstUptoRow.holds Try.pinned (OpenSpec.upto fnSubstSpec)

/-- 'laws.FnExactTermOk', WHERE WHAT IT READS IS OF BULK AT MOST 1048576: true; the input reads as it did. -/
def fnExactTermOkUptoRow : OpenClaim := { program := "ytdbgiclddcphfaa", sum := "dfc43288700bbc3f916a3e69b6337a068cba7c91ca5badbd84bcb61b6210ef2e", func := "loop.example/g00187/laws.FnExactTermOk", spec := "fnExactTermOk", unfollowed := true, recurses := true, loops := true, apart := false, narrowed := true }
def FnExactTermOkUptoSaid : Prop := fnExactTermOkUptoRow.holds Try.pinned (OpenSpec.upto fnExactTermOkSpec)

/-- 'laws.FnExactNodesOf', WHERE WHAT IT READS IS OF BULK AT MOST 1048576: true; the input reads as it did. -/
def fnExactNodesOfUptoRow : OpenClaim := { program := "ytdbgiclddcphfaa", sum := "dfc43288700bbc3f916a3e69b6337a068cba7c91ca5badbd84bcb61b6210ef2e", func := "loop.example/g00187/laws.FnExactNodesOf", spec := "fnExactNodesOf", unfollowed := true, recurses := true, loops := true, apart := false, narrowed := true }
def FnExactNodesOfUptoSaid : Prop := fnExactNodesOfUptoRow.holds Try.pinned (OpenSpec.upto fnExactNodesOfSpec)

/-- 'laws.FnExactPlain', WHERE WHAT IT READS IS OF BULK AT MOST 1048576: true; the input reads as it did. -/
def fnExactPlainUptoRow : OpenClaim := { program := "ytdbgiclddcphfaa", sum := "dfc43288700bbc3f916a3e69b6337a068cba7c91ca5badbd84bcb61b6210ef2e", func := "loop.example/g00187/laws.FnExactPlain", spec := "fnExactPlain", inPlace := ["internal/bytealg.IndexByteString", "internal/bytealg.IndexString"], unfollowed := true, recurses := true, named := ["internal/bytealg.MaxLen"], loops := true, apart := false, narrowed := true }
def FnExactPlainUptoSaid : Prop := fnExactPlainUptoRow.holds Try.pinned (OpenSpec.upto fnExactPlainSpec)

/-- 'laws.FnExactIsMono', WHERE WHAT IT READS IS OF BULK AT MOST 1048576: true; the input reads as it did. -/
def fnExactIsMonoUptoRow : OpenClaim := { program := "ytdbgiclddcphfaa", sum := "dfc43288700bbc3f916a3e69b6337a068cba7c91ca5badbd84bcb61b6210ef2e", func := "loop.example/g00187/laws.FnExactIsMono", spec := "fnExactIsMono", unfollowed := true, recurses := true, loops := true, apart := false, narrowed := true }
def FnExactIsMonoUptoSaid : Prop := fnExactIsMonoUptoRow.holds Try.pinned (OpenSpec.upto fnExactIsMonoSpec)

/-- 'laws.FnExactLambdas', WHERE WHAT IT READS IS OF BULK AT MOST 1048576: true; the input reads as it did. -/
def fnExactLambdasUptoRow : OpenClaim := { program := "ytdbgiclddcphfaa", sum := "dfc43288700bbc3f916a3e69b6337a068cba7c91ca5badbd84bcb61b6210ef2e", func := "loop.example/g00187/laws.FnExactLambdas", spec := "fnExactLambdas", unfollowed := true, recurses := true, loops := true, apart := false, narrowed := true }
def FnExactLambdasUptoSaid : Prop := fnExactLambdasUptoRow.holds Try.pinned (OpenSpec.upto fnExactLambdasSpec)

/-- 'laws.FnExactFreeOf', WHERE WHAT IT READS IS OF BULK AT MOST 1048576: true; the input reads as it did. -/
def fnExactFreeOfUptoRow : OpenClaim := { program := "ytdbgiclddcphfaa", sum := "dfc43288700bbc3f916a3e69b6337a068cba7c91ca5badbd84bcb61b6210ef2e", func := "loop.example/g00187/laws.FnExactFreeOf", spec := "fnExactFreeOf", unfollowed := true, recurses := true, loops := true, apart := false, narrowed := true }
def FnExactFreeOfUptoSaid : Prop := fnExactFreeOfUptoRow.holds Try.pinned (OpenSpec.upto fnExactFreeOfSpec)

end Rows
end Go.Proofs.Ytdbgiclddcphfaa

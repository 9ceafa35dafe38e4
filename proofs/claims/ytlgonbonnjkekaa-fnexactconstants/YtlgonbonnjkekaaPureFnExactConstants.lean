/- The law FnExactConstants returns true: every exported constant has the value that the specification gives. There is no input and no condition. -/
import Derived.Test.YtlgonbonnjkekaaPFnExactConstantsx1
namespace Go.Proofs.Ytlgonbonnjkekaa.Pure
open Go.RowKit Go.Proofs.Ytlgonbonnjkekaa.PFnExactConstants Go.Proofs.YtlgonbonnjkekaaW.PrintWords Go.Proofs.YtlgonbonnjkekaaW.PrintLast

/-- YOURS: laws_FnExactConstants.f  = some true
What it reaches (each with k first where it has rounds; `.mono`: more rounds tell the same; `.l0`, ..: its loops, with `.mono_l`): laws_FnExactConstants.f -/
theorem FnExactConstants : laws_FnExactConstants.Pure := by
  unfold laws_FnExactConstants.Pure laws_FnExactConstants.f
  rfl

end Go.Proofs.Ytlgonbonnjkekaa.Pure

/- A part. -/
import Derived.Test.YtegbnddjgifcdaaGreatDoorSplitW
set_option linter.unusedVariables false
set_option linter.unusedSimpArgs false
set_option linter.unusedSectionVars false
set_option maxRecDepth 100000
namespace Go.Proofs.YtegbnddjgifcdaaGreatDoor.Abs
open Go Go.Proofs
open Classical
theorem Split_law {s:List UInt8} (hs:s.length ≤ 1048576):CC f_strings_Split [.v (.str s),.v (.str [32])] []=some (.sl (strsC (cutP [] s)),[]):=by
 rw [← split_cut s.length s (Nat.le_refl _)]
 exact extW (by decide) rfl (xSplit_eq (by omega) (by simp))
theorem ez:(Ty.mk 0 0 []).enc=.agg [.int .i64 0,.int .i64 0,.sl []]:=by rw [Ty.enc_def];rfl
end Go.Proofs.YtegbnddjgifcdaaGreatDoor.Abs

/- A part. -/
import Derived.Test.YtognghbhdalckaaData
import Derived.Test.YtognghbhdalckaaK1Eqs
set_option linter.unusedVariables false
set_option linter.unusedSectionVars false
set_option linter.unusedSimpArgs false
namespace Go.Proofs.Ytognghbhdalckaa.Abs
open Go Go.Proofs
theorem apC {g:FuncId} {caps cs:List CVal} {r:Ret} (hg:g ≠ apId) (hrm:E.rm g=none) (how:E.ow g=none) (hp:E.prim g=none) (h:CC g ((cs ++ caps).map .v) []=some r):CC apId (.v (.func g caps) :: cs.map .v) []=some r:=apW hg hrm how hp h
theorem in_law (x a b:Int):CC f_i_in [.v (.int .i64 x),.v (.int .i64 a),.v (.int .i64 b)] []=some (.bool (decide (a ≤ x∧x ≤ b)),[]):=by
 apply go_i_in
 unfold nf_i_in
 simp only [br_decide]
 split<;>simp [*]
theorem l1In_law (x a b:Int):CC f_s_l1In [.v (.int .i64 x),.v (.int .i64 a),.v (.int .i64 b)] []=some (.bool (decide (a ≤ x∧x ≤ b)),[]):=by
 apply go_s_l1In
 unfold nf_s_l1In
 simp only [br_decide]
 split<;>simp [*]
end Go.Proofs.Ytognghbhdalckaa.Abs

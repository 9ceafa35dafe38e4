/- A part. -/
import Derived.Test.YtognghbhdalckaaIntsFns
set_option linter.unusedVariables false
set_option linter.unusedSimpArgs false
set_option maxRecDepth 100000
namespace Go.Proofs.Ytognghbhdalckaa.Abs
open Go Go.Proofs
def ei (l:List Int):CVal:=.sl (l.map (.int .i64))
@[simp] theorem ei_fits {l:List Int}:CVal.fits false 1 (ei l)=true:=rfl
@[simp] theorem ei_cell {l:List Int}:(ei l).cell 0=some (ei l):=rfl
@[simp] theorem ei_asSl {l:List Int}:(ei l).asSl=some (l.map (.int .i64)):=rfl
@[simp] theorem ei_flat {l:List Int}:(ei l).isFlat=true:=rfl
end Go.Proofs.Ytognghbhdalckaa.Abs

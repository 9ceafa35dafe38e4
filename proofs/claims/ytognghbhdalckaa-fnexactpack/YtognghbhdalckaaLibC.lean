/- A part. -/
import Derived.Test.YtognghbhdalckaaXClone
import Derived.Test.YtognghbhdalckaaProg
import Derived.KernelRfl
set_option linter.unusedVariables false
set_option linter.unusedSectionVars false
set_option maxRecDepth 100000
namespace Go.Proofs.Ytognghbhdalckaa.Abs
open Go Go.Proofs
variable [Glob]
theorem mixed:Try.prog.follows .mixedOrders=true:=by kernel_rfl
def xClone29 (args:List AVal) (pbs:List PB):Option Ret:=
 match args,pbs with
 |[.v (.sl xs)],[]=>br (xs.all (CVal.fits true 7)) (br (decide ((xs.map CVal.toF).length ≤ lim)) (some (.sl (xs.map CVal.toF),[])) none) none
 |_,_=>none
theorem xClone29_ok {args:List AVal} {pbs:List PB} {ret:Ret} (h:xClone29 args pbs=some ret):FnOk Try.prog none (some [26]) 29 args pbs ret:=by
 unfold xClone29 at h
 split at h
 ·rename_i xs
  have e1:(run (cloneE Try.prog 29 26 41) cloneN 1).1 29 [.v (.slq false xs)] []=br (xs.all (CVal.fits true 7)) (br (decide ((xs.map CVal.toF).length ≤ lim)) (some (.sl (xs.map CVal.toF),[])) none) none:=by kernel_rfl
  have e2:(run (cloneE Try.prog 29 26 41) cloneN 1).1 29 [.v (.slq true [])] []=some (.sl [],[]):=by kernel_rfl
  refine clone_ok mixed (by decide) (e1.trans h) fun hx=>?_
  subst hx
  obtain ⟨_,h⟩:=br_none h
  obtain ⟨_,h⟩:=br_none h
  rw [e2,← h]
  all_goals rfl
 ·cases h
def xClone30 (args:List AVal) (pbs:List PB):Option Ret:=
 match args,pbs with
 |[.v (.sl xs)],[]=>br (xs.all (CVal.fitsF false [CK.int .i64])) (br (decide ((xs).length ≤ lim)) (some (.sl (xs),[])) none) none
 |_,_=>none
theorem xClone30_ok {args:List AVal} {pbs:List PB} {ret:Ret} (h:xClone30 args pbs=some ret):FnOk Try.prog none (some [37]) 30 args pbs ret:=by
 unfold xClone30 at h
 split at h
 ·rename_i xs
  have e1:(run (cloneE Try.prog 30 37 3) cloneN 1).1 30 [.v (.slq false xs)] []=br (xs.all (CVal.fitsF false [CK.int .i64])) (br (decide ((xs).length ≤ lim)) (some (.sl (xs),[])) none) none:=by kernel_rfl
  have e2:(run (cloneE Try.prog 30 37 3) cloneN 1).1 30 [.v (.slq true [])] []=some (.sl [],[]):=by kernel_rfl
  refine clone_ok mixed (by decide) (e1.trans h) fun hx=>?_
  subst hx
  obtain ⟨_,h⟩:=br_none h
  obtain ⟨_,h⟩:=br_none h
  rw [e2,← h]
  all_goals rfl
 ·cases h
end Go.Proofs.Ytognghbhdalckaa.Abs

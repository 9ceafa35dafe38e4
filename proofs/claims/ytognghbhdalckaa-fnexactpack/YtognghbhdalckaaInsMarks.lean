/- A part. -/
import Derived.Test.YtognghbhdalckaaIntMark
import Derived.Test.YtognghbhdalckaaInsFns
set_option linter.unusedVariables false
set_option linter.unusedSimpArgs false
set_option linter.unusedSectionVars false
set_option maxRecDepth 100000
namespace Go.Proofs.Ytognghbhdalckaa.Abs
open Go Go.Proofs
theorem all_fits_ints (l:List Int):(l.map (CVal.int .i64)).all (CVal.fits false 1)=true:=by simp
def insMarks (l:List Ins):Nat:=(l.map fun i=>6 + i.l.length).sum
theorem insMarks_cons {i:Ins} {l:List Ins}:insMarks (i :: l)=6 + i.l.length + insMarks l:=by simp [insMarks]
theorem insMarks_le:∀ l:List Ins,insMarks l ≤ 6 * l.length + Ins.szL l
 |[]=>by simp [insMarks]
 |i :: l=>by
  have:=insMarks_le l
  rw [insMarks_cons,Ins.szL_cons,Ins.sz_def,List.length_cons];omega
theorem sp1 {a b c d e f g z:CVal}:splice [a,b,c,d,e,f,g] 1 [z]=[a,z,c,d,e,f,g]:=rfl
theorem sp2 {a b c d e f g z:CVal}:splice [a,b,c,d,e,f,g] 2 [z]=[a,b,z,d,e,f,g]:=rfl
theorem sp3 {a b c d e f g z:CVal}:splice [a,b,c,d,e,f,g] 3 [z]=[a,b,c,z,e,f,g]:=rfl
theorem sp4 {a b c d e f g z:CVal}:splice [a,b,c,d,e,f,g] 4 [z]=[a,b,c,d,z,f,g]:=rfl
theorem sp6 {a b c d e f g z:CVal}:splice [a,b,c,d,e,f,g] 6 [z]=[a,b,c,d,e,f,z]:=rfl
theorem sp0 {a b c d e f g:CVal}:List.drop 1 [a,b,c,d,e,f,g]=[b,c,d,e,f,g]:=rfl
theorem cells7 {l:List CVal}:CVal.cells (.agg l)=l:=rfl
theorem len7 {a b c d e f g:CVal}:[a,b,c,d,e,f,g].length=7:=rfl
theorem fits7 {l:List CVal}:CVal.fits false 1 (.agg l)=false:=by simp [CVal.fits,CVal.isFlat]
theorem put5 {a b c d e f g z:CVal}:CVal.putCell (.agg [a,b,c,d,e,f,g]) 5 z=.agg [a,b,c,d,e,z,g]:=rfl
theorem cell5 {a b c d e f g:CVal}:CVal.cell (.agg [a,b,c,d,e,f,g]) 5=some f:=rfl
end Go.Proofs.Ytognghbhdalckaa.Abs

/- A part. -/
import Derived.Test.YtognghbhdalckaaXRow
import Derived.Test.YtognghbhdalckaaProg
import Derived.Shelf.Sort.Plain
import Derived.Shelf.Slices.In.SortNone
import Derived.Shelf.Slices.CompactI
import Derived.Lib.RowBridge
import Derived.KernelRfl
set_option linter.unusedVariables false
set_option linter.unusedSectionVars false
set_option maxRecDepth 100000
namespace Go.Proofs.Ytognghbhdalckaa.Abs
open Go Go.Proofs Go.Shelf Go.Sort
def laysSort_ren:Go.Shelf.Ren:=⟨fun | 189=>80 | 125=>84 | 257=>83 | 128=>94 | 129=>95 | 294=>85 | 295=>86 | 296=>87 | 297=>88 | 298=>89 | 299=>90 | 216=>91 | 300=>92 | 301=>93 | 328=>96 | 329=>97 | 330=>98 | 331=>99 | 332=>100 | 215=>101 | 343=>102 | n=>n,fun | 28=>37 | 3=>3 | 46=>95 | 0=>0 | 51=>106 | 53=>108 | 4=>4 | 183=>98 | 182=>97 | 131=>103 | 5=>5 | 9=>9 | 218=>109 | 222=>113 | 228=>115 | 229=>116 | n=>n,fun | n=>n⟩
theorem laysSort:Go.Proofs.Lays.n189 Try.prog laysSort_ren where
 mixed:=by kernel_rfl
 f125:=Try.func84.trans (congrArg some (by kernel_rfl))
 f128:=Try.func94.trans (congrArg some (by kernel_rfl))
 f129:=Try.func95.trans (congrArg some (by kernel_rfl))
 f189:=Try.func80.trans (congrArg some (by kernel_rfl))
 f215:=Try.func101.trans (congrArg some (by kernel_rfl))
 f216:=Try.func91.trans (congrArg some (by kernel_rfl))
 f257:=Try.func83.trans (congrArg some (by kernel_rfl))
 f294:=Try.func85.trans (congrArg some (by kernel_rfl))
 f295:=Try.func86.trans (congrArg some (by kernel_rfl))
 f296:=Try.func87.trans (congrArg some (by kernel_rfl))
 f297:=Try.func88.trans (congrArg some (by kernel_rfl))
 f298:=Try.func89.trans (congrArg some (by kernel_rfl))
 f299:=Try.func90.trans (congrArg some (by kernel_rfl))
 f300:=Try.func92.trans (congrArg some (by kernel_rfl))
 f301:=Try.func93.trans (congrArg some (by kernel_rfl))
 f328:=Try.func96.trans (congrArg some (by kernel_rfl))
 f329:=Try.func97.trans (congrArg some (by kernel_rfl))
 f330:=Try.func98.trans (congrArg some (by kernel_rfl))
 f331:=Try.func99.trans (congrArg some (by kernel_rfl))
 f332:=Try.func100.trans (congrArg some (by kernel_rfl))
 f343:=Try.func102.trans (congrArg some (by kernel_rfl))
 t0:=Try.underlying0
 a0:=Try.isAgg0
 z0:=Try.sizeOf0
 v0:=Try.zeroValue0
 t3:=Try.underlying3
 a3:=Try.isAgg3
 z3:=Try.sizeOf3
 v3:=Try.zeroValue3
 t4:=Try.underlying4
 a4:=Try.isAgg4
 z4:=Try.sizeOf4
 v4:=Try.zeroValue4
 t5:=Try.underlying5
 a5:=Try.isAgg5
 z5:=Try.sizeOf5
 v5:=Try.zeroValue5
 t9:=Try.underlying9
 a9:=Try.isAgg9
 z9:=Try.sizeOf9
 v9:=Try.zeroValue9
 t28:=Try.underlying37
 a28:=Try.isAgg37
 z28:=Try.sizeOf37
 v28:=Try.zeroValue37
 t46:=Try.underlying95
 a46:=Try.isAgg95
 z46:=Try.sizeOf95
 v46:=Try.zeroValue95
 t51:=Try.underlying106
 a51:=Try.isAgg106
 z51:=Try.sizeOf106
 v51:=Try.zeroValue106
 t53:=Try.underlying108
 a53:=Try.isAgg108
 z53:=Try.sizeOf108
 v53:=Try.zeroValue108
 t131:=Try.underlying103
 a131:=Try.isAgg103
 z131:=Try.sizeOf103
 v131:=Try.zeroValue103
 t182:=Try.underlying97
 a182:=Try.isAgg97
 z182:=Try.sizeOf97
 v182:=Try.zeroValue97
 t183:=Try.underlying98
 a183:=Try.isAgg98
 z183:=Try.sizeOf98
 v183:=Try.zeroValue98
 t218:=Try.underlying109
 a218:=Try.isAgg109
 z218:=Try.sizeOf109
 v218:=Try.zeroValue109
 t222:=Try.underlying113
 a222:=Try.isAgg113
 z222:=Try.sizeOf113
 v222:=Try.zeroValue113
 t228:=Try.underlying115
 a228:=Try.isAgg115
 z228:=Try.sizeOf115
 v228:=Try.zeroValue115
 t229:=Try.underlying116
 a229:=Try.isAgg116
 z229:=Try.sizeOf116
 v229:=Try.zeroValue116
def laysCompact_ren:Go.Shelf.Ren:=⟨fun | 20=>81 | n=>n,fun | 22=>37 | 3=>3 | 4=>4 | 0=>0 | n=>n,fun | n=>n⟩
theorem laysCompact:Go.Proofs.Lays2.n20 Try.prog laysCompact_ren where
 mixed:=by kernel_rfl
 f20:=Try.func81.trans (congrArg some (by kernel_rfl))
 t0:=Try.underlying0
 a0:=Try.isAgg0
 z0:=Try.sizeOf0
 v0:=Try.zeroValue0
 t3:=Try.underlying3
 a3:=Try.isAgg3
 z3:=Try.sizeOf3
 v3:=Try.zeroValue3
 t4:=Try.underlying4
 a4:=Try.isAgg4
 z4:=Try.sizeOf4
 v4:=Try.zeroValue4
 t22:=Try.underlying37
 a22:=Try.isAgg37
 z22:=Try.sizeOf37
 v22:=Try.zeroValue37
 i3:=by kernel_rfl
variable [Glob]
def elsOf:List CVal→Option (List Int)
 |[]=>some []
 |.int .i64 s :: r=>(elsOf r).bind fun l=>some (s :: l)
 |_ :: _=>none
theorem elsOf_map (l:List Int):elsOf (l.map (CVal.int .i64))=some l:=by
 induction l with
 |nil=>rfl
 |cons s r ih=>simp [elsOf,ih]
theorem elsOf_some:∀ (xs:List CVal) (l:List Int),elsOf xs=some l→xs=l.map (CVal.int .i64):=by
 intro xs
 induction xs with
 |nil=>intro l h;cases h;rfl
 |cons x r ih=>
  intro l h
  unfold elsOf at h
  split at h
  ·rename_i h1
   cases h1
  ·rename_i h1
   cases h1
   cases hr:elsOf r with
   |none=>rw [hr] at h;cases h
   |some l'=>rw [hr] at h;cases h;rw [ih l' hr];rfl
  ·cases h
def sortE (l:List Int):List Int:=l.mergeSort fun x y=>decide (x ≤ y)
def xSort (args:List AVal) (pbs:List PB):Option Ret:=
 match args,pbs with
 |[.lref 0 0],[.arr m false 1 xs]=>(elsOf xs).bind fun l=>br (decide (l.length ≤ 4000000000)) (some (.tup [],[(sortE l).map (CVal.int .i64)])) none
 |_,_=>none
theorem xSort_eq {m:Md} {l:List Int} (h:l.length ≤ 4000000000):xSort [.lref 0 0] [.arr m false 1 (l.map (CVal.int .i64))]=some (.tup [],[(sortE l).map (CVal.int .i64)]):=by
 simp [xSort,elsOf_map,h]
theorem xSort_ok {args:List AVal} {pbs:List PB} {ret:Ret} (h:xSort args pbs=some ret):FnOk Try.prog none none 80 args pbs ret:=by
 unfold xSort at h
 split at h
 ·rename_i m xs
  obtain ⟨l,hl,h⟩:=Option.bind_eq_some_iff.1 h
  obtain ⟨hn,h⟩:=br_none h
  cases h
  obtain rfl:=elsOf_some xs l hl
  have hlen:l.length ≤ 4000000000:=by simpa using hn
  refine FnOk.row (pad:=[]) (rv:=fun _ _=>.tuple #[]) Try.func80 (by kernel_rfl) rfl oneInt (.inl ⟨rfl,rfl,rfl,by simp [sortE]⟩) (by simp [sortE]) ?_ ?_
  ·intro _ a cap w
   exact calls_of_every_depth fun D=>AnyS.slices_Sort_int_none_in laysSort D a cap w
  ·intro blk cap w hcap hH hblk
   refine (Any.slices_Sort_int laysSort blk 0 cap l w hH hblk (by omega)).mono ?_
   rintro e w' ⟨rfl,n,os,rfl⟩
   exact ⟨rfl,n,os,by rw [List.append_nil];rfl⟩
 ·cases h
def xCompact (args:List AVal) (pbs:List PB):Option Ret:=
 match args,pbs with
 |[.lref 0 0],[.arr m false 1 xs]=>br m.fix none ((elsOf xs).bind fun l=>br (decide (l.length ≤ 4000000000)) (some (.nilp,[(Lib.compact l).map (CVal.int .i64)])) none)
 |_,_=>none
theorem xCompact_eq {m:Md} {l:List Int} (hm:m.fix=false) (h:l.length ≤ 4000000000):xCompact [.lref 0 0] [.arr m false 1 (l.map (CVal.int .i64))]=some (.nilp,[(Lib.compact l).map (CVal.int .i64)]):=by
 simp [xCompact,elsOf_map,h,hm]
theorem xCompact_ok {args:List AVal} {pbs:List PB} {ret:Ret} (h:xCompact args pbs=some ret):FnOk Try.prog (some 0) none 81 args pbs ret:=by
 unfold xCompact at h
 split at h
 ·rename_i m xs
  rcases br_some h with ⟨_,h⟩ | ⟨hm,h⟩
  ·cases h
  obtain ⟨l,hl,h⟩:=Option.bind_eq_some_iff.1 h
  obtain ⟨hn,h⟩:=br_none h
  cases h
  obtain rfl:=elsOf_some xs l hl
  have hlen:l.length ≤ 4000000000:=by simpa using hn
  have hle:=Lib.compact_length_le l
  refine FnOk.row (pad:=List.replicate (l.length - (Lib.compact l).length) 0) (rv:=fun base cap=>.slice base (Lib.compact l).length cap) Try.func81 (by kernel_rfl) rfl oneInt (.inr ⟨rfl,rfl,hm⟩) (by simp;omega) ?_ ?_
  ·intro h0 a cap w
   subst h0
   exact Any.slices_Compact_int_empty laysCompact a cap w
  ·intro blk cap w hcap hH hblk
   refine (Any.slices_Compact_int laysCompact blk 0 cap l w hH (by omega) hcap).mono ?_
   rintro e w' ⟨rfl,n,rfl⟩
   exact ⟨rfl,n,#[],by rw [grow_empty]⟩
 ·cases h
end Go.Proofs.Ytognghbhdalckaa.Abs

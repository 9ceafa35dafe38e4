/- slices.Sort and slices.Compact, which are not entered: the shelf's contracts at this program, as laws of the abstract machine. -/
import Derived.Test.YtmjjaoffeajcbaaXRow
import Derived.Test.YtmjjaoffeajcbaaProg
import Derived.Shelf.Sort.Plain
import Derived.Shelf.Slices.In.SortNone
import Derived.Shelf.Slices.CompactI
import Derived.Lib.RowBridge
import Derived.KernelRfl
set_option linter.unusedVariables false
set_option linter.unusedSectionVars false
set_option maxRecDepth 100000
namespace Go.Proofs.Ytmjjaoffeajcbaa.Abs
open Go Go.Proofs Go.Shelf Go.Sort

def laysSort_ren : Go.Shelf.Ren := ⟨fun | 189 => 130 | 125 => 135 | 257 => 134 | 128 => 146 | 129 => 147 | 294 => 137 | 295 => 138 | 296 => 139 | 297 => 140 | 298 => 141 | 299 => 142 | 216 => 143 | 300 => 144 | 301 => 145 | 328 => 148 | 329 => 149 | 330 => 150 | 331 => 151 | 332 => 152 | 215 => 153 | 343 => 154 | n => n, fun | 28 => 49 | 3 => 3 | 46 => 139 | 0 => 0 | 51 => 155 | 53 => 157 | 4 => 4 | 183 => 147 | 182 => 146 | 131 => 152 | 5 => 5 | 9 => 9 | 218 => 158 | 222 => 104 | 228 => 163 | 229 => 164 | n => n, fun | n => n⟩
theorem laysSort : Go.Proofs.Lays.n189 Try.prog laysSort_ren where
  mixed := by kernel_rfl
  f125 := Try.func135.trans (congrArg some (by kernel_rfl))
  f128 := Try.func146.trans (congrArg some (by kernel_rfl))
  f129 := Try.func147.trans (congrArg some (by kernel_rfl))
  f189 := Try.func130.trans (congrArg some (by kernel_rfl))
  f215 := Try.func153.trans (congrArg some (by kernel_rfl))
  f216 := Try.func143.trans (congrArg some (by kernel_rfl))
  f257 := Try.func134.trans (congrArg some (by kernel_rfl))
  f294 := Try.func137.trans (congrArg some (by kernel_rfl))
  f295 := Try.func138.trans (congrArg some (by kernel_rfl))
  f296 := Try.func139.trans (congrArg some (by kernel_rfl))
  f297 := Try.func140.trans (congrArg some (by kernel_rfl))
  f298 := Try.func141.trans (congrArg some (by kernel_rfl))
  f299 := Try.func142.trans (congrArg some (by kernel_rfl))
  f300 := Try.func144.trans (congrArg some (by kernel_rfl))
  f301 := Try.func145.trans (congrArg some (by kernel_rfl))
  f328 := Try.func148.trans (congrArg some (by kernel_rfl))
  f329 := Try.func149.trans (congrArg some (by kernel_rfl))
  f330 := Try.func150.trans (congrArg some (by kernel_rfl))
  f331 := Try.func151.trans (congrArg some (by kernel_rfl))
  f332 := Try.func152.trans (congrArg some (by kernel_rfl))
  f343 := Try.func154.trans (congrArg some (by kernel_rfl))
  t0 := Try.underlying0
  a0 := Try.isAgg0
  z0 := Try.sizeOf0
  v0 := Try.zeroValue0
  t3 := Try.underlying3
  a3 := Try.isAgg3
  z3 := Try.sizeOf3
  v3 := Try.zeroValue3
  t4 := Try.underlying4
  a4 := Try.isAgg4
  z4 := Try.sizeOf4
  v4 := Try.zeroValue4
  t5 := Try.underlying5
  a5 := Try.isAgg5
  z5 := Try.sizeOf5
  v5 := Try.zeroValue5
  t9 := Try.underlying9
  a9 := Try.isAgg9
  z9 := Try.sizeOf9
  v9 := Try.zeroValue9
  t28 := Try.underlying49
  a28 := Try.isAgg49
  z28 := Try.sizeOf49
  v28 := Try.zeroValue49
  t46 := Try.underlying139
  a46 := Try.isAgg139
  z46 := Try.sizeOf139
  v46 := Try.zeroValue139
  t51 := Try.underlying155
  a51 := Try.isAgg155
  z51 := Try.sizeOf155
  v51 := Try.zeroValue155
  t53 := Try.underlying157
  a53 := Try.isAgg157
  z53 := Try.sizeOf157
  v53 := Try.zeroValue157
  t131 := Try.underlying152
  a131 := Try.isAgg152
  z131 := Try.sizeOf152
  v131 := Try.zeroValue152
  t182 := Try.underlying146
  a182 := Try.isAgg146
  z182 := Try.sizeOf146
  v182 := Try.zeroValue146
  t183 := Try.underlying147
  a183 := Try.isAgg147
  z183 := Try.sizeOf147
  v183 := Try.zeroValue147
  t218 := Try.underlying158
  a218 := Try.isAgg158
  z218 := Try.sizeOf158
  v218 := Try.zeroValue158
  t222 := Try.underlying104
  a222 := Try.isAgg104
  z222 := Try.sizeOf104
  v222 := Try.zeroValue104
  t228 := Try.underlying163
  a228 := Try.isAgg163
  z228 := Try.sizeOf163
  v228 := Try.zeroValue163
  t229 := Try.underlying164
  a229 := Try.isAgg164
  z229 := Try.sizeOf164
  v229 := Try.zeroValue164
def laysCompact_ren : Go.Shelf.Ren := ⟨fun | 20 => 131 | n => n, fun | 22 => 49 | 3 => 3 | 4 => 4 | 0 => 0 | n => n, fun | n => n⟩
theorem laysCompact : Go.Proofs.Lays2.n20 Try.prog laysCompact_ren where
  mixed := by kernel_rfl
  f20 := Try.func131.trans (congrArg some (by kernel_rfl))
  t0 := Try.underlying0
  a0 := Try.isAgg0
  z0 := Try.sizeOf0
  v0 := Try.zeroValue0
  t3 := Try.underlying3
  a3 := Try.isAgg3
  z3 := Try.sizeOf3
  v3 := Try.zeroValue3
  t4 := Try.underlying4
  a4 := Try.isAgg4
  z4 := Try.sizeOf4
  v4 := Try.zeroValue4
  t22 := Try.underlying49
  a22 := Try.isAgg49
  z22 := Try.sizeOf49
  v22 := Try.zeroValue49
  i3 := by kernel_rfl

variable [Glob]

/-- Elements of a slice. -/
def elsOf : List CVal → Option (List Int)
  | [] => some []
  | .int .i64 s :: r => (elsOf r).bind fun l => some (s :: l)
  | _ :: _ => none
theorem elsOf_map (l : List Int) : elsOf (l.map (CVal.int .i64)) = some l := by
  induction l with
  | nil => rfl
  | cons s r ih => simp [elsOf, ih]
theorem elsOf_some : ∀ (xs : List CVal) (l : List Int), elsOf xs = some l → xs = l.map (CVal.int .i64) := by
  intro xs
  induction xs with
  | nil => intro l h; cases h; rfl
  | cons x r ih =>
    intro l h
    unfold elsOf at h
    split at h
    · rename_i h1
      cases h1
    · rename_i h1
      cases h1
      cases hr : elsOf r with
      | none => rw [hr] at h; cases h
      | some l' => rw [hr] at h; cases h; rw [ih l' hr]; rfl
    · cases h

def sortE (l : List Int) : List Int := l.mergeSort fun x y => decide (x ≤ y)
/-- slices.Sort. -/
def xSort (args : List AVal) (pbs : List PB) : Option Ret :=
  match args, pbs with
  | [.lref 0 0], [.arr m false 1 xs] => (elsOf xs).bind fun l => br (decide (l.length ≤ 4000000000)) (some (.tup [], [(sortE l).map (CVal.int .i64)])) none
  | _, _ => none
theorem xSort_eq {m : Md} {l : List Int} (h : l.length ≤ 4000000000) : xSort [.lref 0 0] [.arr m false 1 (l.map (CVal.int .i64))] = some (.tup [], [(sortE l).map (CVal.int .i64)]) := by
  simp [xSort, elsOf_map, h]
theorem xSort_ok {args : List AVal} {pbs : List PB} {ret : Ret} (h : xSort args pbs = some ret) : FnOk Try.prog none none 130 args pbs ret := by
  unfold xSort at h
  split at h
  · rename_i m xs
    obtain ⟨l, hl, h⟩ := Option.bind_eq_some_iff.1 h
    obtain ⟨hn, h⟩ := br_none h
    cases h
    obtain rfl := elsOf_some xs l hl
    have hlen : l.length ≤ 4000000000 := by simpa using hn
    refine FnOk.row (pad := []) (rv := fun _ _ => .tuple #[]) Try.func130 (by kernel_rfl) rfl oneInt (.inl ⟨rfl, rfl, rfl, by simp [sortE]⟩) (by simp [sortE]) ?_ ?_
    · intro _ a cap w
      exact calls_of_every_depth fun D => AnyS.slices_Sort_int_none_in laysSort D a cap w
    · intro blk cap w hcap hH hblk
      refine (Any.slices_Sort_int laysSort blk 0 cap l w hH hblk (by omega)).mono ?_
      rintro e w' ⟨rfl, n, os, rfl⟩
      exact ⟨rfl, n, os, by rw [List.append_nil]; rfl⟩
  · cases h

/-- slices.Compact. -/
def xCompact (args : List AVal) (pbs : List PB) : Option Ret :=
  match args, pbs with
  | [.lref 0 0], [.arr m false 1 xs] => br m.fix none ((elsOf xs).bind fun l => br (decide (l.length ≤ 4000000000)) (some (.nilp, [(Lib.compact l).map (CVal.int .i64)])) none)
  | _, _ => none
theorem xCompact_eq {m : Md} {l : List Int} (hm : m.fix = false) (h : l.length ≤ 4000000000) : xCompact [.lref 0 0] [.arr m false 1 (l.map (CVal.int .i64))] = some (.nilp, [(Lib.compact l).map (CVal.int .i64)]) := by
  simp [xCompact, elsOf_map, h, hm]
theorem xCompact_ok {args : List AVal} {pbs : List PB} {ret : Ret} (h : xCompact args pbs = some ret) : FnOk Try.prog (some 0) none 131 args pbs ret := by
  unfold xCompact at h
  split at h
  · rename_i m xs
    rcases br_some h with ⟨_, h⟩ | ⟨hm, h⟩
    · cases h
    obtain ⟨l, hl, h⟩ := Option.bind_eq_some_iff.1 h
    obtain ⟨hn, h⟩ := br_none h
    cases h
    obtain rfl := elsOf_some xs l hl
    have hlen : l.length ≤ 4000000000 := by simpa using hn
    have hle := Lib.compact_length_le l
    refine FnOk.row (pad := List.replicate (l.length - (Lib.compact l).length) 0) (rv := fun base cap => .slice base (Lib.compact l).length cap) Try.func131 (by kernel_rfl) rfl oneInt (.inr ⟨rfl, rfl, hm⟩) (by simp; omega) ?_ ?_
    · intro h0 a cap w
      subst h0
      exact Any.slices_Compact_int_empty laysCompact a cap w
    · intro blk cap w hcap hH hblk
      refine (Any.slices_Compact_int laysCompact blk 0 cap l w hH (by omega) hcap).mono ?_
      rintro e w' ⟨rfl, n, rfl⟩
      exact ⟨rfl, n, #[], by rw [grow_empty]⟩
  · cases h
end Go.Proofs.Ytmjjaoffeajcbaa.Abs

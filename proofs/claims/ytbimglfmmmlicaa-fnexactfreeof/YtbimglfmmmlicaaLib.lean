/- slices.Sort and slices.Compact, which are not entered: the shelf's contracts at this program, as laws of the abstract machine. -/
import Derived.Test.YtbimglfmmmlicaaXRow
import Derived.Test.YtbimglfmmmlicaaProg
import Derived.Shelf.Sort.Plain
import Derived.Shelf.Slices.In.SortNone
import Derived.Shelf.Slices.CompactS
import Derived.Test.YtbimglfmmmlicaaXOwn
import Derived.Shelf.Slices.Clone
import Derived.Test.YtbimglfmmmlicaaXGrow
import Derived.Shelf.Strings.Search3
import Derived.Lib.RowBridge
import Derived.KernelRfl
set_option linter.unusedVariables false
set_option linter.unusedSectionVars false
set_option maxRecDepth 100000
namespace Go.Proofs.Ytbimglfmmmlicaa.Abs
open Go Go.Proofs Go.Shelf Go.Sort

def laysSort_ren : Go.Shelf.Ren := ⟨fun | 190 => 55 | 125 => 85 | 258 => 84 | 128 => 112 | 129 => 113 | 302 => 103 | 303 => 104 | 304 => 105 | 305 => 106 | 306 => 107 | 307 => 108 | 308 => 109 | 309 => 110 | 310 => 111 | 333 => 128 | 329 => 129 | 330 => 130 | 334 => 131 | 335 => 132 | 336 => 133 | 344 => 138 | n => n, fun | 31 => 39 | 9 => 9 | 3 => 3 | 46 => 94 | 0 => 0 | 51 => 119 | 53 => 121 | 4 => 4 | 183 => 112 | 182 => 111 | 131 => 116 | 5 => 5 | 218 => 129 | 222 => 84 | 228 => 137 | 229 => 138 | n => n, fun | n => n⟩
theorem laysSort : Go.Proofs.Lays.n190 Try.prog laysSort_ren where
  mixed := by kernel_rfl
  f125 := Try.func85.trans (congrArg some (by kernel_rfl))
  f128 := Try.func112.trans (congrArg some (by kernel_rfl))
  f129 := Try.func113.trans (congrArg some (by kernel_rfl))
  f190 := Try.func55.trans (congrArg some (by kernel_rfl))
  f258 := Try.func84.trans (congrArg some (by kernel_rfl))
  f302 := Try.func103.trans (congrArg some (by kernel_rfl))
  f303 := Try.func104.trans (congrArg some (by kernel_rfl))
  f304 := Try.func105.trans (congrArg some (by kernel_rfl))
  f305 := Try.func106.trans (congrArg some (by kernel_rfl))
  f306 := Try.func107.trans (congrArg some (by kernel_rfl))
  f307 := Try.func108.trans (congrArg some (by kernel_rfl))
  f308 := Try.func109.trans (congrArg some (by kernel_rfl))
  f309 := Try.func110.trans (congrArg some (by kernel_rfl))
  f310 := Try.func111.trans (congrArg some (by kernel_rfl))
  f329 := Try.func129.trans (congrArg some (by kernel_rfl))
  f330 := Try.func130.trans (congrArg some (by kernel_rfl))
  f333 := Try.func128.trans (congrArg some (by kernel_rfl))
  f334 := Try.func131.trans (congrArg some (by kernel_rfl))
  f335 := Try.func132.trans (congrArg some (by kernel_rfl))
  f336 := Try.func133.trans (congrArg some (by kernel_rfl))
  f344 := Try.func138.trans (congrArg some (by kernel_rfl))
  t0 := Try.underlying0
  a0 := Try.isAgg0
  z0 := Try.sizeOf0
  v0 := Try.zeroValue0
  t3 := Try.underlying3
  a3 := Try.isAgg3
  z3 := Try.sizeOf3
  v3 := Try.zeroValue3
  t4 := Try.underlying4
  a4 := Try.isAgg4
  z4 := Try.sizeOf4
  v4 := Try.zeroValue4
  t5 := Try.underlying5
  a5 := Try.isAgg5
  z5 := Try.sizeOf5
  v5 := Try.zeroValue5
  t9 := Try.underlying9
  a9 := Try.isAgg9
  z9 := Try.sizeOf9
  v9 := Try.zeroValue9
  t31 := Try.underlying39
  a31 := Try.isAgg39
  z31 := Try.sizeOf39
  v31 := Try.zeroValue39
  t46 := Try.underlying94
  a46 := Try.isAgg94
  z46 := Try.sizeOf94
  v46 := Try.zeroValue94
  t51 := Try.underlying119
  a51 := Try.isAgg119
  z51 := Try.sizeOf119
  v51 := Try.zeroValue119
  t53 := Try.underlying121
  a53 := Try.isAgg121
  z53 := Try.sizeOf121
  v53 := Try.zeroValue121
  t131 := Try.underlying116
  a131 := Try.isAgg116
  z131 := Try.sizeOf116
  v131 := Try.zeroValue116
  t182 := Try.underlying111
  a182 := Try.isAgg111
  z182 := Try.sizeOf111
  v182 := Try.zeroValue111
  t183 := Try.underlying112
  a183 := Try.isAgg112
  z183 := Try.sizeOf112
  v183 := Try.zeroValue112
  t218 := Try.underlying129
  a218 := Try.isAgg129
  z218 := Try.sizeOf129
  v218 := Try.zeroValue129
  t222 := Try.underlying84
  a222 := Try.isAgg84
  z222 := Try.sizeOf84
  v222 := Try.zeroValue84
  t228 := Try.underlying137
  a228 := Try.isAgg137
  z228 := Try.sizeOf137
  v228 := Try.zeroValue137
  t229 := Try.underlying138
  a229 := Try.isAgg138
  z229 := Try.sizeOf138
  v229 := Try.zeroValue138
def laysCompact_ren : Go.Shelf.Ren := ⟨fun | 194 => 56 | n => n, fun | 31 => 39 | 9 => 9 | 3 => 3 | 4 => 4 | 0 => 0 | n => n, fun | n => n⟩
theorem laysCompact : Go.Proofs.Lays.n194 Try.prog laysCompact_ren where
  mixed := by kernel_rfl
  f194 := Try.func56.trans (congrArg some (by kernel_rfl))
  t0 := Try.underlying0
  a0 := Try.isAgg0
  z0 := Try.sizeOf0
  v0 := Try.zeroValue0
  t3 := Try.underlying3
  a3 := Try.isAgg3
  z3 := Try.sizeOf3
  v3 := Try.zeroValue3
  t4 := Try.underlying4
  a4 := Try.isAgg4
  z4 := Try.sizeOf4
  v4 := Try.zeroValue4
  t9 := Try.underlying9
  a9 := Try.isAgg9
  z9 := Try.sizeOf9
  v9 := Try.zeroValue9
  t31 := Try.underlying39
  a31 := Try.isAgg39
  z31 := Try.sizeOf39
  v31 := Try.zeroValue39
def laysClone_ren : Go.Shelf.Ren := ⟨fun | 16 => 57 | n => n, fun | 24 => 39 | 9 => 9 | 4 => 4 | n => n, fun | n => n⟩
theorem laysClone : Go.Proofs.Lays2.n16 Try.prog laysClone_ren where
  mixed := by kernel_rfl
  f16 := Try.func57.trans (congrArg some (by kernel_rfl))
  t4 := Try.underlying4
  a4 := Try.isAgg4
  z4 := Try.sizeOf4
  v4 := Try.zeroValue4
  t9 := Try.underlying9
  a9 := Try.isAgg9
  z9 := Try.sizeOf9
  v9 := Try.zeroValue9
  t24 := Try.underlying39
  a24 := Try.isAgg39
  z24 := Try.sizeOf39
  v24 := Try.zeroValue39
  i9 := by kernel_rfl
def laysContains_ren : Go.Shelf.Ren := ⟨fun | 144 => 42 | 143 => 77 | 219 => 100 | 217 => 124 | 225 => 125 | 224 => 126 | 267 => 127 | 266 => 136 | 314 => 137 | n => n, fun | 9 => 9 | 4 => 4 | 3 => 3 | 5 => 5 | 46 => 94 | 146 => 135 | 51 => 119 | n => n, fun | 1 => 0 | n => n⟩
theorem laysContains : Go.Proofs.Lays.n144 Try.prog laysContains_ren where
  mixed := by kernel_rfl
  f143 := Try.func77.trans (congrArg some (by kernel_rfl))
  f144 := Try.func42.trans (congrArg some (by kernel_rfl))
  f217 := Try.func124.trans (congrArg some (by kernel_rfl))
  f219 := Try.func100.trans (congrArg some (by kernel_rfl))
  f224 := Try.func126.trans (congrArg some (by kernel_rfl))
  f225 := Try.func125.trans (congrArg some (by kernel_rfl))
  f266 := Try.func136.trans (congrArg some (by kernel_rfl))
  f267 := Try.func127.trans (congrArg some (by kernel_rfl))
  f314 := Try.func137.trans (congrArg some (by kernel_rfl))
  t3 := Try.underlying3
  a3 := Try.isAgg3
  z3 := Try.sizeOf3
  v3 := Try.zeroValue3
  t4 := Try.underlying4
  a4 := Try.isAgg4
  z4 := Try.sizeOf4
  v4 := Try.zeroValue4
  t5 := Try.underlying5
  a5 := Try.isAgg5
  z5 := Try.sizeOf5
  v5 := Try.zeroValue5
  t9 := Try.underlying9
  a9 := Try.isAgg9
  z9 := Try.sizeOf9
  v9 := Try.zeroValue9
  t46 := Try.underlying94
  a46 := Try.isAgg94
  z46 := Try.sizeOf94
  v46 := Try.zeroValue94
  t51 := Try.underlying119
  a51 := Try.isAgg119
  z51 := Try.sizeOf119
  v51 := Try.zeroValue119
  t146 := Try.underlying135
  a146 := Try.isAgg135
  z146 := Try.sizeOf135
  v146 := Try.zeroValue135
  g1 := by kernel_rfl

variable [Glob]

/-- Elements of a slice. -/
def elsOf : List CVal → Option (List (List UInt8))
  | [] => some []
  | .str s :: r => (elsOf r).bind fun l => some (s :: l)
  | _ :: _ => none
theorem elsOf_map (l : List (List UInt8)) : elsOf (l.map CVal.str) = some l := by
  induction l with
  | nil => rfl
  | cons s r ih => simp [elsOf, ih]
theorem elsOf_some : ∀ (xs : List CVal) (l : List (List UInt8)), elsOf xs = some l → xs = l.map CVal.str := by
  intro xs
  induction xs with
  | nil => intro l h; cases h; rfl
  | cons x r ih =>
    intro l h
    unfold elsOf at h
    split at h
    · rename_i h1
      cases h1
    · rename_i h1
      cases h1
      cases hr : elsOf r with
      | none => rw [hr] at h; cases h
      | some l' => rw [hr] at h; cases h; rw [ih l' hr]; rfl
    · cases h

def sortE (l : List (List UInt8)) : List (List UInt8) := l.mergeSort fun x y => decide (x ≤ y)
/-- slices.Sort. -/
def xSort (args : List AVal) (pbs : List PB) : Option Ret :=
  match args, pbs with
  | [.lref 0 0], [.arr m false 1 xs] => (elsOf xs).bind fun l => br (decide (l.length ≤ 4000000000)) (some (.tup [], [(sortE l).map CVal.str])) none
  | _, _ => none
theorem xSort_eq {m : Md} {l : List (List UInt8)} (h : l.length ≤ 4000000000) : xSort [.lref 0 0] [.arr m false 1 (l.map CVal.str)] = some (.tup [], [(sortE l).map CVal.str]) := by
  simp [xSort, elsOf_map, h]
theorem xSort_ok {args : List AVal} {pbs : List PB} {ret : Ret} (h : xSort args pbs = some ret) : FnOk Try.prog none none 55 args pbs ret := by
  unfold xSort at h
  split at h
  · rename_i m xs
    obtain ⟨l, hl, h⟩ := Option.bind_eq_some_iff.1 h
    obtain ⟨hn, h⟩ := br_none h
    cases h
    obtain rfl := elsOf_some xs l hl
    have hlen : l.length ≤ 4000000000 := by simpa using hn
    refine FnOk.row (pad := []) (rv := fun _ _ => .tuple #[]) Try.func55 (by kernel_rfl) rfl oneStr (.inl ⟨rfl, rfl, rfl, by simp [sortE]⟩) (by simp [sortE]) ?_ ?_
    · intro _ a cap w
      exact calls_of_every_depth fun D => AnyS.slices_Sort_string_none_in laysSort D a cap w
    · intro blk cap w hcap hH hblk
      refine (Any.slices_Sort_string laysSort blk 0 cap l w hH hblk (by omega)).mono ?_
      rintro e w' ⟨rfl, n, os, rfl⟩
      exact ⟨rfl, n, os, by rw [List.append_nil]; rfl⟩
  · cases h

/-- slices.Compact. -/
def xCompact (args : List AVal) (pbs : List PB) : Option Ret :=
  match args, pbs with
  | [.lref 0 0], [.arr m false 1 xs] => br m.fix none ((elsOf xs).bind fun l => br (decide (l.length ≤ 4000000000)) (some (.nilp, [(Lib.compact l).map CVal.str])) none)
  | _, _ => none
theorem xCompact_eq {m : Md} {l : List (List UInt8)} (hm : m.fix = false) (h : l.length ≤ 4000000000) : xCompact [.lref 0 0] [.arr m false 1 (l.map CVal.str)] = some (.nilp, [(Lib.compact l).map CVal.str]) := by
  simp [xCompact, elsOf_map, h, hm]
theorem xCompact_ok {args : List AVal} {pbs : List PB} {ret : Ret} (h : xCompact args pbs = some ret) : FnOk Try.prog (some 0) none 56 args pbs ret := by
  unfold xCompact at h
  split at h
  · rename_i m xs
    rcases br_some h with ⟨_, h⟩ | ⟨hm, h⟩
    · cases h
    obtain ⟨l, hl, h⟩ := Option.bind_eq_some_iff.1 h
    obtain ⟨hn, h⟩ := br_none h
    cases h
    obtain rfl := elsOf_some xs l hl
    have hlen : l.length ≤ 4000000000 := by simpa using hn
    have hle := Lib.compact_length_le l
    refine FnOk.row (pad := List.replicate (l.length - (Lib.compact l).length) []) (rv := fun base cap => .slice base (Lib.compact l).length cap) Try.func56 (by kernel_rfl) rfl oneStr (.inr ⟨rfl, rfl, hm⟩) (by simp; omega) ?_ ?_
    · intro h0 a cap w
      subst h0
      exact Any.slices_Compact_string_empty laysCompact a cap w
    · intro blk cap w hcap hH hblk
      refine (Any.slices_Compact_string laysCompact blk 0 cap l w hH (by omega) hcap).mono ?_
      rintro e w' ⟨rfl, n, rfl⟩
      exact ⟨rfl, n, #[], by rw [grow_empty]⟩
  · cases h

/-- slices.Clone. -/
def xClone (args : List AVal) (pbs : List PB) : Option Ret :=
  match args, pbs with
  | [.v (.sl xs)], [] => (elsOf xs).bind fun l => br (decide (l.length ≤ 4000000000)) (some (.sl (l.map CVal.str), [])) none
  | _, _ => none
theorem xClone_eq {l : List (List UInt8)} (h : l.length ≤ 4000000000) : xClone [.v (.sl (l.map CVal.str))] [] = some (.sl (l.map CVal.str), []) := by
  simp [xClone, elsOf_map, h]
theorem plainEls : ∀ l : List (List UInt8), plainL (l.map CVal.str) = true
  | [] => rfl
  | s :: l => by simp [plainL, CVal.plain, plainEls l]
theorem xClone_ok {args : List AVal} {pbs : List PB} {ret : Ret} (h : xClone args pbs = some ret) : FnOk Try.prog none (some [39]) 57 args pbs ret := by
  unfold xClone at h
  split at h
  · rename_i xs
    obtain ⟨l, hl, h⟩ := Option.bind_eq_some_iff.1 h
    obtain ⟨hn, h⟩ := br_none h
    cases h
    obtain rfl := elsOf_some xs l hl
    have hlen : l.length ≤ 4000000000 := by simpa using hn
    have p1 : ptrE Try.prog 39 = none := by unfold ptrE; rw [show (39 % 1048576 : Nat) = 39 from rfl, Try.underlying39]; rfl
    have dr : ∀ {N : Nat → Prop} {w : World} {base : Nat} {e : TypeId} {v : Value}, w.ownsRow base e 1 v l.length (l.map fun s => Value.string ⟨s.toArray⟩) →
        ∃ S, DR Try.prog N w [39] S (.sl (l.map CVal.str)) v ∧ S.Nodup ∧ ∀ x ∈ S, base ≤ x ∧ x < w.heap.size := by
      intro N w base e v h
      obtain ⟨S, h1, h2, h3⟩ := dsl_row (N := N) oneStr h
      refine ⟨S, ?_, h2, h3⟩
      have p2 : aggT Try.prog 39 = false := by unfold aggT; rw [Try.underlying39]
      have p3 : cks Try.prog 39 = [.sl 9] := by unfold cks cksN; rw [Try.underlying39]
      have p4 : Try.prog.cellsOf 9 = 1 := by kernel_rfl
      unfold DR DTp
      simp only [p1]
      unfold DT
      simp only [p2, p3]
      exact ⟨rfl, S, [], l.map CVal.str, [], v, [], by simp, rfl, rfl, by rw [p4]; exact h1, rfl, rfl, rfl⟩
    refine FnOk.ofCallsOwn (cs := [.sl (l.map CVal.str)]) Try.func57 (by kernel_rfl) rfl (by simp [plainR, p1, CVal.plain, plainEls]) ?_
    intro N w vs hN hid hok hcs
    obtain ⟨u, us, rfl, hu, _, hus⟩ := hcs
    have hus : us = [] := hus
    subst hus
    obtain ⟨base, cap, rfl, hcap, hel⟩ := hu
    simp only [List.length_map] at hcap ⊢
    cases base with
    | none =>
      have h0 : l = [] := by
        rcases hel with h | ⟨_, _, _, h, _⟩
        · simpa using h
        · cases h
      subst h0
      refine (Any.slices_Clone_string_nil laysClone 0 cap w).mono ?_
      rintro e w' ⟨rfl, rfl⟩
      obtain ⟨S, h1, h2, h3⟩ := dr (N := N) (w := w') (base := w'.heap.size) (e := 9) (v := .slice none 0 0) ⟨rfl, .inl ⟨rfl, rfl⟩⟩
      exact ⟨_, S, rfl, h1, h2, h3, .refl _ _⟩
    | some a =>
      rcases Nat.eq_zero_or_pos l.length with h0 | hpos
      · obtain rfl : l = [] := List.eq_nil_of_length_eq_zero h0
        refine (Any.slices_Clone_string_zero laysClone a cap w).mono ?_
        rintro e w' ⟨v', rfl, hown, _, hbel⟩
        obtain ⟨S, h1, h2, h3⟩ := dr (N := N) hown
        exact ⟨_, S, rfl, h1, h2, h3, hbel⟩
      · rcases hel with h | ⟨b, o, sz, hb, _, _, hel⟩
        · have : l = [] := by simpa using h
          subst this; cases hpos
        · cases hb
          have hcells := el_one oneStr hel
          refine (Any.slices_Clone_string laysClone b o l.length cap (l.map fun s => ⟨s.toArray⟩) w (by simp) (by omega) ?_).mono ?_
          · intro j hj
            have hj' : j < l.length := by simpa using hj
            rw [hcells j l[j] (by simp [hj'])]
            simp [List.getD, hj']
          · rintro e w' ⟨v', rfl, hown, _, hbel⟩
            have he : ((l.map fun s => (⟨s.toArray⟩ : ByteArray)).take l.length).map Value.string = l.map fun s => Value.string ⟨s.toArray⟩ := by
              rw [List.take_of_length_le (by simp), List.map_map]; rfl
            rw [he] at hown
            obtain ⟨S, h1, h2, h3⟩ := dr (N := N) hown
            exact ⟨_, S, rfl, h1, h2, h3, hbel⟩
  · cases h

/-- slices.Grow of an empty slice. -/
def laysGrow_ren : Go.Shelf.Ren := ⟨fun | 4 => 102 | n => n, fun | 22 => 39 | 25 => 9 | n => n, fun | n => n⟩
theorem laysGrow : Go.Proofs.Lays8.n4 Try.prog laysGrow_ren where
  mixed := by kernel_rfl
  f4 := ⟨"slices.Grow[[]string,string]", by rfl, Try.func102.trans (congrArg some (by kernel_rfl))⟩
  t0 := Try.underlying0
  a0 := Try.isAgg0
  z0 := Try.sizeOf0
  v0 := Try.zeroValue0
  t3 := Try.underlying3
  a3 := Try.isAgg3
  z3 := Try.sizeOf3
  v3 := Try.zeroValue3
  t4 := Try.underlying4
  a4 := Try.isAgg4
  z4 := Try.sizeOf4
  v4 := Try.zeroValue4
  t9 := Try.underlying9
  a9 := Try.isAgg9
  z9 := Try.sizeOf9
  v9 := Try.zeroValue9
  t20 := Try.underlying20
  a20 := Try.isAgg20
  z20 := Try.sizeOf20
  v20 := Try.zeroValue20
  t22 := Try.underlying39
  a22 := Try.isAgg39
  z22 := Try.sizeOf39
  v22 := Try.zeroValue39
def xGrow (args : List AVal) (pbs : List PB) : Option Ret :=
  match args, pbs with
  | [.nl, .v (.int .i64 n)], [] => br (decide (0 ≤ n) && decide (n ≤ 4000000000)) (some (.sl [], [])) none
  | _, _ => none
theorem xGrow_eq {n : Int} (h0 : 0 ≤ n) (h1 : n ≤ 4000000000) : xGrow [.nl, .v (.int .i64 n)] [] = some (.sl [], []) := by
  simp [xGrow, h0, h1]
theorem xGrow_ok {args : List AVal} {pbs : List PB} {ret : Ret} (h : xGrow args pbs = some ret) : FnOk Try.prog none (some [39]) 102 args pbs ret := by
  unfold xGrow at h
  split at h
  · rename_i n
    obtain ⟨hn, h⟩ := br_none h
    cases h
    simp only [Bool.and_eq_true, decide_eq_true_eq] at hn
    obtain ⟨h0, h1⟩ := hn
    obtain ⟨k, rfl⟩ : ∃ k : Nat, n = k := ⟨n.toNat, by omega⟩
    have p1 : ptrE Try.prog 39 = none := by unfold ptrE; rw [show (39 % 1048576 : Nat) = 39 from rfl, Try.underlying39]; rfl
    have dr : ∀ {N : Nat → Prop} {w : World} {v : Value} {S : List Nat}, DSl N w 1 S [] v → DR Try.prog N w [39] S (.sl []) v := by
      intro N w v S h
      have p2 : aggT Try.prog 39 = false := by unfold aggT; rw [Try.underlying39]
      have p3 : cks Try.prog 39 = [.sl 9] := by unfold cks cksN; rw [Try.underlying39]
      have p4 : Try.prog.cellsOf 9 = 1 := by kernel_rfl
      unfold DR DTp
      simp only [p1]
      unfold DT
      simp only [p2, p3]
      exact ⟨rfl, S, [], [], [], v, [], by simp, rfl, rfl, by rw [p4]; exact h, rfl, rfl, rfl⟩
    refine FnOk.grow0 Try.func102 (by kernel_rfl) rfl (by simp [plainR, p1, CVal.plain, plainL]) ?_
    intro N base w
    by_cases hroom : k = 0
    · subst hroom
      refine (Any8.slices_Grow_room laysGrow base 0 0 0 w (by omega) (by omega) (by omega) (by omega)).mono ?_
      rintro e w' ⟨rfl, rfl⟩
      exact ⟨_, [], rfl, dr ⟨base, 0, rfl, Nat.le_refl _, .inl ⟨rfl, rfl⟩⟩, List.nodup_nil, by simp, .refl _ _⟩
    · have hi : (Try.prog.info? 9).map (fun i => (i.size, i.bytes, i.zero)) = some (1, 16, some (.string ⟨#[]⟩)) := by kernel_rfl
      obtain ⟨i0, hi0, hi1⟩ := Option.map_eq_some_iff.1 hi
      simp only [Prod.mk.injEq] at hi1
      obtain ⟨s1, s2, s3⟩ := hi1
      refine (Any8.slices_Grow_grow laysGrow i0 (.string ⟨#[]⟩) hi0 s3 (by omega) base 0 0 k [] w (by omega) (by omega) (by rw [s2]; omega) (by omega) (by simp) (fun _ => rfl) (fun a _ j v hj => by simp at hj)).mono ?_
      rintro e w' ⟨rfl, rfl⟩
      generalize hcap : grownCap w (0 + k) 0 (laysGrow_ren.t 25) = cap
      generalize hcells : (([] : List Value).toArray ++ Builtin.zeroCells ((.string ⟨#[]⟩) : Value).cells (0 + k - 0) ++ Builtin.zeroCells ((.string ⟨#[]⟩) : Value).cells (cap - (0 + k))) = cells
      have hsz : cap ≤ cells.size := by
        rw [← hcells]
        simp [Builtin.zeroCells, Value.cells]
        omega
      generalize laysGrow_ren.t 25 = ty
      have hheap : (w.drew.alloc (.cells cells ty)).heap = w.heap.push (.cells cells ty) := rfl
      have hbel : RowKit.Below w.heap.size w (w.drew.alloc (.cells cells ty)) := ⟨rfl, rfl, rfl, by rw [hheap]; simp, fun x hx => by rw [hheap, Array.getElem?_push]; simp [show x ≠ w.heap.size by omega]⟩
      rcases Nat.eq_zero_or_pos cap with h0 | h0
      · subst h0
        exact ⟨_, [], rfl, dr ⟨_, 0, rfl, Nat.le_refl _, .inl ⟨rfl, rfl⟩⟩, List.nodup_nil, by simp, hbel⟩
      · refine ⟨_, [w.heap.size], rfl, dr ⟨some (pl w.heap.size 0), cap, by simp [pl], by simp, .inr ⟨w.heap.size, cells, ty, [], h0, rfl, rfl, by rw [hheap]; simp, by omega, ?_⟩⟩, by simp, fun x hx => ?_, hbel⟩
        · exact rfl
        · simp at hx
          subst hx
          exact ⟨Nat.le_refl _, by rw [hheap]; simp⟩
  · cases h

/-- strings.Contains of one byte. -/
def xContains (args : List AVal) (pbs : List PB) : Option Ret :=
  match args, pbs with
  | [.v (.str s), .v (.str [c])], [] => some (.bool (decide (0 ≤ Lib.indexByte s c)), [])
  | _, _ => none
theorem xContains_ok {args : List AVal} {pbs : List PB} {ret : Ret} (h : xContains args pbs = some ret) : FnOk Try.prog none none 42 args pbs ret := by
  unfold xContains at h
  split at h
  · rename_i s c
    cases h
    refine FnOk.ofCalls (cs := [.str s, .str [c]]) Try.func42 (by kernel_rfl) rfl ?_
    intro N w vs hN hid hok hcs
    obtain ⟨u, us, rfl, hu, _, hcs⟩ := hcs
    obtain ⟨u2, us2, rfl, hu2, _, hus⟩ := hcs
    have hus : us2 = [] := hus
    subst hus
    have hu : u = .string ⟨s.toArray⟩ := hu
    have hu2 : u2 = .string ⟨#[c]⟩ := hu2
    subst hu hu2
    refine (Any.strings_Contains_one laysContains ⟨s.toArray⟩ c w).mono ?_
    rintro e w' ⟨rfl, rfl⟩
    exact ⟨_, rfl, rfl, .refl _ _⟩
  · cases h
end Go.Proofs.Ytbimglfmmmlicaa.Abs

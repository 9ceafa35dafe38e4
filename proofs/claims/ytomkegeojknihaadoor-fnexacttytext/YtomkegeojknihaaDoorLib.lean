/- The library's functions that are not entered: strconv.Itoa, strings.Join: the shelf's contracts at this program, as laws of the abstract machine; and the table that strconv reads. -/
import Derived.Test.YtomkegeojknihaaDoorOmega
import Derived.Test.YtomkegeojknihaaDoorProg
import Derived.Shelf.Strconv.Itoa3
import Derived.Shelf.Strings.OnBuilder
import Derived.Shelf.LaysM
import Derived.KernelRfl
set_option linter.unusedVariables false
set_option maxRecDepth 100000
namespace Go.Proofs.YtomkegeojknihaaDoor.Abs
open Go Go.Proofs Go.Shelf Go.Sort

def laysItoa_ren : Go.Shelf.Ren := ⟨fun | 171 => 38 | 243 => 65 | 246 => 96 | 283 => 111 | 284 => 112 | 285 => 113 | 286 => 114 | 129 => 131 | 317 => 130 | 318 => 132 | 319 => 133 | 320 => 134 | 337 => 141 | 338 => 142 | n => n, fun | 3 => 3 | 9 => 9 | 2 => 2 | 4 => 4 | 171 => 154 | 0 => 0 | 53 => 155 | 37 => 101 | 5 => 5 | 173 => 158 | 212 => 169 | 51 => 170 | 20 => 20 | 213 => 171 | 46 => 172 | 232 => 180 | 233 => 181 | n => n, fun | 17 => 1 | 18 => 2 | 19 => 3 | n => n⟩
theorem laysItoa : Go.Proofs.LaysM.n171 Tryd.prog laysItoa_ren where
  mixed := by kernel_rfl
  f129 := Tryd.func131.trans (congrArg some (by kernel_rfl))
  f171 := Tryd.func38.trans (congrArg some (by kernel_rfl))
  f243 := Tryd.func65.trans (congrArg some (by kernel_rfl))
  f246 := Tryd.func96.trans (congrArg some (by kernel_rfl))
  f283 := Tryd.func111.trans (congrArg some (by kernel_rfl))
  f284 := Tryd.func112.trans (congrArg some (by kernel_rfl))
  f285 := Tryd.func113.trans (congrArg some (by kernel_rfl))
  f286 := Tryd.func114.trans (congrArg some (by kernel_rfl))
  f317 := Tryd.func130.trans (congrArg some (by kernel_rfl))
  f318 := Tryd.func132.trans (congrArg some (by kernel_rfl))
  f319 := Tryd.func133.trans (congrArg some (by kernel_rfl))
  f320 := Tryd.func134.trans (congrArg some (by kernel_rfl))
  f337 := Tryd.func141.trans (congrArg some (by kernel_rfl))
  f338 := Tryd.func142.trans (congrArg some (by kernel_rfl))
  t0 := Tryd.underlying0
  a0 := Tryd.isAgg0
  z0 := Tryd.sizeOf0
  v0 := Tryd.zeroValue0
  t2 := Tryd.underlying2
  a2 := Tryd.isAgg2
  z2 := Tryd.sizeOf2
  v2 := Tryd.zeroValue2
  t3 := Tryd.underlying3
  a3 := Tryd.isAgg3
  z3 := Tryd.sizeOf3
  v3 := Tryd.zeroValue3
  t4 := Tryd.underlying4
  a4 := Tryd.isAgg4
  z4 := Tryd.sizeOf4
  v4 := Tryd.zeroValue4
  t5 := Tryd.underlying5
  a5 := Tryd.isAgg5
  z5 := Tryd.sizeOf5
  v5 := Tryd.zeroValue5
  t9 := Tryd.underlying9
  a9 := Tryd.isAgg9
  z9 := Tryd.sizeOf9
  v9 := Tryd.zeroValue9
  t20 := Tryd.underlying20
  a20 := Tryd.isAgg20
  z20 := Tryd.sizeOf20
  v20 := Tryd.zeroValue20
  t37 := Tryd.underlying101
  a37 := Tryd.isAgg101
  z37 := Tryd.sizeOf101
  v37 := Tryd.zeroValue101
  t46 := Tryd.underlying172
  a46 := Tryd.isAgg172
  z46 := Tryd.sizeOf172
  v46 := Tryd.zeroValue172
  t51 := Tryd.underlying170
  a51 := Tryd.isAgg170
  z51 := Tryd.sizeOf170
  v51 := Tryd.zeroValue170
  t53 := Tryd.underlying155
  a53 := Tryd.isAgg155
  z53 := Tryd.sizeOf155
  v53 := Tryd.zeroValue155
  t171 := Tryd.underlying154
  a171 := Tryd.isAgg154
  z171 := Tryd.sizeOf154
  v171 := Tryd.zeroValue154
  t173 := Tryd.underlying158
  a173 := Tryd.isAgg158
  z173 := Tryd.sizeOf158
  v173 := Tryd.zeroValue158
  t212 := Tryd.underlying169
  a212 := Tryd.isAgg169
  z212 := Tryd.sizeOf169
  v212 := Tryd.zeroValue169
  t213 := Tryd.underlying171
  a213 := Tryd.isAgg171
  z213 := Tryd.sizeOf171
  t232 := Tryd.underlying180
  a232 := Tryd.isAgg180
  z232 := Tryd.sizeOf180
  v232 := Tryd.zeroValue180
  t233 := Tryd.underlying181
  a233 := Tryd.isAgg181
  z233 := Tryd.sizeOf181
  v233 := Tryd.zeroValue181
  g17 := by kernel_rfl
  g18 := by kernel_rfl
  g19 := by kernel_rfl
  i0 := by kernel_rfl
  i2 := by kernel_rfl
  i3 := by kernel_rfl
  i4 := by kernel_rfl
  i5 := by kernel_rfl
  i9 := by kernel_rfl
  i20 := by kernel_rfl
  i37 := by kernel_rfl
  i46 := by kernel_rfl
  i51 := by kernel_rfl
  i53 := by kernel_rfl
  i171 := by kernel_rfl
  i173 := by kernel_rfl
  i212 := by kernel_rfl
  i232 := by kernel_rfl
  i233 := by kernel_rfl
  m17 := by kernel_rfl
  m18 := by kernel_rfl
  m19 := by kernel_rfl
def laysJoin_ren : Go.Shelf.Ren := ⟨fun | 156 => 32 | 165 => 62 | 166 => 63 | 169 => 64 | 240 => 94 | 241 => 95 | 276 => 109 | 277 => 110 | n => n, fun | 31 => 54 | 9 => 9 | 3 => 3 | 4 => 4 | 0 => 0 | 20 => 20 | 72 => 106 | 76 => 110 | 70 => 104 | 37 => 101 | 75 => 109 | 127 => 141 | 164 => 151 | 5 => 5 | 80 => 112 | n => n, fun | n => n⟩
theorem laysJoin : Go.Proofs.Lays.n156 Tryd.prog laysJoin_ren where
  mixed := by kernel_rfl
  f156 := Tryd.func32.trans (congrArg some (by kernel_rfl))
  f165 := Tryd.func62.trans (congrArg some (by kernel_rfl))
  f166 := Tryd.func63.trans (congrArg some (by kernel_rfl))
  f169 := Tryd.func64.trans (congrArg some (by kernel_rfl))
  f240 := Tryd.func94.trans (congrArg some (by kernel_rfl))
  f241 := Tryd.func95.trans (congrArg some (by kernel_rfl))
  f276 := Tryd.func109.trans (congrArg some (by kernel_rfl))
  f277 := Tryd.func110.trans (congrArg some (by kernel_rfl))
  t0 := Tryd.underlying0
  a0 := Tryd.isAgg0
  z0 := Tryd.sizeOf0
  v0 := Tryd.zeroValue0
  t3 := Tryd.underlying3
  a3 := Tryd.isAgg3
  z3 := Tryd.sizeOf3
  v3 := Tryd.zeroValue3
  t4 := Tryd.underlying4
  a4 := Tryd.isAgg4
  z4 := Tryd.sizeOf4
  v4 := Tryd.zeroValue4
  t9 := Tryd.underlying9
  a9 := Tryd.isAgg9
  z9 := Tryd.sizeOf9
  v9 := Tryd.zeroValue9
  t20 := Tryd.underlying20
  a20 := Tryd.isAgg20
  z20 := Tryd.sizeOf20
  v20 := Tryd.zeroValue20
  t31 := Tryd.underlying54
  a31 := Tryd.isAgg54
  z31 := Tryd.sizeOf54
  v31 := Tryd.zeroValue54
  t37 := Tryd.underlying101
  a37 := Tryd.isAgg101
  z37 := Tryd.sizeOf101
  v37 := Tryd.zeroValue101
  t70 := Tryd.underlying104
  a70 := Tryd.isAgg104
  z70 := Tryd.sizeOf104
  v70 := Tryd.zeroValue104
  t72 := Tryd.underlying106
  a72 := Tryd.isAgg106
  z72 := Tryd.sizeOf106
  v72 := Tryd.zeroValue106
  t75 := Tryd.underlying109
  a75 := Tryd.isAgg109
  z75 := Tryd.sizeOf109
  v75 := Tryd.zeroValue109
  t76 := Tryd.underlying110
  a76 := Tryd.isAgg110
  z76 := Tryd.sizeOf110
  v76 := Tryd.zeroValue110
  t127 := Tryd.underlying141
  a127 := Tryd.isAgg141
  z127 := Tryd.sizeOf141
  v127 := Tryd.zeroValue141
  t164 := Tryd.underlying151
  a164 := Tryd.isAgg151
  z164 := Tryd.sizeOf151
  v164 := Tryd.zeroValue151

theorem laysJoin_extra : Builder.Extra Tryd.prog laysJoin_ren where
  sizeBuilder := by kernel_rfl
  liesBuilder := by kernel_rfl
  t5 := Tryd.underlying5
  a5 := Tryd.isAgg5
  z5 := Tryd.sizeOf5
  v5 := Tryd.zeroValue5
  infoByte := by kernel_rfl
  cellsByte := by kernel_rfl
  sizeByte := by kernel_rfl
  neB5 := by decide

/-- The table that strconv reads. -/
def tabOk (w : World) : Prop := Lib.TabIs Tryd.prog w "internal/strconv.uint64pow10" .u64 Lib.pow10Tab
instance globOk : Glob where
  ids := fun x => Tryd.prog.globalNamed "internal/strconv.uint64pow10" = some x
  ok := tabOk
  keep := by
    intro w w' hk h
    unfold tabOk Lib.TabIs World.var? at h ⊢
    cases hg : Tryd.prog.globalNamed "internal/strconv.uint64pow10" with
    | none => rw [hg] at h; simp at h
    | some g =>
      rw [hg] at h
      simp only [Option.bind_some] at h ⊢
      rw [hk g hg]
      exact h
theorem glob_lt {w : World} (h : tabOk w) : ∀ x, Glob.ids x → x < w.heap.size := by
  intro x hx
  have hx : Tryd.prog.globalNamed "internal/strconv.uint64pow10" = some x := hx
  unfold tabOk Lib.TabIs World.var? at h
  rw [hx] at h
  simp only [Option.bind_some] at h
  rcases Nat.lt_or_ge x w.heap.size with h' | h'
  · exact h'
  · rw [Array.getElem?_eq_none h'] at h; cases h
theorem below_grow (w : World) (q : Nat) (os : Array Obj) : RowKit.Below w.heap.size w (grow (w.drewN q) os) :=
  ⟨rfl, rfl, rfl, by simp [grow, World.drewN], fun k hk => by simp [grow, World.drewN, Array.getElem?_append, hk]⟩

/-- strconv.Itoa. -/
def xItoa (args : List AVal) (pbs : List PB) : Option Ret :=
  match args, pbs with
  | [.v (.int .i64 n)], [] => br (decide (-9223372036854775808 ≤ n) && decide (n ≤ 9223372036854775807)) (some (.str (Lib.itoa n), [])) none
  | _, _ => none
theorem xItoa_ok {args : List AVal} {pbs : List PB} {ret : Ret} (h : xItoa args pbs = some ret) : FnOk Tryd.prog none 38 args pbs ret := by
  unfold xItoa at h
  split at h
  · rename_i n
    obtain ⟨hn, h⟩ := br_none h
    simp only [Bool.and_eq_true, decide_eq_true_eq] at hn
    cases h
    refine FnOk.ofCalls (cs := [.int .i64 n]) Tryd.func38 (by kernel_rfl) rfl ?_
    intro N w vs hN hid hok hcs
    obtain ⟨u, us, rfl, hu, _, hus⟩ := hcs
    have hus : us = [] := hus
    subst hus
    have hu : u = .int .i64 n := hu
    subst hu
    refine (Any.strconv_Itoa laysItoa n hn.1 hn.2 w hok).mono ?_
    rintro e w' ⟨rfl, k, os, rfl⟩
    exact ⟨_, rfl, rfl, below_grow w k os⟩
  · cases h

/-- Texts. -/
def strsOf : List CVal → Option (List (List UInt8))
  | [] => some []
  | .str s :: r => (strsOf r).bind fun l => some (s :: l)
  | _ :: _ => none
theorem strsOf_map (l : List (List UInt8)) : strsOf (l.map .str) = some l := by
  induction l with
  | nil => rfl
  | cons s r ih => simp [strsOf, ih]
theorem strsOf_some : ∀ {xs : List CVal} {l : List (List UInt8)}, strsOf xs = some l → xs = l.map .str
  | [], l, h => by cases h; rfl
  | .str s :: r, l, h => by
    simp only [strsOf] at h
    cases hr : strsOf r with
    | none => rw [hr] at h; cases h
    | some l' => rw [hr] at h; cases h; rw [strsOf_some hr]; rfl
  | .bool _ :: _, l, h => by cases h
  | .int _ _ :: _, l, h => by cases h
  | .sl _ :: _, l, h => by cases h
  | .agg _ :: _, l, h => by cases h
  | .fp _ _ :: _, l, h => by cases h
  | .func _ _ :: _, l, h => by cases h
  | .nilp :: _, l, h => by cases h
  | .nilf :: _, l, h => by cases h
  | .nili :: _, l, h => by cases h
  | .iface _ _ :: _, l, h => by cases h
  | .tup _ :: _, l, h => by cases h
theorem el_strs {N : Nat → Prop} {w : World} {b sz : Nat} : ∀ {l : List (List UInt8)} {o : Nat}, ElRel N w sz b o (l.map .str) →
    ∀ (j : Nat) (x : ByteArray), (l.map fun s => (⟨s.toArray⟩ : ByteArray))[j]? = some x → w.cell? ⟨b, o + j, none⟩ = some (.string x)
  | [], o, _, j, x, hj => by simp at hj
  | s :: r, o, h, j, x, hj => by
    obtain ⟨⟨u, _, hu, hz, hc⟩, h⟩ := h
    have hu : u = .string ⟨s.toArray⟩ := hu
    subst hu
    have h1 : sz = 1 := hz.symm
    subst h1
    cases j with
    | zero =>
      simp at hj
      subst hj
      have := hc 0 (by omega)
      simpa [pl, Value.cells] using this
    | succ j =>
      have := el_strs h j x (by simpa using hj)
      rw [show o + (j + 1) = o + 1 + j by omega]
      exact this

/-- strings.Join. -/
def xJoin (args : List AVal) (pbs : List PB) : Option Ret :=
  match args, pbs with
  | [.v (.sl xs), .v (.str sep)], [] => (strsOf xs).bind fun l =>
      br (decide (l.length ≤ 140737488355328) && decide ((Lib.join l sep).length ≤ 140737488355328)) (some (.str (Lib.join l sep), [])) none
  | _, _ => none
theorem xJoin_ok {args : List AVal} {pbs : List PB} {ret : Ret} (h : xJoin args pbs = some ret) : FnOk Tryd.prog none 32 args pbs ret := by
  unfold xJoin at h
  split at h
  · rename_i xs sep
    cases hl : strsOf xs with
    | none => rw [hl] at h; cases h
    | some l =>
      rw [hl] at h
      obtain ⟨hn, h⟩ := br_none h
      simp only [Bool.and_eq_true, decide_eq_true_eq] at hn
      cases h
      have := strsOf_some hl
      subst this
      refine FnOk.ofCalls (cs := [.sl (l.map .str), .str sep]) Tryd.func32 (by kernel_rfl) rfl ?_
      intro N w vs hN hid hok hcs
      obtain ⟨u, us, rfl, hu, _, u2, us2, rfl, hu2, _, hus⟩ := hcs
      have hus : us2 = [] := hus
      subst hus
      have hu2 : u2 = .string ⟨sep.toArray⟩ := hu2
      subst hu2
      obtain ⟨base, cap, rfl, hcap, hb⟩ := hu
      have hmap : (l.map fun s => (⟨s.toArray⟩ : ByteArray)).map (·.data.toList) = l := by
        rw [List.map_map]
        have : ((·.data.toList) ∘ fun s : List UInt8 => (⟨s.toArray⟩ : ByteArray)) = id := by funext s; simp
        rw [this, List.map_id]
      rcases hb with hb | ⟨b, o, sz, rfl, _, hbs, he⟩
      · have hl0 : l = [] := by simpa using hb
        subst hl0
        refine (Any.strings_Join_none laysJoin laysJoin_extra base cap ⟨sep.toArray⟩ w).mono ?_
        rintro e w' ⟨rfl, rfl⟩
        exact ⟨_, rfl, rfl, .refl _ _⟩
      · have hj := Any.strings_Join laysJoin laysJoin_extra b o cap (l.map fun s => (⟨s.toArray⟩ : ByteArray)) ⟨sep.toArray⟩ w (el_strs he) hbs (by simpa using hn.1) (by simpa using hcap) (by rw [hmap]; exact hn.2)
        rw [hmap] at hj
        simp only [List.length_map] at hj ⊢
        refine hj.mono ?_
        rintro e w' ⟨rfl, hbel⟩
        exact ⟨_, rfl, rfl, hbel⟩
  · cases h
end Go.Proofs.YtomkegeojknihaaDoor.Abs

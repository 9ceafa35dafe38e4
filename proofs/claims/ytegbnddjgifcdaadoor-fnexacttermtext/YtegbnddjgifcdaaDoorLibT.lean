/- The library's functions that are not entered: the shelf's contracts at this program, as laws of the abstract machine; and what is known of package variables. -/
import Derived.Test.YtegbnddjgifcdaaDoorOmega
import Derived.Test.YtegbnddjgifcdaaDoorProg
import Derived.KernelRfl
import Derived.Shelf.Strconv.Itoa3
import Derived.Shelf.LaysM
import Derived.Shelf.Strings.OnBuilder
import Derived.Shelf.Strings.Split
import Derived.Shelf.Vars
set_option linter.unusedVariables false
set_option linter.unusedSectionVars false
set_option maxRecDepth 100000
namespace Go.Proofs.YtegbnddjgifcdaaDoor.Abs
open Go Go.Proofs Go.Shelf Go.Sort

def laysItoa_ren : Go.Shelf.Ren := ⟨fun | 171 => 65 | 243 => 83 | 246 => 98 | 283 => 112 | 284 => 113 | 285 => 114 | 286 => 115 | 129 => 122 | 317 => 121 | 318 => 123 | 319 => 124 | 320 => 125 | 337 => 126 | 338 => 127 | n => n, fun | 3 => 3 | 9 => 9 | 2 => 2 | 4 => 4 | 171 => 133 | 0 => 0 | 53 => 134 | 37 => 30 | 5 => 5 | 173 => 137 | 212 => 147 | 51 => 143 | 20 => 20 | 213 => 148 | 46 => 132 | 232 => 151 | 233 => 152 | n => n, fun | 17 => 3 | 18 => 4 | 19 => 5 | n => n⟩
theorem laysItoa : Go.Proofs.LaysM.n171 Tryd.prog laysItoa_ren where
  mixed := by kernel_rfl
  f129 := Tryd.func122.trans (congrArg some (by kernel_rfl))
  f171 := Tryd.func65.trans (congrArg some (by kernel_rfl))
  f243 := Tryd.func83.trans (congrArg some (by kernel_rfl))
  f246 := Tryd.func98.trans (congrArg some (by kernel_rfl))
  f283 := Tryd.func112.trans (congrArg some (by kernel_rfl))
  f284 := Tryd.func113.trans (congrArg some (by kernel_rfl))
  f285 := Tryd.func114.trans (congrArg some (by kernel_rfl))
  f286 := Tryd.func115.trans (congrArg some (by kernel_rfl))
  f317 := Tryd.func121.trans (congrArg some (by kernel_rfl))
  f318 := Tryd.func123.trans (congrArg some (by kernel_rfl))
  f319 := Tryd.func124.trans (congrArg some (by kernel_rfl))
  f320 := Tryd.func125.trans (congrArg some (by kernel_rfl))
  f337 := Tryd.func126.trans (congrArg some (by kernel_rfl))
  f338 := Tryd.func127.trans (congrArg some (by kernel_rfl))
  t0 := Tryd.underlying0
  a0 := Tryd.isAgg0
  z0 := Tryd.sizeOf0
  v0 := Tryd.zeroValue0
  t2 := Tryd.underlying2
  a2 := Tryd.isAgg2
  z2 := Tryd.sizeOf2
  v2 := Tryd.zeroValue2
  t3 := Tryd.underlying3
  a3 := Tryd.isAgg3
  z3 := Tryd.sizeOf3
  v3 := Tryd.zeroValue3
  t4 := Tryd.underlying4
  a4 := Tryd.isAgg4
  z4 := Tryd.sizeOf4
  v4 := Tryd.zeroValue4
  t5 := Tryd.underlying5
  a5 := Tryd.isAgg5
  z5 := Tryd.sizeOf5
  v5 := Tryd.zeroValue5
  t9 := Tryd.underlying9
  a9 := Tryd.isAgg9
  z9 := Tryd.sizeOf9
  v9 := Tryd.zeroValue9
  t20 := Tryd.underlying20
  a20 := Tryd.isAgg20
  z20 := Tryd.sizeOf20
  v20 := Tryd.zeroValue20
  t37 := Tryd.underlying30
  a37 := Tryd.isAgg30
  z37 := Tryd.sizeOf30
  v37 := Tryd.zeroValue30
  t46 := Tryd.underlying132
  a46 := Tryd.isAgg132
  z46 := Tryd.sizeOf132
  v46 := Tryd.zeroValue132
  t51 := Tryd.underlying143
  a51 := Tryd.isAgg143
  z51 := Tryd.sizeOf143
  v51 := Tryd.zeroValue143
  t53 := Tryd.underlying134
  a53 := Tryd.isAgg134
  z53 := Tryd.sizeOf134
  v53 := Tryd.zeroValue134
  t171 := Tryd.underlying133
  a171 := Tryd.isAgg133
  z171 := Tryd.sizeOf133
  v171 := Tryd.zeroValue133
  t173 := Tryd.underlying137
  a173 := Tryd.isAgg137
  z173 := Tryd.sizeOf137
  v173 := Tryd.zeroValue137
  t212 := Tryd.underlying147
  a212 := Tryd.isAgg147
  z212 := Tryd.sizeOf147
  v212 := Tryd.zeroValue147
  t213 := Tryd.underlying148
  a213 := Tryd.isAgg148
  z213 := Tryd.sizeOf148
  t232 := Tryd.underlying151
  a232 := Tryd.isAgg151
  z232 := Tryd.sizeOf151
  v232 := Tryd.zeroValue151
  t233 := Tryd.underlying152
  a233 := Tryd.isAgg152
  z233 := Tryd.sizeOf152
  v233 := Tryd.zeroValue152
  g17 := by kernel_rfl
  g18 := by kernel_rfl
  g19 := by kernel_rfl
  i0 := by kernel_rfl
  i2 := by kernel_rfl
  i3 := by kernel_rfl
  i4 := by kernel_rfl
  i5 := by kernel_rfl
  i9 := by kernel_rfl
  i20 := by kernel_rfl
  i37 := by kernel_rfl
  i46 := by kernel_rfl
  i51 := by kernel_rfl
  i53 := by kernel_rfl
  i171 := by kernel_rfl
  i173 := by kernel_rfl
  i212 := by kernel_rfl
  i232 := by kernel_rfl
  i233 := by kernel_rfl
  m17 := by kernel_rfl
  m18 := by kernel_rfl
  m19 := by kernel_rfl
def laysJoin_ren : Go.Shelf.Ren := ⟨fun | 156 => 34 | 165 => 62 | 166 => 63 | 169 => 64 | 240 => 81 | 241 => 82 | 276 => 96 | 277 => 97 | n => n, fun | 31 => 51 | 9 => 9 | 3 => 3 | 4 => 4 | 0 => 0 | 20 => 20 | 72 => 95 | 76 => 99 | 70 => 93 | 37 => 30 | 75 => 98 | 127 => 113 | 164 => 122 | 5 => 5 | 80 => 86 | n => n, fun | n => n⟩
theorem laysJoin : Go.Proofs.Lays.n156 Tryd.prog laysJoin_ren where
  mixed := by kernel_rfl
  f156 := Tryd.func34.trans (congrArg some (by kernel_rfl))
  f165 := Tryd.func62.trans (congrArg some (by kernel_rfl))
  f166 := Tryd.func63.trans (congrArg some (by kernel_rfl))
  f169 := Tryd.func64.trans (congrArg some (by kernel_rfl))
  f240 := Tryd.func81.trans (congrArg some (by kernel_rfl))
  f241 := Tryd.func82.trans (congrArg some (by kernel_rfl))
  f276 := Tryd.func96.trans (congrArg some (by kernel_rfl))
  f277 := Tryd.func97.trans (congrArg some (by kernel_rfl))
  t0 := Tryd.underlying0
  a0 := Tryd.isAgg0
  z0 := Tryd.sizeOf0
  v0 := Tryd.zeroValue0
  t3 := Tryd.underlying3
  a3 := Tryd.isAgg3
  z3 := Tryd.sizeOf3
  v3 := Tryd.zeroValue3
  t4 := Tryd.underlying4
  a4 := Tryd.isAgg4
  z4 := Tryd.sizeOf4
  v4 := Tryd.zeroValue4
  t9 := Tryd.underlying9
  a9 := Tryd.isAgg9
  z9 := Tryd.sizeOf9
  v9 := Tryd.zeroValue9
  t20 := Tryd.underlying20
  a20 := Tryd.isAgg20
  z20 := Tryd.sizeOf20
  v20 := Tryd.zeroValue20
  t31 := Tryd.underlying51
  a31 := Tryd.isAgg51
  z31 := Tryd.sizeOf51
  v31 := Tryd.zeroValue51
  t37 := Tryd.underlying30
  a37 := Tryd.isAgg30
  z37 := Tryd.sizeOf30
  v37 := Tryd.zeroValue30
  t70 := Tryd.underlying93
  a70 := Tryd.isAgg93
  z70 := Tryd.sizeOf93
  v70 := Tryd.zeroValue93
  t72 := Tryd.underlying95
  a72 := Tryd.isAgg95
  z72 := Tryd.sizeOf95
  v72 := Tryd.zeroValue95
  t75 := Tryd.underlying98
  a75 := Tryd.isAgg98
  z75 := Tryd.sizeOf98
  v75 := Tryd.zeroValue98
  t76 := Tryd.underlying99
  a76 := Tryd.isAgg99
  z76 := Tryd.sizeOf99
  v76 := Tryd.zeroValue99
  t127 := Tryd.underlying113
  a127 := Tryd.isAgg113
  z127 := Tryd.sizeOf113
  v127 := Tryd.zeroValue113
  t164 := Tryd.underlying122
  a164 := Tryd.isAgg122
  z164 := Tryd.sizeOf122
  v164 := Tryd.zeroValue122
theorem laysJoin_extra : Builder.Extra Tryd.prog laysJoin_ren where
  sizeBuilder := by kernel_rfl
  liesBuilder := by kernel_rfl
  t5 := Tryd.underlying5
  a5 := Tryd.isAgg5
  z5 := Tryd.sizeOf5
  v5 := Tryd.zeroValue5
  infoByte := by kernel_rfl
  cellsByte := by kernel_rfl
  sizeByte := by kernel_rfl
  neB5 := by decide

def laysSplit_ren : Go.Shelf.Ren := ⟨fun | 146 => 27 | 221 => 55 | 268 => 75 | 138 => 76 | 143 => 77 | 195 => 91 | 197 => 92 | 218 => 93 | 219 => 94 | 260 => 107 | 217 => 108 | 225 => 109 | 224 => 110 | 267 => 111 | 266 => 119 | 314 => 120 | n => n, fun | 9 => 9 | 31 => 51 | 3 => 3 | 4 => 4 | 0 => 0 | 105 => 118 | 21 => 21 | 5 => 5 | 46 => 132 | 119 => 139 | 139 => 142 | 138 => 141 | 146 => 144 | 51 => 143 | n => n, fun | 1 => 0 | 3 => 1 | 4 => 2 | n => n⟩
theorem laysSplit : Go.Proofs.Lays.n146 Tryd.prog laysSplit_ren where
  mixed := by kernel_rfl
  f138 := Tryd.func76.trans (congrArg some (by kernel_rfl))
  f143 := Tryd.func77.trans (congrArg some (by kernel_rfl))
  f146 := Tryd.func27.trans (congrArg some (by kernel_rfl))
  f195 := Tryd.func91.trans (congrArg some (by kernel_rfl))
  f197 := Tryd.func92.trans (congrArg some (by kernel_rfl))
  f217 := Tryd.func108.trans (congrArg some (by kernel_rfl))
  f218 := Tryd.func93.trans (congrArg some (by kernel_rfl))
  f219 := Tryd.func94.trans (congrArg some (by kernel_rfl))
  f221 := Tryd.func55.trans (congrArg some (by kernel_rfl))
  f224 := Tryd.func110.trans (congrArg some (by kernel_rfl))
  f225 := Tryd.func109.trans (congrArg some (by kernel_rfl))
  f260 := Tryd.func107.trans (congrArg some (by kernel_rfl))
  f266 := Tryd.func119.trans (congrArg some (by kernel_rfl))
  f267 := Tryd.func111.trans (congrArg some (by kernel_rfl))
  f268 := Tryd.func75.trans (congrArg some (by kernel_rfl))
  f314 := Tryd.func120.trans (congrArg some (by kernel_rfl))
  t0 := Tryd.underlying0
  a0 := Tryd.isAgg0
  z0 := Tryd.sizeOf0
  v0 := Tryd.zeroValue0
  t3 := Tryd.underlying3
  a3 := Tryd.isAgg3
  z3 := Tryd.sizeOf3
  v3 := Tryd.zeroValue3
  t4 := Tryd.underlying4
  a4 := Tryd.isAgg4
  z4 := Tryd.sizeOf4
  v4 := Tryd.zeroValue4
  t5 := Tryd.underlying5
  a5 := Tryd.isAgg5
  z5 := Tryd.sizeOf5
  v5 := Tryd.zeroValue5
  t9 := Tryd.underlying9
  a9 := Tryd.isAgg9
  z9 := Tryd.sizeOf9
  v9 := Tryd.zeroValue9
  t21 := Tryd.underlying21
  a21 := Tryd.isAgg21
  z21 := Tryd.sizeOf21
  v21 := Tryd.zeroValue21
  t31 := Tryd.underlying51
  a31 := Tryd.isAgg51
  z31 := Tryd.sizeOf51
  v31 := Tryd.zeroValue51
  t46 := Tryd.underlying132
  a46 := Tryd.isAgg132
  z46 := Tryd.sizeOf132
  v46 := Tryd.zeroValue132
  t51 := Tryd.underlying143
  a51 := Tryd.isAgg143
  z51 := Tryd.sizeOf143
  v51 := Tryd.zeroValue143
  t105 := Tryd.underlying118
  a105 := Tryd.isAgg118
  z105 := Tryd.sizeOf118
  v105 := Tryd.zeroValue118
  t119 := Tryd.underlying139
  a119 := Tryd.isAgg139
  z119 := Tryd.sizeOf139
  t138 := Tryd.underlying141
  a138 := Tryd.isAgg141
  z138 := Tryd.sizeOf141
  v138 := Tryd.zeroValue141
  t139 := Tryd.underlying142
  a139 := Tryd.isAgg142
  z139 := Tryd.sizeOf142
  v139 := Tryd.zeroValue142
  t146 := Tryd.underlying144
  a146 := Tryd.isAgg144
  z146 := Tryd.sizeOf144
  v146 := Tryd.zeroValue144
  g1 := by kernel_rfl
  g3 := by kernel_rfl
  g4 := by kernel_rfl
/-- The table that strconv reads. -/
def tabOk (w : World) : Prop := Lib.TabIs Tryd.prog w "internal/strconv.uint64pow10" .u64 Lib.pow10Tab
theorem tab_keep {w w' : World} (hk : ∀ x, Tryd.prog.globalNamed "internal/strconv.uint64pow10" = some x → w'.heap[x]? = w.heap[x]?) (h : tabOk w) : tabOk w' := by
  unfold tabOk Lib.TabIs World.var? at h ⊢
  cases hg : Tryd.prog.globalNamed "internal/strconv.uint64pow10" with
  | none => rw [hg] at h; simp at h
  | some g =>
    rw [hg] at h
    simp only [Option.bind_some] at h ⊢
    rw [hk g hg]
    exact h
theorem tab_lt {w : World} (h : tabOk w) : ∀ x, Tryd.prog.globalNamed "internal/strconv.uint64pow10" = some x → x < w.heap.size := by
  intro x hx
  unfold tabOk Lib.TabIs World.var? at h
  rw [hx] at h
  simp only [Option.bind_some] at h
  rcases Nat.lt_or_ge x w.heap.size with h' | h'
  · exact h'
  · rw [Array.getElem?_eq_none h'] at h; cases h
/-- internal/bytealg.MaxLen holds a number. -/
def maxOk (w : World) : Prop := ∃ m, w.cell? ⟨0, 0, none⟩ = some (.int .i64 m)
theorem max_keep {w w' : World} (hk : w'.heap[0]? = w.heap[0]?) (h : maxOk w) : maxOk w' := by
  obtain ⟨m, hm⟩ := h
  refine ⟨m, ?_⟩
  unfold World.cell? at hm ⊢
  rw [hk]
  exact hm
theorem max_lt {w : World} (h : maxOk w) : 0 < w.heap.size := by
  obtain ⟨m, hm⟩ := h
  exact World.block_lt_of_cell? _ _ hm
theorem max_of_shape {w : World} (h : w.ShapedOpen Tryd.prog) : maxOk w :=
  cell_of_shapedOpen_int (zero := #[.int .i64 0]) (t := 3) h (of_decide_eq_true (by kernel_rfl)) (by kernel_rfl) rfl (by kernel_rfl) (by kernel_rfl) Tryd.underlying3

instance globOk : Glob where
  ids := fun x => Tryd.prog.globalNamed "internal/strconv.uint64pow10" = some x ∨ x = 0
  ok := fun w => tabOk w ∧ maxOk w
  keep := fun hk h => ⟨tab_keep (fun x hx => hk x (.inl hx)) h.1, max_keep (hk _ (.inr rfl)) h.2⟩
theorem glob_lt {w : World} (h : Glob.ok w) : ∀ x, Glob.ids x → x < w.heap.size := by
  intro x hx
  rcases hx with hx | rfl
  · exact tab_lt h.1 x hx
  · exact max_lt h.2
theorem below_grow (w : World) (q : Nat) (os : Array Obj) : RowKit.Below w.heap.size w (grow (w.drewN q) os) :=
  ⟨rfl, rfl, rfl, by simp [grow, World.drewN], fun k hk => by simp [grow, World.drewN, Array.getElem?_append, hk]⟩

/-- strconv.Itoa. -/
def xItoa (args : List AVal) (pbs : List PB) : Option Ret :=
  match args, pbs with
  | [.v (.int .i64 n)], [] => br (decide (-9223372036854775808 ≤ n) && decide (n ≤ 9223372036854775807)) (some (.str (Lib.itoa n), [])) none
  | _, _ => none
theorem xItoa_ok {args : List AVal} {pbs : List PB} {ret : Ret} (h : xItoa args pbs = some ret) : FnOk Tryd.prog none none 65 args pbs ret := by
  unfold xItoa at h
  split at h
  · rename_i n
    obtain ⟨hn, h⟩ := br_none h
    simp only [Bool.and_eq_true, decide_eq_true_eq] at hn
    cases h
    refine FnOk.ofCalls (cs := [.int .i64 n]) Tryd.func65 (by kernel_rfl) rfl ?_
    intro N w vs hN hid hok hcs
    obtain ⟨u, us, rfl, hu, _, hus⟩ := hcs
    have hus : us = [] := hus
    subst hus
    have hu : u = .int .i64 n := hu
    subst hu
    refine (Any.strconv_Itoa laysItoa n hn.1 hn.2 w hok.1).mono ?_
    rintro e w' ⟨rfl, k, os, rfl⟩
    exact ⟨_, rfl, rfl, below_grow w k os⟩
  · cases h

/-- Texts. -/
def strsOf : List CVal → Option (List (List UInt8))
  | [] => some []
  | .str s :: r => (strsOf r).bind fun l => some (s :: l)
  | _ :: _ => none
theorem strsOf_map (l : List (List UInt8)) : strsOf (l.map .str) = some l := by
  induction l with
  | nil => rfl
  | cons s r ih => simp [strsOf, ih]
theorem strsOf_some : ∀ {xs : List CVal} {l : List (List UInt8)}, strsOf xs = some l → xs = l.map .str
  | [], l, h => by cases h; rfl
  | .str s :: r, l, h => by
    simp only [strsOf] at h
    cases hr : strsOf r with
    | none => rw [hr] at h; cases h
    | some l' => rw [hr] at h; cases h; rw [strsOf_some hr]; rfl
  | .bool _ :: _, l, h => by cases h
  | .int _ _ :: _, l, h => by cases h
  | .sl _ :: _, l, h => by cases h
  | .agg _ :: _, l, h => by cases h
  | .fp _ _ :: _, l, h => by cases h
  | .func _ _ :: _, l, h => by cases h
  | .nilp :: _, l, h => by cases h
  | .nilf :: _, l, h => by cases h
  | .nili :: _, l, h => by cases h
  | .iface _ _ :: _, l, h => by cases h
  | .tup _ :: _, l, h => by cases h
theorem el_strs {N : Nat → Prop} {w : World} {b sz : Nat} : ∀ {l : List (List UInt8)} {o : Nat}, ElRel N w sz b o (l.map .str) →
    ∀ (j : Nat) (x : ByteArray), (l.map fun s => (⟨s.toArray⟩ : ByteArray))[j]? = some x → w.cell? ⟨b, o + j, none⟩ = some (.string x)
  | [], o, _, j, x, hj => by simp at hj
  | s :: r, o, h, j, x, hj => by
    obtain ⟨⟨u, _, hu, hz, hc⟩, h⟩ := h
    have hu : u = .string ⟨s.toArray⟩ := hu
    subst hu
    have h1 : sz = 1 := hz.symm
    subst h1
    cases j with
    | zero =>
      simp at hj
      subst hj
      have := hc 0 (by omega)
      simpa [pl, Value.cells] using this
    | succ j =>
      have := el_strs h j x (by simpa using hj)
      rw [show o + (j + 1) = o + 1 + j by omega]
      exact this

/-- strings.Join. -/
def xJoin (args : List AVal) (pbs : List PB) : Option Ret :=
  match args, pbs with
  | [.v (.sl xs), .v (.str sep)], [] => (strsOf xs).bind fun l =>
      br (decide (l.length ≤ 140737488355328) && decide ((Lib.join l sep).length ≤ 140737488355328)) (some (.str (Lib.join l sep), [])) none
  | _, _ => none
theorem xJoin_ok {args : List AVal} {pbs : List PB} {ret : Ret} (h : xJoin args pbs = some ret) : FnOk Tryd.prog none none 34 args pbs ret := by
  unfold xJoin at h
  split at h
  · rename_i xs sep
    cases hl : strsOf xs with
    | none => rw [hl] at h; cases h
    | some l =>
      rw [hl] at h
      obtain ⟨hn, h⟩ := br_none h
      simp only [Bool.and_eq_true, decide_eq_true_eq] at hn
      cases h
      have := strsOf_some hl
      subst this
      refine FnOk.ofCalls (cs := [.sl (l.map .str), .str sep]) Tryd.func34 (by kernel_rfl) rfl ?_
      intro N w vs hN hid hok hcs
      obtain ⟨u, us, rfl, hu, _, u2, us2, rfl, hu2, _, hus⟩ := hcs
      have hus : us2 = [] := hus
      subst hus
      have hu2 : u2 = .string ⟨sep.toArray⟩ := hu2
      subst hu2
      obtain ⟨base, cap, rfl, hcap, hb⟩ := hu
      have hmap : (l.map fun s => (⟨s.toArray⟩ : ByteArray)).map (·.data.toList) = l := by
        rw [List.map_map]
        have : ((·.data.toList) ∘ fun s : List UInt8 => (⟨s.toArray⟩ : ByteArray)) = id := by funext s; simp
        rw [this, List.map_id]
      rcases hb with hb | ⟨b, o, sz, rfl, _, hbs, he⟩
      · have hl0 : l = [] := by simpa using hb
        subst hl0
        refine (Any.strings_Join_none laysJoin laysJoin_extra base cap ⟨sep.toArray⟩ w).mono ?_
        rintro e w' ⟨rfl, rfl⟩
        exact ⟨_, rfl, rfl, .refl _ _⟩
      · have hj := Any.strings_Join laysJoin laysJoin_extra b o cap (l.map fun s => (⟨s.toArray⟩ : ByteArray)) ⟨sep.toArray⟩ w (el_strs he) hbs (by simpa using hn.1) (by simpa using hcap) (by rw [hmap]; exact hn.2)
        rw [hmap] at hj
        simp only [List.length_map] at hj ⊢
        refine hj.mono ?_
        rintro e w' ⟨rfl, hbel⟩
        exact ⟨_, rfl, rfl, hbel⟩
  · cases h
/-- A new array of texts. -/
theorem el_alloc {N : Nat → Prop} {w : World} {e : TypeId} {l : List ByteArray} : ∀ (suf : List ByteArray) (pre : List ByteArray), pre ++ suf = l →
    ElRel N (w.alloc (.cells (l.map Value.string).toArray e)) 1 w.heap.size pre.length (suf.map fun s => CVal.str s.data.toList)
  | [], pre, h => trivial
  | s :: suf, pre, h => by
    refine ⟨⟨.string ⟨s.data.toList.toArray⟩, rfl, rfl, rfl, fun j hj => ?_⟩, ?_⟩
    · obtain rfl : j = 0 := by omega
      have e2 : (l.map Value.string).toArray[pre.length + 0]? = some (.string s) := by subst h; simp
      show World.cell? _ ⟨w.heap.size, pre.length + 0, none⟩ = _
      rw [World.cell?_alloc_new, e2]
      rfl
    · have := el_alloc (N := N) (w := w) (e := e) suf (pre ++ [s]) (by simpa using h)
      rw [List.length_append, List.length_singleton] at this
      exact this
theorem cr_alloc {N : Nat → Prop} {w : World} (hN : ∀ x, N x → x < w.heap.size) (e : TypeId) (l : List ByteArray) :
    CRel N (w.alloc (.cells (l.map Value.string).toArray e)) (.sl (l.map fun s => CVal.str s.data.toList)) (.slice (some ⟨w.heap.size, 0, none⟩) l.length l.length) := by
  refine ⟨some (pl w.heap.size 0), l.length, by rw [List.length_map]; rfl, by rw [List.length_map]; omega, .inr ⟨w.heap.size, 0, 1, rfl, fun h => by have := hN _ h; omega, by simp, el_alloc l [] rfl⟩⟩

/-- strings.Split. -/
def xSplit (args : List AVal) (pbs : List PB) : Option Ret :=
  match args, pbs with
  | [.v (.str s), .v (.str sep)], [] => br (decide (s.length < 4294967281) && decide (1 ≤ sep.length)) (some (.sl ((Lib.split s sep).map .str), [])) none
  | _, _ => none
theorem xSplit_eq {s sep : List UInt8} (h : s.length < 4294967281) (h1 : 1 ≤ sep.length) : xSplit [.v (.str s), .v (.str sep)] [] = some (.sl ((Lib.split s sep).map .str), []) := by
  simp [xSplit, h, h1]
theorem xSplit_ok {args : List AVal} {pbs : List PB} {ret : Ret} (h : xSplit args pbs = some ret) : FnOk Tryd.prog none none 27 args pbs ret := by
  unfold xSplit at h
  split at h
  · rename_i s sep
    obtain ⟨hn, h⟩ := br_none h
    simp only [Bool.and_eq_true, decide_eq_true_eq] at hn
    cases h
    refine FnOk.ofCalls (cs := [.str s, .str sep]) Tryd.func27 (by kernel_rfl) rfl ?_
    intro N w vs hN hid hok hcs
    obtain ⟨u, us, rfl, hu, _, u2, us2, rfl, hu2, _, hus⟩ := hcs
    obtain rfl : us2 = [] := hus
    obtain rfl : u2 = .string ⟨sep.toArray⟩ := hu2
    obtain rfl : u = .string ⟨s.toArray⟩ := hu
    obtain ⟨m, hm⟩ := hok.2
    have hsz : (⟨s.toArray⟩ : ByteArray).size = s.length := by simp [ByteArray.size]
    have hsz2 : (⟨sep.toArray⟩ : ByteArray).size = sep.length := by simp [ByteArray.size]
    have hall := Lib.splitB_all ⟨sep.toArray⟩ (by rw [hsz2]; exact hn.2) 0 _ ⟨s.toArray⟩ rfl
    have hdata := Lib.splitB_data ⟨sep.toArray⟩ 0 (Lib.countB ⟨s.toArray⟩ ⟨sep.toArray⟩) ⟨s.toArray⟩
    refine (Any.strings_Split laysSplit (by kernel_rfl) ⟨s.toArray⟩ ⟨sep.toArray⟩ m w (by rw [hsz]; exact hn.1) hm (by rw [hsz2]; exact hn.2)).mono ?_
    rintro e w' ⟨rfl, rfl⟩
    refine ⟨_, rfl, ?_, (RowKit.Below.refl _ _).alloc (Nat.le_refl _) _⟩
    rw [← hall]
    have := cr_alloc hN 9 (Lib.splitB ⟨sep.toArray⟩ 0 (Lib.countB ⟨s.toArray⟩ ⟨sep.toArray⟩) ⟨s.toArray⟩)
    have e : (Lib.splitB ⟨sep.toArray⟩ 0 (Lib.countB ⟨s.toArray⟩ ⟨sep.toArray⟩) ⟨s.toArray⟩).map (fun s => CVal.str s.data.toList) = (Lib.split s sep).map .str := by
      have e2 : Lib.split s sep = (Lib.splitB ⟨sep.toArray⟩ 0 (Lib.countB ⟨s.toArray⟩ ⟨sep.toArray⟩) ⟨s.toArray⟩).map (·.data.toList) := by rw [hdata]; rfl
      rw [e2, List.map_map]; rfl
    rw [e] at this
    exact this
  · cases h
end Go.Proofs.YtegbnddjgifcdaaDoor.Abs

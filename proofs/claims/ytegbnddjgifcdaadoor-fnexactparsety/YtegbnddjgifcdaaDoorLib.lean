/- The library's functions that are not entered: the shelf's contracts at this program, as laws of the abstract machine; and what is known of package variables. -/
import Derived.Test.YtegbnddjgifcdaaDoorOmega
import Derived.Test.YtegbnddjgifcdaaDoorProg
import Derived.KernelRfl
import Derived.Shelf.Strings.Split
import Derived.Shelf.Vars
set_option linter.unusedVariables false
set_option linter.unusedSectionVars false
set_option maxRecDepth 100000
namespace Go.Proofs.YtegbnddjgifcdaaDoor.Abs
open Go Go.Proofs Go.Shelf

def laysSplit_ren : Go.Shelf.Ren := ⟨fun | 146 => 27 | 221 => 55 | 268 => 75 | 138 => 76 | 143 => 77 | 195 => 91 | 197 => 92 | 218 => 93 | 219 => 94 | 260 => 107 | 217 => 108 | 225 => 109 | 224 => 110 | 267 => 111 | 266 => 119 | 314 => 120 | n => n, fun | 9 => 9 | 31 => 51 | 3 => 3 | 4 => 4 | 0 => 0 | 105 => 118 | 21 => 21 | 5 => 5 | 46 => 132 | 119 => 139 | 139 => 142 | 138 => 141 | 146 => 144 | 51 => 143 | n => n, fun | 1 => 0 | 3 => 1 | 4 => 2 | n => n⟩
theorem laysSplit : Go.Proofs.Lays.n146 Tryd.prog laysSplit_ren where
  mixed := by kernel_rfl
  f138 := Tryd.func76.trans (congrArg some (by kernel_rfl))
  f143 := Tryd.func77.trans (congrArg some (by kernel_rfl))
  f146 := Tryd.func27.trans (congrArg some (by kernel_rfl))
  f195 := Tryd.func91.trans (congrArg some (by kernel_rfl))
  f197 := Tryd.func92.trans (congrArg some (by kernel_rfl))
  f217 := Tryd.func108.trans (congrArg some (by kernel_rfl))
  f218 := Tryd.func93.trans (congrArg some (by kernel_rfl))
  f219 := Tryd.func94.trans (congrArg some (by kernel_rfl))
  f221 := Tryd.func55.trans (congrArg some (by kernel_rfl))
  f224 := Tryd.func110.trans (congrArg some (by kernel_rfl))
  f225 := Tryd.func109.trans (congrArg some (by kernel_rfl))
  f260 := Tryd.func107.trans (congrArg some (by kernel_rfl))
  f266 := Tryd.func119.trans (congrArg some (by kernel_rfl))
  f267 := Tryd.func111.trans (congrArg some (by kernel_rfl))
  f268 := Tryd.func75.trans (congrArg some (by kernel_rfl))
  f314 := Tryd.func120.trans (congrArg some (by kernel_rfl))
  t0 := Tryd.underlying0
  a0 := Tryd.isAgg0
  z0 := Tryd.sizeOf0
  v0 := Tryd.zeroValue0
  t3 := Tryd.underlying3
  a3 := Tryd.isAgg3
  z3 := Tryd.sizeOf3
  v3 := Tryd.zeroValue3
  t4 := Tryd.underlying4
  a4 := Tryd.isAgg4
  z4 := Tryd.sizeOf4
  v4 := Tryd.zeroValue4
  t5 := Tryd.underlying5
  a5 := Tryd.isAgg5
  z5 := Tryd.sizeOf5
  v5 := Tryd.zeroValue5
  t9 := Tryd.underlying9
  a9 := Tryd.isAgg9
  z9 := Tryd.sizeOf9
  v9 := Tryd.zeroValue9
  t21 := Tryd.underlying21
  a21 := Tryd.isAgg21
  z21 := Tryd.sizeOf21
  v21 := Tryd.zeroValue21
  t31 := Tryd.underlying51
  a31 := Tryd.isAgg51
  z31 := Tryd.sizeOf51
  v31 := Tryd.zeroValue51
  t46 := Tryd.underlying132
  a46 := Tryd.isAgg132
  z46 := Tryd.sizeOf132
  v46 := Tryd.zeroValue132
  t51 := Tryd.underlying143
  a51 := Tryd.isAgg143
  z51 := Tryd.sizeOf143
  v51 := Tryd.zeroValue143
  t105 := Tryd.underlying118
  a105 := Tryd.isAgg118
  z105 := Tryd.sizeOf118
  v105 := Tryd.zeroValue118
  t119 := Tryd.underlying139
  a119 := Tryd.isAgg139
  z119 := Tryd.sizeOf139
  t138 := Tryd.underlying141
  a138 := Tryd.isAgg141
  z138 := Tryd.sizeOf141
  v138 := Tryd.zeroValue141
  t139 := Tryd.underlying142
  a139 := Tryd.isAgg142
  z139 := Tryd.sizeOf142
  v139 := Tryd.zeroValue142
  t146 := Tryd.underlying144
  a146 := Tryd.isAgg144
  z146 := Tryd.sizeOf144
  v146 := Tryd.zeroValue144
  g1 := by kernel_rfl
  g3 := by kernel_rfl
  g4 := by kernel_rfl
/-- internal/bytealg.MaxLen holds a number. -/
def maxOk (w : World) : Prop := ∃ m, w.cell? ⟨0, 0, none⟩ = some (.int .i64 m)
theorem max_keep {w w' : World} (hk : w'.heap[0]? = w.heap[0]?) (h : maxOk w) : maxOk w' := by
  obtain ⟨m, hm⟩ := h
  refine ⟨m, ?_⟩
  unfold World.cell? at hm ⊢
  rw [hk]
  exact hm
theorem max_lt {w : World} (h : maxOk w) : 0 < w.heap.size := by
  obtain ⟨m, hm⟩ := h
  exact World.block_lt_of_cell? _ _ hm
theorem max_of_shape {w : World} (h : w.ShapedOpen Tryd.prog) : maxOk w :=
  cell_of_shapedOpen_int (zero := #[.int .i64 0]) (t := 3) h (of_decide_eq_true (by kernel_rfl)) (by kernel_rfl) rfl (by kernel_rfl) (by kernel_rfl) Tryd.underlying3

instance globOk : Glob where
  ids := fun x => x = 0
  ok := fun w => maxOk w
  keep := fun hk h => max_keep (hk _ rfl) h
theorem glob_lt {w : World} (h : Glob.ok w) : ∀ x, Glob.ids x → x < w.heap.size := by
  rintro x rfl; exact max_lt h
/-- A new array of texts. -/
theorem el_alloc {N : Nat → Prop} {w : World} {e : TypeId} {l : List ByteArray} : ∀ (suf : List ByteArray) (pre : List ByteArray), pre ++ suf = l →
    ElRel N (w.alloc (.cells (l.map Value.string).toArray e)) 1 w.heap.size pre.length (suf.map fun s => CVal.str s.data.toList)
  | [], pre, h => trivial
  | s :: suf, pre, h => by
    refine ⟨⟨.string ⟨s.data.toList.toArray⟩, rfl, rfl, rfl, fun j hj => ?_⟩, ?_⟩
    · obtain rfl : j = 0 := by omega
      have e2 : (l.map Value.string).toArray[pre.length + 0]? = some (.string s) := by subst h; simp
      show World.cell? _ ⟨w.heap.size, pre.length + 0, none⟩ = _
      rw [World.cell?_alloc_new, e2]
      rfl
    · have := el_alloc (N := N) (w := w) (e := e) suf (pre ++ [s]) (by simpa using h)
      rw [List.length_append, List.length_singleton] at this
      exact this
theorem cr_alloc {N : Nat → Prop} {w : World} (hN : ∀ x, N x → x < w.heap.size) (e : TypeId) (l : List ByteArray) :
    CRel N (w.alloc (.cells (l.map Value.string).toArray e)) (.sl (l.map fun s => CVal.str s.data.toList)) (.slice (some ⟨w.heap.size, 0, none⟩) l.length l.length) := by
  refine ⟨some (pl w.heap.size 0), l.length, by rw [List.length_map]; rfl, by rw [List.length_map]; omega, .inr ⟨w.heap.size, 0, 1, rfl, fun h => by have := hN _ h; omega, by simp, el_alloc l [] rfl⟩⟩

/-- strings.Split. -/
def xSplit (args : List AVal) (pbs : List PB) : Option Ret :=
  match args, pbs with
  | [.v (.str s), .v (.str sep)], [] => br (decide (s.length < 4294967281) && decide (1 ≤ sep.length)) (some (.sl ((Lib.split s sep).map .str), [])) none
  | _, _ => none
theorem xSplit_eq {s sep : List UInt8} (h : s.length < 4294967281) (h1 : 1 ≤ sep.length) : xSplit [.v (.str s), .v (.str sep)] [] = some (.sl ((Lib.split s sep).map .str), []) := by
  simp [xSplit, h, h1]
theorem xSplit_ok {args : List AVal} {pbs : List PB} {ret : Ret} (h : xSplit args pbs = some ret) : FnOk Tryd.prog none none 27 args pbs ret := by
  unfold xSplit at h
  split at h
  · rename_i s sep
    obtain ⟨hn, h⟩ := br_none h
    simp only [Bool.and_eq_true, decide_eq_true_eq] at hn
    cases h
    refine FnOk.ofCalls (cs := [.str s, .str sep]) Tryd.func27 (by kernel_rfl) rfl ?_
    intro N w vs hN hid hok hcs
    obtain ⟨u, us, rfl, hu, _, u2, us2, rfl, hu2, _, hus⟩ := hcs
    obtain rfl : us2 = [] := hus
    obtain rfl : u2 = .string ⟨sep.toArray⟩ := hu2
    obtain rfl : u = .string ⟨s.toArray⟩ := hu
    obtain ⟨m, hm⟩ := hok
    have hsz : (⟨s.toArray⟩ : ByteArray).size = s.length := by simp [ByteArray.size]
    have hsz2 : (⟨sep.toArray⟩ : ByteArray).size = sep.length := by simp [ByteArray.size]
    have hall := Lib.splitB_all ⟨sep.toArray⟩ (by rw [hsz2]; exact hn.2) 0 _ ⟨s.toArray⟩ rfl
    have hdata := Lib.splitB_data ⟨sep.toArray⟩ 0 (Lib.countB ⟨s.toArray⟩ ⟨sep.toArray⟩) ⟨s.toArray⟩
    refine (Any.strings_Split laysSplit (by kernel_rfl) ⟨s.toArray⟩ ⟨sep.toArray⟩ m w (by rw [hsz]; exact hn.1) hm (by rw [hsz2]; exact hn.2)).mono ?_
    rintro e w' ⟨rfl, rfl⟩
    refine ⟨_, rfl, ?_, (RowKit.Below.refl _ _).alloc (Nat.le_refl _) _⟩
    rw [← hall]
    have := cr_alloc hN 9 (Lib.splitB ⟨sep.toArray⟩ 0 (Lib.countB ⟨s.toArray⟩ ⟨sep.toArray⟩) ⟨s.toArray⟩)
    have e : (Lib.splitB ⟨sep.toArray⟩ 0 (Lib.countB ⟨s.toArray⟩ ⟨sep.toArray⟩) ⟨s.toArray⟩).map (fun s => CVal.str s.data.toList) = (Lib.split s sep).map .str := by
      have e2 : Lib.split s sep = (Lib.splitB ⟨sep.toArray⟩ 0 (Lib.countB ⟨s.toArray⟩ ⟨sep.toArray⟩) ⟨s.toArray⟩).map (·.data.toList) := by rw [hdata]; rfl
      rw [e2, List.map_map]; rfl
    rw [e] at this
    exact this
  · cases h
end Go.Proofs.YtegbnddjgifcdaaDoor.Abs

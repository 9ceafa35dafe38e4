/- Small things for proofs about functions. -/
import Derived.Test.YtlgonbonnjkekaaTop
set_option linter.unusedVariables false
set_option linter.unusedSectionVars false
set_option linter.unusedSimpArgs false
namespace Go.Proofs.Ytlgonbonnjkekaa.Abs
open Go

/-- From some number of steps on. -/
def Evt (p : Nat → Prop) : Prop := ∃ b, ∀ n, b ≤ n → p n
theorem Evt.and {p q : Nat → Prop} (h : Evt p) (k : Evt q) : Evt fun n => p n ∧ q n := by
  obtain ⟨b, h⟩ := h
  obtain ⟨c, k⟩ := k
  exact ⟨max b c, fun n hn => ⟨h n (by omega), k n (by omega)⟩⟩
theorem Evt.mono {p q : Nat → Prop} (h : Evt p) (k : ∀ n, p n → q n) : Evt q := by
  obtain ⟨b, h⟩ := h
  exact ⟨b, fun n hn => k n (h n hn)⟩
theorem Evt.of {p : Nat → Prop} (k : ∀ n, p n) : Evt p := ⟨0, fun n _ => k n⟩
theorem Evt.next {p q : Nat → Prop} (h : Evt p) (k : ∀ n, p n → q (n + 1)) : Evt q := by
  obtain ⟨b, h⟩ := h
  refine ⟨b + 1, fun n hn => ?_⟩
  obtain ⟨m, rfl⟩ : ∃ m, n = m + 1 := ⟨n - 1, by omega⟩
  exact k m (h m (by omega))
theorem Evt.all {α : Type} {p : α → Nat → Prop} : ∀ {l : List α}, (∀ x ∈ l, Evt (p x)) → Evt fun n => ∀ x ∈ l, p x n
  | [], _ => .of fun n x hx => by cases hx
  | x :: r, h => by
    have h1 := h x (by simp)
    have h2 := Evt.all (l := r) fun y hy => h y (by simp [hy])
    refine (h1.and h2).mono fun n hh y hy => ?_
    rcases List.mem_cons.1 hy with e | e
    · subst e; exact hh.1
    · exact hh.2 y e

theorem wrap_i64 {n : Int} (h : -9223372036854775808 ≤ n) (h' : n < 9223372036854775808) : IntKind.i64.wrap n = n := by
  simp only [IntKind.wrap, IntKind.signed, IntKind.bits]
  simp
  omega

@[simp] theorem br_true' {R : Type} {x y : Option R} : br true x y = x := rfl
@[simp] theorem br_false' {R : Type} {x y : Option R} : br false x y = y := rfl
@[simp] theorem loK_ret {A R : Type} {r : Ret} {kr : Ret → Option R} {k : Nat → A → Option R} : loK (.ret r) kr k = kr r := rfl
@[simp] theorem loK_out {A R : Type} {j : Nat} {p : A} {kr : Ret → Option R} {k : Nat → A → Option R} : loK (.out j p) kr k = k j p := rfl
@[simp] theorem asInt_int {k : IntKind} {n : Int} : CVal.asInt k (.int k n) = some n := by simp [CVal.asInt]
@[simp] theorem asBool_bool {b : Bool} : CVal.asBool (.bool b) = some b := rfl
@[simp] theorem asStr_str {s : List UInt8} : CVal.asStr (.str s) = some s := rfl
@[simp] theorem asSl_sl {s : List CVal} : CVal.asSl (.sl s) = some s := rfl
@[simp] theorem fits_agg {n : Nat} {cs : List CVal} : CVal.fits true n (.agg cs) = (cs.length == n) := rfl
@[simp] theorem isAggN_agg {n : Nat} {cs : List CVal} : CVal.isAggN n (.agg cs) = (cs.length == n) := rfl
@[simp] theorem isAgg_agg {cs : List CVal} : CVal.isAgg (.agg cs) = true := rfl
@[simp] theorem cells_agg {cs : List CVal} : CVal.cells (.agg cs) = cs := rfl
@[simp] theorem cell_agg {cs : List CVal} {i : Nat} : CVal.cell (.agg cs) i = cs[i]? := rfl
@[simp] theorem isFlat_sl {xs : List CVal} : CVal.isFlat (.sl xs) = true := rfl
theorem sub_agg {n : Nat} {cs : List CVal} (h : cs.length = n) : CVal.sub (.agg cs) 0 n = some (.agg cs) := by
  simp [CVal.sub, CVal.isAggN, h, br]
theorem take_set_drop {α : Type} {ys l : List α} {i : Nat} {x : α} (h : i < ys.length) (hx : l[i]? = some x) : (ys.set i x).take (i + 1) ++ l.drop (i + 1) = ys.take i ++ l.drop i := by
  have h1 : (ys.set i x).take (i + 1) = ys.take i ++ [x] := by
    rw [List.take_add_one, List.take_set_of_le (Nat.le_refl _), List.getElem?_set_self h]; rfl
  have h2 : l.drop i = x :: l.drop (i + 1) := by
    obtain ⟨hl, rfl⟩ := List.getElem?_eq_some_iff.1 hx
    exact List.drop_eq_getElem_cons hl
  rw [h1, h2, List.append_assoc]; rfl
end Go.Proofs.Ytlgonbonnjkekaa.Abs

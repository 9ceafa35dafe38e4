/- Outcome as data. -/
import Derived.Test.YtlgonbonnjkekaaData
set_option linter.unusedVariables false
set_option linter.unusedSectionVars false
set_option linter.unusedSimpArgs false
namespace Go.Proofs.Ytlgonbonnjkekaa.Abs
open Go

inductive Outcome where
  | mk (e : Int) (n : Int) (s : List UInt8)
  deriving Inhabited
namespace Outcome
def e : Outcome → Int | .mk e _ _ => e
def n : Outcome → Int | .mk _ n _ => n
def s : Outcome → List UInt8 | .mk _ _ s => s
@[simp] theorem e_mk {e : Int} {n : Int} {s : List UInt8} : (Outcome.mk e n s).e = e := rfl
@[simp] theorem n_mk {e : Int} {n : Int} {s : List UInt8} : (Outcome.mk e n s).n = n := rfl
@[simp] theorem s_mk {e : Int} {n : Int} {s : List UInt8} : (Outcome.mk e n s).s = s := rfl
theorem eta (t : Outcome) : Outcome.mk t.e t.n t.s = t := by cases t; rfl
def enc : Outcome → CVal
  | .mk e n s => .agg [.int .i64 e, .int .i64 n, .str s]
theorem enc_def (t : Outcome) : t.enc = .agg [.int .i64 t.e, .int .i64 t.n, .str t.s] := by
  cases t; rw [enc]; rfl
@[simp] theorem enc_eta (t : Outcome) : CVal.agg [.int .i64 t.e, .int .i64 t.n, .str t.s] = t.enc := (enc_def t).symm
@[simp] theorem enc_fits (t : Outcome) : CVal.fits true 3 t.enc = true := by rw [enc_def]; rfl
@[simp] theorem enc_sub (t : Outcome) : t.enc.sub 0 3 = some t.enc := by rw [enc_def]; rfl
@[simp] theorem enc_isAggN (t : Outcome) : t.enc.isAggN 3 = true := by rw [enc_def]; rfl
@[simp] theorem enc_isAgg (t : Outcome) : t.enc.isAgg = true := by rw [enc_def]; rfl
@[simp] theorem enc_cell0 (t : Outcome) : t.enc.cell 0 = some (.int .i64 t.e) := by rw [enc_def]; rfl
@[simp] theorem enc_cell1 (t : Outcome) : t.enc.cell 1 = some (.int .i64 t.n) := by rw [enc_def]; rfl
@[simp] theorem enc_cell2 (t : Outcome) : t.enc.cell 2 = some (.str t.s) := by rw [enc_def]; rfl
@[simp] theorem enc_asAgg (t : Outcome) : t.enc.asAgg = some [.int .i64 t.e, .int .i64 t.n, .str t.s] := by rw [enc_def]; rfl
/-- How much there is of it. -/
def sz : Outcome → Nat
  | .mk e n s => s.length
def szL (l : List Outcome) : Nat := (l.map sz).sum
theorem sz_def (t : Outcome) : t.sz = t.s.length := by cases t; rw [sz]; rfl
@[simp] theorem szL_nil : szL [] = 0 := rfl
@[simp] theorem szL_cons {t : Outcome} {l : List Outcome} : szL (t :: l) = t.sz + szL l := by simp [szL]
theorem sz_mem {l : List Outcome} {t : Outcome} (h : t ∈ l) : t.sz ≤ szL l := by
  induction l with
  | nil => cases h
  | cons u l ih =>
    rcases List.mem_cons.1 h with e | e
    · subst e; simp
    · have := ih e; simp; omega
/-- Numbers of an int, lengths that there can be. -/
def wt : Outcome → Prop
  | .mk e n s => i64 e ∧ i64 n ∧ s.length ≤ maxLen
theorem wt_def (t : Outcome) : t.wt ↔ i64 t.e ∧ i64 t.n ∧ t.s.length ≤ maxLen := by cases t; rw [wt]; rfl
/-- Small enough for what is asked of it. -/
def ok (t : Outcome) : Prop := t.wt ∧ t.sz ≤ 1048576
theorem ok.e {t : Outcome} (h : t.ok) : i64 t.e := ((wt_def t).1 h.1).1
theorem ok.n {t : Outcome} (h : t.ok) : i64 t.n := ((wt_def t).1 h.1).2.1
theorem ok.s_len {t : Outcome} (h : t.ok) : t.s.length ≤ 1048576 := by have := h.2; rw [sz_def] at this; omega
end Outcome
end Go.Proofs.Ytlgonbonnjkekaa.Abs

/- Code as data. -/
import Derived.Test.YtomkegeojknihaaData
import Derived.Test.YtomkegeojknihaaDataPiece
set_option linter.unusedVariables false
set_option linter.unusedSectionVars false
set_option linter.unusedSimpArgs false
namespace Go.Proofs.Ytomkegeojknihaa.Abs
open Go

inductive Code where
  | mk (funs : List Piece) (main : Piece)
  deriving Inhabited
namespace Code
def funs : Code → List Piece | .mk funs _ => funs
def main : Code → Piece | .mk _ main => main
@[simp] theorem funs_mk {funs : List Piece} {main : Piece} : (Code.mk funs main).funs = funs := rfl
@[simp] theorem main_mk {funs : List Piece} {main : Piece} : (Code.mk funs main).main = main := rfl
theorem eta (t : Code) : Code.mk t.funs t.main = t := by cases t; rfl
def enc : Code → CVal
  | .mk funs main => .agg [.sl (funs.map Piece.enc), .int .i64 main.lam, .int .i64 main.inn, .int .i64 main.regs, .sl (main.ins.map Ins.enc)]
theorem enc_def (t : Code) : t.enc = .agg [.sl (t.funs.map Piece.enc), .int .i64 t.main.lam, .int .i64 t.main.inn, .int .i64 t.main.regs, .sl (t.main.ins.map Ins.enc)] := by
  cases t; rw [enc]; rfl
@[simp] theorem enc_eta (t : Code) : CVal.agg [.sl (t.funs.map Piece.enc), .int .i64 t.main.lam, .int .i64 t.main.inn, .int .i64 t.main.regs, .sl (t.main.ins.map Ins.enc)] = t.enc := (enc_def t).symm
@[simp] theorem enc_fits (t : Code) : CVal.fits true 5 t.enc = true := by rw [enc_def]; rfl
@[simp] theorem enc_sub (t : Code) : t.enc.sub 0 5 = some t.enc := by rw [enc_def]; rfl
@[simp] theorem enc_isAggN (t : Code) : t.enc.isAggN 5 = true := by rw [enc_def]; rfl
@[simp] theorem enc_isAgg (t : Code) : t.enc.isAgg = true := by rw [enc_def]; rfl
@[simp] theorem enc_cell0 (t : Code) : t.enc.cell 0 = some (.sl (t.funs.map Piece.enc)) := by rw [enc_def]; rfl
@[simp] theorem enc_cell1 (t : Code) : t.enc.cell 1 = some (.int .i64 t.main.lam) := by rw [enc_def]; rfl
@[simp] theorem enc_cell2 (t : Code) : t.enc.cell 2 = some (.int .i64 t.main.inn) := by rw [enc_def]; rfl
@[simp] theorem enc_cell3 (t : Code) : t.enc.cell 3 = some (.int .i64 t.main.regs) := by rw [enc_def]; rfl
@[simp] theorem enc_cell4 (t : Code) : t.enc.cell 4 = some (.sl (t.main.ins.map Ins.enc)) := by rw [enc_def]; rfl
@[simp] theorem enc_asAgg (t : Code) : t.enc.asAgg = some [.sl (t.funs.map Piece.enc), .int .i64 t.main.lam, .int .i64 t.main.inn, .int .i64 t.main.regs, .sl (t.main.ins.map Ins.enc)] := by rw [enc_def]; rfl
@[simp] theorem enc_sub_main (t : Code) : t.enc.sub 1 4 = some t.main.enc := by rw [enc_def, Piece.enc_def]; rfl
/-- How much there is of it. -/
def sz : Code → Nat
  | .mk funs main => (funs.length + (funs.map Piece.sz).sum) + main.sz
def szL (l : List Code) : Nat := (l.map sz).sum
theorem sz_def (t : Code) : t.sz = (t.funs.length + Piece.szL t.funs) + t.main.sz := by cases t; rw [sz]; rfl
@[simp] theorem szL_nil : szL [] = 0 := rfl
@[simp] theorem szL_cons {t : Code} {l : List Code} : szL (t :: l) = t.sz + szL l := by simp [szL]
theorem sz_mem {l : List Code} {t : Code} (h : t ∈ l) : t.sz ≤ szL l := by
  induction l with
  | nil => cases h
  | cons u l ih =>
    rcases List.mem_cons.1 h with e | e
    · subst e; simp
    · have := ih e; simp; omega
/-- Numbers of an int, lengths that there can be. -/
def wt : Code → Prop
  | .mk funs main => (funs.length ≤ maxLen ∧ ∀ u ∈ funs, u.wt) ∧ main.wt
theorem wt_def (t : Code) : t.wt ↔ (t.funs.length ≤ maxLen ∧ ∀ u ∈ t.funs, u.wt) ∧ t.main.wt := by cases t; rw [wt]; rfl
/-- Small enough for what is asked of it. -/
def ok (t : Code) : Prop := t.wt ∧ t.sz ≤ 1048576
theorem ok.funs_len {t : Code} (h : t.ok) : t.funs.length ≤ 1048576 := by have := h.2; rw [sz_def] at this; omega
theorem ok.funs {t : Code} (h : t.ok) {u : Piece} (hu : u ∈ t.funs) : u.ok := by
  refine ⟨(((wt_def t).1 h.1).1).2 u hu, ?_⟩
  have h1 := h.2
  have h2 := Piece.sz_mem hu
  rw [sz_def] at h1; omega
theorem ok.main {t : Code} (h : t.ok) : t.main.ok := by
  refine ⟨((wt_def t).1 h.1).2, ?_⟩
  have h1 := h.2
  rw [sz_def] at h1; omega
end Code
end Go.Proofs.Ytomkegeojknihaa.Abs

/- Term as data. -/
import Derived.Test.YthnjnnnobipnfaaData
set_option linter.unusedVariables false
set_option linter.unusedSectionVars false
set_option linter.unusedSimpArgs false
namespace Go.Proofs.Ythnjnnnobipnfaa.Abs
open Go

inductive Term where
  | mk (k : Int) (n : Int) (s : List UInt8) (z : List UInt8) (t : Ty) (ts : List Ty) (a : List Term)
  deriving Inhabited
namespace Term
def k : Term → Int | .mk k _ _ _ _ _ _ => k
def n : Term → Int | .mk _ n _ _ _ _ _ => n
def s : Term → List UInt8 | .mk _ _ s _ _ _ _ => s
def z : Term → List UInt8 | .mk _ _ _ z _ _ _ => z
def t : Term → Ty | .mk _ _ _ _ t _ _ => t
def ts : Term → List Ty | .mk _ _ _ _ _ ts _ => ts
def a : Term → List Term | .mk _ _ _ _ _ _ a => a
@[simp] theorem k_mk {k : Int} {n : Int} {s : List UInt8} {z : List UInt8} {t : Ty} {ts : List Ty} {a : List Term} : (Term.mk k n s z t ts a).k = k := rfl
@[simp] theorem n_mk {k : Int} {n : Int} {s : List UInt8} {z : List UInt8} {t : Ty} {ts : List Ty} {a : List Term} : (Term.mk k n s z t ts a).n = n := rfl
@[simp] theorem s_mk {k : Int} {n : Int} {s : List UInt8} {z : List UInt8} {t : Ty} {ts : List Ty} {a : List Term} : (Term.mk k n s z t ts a).s = s := rfl
@[simp] theorem z_mk {k : Int} {n : Int} {s : List UInt8} {z : List UInt8} {t : Ty} {ts : List Ty} {a : List Term} : (Term.mk k n s z t ts a).z = z := rfl
@[simp] theorem t_mk {k : Int} {n : Int} {s : List UInt8} {z : List UInt8} {t : Ty} {ts : List Ty} {a : List Term} : (Term.mk k n s z t ts a).t = t := rfl
@[simp] theorem ts_mk {k : Int} {n : Int} {s : List UInt8} {z : List UInt8} {t : Ty} {ts : List Ty} {a : List Term} : (Term.mk k n s z t ts a).ts = ts := rfl
@[simp] theorem a_mk {k : Int} {n : Int} {s : List UInt8} {z : List UInt8} {t : Ty} {ts : List Ty} {a : List Term} : (Term.mk k n s z t ts a).a = a := rfl
theorem eta (t : Term) : Term.mk t.k t.n t.s t.z t.t t.ts t.a = t := by cases t; rfl
def enc : Term → CVal
  | .mk k n s z t ts a => .agg [.int .i64 k, .int .i64 n, .str s, .str z, .int .i64 t.k, .int .i64 t.n, .sl (t.a.map Ty.enc), .sl (ts.map Ty.enc), .sl (a.map enc)]
theorem enc_def (t : Term) : t.enc = .agg [.int .i64 t.k, .int .i64 t.n, .str t.s, .str t.z, .int .i64 t.t.k, .int .i64 t.t.n, .sl (t.t.a.map Ty.enc), .sl (t.ts.map Ty.enc), .sl (t.a.map Term.enc)] := by
  cases t; rw [enc]; rfl
@[simp] theorem enc_eta (t : Term) : CVal.agg [.int .i64 t.k, .int .i64 t.n, .str t.s, .str t.z, .int .i64 t.t.k, .int .i64 t.t.n, .sl (t.t.a.map Ty.enc), .sl (t.ts.map Ty.enc), .sl (t.a.map Term.enc)] = t.enc := (enc_def t).symm
@[simp] theorem enc_fits (t : Term) : CVal.fits true 9 t.enc = true := by rw [enc_def]; rfl
@[simp] theorem enc_sub (t : Term) : t.enc.sub 0 9 = some t.enc := by rw [enc_def]; rfl
@[simp] theorem enc_isAggN (t : Term) : t.enc.isAggN 9 = true := by rw [enc_def]; rfl
@[simp] theorem enc_isAgg (t : Term) : t.enc.isAgg = true := by rw [enc_def]; rfl
@[simp] theorem enc_cell0 (t : Term) : t.enc.cell 0 = some (.int .i64 t.k) := by rw [enc_def]; rfl
@[simp] theorem enc_cell1 (t : Term) : t.enc.cell 1 = some (.int .i64 t.n) := by rw [enc_def]; rfl
@[simp] theorem enc_cell2 (t : Term) : t.enc.cell 2 = some (.str t.s) := by rw [enc_def]; rfl
@[simp] theorem enc_cell3 (t : Term) : t.enc.cell 3 = some (.str t.z) := by rw [enc_def]; rfl
@[simp] theorem enc_cell4 (t : Term) : t.enc.cell 4 = some (.int .i64 t.t.k) := by rw [enc_def]; rfl
@[simp] theorem enc_cell5 (t : Term) : t.enc.cell 5 = some (.int .i64 t.t.n) := by rw [enc_def]; rfl
@[simp] theorem enc_cell6 (t : Term) : t.enc.cell 6 = some (.sl (t.t.a.map Ty.enc)) := by rw [enc_def]; rfl
@[simp] theorem enc_cell7 (t : Term) : t.enc.cell 7 = some (.sl (t.ts.map Ty.enc)) := by rw [enc_def]; rfl
@[simp] theorem enc_cell8 (t : Term) : t.enc.cell 8 = some (.sl (t.a.map Term.enc)) := by rw [enc_def]; rfl
@[simp] theorem enc_asAgg (t : Term) : t.enc.asAgg = some [.int .i64 t.k, .int .i64 t.n, .str t.s, .str t.z, .int .i64 t.t.k, .int .i64 t.t.n, .sl (t.t.a.map Ty.enc), .sl (t.ts.map Ty.enc), .sl (t.a.map Term.enc)] := by rw [enc_def]; rfl
@[simp] theorem enc_sub_t (t : Term) : t.enc.sub 4 3 = some t.t.enc := by rw [enc_def, Ty.enc_def]; rfl
theorem ind {P : Term → Prop} (h : ∀ t : Term, (∀ u ∈ t.a, P u) → P t) : ∀ t, P t
  | .mk k n s z t ts a => h _ fun u hu => ind h u
termination_by t => SizeOf.sizeOf t
decreasing_by
  have := List.sizeOf_lt_of_mem hu
  simp at *; omega
/-- How much there is of it. -/
def sz : Term → Nat
  | .mk k n s z t ts a => s.length + z.length + t.sz + (ts.length + (ts.map Ty.sz).sum) + (a.length + (a.map sz).sum)
def szL (l : List Term) : Nat := (l.map sz).sum
theorem sz_def (t : Term) : t.sz = t.s.length + t.z.length + t.t.sz + (t.ts.length + Ty.szL t.ts) + (t.a.length + Term.szL t.a) := by cases t; rw [sz]; rfl
@[simp] theorem szL_nil : szL [] = 0 := rfl
@[simp] theorem szL_cons {t : Term} {l : List Term} : szL (t :: l) = t.sz + szL l := by simp [szL]
theorem sz_mem {l : List Term} {t : Term} (h : t ∈ l) : t.sz ≤ szL l := by
  induction l with
  | nil => cases h
  | cons u l ih =>
    rcases List.mem_cons.1 h with e | e
    · subst e; simp
    · have := ih e; simp; omega
/-- Numbers of an int, lengths that there can be. -/
def wt : Term → Prop
  | .mk k n s z t ts a => i64 k ∧ i64 n ∧ s.length ≤ maxLen ∧ z.length ≤ maxLen ∧ t.wt ∧ (ts.length ≤ maxLen ∧ ∀ u ∈ ts, u.wt) ∧ (a.length ≤ maxLen ∧ ∀ u ∈ a, u.wt)
theorem wt_def (t : Term) : t.wt ↔ i64 t.k ∧ i64 t.n ∧ t.s.length ≤ maxLen ∧ t.z.length ≤ maxLen ∧ t.t.wt ∧ (t.ts.length ≤ maxLen ∧ ∀ u ∈ t.ts, u.wt) ∧ (t.a.length ≤ maxLen ∧ ∀ u ∈ t.a, u.wt) := by cases t; rw [wt]; rfl
/-- Small enough for what is asked of it. -/
def ok (t : Term) : Prop := t.wt ∧ t.sz ≤ 1048576
theorem ok.k {t : Term} (h : t.ok) : i64 t.k := ((wt_def t).1 h.1).1
theorem ok.n {t : Term} (h : t.ok) : i64 t.n := ((wt_def t).1 h.1).2.1
theorem ok.s_len {t : Term} (h : t.ok) : t.s.length ≤ 1048576 := by have := h.2; rw [sz_def] at this; omega
theorem ok.z_len {t : Term} (h : t.ok) : t.z.length ≤ 1048576 := by have := h.2; rw [sz_def] at this; omega
theorem ok.t {t : Term} (h : t.ok) : t.t.ok := by
  refine ⟨((wt_def t).1 h.1).2.2.2.2.1, ?_⟩
  have h1 := h.2
  rw [sz_def] at h1; omega
theorem ok.ts_len {t : Term} (h : t.ok) : t.ts.length ≤ 1048576 := by have := h.2; rw [sz_def] at this; omega
theorem ok.ts {t : Term} (h : t.ok) {u : Ty} (hu : u ∈ t.ts) : u.ok := by
  refine ⟨(((wt_def t).1 h.1).2.2.2.2.2.1).2 u hu, ?_⟩
  have h1 := h.2
  have h2 := Ty.sz_mem hu
  rw [sz_def] at h1; omega
theorem ok.a_len {t : Term} (h : t.ok) : t.a.length ≤ 1048576 := by have := h.2; rw [sz_def] at this; omega
theorem ok.a {t : Term} (h : t.ok) {u : Term} (hu : u ∈ t.a) : u.ok := by
  refine ⟨(((wt_def t).1 h.1).2.2.2.2.2.2).2 u hu, ?_⟩
  have h1 := h.2
  have h2 := Term.sz_mem hu
  rw [sz_def] at h1; omega
end Term
end Go.Proofs.Ythnjnnnobipnfaa.Abs

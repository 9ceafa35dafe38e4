/- Functions that are not entered and whose answers are all their own: what a contract of the library's gives to the abstract machine. -/
import Derived.Test.YtbimglfmmmlicaaXRow
import Derived.Laws.AppendOwn
set_option linter.unusedVariables false
set_option linter.unusedSectionVars false
set_option linter.unusedSimpArgs false
namespace Go.Proofs.Ytbimglfmmmlicaa.Abs
open Go
variable [Glob]

theorem FnOk.ofCallsOwn {P : Program} {g : FuncId} {fn : Func} {code : Code} (hf : P.funcs[g]? = some fn) (hname : (fn.name == "runtime.NumGoroutine") = false) (hb : fn.body = some code) {cs : List CVal} {c : CVal} {ts : List TypeId} (hp : plainR P ts c = true)
    (h : ∀ (N : Nat → Prop) (w : World) (vs : List Value), (∀ x, N x → x < w.heap.size) → (∀ x, Glob.ids x → x < w.heap.size) → Glob.ok w → CsRel N w false cs vs →
      Calls P g vs.toArray w fun e w' => ∃ v S, e = .returned v ∧ DR P N w' ts S c v ∧ S.Nodup ∧ (∀ x ∈ S, w.heap.size ≤ x ∧ x < w'.heap.size) ∧ RowKit.Below w.heap.size w w') : FnOk P none (some ts) g (cs.map .v) [] (c, []) := by
  intro F w μ vs R ha o a next Q hex hn
  have hno : ∀ x, ¬ Own μ (([] : List PB).map startBlk) x := by
    rintro x ⟨i, blk, h, hb, _⟩
    simp at hb
  have ha' : CsRel F w false cs vs := CsRel.keep (Keep.sub fun x hx => .inl hx) (AsRel.toC ha)
  have hcall : (callFunc g vs.toArray).run P w = .ok (.enter g vs.toArray) w := by
    have hne : ¬ fn.name = "runtime.NumGoroutine" := by simpa using hname
    simp [callFunc, program, Sem.run, hf, hne, hb]
  unfold Oper.wp
  rw [hex, hcall, Oper.upon_enter]
  refine (h F w vs R.fb R.fbk.idl R.fbk.ok ha').mono ?_
  rintro e w' ⟨v, S, rfl, hv, hnd, hS, hbel⟩
  have hfr : Fr (Own μ (([] : List PB).map startBlk)) w w' := ⟨hbel.os, hbel.tape, hbel.output, hbel.size, fun x hx _ => hbel.block x hx⟩
  have hes : endS (([] : List PB).map (PB.sh [])) (c, ([] : List (List CVal))).2 = [] := rfl
  refine hn v w' ⟨μ, S, ?_, rfl, fun j x hj => hj, fun j m sz xs h hp => by simp at hp, fun x hx => ?_, hnd, fun x hx => ?_, hfr, ?_⟩
  · rw [hes]
    refine ⟨R.len, ?_, ?_, ?_, ⟨?_, fun x hx => Nat.lt_of_lt_of_le (R.fbk.idl x hx) hbel.size, Glob.keep (fun x hx => hbel.block x (R.fbk.idl x hx)) R.fbk.ok⟩, fun x hx => ((hno x) hx).elim⟩
    · intro i blk h hb; simp at hb
    · intro i j blk blk' h h' x hb; simp at hb
    · intro x hx; exact ((hno x) hx).elim
    · rintro x (hx | hx)
      · exact Nat.lt_of_lt_of_le (R.fb x hx) hbel.size
      · exact (hS x hx).2
  · rw [hes] at hx; exact ((hno x) hx).elim
  · refine ⟨(hS x hx).2, fun hf => ?_, fun hi => ?_, .inl (hS x hx).1⟩
    · have := R.fb x hf; have := (hS x hx).1; omega
    · have := R.fbk.idl x hi; have := (hS x hx).1; omega
  · exact DR.plain hp hv

/-- A slice of elements of one cell that a call has made. -/
theorem dsl_row {α : Type} {cv : α → CVal} {ev : α → Value} (C : OneCell cv ev) {N : Nat → Prop} {w : World} {base : Nat} {e : TypeId} {v : Value} {l : List α} (h : w.ownsRow base e 1 v l.length (l.map ev)) :
    ∃ S, DSl N w 1 S (l.map cv) v ∧ S.Nodup ∧ ∀ x ∈ S, base ≤ x ∧ x < w.heap.size := by
  obtain ⟨_, h⟩ := h
  rcases h with ⟨rfl, h0⟩ | ⟨g, cap, cur, rfl, hb, hg, hn, _, hsz, htk⟩
  · obtain rfl : l = [] := List.eq_nil_of_length_eq_zero h0
    exact ⟨[], ⟨none, 0, rfl, Nat.le_refl _, .inl ⟨rfl, rfl⟩⟩, List.nodup_nil, by simp⟩
  · rcases Nat.eq_zero_or_pos cap with h0 | h0
    · subst h0
      obtain rfl : l = [] := List.eq_nil_of_length_eq_zero (by omega)
      exact ⟨[], ⟨_, 0, rfl, Nat.le_refl _, .inl ⟨rfl, rfl⟩⟩, List.nodup_nil, by simp⟩
    · refine ⟨[g], ⟨some (pl g 0), cap, by simp [pl], by simpa using hn, .inr ⟨g, cur, e, [], h0, rfl, rfl, hg, by omega, gel_in C fun j a hj => ?_⟩⟩, by simp, fun x hx => ?_⟩
      · have hjl := (List.getElem?_eq_some_iff.1 hj).1
        simp only [World.cell?, hg, Nat.zero_add]
        have e1 : (cur.toList.take (l.length * 1))[j]? = some (ev a) := by rw [htk, List.getElem?_map, hj]; rfl
        rw [List.getElem?_take] at e1
        split at e1
        · simpa using e1
        · cases e1
      · simp at hx
        subst hx
        exact ⟨hb, (Array.getElem?_eq_some_iff.1 hg).1⟩

theorem el_one {α : Type} {cv : α → CVal} {ev : α → Value} (C : OneCell cv ev) {N : Nat → Prop} {w : World} {b sz : Nat} : ∀ {l : List α} {o : Nat}, ElRel N w sz b o (l.map cv) →
    ∀ (j : Nat) (a : α), l[j]? = some a → w.cell? ⟨b, o + j, none⟩ = some (ev a)
  | [], o, _, j, a, hj => by simp at hj
  | s :: r, o, h, j, a, hj => by
    obtain ⟨⟨u, _, hu, hz, hc⟩, h⟩ := h
    obtain rfl : u = ev s := ((C.rel false N w [] s u).1 ⟨rfl, hu⟩).2
    have h1 : sz = 1 := by rw [← hz, C.cells]; rfl
    subst h1
    cases j with
    | zero =>
      simp at hj
      subst hj
      have := hc 0 (by omega)
      simpa [pl, C.cells] using this
    | succ j =>
      have := el_one C h j a (by simpa using hj)
      rw [show o + (j + 1) = o + 1 + j by omega]
      exact this
end Go.Proofs.Ytbimglfmmmlicaa.Abs

/- slices.Grow of no slice: its contract as a law of the abstract machine. -/
import Derived.Test.YtbimglfmmmlicaaXOwn
import Derived.Shelf.Spec.SlicesGrow
set_option linter.unusedVariables false
set_option linter.unusedSectionVars false
set_option linter.unusedSimpArgs false
namespace Go.Proofs.Ytbimglfmmmlicaa.Abs
open Go Go.Sort
variable [Glob]

/-- A function that takes a slice without room and a number, and hands back an empty slice that is its own or nobody's. -/
theorem FnOk.grow0 {P : Program} {g : FuncId} {fn : Func} {code : Code} (hf : P.funcs[g]? = some fn) (hname : (fn.name == "runtime.NumGoroutine") = false) (hb : fn.body = some code) {n : Int} {ts : List TypeId} (hp : plainR P ts (.sl []) = true)
    (h : ∀ (N : Nat → Prop) (base : Option Addr) (w : World), Calls P g #[.slice base 0 0, .int .i64 n] w fun e w' => ∃ v S, e = .returned v ∧ DR P N w' ts S (.sl []) v ∧ S.Nodup ∧ (∀ x ∈ S, w.heap.size ≤ x ∧ x < w'.heap.size) ∧ RowKit.Below w.heap.size w w') :
    FnOk P none (some ts) g [.nl, .v (.int .i64 n)] [] (.sl [], []) := by
  intro F w μ vs R ha o a next Q hex hn
  have hno : ∀ x, ¬ Own μ (([] : List PB).map startBlk) x := by
    rintro x ⟨i, blk, h, hb, _⟩
    simp at hb
  obtain ⟨u, us, rfl, hu, _, hus⟩ := ha
  obtain ⟨u2, us2, rfl, hu2, _, hus⟩ := hus
  have hus : us2 = [] := hus
  subst hus
  have hu2 : u2 = .int .i64 n := hu2
  subst hu2
  obtain ⟨base, rfl⟩ : ∃ base, u = .slice base 0 0 := hu
  have hcall : (callFunc g [.slice base 0 0, .int .i64 n].toArray).run P w = .ok (.enter g [.slice base 0 0, .int .i64 n].toArray) w := by
    have hne : ¬ fn.name = "runtime.NumGoroutine" := by simpa using hname
    simp [callFunc, program, Sem.run, hf, hne, hb]
  unfold Oper.wp
  rw [hex, hcall, Oper.upon_enter]
  refine (h F base w).mono ?_
  rintro e w' ⟨v, S, rfl, hv, hnd, hS, hbel⟩
  have hfr : Fr (Own μ (([] : List PB).map startBlk)) w w' := ⟨hbel.os, hbel.tape, hbel.output, hbel.size, fun x hx _ => hbel.block x hx⟩
  have hes : endS (([] : List PB).map (PB.sh [])) ((.sl [] : CVal), ([] : List (List CVal))).2 = [] := rfl
  refine hn v w' ⟨μ, S, ?_, rfl, fun j x hj => hj, fun j m sz xs h hp => by simp at hp, fun x hx => ?_, hnd, fun x hx => ?_, hfr, ?_⟩
  · rw [hes]
    refine ⟨R.len, ?_, ?_, ?_, ⟨?_, fun x hx => Nat.lt_of_lt_of_le (R.fbk.idl x hx) hbel.size, Glob.keep (fun x hx => hbel.block x (R.fbk.idl x hx)) R.fbk.ok⟩, fun x hx => ((hno x) hx).elim⟩
    · intro i blk h hb; simp at hb
    · intro i j blk blk' h h' x hb; simp at hb
    · intro x hx; exact ((hno x) hx).elim
    · rintro x (hx | hx)
      · exact Nat.lt_of_lt_of_le (R.fb x hx) hbel.size
      · exact (hS x hx).2
  · rw [hes] at hx; exact ((hno x) hx).elim
  · refine ⟨(hS x hx).2, fun hf => ?_, fun hi => ?_, .inl (hS x hx).1⟩
    · have := R.fb x hf; have := (hS x hx).1; omega
    · have := R.fbk.idl x hi; have := (hS x hx).1; omega
  · exact DR.plain hp hv
end Go.Proofs.Ytbimglfmmmlicaa.Abs

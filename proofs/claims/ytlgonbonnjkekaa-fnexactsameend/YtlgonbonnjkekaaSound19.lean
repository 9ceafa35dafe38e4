/- Functions. -/
import Derived.Test.YtlgonbonnjkekaaSound18
import Derived.Below
set_option linter.unusedVariables false
set_option linter.unusedSectionVars false
set_option linter.unusedSimpArgs false
namespace Go.Proofs.Ytlgonbonnjkekaa.Abs
open Go

section
variable {P : Program} {w : World} {F N M : Nat → Prop} {μ : List Hd} {b : List Blk} {R' : Type} {r : R'}

theorem endS_eq : ∀ {pbs : List PB} {ls : List (List CVal)}, endS (pbs.map PB.sh) ls = endBlks pbs ls
  | [], _ => rfl
  | _ :: _, [] => rfl
  | p :: r, l :: ls => by
    have ih := endS_eq (pbs := r) (ls := ls)
    unfold endS endBlks at *
    simp only [List.map_cons, List.zipWith_cons_cons, ih]
    congr 1
    unfold PB.sh endBlk
    cases p.arr <;> rfl

theorem evF_calls {E : Env} {N' : Ann} {C : CallT} {L : LoopT} {n : Nat} (hm : E.P.follows .mixedOrders = true) (hC : COk E C) (hL : LOk E n L) {g : FuncId} {args : List AVal} {pbs : List PB} {ret : Ret}
    (h : evF E N' C L g args pbs = some ret) {F : Nat → Prop} {w : World} {μ : List Hd} {vs : List Value} (R : Rel F w μ (pbs.map startBlk)) (ha : AsRel (Or F (Own μ (pbs.map startBlk))) w μ (pbs.map startBlk) false args vs) :
    (callFunc g vs.toArray).run E.P w = .ok (.enter g vs.toArray) w ∧ ∀ post : Value → World → Prop, (∀ v w' μ', FnPost (E.rm g) F w μ pbs ret w' μ' v → post v w') →
      ∀ next : Ending → World → Prop, (∀ v w', post v w' → next (.returned v) w') → Calls E.P g vs.toArray w next := by
  unfold evF at h
  split at h
  · cases h
  rename_i fn hf
  split at h
  · cases h
  rename_i c hb
  rcases br_some h with ⟨_, h⟩ | ⟨h0, h⟩
  · cases h
  simp only [Bool.or_eq_false_iff, Bool.not_eq_false', decide_eq_true_eq] at h0
  obtain ⟨⟨hname, hlen⟩, hres⟩ := h0
  have hvl := ha.len
  have hcall : (callFunc g vs.toArray).run E.P w = .ok (.enter g vs.toArray) w := by
    have hne : ¬ fn.name = "runtime.NumGoroutine" := by simpa using hname
    simp [callFunc, program, Sem.run, hf, hne, hb]
  refine ⟨hcall, fun post hpost next hnext => calls_of_wp hf hb ?_⟩
  have hn : ∀ v w', (∃ μ', FnPost (E.rm g) F w μ pbs ret w' μ' v) → next (.returned v) w' := fun v w' ⟨μ', h⟩ => hnext v w' (hpost v w' μ' h)
  have fin : ∀ (a' : Act) (w' : World), RetP E.P fn (E.rm g) (pbs.map PB.sh) F w μ (pbs.map startBlk) ret a' w' → a'.defers = [] ∧ ∃ v, (results fn a'.tmps).run E.P w' = .ok v w' ∧ next (.returned v) w' := by
    intro a' w' ⟨hd, v, μ', hr, hl, hlen, hv⟩
    rw [endS_eq] at hl hv
    have hl' : (pbs.map PB.sh).length = pbs.length := by simp
    refine ⟨hd, v, hr, hn v w' ⟨μ', hl.rel, by rw [hlen, hl'], fun j x hx => hl.box j x ?_ hx, hl.own, hl.fr, ?_⟩⟩
    · have := (List.getElem?_eq_some_iff.1 hx).1
      rw [R.len] at this
      simpa using this
    · revert hv
      cases E.rm g with
      | none => exact fun hv => hv
      | some j =>
        rintro ⟨h, sz, h1, h2, h3⟩
        rw [List.getElem?_map] at h2
        cases hp : pbs[j]? with
        | none => simp [hp] at h2
        | some p =>
          refine ⟨h, p, h1, hp, ?_, h3⟩
          simp [hp, PB.sh] at h2
          cases hpa : p.arr with
          | true => rfl
          | false => simp [hpa] at h2
  refine ev_sound (n := n) (s := ⟨args ++ List.replicate (fn.ntmps - args.length) .un, pbs.map startBlk⟩) hm hC hL hf hres c R ⟨?_, rfl⟩ (by simp) ?_ h _ ?_ ?_
  · have h1 := ha.append (unrel (N := Or F (Own μ (pbs.map startBlk))) (w := w) (μ := μ) (b := pbs.map startBlk) (List.replicate (fn.ntmps - vs.length) undef))
    simp only [List.length_replicate] at h1
    rw [← hvl]
    simpa using h1
  · simp; omega
  · intro e s' a' w' μ' hK hnl ht' hs
    cases e with
    | X j => cases hK
    | N =>
      obtain ⟨ret', hK, hp⟩ := finK_sound hnl.rel ht' hnl.len hres hK
      cases hK
      exact fin a' w' (RetP.pre hnl hp)
  · intro ret' a' w' hK hp
    cases hK
    exact fin a' w' hp

theorem evF_sound {E : Env} {N' : Ann} {C : CallT} {L : LoopT} {n : Nat} (hm : E.P.follows .mixedOrders = true) (hC : COk E C) (hL : LOk E n L) {g : FuncId} {args : List AVal} {pbs : List PB} {ret : Ret}
    (h : evF E N' C L g args pbs = some ret) : FnOk E.P (E.rm g) g args pbs ret := by
  intro F w μ vs R ha o a next Q hex hn
  obtain ⟨hcall, hc⟩ := evF_calls hm hC hL h R ha
  unfold Oper.wp
  rw [hex, hcall, Oper.upon_enter]
  exact hc (fun v w' => ∃ μ', FnPost (E.rm g) F w μ pbs ret w' μ' v) (fun v w' μ' h => ⟨μ', h⟩) _ fun v w' h => hn v w' h

theorem evL_sound {E : Env} {N' : Ann} {C : CallT} {L : LoopT} {n : Nat} (hm : E.P.follows .mixedOrders = true) (hC : COk E C) (hL : LOk E n L) {f : FuncId} {bid : Nat} {c : Code} {np : List (Option Nat)} {ks : LK} {p : ks.T} {out : LO ks.T}
    (h : evL E N' C L f bid c np ks p = some out) : LoopOk E (n + 1) f c np ks p out := by
  intro fn hf hres F w μ a hnt R ht hnp Q hout hret
  unfold evL at h
  rw [hf] at h
  simp only at h
  rw [rounds_succ]
  refine ev_sound hm hC hL hf hres c R ht hnp hnt h _ ?_ ?_
  · intro e s' a' w' μ' hK hn ht' hs
    cases e with
    | N =>
      obtain ⟨p', μ2, hK, hn2, ht2⟩ := packK_sound hn.rel ht' hn.len hK
      rw [hs] at hn2 ht2
      refine hL f bid c np ks p' out hK fn hf hres F w' μ2 a' hs hn2.rel ht2 hn2.len Q ?_ ?_
      · intro j p'' a'' w'' μ'' he hn3 ht3 hs3
        exact hout j p'' a'' w'' μ'' he ((hn.trans hn2).trans hn3) ht3 hs3
      · intro ret a'' w'' he hp
        exact hret ret a'' w'' he (RetP.pre (hn.trans hn2) hp)
    | X j =>
      obtain ⟨p', μ2, hK, hn2, ht2⟩ := packK_sound hn.rel ht' hn.len hK
      rw [hs] at hn2 ht2
      cases hK
      exact hout j p' a' w' μ2 rfl (hn.trans hn2) ht2 hs
  · intro ret a' w' hK hp
    cases hK
    exact hret ret a' w' rfl hp

/-- What is known of functions by a law of their own. -/
def PrimOk (E : Env) : Prop := ∀ g p, E.prim g = some p → ∀ args pbs ret, p args pbs = some ret → FnOk E.P (E.rm g) g args pbs ret

theorem run_sound {E : Env} {N' : Ann} (hm : E.P.follows .mixedOrders = true) (hp : PrimOk E) : ∀ n, COk E (run E N' n).1 ∧ LOk E n (run E N' n).2
  | 0 => by
    refine ⟨⟨fun g args pbs ret hg h => ?_, fun c cs ret h => by cases h⟩, fun f bid c np ks p out h => by cases h⟩
    split at h
    · rename_i p hg; exact hp g p hg args pbs ret h
    · cases h
  | n + 1 => by
    obtain ⟨hC, hL⟩ := run_sound hm hp n
    refine ⟨⟨fun g args pbs ret hg h => ?_, fun c cs ret h => ?_⟩, fun f bid c np ks p out h => evL_sound hm hC hL h⟩
    · split at h
      · rename_i p hg; exact hp g p hg args pbs ret h
      · simp only [run] at h
        rw [show (g == apId) = false by simpa using hg] at h
        exact evF_sound hm hC hL h
    · simp only [run] at h
      rw [show (apId == apId) = true by simp] at h
      simp only [cond] at h
      cases c with
      | func g caps =>
        simp only [applyV, allV_map, Option.bind_some] at h
        rcases br_some h with ⟨_, h⟩ | ⟨h0, h⟩
        · cases h
        simp only [Bool.or_eq_false_iff] at h0
        have hg : g ≠ apId := by simpa using h0.1
        have hrm : E.rm g = none := by simpa using h0.2
        refine ⟨g, caps, hg, rfl, hrm, ?_⟩
        have := hC.1 g ((cs ++ caps).map .v) [] ret hg h
        rw [hrm] at this
        exact this
      | _ => cases h

/-- A function called from without, on data. -/
theorem top_calls {E : Env} {N' : Ann} (hm : E.P.follows .mixedOrders = true) (hp : PrimOk E) {n : Nat} {g : FuncId} {cs : List CVal} {c : CVal} {vs : List Value} {w : World} (hrm : E.rm g = none)
    (hg : g ≠ apId) (h : (run E N' (n + 1)).1 g (cs.map .v) [] = some (c, [])) (ha : CsRel (fun _ => False) w false cs vs) (next : Ending → World → Prop)
    (hn : ∀ v w', CRel (fun _ => False) w' c v → RowKit.Below w.heap.size w w' → next (.returned v) w') : Calls E.P g vs.toArray w next := by
  obtain ⟨hC, hL⟩ := run_sound (N' := N') hm hp n
  have hno : ∀ x, ¬ Own ([] : List Hd) ([] : List Blk) x := by
    rintro x ⟨i, blk, h, hb, _⟩
    simp at hb
  have R : Rel (fun _ => False) w ([] : List Hd) (([] : List PB).map startBlk) :=
    ⟨rfl, fun i blk h hb => by simp at hb, fun i j blk blk' h h' x hb => by simp at hb, fun x hx => (hno x hx).elim, fun x hx => hx.elim⟩
  have ha' : AsRel (Or (fun _ => False) (Own ([] : List Hd) (([] : List PB).map startBlk))) w [] (([] : List PB).map startBlk) false (cs.map .v) vs :=
    AsRel.ofC (CsRel.keep (Keep.sub fun x hx => by rcases hx with hx | hx; exact hx; exact (hno x hx).elim) ha)
  simp only [run] at h
  rw [show (g == apId) = false by simpa using hg] at h
  obtain ⟨_, hc⟩ := evF_calls hm hC hL h R ha'
  refine hc (fun v w' => CRel (fun _ => False) w' c v ∧ RowKit.Below w.heap.size w w') (fun v w' μ' p => ?_) next fun v w' h => hn v w' h.1 h.2
  have hv := p.val
  rw [hrm] at hv
  refine ⟨CRel.keep (Keep.sub fun x hx => hx.elim) hv, p.fr.os, p.fr.tape, p.fr.output, p.fr.size, fun k hk => p.fr.block k hk fun h => hno k h⟩
end
end Go.Proofs.Ytlgonbonnjkekaa.Abs

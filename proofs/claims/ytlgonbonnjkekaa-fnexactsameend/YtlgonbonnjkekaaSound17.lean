/- Regions whose order is drawn. -/
import Derived.Test.YtlgonbonnjkekaaSound16
import Derived.Test.YtlgonbonnjkekaaSwap
set_option linter.unusedVariables false
set_option linter.unusedSectionVars false
set_option linter.unusedSimpArgs false
namespace Go.Proofs.Ytlgonbonnjkekaa.Abs
open Go

section
variable {P : Program} {w : World} {F N M : Nat → Prop} {μ : List Hd} {b : List Blk} {R' : Type} {r : R'}

/-- What has come up, and what is left. -/
structure Left (ops : Array Oper) (listed : Array Bool) (rem : List Nat) : Prop where
  size : listed.size = ops.size
  mem : ∀ i, i ∈ rem ↔ i < ops.size ∧ listed.getD i true = false
  nodup : rem.Nodup
  down : ∀ (i : Nat) (o : Oper), ops[i]? = some o → listed.getD i false = true → ∀ e ∈ o.after, Region.binds .any e = true → listed.getD e.on false = true

theorem before_listed {ops : Array Oper} {listed : Array Bool} {rem : List Nat} (L : Left ops listed rem) : ∀ (n : Nat) {i p : Nat} {o : Oper}, ops[i]? = some o →
    (∀ e ∈ o.after, Region.binds .any e = true → listed.getD e.on false = true) → before ops n i p = true → listed.getD p false = true
  | 0, _, _, _, _, _, h => by simp [before] at h
  | n + 1, i, p, o, ho, hd, h => by
    simp only [before, ho, List.any_eq_true, Bool.and_eq_true, Bool.or_eq_true, beq_iff_eq] at h
    obtain ⟨e, he, hb, h⟩ := h
    have hl := hd e (by simpa using he) hb
    rcases h with h | h
    · rw [← h]; exact hl
    · cases hoe : ops[e.on]? with
      | none =>
        cases n with
        | zero => simp [before] at h
        | succ n => simp [before, hoe] at h
      | some o' => exact before_listed L n hoe (fun e' he' hb' => L.down e.on o' hoe hl e' he' hb') h

theorem min_mem : ∀ {l : List Nat}, l ≠ [] → ∃ m ∈ l, ∀ j ∈ l, m ≤ j
  | [], h => absurd rfl h
  | [x], _ => ⟨x, by simp, by simp⟩
  | x :: y :: r, _ => by
    obtain ⟨m, hm, hmin⟩ := min_mem (l := y :: r) (by simp)
    by_cases h : x ≤ m
    · refine ⟨x, by simp, fun j hj => ?_⟩
      rcases List.mem_cons.1 hj with e | e
      · omega
      · have := hmin j e; omega
    · refine ⟨m, List.mem_cons_of_mem _ hm, fun j hj => ?_⟩
      rcases List.mem_cons.1 hj with e | e
      · omega
      · exact hmin j e

theorem Left.ready {ops : Array Oper} {listed : Array Bool} {rem : List Nat} (L : Left ops listed rem) (ht : topo ops = true) (hr : Region.ready .any ops listed = []) : rem = [] := by
  by_cases hne : rem = []
  · exact hne
  · obtain ⟨m, hm, hmin⟩ := min_mem hne
    obtain ⟨hlt, hl⟩ := (L.mem m).1 hm
    have : m ∈ Region.ready .any ops listed := by
      rw [mem_ready]
      refine ⟨hl, ops[m], Array.getElem?_eq_getElem hlt, fun e he hb => ?_⟩
      have h1 := List.all_eq_true.1 ht m (by simpa using hlt)
      simp only [Array.getElem?_eq_getElem hlt] at h1
      have h2 := List.all_eq_true.1 h1 e (by simpa using he)
      simp [hb] at h2
      have h3 : e.on ∉ rem := fun h => by have := hmin _ h; omega
      rw [L.mem] at h3
      have h4 : e.on < ops.size := by omega
      have h5 : e.on < listed.size := by rw [L.size]; exact h4
      have h6 : listed.getD e.on true = listed[e.on] := by simp [Array.getD_eq_getD_getElem?, h5]
      have h7 : listed.getD e.on false = listed[e.on] := by simp [Array.getD_eq_getD_getElem?, h5]
      rw [h7]
      cases hv : listed[e.on] with
      | true => rfl
      | false => exact (h3 ⟨h4, by rw [h6, hv]⟩).elim
    rw [hr] at this; cases this

theorem Left.step {ops : Array Oper} {listed : Array Bool} {pre post : List Nat} {i : Nat} {o : Oper} (L : Left ops listed (pre ++ i :: post)) (ho : ops[i]? = some o)
    (hd : ∀ e ∈ o.after, Region.binds .any e = true → listed.getD e.on false = true) : Left ops (listed.setIfInBounds i true) (pre ++ post) := by
  have hi : i < listed.size := by rw [L.size]; exact (Array.getElem?_eq_some_iff.1 ho).1
  have hn := L.nodup
  rw [List.nodup_append] at hn
  obtain ⟨n1, n2, n3⟩ := hn
  obtain ⟨n4, n5⟩ := List.nodup_cons.1 n2
  have hself : ∀ d, (listed.setIfInBounds i true).getD i d = true := fun d => by simp [Array.getD_eq_getD_getElem?, hi]
  have keep : ∀ j, listed.getD j false = true → (listed.setIfInBounds i true).getD j false = true := by
    intro j hj
    by_cases e : i = j
    · subst e; exact hself _
    · rw [getD_set_ne _ e]; exact hj
  refine ⟨by simp [L.size], fun j => ?_, ?_, fun j o' ho' hj e he hb => ?_⟩
  · have := L.mem j
    simp only [List.mem_append, List.mem_cons] at this ⊢
    by_cases e : i = j
    · subst e
      rw [hself]
      simp only [Bool.true_eq_false, and_false, iff_false, not_or]
      exact ⟨fun h => n3 i h i (by simp) rfl, n4⟩
    · rw [getD_set_ne _ e, ← this]
      constructor
      · rintro (h | h)
        · exact .inl h
        · exact .inr (.inr h)
      · rintro (h | h | h)
        · exact .inl h
        · exact absurd h.symm e
        · exact .inr h
  · rw [List.nodup_append]
    exact ⟨n1, n5, fun a ha c hc => n3 a ha c (List.mem_cons_of_mem _ hc)⟩
  · by_cases e' : i = j
    · subst e'
      rw [ho] at ho'; cases ho'
      exact keep _ (hd e he hb)
    · rw [getD_set_ne _ e'] at hj
      exact keep _ (L.down j o' ho' hj e he hb)

theorem evD_any {E : Env} {C : CallT} {ro : Bool} (hC : COk E C) {ops : Array Oper} (htp : topo ops = true) {b0 : List Blk} {a0 : Act} {w0 : World} {μ0 : List Hd} {K : List AVal → List Blk → Option R'} {Q : Exit → Act → World → Prop}
    (hq : ∀ t' b' a' w' μ', K t' b' = some r → (ro = true → b' = b0) → Now F w0 μ0 b0 w' μ' b' → TRel (Or F (Own μ' b')) w' μ' b' t' a' → Same ops.toList a0 a' → Q .normal a' w') :
    ∀ (fuel : Nat) {rem : List Nat} {acc : List (Nat × Cls)} {listed : Array Bool} {t : List AVal} {b : List Blk} {a : Act} {w : World} {μ : List Hd}, rem.length ≤ fuel → Left ops listed rem →
      Now F w0 μ0 b0 w μ b → TRel (Or F (Own μ b)) w μ b t a → Same ops.toList a0 a → (ro = true → b = b0) → evD E C ro ops rem acc t b K = some r → wpAny E.P .any ops Q fuel listed a w
  | 0, rem, acc, listed, t, b, a, w, μ, hl, L, hn, ht, hs, hro, h => by
    have : rem = [] := List.length_eq_zero_iff.1 (by omega)
    subst this
    refine ⟨?_, hq t b a w μ h hro hn ht hs⟩
    rw [List.eq_nil_iff_forall_not_mem]
    intro j hj
    rw [mem_ready] at hj
    obtain ⟨h1, o, h2, _⟩ := hj
    have := (L.mem j).2 ⟨(Array.getElem?_eq_some_iff.1 h2).1, h1⟩
    cases this
  | fuel + 1, rem, acc, listed, t, b, a, w, μ, hl, L, hn, ht, hs, hro, h => by
    refine ⟨fun hr => ?_, fun i hi => ?_⟩
    · have := L.ready htp hr
      subst this
      exact hq t b a w μ h hro hn ht hs
    · rw [mem_ready] at hi
      obtain ⟨h1, o, ho, hd⟩ := hi
      have hmem : i ∈ rem := (L.mem i).2 ⟨(Array.getElem?_eq_some_iff.1 ho).1, h1⟩
      obtain ⟨pre, post, rfl⟩ := List.append_of_mem hmem
      have hfront := evD_front h fun p hp => by
        cases hb : before ops ops.size i p with
        | false => rfl
        | true =>
          have h2 := before_listed L _ ho hd hb
          have h3 := ((L.mem p).1 (by simp [hp])).2
          rw [Array.getD_eq_getD_getElem?] at h2 h3
          cases hp' : listed[p]? with
          | none => rw [hp'] at h2; cases h2
          | some v => rw [hp'] at h2 h3; simp at h2 h3; rw [h2] at h3; cases h3
      have hstep := L.step ho hd
      simp only [evD, ho] at hfront
      have key := stepK_sound hC ops hn.rel ht hfront Q (wpAny E.P .any ops Q fuel (listed.setIfInBounds i true)) fun ran t1 t' b' a' w' μ' hK hro' hn' ht' hs' => by
        obtain ⟨_, hK⟩ := br_none hK
        refine evD_any hC htp hq fuel (by simp at hl ⊢; omega) hstep (hn.trans hn') ht' (hs.trans (hs'.mono fun o' ho' => ?_)) (fun e => (hro' e).trans (hro e)) hK
        simp at ho'; subst ho'
        exact Array.mem_toList_iff.2 (Array.mem_of_getElem? ho)
      unfold wpOp
      simp only [ho]
      split
      · rename_i hw
        rw [if_pos hw] at key
        exact .inl key
      · rename_i hw
        rw [if_neg hw] at key
        exact key

theorem evD_sound {E : Env} {C : CallT} {ro : Bool} (hm : E.P.follows .mixedOrders = true) (hC : COk E C) {id : Nat} {ops : Array Oper} (htp : topo ops = true) {t : List AVal} {b : List Blk} {a : Act} {w : World} {μ : List Hd} {K : List AVal → List Blk → Option R'}
    (R : Rel F w μ b) (ht : TRel (Or F (Own μ b)) w μ b t a) (h : evD E C ro ops (List.range ops.size) [] t b K = some r) (Q : Exit → Act → World → Prop)
    (hq : ∀ t' b' a' w' μ', K t' b' = some r → (ro = true → b' = b) → Now F w μ b w' μ' b' → TRel (Or F (Own μ' b')) w' μ' b' t' a' → Same ops.toList a a' → Q .normal a' w') :
    (Code.region id ops true).wp E.P Q a w := by
  have hdrew : Now F w μ b { w with drawn := w.drawn + 1 } μ b := (Post.grow (x := .un) (v := undef) (w' := { w with drawn := w.drawn + 1 }) R (Nat.le_refl _) (fun _ _ => rfl) rfl rfl rfl trivial).now
  refine wp_region_any hm (evD_any hC htp (b0 := b) (a0 := a) (w0 := w) (μ0 := μ) hq ops.size (by simp) ⟨by simp, fun i => ?_, List.nodup_range, fun i o ho hl => ?_⟩ hdrew (TRel.upd hdrew.upd ht) .refl (fun _ => rfl) h)
  · simp only [List.mem_range]
    constructor
    · intro hi; exact ⟨hi, by simp [Array.getD_eq_getD_getElem?, hi]⟩
    · exact fun h => h.1
  · have hi := (Array.getElem?_eq_some_iff.1 ho).1
    simp [Array.getD_eq_getD_getElem?, hi] at hl
end
end Go.Proofs.Ytlgonbonnjkekaa.Abs

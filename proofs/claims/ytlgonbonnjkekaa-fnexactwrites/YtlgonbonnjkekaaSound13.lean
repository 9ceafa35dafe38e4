/- Regions in the order of their text. -/
import Derived.Test.YtlgonbonnjkekaaSound12
import Derived.Tactics
set_option linter.unusedVariables false
set_option linter.unusedSectionVars false
set_option linter.unusedSimpArgs false
namespace Go.Proofs.Ytlgonbonnjkekaa.Abs
open Go

section
variable {P : Program} {w : World} {F N M : Nat → Prop} {μ : List Hd} {b : List Blk} {R' : Type} {r : R'}

/-- From one moment of a frame to a later one. -/
structure Now (F : Nat → Prop) (w : World) (μ : List Hd) (b : List Blk) (w' : World) (μ' : List Hd) (b' : List Blk) : Prop where
  upd : Upd F w μ b w' μ' b'
  rel : Rel F w' μ' b'
  fr : Fr (Own μ b) w w'

theorem Now.refl (R : Rel F w μ b) : Now F w μ b w μ b := ⟨.refl R, R, .refl _ _⟩
theorem Now.trans {w1 w2 : World} {μ1 μ2 : List Hd} {b1 b2 : List Blk} (x : Now F w μ b w1 μ1 b1) (y : Now F w1 μ1 b1 w2 μ2 b2) : Now F w μ b w2 μ2 b2 :=
  ⟨x.upd.trans y.upd, y.rel, Fr.step x.upd x.fr y.fr⟩
theorem Post.now {w' : World} {μ' : List Hd} {b' : List Blk} {x : AVal} {v : Value} (p : Post F w μ b w' μ' b' x v) : Now F w μ b w' μ' b' := ⟨p.upd, p.rel, p.fr⟩

theorem skipped_rel : ARel N w μ b skipped undef := ⟨[], rfl, rfl⟩

theorem getD_some {t : List AVal} {g : Nat} {x : AVal} (h : t.getD g .un = x) (hx : x ≠ .un) : t[g]? = some x := by
  rw [List.getD_eq_getElem?_getD] at h
  cases ht : t[g]? with
  | none => rw [ht] at h; exact (hx h.symm).elim
  | some y => rw [ht] at h; simp at h; rw [h]

theorem TRel.at {t : List AVal} {a : Act} {g : Nat} {x : AVal} (ht : TRel N w μ b t a) (h : t[g]? = some x) : ∃ v, a.tmps[g]? = some v ∧ ARel N w μ b x v := by
  obtain ⟨v, hv, hr, _⟩ := AsRel.get ht.1 h
  exact ⟨v, by simpa using hv, hr⟩

/-- Slots that operations leave alone. -/
structure Same (l : List Oper) (a a' : Act) : Prop where
  size : a'.tmps.size = a.tmps.size
  at_ : ∀ i, (∀ o ∈ l, o.dst ≠ some i) → a'.tmps[i]? = a.tmps[i]?
theorem Same.refl {l : List Oper} {a : Act} : Same l a a := ⟨rfl, fun _ _ => rfl⟩
theorem Same.trans {l : List Oper} {a b c : Act} (x : Same l a b) (y : Same l b c) : Same l a c := ⟨y.size.trans x.size, fun i h => (y.at_ i h).trans (x.at_ i h)⟩
theorem Same.put {l : List Oper} {a : Act} {o : Oper} (h : o ∈ l) (v : Value) : Same l a (a.put o.dst v) := by
  unfold Act.put
  cases hd : o.dst with
  | none => exact .refl
  | some d =>
    refine ⟨by simp, fun i hi => ?_⟩
    have : d ≠ i := fun e => hi o h (by rw [hd, e])
    simp [Array.getElem?_setIfInBounds_ne this]
theorem Same.mono {l l' : List Oper} {a b : Act} (h : Same l a b) (hs : ∀ o ∈ l, o ∈ l') : Same l' a b := ⟨h.size, fun i hi => h.at_ i fun o ho => hi o (hs o ho)⟩

theorem stepK_sound {E : Env} {C : CallT} {ro : Bool} (hC : COk E C) (ops : Array Oper) {o : Oper} {t : List AVal} {b : List Blk} {a : Act} {w : World} {μ : List Hd} {K : Bool → List AVal → List AVal → List Blk → Option R'}
    (R : Rel F w μ b) (ht : TRel (Or F (Own μ b)) w μ b t a) (h : stepK E C ro ops o t b K = some r) (Q : Exit → Act → World → Prop) (next : Act → World → Prop)
    (hq : ∀ ran t1 t' b' a' w' μ', K ran t1 t' b' = some r → (ro = true → b' = b) → Now F w μ b w' μ' b' → TRel (Or F (Own μ' b')) w' μ' b' t' a' → Same [o] a a' → next a' w') :
    if Region.wanted o (yielded ops a.tmps) then o.wp E.P a w next Q else next (a.put o.dst undef) w := by
  -- an operation that is carried out
  have go : ∀ {t : List AVal}, TRel (Or F (Own μ b)) w μ b t a → Region.wanted o (yielded ops a.tmps) = true →
      br (ro && !roOp E o t) none (opK E C b.length o t b fun x b => K true t (putA t o.dst x) b) = some r → if Region.wanted o (yielded ops a.tmps) then o.wp E.P a w next Q else next (a.put o.dst undef) w := by
    intro t ht hw h
    rcases br_some h with ⟨_, h⟩ | ⟨hr0, h⟩
    · cases h
    obtain ⟨y, b1, h, hro, hgo⟩ := opK_sound (E := E) rfl R (.inl rfl) ht (fun g args vs h ha => callK_sound hC R (.inl rfl) ha h) (fun c cs h => apF_sound hC R h) h
    rw [if_pos hw]
    refine hgo _ _ fun v w1 μ1 p => ?_
    exact hq _ _ _ _ _ _ _ h (fun e => hro (by rw [e] at hr0; simpa using hr0)) p.now ((TRel.upd p.upd ht).put o.dst p.val) (.put (by simp) v)
  -- an operation that is passed over
  have skip : ∀ {t t1 : List AVal}, TRel (Or F (Own μ b)) w μ b t a → Region.wanted o (yielded ops a.tmps) = false →
      K false t1 (putA t o.dst skipped) b = some r → if Region.wanted o (yielded ops a.tmps) then o.wp E.P a w next Q else next (a.put o.dst undef) w := by
    intro t t1 ht hw h
    rw [if_neg (by simp [hw])]
    exact hq _ _ _ _ _ _ _ h (fun _ => rfl) (.refl R) (ht.put o.dst skipped_rel) (.put (by simp) _)
  unfold stepK at h
  split at h
  · rename_i hg
    exact go ht (by simp [Region.wanted, hg]) h
  · rename_i j want hg
    split at h
    · cases h
    · rename_i g hgs
      have hy : ∀ v, a.tmps[g]? = some v → yielded ops a.tmps j = match v with | .bool b => some b | _ => none := by
        intro v hv
        unfold guardSlot at hgs
        simp only [yielded, hgs, Option.bind_some, hv]
        cases v <;> rfl
      split at h
      · rename_i c hc
        obtain ⟨v, hv, hr⟩ := ht.at (getD_some hc (by simp))
        obtain ⟨p, hp, h⟩ := bind_some' h
        cases c <;> simp [CVal.asBool] at hp
        rename_i p'
        subst hp
        have hvb : v = .bool p' := hr
        subst hvb
        have hyy := hy _ hv
        simp only at hyy
        have hset : TRel (Or F (Own μ b)) w μ b (t.set g (.v (.bool p'))) a := by
          refine ht.set g fun v' hv' => ?_
          rw [hv] at hv'; cases hv'
          rfl
        cases p' with
        | true =>
          rcases br_some h with ⟨_, h⟩ | ⟨h0, _⟩
          · cases want with
            | true =>
              rcases br_some h with ⟨_, h⟩ | ⟨h0, _⟩
              · exact go hset (by simp [Region.wanted, hg, hyy]) h
              · cases h0
            | false =>
              rcases br_some h with ⟨h0, _⟩ | ⟨_, h⟩
              · cases h0
              · exact skip hset (by simp [Region.wanted, hg, hyy]) h
          · cases h0
        | false =>
          rcases br_some h with ⟨h0, _⟩ | ⟨_, h⟩
          · cases h0
          · cases want with
            | true =>
              rcases br_some h with ⟨_, h⟩ | ⟨h0, _⟩
              · exact skip hset (by simp [Region.wanted, hg, hyy]) h
              · cases h0
            | false =>
              rcases br_some h with ⟨h0, _⟩ | ⟨_, h⟩
              · cases h0
              · exact go hset (by simp [Region.wanted, hg, hyy]) h
      · rename_i hc
        obtain ⟨v, hv, hr⟩ := ht.at (getD_some hc (by simp))
        obtain ⟨vs, rfl, hvs⟩ := hr
        have hyy := hy _ hv
        exact skip ht (by simp [Region.wanted, hg, hyy]) h
      · cases h

theorem evOps_sound {E : Env} {C : CallT} {ro : Bool} (hC : COk E C) (ops : Array Oper) : ∀ (l : List Oper) {t : List AVal} {b : List Blk} {a : Act} {w : World} {μ : List Hd} {K : List AVal → List Blk → Option R'},
    Rel F w μ b → TRel (Or F (Own μ b)) w μ b t a → evOps E C ro ops l t b K = some r → ∀ Q : Exit → Act → World → Prop,
      (∀ t' b' a' w' μ', K t' b' = some r → (ro = true → b' = b) → Now F w μ b w' μ' b' → TRel (Or F (Own μ' b')) w' μ' b' t' a' → Same l a a' → Q .normal a' w') → wpList E.P ops Q l a w
  | [], t, b, a, w, μ, K, R, ht, h, Q, hq => hq t b a w μ h (fun _ => rfl) (.refl R) ht .refl
  | o :: rest, t, b, a, w, μ, K, R, ht, h, Q, hq => by
    simp only [evOps] at h
    have key := stepK_sound hC ops R ht h Q (wpList E.P ops Q rest) fun ran t1 t' b' a' w' μ' hK hro hn ht' hs => by
      refine evOps_sound hC ops rest hn.rel ht' hK Q fun t2 b2 a2 w2 μ2 hK2 hro2 hn2 ht2 hs2 => ?_
      exact hq t2 b2 a2 w2 μ2 hK2 (fun e => (hro2 e).trans (hro e)) (hn.trans hn2) ht2 ((hs.mono fun o ho => by simp at ho; simp [ho]).trans (hs2.mono fun o ho => by simp [ho]))
    unfold wpList
    split
    · rename_i hw
      rw [if_pos hw] at key
      exact .inl key
    · rename_i hw
      rw [if_neg hw] at key
      exact key
end
end Go.Proofs.Ytlgonbonnjkekaa.Abs

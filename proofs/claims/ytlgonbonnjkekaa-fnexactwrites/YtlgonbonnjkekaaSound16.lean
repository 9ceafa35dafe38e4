/- A function's end. -/
import Derived.Test.YtlgonbonnjkekaaSound15
set_option linter.unusedVariables false
set_option linter.unusedSectionVars false
set_option linter.unusedSimpArgs false
namespace Go.Proofs.Ytlgonbonnjkekaa.Abs
open Go

section
variable {P : Program} {w : World} {F N M : Nat → Prop} {μ : List Hd} {b : List Blk} {R' : Type} {r : R'}

def endB : Option Nat → List CVal → Blk
  | some sz, l => ⟨0, .arr sz l⟩
  | none, l => ⟨0, .box (l.map .v)⟩
def endS (np : List (Option Nat)) (ls : List (List CVal)) : List Blk := List.zipWith endB np ls

/-- What a function's end leaves. -/
structure RetP (P : Program) (fn : Func) (rm : Option Nat) (np : List (Option Nat)) (F : Nat → Prop) (w : World) (μ : List Hd) (b : List Blk) (ret : Ret) (a : Act) (w' : World) : Prop where
  defers : a.defers = []
  out : ∃ v μ', (results fn a.tmps).run P w' = .ok v w' ∧ NowL np.length F w μ b w' μ' (endS np ret.2) ∧ ret.2.length = np.length ∧
    match rm with
    | none => CRel (Or F (Own μ' (endS np ret.2))) w' ret.1 v
    | some j => ∃ (h : Hd) (sz : Nat), μ'[j]? = some h ∧ np[j]? = some (some sz) ∧ v = h.val

theorem RetP.pre {fn : Func} {rm : Option Nat} {np : List (Option Nat)} {ret : Ret} {a : Act} {w1 w' : World} {μ1 : List Hd} {b1 : List Blk} (h : NowL np.length F w μ b w1 μ1 b1)
    (k : RetP P fn rm np F w1 μ1 b1 ret a w') : RetP P fn rm np F w μ b ret a w' := by
  obtain ⟨hd, v, μ', h1, h2, h3⟩ := k
  exact ⟨hd, v, μ', h1, h.trans h2, h3⟩

theorem run_mapM' {α β : Type} (f : α → Sem β) : ∀ (l : List α) (vs : List β), vs.length = l.length → (∀ (i : Nat) (x : α) (v : β), l[i]? = some x → vs[i]? = some v → (f x).run P w = .ok v w) → (l.mapM f).run P w = .ok vs w
  | [], [], _, _ => by simp
  | [], _ :: _, h, _ => by simp at h
  | _ :: _, [], h, _ => by simp at h
  | x :: r, v :: vs, hl, h => by
    have ih := run_mapM' f r vs (by simpa using hl) fun i y u hy hu => h (i + 1) y u (by simpa using hy) (by simpa using hu)
    simp [List.mapM_cons, h 0 x v rfl rfl, ih]

def resultOf (tmps : Array Value) : ResultVar → Sem Value
  | .tmp t => pure (tmps.getD t undef)
  | .cell a t => do loadVar t (← asAddr (tmps.getD a undef))

theorem finVals_sound {E : Env} {t : List AVal} {a : Act} : ∀ {l : List (ResultVar × TypeId)} {b : List Blk} {K : List CVal → List Blk → Option R'}, Rel F w μ b → TRel (Or F (Own μ b)) w μ b t a → finVals E t l b K = some r →
    ∃ cs b' vs, K cs b' = some r ∧ Sub b' b ∧ Upd F w μ b w μ b' ∧ Rel F w μ b' ∧ vs.length = l.length ∧ (∀ (i : Nat) (x : ResultVar × TypeId) (v : Value), l[i]? = some x → vs[i]? = some v → (resultOf a.tmps x.1).run E.P w = .ok v w) ∧
      CsRel (Or F (Own μ b')) w false cs vs
  | [], b, K, R, ht, h => ⟨[], b, [], h, .refl _, .refl R, R, rfl, (fun i x v hi _ => by simp at hi), rfl⟩
  | (.tmp i, ty) :: rest, b, K, R, ht, h => by
    simp only [finVals] at h
    have hev := ht.eval (.tmp i)
    simp only [evalA] at hev
    obtain ⟨c, b1, h, s1, U1, R1, hc⟩ := closeRK_sound R hev h
    obtain ⟨cs, b', vs, h, s2, U2, R2, hl, hrun, hcs⟩ := finVals_sound R1 (TRel.upd U1 ht) h
    refine ⟨c :: cs, b', a.eval (.tmp i) :: vs, h, s2.trans s1, U1.trans U2, R2, by simp [hl], fun j x v hj hv => ?_, _, _, rfl, CRel.keep (Keep.sub fun z hz => hz.imp id fun ho => s2.own ho) hc, by simp, hcs⟩
    cases j with
    | zero => simp at hj hv; subst hj hv; rfl
    | succ j => exact hrun j x v (by simpa using hj) (by simpa using hv)
  | (.cell ad ty', ty) :: rest, b, K, R, ht, h => by
    simp only [finVals] at h
    have hev := ht.eval (.tmp ad)
    simp only [evalA] at hev
    obtain ⟨x, h, u, hu, hx⟩ := loadK_sound R hev h
    obtain ⟨c, b1, h, s1, U1, R1, hc⟩ := closeRK_sound R hx h
    obtain ⟨cs, b', vs, h, s2, U2, R2, hl, hrun, hcs⟩ := finVals_sound R1 (TRel.upd U1 ht) h
    refine ⟨c :: cs, b', u :: vs, h, s2.trans s1, U1.trans U2, R2, by simp [hl], fun j x v hj hv => ?_, _, _, rfl, CRel.keep (Keep.sub fun z hz => hz.imp id fun ho => s2.own ho) hc, by simp, hcs⟩
    cases j with
    | zero =>
      simp at hj hv; subst hj hv
      simp only [resultOf]
      simp only [Instr.loadAt, Act.eval] at hu
      generalize a.tmps.getD ad undef = v at hu ⊢
      cases v with
      | pointer p =>
        cases p with
        | none => simp [Instr.sureAddr, stuck] at hu
        | some ad => exact hu
      | _ => simp [Instr.sureAddr, stuck] at hu
    | succ j => exact hrun j x v (by simpa using hj) (by simpa using hv)

/-- What is handed back of what was handed in. -/
theorem finBlks_sound : ∀ {np : List (Option Nat)} {j : Nat} {b : List Blk} {K : List (List CVal) → List Blk → Option R'}, Rel F w μ b → finBlks j np b K = some r →
    ∃ ls b', K ls b' = some r ∧ Sub b' b ∧ Upd F w μ b w μ b' ∧ Rel F w μ b' ∧ ls.length = np.length ∧ ∀ (k : Nat) (p : Option Nat) (l : List CVal), np[k]? = some p → ls[k]? = some l → aliveAt b' (j + k) = true →
      ∃ blk, b'[j + k]? = some blk ∧ ((∃ sz, p = some sz ∧ blk.body = .arr sz l) ∨ (p = none ∧ ∃ cs x vs e, blk.body = .box cs ∧ μ[j + k]? = some (.box x) ∧ w.heap[x]? = some (.cells (List.toArray vs) e (0, 0)) ∧
        ∀ (M : Nat → Prop), (∀ x, M x → Or F (Own μ b') x) → CsRel M w true l vs))
  | [], j, b, K, R, h => ⟨[], b, h, .refl _, .refl R, R, rfl, fun k p l hk _ _ => by simp at hk⟩
  | p :: rest, j, b, K, R, h => by
    simp only [finBlks] at h
    split at h
    · rename_i ver sz xs hb
      obtain ⟨hp, h'⟩ := br_none h
      clear h
      have hp : p = some sz := by simpa using hp
      subst hp
      have h := h'
      obtain ⟨ls, b', h, hs, U, R', hl, hat⟩ := finBlks_sound R h
      refine ⟨_, b', h, hs, U, R', by simp [hl], fun k p l hk hlk ha => ?_⟩
      cases k with
      | zero =>
        simp at hk hlk; subst hk hlk
        obtain ⟨blk, hb3, hal⟩ := aliveAt_some ha
        have := hs.at_ _ _ hb3 hal
        rw [Nat.add_zero, hb] at this; cases this
        exact ⟨_, hb3, .inl ⟨sz, rfl, rfl⟩⟩
      | succ k =>
        have := hat k p l (by simpa using hk) (by simpa using hlk) (by rw [show j + 1 + k = j + (k + 1) by omega]; exact ha)
        rw [show j + 1 + k = j + (k + 1) by omega] at this
        exact this
    · rename_i ver cs hb
      obtain ⟨hp, h'⟩ := br_none h
      clear h
      have hp : p = none := by simpa using hp
      subst hp
      have h := h'
      obtain ⟨xs, hxs, h⟩ := bind_some' h
      obtain ⟨U0, R0⟩ := killL_upd cs R
      obtain ⟨ls, b', h, hs, U, R', hl, hat⟩ := finBlks_sound R0 h
      refine ⟨_, b', h, hs.trans (killL_sub cs b), U0.trans U, R', by simp [hl], fun k p l hk hlk ha => ?_⟩
      cases k with
      | zero =>
        simp at hk hlk; subst hk hlk
        obtain ⟨blk, hb3, hal⟩ := aliveAt_some ha
        have := (hs.trans (killL_sub cs b)).at_ _ _ hb3 hal
        rw [Nat.add_zero, hb] at this; cases this
        have hbox : boxOf b j = some cs := by simp [boxOf, hb]
        obtain ⟨ver', x, vs, e, _, hm, hw, har, _⟩ := R.box hbox
        have hcl := closeL_sound R (killL_sub cs b) hxs har (killL_dead cs b)
        exact ⟨_, hb3, .inr ⟨rfl, cs, x, vs, e, rfl, hm, hw, fun M hM => CsRel.keep (Keep.sub fun x hx => (hM x hx).imp id fun ho => hs.own ho) hcl⟩⟩
      | succ k =>
        have := hat k p l (by simpa using hk) (by simpa using hlk) (by rw [show j + 1 + k = j + (k + 1) by omega]; exact ha)
        rw [show j + 1 + k = j + (k + 1) by omega] at this
        exact this
    · cases h

theorem endS_get {np : List (Option Nat)} {ls : List (List CVal)} {k : Nat} {blk : Blk} (h : (endS np ls)[k]? = some blk) : ∃ p l, np[k]? = some p ∧ ls[k]? = some l ∧ blk = endB p l := by
  unfold endS at h
  rw [List.getElem?_zipWith] at h
  split at h
  · rename_i p l h1 h2; simp at h; exact ⟨p, l, h1, h2, h.symm⟩
  · cases h

/-- The blocks that were handed in, as they are handed back. -/
theorem end_rel {np : List (Option Nat)} {ls : List (List CVal)} (R : Rel F w μ b) (hl : ls.length = np.length) (hnp : np.length ≤ μ.length)
    (hat : ∀ (k : Nat) (p : Option Nat) (l : List CVal), np[k]? = some p → ls[k]? = some l →
      ∃ blk, b[k]? = some blk ∧ ((∃ sz, p = some sz ∧ blk.body = .arr sz l) ∨ (p = none ∧ ∃ cs x vs e, blk.body = .box cs ∧ μ[k]? = some (.box x) ∧ w.heap[x]? = some (.cells (List.toArray vs) e (0, 0)) ∧
        ∀ (M : Nat → Prop), (∀ x, M x → Or F (Own μ b) x) → CsRel M w true l vs))) :
    NowL np.length F w μ b w (μ.take np.length) (endS np ls) := by
  have hm : ∀ {k : Nat} {h : Hd}, (μ.take np.length)[k]? = some h → k < np.length ∧ μ[k]? = some h := by
    intro k h hk
    rw [List.getElem?_take] at hk
    split at hk
    · exact ⟨by assumption, hk⟩
    · cases hk
  have own : ∀ (k : Nat) (blk : Blk) (h : Hd) (z : Nat), (endS np ls)[k]? = some blk → (μ.take np.length)[k]? = some h → h.own = some z →
      ∃ blk', b[k]? = some blk' ∧ alive blk'.body = true ∧ μ[k]? = some h := by
    intro k blk h z hb hk ho
    obtain ⟨p, l, h1, h2, rfl⟩ := endS_get hb
    obtain ⟨blk', hb', hor⟩ := hat k p l h1 h2
    refine ⟨blk', hb', ?_, (hm hk).2⟩
    rcases hor with ⟨sz, _, e⟩ | ⟨_, cs, x, vs, ee, e, _⟩ <;> rw [e] <;> rfl
  have sub : ∀ z, Own (μ.take np.length) (endS np ls) z → Own μ b z := by
    rintro z ⟨k, blk, h, hb, ha, hk, ho⟩
    obtain ⟨blk', h1, h2, h3⟩ := own k blk h z hb hk ho
    exact ⟨k, blk', h, h1, h2, h3, ho⟩
  have hM : ∀ z, Or F (Own (μ.take np.length) (endS np ls)) z → Or F (Own μ b) z := fun z hz => hz.imp id (sub z)
  have hlen : (endS np ls).length = np.length := by simp [endS, hl]
  refine ⟨⟨by rw [hlen, List.length_take]; omega, ?_, ?_, fun z hz => R.fres z (sub z hz), R.fb⟩, ?_, fun z hz => ⟨(R.fres z (sub z hz)).2, .inr (sub z hz)⟩, .refl _ _, by omega⟩
  · intro k blk h hb hk
    obtain ⟨p, l, h1, h2, rfl⟩ := endS_get hb
    obtain ⟨blk', hb', hor⟩ := hat k p l h1 h2
    obtain ⟨_, hmk⟩ := hm hk
    rcases hor with ⟨sz, rfl, e⟩ | ⟨rfl, cs, x, vs, ee, e, hmb, hw, hc⟩
    · have hB := R.blk k blk' h hb' hmk
      rw [e] at hB
      obtain ⟨base, cap, k1, k2, k3⟩ := hB
      exact ⟨base, cap, k1, k2, k3.imp id fun ⟨z, cells, e, g1, g2, g3, g4⟩ => ⟨z, cells, e, g1, g2, g3, ElRel.keepAt (Keep.sub hM) rfl g4⟩⟩
    · rw [hmk] at hmb; cases hmb
      exact ⟨x, vs, ee, rfl, hw, AsRel.ofC (hc _ hM)⟩
  · intro k k' blk blk' h h' z hb hb' ha ha' hk hk' ho ho'
    obtain ⟨b1, h1, h2, h3⟩ := own k blk h z hb hk ho
    obtain ⟨b1', h1', h2', h3'⟩ := own k' blk' h' z hb' hk' ho'
    exact R.inj k k' b1 b1' h h' z h1 h1' h2 h2' h3 h3' ho ho'
  · intro j x hj hx
    rw [List.getElem?_take_of_lt hj]; exact hx

theorem finK_sound {E : Env} {f : FuncId} {fn : Func} {np : List (Option Nat)} {s : St} {a : Act} {K : Ret → Option R'} (R : Rel F w μ s.b) (ht : TRel (Or F (Own μ s.b)) w μ s.b s.t a) (hnp : np.length ≤ s.b.length)
    (hres : fn.results.size = fn.resultTypes.size) (h : finK E f fn np s K = some r) : ∃ ret, K ret = some r ∧ RetP E.P fn (E.rm f) np F w μ s.b ret a w := by
  have hnp' : np.length ≤ μ.length := by rw [R.len]; exact hnp
  have allAlive : ∀ {b' : List Blk} {ls : List (List CVal)}, (List.range np.length).all (aliveAt b') = true → ∀ k (p : Option Nat), np[k]? = some p → aliveAt b' k = true := by
    intro b' ls hal k p hk
    exact List.all_eq_true.1 hal k (by simp; exact (List.getElem?_eq_some_iff.1 hk).1)
  unfold finK at h
  split at h
  · rename_i hrm
    obtain ⟨cs, b1, vs, h, s1, U1, R1, hl, hrun, hcs⟩ := finVals_sound R ht h
    obtain ⟨ls, b2, h, s2, U2, R2, hll, hat⟩ := finBlks_sound R1 h
    obtain ⟨hal, h⟩ := br_none h
    have hend := end_rel R2 hll hnp' fun k p l hk hlk => by
      have := hat k p l hk hlk (by rw [Nat.zero_add]; exact allAlive (ls := ls) hal k p hk)
      simpa using this
    have hpre : NowL np.length F w μ s.b w μ b2 := ⟨R2, fun _ _ _ h => h, fun x hx => ⟨(R2.fres x hx).2, .inr ((s2.trans s1).own hx)⟩, .refl _ _, by rw [(s2.trans s1).len]; exact hnp⟩
    have hresults : (results fn a.tmps).run E.P w = .ok (if h : vs.length = 1 then vs[0] else .tuple vs.toArray) w := by
      have hm : (fn.results.mapM (m := Sem) (resultOf a.tmps)).run E.P w = .ok vs.toArray w := by
        rw [Array.mapM_eq_mapM_toList]
        have hlen : vs.length = fn.results.toList.length := by rw [hl]; simp [hres]
        have := run_mapM' (P := E.P) (w := w) (resultOf a.tmps) fn.results.toList vs hlen fun i x v hx hv => by
          have hi : i < fn.resultTypes.toList.length := by
            have := (List.getElem?_eq_some_iff.1 hx).1
            simp at this ⊢; omega
          exact hrun i (x, fn.resultTypes.toList[i]) v (by rw [List.getElem?_zip_eq_some]; exact ⟨hx, List.getElem?_eq_getElem hi⟩) hv
        simp [Sem.run_map, this]
      unfold results
      change (do let vs ← fn.results.mapM (m := Sem) (resultOf a.tmps); pure (if h : vs.size = 1 then vs[0] else .tuple vs) : Sem Value).run E.P w = _
      simp only [Sem.run_bind, hm, Result.andThen_ok, Sem.run_pure]
      congr 1
    have hsub : ∀ z, Or F (Own (μ.take np.length) (endS np ls)) z → Or F (Own μ b1) z := by
      rintro z (hz | hz)
      · exact .inl hz
      · rcases (hend.own z hz).2 with h | h
        · have := (hend.own z hz).1; omega
        · exact .inr (s2.own h)
    have hcs' := CsRel.keep (Keep.sub hsub) hcs
    have hvl := hcs.len
    split at h
    · rename_i c
      refine ⟨_, h, ht.2, _, _, hresults, hpre.trans hend, hll, ?_⟩
      obtain ⟨u, us, rfl, hu, _, hus⟩ := hcs'
      have : us = [] := hus
      subst this
      simpa [hrm] using hu
    · rename_i hne
      refine ⟨_, h, ht.2, _, _, hresults, hpre.trans hend, hll, ?_⟩
      have h1 : ¬ vs.length = 1 := by
        intro e
        rw [hvl] at e
        obtain ⟨c, rfl⟩ := List.length_eq_one_iff.1 e
        exact hne c rfl
      simp only [h1, dif_neg, not_false_eq_true, hrm]
      exact ⟨vs, rfl, hcs'⟩
  · rename_i j hrm
    split at h
    · rename_i i hri
      split at h
      · rename_i i' ver hi'
        obtain ⟨h0, h'⟩ := br_none h
        clear h
        simp only [Bool.and_eq_true, decide_eq_true_eq] at h0
        obtain ⟨⟨hij, hver⟩, hsome⟩ := h0
        subst hij
        have h := h'
        obtain ⟨ls, b2, h, s2, U2, R2, hll, hat⟩ := finBlks_sound R h
        obtain ⟨hal, h⟩ := br_none h
        have hend := end_rel R2 hll hnp' fun k p l hk hlk => by
          have := hat k p l hk hlk (by rw [Nat.zero_add]; exact allAlive (ls := ls) hal k p hk)
          simpa using this
        have hpre : NowL np.length F w μ s.b w μ b2 := ⟨R2, fun _ _ _ h => h, fun x hx => ⟨(R2.fres x hx).2, .inr (s2.own hx)⟩, .refl _ _, by rw [s2.len]; exact hnp⟩
        obtain ⟨v, hv, hr⟩ := ht.at (getD_some hi' (by simp))
        obtain ⟨hfl, blk, hd, hb, hm, hn, hle, hcur⟩ := hr
        obtain ⟨p, hp⟩ := Option.isSome_iff_exists.1 hsome
        have hil : i' < ls.length := by rw [hll]; exact (List.getElem?_eq_some_iff.1 hp).1
        obtain ⟨blk2, hb2, hor⟩ := hat i' p _ hp (List.getElem?_eq_getElem hil) (by rw [Nat.zero_add]; exact allAlive (ls := ls) hal i' p hp)
        rw [Nat.zero_add] at hb2 hor
        have hal2 : alive blk2.body = true := by
          rcases hor with ⟨sz, _, e⟩ | ⟨_, cs, x, vs, ee, e, _⟩ <;> rw [e] <;> rfl
        have := s2.at_ _ _ hb2 hal2
        rw [hb] at this; cases this
        obtain ⟨xs, hxs⟩ := Option.isSome_iff_exists.1 hver
        obtain ⟨_, _, _, hb', _⟩ := R.arr hxs
        rw [hb] at hb'; cases hb'
        have hvb : ver = ver := rfl
        have hrsz : fn.results.size = 1 := by rw [← Array.length_toList, hri]; rfl
        have hresults : (results fn a.tmps).run E.P w = .ok v w := by
          have hfr : fn.results = #[.tmp i] := by apply Array.ext'; exact hri
          unfold results
          rw [hfr]
          simp [hv]
        have hval := hcur rfl rfl
        obtain ⟨sz, hpz⟩ : ∃ sz, p = some sz := by
          rcases hor with ⟨sz, e, _⟩ | ⟨_, cs, x, vs, ee, e, _⟩
          · exact ⟨sz, e⟩
          · cases e
        subst hpz
        refine ⟨_, h, ht.2, v, _, hresults, hpre.trans hend, hll, ?_⟩
        simp only [hrm]
        exact ⟨hd, sz, by rw [List.getElem?_take_of_lt (List.getElem?_eq_some_iff.1 hp).1]; exact hm, hp, hval⟩
      · cases h
    · cases h
end
end Go.Proofs.Ytlgonbonnjkekaa.Abs

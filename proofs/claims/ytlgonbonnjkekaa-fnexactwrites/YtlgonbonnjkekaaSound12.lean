/- Calls. -/
import Derived.Test.YtlgonbonnjkekaaSound11
set_option linter.unusedVariables false
set_option linter.unusedSectionVars false
set_option linter.unusedSimpArgs false
namespace Go.Proofs.Ytlgonbonnjkekaa.Abs
open Go

section
variable {P : Program} {w : World} {F N M : Nat → Prop} {μ : List Hd} {b : List Blk} {R' : Type} {r : R'}

/-- The contents that are handed over, as they stand at last. -/
def PBok (F : Nat → Prop) (w : World) (μ : List Hd) (b : List Blk) (i : Nat) (p : PB) : Prop :=
  ∃ blk, b[i]? = some blk ∧ ((∃ sz xs, p = ⟨true, sz, xs⟩ ∧ blk.body = .arr sz xs) ∨
    (∃ cs xs, p = ⟨false, 0, xs⟩ ∧ blk.body = .box cs ∧ ∃ x vs e, μ[i]? = some (.box x) ∧ w.heap[x]? = some (.cells (List.toArray vs) e (0, 0)) ∧
      ∀ (M : Nat → Prop), (∀ x, M x → Or F (Own μ b) x) → CsRel M w true xs vs))

theorem aliveAt_some {i : Nat} (h : aliveAt b i = true) : ∃ blk, b[i]? = some blk ∧ alive blk.body = true := by
  unfold aliveAt at h
  split at h
  · rename_i ver sz xs hb; exact ⟨_, hb, rfl⟩
  · rename_i ver cs hb; exact ⟨_, hb, rfl⟩
  · cases h

theorem handBlks_sound : ∀ {ids : List Nat} {b : List Blk} {K : List PB → List Blk → Option R'}, Rel F w μ b → handBlks ids b K = some r →
    ∃ pbs b3, K pbs b3 = some r ∧ Sub b3 b ∧ Upd F w μ b w μ b3 ∧ Rel F w μ b3 ∧ pbs.length = ids.length ∧ (ids = [] → b3 = b) ∧ ∀ (j i : Nat) (p : PB), ids[j]? = some i → pbs[j]? = some p → aliveAt b3 i = true → PBok F w μ b3 i p
  | [], b, K, R, h => ⟨[], b, h, .refl _, .refl R, R, rfl, fun _ => rfl, fun j i p hj _ _ => by simp at hj⟩
  | i :: rest, b, K, R, h => by
    simp only [handBlks] at h
    split at h
    · rename_i ver sz xs hb
      obtain ⟨pbs, b3, h, hs, U, R3, hl, _, hp⟩ := handBlks_sound R h
      refine ⟨_, b3, h, hs, U, R3, by simp [hl], by simp, fun j k p hj hpj ha => ?_⟩
      cases j with
      | zero =>
        simp at hj hpj; subst hj hpj
        obtain ⟨blk, hb3, hal⟩ := aliveAt_some ha
        have := hs.at_ _ _ hb3 hal
        rw [hb] at this; cases this
        exact ⟨_, hb3, .inl ⟨sz, xs, rfl, rfl⟩⟩
      | succ j => exact hp j k p (by simpa using hj) (by simpa using hpj) ha
    · rename_i ver cs hb
      obtain ⟨xs, hxs, h⟩ := bind_some' h
      obtain ⟨U0, R0⟩ := killL_upd cs R
      obtain ⟨pbs, b3, h, hs, U, R3, hl, _, hp⟩ := handBlks_sound R0 h
      refine ⟨_, b3, h, hs.trans (killL_sub cs b), U0.trans U, R3, by simp [hl], by simp, fun j k p hj hpj ha => ?_⟩
      cases j with
      | zero =>
        simp at hj hpj; subst hj hpj
        obtain ⟨blk, hb3, hal⟩ := aliveAt_some ha
        have := (hs.trans (killL_sub cs b)).at_ _ _ hb3 hal
        rw [hb] at this; cases this
        have hbox : boxOf b i = some cs := by simp [boxOf, hb]
        obtain ⟨ver', x, vs, e, _, hm, hw, har, _⟩ := R.box hbox
        have hcl := closeL_sound R (killL_sub cs b) hxs har (killL_dead cs b)
        exact ⟨_, hb3, .inr ⟨cs, xs, rfl, rfl, x, vs, e, hm, hw, fun M hM => CsRel.keep (Keep.sub fun x hx => (hM x hx).imp id fun ho => hs.own ho) hcl⟩⟩
      | succ j => exact hp j k p (by simpa using hj) (by simpa using hpj) ha
    · cases h

theorem hsOf_at {ids : List Nat} {j : Nat} {hd : Hd} (h : (hsOf μ ids)[j]? = some hd) : ∃ i, ids[j]? = some i ∧ hd = (μ[i]?).getD .none := by
  unfold hsOf at h
  rw [List.getElem?_map] at h
  cases hi : ids[j]? with
  | none => simp [hi] at h
  | some i => simp [hi] at h; exact ⟨i, rfl, h.symm⟩

theorem nodup_inj : ∀ {l : List Nat} {j k i : Nat}, l.Nodup → l[j]? = some i → l[k]? = some i → j = k
  | [], j, _, _, _, h, _ => by simp at h
  | x :: r, 0, 0, _, _, _, _ => rfl
  | x :: r, 0, k + 1, i, n, h, h' => by
    simp at h h'; subst h
    exact ((List.nodup_cons.1 n).1 (List.mem_of_getElem? h')).elim
  | x :: r, j + 1, 0, i, n, h, h' => by
    simp at h h'; subst h'
    exact ((List.nodup_cons.1 n).1 (List.mem_of_getElem? h)).elim
  | x :: r, j + 1, k + 1, i, n, h, h' => by
    have e : j = k := nodup_inj (List.nodup_cons.1 n).2 (by simpa using h) (by simpa using h')
    rw [e]

/-- What the callee may not have as data. -/
structure Hidden (F M : Nat → Prop) (μ : List Hd) (b : List Blk) (ids : List Nat) : Prop where
  low : ∀ x, F x → M x
  up : ∀ x, M x → Or F (Own μ b) x
  off : ∀ (x i : Nat) (h : Hd), M x → i ∈ ids → μ[i]? = some h → h.own ≠ some x

theorem start_at {pbs : List PB} {j : Nat} {blk : Blk} (h : (pbs.map startBlk)[j]? = some blk) : ∃ p, pbs[j]? = some p ∧ blk = startBlk p := by
  rw [List.getElem?_map] at h
  cases hp : pbs[j]? with
  | none => simp [hp] at h
  | some p => simp [hp] at h; exact ⟨p, rfl, h.symm⟩

theorem start_own {ids : List Nat} {pbs : List PB} (R : Rel F w μ b) (hl : pbs.length = ids.length) (hp : ∀ (j i : Nat) (p : PB), ids[j]? = some i → pbs[j]? = some p → PBok F w μ b i p) {x : Nat}
    (h : Own (hsOf μ ids) (pbs.map startBlk) x) : ∃ (j i : Nat) (blk : Blk) (hd : Hd), ids[j]? = some i ∧ b[i]? = some blk ∧ alive blk.body = true ∧ μ[i]? = some hd ∧ hd.own = some x := by
  obtain ⟨j, blk, hd, hb, ha, hm, ho⟩ := h
  obtain ⟨i, hi, rfl⟩ := hsOf_at hm
  obtain ⟨p, hpj, rfl⟩ := start_at hb
  obtain ⟨blk, hb3, hor⟩ := hp j i p hi hpj
  have hal : alive blk.body = true := by
    rcases hor with ⟨sz, xs, _, e⟩ | ⟨cs, xs, _, e, _⟩ <;> rw [e] <;> rfl
  cases hmi : μ[i]? with
  | none => simp [hmi, Hd.own] at ho
  | some h0 => simp [hmi] at ho; exact ⟨j, i, blk, h0, hi, hb3, hal, hmi, ho⟩

theorem callee_rel {ids : List Nat} {pbs : List PB} (R : Rel F w μ b) (hn : ids.Nodup) (hl : pbs.length = ids.length)
    (hp : ∀ (j i : Nat) (p : PB), ids[j]? = some i → pbs[j]? = some p → PBok F w μ b i p) (H : Hidden F M μ b ids) : Rel M w (hsOf μ ids) (pbs.map startBlk) := by
  have hM : ∀ x, Or M (Own (hsOf μ ids) (pbs.map startBlk)) x → Or F (Own μ b) x := by
    rintro x (hx | hx)
    · exact H.up x hx
    · obtain ⟨j, i, blk, hd, _, h1, h2, h3, h4⟩ := start_own R hl hp hx
      exact .inr ⟨i, blk, hd, h1, h2, h3, h4⟩
  refine ⟨by simp [hsOf, hl], ?_, ?_, ?_, ?_⟩
  · intro j blk hd hb hm
    obtain ⟨i, hi, rfl⟩ := hsOf_at hm
    obtain ⟨p, hpj, rfl⟩ := start_at hb
    obtain ⟨blk, hb3, hor⟩ := hp j i p hi hpj
    have hil : i < μ.length := by rw [R.len]; exact (List.getElem?_eq_some_iff.1 hb3).1
    have hmi : μ[i]? = some μ[i] := List.getElem?_eq_getElem hil
    have hB := R.blk i blk _ hb3 hmi
    rw [hmi]
    rcases hor with ⟨sz, xs, rfl, e⟩ | ⟨cs, xs, rfl, e, x, vs, ee, hm', hw, hc⟩
    · rw [e] at hB
      obtain ⟨base, cap, h1, h2, h3⟩ := hB
      refine ⟨base, cap, h1, h2, h3.imp id ?_⟩
      rintro ⟨x, cells, ee, hb, hw, hz, he⟩
      exact ⟨x, cells, ee, hb, hw, hz, ElRel.keepAt (Keep.sub hM) rfl he⟩
    · have hμ : μ[i] = .box x := by rw [hm'] at hmi; exact (Option.some.inj hmi).symm
      exact ⟨x, vs, ee, hμ, hw, AsRel.ofC (hc _ hM)⟩
  · intro j k blk blk' hd hd' x hb hb' ha ha' hm hm' ho ho'
    obtain ⟨i, hi, rfl⟩ := hsOf_at hm
    obtain ⟨i', hi', rfl⟩ := hsOf_at hm'
    obtain ⟨p, hpj, rfl⟩ := start_at hb
    obtain ⟨p', hpj', rfl⟩ := start_at hb'
    obtain ⟨blk, hb3, hor⟩ := hp j i p hi hpj
    obtain ⟨blk', hb3', hor'⟩ := hp k i' p' hi' hpj'
    have hal : alive blk.body = true := by
      rcases hor with ⟨sz, xs, _, e⟩ | ⟨cs, xs, _, e, _⟩ <;> rw [e] <;> rfl
    have hal' : alive blk'.body = true := by
      rcases hor' with ⟨sz, xs, _, e⟩ | ⟨cs, xs, _, e, _⟩ <;> rw [e] <;> rfl
    have hil : i < μ.length := by rw [R.len]; exact (List.getElem?_eq_some_iff.1 hb3).1
    have hil' : i' < μ.length := by rw [R.len]; exact (List.getElem?_eq_some_iff.1 hb3').1
    rw [List.getElem?_eq_getElem hil] at ho
    rw [List.getElem?_eq_getElem hil'] at ho'
    have := R.inj i i' blk blk' _ _ x hb3 hb3' hal hal' (List.getElem?_eq_getElem hil) (List.getElem?_eq_getElem hil') ho ho'
    subst this
    have hj := (List.getElem?_eq_some_iff.1 hi).1
    exact nodup_inj hn hi hi'
  · intro x hx
    obtain ⟨j, i, blk, hd, hi, h1, h2, h3, h4⟩ := start_own R hl hp hx
    exact ⟨fun hm => H.off x i hd hm (List.mem_of_getElem? hi) h3 h4, (R.fres x ⟨i, blk, hd, h1, h2, h3, h4⟩).2⟩
  · intro x hx
    rcases H.up x hx with h | h
    · exact R.fb x h
    · exact (R.fres x h).2

/-- The arguments, in the callee's own terms. -/
theorem HA1.rel {hs : List Hd} {bs : List Blk} {x : AVal} {v : Value} (h : HA1 M w hs x v) (hM : ∀ x, N x → M x) : ARel N w hs bs x v := by
  cases x with
  | v c => exact CRel.keep (Keep.sub hM) h
  | lptr j o =>
    obtain ⟨rfl, x, hm, rfl⟩ := h
    exact ⟨x, hm, rfl⟩
  | _ => exact h.elim
theorem HAs1.rel {hs : List Hd} {bs : List Blk} : ∀ {l : List AVal} {vs : List Value}, HAs1 M w hs l vs → (∀ x, N x → M x) → AsRel N w hs bs false l vs
  | [], _, h, _ => h
  | x :: r, _, h, hM => by
    obtain ⟨u, us, rfl, h1, h2⟩ := h
    exact ⟨u, us, rfl, h1.rel hM, by simp, HAs1.rel h2 hM⟩
theorem HA.rel {hs : List Hd} {bs : List Blk} (hv : ∀ (j : Nat) (hd : Hd), hs[j]? = some hd → ∃ blk, bs[j]? = some blk ∧ blk.ver = 0) {x : AVal} {v : Value} (h : HA M w hs x v) (hM : ∀ x, N x → M x) :
    ARel N w hs bs x v := by
  cases x with
  | v c => exact HA1.rel (x := .v c) h hM
  | lptr j o => exact HA1.rel (x := .lptr j o) h hM
  | lref j ver =>
    obtain ⟨rfl, base, len, cap, sz, hm, rfl⟩ := h
    obtain ⟨blk, hb, h0⟩ := hv j _ hm
    exact ⟨rfl, blk, _, hb, hm, by simp, Nat.zero_le _, fun _ _ => rfl⟩
  | func g cs =>
    obtain ⟨vs, rfl, hc⟩ := h
    exact ⟨vs, rfl, hc.rel hM⟩
  | _ => exact h.elim
theorem HAs.rel {hs : List Hd} {bs : List Blk} (hv : ∀ (j : Nat) (hd : Hd), hs[j]? = some hd → ∃ blk, bs[j]? = some blk ∧ blk.ver = 0) : ∀ {l : List AVal} {vs : List Value}, HAs M w hs l vs → (∀ x, N x → M x) →
    AsRel N w hs bs false l vs
  | [], _, h, _ => h
  | x :: r, _, h, hM => by
    obtain ⟨u, us, rfl, h1, h2⟩ := h
    exact ⟨u, us, rfl, h1.rel hv hM, by simp, HAs.rel hv h2 hM⟩

theorem backBlks_sound : ∀ {ids : List Nat} {ls : List (List CVal)} {j : Nat} {b : List Blk} {K : List Blk → Option R'}, ids.Nodup → backBlks ids ls j b K = some r →
    ∃ b4, K b4 = some r ∧ b4.length = b.length ∧ (∀ i, i ∉ ids → b4[i]? = b[i]?) ∧ ∀ (k i : Nat), ids[k]? = some i → ∃ l, ls[j + k]? = some l ∧
      ((∃ ver sz xs, b[i]? = some ⟨ver, .arr sz xs⟩ ∧ b4[i]? = some ⟨ver + 1, .arr sz l⟩) ∨ (∃ ver cs, b[i]? = some ⟨ver, .box cs⟩ ∧ b4[i]? = some ⟨ver, .box (l.map .v)⟩))
  | [], ls, j, b, K, n, h => ⟨b, h, rfl, fun _ _ => rfl, fun k i hk => by simp at hk⟩
  | i :: rest, ls, j, b, K, n, h => by
    simp only [backBlks] at h
    obtain ⟨l, hl, h⟩ := bind_some' h
    obtain ⟨hi, n⟩ := List.nodup_cons.1 n
    have next : ∀ {blk' : Blk}, i < b.length → backBlks rest ls (j + 1) (b.set i blk') K = some r →
        ((∃ ver sz xs, b[i]? = some ⟨ver, .arr sz xs⟩ ∧ blk' = ⟨ver + 1, .arr sz l⟩) ∨ (∃ ver cs, b[i]? = some ⟨ver, .box cs⟩ ∧ blk' = ⟨ver, .box (l.map .v)⟩)) →
        ∃ b4, K b4 = some r ∧ b4.length = b.length ∧ (∀ k, k ∉ i :: rest → b4[k]? = b[k]?) ∧ ∀ (k i' : Nat), (i :: rest)[k]? = some i' → ∃ l, ls[j + k]? = some l ∧
          ((∃ ver sz xs, b[i']? = some ⟨ver, .arr sz xs⟩ ∧ b4[i']? = some ⟨ver + 1, .arr sz l⟩) ∨ (∃ ver cs, b[i']? = some ⟨ver, .box cs⟩ ∧ b4[i']? = some ⟨ver, .box (l.map .v)⟩)) := by
      intro blk' hlt h hb
      obtain ⟨b4, hK, hlen, hoff, hat⟩ := backBlks_sound n h
      refine ⟨b4, hK, by simpa using hlen, fun k hk => ?_, fun k i' hk => ?_⟩
      · simp only [List.mem_cons, not_or] at hk
        rw [hoff k hk.2, List.getElem?_set_ne (Ne.symm hk.1)]
      · cases k with
        | zero =>
          simp at hk; subst hk
          refine ⟨l, by simpa using hl, ?_⟩
          rw [hoff i hi, List.getElem?_set_self hlt]
          exact hb.imp (fun ⟨a, b, c, d, e⟩ => ⟨a, b, c, d, by rw [e]⟩) (fun ⟨a, b, c, d⟩ => ⟨a, b, c, by rw [d]⟩)
        | succ k =>
          have hk' : rest[k]? = some i' := by simpa using hk
          have hne : i ≠ i' := fun e => hi (by rw [e]; exact List.mem_of_getElem? hk')
          obtain ⟨l', hl', hor⟩ := hat k i' hk'
          refine ⟨l', by rw [← hl']; congr 1; omega, ?_⟩
          rw [List.getElem?_set_ne hne] at hor
          exact hor
    split at h
    · rename_i ver sz xs hb
      exact next (List.getElem?_eq_some_iff.1 hb).1 h (.inl ⟨ver, sz, xs, hb, rfl⟩)
    · rename_i ver cs hb
      obtain ⟨hlen, h⟩ := br_none h
      have hlen : l.length = cs.length := by simpa using hlen
      obtain ⟨xs, h', hxl, hx⟩ := explodeL_eq h
      have e : xs = l := same_of_get (by omega) hx
      subst e
      exact next (List.getElem?_eq_some_iff.1 hb).1 h' (.inr ⟨ver, cs, hb, rfl⟩)
    · cases h

def endBlk (p : PB) (l : List CVal) : Blk := cond p.arr ⟨0, .arr p.sz l⟩ ⟨0, .box (l.map .v)⟩
def endBlks (pbs : List PB) (ls : List (List CVal)) : List Blk := List.zipWith endBlk pbs ls

/-- What a function leaves. -/
structure FnPost (rm : Option Nat) (F : Nat → Prop) (w : World) (μ : List Hd) (pbs : List PB) (ret : Ret) (w' : World) (μ' : List Hd) (v : Value) : Prop where
  rel : Rel F w' μ' (endBlks pbs ret.2)
  len : ret.2.length = pbs.length
  box : ∀ (j : Nat) (x : Nat), μ[j]? = some (.box x) → μ'[j]? = some (.box x)
  own : ∀ x, Own μ' (endBlks pbs ret.2) x → x < w'.heap.size ∧ (w.heap.size ≤ x ∨ Own μ (pbs.map startBlk) x)
  fr : Fr (Own μ (pbs.map startBlk)) w w'
  val : match rm with
    | none => CRel (Or F (Own μ' (endBlks pbs ret.2))) w' ret.1 v
    | some j => ∃ (h : Hd) (p : PB), μ'[j]? = some h ∧ pbs[j]? = some p ∧ p.arr = true ∧ v = h.val

/-- A call comes to its function's end. -/
def Invokes (P : Program) (g : FuncId) (vs : List Value) (w : World) (post : Value → World → Prop) : Prop :=
  ∀ (o : Oper) (a : Act) (next : Act → World → Prop) (Q : Exit → Act → World → Prop), (execOp a.eval o).run P w = (callFunc g vs.toArray).run P w →
    (∀ v w', post v w' → next (a.put o.dst v) w') → o.wp P a w next Q

/-- A function does what its abstract form says. -/
def FnOk (P : Program) (rm : Option Nat) (g : FuncId) (args : List AVal) (pbs : List PB) (ret : Ret) : Prop :=
  ∀ (F : Nat → Prop) (w : World) (μ : List Hd) (vs : List Value), Rel F w μ (pbs.map startBlk) → AsRel (Or F (Own μ (pbs.map startBlk))) w μ (pbs.map startBlk) false args vs →
    Invokes P g vs w fun v w' => ∃ μ', FnPost rm F w μ pbs ret w' μ' v

/-- What calls come to is so. -/
def COk (E : Env) (C : CallT) : Prop := (∀ g args pbs ret, g ≠ apId → (match E.prim g with | some p => p args pbs | none => C g args pbs) = some ret → FnOk E.P (E.rm g) g args pbs ret) ∧
  ∀ c cs ret, C apId (.v c :: cs.map .v) [] = some ret → ∃ g caps, g ≠ apId ∧ c = .func g caps ∧ E.rm g = none ∧ FnOk E.P none g ((cs ++ caps).map .v) [] ret

/-- The heads after a call. -/
def backHs (μ : List Hd) (ids : List Nat) (hs : List Hd) : List Hd := (List.range μ.length).map fun i => match idxOf ids i with | some j => (hs[j]?).getD .none | none => (μ[i]?).getD .none

theorem idxOf_at : ∀ {ids : List Nat} {i j : Nat}, ids.Nodup → ids[j]? = some i → idxOf ids i = some j
  | [], _, j, _, h => by simp at h
  | k :: r, i, 0, n, h => by simp at h; subst h; simp [idxOf, br]
  | k :: r, i, j + 1, n, h => by
    have h' : r[j]? = some i := by simpa using h
    have hne : (k == i) = false := by
      simp only [beq_eq_false_iff_ne]
      intro e; subst e
      exact (List.nodup_cons.1 n).1 (List.mem_of_getElem? h')
    simp [idxOf, hne, br, idxOf_at (List.nodup_cons.1 n).2 h']
theorem idxOf_no : ∀ {ids : List Nat} {i : Nat}, i ∉ ids → idxOf ids i = none
  | [], _, _ => rfl
  | k :: r, i, h => by
    simp only [List.mem_cons, not_or] at h
    have hne : (k == i) = false := by
      simp only [beq_eq_false_iff_ne]; exact fun e => h.1 e.symm
    simp [idxOf, hne, br, idxOf_no h.2]

theorem backHs_len {ids : List Nat} {hs : List Hd} : (backHs μ ids hs).length = μ.length := by simp [backHs]
theorem backHs_off {ids : List Nat} {hs : List Hd} {i : Nat} (h : i ∉ ids) : (backHs μ ids hs)[i]? = μ[i]? := by
  unfold backHs
  rw [List.getElem?_map]
  by_cases hi : i < μ.length
  · simp [hi, idxOf_no h]
  · simp [hi]
theorem backHs_at {ids : List Nat} {hs : List Hd} {i j : Nat} {h : Hd} (n : ids.Nodup) (hi : i < μ.length) (hj : ids[j]? = some i) (hh : hs[j]? = some h) : (backHs μ ids hs)[i]? = some h := by
  unfold backHs
  rw [List.getElem?_map]
  simp [hi, idxOf_at n hj, hh]

theorem scalar_rel {N N' : Nat → Prop} {w : World} {c : CVal} {v : Value} (hs : scalar c = true) (h : CRel N w c v) : CRel N' w c v := by
  cases c <;> first | exact h | simp [scalar] at hs

/-- What is known of b4 after a call. -/
def Back (ids : List Nat) (ls : List (List CVal)) (b b4 : List Blk) : Prop := b4.length = b.length ∧ (∀ i, i ∉ ids → b4[i]? = b[i]?) ∧ ∀ (k i : Nat), ids[k]? = some i → ∃ l, ls[k]? = some l ∧
      ((∃ ver sz xs, b[i]? = some ⟨ver, .arr sz xs⟩ ∧ b4[i]? = some ⟨ver + 1, .arr sz l⟩) ∨ (∃ ver cs, b[i]? = some ⟨ver, .box cs⟩ ∧ b4[i]? = some ⟨ver, .box (l.map .v)⟩))

theorem end_at {ids : List Nat} {pbs : List PB} {ls : List (List CVal)} {b4 : List Blk} {j i : Nat} (hlen : pbs.length = ids.length)
    (hpb : ∀ (j i : Nat) (p : PB), ids[j]? = some i → pbs[j]? = some p → PBok F w μ b i p) (B : Back ids ls b b4) (hj : ids[j]? = some i) :
    ∃ p l blk3 blk4, pbs[j]? = some p ∧ (endBlks pbs ls)[j]? = some (endBlk p l) ∧ b[i]? = some blk3 ∧ b4[i]? = some blk4 ∧ blk4.body = (endBlk p l).body ∧ alive blk3.body = true ∧ alive blk4.body = true ∧
      blk3.ver ≤ blk4.ver ∧ (isArr blk4.body = true → blk3.ver < blk4.ver) ∧ isArr blk4.body = p.arr := by
  obtain ⟨l, hl, hor⟩ := B.2.2 j i hj
  have hjl : j < pbs.length := by rw [hlen]; exact (List.getElem?_eq_some_iff.1 hj).1
  have hp : pbs[j]? = some pbs[j] := List.getElem?_eq_getElem hjl
  obtain ⟨blk, hb, hpp⟩ := hpb j i _ hj hp
  have hend : (endBlks pbs ls)[j]? = some (endBlk pbs[j] l) := by
    unfold endBlks
    rw [List.getElem?_zipWith, hp, hl]
  rcases hor with ⟨ver, sz, xs, h3, h4⟩ | ⟨ver, cs, h3, h4⟩
  · rw [hb] at h3; cases h3
    rcases hpp with ⟨sz', xs', e, hbody⟩ | ⟨cs, xs', e, hbody, _⟩
    · cases hbody
      refine ⟨_, l, _, _, hp, hend, hb, h4, ?_, rfl, rfl, Nat.le_succ _, fun _ => Nat.lt_succ_self _, ?_⟩ <;> rw [e] <;> rfl
    · cases hbody
  · rw [hb] at h3; cases h3
    rcases hpp with ⟨sz', xs', e, hbody⟩ | ⟨cs, xs', e, hbody, _⟩
    · cases hbody
    · refine ⟨_, l, _, _, hp, hend, hb, h4, ?_, rfl, rfl, Nat.le_refl _, (fun h => by simp [isArr] at h), ?_⟩ <;> rw [e] <;> rfl

theorem back_own {ids : List Nat} {pbs : List PB} {ls : List (List CVal)} {b4 : List Blk} {hs' : List Hd} {w' : World} (R : Rel F w μ b) (hn : ids.Nodup) (hlen : pbs.length = ids.length)
    (hpb : ∀ (j i : Nat) (p : PB), ids[j]? = some i → pbs[j]? = some p → PBok F w μ b i p) (B : Back ids ls b b4) (hl' : hs'.length = (endBlks pbs ls).length) {x : Nat} (h : Own (backHs μ ids hs') b4 x) :
    (∃ (i : Nat) (blk : Blk) (hd : Hd), i ∉ ids ∧ b[i]? = some blk ∧ alive blk.body = true ∧ μ[i]? = some hd ∧ hd.own = some x) ∨ Own hs' (endBlks pbs ls) x := by
  obtain ⟨i, blk, hd, hb, ha, hm, ho⟩ := h
  by_cases hi : i ∈ ids
  · obtain ⟨j, hj⟩ := List.mem_iff_getElem?.1 hi
    obtain ⟨p, l, blk3, blk4, hp, hend, hb3, hb4, hbody, _, hal4, _⟩ := end_at hlen hpb B hj
    rw [hb] at hb4; cases hb4
    have hil : i < μ.length := by rw [R.len]; exact (List.getElem?_eq_some_iff.1 hb3).1
    have hjl : j < hs'.length := by rw [hl']; exact (List.getElem?_eq_some_iff.1 hend).1
    rw [backHs_at hn hil hj (List.getElem?_eq_getElem hjl)] at hm
    cases hm
    exact .inr ⟨j, _, _, hend, by rw [← hbody]; exact ha, List.getElem?_eq_getElem hjl, ho⟩
  · rw [B.2.1 i hi] at hb
    rw [backHs_off hi] at hm
    exact .inl ⟨i, blk, hd, hi, hb, ha, hm, ho⟩

theorem back_sound {ids : List Nat} {pbs : List PB} {ret : Ret} {b4 : List Blk} {hs' : List Hd} {w' : World} {rm : Option Nat} {v : Value} (R : Rel F w μ b) (hn : ids.Nodup) (hlen : pbs.length = ids.length)
    (hpb : ∀ (j i : Nat) (p : PB), ids[j]? = some i → pbs[j]? = some p → PBok F w μ b i p) (B : Back ids ret.2 b b4) (H : Hidden F M μ b ids)
    (hfull : ids = [] ∨ ∀ x, Or F (Own μ b) x → (∀ (i : Nat) (h : Hd), i ∈ ids → μ[i]? = some h → h.own ≠ some x) → M x)
    (p : FnPost rm M w (hsOf μ ids) pbs ret w' hs' v) :
    Upd F w μ b w' (backHs μ ids hs') b4 ∧ Rel F w' (backHs μ ids hs') b4 ∧ Fr (Own μ b) w w' ∧
      ((∀ x, Or F (Own μ b) x → (∀ (i : Nat) (h : Hd), i ∈ ids → μ[i]? = some h → h.own ≠ some x) → M x) → ∀ x, Or F (Own (backHs μ ids hs') b4) x → Or M (Own hs' (endBlks pbs ret.2)) x) := by
  have hl' : hs'.length = (endBlks pbs ret.2).length := p.rel.len
  have own := fun {x} => back_own (x := x) R hn hlen hpb B hl' (w' := w')
  have sown : ∀ x, Own (hsOf μ ids) (pbs.map startBlk) x → Own μ b x := fun x hx => by
    obtain ⟨j, i, blk, hd, _, h1, h2, h3, h4⟩ := start_own R hlen hpb hx
    exact ⟨i, blk, hd, h1, h2, h3, h4⟩
  have snot : ∀ (x i : Nat) (blk : Blk) (hd : Hd), i ∉ ids → b[i]? = some blk → alive blk.body = true → μ[i]? = some hd → hd.own = some x → ¬ Own (hsOf μ ids) (pbs.map startBlk) x := by
    intro x i blk hd hi hb ha hm ho hx
    obtain ⟨j, i', blk', hd', hj, h1, h2, h3, h4⟩ := start_own R hlen hpb hx
    have := R.inj i i' blk blk' hd hd' x hb h1 ha h2 hm h3 ho h4
    subst this
    exact hi (List.mem_of_getElem? hj)
  have hil : ∀ {i j : Nat}, ids[j]? = some i → i < μ.length := by
    intro i j hj
    obtain ⟨_, _, _, _, _, _, hb3, _⟩ := end_at hlen hpb B hj
    rw [R.len]; exact (List.getElem?_eq_some_iff.1 hb3).1
  have U : Upd F w μ b w' (backHs μ ids hs') b4 := by
    refine ⟨R.len, by rw [backHs_len, B.1, R.len], ?_, p.fr.size, ?_, ?_⟩
    · intro i blk h hb hm
      by_cases hi : i ∈ ids
      · obtain ⟨j, hj⟩ := List.mem_iff_getElem?.1 hi
        obtain ⟨pb, l, blk3, blk4, hp, hend, hb3, hb4, hbody, hal3, hal4, hle, hlt, harr⟩ := end_at hlen hpb B hj
        rw [hb] at hb3; cases hb3
        have hjl : j < hs'.length := by rw [hl']; exact (List.getElem?_eq_some_iff.1 hend).1
        refine ⟨blk4, hs'[j], hb4, backHs_at hn (hil hj) hj (List.getElem?_eq_getElem hjl), hle, ?_, ?_, ?_⟩
        · intro _ hnone
          have hB := p.rel.blk j _ _ hend (List.getElem?_eq_getElem hjl)
          rw [← hbody, hnone] at hB
          cases hbd : blk4.body with
          | dead => rw [hbd] at hal4; cases hal4
          | box cs => rw [hbd] at hB; obtain ⟨x, vs, e, he, _⟩ := hB; cases he
          | arr sz xs => rw [hbd] at hB; obtain ⟨base, cap, he, _⟩ := hB; cases he
        · intro x hx
          subst hx
          have : (hsOf μ ids)[j]? = some (.box x) := by simpa using hs_at (e := []) hj hm
          have := p.box j x this
          rw [List.getElem?_eq_getElem hjl] at this
          exact Option.some.inj this
        · intro he ha
          have := hlt ha
          omega
      · exact ⟨blk, h, by rw [B.2.1 i hi]; exact hb, by rw [backHs_off hi]; exact hm, .refl _ _⟩
    · intro x hx
      rcases own hx with ⟨i, blk, hd, hi, hb, ha, hm, ho⟩ | hx
      · have := R.fres x ⟨i, blk, hd, hb, ha, hm, ho⟩
        exact ⟨Nat.lt_of_lt_of_le this.2 p.fr.size, .inr ⟨i, blk, hd, hb, ha, hm, ho⟩⟩
      · obtain ⟨h1, h2⟩ := p.own x hx
        exact ⟨h1, h2.imp id (sown x)⟩
    · intro x hx hno
      exact p.fr.block x hx fun h => hno (sown x h)
  have sub2 : (∀ x, Or F (Own μ b) x → (∀ (i : Nat) (h : Hd), i ∈ ids → μ[i]? = some h → h.own ≠ some x) → M x) → ∀ x, Or F (Own (backHs μ ids hs') b4) x → Or M (Own hs' (endBlks pbs ret.2)) x := by
    intro hfull
    rintro x (hx | hx)
    · exact .inl (H.low x hx)
    · rcases own hx with ⟨i, blk, hd, hi, hb, ha, hm, ho⟩ | hx
      · refine .inl (hfull x (.inr ⟨i, blk, hd, hb, ha, hm, ho⟩) fun i' h' hi' hm' ho' => ?_)
        obtain ⟨j, hj⟩ := List.mem_iff_getElem?.1 hi'
        obtain ⟨pb, l, blk3, blk4, hp, hend, hb3, hb4, hbody, hal3, _⟩ := end_at hlen hpb B hj
        have := R.inj i i' blk blk3 hd h' x hb hb3 ha hal3 hm hm' ho ho'
        subst this
        exact hi hi'
      · exact .inr hx
  have sub := hfull.imp id sub2
  refine ⟨U, ⟨U.len, ?_, ?_, ?_, fun x hx => Nat.lt_of_lt_of_le (R.fb x hx) p.fr.size⟩, ⟨p.fr.os, p.fr.tape, p.fr.output, p.fr.size, fun x hx hno => p.fr.block x hx fun h => hno (sown x h)⟩, sub2⟩
  · intro i blk h hb hm
    by_cases hi : i ∈ ids
    · obtain ⟨j, hj⟩ := List.mem_iff_getElem?.1 hi
      obtain ⟨pb, l, blk3, blk4, hp, hend, hb3, hb4, hbody, hal3, hal4, hle, hlt, harr⟩ := end_at hlen hpb B hj
      rw [hb] at hb4; cases hb4
      have hjl : j < hs'.length := by rw [hl']; exact (List.getElem?_eq_some_iff.1 hend).1
      rw [backHs_at hn (hil hj) hj (List.getElem?_eq_getElem hjl)] at hm
      cases hm
      have sub' : ∀ x, Or F (Own (backHs μ ids hs') b4) x → Or M (Own hs' (endBlks pbs ret.2)) x := by
        rcases sub with h | h
        · rw [h] at hi; cases hi
        · exact h
      have hB := p.rel.blk j _ _ hend (List.getElem?_eq_getElem hjl)
      rw [hbody]
      unfold endBlk at hB ⊢
      cases hpa : pb.arr with
      | true =>
        rw [hpa] at hB
        obtain ⟨base, cap, h1, h2, h3⟩ := hB
        exact ⟨base, cap, h1, h2, h3.imp id fun ⟨x, cells, e, g1, g2, g3, g4⟩ => ⟨x, cells, e, g1, g2, g3, ElRel.keepAt (Keep.sub sub') rfl g4⟩⟩
      | false =>
        rw [hpa] at hB
        obtain ⟨x, us, e, h1, h2, h3⟩ := hB
        exact ⟨x, us, e, h1, h2, AsRel.ofC (CsRel.keep (Keep.sub sub') h3.toC)⟩
    · rw [B.2.1 i hi] at hb
      rw [backHs_off hi] at hm
      refine BRel.upd U (fun x ho ha => ?_) (R.blk i blk h hb hm)
      exact p.fr.block x (R.fres x ⟨i, blk, h, hb, ha, hm, ho⟩).2 (snot x i blk h hi hb ha hm ho)
  · have cross : ∀ (i j : Nat) (blk : Blk) (h : Hd) (x : Nat), i ∉ ids → b[i]? = some blk → alive blk.body = true → μ[i]? = some h → h.own = some x → Own hs' (endBlks pbs ret.2) x → False := by
      intro i j blk h x hi hb ha hm ho hx
      rcases (p.own x hx).2 with h2 | h2
      · have := (R.fres x ⟨i, blk, h, hb, ha, hm, ho⟩).2; omega
      · exact snot x i blk h hi hb ha hm ho h2
    have get : ∀ (i : Nat) (blk : Blk) (h : Hd) (x : Nat), i ∈ ids → b4[i]? = some blk → alive blk.body = true → (backHs μ ids hs')[i]? = some h → h.own = some x →
        ∃ (j : Nat) (eb : Blk), ids[j]? = some i ∧ (endBlks pbs ret.2)[j]? = some eb ∧ alive eb.body = true ∧ hs'[j]? = some h := by
      intro i blk h x hi hb ha hm ho
      obtain ⟨j, hj⟩ := List.mem_iff_getElem?.1 hi
      obtain ⟨pb, l, blk3, blk4, hp, hend, hb3, hb4, hbody, hal3, hal4, hle, hlt, harr⟩ := end_at hlen hpb B hj
      rw [hb] at hb4; cases hb4
      have hjl : j < hs'.length := by rw [hl']; exact (List.getElem?_eq_some_iff.1 hend).1
      rw [backHs_at hn (hil hj) hj (List.getElem?_eq_getElem hjl)] at hm
      exact ⟨j, _, hj, hend, by rw [← hbody]; exact ha, by rw [List.getElem?_eq_getElem hjl]; exact hm⟩
    intro i i' blk blk' h h' x hb hb' ha ha' hm hm' ho ho'
    by_cases hi : i ∈ ids
    · obtain ⟨j, eb, hj, he, hea, hsj⟩ := get i blk h x hi hb ha hm ho
      by_cases hi' : i' ∈ ids
      · obtain ⟨j', eb', hj', he', hea', hsj'⟩ := get i' blk' h' x hi' hb' ha' hm' ho'
        have := p.rel.inj j j' eb eb' h h' x he he' hea hea' hsj hsj' ho ho'
        subst this
        rw [hj] at hj'; exact Option.some.inj hj'
      · rw [B.2.1 i' hi'] at hb'
        rw [backHs_off hi'] at hm'
        exact (cross i' 0 blk' h' x hi' hb' ha' hm' ho' ⟨j, eb, h, he, hea, hsj, ho⟩).elim
    · rw [B.2.1 i hi] at hb
      rw [backHs_off hi] at hm
      by_cases hi' : i' ∈ ids
      · obtain ⟨j', eb', hj', he', hea', hsj'⟩ := get i' blk' h' x hi' hb' ha' hm' ho'
        exact (cross i 0 blk h x hi hb ha hm ho ⟨j', eb', h', he', hea', hsj', ho'⟩).elim
      · rw [B.2.1 i' hi'] at hb'
        rw [backHs_off hi'] at hm'
        exact R.inj i i' blk blk' h h' x hb hb' ha ha' hm hm' ho ho'
  · intro x hx
    refine ⟨fun hf => ?_, (U.own x hx).1⟩
    rcases (U.own x hx).2 with h | h
    · have := R.fb x hf; omega
    · exact (R.fres x h).1 hf

theorem callK_sound {E : Env} {C : CallT} {q : Nat} {g : FuncId} {args : List AVal} {vs : List Value} {K : AVal → List Blk → Option R'} (hC : COk E C) (R : Rel F w μ b) (hq : Free μ b q)
    (ha : AsRel (Or F (Own μ b)) w μ b false args vs) (h : callK E C q g args b K = some r) : CallGoes E.P F w μ b K r g vs (pureArgs E g 0 args) := by
  unfold callK at h
  rcases br_some h with ⟨_, h⟩ | ⟨hgap, h⟩
  · cases h
  have hgap : g ≠ apId := by simpa using hgap
  obtain ⟨args1, b1, μ1, h, U1, R1, ha1, hpu1⟩ := promo_sound (fun _ => hq) R ha h
  obtain ⟨hd, l, h, hs, hl, hpu2, hHA⟩ := handAll_sound (h := ⟨[], [], b1⟩) R1 ha1 h
  obtain ⟨pbs, b3, h, hsub, U3, R3, hlen, hpu3, hpb⟩ := handBlks_sound hs.rel h
  obtain ⟨hal, h⟩ := br_none h
  obtain ⟨ret, hret, h⟩ := bind_some' h
  rcases br_some h with ⟨_, h⟩ | ⟨hbor, h⟩
  · cases h
  have hn : hd.ids.Nodup := hs.nodup List.nodup_nil
  obtain ⟨b4, h, hlen4, hoff4, hat4⟩ := backBlks_sound hn h
  have hpb : ∀ (j i : Nat) (p : PB), hd.ids[j]? = some i → pbs[j]? = some p → PBok F w μ1 b3 i p := fun j i p hi hp => hpb j i p hi hp (List.all_eq_true.1 hal i (List.mem_of_getElem? hi))
  have hl : hd.args = l := by simpa using hl
  have U13 : Upd F w μ b w μ1 b3 := (U1.trans hs.upd).trans U3
  have B : Back hd.ids ret.2 b3 b4 := ⟨hlen4, hoff4, fun k i hk => by simpa using hat4 k i hk⟩
  have hok := hC.1 g hd.args pbs ret hgap hret
  have hpure : pureArgs E g 0 args = true → b4 = b := by
    intro hp
    obtain ⟨e1, e2⟩ := hpu1 hp
    rw [e2] at hpu2
    obtain ⟨e3, e4⟩ := hpu2 hp
    have e5 := hpu3 e3
    have e6 : b4 = b3 := by
      apply List.ext_getElem?
      intro i
      exact hoff4 i (by rw [e3]; simp)
    rw [e6, e5, e4, e1]
  -- what the callee may not have as data
  obtain ⟨M, H, hM, hfull⟩ : ∃ M : Nat → Prop, Hidden F M μ1 b3 hd.ids ∧ (borrows E g 0 args1 = true → ∀ x, M x → F x) ∧
      ((borrows E g 0 args1 = true ∧ hd.ids = []) ∨ ∀ x, Or F (Own μ1 b3) x → (∀ (i : Nat) (h : Hd), i ∈ hd.ids → μ1[i]? = some h → h.own ≠ some x) → M x) := by
    cases hb : borrows E g 0 args1 with
    | true =>
      simp [hb] at hbor
      have hids := hbor.2
      exact ⟨F, ⟨fun _ h => h, fun _ h => .inl h, fun x i h _ hi => by rw [hids] at hi; cases hi⟩, fun _ _ h => h, .inl ⟨rfl, hids⟩⟩
    | false =>
      refine ⟨fun x => Or F (Own μ1 b3) x ∧ ∀ (i : Nat) (h : Hd), i ∈ hd.ids → μ1[i]? = some h → h.own ≠ some x, ⟨fun x hx => ⟨.inl hx, fun i h hi hm ho => ?_⟩, fun x hx => hx.1, fun x i h hx hi hm => hx.2 i h hi hm⟩,
        by simp, .inr fun x h1 h2 => ⟨h1, h2⟩⟩
      obtain ⟨j, hj⟩ := List.mem_iff_getElem?.1 hi
      obtain ⟨p, l', blk3, blk4, hp, hend, hb3, hb4, hbody, hal3, _⟩ := end_at hlen hpb B hj
      exact (R3.fres x ⟨i, blk3, h, hb3, hal3, hm, ho⟩).1 hx
  have hcr := callee_rel R3 hn hlen hpb H
  have hstart : ∀ x, Or M (Own (hsOf μ1 hd.ids) (pbs.map startBlk)) x → Or F (Own μ1 b3) x := by
    rintro x (hx | hx)
    · exact H.up x hx
    · obtain ⟨j, i, blk, hh, _, h1, h2, h3, h4⟩ := start_own R3 hlen hpb hx
      exact .inr ⟨i, blk, hh, h1, h2, h3, h4⟩
  have hargs : AsRel (Or M (Own (hsOf μ1 hd.ids) (pbs.map startBlk))) w (hsOf μ1 hd.ids) (pbs.map startBlk) false hd.args vs := by
    rw [hl]
    have h0 := hHA (Or M (Own (hsOf μ1 hd.ids) (pbs.map startBlk))) [] (fun x hx => (hstart x hx).imp id fun ho => hsub.own ho) (fun hb x hx => by
      rcases hx with hx | hx
      · exact hM hb x hx
      · simp [hb] at hbor
        obtain ⟨j, i, blk, hh, hj, _⟩ := start_own R3 hlen hpb hx
        rw [hbor.2] at hj; simp at hj)
    rw [List.append_nil] at h0
    refine HAs.rel (fun j hh hj => ?_) h0 fun x hx => hx
    have hjl : j < pbs.length := by
      have := (List.getElem?_eq_some_iff.1 hj).1
      simp [hsOf] at this; omega
    refine ⟨startBlk pbs[j], by simp [hjl], ?_⟩
    unfold startBlk
    cases pbs[j].arr <;> rfl
  have key := hok M w (hsOf μ1 hd.ids) vs hcr hargs
  -- what is laid back
  split at h
  · rename_i hrm
    refine ⟨_, _, h, hpure, fun o a next Q ho hnx => key o a next Q ho fun v w' ⟨hs', p⟩ => ?_⟩
    obtain ⟨U, R4, f, hsub4⟩ := back_sound R3 hn hlen hpb B H (hfull.imp (·.2) id) p
    refine hnx v w' _ ⟨U13.trans U, R4, ?_, Fr.step U13 (.refl _ _) f⟩
    have hv := p.val
    rw [hrm] at hv
    rcases hfull with ⟨hb, _⟩ | hfull
    · simp [hb] at hbor
      exact scalar_rel hbor.1 hv
    · exact CRel.keep (Keep.sub (hsub4 hfull)) hv
  · rename_i j hrm
    split at h
    · rename_i i hi
      refine ⟨_, _, h, hpure, fun o a next Q ho hnx => key o a next Q ho fun v w' ⟨hs', p⟩ => ?_⟩
      obtain ⟨U, R4, f, hsub4⟩ := back_sound R3 hn hlen hpb B H (hfull.imp (·.2) id) p
      refine hnx v w' _ ⟨U13.trans U, R4, ?_, Fr.step U13 (.refl _ _) f⟩
      have hv := p.val
      rw [hrm] at hv
      obtain ⟨hd', pb, hm', hp, harr, rfl⟩ := hv
      obtain ⟨p', l', blk3, blk4, hp', hend, hb3, hb4, hbody, hal3, hal4, hle, hlt, harr'⟩ := end_at hlen hpb B hi
      rw [hp] at hp'; cases hp'
      have hil : i < μ1.length := by rw [R3.len]; exact (List.getElem?_eq_some_iff.1 hb3).1
      have hB := p.rel.blk j _ _ hend hm'
      unfold endBlk at hB
      rw [harr] at hB
      obtain ⟨base, cap, he, _⟩ := hB
      refine ⟨by rw [he]; rfl, blk4, hd', hb4, backHs_at hn hil hi hm', by rw [he]; simp, by simp [verOf, hb4], fun _ _ => rfl⟩
    · cases h

theorem apF_sound {E : Env} {C : CallT} {c : CVal} {cs : List CVal} {K : AVal → List Blk → Option R'} (hC : COk E C) (R : Rel F w μ b) (h : apF C c cs (fun y => K (.v y) b) = some r) :
    ∃ g caps, c = .func g caps ∧ ∀ vs, AsRel (Or F (Own μ b)) w μ b false ((cs ++ caps).map .v) vs → CallGoes E.P F w μ b K r g vs true := by
  unfold apF at h
  obtain ⟨r0, hr0, hK⟩ := bind_some' h
  obtain ⟨g, caps, hg, rfl, hrm, hok⟩ := hC.2 c cs r0 hr0
  refine ⟨g, caps, rfl, fun vs ha => ?_⟩
  let q := b.length
  let E' : Env := { E with prim := fun g' => some fun args' pbs' => open Classical in if g' = g ∧ args' = (cs ++ caps).map .v ∧ pbs' = [] then some r0 else none }
  have hC' : COk E' (fun _ _ _ => none) := by
    refine ⟨fun g' args' pbs' ret' hne h' => ?_, fun c' cs' ret' h' => by cases h'⟩
    simp only [E'] at h'
    split at h'
    · rename_i hh
      cases h'
      obtain ⟨rfl, rfl, rfl⟩ := hh
      show FnOk E.P (E.rm g') g' _ [] r0
      rw [hrm]; exact hok
    · cases h'
  have hk : callK E' (fun _ _ _ => none) q g ((cs ++ caps).map .v) b K = some r := by
    rw [callK_v hg]
    simp only [E']
    rw [if_pos ⟨trivial, trivial, trivial⟩, Option.bind_some, hrm]
    exact hK
  have := callK_sound (E := E') hC' R (.inl rfl) ha hk
  rw [pureArgs_v] at this
  exact this
end
end Go.Proofs.Ytlgonbonnjkekaa.Abs

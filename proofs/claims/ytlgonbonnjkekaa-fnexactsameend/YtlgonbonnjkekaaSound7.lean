/- Stores, literals, slices of slices. -/
import Derived.Test.YtlgonbonnjkekaaSound5
import Derived.Test.YtlgonbonnjkekaaSound6
set_option linter.unusedVariables false
set_option linter.unusedSectionVars false
set_option linter.unusedSimpArgs false
namespace Go.Proofs.Ytlgonbonnjkekaa.Abs
open Go

section
variable {P : Program} {w : World} {F N : Nat → Prop} {μ : List Hd} {b : List Blk} {R' : Type} {r : R'}

theorem set_self {α : Type} {l : List α} {i : Nat} {x : α} (h : l[i]? = some x) : l.set i x = l := by
  apply List.ext_getElem?
  intro j
  by_cases hj : i = j
  · subst hj; rw [List.getElem?_set_self (List.getElem?_eq_some_iff.1 h).1, h]
  · rw [List.getElem?_set_ne hj]

/-- What an operation comes to that may write. -/
def Acts (P : Program) (F : Nat → Prop) (w : World) (μ : List Hd) (b : List Blk) (K : AVal → List Blk → Option R') (r : R') (S : Sem Value) (ro : Bool) : Prop :=
  ∃ y b', K y b' = some r ∧ (ro = true → b' = b) ∧ ∃ u w' μ', S.run P w = .ok u w' ∧ Post F w μ b w' μ' b' y u

theorem Post.pre {w1 w2 : World} {μ1 μ2 : List Hd} {b1 b2 : List Blk} {x : AVal} {v : Value} (U : Upd F w μ b w1 μ1 b1) (f : Fr (Own μ b) w w1) (p : Post F w1 μ1 b1 w2 μ2 b2 x v) :
    Post F w μ b w2 μ2 b2 x v := ⟨U.trans p.upd, p.rel, p.val, Fr.step U f p.fr⟩

theorem verOf_at {i : Nat} {blk : Blk} (h : b[i]? = some blk) : verOf b i = blk.ver := by simp [verOf, h]

theorem flatC_set {sz : Nat} : ∀ {us : List Value} {i j : Nat} {u : Value}, (∀ z ∈ us, z.cells.size = sz) → u.cells.size = sz → i < us.length →
    (flatC (us.set i u))[j]? = if i * sz ≤ j ∧ j < i * sz + sz then u.cells[j - i * sz]? else (flatC us)[j]?
  | [], i, j, u, _, _, hi => by simp at hi
  | a :: r, 0, j, u, h, hu, _ => by
    have ha := h a (by simp)
    simp only [List.set_cons_zero, flatC, List.flatMap_cons, Nat.zero_mul, Nat.zero_le, true_and, Nat.zero_add, Nat.sub_zero]
    split
    · rw [List.getElem?_append_left (by simpa [hu])]; simp
    · rw [List.getElem?_append_right (by simp [hu]; omega), List.getElem?_append_right (by simp [ha]; omega)]
      simp [hu, ha]
  | a :: r, i + 1, j, u, h, hu, hi => by
    have ha := h a (by simp)
    have ih := flatC_set (us := r) (i := i) (j := j - sz) (u := u) (fun z hz => h z (by simp [hz])) hu (by simpa using hi)
    have e : (i + 1) * sz = i * sz + sz := by rw [Nat.add_mul]; omega
    simp only [flatC] at ih
    simp only [List.set_cons_succ, flatC, List.flatMap_cons]
    by_cases hj : j < sz
    · rw [List.getElem?_append_left (by simp [ha]; omega), List.getElem?_append_left (by simp [ha]; omega), if_neg (by omega)]
    · rw [List.getElem?_append_right (by simp [ha]; omega), List.getElem?_append_right (by simp [ha]; omega)]
      simp only [Array.length_toList, ha]
      rw [ih, e]
      by_cases h2 : i * sz ≤ j - sz ∧ j - sz < i * sz + sz
      · rw [if_pos h2, if_pos (by omega)]; congr 1; omega
      · rw [if_neg h2, if_neg (by omega)]

theorem EsRel.sizes {sz : Nat} : ∀ {xs : List CVal} {us : List Value}, EsRel N w sz xs us → ∀ z ∈ us, z.cells.size = sz
  | [], _, h, z, hz => by rw [show _ = [] from h] at hz; cases hz
  | c :: r, _, h, z, hz => by
    obtain ⟨u, l, rfl, _, _, hs, h⟩ := h
    cases hz with
    | head => exact hs
    | tail _ hz => exact EsRel.sizes h z hz

theorem EsRel.get {sz : Nat} : ∀ {xs : List CVal} {us : List Value} {i : Nat} {c : CVal}, EsRel N w sz xs us → xs[i]? = some c → ∃ u, us[i]? = some u ∧ noTup c = true ∧ CRel N w c u ∧ u.cells.size = sz
  | [], _, i, _, _, hi => by simp at hi
  | c :: r, _, 0, _, h, hi => by
    obtain ⟨u, l, rfl, h1, h2, h3, h⟩ := h
    simp at hi; subst hi
    exact ⟨u, rfl, h1, h2, h3⟩
  | c :: r, _, i + 1, _, h, hi => by
    obtain ⟨u, l, rfl, _, _, _, h⟩ := h
    obtain ⟨z, hz⟩ := EsRel.get h (by simpa using hi)
    exact ⟨z, by simpa using hz⟩

theorem EsRel.set {sz : Nat} : ∀ {xs : List CVal} {us : List Value} {i : Nat} {d : CVal} {u : Value}, EsRel N w sz xs us → noTup d = true → CRel N w d u → u.cells.size = sz →
    EsRel N w sz (xs.set i d) (us.set i u)
  | [], _, i, _, _, h, _, _, _ => by rw [show _ = [] from h]; simp [EsRel]
  | c :: r, _, 0, d, u, h, h1, h2, h3 => by
    obtain ⟨a, l, rfl, _, _, _, h⟩ := h
    exact ⟨u, l, rfl, h1, h2, h3, h⟩
  | c :: r, _, i + 1, d, u, h, h1, h2, h3 => by
    obtain ⟨a, l, rfl, g1, g2, g3, h⟩ := h
    exact ⟨a, l.set i u, rfl, g1, g2, g3, EsRel.set h h1 h2 h3⟩

/-- A store into one's own array, at a place within an element. -/
theorem store_elem {i ver idx off sz cap : Nat} {xs : List CVal} {c d : CVal} {x : Nat} {cells : Array Value} {e : TypeId} {vs : List Value} (R : Rel F w μ b)
    (hb : b[i]? = some ⟨ver, .arr sz xs⟩) (hm : μ[i]? = some (.arr (some (pl x 0)) xs.length cap sz)) (hl : xs.length ≤ cap) (h0 : cap ≠ 0)
    (hw : w.heap[x]? = some (.cells cells e (0, 0))) (hz : cap * sz ≤ cells.size) (hel : ElRel (Or F (Own μ b)) w sz x 0 xs)
    (hc : xs[idx]? = some c) (hd0 : noTup d = true)
    (hnew : ∀ u, CRel (Or F (Own μ b)) w c u → u.cells.size = sz → ∃ u', CRel (Or F (Own μ b)) w d u' ∧ u'.cells.size = sz ∧ u'.cells.toList = u.cells.toList.take off ++ vs ++ u.cells.toList.drop (off + vs.length))
    (hflat : ∀ v ∈ vs, flat v = true) (hroom : off + vs.length ≤ sz) :
    ∃ w', (storeCells (pl x (idx * sz + off)) vs).run P w = .ok () w' ∧ ∀ z, Post F w μ b w' μ (b.set i ⟨ver, .arr sz (xs.set idx d)⟩) .un z := by
  obtain ⟨us, hus, hcell⟩ := hel.out
  obtain ⟨u, hu, ht, hcu, husz⟩ := hus.get hc
  obtain ⟨u', hcu', husz', hcat⟩ := hnew u hcu husz
  have hidx := (List.getElem?_eq_some_iff.1 hc).1
  have hlen := hus.len
  have hbig : idx * sz + sz ≤ cells.size := by
    have h1 : (idx + 1) * sz ≤ cap * sz := Nat.mul_le_mul_right _ (by omega)
    rw [Nat.add_mul] at h1; omega
  have hst := run_storeCells_at (P := P) x (idx * sz + off) e vs 0 cells w hw (by omega) fun z hz => flat_oneCell (hflat z hz)
  have hown : Own μ b x := ⟨i, _, _, hb, rfl, hm, by simp [Hd.own, h0, pl]⟩
  refine ⟨_, hst, fun z => ?_⟩
  have key := set_post (F := F) (x := .un) (v := z) (h' := .arr (some (pl x 0)) xs.length cap sz) (blk' := ⟨ver, .arr sz (xs.set idx d)⟩)
    (w' := w.setRow x (cells.toList.take (idx * sz + off) ++ vs ++ cells.toList.drop (idx * sz + off + vs.length)).toArray)
    R hb hm ⟨Nat.le_refl _, id, fun _ h => h, fun _ _ _ => ⟨rfl, rfl⟩⟩ (by simp) ?_ ?_ rfl rfl rfl ?_ ?_
  · rw [set_self hm] at key; exact key
  · intro z _ hz
    simp [Hd.own, h0, pl] at hz; subst hz
    exact ⟨by simpa using (R.fres _ hown).2, .inr ⟨rfl, by simp [Hd.own, h0, pl]⟩⟩
  · intro z _ hne
    exact setRow_off fun e => hne rfl (by rw [e]; simp [Hd.own, h0, pl])
  · intro U
    refine ⟨_, cap, by simp, by simpa using hl, .inr ⟨x, _, e, rfl, setRow_heap' hw, ?_, ?_⟩⟩
    · simp only [List.size_toArray, List.length_append, List.length_take, List.length_drop, Array.length_toList]; omega
    · refine ElRel.inBlock (EsRel.set (hus.keep U.keep) hd0 (CRel.keep U.keep hcu') husz') (setRow_heap' hw) fun j v hv => ?_
      rw [flatC_set hus.sizes husz' (by omega)] at hv
      have old : ∀ v, (flatC us)[j]? = some v → cells.toList[j]? = some v := fun v hv => by
        have := hcell j v hv
        simpa [World.cell?, pl, hw] using this
      have hoff : ∀ j', j' < sz → u.cells.toList[j']? = cells.toList[idx * sz + j']? := by
        intro j' hj'
        have h1 : u.cells[j']? = some (u.cells[j']'(by omega)) := Array.getElem?_eq_getElem (by omega)
        have h2 : (flatC us)[idx * sz + j']? = u.cells[j']? := by
          have := flatC_set (us := us) (i := idx) (j := idx * sz + j') (u := u) hus.sizes husz (by omega)
          rw [set_self hu, if_pos (by omega)] at this
          rw [this]; congr 1; omega
        rw [h1] at h2
        have h3 := hcell _ _ h2
        have h4 : cells[idx * sz + j']? = some (u.cells[j']'(by omega)) := by simpa [World.cell?, pl, hw] using h3
        rw [Array.getElem?_toList, Array.getElem?_toList, h1, h4]
      split at hv
      · rename_i hj
        rw [← Array.getElem?_toList, hcat] at hv
        by_cases h1 : j - idx * sz < off
        · rw [List.append_assoc, List.getElem?_append_left (by simp; omega), List.getElem?_take_of_lt h1, hoff _ (by omega), show idx * sz + (j - idx * sz) = j by omega] at hv
          rw [List.append_assoc, List.getElem?_append_left (by simp; omega), List.getElem?_take_of_lt (by omega)]
          exact hv
        · have m1 : min off sz = off := by omega
          have m2 : min (idx * sz + off) cells.size = idx * sz + off := by omega
          rw [List.append_assoc, List.getElem?_append_right (by simp; omega)] at hv
          rw [List.append_assoc, List.getElem?_append_right (by simp; omega)]
          simp only [List.length_take, Array.length_toList, husz, m1, m2] at hv ⊢
          rw [show j - idx * sz - off = j - (idx * sz + off) by omega] at hv
          by_cases h2 : j - (idx * sz + off) < vs.length
          · rw [List.getElem?_append_left h2] at hv ⊢; exact hv
          · rw [List.getElem?_append_right (by omega)] at hv ⊢
            rw [List.getElem?_drop] at hv ⊢
            rw [hoff _ (by omega)] at hv
            rw [← hv]; congr 1; omega
      · rename_i hj
        have hv' := old v hv
        by_cases h1 : j < idx * sz + off
        · rw [List.append_assoc, List.getElem?_append_left (by simp; omega), List.getElem?_take_of_lt h1]; exact hv'
        · have m2 : min (idx * sz + off) cells.size = idx * sz + off := by omega
          rw [List.append_assoc, List.getElem?_append_right (by simp; omega)]
          simp only [List.length_take, Array.length_toList, m2]
          rw [List.getElem?_append_right (by omega), List.getElem?_drop]
          rw [← hv']; congr 1; omega
  · intro U; trivial

theorem storeK_sound {t : TypeId} {x y : AVal} {v u : Value} {K : List Blk → Option R'} (R : Rel F w μ b) (hx : ARel (Or F (Own μ b)) w μ b x v) (hy : ARel (Or F (Own μ b)) w μ b y u)
    (h : storeK P t b x y K = some r) : ∃ b', K b' = some r ∧ ∃ w' μ', (Instr.storeAt t v u).run P w = .ok () w' ∧ ∀ z, Post F w μ b w' μ' b' .un z := by
  unfold storeK at h
  split at h
  · cases h
  rename_i d hd
  split at h
  · rename_i i off
    obtain ⟨cs, hcs, h⟩ := bind_some' h
    obtain ⟨l, vs, h, hl, hvs, hn, _, _⟩ := wCells_sound hy h
    obtain ⟨h0, h⟩ := br_none h
    simp only [decide_eq_true_eq] at h0
    obtain ⟨ver, x', cur, e, hb, hm, hw, ha, ho⟩ := R.box hcs
    obtain ⟨x'', hm', rfl⟩ := hx
    rw [hm] at hm'; cases hm'
    have hlen := ha.len
    have hll := hl.len
    have hst := run_storeCells_at (P := P) x' off e vs 0 (List.toArray cur) w hw (by simp; omega) fun z hz => by
      obtain ⟨j, hj⟩ := List.mem_iff_getElem?.1 hz
      have hj' : j < l.length := by rw [← hll]; exact (List.getElem?_eq_some_iff.1 hj).1
      obtain ⟨z', hz', _, hf⟩ := hl.get (List.getElem?_eq_getElem hj')
      rw [hj] at hz'; cases hz'
      exact flat_oneCell (hf rfl)
    refine ⟨_, h, w.setRow x' (cur.take off ++ vs ++ cur.drop (off + vs.length)).toArray, μ, ?_, fun z => ?_⟩
    · simp only [Instr.storeAt, Sem.run_bind, sureAddr_run, Result.andThen_ok, storeVar, run_size hd, hvs, List.size_toArray, hn, ne_eq, not_true_eq_false, if_false, Sem.run_ite]
      rw [← hn]
      exact hst
    · have e1 : verOf b i = ver := verOf_at hb
      rw [e1]
      have key := set_post (F := F) (x := .un) (v := z) (h' := .box x') (blk' := ⟨ver, .box (splice cs off l)⟩) (w' := w.setRow x' (cur.take off ++ vs ++ cur.drop (off + vs.length)).toArray)
        R hb hm ⟨Nat.le_refl _, id, fun _ h => h, fun _ h => by simp [isArr] at h⟩ (by simp) ?_ ?_ rfl rfl rfl ?_ ?_
      · rw [set_self hm] at key; exact key
      · intro z _ hz; cases hz
        exact ⟨by simpa using (R.fres x' ho).2, .inr ⟨rfl, rfl⟩⟩
      · intro z _ hne
        exact setRow_off fun e => hne rfl (by rw [e]; rfl)
      · intro U
        exact ⟨x', _, e, rfl, setRow_heap' hw, AsRel.upd U (ha.splice off hl)⟩
      · intro U; trivial
  · rename_i i ver idx off
    obtain ⟨c', hc', h⟩ := bind_some' h
    obtain ⟨xs, hxs, h⟩ := bind_some' h
    obtain ⟨c, hc, h⟩ := bind_some' h
    obtain ⟨hfit, h⟩ := br_none h
    obtain ⟨U0, R0⟩ := killA_upd y R
    have hcl := closeA_sound R (killA_sub y b) hc' hy (killA_dead y b)
    have hx0 := ARel.upd U0 hx
    generalize killA y b = b0 at *
    obtain ⟨sz, base, cap, hb, hm, hl, hcap⟩ := R0.arr hxs
    obtain ⟨_, blk, hd', hb', hm', hn, hle, hcur⟩ := hx0
    rw [hb] at hb'; cases hb'
    rw [hm] at hm'; cases hm'
    obtain ⟨x', len, cap', sz', he, hidx, rfl⟩ := hcur rfl rfl
    cases he
    rcases hcap with h0 | ⟨x'', cells, e, hbase, hw, hsz, hel⟩
    · omega
    cases hbase
    have hcap0 : cap ≠ 0 := by omega
    have hszb : szOf b0 i = sz := by simp [szOf, hb]
    obtain ⟨vs, hvs, hcs, hn, _⟩ := CRel.fits hcl hfit
    have hflat : ∀ z ∈ vs, flat z = true := by
      intro z hz
      obtain ⟨j, hj⟩ := List.mem_iff_getElem?.1 hz
      have hj' : j < c'.cells.length := by rw [← hcs.len]; exact (List.getElem?_eq_some_iff.1 hj).1
      obtain ⟨z', hz', _, hf⟩ := hcs.get (List.getElem?_eq_getElem hj')
      rw [hj] at hz'; cases hz'
      exact hf rfl
    have hsv : ∀ w', (storeCells (pl x' (idx * sz + off)) vs).run P w = .ok () w' → (Instr.storeAt t (.pointer (some (pl x' (idx * sz + off)))) u).run P w = .ok () w' := by
      intro w' hr
      simp only [Instr.storeAt, Sem.run_bind, sureAddr_run, Result.andThen_ok, storeVar, run_size hd, hvs, List.size_toArray, hn, ne_eq, not_true_eq_false, if_false, Sem.run_ite]
      exact hr
    rcases br_some h with ⟨h1, g⟩ | ⟨_, g⟩
    · simp only [Bool.and_eq_true, decide_eq_true_eq] at h1
      obtain ⟨h1, hfc⟩ := h1
      subst h1
      rw [hszb] at g
      have hsz' : ∀ u, CRel (Or F (Own μ b0)) w c u → u.cells.size = sz → sz = vs.length := by
        intro u0 hu0 hs0
        obtain ⟨vs0, hvs0, _, hn0, _⟩ := CRel.fits hu0 hfc
        rw [hvs0] at hs0; simp at hs0; omega
      obtain ⟨us, hus, _⟩ := hel.out
      obtain ⟨u0, _, _, hu0, hs0⟩ := hus.get hc
      have hvl := hsz' u0 hu0 hs0
      obtain ⟨w', hr, hp⟩ := store_elem (P := P) (d := c') (off := 0) (vs := vs) R0 hb hm hl hcap0 hw hsz hel hc (fits_noTup hfit) (fun u1 _ hs1 => ⟨u, hcl, by rw [hvs]; simp; omega, by
        rw [hvs]
        have : u1.cells.toList.length = vs.length := by simp; omega
        simp [← this]⟩) hflat (by omega)
      exact ⟨_, g, w', μ, hsv w' hr, fun z => Post.pre U0 (.refl _ _) (hp z)⟩
    · obtain ⟨h1, g⟩ := br_none g
      simp only [Bool.and_eq_true, decide_eq_true_eq] at h1
      obtain ⟨h1, h2⟩ := h1
      rw [hszb] at g
      obtain ⟨cs, rfl⟩ : ∃ cs, c = .agg cs := by
        cases c <;> simp [CVal.isAgg] at h1
        exact ⟨_, rfl⟩
      have h2 : off + c'.cells.length ≤ cs.length := h2
      have hcl' := hcs.len
      have hlen2 : ∀ u1, CRel (Or F (Own μ b0)) w (.agg cs) u1 → u1.cells.size = sz → ∃ vs1 : List Value, u1 = .agg vs1.toArray ∧ CsRel (Or F (Own μ b0)) w true cs vs1 ∧ vs1.length = sz ∧ cs.length = sz := by
        intro u1 hu1 hs1
        obtain ⟨vs1, rfl, hc1⟩ := hu1
        have := hc1.len
        simp [Value.cells] at hs1
        exact ⟨vs1, rfl, hc1, hs1, by omega⟩
      obtain ⟨us, hus, _⟩ := hel.out
      obtain ⟨u0, _, _, hu0, hs0⟩ := hus.get hc
      obtain ⟨_, _, _, _, hcsz⟩ := hlen2 u0 hu0 hs0
      obtain ⟨w', hr, hp⟩ := store_elem (P := P) (d := .agg (splice cs off c'.cells)) (off := off) (vs := vs) R0 hb hm hl hcap0 hw hsz hel hc rfl (fun u1 hu1 hs1 => by
        obtain ⟨vs1, rfl, hc1, hl1, _⟩ := hlen2 u1 hu1 hs1
        refine ⟨.agg (vs1.take off ++ vs ++ vs1.drop (off + vs.length)).toArray, ⟨_, rfl, hc1.splice off hcs⟩, ?_, ?_⟩
        · simp [Value.cells]; omega
        · simp [Value.cells]) hflat (by omega)
      exact ⟨_, g, w', μ, hsv w' hr, fun z => Post.pre U0 (.refl _ _) (hp z)⟩
  · cases h

/-- A part of a slice. -/
theorem run_bound {n : Int} {y : Nat} {k : IntKind} {code : BoundsCode} (h0 : 0 ≤ n) (h1 : n ≤ y) : (Instr.sliceBound (.int k n) y code).run P w = .ok n.toNat w := by
  have : 0 ≤ n ∧ n ≤ (y : Int) := ⟨h0, h1⟩
  simp [Instr.sliceBound, asIntOf, this]

theorem wOpt_sound {x : Option AVal} {v : Option Value} {d : Int} {K : Int → Option R'} (hx : ∀ a, x = some a → ∃ u, v = some u ∧ ARel N w μ b a u) (hn : x = none → v = none)
    (h : wOpt x d K = some r) : ∃ n, K n = some r ∧ ((x = none ∧ v = none ∧ n = d) ∨ ∃ k, v = some (.int k n)) := by
  unfold wOpt at h
  cases x with
  | none => exact ⟨d, h, .inl ⟨rfl, hn rfl, rfl⟩⟩
  | some a =>
    obtain ⟨u, rfl, hu⟩ := hx a rfl
    obtain ⟨k, n, rfl, h⟩ := wIdx_sound hu h
    exact ⟨n, h, .inr ⟨k, rfl⟩⟩

/-- The bounds of a slice expression without a third index. -/
theorem run_bounds {isS : Bool} {len cap : Nat} {lo hi : Option Value} {l h : Int} (hl : (lo = none ∧ l = 0) ∨ ∃ k, lo = some (.int k l)) (hh : (hi = none ∧ h = len) ∨ ∃ k, hi = some (.int k h))
    (h0 : 0 ≤ l) (h1 : l ≤ h) (h2 : h ≤ len) (h3 : len ≤ cap) : (Instr.sliceBounds isS len cap lo hi none).run P w = .ok (l.toNat, h.toNat, cap) w := by
  unfold Instr.sliceBounds
  rcases hl with ⟨rfl, rfl⟩ | ⟨k, rfl⟩ <;> rcases hh with ⟨rfl, rfl⟩ | ⟨k', rfl⟩
  · simp
  · simp [run_bound (P := P) (w := w) (n := h) (y := cap) (k := k') (by omega) (by omega)]
  · simp [run_bound (P := P) (w := w) (n := l) (y := len) (k := k) h0 (by omega)]
  · simp [run_bound (P := P) (w := w) (n := h) (y := cap) (k := k') (by omega) (by omega), run_bound (P := P) (w := w) (n := l) (y := h.toNat) (k := k) h0 (by omega)]

theorem sl_cut {xs : List CVal} {v : Value} {l h n : Nat} {agg : Bool} (hx : CRel N w (.sl xs) v) (h1 : l ≤ h) (h2 : h ≤ xs.length) (hf : xs.all (CVal.fits agg n) = true) :
    ∃ base cap, v = .slice base xs.length cap ∧ xs.length ≤ cap ∧
      CRel N w (.sl ((xs.take h).drop l)) (.slice (if cap = l then base else base.map (·.add (l * n))) (h - l) (cap - l)) := by
  obtain ⟨base, cap, rfl, hl, hc⟩ := hx
  have hlen : ((xs.take h).drop l).length = h - l := by simp; omega
  refine ⟨base, cap, rfl, hl, _, cap - l, by rw [hlen], by rw [hlen]; omega, ?_⟩
  by_cases h3 : h = l
  · left
    apply List.length_eq_zero_iff.1
    rw [hlen]; omega
  · rcases hc with rfl | ⟨x, o, sz, rfl, hn, hs, he⟩
    · simp at h2; omega
    · right
      have hsz : sz = n := by
        obtain ⟨us, hus, _⟩ := he.out
        exact hus.size hf (fun e => by subst e; simp at h2; omega)
      subst hsz
      rw [if_neg (by omega)]
      exact ⟨x, o + l * sz, sz, by simp [pl_add], hn, hs, (he.take h).drop l⟩

theorem len_str (s : List UInt8) : (⟨s.toArray⟩ : ByteArray).size = s.length := rfl

theorem extract_str (s : List UInt8) (l h : Nat) : (⟨s.toArray⟩ : ByteArray).extract l h = ⟨((s.take h).drop l).toArray⟩ := by
  apply ByteArray.ext
  apply Array.ext'
  rw [ByteArray.data_extract]
  simp [List.drop_take]

theorem sliceK_sound {t : TypeId} {x : AVal} {v : Value} {lo hi mx : Option AVal} {vlo vhi vmx : Option Value} {K : AVal → List Blk → Option R'} (R : Rel F w μ b) (hx : ARel (Or F (Own μ b)) w μ b x v)
    (hlo : ∀ a, lo = some a → ∃ u, vlo = some u ∧ ARel (Or F (Own μ b)) w μ b a u) (hlo0 : lo = none → vlo = none)
    (hhi : ∀ a, hi = some a → ∃ u, vhi = some u ∧ ARel (Or F (Own μ b)) w μ b a u) (hhi0 : hi = none → vhi = none) (hmx : mx = none → vmx = none)
    (h : sliceK P t b x lo hi mx K = some r) : Acts P F w μ b K r (Instr.sliceAt t v vlo vhi vmx) (closedV x) := by
  unfold sliceK at h
  split at h
  · cases h
  rw [hmx rfl]
  split at h
  · rename_i ht
    obtain ⟨s, rfl, h⟩ := wStr_sound hx h
    obtain ⟨hh, h, hH⟩ := wOpt_sound hhi hhi0 h
    obtain ⟨l, h, hL⟩ := wOpt_sound hlo hlo0 h
    obtain ⟨h0, h⟩ := br_none h
    simp only [Bool.and_eq_true, decide_eq_true_eq] at h0
    obtain ⟨⟨h0, h1⟩, h2⟩ := h0
    have hb := run_bounds (P := P) (w := w) (isS := false) (len := s.length) (cap := s.length) (lo := vlo) (hi := vhi) (l := l) (h := hh)
      (hL.imp (fun h => ⟨h.2.1, h.2.2⟩) id) (hH.imp (fun h => ⟨h.2.1, h.2.2⟩) id) h0 h1 h2 (Nat.le_refl _)
    refine ⟨_, _, h, fun _ => rfl, .string ⟨((s.take hh.toNat).drop l.toNat).toArray⟩, w, μ, ?_, .same R rfl⟩
    simp [Instr.sliceAt, run_und ht, Instr.slice, len_str, hb, extract_str]
  · rename_i e ht
    obtain ⟨he0, h⟩ := br_none h
    obtain ⟨d, hd⟩ := Option.isSome_iff_exists.1 he0
    cases x with
    | v c =>
      obtain ⟨xs, hxs, h⟩ := bind_some' (x := c.asSl) h
      cases c <;> simp [CVal.asSl] at hxs
      subst hxs
      obtain ⟨hh, h, hH⟩ := wOpt_sound hhi hhi0 h
      obtain ⟨l, h, hL⟩ := wOpt_sound hlo hlo0 h
      obtain ⟨h0, h⟩ := br_none h
      simp only [Bool.and_eq_true, decide_eq_true_eq] at h0
      obtain ⟨⟨⟨h0, h1⟩, h2⟩, h3⟩ := h0
      obtain ⟨base, cap, rfl, hcap, hr⟩ := sl_cut (l := l.toNat) (h := hh.toNat) hx (by omega) (by omega) h3
      have hb := run_bounds (P := P) (w := w) (isS := true) (cap := cap) (lo := vlo) (hi := vhi) (l := l) (h := hh)
        (hL.imp (fun h => ⟨h.2.1, h.2.2⟩) id) (hH.imp (fun h => ⟨h.2.1, h.2.2⟩) id) h0 h1 h2 hcap
      refine ⟨_, _, h, fun _ => rfl, _, w, μ, ?_, .same R hr⟩
      simp [Instr.sliceAt, run_und ht, Instr.slice, hb, run_size hd]
    | nl =>
      obtain ⟨base, rfl⟩ := hx
      obtain ⟨hh, h, hH⟩ := wOpt_sound hhi hhi0 h
      obtain ⟨l, h, hL⟩ := wOpt_sound hlo hlo0 h
      obtain ⟨h0, h⟩ := br_none h
      simp only [Bool.and_eq_true, decide_eq_true_eq] at h0
      obtain ⟨rfl, rfl⟩ := h0
      have hb := run_bounds (P := P) (w := w) (isS := true) (len := 0) (cap := 0) (lo := vlo) (hi := vhi) (l := 0) (h := 0)
        (hL.imp (fun h => ⟨h.2.1, rfl⟩) id) (hH.imp (fun h => ⟨h.2.1, rfl⟩) id) (Int.le_refl _) (Int.le_refl _) (Int.le_refl _) (Nat.le_refl _)
      refine ⟨_, _, h, fun _ => rfl, .slice base 0 0, w, μ, ?_, .same R ⟨base, rfl⟩⟩
      simp only [Instr.sliceAt, Sem.run_bind, run_und ht, Result.andThen_ok, Instr.slice, hb, run_size hd]
      rfl
    | lref i ver =>
      obtain ⟨xs, hxs, h⟩ := bind_some' (x := arrOf b i ver) h
      cases lo with
      | some _ => cases h
      | none =>
        obtain ⟨hh, h, hH⟩ := wOpt_sound hhi hhi0 h
        obtain ⟨h0, h⟩ := br_none h
        simp only [Bool.and_eq_true, decide_eq_true_eq] at h0
        obtain ⟨h1, h2⟩ := h0
        rw [hlo0 rfl]
        obtain ⟨sz, base, cap, hb, hm, hl, hc⟩ := R.arr hxs
        obtain ⟨_, blk, hd', hb', hm', _, _, hcur⟩ := hx
        rw [hb] at hb'; cases hb'
        rw [hm] at hm'; cases hm'
        have hv := hcur rfl rfl
        subst hv
        have hi := (List.getElem?_eq_some_iff.1 hb).1
        have hi' := (List.getElem?_eq_some_iff.1 hm).1
        have hbd := run_bounds (P := P) (w := w) (isS := true) (len := xs.length) (cap := cap) (lo := none) (hi := vhi) (l := 0) (h := hh)
          (.inl ⟨rfl, rfl⟩) (hH.imp (fun h => ⟨h.2.1, h.2.2⟩) id) (Int.le_refl _) h1 h2 hl
        have hlen : (xs.take hh.toNat).length = hh.toNat := by simp; omega
        refine ⟨_, _, h, by simp [closedV], .slice base hh.toNat cap, w, μ.set i (.arr base hh.toNat cap sz), ?_, ?_⟩
        · simp only [Instr.sliceAt, Sem.run_bind, run_und ht, Result.andThen_ok, Instr.slice, Hd.val, hbd, run_size hd]
          have e0 : (0 : Int).toNat = 0 := rfl
          rw [e0]
          cases base with
          | none => simp
          | some a => simp [Addr.add]
        · have hsz : szOf b i = sz := by simp [szOf, hb]
          rw [hsz]
          refine set_post R hb hm ⟨Nat.le_succ _, (fun _ h => by cases h), (fun _ h => by cases h), fun e => by simp at e⟩ (Nat.le_refl _) ?_ (fun _ _ _ => rfl) rfl rfl rfl ?_ ?_
          · intro x _ ho
            have ho' : (Hd.arr base xs.length cap sz).own = some x := by
              cases base with
              | none => simp [Hd.own] at ho
              | some a => exact ho
            exact ⟨(R.fres x ⟨i, _, _, hb, rfl, hm, ho'⟩).2, .inr ⟨rfl, ho'⟩⟩
          · intro U
            refine ⟨base, cap, by rw [hlen], by rw [hlen]; omega, ?_⟩
            rcases hc with hc | ⟨x, cells, tt, rfl, hw, hz, he⟩
            · exact .inl hc
            · exact .inr ⟨x, cells, tt, rfl, hw, hz, (ElRel.keepAt U.keep rfl he).take _⟩
          · intro U
            exact ⟨rfl, _, _, List.getElem?_set_self hi, List.getElem?_set_self hi', by simp, Nat.le_refl _, fun _ _ => rfl⟩
    | _ => cases h
  · cases h
end

end Go.Proofs.Ytlgonbonnjkekaa.Abs

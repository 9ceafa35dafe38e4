/- Arguments that are read as data. -/
import Derived.Test.YtlgonbonnjkekaaSound19
import GoSem.ClaimChange
set_option linter.unusedVariables false
set_option linter.unusedSectionVars false
set_option linter.unusedSimpArgs false
namespace Go.Proofs.Ytlgonbonnjkekaa.Abs
open Go

def Cat {α : Type} (p : α → List CVal → Prop) : List α → List CVal → Prop
  | [], cs => cs = []
  | f :: r, cs => ∃ a b, cs = a ++ b ∧ p f a ∧ Cat p r b

/-- The cells of a value of a type. -/
def WT (P : Program) : Nat → TypeId → List CVal → Prop
  | 0, _, _ => False
  | n + 1, t, cs =>
    match P.underlying t with
    | some .bool => ∃ b, cs = [.bool b]
    | some (.int k) => ∃ i, cs = [.int k i] ∧ (Lit.int k i).wf = true
    | some .string => ∃ s, cs = [.str s] ∧ s.length ≤ maxLen
    | some (.pointer e) => cs = [.nilp] ∨ ∃ c, cs = [.fp c 0] ∧ c.fits (aggT P e) (P.cellsOf e) = true ∧ WT P n e c.cells
    | some (.slice e) => ∃ xs, cs = [.sl xs] ∧ xs.length ≤ maxLen ∧ ∀ x ∈ xs, x.fits (aggT P e) (P.cellsOf e) = true ∧ WT P n e x.cells
    | some (.struct fs) => Cat (fun f => WT P n f.type) fs.toList cs
    | some (.array len e) => Cat (fun _ => WT P n e) (List.range len) cs
    | _ => False

def tile (P : Program) : List Field → Nat → Nat → Bool
  | [], o, n => o == n
  | f :: r, o, n => f.offset == o && tile P r (o + P.cellsOf f.type) n

/-- Types of which all parts are among them. -/
def goodT (P : Program) (good : List TypeId) (t : TypeId) : Bool :=
  match P.underlying t with
  | some .bool => P.cellsOf t == 1
  | some (.int _) => P.cellsOf t == 1
  | some .string => P.cellsOf t == 1
  | some (.pointer e) => good.contains e && decide (P.cellsOf e ≠ 0) && P.cellsOf t == 1
  | some (.slice e) => good.contains e && decide (P.cellsOf e ≠ 0) && P.cellsOf t == 1
  | some (.struct fs) => fs.toList.all (fun f => good.contains f.type) && tile P fs.toList 0 (P.cellsOf t)
  | some (.array n e) => good.contains e && P.cellsOf t == n * P.cellsOf e
  | _ => false

section
variable {P : Program} {w : World} {N : Nat → Prop} {H : Type} {enc : TypeId × Value → H}

theorem mapM_some {α β : Type} {f : α → Option β} : ∀ {l : List α} {ys : List β}, l.mapM f = some ys → ys.length = l.length ∧ ∀ (i : Nat) (x : α), l[i]? = some x → ∃ y, ys[i]? = some y ∧ f x = some y
  | [], ys, h => by simp at h; subst h; simp
  | x :: r, ys, h => by
    rw [List.mapM_cons] at h
    simp only [Option.bind_eq_bind, Option.bind_eq_some_iff] at h
    obtain ⟨y, hy, zs, hz, h⟩ := h
    simp at h; subst h
    obtain ⟨h1, h2⟩ := mapM_some hz
    refine ⟨by simp [h1], fun i x' hi => ?_⟩
    cases i with
    | zero => simp at hi; subst hi; exact ⟨y, rfl, hy⟩
    | succ i => simpa using h2 i x' (by simpa using hi)

theorem cells_some {a : Addr} {n : Nat} {cs : List Value} (h : w.cells? 0 a n = some cs) : cs.length = n ∧ ∀ j, j < n → w.cell? (a.add j) = cs[j]? := by
  unfold World.cells? at h
  simp only [Nat.zero_le, if_true] at h
  obtain ⟨h1, h2⟩ := mapM_some h
  simp at h1
  refine ⟨h1, fun j hj => ?_⟩
  obtain ⟨y, hy, hc⟩ := h2 j j (by simp [hj])
  rw [hy, hc]

theorem spot_none {a : Addr} {v : Value} (h : w.cell? a = some v) : a = pl a.block a.off := by
  unfold World.cell? at h
  split at h
  · split at h
    · cases h
    · rename_i hs
      cases a with
      | mk b o s =>
        cases s with
        | none => rfl
        | some _ => simp at hs
  · cases h

theorem WT.flatOne : ∀ {n : Nat} {e : TypeId} {ccs : List CVal}, WT P n e ccs → aggT P e = false → ∃ c, ccs = [c] ∧ c.isFlat = true
  | 0, _, _, h, _ => h.elim
  | n + 1, e, ccs, h, ha => by
    unfold WT at h
    split at h
    · obtain ⟨b, rfl⟩ := h; exact ⟨_, rfl, rfl⟩
    · obtain ⟨b, rfl, _⟩ := h; exact ⟨_, rfl, rfl⟩
    · obtain ⟨b, rfl, _⟩ := h; exact ⟨_, rfl, rfl⟩
    · rcases h with rfl | ⟨c, rfl, _⟩ <;> exact ⟨_, rfl, rfl⟩
    · obtain ⟨b, rfl, _, _⟩ := h; exact ⟨_, rfl, rfl⟩
    · rename_i fs hf; simp [aggT, hf] at ha
    · rename_i k e' hf; simp [aggT, hf] at ha
    · exact h.elim

/-- One value of cells that are known. -/
theorem one_of_cells {n : Nat} {e : TypeId} {ccs : List CVal} {cs : List Value} (hr : CsRel N w true ccs cs) (hl : cs.length = P.cellsOf e) (hw : WT P n e ccs) :
    ∃ c u, c.fits (aggT P e) (P.cellsOf e) = true ∧ c.cells = ccs ∧ CRel N w c u ∧ u.cells = cs.toArray ∧ noTup c = true := by
  have hlen := hr.len
  cases ha : aggT P e with
  | true => exact ⟨.agg ccs, .agg cs.toArray, by simp [CVal.fits, CVal.isAggN]; omega, rfl, ⟨cs, rfl, hr⟩, rfl, rfl⟩
  | false =>
    obtain ⟨c, rfl, hcf⟩ := hw.flatOne ha
    obtain ⟨u, us, rfl, hu, hf, hus⟩ := hr
    have : us = [] := hus
    subst this
    have hfl := hf rfl
    have h1 : P.cellsOf e = 1 := by rw [← hl]; rfl
    refine ⟨c, u, by simp [CVal.fits, hcf, h1], ?_, hu, by rw [cells_flat hfl], ?_⟩
    · cases c <;> first | rfl | cases hcf
    · cases c <;> first | rfl | cases hcf

theorem add_zero' (a : Addr) : a.add 0 = a := by cases a; rfl

/-- What lies at an address, as data. -/
theorem at_addr {n : Nat} {e : TypeId} {a : Addr} {cs : List Value} {ccs : List CVal} (hc : w.cells? 0 a (P.cellsOf e) = some cs) (h0 : P.cellsOf e ≠ 0) (hr : CsRel N w true ccs cs) (hw : WT P n e ccs) :
    ∃ c u, c.fits (aggT P e) (P.cellsOf e) = true ∧ c.cells = ccs ∧ CRel N w c u ∧ noTup c = true ∧ u.cells.size = P.cellsOf e ∧ a = pl a.block a.off ∧ a.block < w.heap.size ∧
      ∀ j, j < P.cellsOf e → w.cell? (pl a.block (a.off + j)) = u.cells[j]? := by
  obtain ⟨hl, hcell⟩ := cells_some hc
  obtain ⟨c, u, h1, h2, h3, h4, h5⟩ := one_of_cells hr hl hw
  have hz := hcell 0 (by omega)
  rw [add_zero'] at hz
  have hlt : 0 < cs.length := by omega
  rw [List.getElem?_eq_getElem hlt] at hz
  have ha := spot_none hz
  refine ⟨c, u, h1, h2, h3, h5, by rw [h4]; simpa using hl, ha, ?_, fun j hj => ?_⟩
  · rw [ha] at hz; exact cell_lt hz
  · have := hcell j hj
    rw [ha, pl_add] at this
    simp only [pl] at this ⊢
    rw [this, h4]; simp

theorem elems_of {n : Nat} {e : TypeId} {a : Addr} : ∀ (m k : Nat), (∀ i, k ≤ i → i < k + m → ∃ c u, c.fits (aggT P e) (P.cellsOf e) = true ∧ WT P n e c.cells ∧ CRel N w c u ∧ noTup c = true ∧ u.cells.size = P.cellsOf e ∧
      ∀ j, j < P.cellsOf e → w.cell? (pl a.block (a.off + i * P.cellsOf e + j)) = u.cells[j]?) →
    ∃ xs : List CVal, xs.length = m ∧ ElRel N w (P.cellsOf e) a.block (a.off + k * P.cellsOf e) xs ∧ ∀ x ∈ xs, x.fits (aggT P e) (P.cellsOf e) = true ∧ WT P n e x.cells
  | 0, k, _ => ⟨[], rfl, trivial, by simp⟩
  | m + 1, k, h => by
    obtain ⟨c, u, h1, h2, h3, h4, h5, h6⟩ := h k (Nat.le_refl _) (by omega)
    obtain ⟨xs, hl, hel, hall⟩ := elems_of m (k + 1) fun i hi hi' => h i (by omega) (by omega)
    refine ⟨c :: xs, by simp [hl], ⟨⟨u, h4, h3, h5, h6⟩, ?_⟩, ?_⟩
    · rw [show a.off + k * P.cellsOf e + P.cellsOf e = a.off + (k + 1) * P.cellsOf e by rw [Nat.add_mul]; omega]
      exact hel
    · intro x hx
      rcases List.mem_cons.1 hx with e | e
      · subst e; exact ⟨h1, h2⟩
      · exact hall x e

theorem cat_fields {n : Nat} {cs : List Value} : ∀ (fs : List Field) (o : Nat), tile P fs o cs.length = true →
    (∀ f ∈ fs, ∃ ccs, CsRel N w true ccs ((cs.drop f.offset).take (P.cellsOf f.type)) ∧ WT P n f.type ccs) → ∃ ccs, CsRel N w true ccs (cs.drop o) ∧ Cat (fun f => WT P n f.type) fs ccs
  | [], o, ht, _ => by
    simp [tile] at ht
    exact ⟨[], by rw [ht]; simp [CsRel], rfl⟩
  | f :: r, o, ht, h => by
    simp only [tile, Bool.and_eq_true, beq_iff_eq] at ht
    obtain ⟨rfl, ht⟩ := ht
    obtain ⟨x, hx, hwx⟩ := h f (by simp)
    obtain ⟨y, hy, hcy⟩ := cat_fields r _ ht fun g hg => h g (by simp [hg])
    refine ⟨x ++ y, ?_, x, y, rfl, hwx, hcy⟩
    have := hx.append hy
    rw [← List.drop_drop, List.take_append_drop] at this
    exact this

theorem cat_elems {n : Nat} {e : TypeId} {cs : List Value} : ∀ (m k : Nat), (k + m) * P.cellsOf e = cs.length →
    (∀ i, k ≤ i → i < k + m → ∃ ccs, CsRel N w true ccs ((cs.drop (i * P.cellsOf e)).take (P.cellsOf e)) ∧ WT P n e ccs) → ∃ ccs, CsRel N w true ccs (cs.drop (k * P.cellsOf e)) ∧ Cat (fun _ => WT P n e) (List.range' k m) ccs
  | 0, k, hl, _ => ⟨[], by rw [Nat.add_zero] at hl; rw [hl]; simp [CsRel], rfl⟩
  | m + 1, k, hl, h => by
    obtain ⟨x, hx, hwx⟩ := h k (Nat.le_refl _) (by omega)
    obtain ⟨y, hy, hcy⟩ := cat_elems m (k + 1) (by rw [← hl]; congr 1; omega) fun i hi hi' => h i (by omega) (by omega)
    refine ⟨x ++ y, ?_, x, y, rfl, hwx, by simpa [List.range'_succ] using hcy⟩
    have := hx.append hy
    rw [Nat.add_mul, Nat.one_mul, ← List.drop_drop, List.take_append_drop] at this
    exact this

theorem trod_wt {good : List TypeId} (hg : good.all (goodT P good) = true) : ∀ (fuel : Nat) {t : TypeId} {cs : List Value} {d : DataW H} {ps : List MemPlace}, good.contains t = true →
    DataW.trod enc P w 0 (fun _ => true) true fuel t cs = some (d, ps) → ∃ ccs, CsRel (fun _ => False) w true ccs cs ∧ WT P fuel t ccs
  | 0, _, _, _, _, _, h => by simp [DataW.trod] at h
  | fuel + 1, t, cs, d, ps, ht, h => by
    have hgt := List.all_eq_true.1 hg t (by simpa using ht)
    have one : ∀ {v : Value} {c : CVal}, CRel (fun _ => False) w c v → flat v = true → CsRel (fun _ => False) w true [c] [v] := fun hc hf => ⟨_, [], rfl, hc, fun _ => hf, rfl⟩
    unfold goodT at hgt
    unfold DataW.trod at h
    unfold WT
    split at h
    · -- bool
      rename_i b hu
      simp only [hu]
      exact ⟨[.bool b], one rfl rfl, b, rfl⟩
    · -- int
      rename_i k k' n hu
      simp only [hu]
      split at h
      · rename_i hk
        obtain ⟨rfl, hwf⟩ := hk
        exact ⟨[.int _ n], one rfl rfl, n, rfl, hwf⟩
      · cases h
    · rename_i k k' b hu
      rw [hu] at hgt; cases hgt
    · -- string
      rename_i x hu
      simp only [hu]
      split at h
      · rename_i hx
        exact ⟨[.str x.data.toList], one (by show _ = _; simp) rfl, _, rfl, by rw [Array.length_toList]; exact hx⟩
      · cases h
    · -- nil
      rename_i e hu
      simp only [hu]
      exact ⟨[.nilp], one rfl rfl, .inl rfl⟩
    · -- pointer
      rename_i e a hu
      simp only [hu] at hgt ⊢
      simp only [Bool.and_eq_true, decide_eq_true_eq] at hgt
      obtain ⟨⟨hge, h0⟩, _⟩ := hgt
      cases hc : w.cells? 0 a (P.cellsOf e) with
      | none => rw [hc] at h; cases h
      | some cs' =>
        rw [hc] at h
        simp only [Option.bind_some] at h
        cases ht' : DataW.trod enc P w 0 (fun _ => true) true fuel e cs' with
        | none => rw [ht'] at h; cases h
        | some y =>
          obtain ⟨ccs, hr, hw⟩ := trod_wt hg fuel hge ht'
          obtain ⟨c, u, h1, h2, h3, h4, h5, h6, h7, h8⟩ := at_addr hc h0 hr hw
          refine ⟨[.fp c 0], one ⟨a.block, a.off, u, by rw [Nat.add_zero, ← h6], fun h => h, h7, h4, h3, fun j hj => h8 j (by omega)⟩ rfl, .inr ⟨c, rfl, h1, by rw [h2]; exact hw⟩⟩
    · -- no slice
      rename_i e hu
      simp only [hu]
      exact ⟨[.sl []], one ⟨none, 0, rfl, Nat.le_refl _, .inl rfl⟩ rfl, [], rfl, by simp [maxLen], by simp⟩
    · -- slice
      rename_i e a len cap hu
      simp only [hu] at hgt ⊢
      simp only [Bool.and_eq_true, decide_eq_true_eq] at hgt
      obtain ⟨⟨hge, h0⟩, _⟩ := hgt
      split at h
      · rename_i hcap
        obtain ⟨_, hlc, hcm⟩ := hcap
        simp only [Option.bind_eq_some_iff] at h
        obtain ⟨elems, hel, h⟩ := h
        obtain ⟨hl1, hl2⟩ := mapM_some hel
        have raw : ∀ i, i < len → ∃ cs' y, w.cells? 0 (a.add (i * P.cellsOf e)) (P.cellsOf e) = some cs' ∧ DataW.trod enc P w 0 (fun _ => true) true fuel e cs' = some y := by
          intro i hi
          obtain ⟨y, _, hy⟩ := hl2 i i (by simp [hi])
          obtain ⟨cs', hc, ht'⟩ := Option.bind_eq_some_iff.1 hy
          exact ⟨cs', y, hc, ht'⟩
        by_cases hz : len = 0
        · exact ⟨[.sl []], one ⟨some a, cap, by rw [hz]; rfl, by simp, .inl rfl⟩ rfl, [], rfl, by simp [maxLen], by simp⟩
        · obtain ⟨cs0, y0, hc0, ht0⟩ := raw 0 (by omega)
          rw [Nat.zero_mul, add_zero'] at hc0
          obtain ⟨ccs0, hr0, hw0⟩ := trod_wt hg fuel hge ht0
          obtain ⟨_, _, _, _, _, _, _, ha, hlt, _⟩ := at_addr hc0 h0 hr0 hw0
          have each : ∀ i, i < len → ∃ c u, c.fits (aggT P e) (P.cellsOf e) = true ∧ WT P fuel e c.cells ∧ CRel (fun _ => False) w c u ∧ noTup c = true ∧ u.cells.size = P.cellsOf e ∧
              ∀ j, j < P.cellsOf e → w.cell? (pl a.block (a.off + i * P.cellsOf e + j)) = u.cells[j]? := by
            intro i hi
            obtain ⟨cs', y, hc, ht'⟩ := raw i hi
            obtain ⟨ccs, hr, hw⟩ := trod_wt hg fuel hge ht'
            obtain ⟨c, u, h1, h2, h3, h4, h5, h6, h7, h8⟩ := at_addr hc h0 hr hw
            refine ⟨c, u, h1, by rw [h2]; exact hw, h3, h4, h5, ?_⟩
            rw [ha, pl_add] at h8
            exact h8
          obtain ⟨xs, hxl, hxe, hxa⟩ := elems_of (n := fuel) (e := e) (a := a) len 0 fun i _ hi => each i (by omega)
          rw [Nat.zero_mul, Nat.add_zero] at hxe
          exact ⟨[.sl xs], one ⟨some a, cap, by rw [hxl], by omega, .inr ⟨a.block, a.off, P.cellsOf e, by rw [← ha], fun h => h, hlt, hxe⟩⟩ rfl, xs, rfl, by omega, hxa⟩
      · cases h
    · -- struct
      rename_i cs _ _ fs hu
      simp only [hu] at hgt ⊢
      simp only [Bool.and_eq_true] at hgt
      obtain ⟨hgf, htile⟩ := hgt
      split at h
      · rename_i hlen
        cases hm : fs.toList.mapM (fun f => DataW.trod enc P w 0 (fun _ => true) true fuel f.type ((cs.drop f.offset).take (P.cellsOf f.type))) with
        | none => rw [hm] at h; cases h
        | some ys =>
          obtain ⟨_, hl2⟩ := mapM_some hm
          have := cat_fields (w := w) (N := fun _ => False) (n := fuel) (cs := cs) fs.toList 0 (by rw [hlen]; exact htile) fun f hf => by
            obtain ⟨i, hi⟩ := List.mem_iff_getElem?.1 hf
            obtain ⟨y, _, hy⟩ := hl2 i f hi
            exact trod_wt hg fuel (List.all_eq_true.1 hgf f hf) hy
          simpa using this
      · cases h
    · -- array
      rename_i cs _ _ n e hu
      simp only [hu] at hgt ⊢
      simp only [Bool.and_eq_true, beq_iff_eq] at hgt
      obtain ⟨hge, hsz⟩ := hgt
      split at h
      · rename_i hlen
        cases hm : (List.range n).mapM (fun i => DataW.trod enc P w 0 (fun _ => true) true fuel e ((cs.drop (i * P.cellsOf e)).take (P.cellsOf e))) with
        | none => rw [hm] at h; cases h
        | some ys =>
          obtain ⟨_, hl2⟩ := mapM_some hm
          have := cat_elems (P := P) (w := w) (N := fun _ => False) (n := fuel) (e := e) (cs := cs) n 0 (by rw [Nat.zero_add, hlen, hsz]) fun i _ hi => by
            obtain ⟨y, _, hy⟩ := hl2 i i (List.getElem?_range (by omega))
            exact trod_wt hg fuel hge hy
          rw [Nat.zero_mul] at this
          rw [List.range_eq_range']
          exact this
      · cases h
    all_goals (rename_i hu; first | (rw [hu] at hgt; cases hgt) | skip)
    all_goals cases h
end
end Go.Proofs.Ytlgonbonnjkekaa.Abs

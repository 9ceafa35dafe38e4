/- Lists of cells, and what the operations on values alone come to. -/
import Derived.Test.YtlgonbonnjkekaaRel
import Derived.Laws.CopyRow
import Derived.Laws.Cells
import Derived.Laws.World
set_option linter.unusedVariables false
set_option linter.unusedSectionVars false
set_option linter.unusedSimpArgs false
namespace Go.Proofs.Ytlgonbonnjkekaa.Abs
open Go

theorem br_some {R : Type} {b : Bool} {x y : Option R} {r : R} (h : br b x y = some r) : (b = true ∧ x = some r) ∨ (b = false ∧ y = some r) := by
  cases b
  · exact .inr ⟨rfl, h⟩
  · exact .inl ⟨rfl, h⟩
theorem br_none {R : Type} {b : Bool} {x : Option R} {r : R} (h : br b x none = some r) : b = true ∧ x = some r := by
  cases b
  · cases h
  · exact ⟨rfl, h⟩
theorem bind_some' {α R : Type} {x : Option α} {f : α → Option R} {r : R} (h : x.bind f = some r) : ∃ a, x = some a ∧ f a = some r := Option.bind_eq_some_iff.1 h

theorem flat_oneCell {v : Value} (h : flat v = true) : v.oneCell' = true := by
  cases v <;> first | rfl | (simp [flat] at h)

section
variable {N : Nat → Prop} {w : World} {μ : List Hd} {b : List Blk}

theorem CsRel.len : ∀ {fl : Bool} {cs : List CVal} {vs : List Value}, CsRel N w fl cs vs → vs.length = cs.length
  | _, [], _, h => by rw [show _ = [] from h]; rfl
  | _, c :: r, _, h => by
    obtain ⟨u, us, rfl, _, _, h⟩ := h
    simp [CsRel.len h]

theorem CsRel.get : ∀ {fl : Bool} {cs : List CVal} {vs : List Value} {i : Nat} {c : CVal}, CsRel N w fl cs vs → cs[i]? = some c → ∃ v, vs[i]? = some v ∧ CRel N w c v ∧ (fl = true → flat v = true)
  | _, [], _, i, _, _, hi => by simp at hi
  | _, c :: r, _, 0, _, h, hi => by
    obtain ⟨u, us, rfl, hc, hf, h⟩ := h
    simp at hi; subst hi
    exact ⟨u, rfl, hc, hf⟩
  | _, c :: r, _, i + 1, _, h, hi => by
    obtain ⟨u, us, rfl, hc, hf, h⟩ := h
    obtain ⟨v, h1, h2⟩ := CsRel.get h (by simpa using hi)
    exact ⟨v, by simpa using h1, h2⟩

theorem CsRel.take : ∀ {fl : Bool} {cs : List CVal} {vs : List Value} (n : Nat), CsRel N w fl cs vs → CsRel N w fl (cs.take n) (vs.take n)
  | _, [], _, n, h => by rw [show _ = [] from h]; simp [CsRel]
  | _, c :: r, _, 0, h => by simp [CsRel]
  | _, c :: r, _, n + 1, h => by
    obtain ⟨u, us, rfl, hc, hf, h⟩ := h
    exact ⟨u, us.take n, by simp, hc, hf, CsRel.take n h⟩
theorem CsRel.drop : ∀ {fl : Bool} {cs : List CVal} {vs : List Value} (n : Nat), CsRel N w fl cs vs → CsRel N w fl (cs.drop n) (vs.drop n)
  | _, [], _, n, h => by rw [show _ = [] from h]; simp [CsRel]
  | _, c :: r, _, 0, h => by simpa using h
  | _, c :: r, _, n + 1, h => by
    obtain ⟨u, us, rfl, hc, hf, h⟩ := h
    simpa using CsRel.drop n h
theorem CsRel.append : ∀ {fl : Bool} {cs ds : List CVal} {vs us : List Value}, CsRel N w fl cs vs → CsRel N w fl ds us → CsRel N w fl (cs ++ ds) (vs ++ us)
  | _, [], _, _, _, h, k => by rw [show _ = [] from h]; simpa using k
  | _, c :: r, _, _, _, h, k => by
    obtain ⟨u, us', rfl, hc, hf, h⟩ := h
    exact ⟨u, us' ++ _, by simp, hc, hf, CsRel.append h k⟩

theorem AsRel.len : ∀ {fl : Bool} {cs : List AVal} {vs : List Value}, AsRel N w μ b fl cs vs → vs.length = cs.length
  | _, [], _, h => by rw [show _ = [] from h]; rfl
  | _, c :: r, _, h => by
    obtain ⟨u, us, rfl, _, _, h⟩ := h
    simp [AsRel.len h]
theorem AsRel.get : ∀ {fl : Bool} {cs : List AVal} {vs : List Value} {i : Nat} {c : AVal}, AsRel N w μ b fl cs vs → cs[i]? = some c → ∃ v, vs[i]? = some v ∧ ARel N w μ b c v ∧ (fl = true → flat v = true)
  | _, [], _, i, _, _, hi => by simp at hi
  | _, c :: r, _, 0, _, h, hi => by
    obtain ⟨u, us, rfl, hc, hf, h⟩ := h
    simp at hi; subst hi
    exact ⟨u, rfl, hc, hf⟩
  | _, c :: r, _, i + 1, _, h, hi => by
    obtain ⟨u, us, rfl, hc, hf, h⟩ := h
    obtain ⟨v, h1, h2⟩ := AsRel.get h (by simpa using hi)
    exact ⟨v, by simpa using h1, h2⟩
theorem AsRel.take : ∀ {fl : Bool} {cs : List AVal} {vs : List Value} (n : Nat), AsRel N w μ b fl cs vs → AsRel N w μ b fl (cs.take n) (vs.take n)
  | _, [], _, n, h => by rw [show _ = [] from h]; simp [AsRel]
  | _, c :: r, _, 0, h => by simp [AsRel]
  | _, c :: r, _, n + 1, h => by
    obtain ⟨u, us, rfl, hc, hf, h⟩ := h
    exact ⟨u, us.take n, by simp, hc, hf, AsRel.take n h⟩
theorem AsRel.drop : ∀ {fl : Bool} {cs : List AVal} {vs : List Value} (n : Nat), AsRel N w μ b fl cs vs → AsRel N w μ b fl (cs.drop n) (vs.drop n)
  | _, [], _, n, h => by rw [show _ = [] from h]; simp [AsRel]
  | _, c :: r, _, 0, h => by simpa using h
  | _, c :: r, _, n + 1, h => by
    obtain ⟨u, us, rfl, hc, hf, h⟩ := h
    simpa using AsRel.drop n h
theorem AsRel.append : ∀ {fl : Bool} {cs ds : List AVal} {vs us : List Value}, AsRel N w μ b fl cs vs → AsRel N w μ b fl ds us → AsRel N w μ b fl (cs ++ ds) (vs ++ us)
  | _, [], _, _, _, h, k => by rw [show _ = [] from h]; simpa using k
  | _, c :: r, _, _, _, h, k => by
    obtain ⟨u, us', rfl, hc, hf, h⟩ := h
    exact ⟨u, us' ++ _, by simp, hc, hf, AsRel.append h k⟩
theorem AsRel.splice {fl : Bool} {cs ds : List AVal} {vs us : List Value} (n : Nat) (h : AsRel N w μ b fl cs vs) (k : AsRel N w μ b fl ds us) :
    AsRel N w μ b fl (splice cs n ds) (vs.take n ++ us ++ vs.drop (n + us.length)) := by
  unfold Abs.splice
  rw [k.len]
  exact ((h.take n).append k).append (h.drop _)
theorem CsRel.splice {fl : Bool} {cs ds : List CVal} {vs us : List Value} (n : Nat) (h : CsRel N w fl cs vs) (k : CsRel N w fl ds us) :
    CsRel N w fl (splice cs n ds) (vs.take n ++ us ++ vs.drop (n + us.length)) := by
  unfold Abs.splice
  rw [k.len]
  exact ((h.take n).append k).append (h.drop _)

theorem AsRel.ofC : ∀ {fl : Bool} {cs : List CVal} {vs : List Value}, CsRel N w fl cs vs → AsRel N w μ b fl (cs.map .v) vs
  | _, [], _, h => h
  | _, c :: r, _, h => by
    obtain ⟨u, us, rfl, hc, hf, h⟩ := h
    exact ⟨u, us, rfl, hc, hf, AsRel.ofC h⟩

theorem allV_eq : ∀ {cs : List AVal} {xs : List CVal}, allV cs = some xs → cs = xs.map .v
  | [], xs, h => by simp [allV] at h; subst h; rfl
  | .v c :: r, xs, h => by
    simp only [allV] at h
    obtain ⟨l, hl, h⟩ := bind_some' h
    simp at h; subst h
    simp [allV_eq hl]
  | .nl :: _, _, h => by simp [allV] at h
  | .lptr _ _ :: _, _, h => by simp [allV] at h
  | .lel _ _ _ _ :: _, _, h => by simp [allV] at h
  | .lref _ _ :: _, _, h => by simp [allV] at h
  | .agg _ :: _, _, h => by simp [allV] at h
  | .func _ _ :: _, _, h => by simp [allV] at h
  | .tup _ :: _, _, h => by simp [allV] at h
  | .un :: _, _, h => by simp [allV] at h

theorem AsRel.toC : ∀ {fl : Bool} {cs : List CVal} {vs : List Value}, AsRel N w μ b fl (cs.map .v) vs → CsRel N w fl cs vs
  | _, [], _, h => h
  | _, c :: r, _, h => by
    obtain ⟨u, us, rfl, hc, hf, h⟩ := h
    exact ⟨u, us, rfl, hc, hf, AsRel.toC h⟩

theorem mkAgg_rel {cs : List AVal} {vs : List Value} (h : AsRel N w μ b true cs vs) : ARel N w μ b (mkAgg cs) (.agg vs.toArray) := by
  unfold mkAgg
  split
  · rename_i xs hx
    have e := allV_eq hx
    subst e
    exact ⟨vs, rfl, AsRel.toC h⟩
  · exact ⟨vs, rfl, h⟩

/-- The cells of a closed value. -/
theorem CRel.cells {c : CVal} {v : Value} (h : CRel N w c v) (hf : (∃ n, c.isAggN n = true) ∨ c.isFlat = true) : ∃ vs : List Value, v.cells = vs.toArray ∧ CsRel N w true c.cells vs := by
  cases c with
  | agg cs =>
    obtain ⟨vs, rfl, h⟩ := h
    exact ⟨vs, rfl, h⟩
  | tup cs => rcases hf with ⟨n, hf⟩ | hf <;> simp [CVal.isAggN, CVal.isFlat] at hf
  | _ =>
    have hv : flat v = true := by
      first
        | (rw [show v = _ from h]; rfl)
        | (obtain ⟨_, _, rfl, _⟩ := h; rfl)
        | (obtain ⟨_, rfl, _⟩ := h; rfl)
        | (obtain ⟨_, _, _, rfl, _⟩ := h; rfl)
    exact ⟨[v], by rw [cells_flat hv], v, [], rfl, h, fun _ => hv, rfl⟩

theorem CRel.flat {c : CVal} {v : Value} (h : CRel N w c v) (hf : c.isFlat = true) : flat v = true := by
  cases c with
  | agg cs => simp [CVal.isFlat] at hf
  | tup cs => simp [CVal.isFlat] at hf
  | _ =>
    first
      | (rw [show v = _ from h]; rfl)
      | (obtain ⟨_, _, rfl, _⟩ := h; rfl)
      | (obtain ⟨_, rfl, _⟩ := h; rfl)
      | (obtain ⟨_, _, _, rfl, _⟩ := h; rfl)

theorem isAggN_iff {n : Nat} {c : CVal} (h : c.isAggN n = true) : ∃ cs, c = .agg cs ∧ cs.length = n := by
  cases c <;> simp [CVal.isAggN] at h
  exact ⟨_, rfl, h⟩

/-- The size that a type's values have. -/
theorem CRel.fits {agg : Bool} {n : Nat} {c : CVal} {v : Value} (h : CRel N w c v) (hf : c.fits agg n = true) :
    ∃ vs : List Value, v.cells = vs.toArray ∧ CsRel N w true c.cells vs ∧ vs.length = n ∧ (agg = true → v = .agg vs.toArray) ∧ (agg = false → vs = [v] ∧ Abs.flat v = true) := by
  cases agg with
  | true =>
    obtain ⟨cs, rfl, hn⟩ := isAggN_iff (show c.isAggN n = true from hf)
    obtain ⟨vs, rfl, h⟩ := h
    exact ⟨vs, rfl, h, by rw [h.len]; exact hn, fun _ => rfl, (fun h => by cases h)⟩
  | false =>
    have hf' : c.isFlat = true ∧ n = 1 := by simpa [CVal.fits] using hf
    have hv := CRel.flat h hf'.1
    refine ⟨[v], by rw [cells_flat hv], ?_, by simp [hf'.2], (fun h => by cases h), fun _ => ⟨rfl, hv⟩⟩
    have : c.cells = [c] := by cases c <;> first | rfl | (simp [CVal.isFlat] at hf')
    rw [this]
    exact ⟨v, [], rfl, h, fun _ => hv, rfl⟩

/-! ### Elements -/
theorem ElRel.get : ∀ {sz x o : Nat} {cs : List CVal} {i : Nat} {c : CVal}, ElRel N w sz x o cs → cs[i]? = some c →
    ∃ u, noTup c = true ∧ CRel N w c u ∧ u.cells.size = sz ∧ ∀ j, j < sz → w.cell? (pl x (o + i * sz + j)) = u.cells[j]?
  | _, _, _, [], i, _, _, hi => by simp at hi
  | sz, x, o, c :: r, 0, _, h, hi => by
    obtain ⟨⟨u, ht, hc, hz, hj⟩, h⟩ := h
    simp at hi; subst hi
    exact ⟨u, ht, hc, hz, fun j h => by simpa using hj j h⟩
  | sz, x, o, c :: r, i + 1, _, h, hi => by
    obtain ⟨_, h⟩ := h
    obtain ⟨u, ht, hc, hz, hj⟩ := ElRel.get h (by simpa using hi)
    exact ⟨u, ht, hc, hz, fun j h => by rw [← hj j h]; congr 2; rw [Nat.add_mul]; omega⟩

theorem ElRel.take : ∀ {sz x o : Nat} {cs : List CVal} (n : Nat), ElRel N w sz x o cs → ElRel N w sz x o (cs.take n)
  | _, _, _, [], n, h => by simp [ElRel]
  | _, _, _, c :: r, 0, h => by simp [ElRel]
  | sz, x, o, c :: r, n + 1, h => by
    obtain ⟨h1, h⟩ := h
    exact ⟨h1, ElRel.take n h⟩
theorem ElRel.drop : ∀ {sz x o : Nat} {cs : List CVal} (n : Nat), ElRel N w sz x o cs → ElRel N w sz x (o + n * sz) (cs.drop n)
  | _, _, _, [], n, h => by simp [ElRel]
  | _, _, _, c :: r, 0, h => by simpa using h
  | sz, x, o, c :: r, n + 1, h => by
    obtain ⟨h1, h⟩ := h
    have := ElRel.drop n h
    simp only [List.drop_succ_cons]
    rw [show o + (n + 1) * sz = o + sz + n * sz by rw [Nat.add_mul]; omega]
    exact this
theorem ElRel.append : ∀ {sz x o : Nat} {cs ds : List CVal}, ElRel N w sz x o cs → ElRel N w sz x (o + cs.length * sz) ds → ElRel N w sz x o (cs ++ ds)
  | _, _, _, [], _, h, k => by simpa using k
  | sz, x, o, c :: r, _, h, k => by
    obtain ⟨h1, h⟩ := h
    refine ⟨h1, ElRel.append h ?_⟩
    rw [show o + sz + r.length * sz = o + (c :: r).length * sz by simp [Nat.add_mul]; omega]
    exact k

theorem pl_add (x o n : Nat) : (pl x o).add n = pl x (o + n) := by
  unfold Addr.add pl
  split
  · subst_vars; simp
  · simp
end

/-! ### The program's tables -/
section
variable {P : Program} {w : World}
theorem run_und {t : TypeId} {d : TypeDesc} (h : P.underlying t = some d) : (underlying t).run P w = .ok d w := by simp [underlying, h]

theorem info_of {t : TypeId} {d : TypeDesc} (h : P.underlying t = some d) : ∃ i, P.info? t = some i := by
  unfold Program.underlying at h
  cases hi : P.info? t with
  | none => simp [hi] at h
  | some i => exact ⟨i, rfl⟩

theorem run_size {t : TypeId} {d : TypeDesc} (h : P.underlying t = some d) : (sizeOf t).run P w = .ok (P.cellsOf t) w := by
  obtain ⟨i, hi⟩ := info_of h
  simp [sizeOf, typeInfo, hi, Program.cellsOf]

theorem run_agg {t : TypeId} {d : TypeDesc} (h : P.underlying t = some d) : (isAgg t).run P w = .ok (aggT P t) w := by
  simp only [isAgg, Sem.run_bind, run_und h, Result.andThen_ok, aggT, h]
  cases d <;> rfl

theorem run_zero {t : TypeId} {i : TypeInfo} {z : Value} (hi : P.info? t = some i) (hz : i.zero = some z) : (zeroValue t).run P w = .ok z w := by
  simp [zeroValue, typeInfo, hi, hz]
end

end Go.Proofs.Ytlgonbonnjkekaa.Abs

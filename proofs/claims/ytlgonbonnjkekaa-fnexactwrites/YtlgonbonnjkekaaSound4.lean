/- New blocks, stores, slices that grow. -/
import Derived.Test.YtlgonbonnjkekaaSound3
set_option linter.unusedVariables false
set_option linter.unusedSectionVars false
set_option linter.unusedSimpArgs false
namespace Go.Proofs.Ytlgonbonnjkekaa.Abs
open Go

section
variable {P : Program} {w : World} {F N : Nat → Prop} {μ : List Hd} {b : List Blk}

/-- A place for a new block. -/
def Free (μ : List Hd) (b : List Blk) (q : Nat) : Prop := q = b.length ∨ (b[q]? = some ⟨0, .dead⟩ ∧ μ[q]? = some .none)

def putH (μ : List Hd) (q : Nat) (h : Hd) : List Hd := cond (decide (q < μ.length)) (μ.set q h) (μ ++ [h])

theorem putNew_len {q : Nat} {x : Blk} : b.length ≤ (putNew b q x).length := by
  unfold putNew; by_cases h : q < b.length <;> simp [h]
theorem putNew_off {q i : Nat} {x : Blk} (hq : q ≤ b.length) (hi : i < (putNew b q x).length) (hne : i ≠ q) : (putNew b q x)[i]? = b[i]? := by
  unfold putNew at *
  by_cases h : q < b.length
  · simp only [h, decide_true, cond_true]; rw [List.getElem?_set_ne (Ne.symm hne)]
  · have : q = b.length := by omega
    simp only [h, decide_false, cond_false] at *
    simp at hi
    rw [List.getElem?_append_left (by omega)]
theorem putNew_at {q : Nat} {x : Blk} (hq : q ≤ b.length) : (putNew b q x)[q]? = some x := by
  unfold putNew
  by_cases h : q < b.length
  · simp only [h, decide_true, cond_true]; exact List.getElem?_set_self h
  · have : q = b.length := by omega
    simp only [h, decide_false, cond_false]; subst this; simp
theorem putH_off {q i : Nat} {x : Hd} (hq : q ≤ μ.length) (hi : i < (putH μ q x).length) (hne : i ≠ q) : (putH μ q x)[i]? = μ[i]? := by
  unfold putH at *
  by_cases h : q < μ.length
  · simp only [h, decide_true, cond_true]; rw [List.getElem?_set_ne (Ne.symm hne)]
  · have : q = μ.length := by omega
    simp only [h, decide_false, cond_false] at *
    simp at hi
    rw [List.getElem?_append_left (by omega)]
theorem putH_at {q : Nat} {x : Hd} (hq : q ≤ μ.length) : (putH μ q x)[q]? = some x := by
  unfold putH
  by_cases h : q < μ.length
  · simp only [h, decide_true, cond_true]; exact List.getElem?_set_self h
  · have : q = μ.length := by omega
    simp only [h, decide_false, cond_false]; subst this; simp
theorem put_len (h : μ.length = b.length) (q : Nat) (x : Blk) (y : Hd) : (putH μ q y).length = (putNew b q x).length := by
  unfold putH putNew; rw [h]; by_cases hq : q < b.length <;> simp [hq, h]
theorem Free.le {q : Nat} (h : Free μ b q) : q ≤ b.length := by
  rcases h with h | ⟨h, _⟩
  · omega
  · exact Nat.le_of_lt (List.getElem?_eq_some_iff.1 h).1

theorem new_one {w' : World} {q : Nat} {blk : Blk} {h : Hd} (R : Rel F w μ b) (hq : Free μ b q) (hs : w.heap.size ≤ w'.heap.size)
    (hm : ∀ x, x < w.heap.size → w'.heap[x]? = w.heap[x]?) (hn : ∀ x, h.own = some x → w.heap.size ≤ x ∧ x < w'.heap.size) :
    One F w μ b w' (putH μ q h) (putNew b q blk) q := by
  have hl := hq.le
  refine ⟨R, put_len R.len _ _ _, putNew_len, fun i hi hne => ⟨putNew_off hl hi hne, putH_off (by rw [R.len]; exact hl) (by rw [put_len R.len q blk h]; exact hi) hne⟩,
    (List.getElem?_eq_some_iff.1 (putNew_at hl)).1, ?_, hs, ?_, fun x hx _ => hm x hx⟩
  · intro blk0 h0 hb hm0
    rcases hq with hq | ⟨hq, hq'⟩
    · subst hq; simp at hb
    · rw [hq] at hb; cases hb
      rw [hq'] at hm0; cases hm0
      exact ⟨blk, h, putNew_at hl, putH_at (by rw [R.len]; exact hl), Nat.zero_le _, fun h => absurd rfl h, (fun _ h => by cases h), fun _ _ h => absurd rfl h⟩
  · intro blk' h' x hb hm' _ ho
    rw [putH_at (by rw [R.len]; exact hl)] at hm'; cases hm'
    exact ⟨(hn x ho).2, .inl (hn x ho).1⟩

theorem new_post {w' : World} {q : Nat} {blk : Blk} {h : Hd} {x : AVal} {v : Value} (R : Rel F w μ b) (hq : Free μ b q) (hs : w.heap.size ≤ w'.heap.size)
    (hm : ∀ x, x < w.heap.size → w'.heap[x]? = w.heap[x]?) (hn : ∀ x, h.own = some x → w.heap.size ≤ x ∧ x < w'.heap.size)
    (hos : w'.os = w.os) (ht : w'.tape = w.tape) (ho : w'.output = w.output)
    (hB : Upd F w μ b w' (putH μ q h) (putNew b q blk) → BRel (Or F (Own (putH μ q h) (putNew b q blk))) w' (putH μ q h) (putNew b q blk) h blk.body)
    (hv : ARel (Or F (Own (putH μ q h) (putNew b q blk))) w' (putH μ q h) (putNew b q blk) x v) :
    Post F w μ b w' (putH μ q h) (putNew b q blk) x v := by
  have O := new_one (blk := blk) R hq hs hm hn
  refine ⟨O.upd, O.done ?_, hv, O.fr hos ht ho⟩
  intro blk' h' hb hm'
  rw [putNew_at hq.le] at hb; cases hb
  rw [putH_at (by rw [R.len]; exact hq.le)] at hm'; cases hm'
  exact hB O.upd

theorem alloc_heap (w : World) (o : Obj) : (w.alloc o).heap[w.heap.size]? = some o := by
  show (w.heap.push o)[w.heap.size]? = _
  simp
theorem alloc_old (w : World) (o : Obj) (x : Nat) (h : x < w.heap.size) : (w.alloc o).heap[x]? = w.heap[x]? := by
  show (w.heap.push o)[x]? = _
  rw [Array.getElem?_push, if_neg (by omega)]
theorem alloc_size (w : World) (o : Obj) : (w.alloc o).heap.size = w.heap.size + 1 := by
  show (w.heap.push o).size = _
  simp

/-- A new variable. -/
theorem box_post {q : Nat} {cs : List AVal} {vs : List Value} {e : TypeId} (R : Rel F w μ b) (hq : Free μ b q) (ha : AsRel (Or F (Own μ b)) w μ b true cs vs) :
    ∃ μ', Post F w μ b (w.alloc (.cells vs.toArray e (0, 0))) μ' (putNew b q ⟨0, .box cs⟩) (.lptr q 0) (.pointer (some (pl w.heap.size 0))) := by
  refine ⟨putH μ q (.box w.heap.size), new_post R hq (by rw [alloc_size]; omega) (fun x hx => alloc_old w _ x hx) ?_ rfl rfl rfl ?_ ?_⟩
  · intro x hx; cases hx; rw [alloc_size]; omega
  · intro U
    exact ⟨w.heap.size, vs, e, rfl, alloc_heap w _, AsRel.upd U ha⟩
  · exact ⟨w.heap.size, putH_at (by rw [R.len]; exact hq.le), rfl⟩

/-! ### Elements and their values -/
def EsRel (N : Nat → Prop) (w : World) (sz : Nat) : List CVal → List Value → Prop
  | [], us => us = []
  | c :: r, us => ∃ u l, us = u :: l ∧ noTup c = true ∧ CRel N w c u ∧ u.cells.size = sz ∧ EsRel N w sz r l

def flatC (us : List Value) : List Value := us.flatMap fun u => u.cells.toList

theorem EsRel.len {sz : Nat} : ∀ {xs : List CVal} {us : List Value}, EsRel N w sz xs us → us.length = xs.length
  | [], _, h => by rw [show _ = [] from h]; rfl
  | c :: r, _, h => by
    obtain ⟨u, l, rfl, _, _, _, h⟩ := h
    simp [EsRel.len h]
theorem EsRel.flat_len {sz : Nat} : ∀ {xs : List CVal} {us : List Value}, EsRel N w sz xs us → (flatC us).length = xs.length * sz
  | [], _, h => by rw [show _ = [] from h]; simp [flatC]
  | c :: r, _, h => by
    obtain ⟨u, l, rfl, _, _, hz, h⟩ := h
    have := EsRel.flat_len h
    unfold flatC at *
    simp only [List.flatMap_cons, List.length_append, this, List.length_cons, Nat.add_mul, Array.length_toList, hz]
    omega
theorem EsRel.append {sz : Nat} : ∀ {xs ys : List CVal} {us vs : List Value}, EsRel N w sz xs us → EsRel N w sz ys vs → EsRel N w sz (xs ++ ys) (us ++ vs)
  | [], _, _, _, h, k => by rw [show _ = [] from h]; simpa using k
  | c :: r, _, _, _, h, k => by
    obtain ⟨u, l, rfl, h1, h2, h3, h⟩ := h
    exact ⟨u, l ++ _, rfl, h1, h2, h3, EsRel.append h k⟩
theorem EsRel.keep {N' : Nat → Prop} {w' : World} (K : Keep N N' w w') {sz : Nat} : ∀ {xs : List CVal} {us : List Value}, EsRel N w sz xs us → EsRel N' w' sz xs us
  | [], _, h => h
  | c :: r, _, h => by
    obtain ⟨u, l, rfl, h1, h2, h3, h⟩ := h
    exact ⟨u, l, rfl, h1, CRel.keep K h2, h3, EsRel.keep K h⟩

/-- Elements that lie in memory. -/
theorem EsRel.put {sz x : Nat} : ∀ {xs : List CVal} {us : List Value} {o : Nat}, EsRel N w sz xs us →
    (∀ j v, (flatC us)[j]? = some v → w.cell? (pl x (o + j)) = some v) → ElRel N w sz x o xs
  | [], _, _, _, _ => trivial
  | c :: r, _, o, h, hc => by
    obtain ⟨u, l, rfl, h1, h2, h3, h⟩ := h
    have hu : u.cells.toList.length = sz := by simpa using h3
    refine ⟨⟨u, h1, h2, h3, fun j hj => ?_⟩, EsRel.put h fun j v hv => ?_⟩
    · have e : u.cells[j]? = some (u.cells[j]'(by omega)) := Array.getElem?_eq_getElem (by omega)
      rw [e]
      refine hc j _ ?_
      unfold flatC
      rw [List.flatMap_cons, List.getElem?_append_left (by omega)]
      simp
    · rw [Nat.add_assoc]
      refine hc (sz + j) v ?_
      unfold flatC at *
      rw [List.flatMap_cons, List.getElem?_append_right (by omega), show sz + j - u.cells.toList.length = j by omega]
      exact hv

theorem ElRel.out {sz x : Nat} : ∀ {xs : List CVal} {o : Nat}, ElRel N w sz x o xs →
    ∃ us, EsRel N w sz xs us ∧ ∀ j v, (flatC us)[j]? = some v → w.cell? (pl x (o + j)) = some v
  | [], _, _ => ⟨[], rfl, fun j v h => by simp [flatC] at h⟩
  | c :: r, o, h => by
    obtain ⟨⟨u, h1, h2, h3, hj⟩, h⟩ := h
    obtain ⟨us, he, hc⟩ := ElRel.out h
    have hu : u.cells.toList.length = sz := by simpa using h3
    refine ⟨u :: us, ⟨u, us, rfl, h1, h2, h3, he⟩, fun j v hv => ?_⟩
    unfold flatC at *
    rw [List.flatMap_cons] at hv
    by_cases hlt : j < sz
    · rw [List.getElem?_append_left (by omega)] at hv
      rw [hj j hlt]
      simpa using hv
    · rw [List.getElem?_append_right (by omega)] at hv
      have := hc (j - sz) v (by rw [← hu]; exact hv)
      rw [← this]; congr 2; omega

theorem EsRel.flatAll {sz : Nat} : ∀ {xs : List CVal} {us : List Value}, EsRel N w sz xs us → ∀ v ∈ flatC us, flat v = true
  | [], _, h, v, hv => by rw [show _ = [] from h] at hv; simp [flatC] at hv
  | c :: r, _, h, v, hv => by
    obtain ⟨u, l, rfl, h1, h2, h3, h⟩ := h
    unfold flatC at hv
    rw [List.flatMap_cons, List.mem_append] at hv
    rcases hv with hv | hv
    · obtain ⟨vs, hvs, hcs⟩ := CRel.cells h2 (noTup_fl h1)
      rw [hvs] at hv
      obtain ⟨i, hi⟩ := List.mem_iff_getElem?.1 (by simpa using hv)
      have hlen := hcs.len
      have hi' : i < c.cells.length := by rw [← hlen]; exact (List.getElem?_eq_some_iff.1 hi).1
      obtain ⟨v', hv', _, hf⟩ := hcs.get (List.getElem?_eq_getElem hi')
      rw [hi] at hv'; cases hv'
      exact hf rfl
    · exact EsRel.flatAll h v hv

theorem EsRel.size {sz n : Nat} {agg : Bool} {xs : List CVal} {us : List Value} (h : EsRel N w sz xs us) (hf : xs.all (CVal.fits agg n) = true) (hne : xs ≠ []) : sz = n := by
  cases xs with
  | nil => exact absurd rfl hne
  | cons c r =>
    obtain ⟨u, l, rfl, h1, h2, h3, h⟩ := h
    simp at hf
    obtain ⟨vs, hvs, _, hn, _⟩ := CRel.fits h2 hf.1
    rw [hvs] at h3
    simp at h3; omega

theorem EsRel.any {sz n : Nat} {xs : List CVal} {us : List Value} (h : EsRel N w sz xs us) (hx : xs = []) : EsRel N w n xs us := by
  subst hx; exact h

/-- A slice's elements, whoever owns them. -/
theorem wSl_sound {R' : Type} {x : AVal} {v : Value} {K : List CVal → Option R'} {r : R'} (R : Rel F w μ b) (hx : ARel (Or F (Own μ b)) w μ b x v) (h : wSl b x K = some r) :
    ∃ ys base cap, K ys = some r ∧ v = .slice base ys.length cap ∧ ys.length ≤ cap ∧ (ys = [] ∨ ∃ z o sz, base = some (pl z o) ∧ z < w.heap.size ∧ ElRel (Or F (Own μ b)) w sz z o ys) := by
  unfold wSl at h
  cases x with
  | v c =>
    obtain ⟨ys, hy, h⟩ := bind_some' (x := c.asSl) h
    cases c <;> simp [CVal.asSl] at hy
    subst hy
    obtain ⟨base, cap, rfl, hl, hc⟩ := hx
    exact ⟨_, base, cap, h, rfl, hl, hc.imp id fun ⟨z, o, sz, h1, _, h2, h3⟩ => ⟨z, o, sz, h1, h2, h3⟩⟩
  | nl =>
    obtain ⟨base, rfl⟩ := hx
    exact ⟨[], base, 0, h, rfl, Nat.le_refl _, .inl rfl⟩
  | lref i ver =>
    obtain ⟨ys, hy, h⟩ := bind_some' (x := arrOf b i ver) h
    obtain ⟨sz, base, cap, hb, hm, hl, hc⟩ := R.arr hy
    obtain ⟨_, blk, hh, hb', hm', _, _, hcur⟩ := hx
    rw [hb] at hb'; cases hb'
    rw [hm] at hm'; cases hm'
    have hv := hcur rfl rfl
    subst hv
    refine ⟨ys, base, cap, h, rfl, hl, ?_⟩
    rcases hc with hc | ⟨z, cells, e, rfl, hw, _, he⟩
    · left; exact List.length_eq_zero_iff.1 (by omega)
    · exact .inr ⟨z, 0, sz, rfl, (Array.getElem?_eq_some_iff.1 hw).1, he⟩
  | _ => cases h

theorem cell_heap {w1 : World} (h : w1.heap = w.heap) (a : Addr) : w1.cell? a = w.cell? a := by simp only [World.cell?, h]

theorem run_firstCells {ys : List CVal} {base : Option Addr} {n : Nat} {agg : Bool} (hc : ys = [] ∨ ∃ z o sz, base = some (pl z o) ∧ z < w.heap.size ∧ ElRel N w sz z o ys)
    (hf : ys.all (CVal.fits agg n) = true) :
    ∃ us, EsRel N w n ys us ∧ ∀ (cap : Nat) (w1 : World), w1.heap = w.heap → (Builtin.firstCells n ys.length (.slice base ys.length cap)).run P w1 = .ok (flatC us).toArray w1 := by
  by_cases hy : ys = []
  · subst hy
    refine ⟨[], rfl, fun cap w1 _ => ?_⟩
    cases base with
    | none => rfl
    | some a => simp [Builtin.firstCells, loadCells, loadCellsFrom, flatC]
  · obtain ⟨z, o, sz, rfl, hz, he⟩ := hc.resolve_left hy
    obtain ⟨us, hu, hcell⟩ := he.out
    have e := hu.size hf hy
    subst e
    refine ⟨us, hu, fun cap w1 hw => ?_⟩
    have hl := hu.flat_len
    have := run_loadCells_list (P := P) w1 (pl z o) (flatC us) fun j v hj => by rw [pl_add, cell_heap hw]; exact hcell j v hj
    simp only [Builtin.firstCells]
    rw [← hl]; exact this
end

end Go.Proofs.Ytlgonbonnjkekaa.Abs

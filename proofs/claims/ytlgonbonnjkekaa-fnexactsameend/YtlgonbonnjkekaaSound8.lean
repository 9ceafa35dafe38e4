/- Literals. -/
import Derived.Test.YtlgonbonnjkekaaSound7
set_option linter.unusedVariables false
set_option linter.unusedSectionVars false
set_option linter.unusedSimpArgs false
namespace Go.Proofs.Ytlgonbonnjkekaa.Abs
open Go

section
variable {P : Program} {w : World} {F N : Nat → Prop} {μ : List Hd} {b : List Blk} {R' : Type} {r : R'}

theorem take_set {l : List Value} {p : Nat} {v : Value} (h : p < l.length) : (l.set p v).take (p + 1) = l.take p ++ [v] := by
  rw [List.take_add_one, List.take_set_of_le (Nat.le_refl _), List.getElem?_set_self h]
  rfl

theorem zip_set : ∀ (vs : List Value) (k off : Nat) (cs : Array Value), off + k + vs.length ≤ cs.size →
    ((vs.zipIdx k).foldl (fun (cs : Array Value) (p : Value × Nat) => cs.setIfInBounds (off + p.2) p.1) cs).toList = cs.toList.take (off + k) ++ vs ++ cs.toList.drop (off + k + vs.length)
  | [], k, off, cs, h => by simp
  | v :: r, k, off, cs, h => by
    simp only [List.zipIdx_cons, List.foldl_cons]
    have hk : off + k < cs.toList.length := by simp at h ⊢; omega
    rw [zip_set r (k + 1) off _ (by simp at h ⊢; omega)]
    simp only [Array.toList_setIfInBounds]
    rw [show off + (k + 1) = off + k + 1 by omega, take_set hk, List.drop_set_of_lt (by omega)]
    simp only [List.append_assoc, List.singleton_append, List.cons_append, List.nil_append, List.length_cons]
    rw [show off + k + 1 + r.length = off + k + (r.length + 1) by omega]

theorem fill_step {vs : List Value} {off : Nat} {cs : List Value} (h : off + vs.length ≤ cs.length) :
    (vs.toArray.zipIdx.foldl (fun (cs : Array Value) (p : Value × Nat) => cs.setIfInBounds (off + p.2) p.1) cs.toArray) = (cs.take off ++ vs ++ cs.drop (off + vs.length)).toArray := by
  apply Array.ext'
  rw [← Array.foldl_toList, Array.toList_zipIdx]
  have := zip_set vs 0 off cs.toArray (by simpa using h)
  simpa using this

theorem fill_one {place : Nat → Option (Nat × Nat)} {i off sz : Nat} {u : Value} {us cs : List Value} {rest : List (Nat × Value)} (hp : place i = some (off, sz)) (hu : u.cells = us.toArray) (hs : us.length = sz)
    (h : off + us.length ≤ cs.length) : Instr.fill place cs.toArray ((i, u) :: rest) = Instr.fill place (cs.take off ++ us ++ cs.drop (off + us.length)).toArray rest := by
  have h1 : ¬ (off + us.length > cs.length) := by omega
  simp only [Instr.fill, hp, hu, List.size_toArray, hs, ne_eq, not_true_eq_false, decide_false, Bool.false_or]
  rw [if_neg (by simp; omega)]
  have := fill_step h
  rw [← hs]
  congr 1

/-- Parts and their values. -/
def Parts (N : Nat → Prop) (w : World) (μ : List Hd) (b : List Blk) : List (Nat × AVal) → List (Nat × Value) → Prop
  | [], pv => pv = []
  | p :: r, pv => ∃ u l, pv = (p.1, u) :: l ∧ ARel N w μ b p.2 u ∧ Parts N w μ b r l

theorem fillK_sound {fs : Array Field} : ∀ {parts : List (Nat × AVal)} {pv : List (Nat × Value)} {cs : List AVal} {vs : List Value} {K : List AVal → Option R'},
    Parts N w μ b parts pv → AsRel N w μ b true cs vs → fillK P fs parts cs K = some r →
    ∃ cs' vs', K cs' = some r ∧ AsRel N w μ b true cs' vs' ∧ Instr.fill ((fs.map fun f => (f.offset, P.cellsOf f.type))[·]?) vs.toArray pv = some vs'.toArray
  | [], _, cs, vs, K, hp, hc, h => by
    rw [show _ = [] from hp]
    exact ⟨cs, vs, h, hc, rfl⟩
  | (i, x) :: rest, _, cs, vs, K, hp, hc, h => by
    obtain ⟨u, l, rfl, hx, hp⟩ := hp
    simp only [fillK] at h
    split at h
    · rename_i f hf
      obtain ⟨l', us, h, hl, hus, hn, _, _⟩ := wCells_sound hx h
      obtain ⟨h0, h⟩ := br_none h
      simp only [decide_eq_true_eq] at h0
      have hsp := hc.splice f.offset hl
      obtain ⟨cs', vs', h1, h2, h3⟩ := fillK_sound hp hsp h
      refine ⟨cs', vs', h1, h2, ?_⟩
      rw [fill_one (off := f.offset) (sz := P.cellsOf f.type) (by simp [hf]) hus hn (by rw [hl.len, hc.len]; exact h0)]
      exact h3
    · cases h

theorem fillArrK_sound {agg : Bool} {sz : Nat} : ∀ {parts : List (Nat × AVal)} {pv : List (Nat × Value)} {cs : List AVal} {vs : List Value} {K : List AVal → Option R'},
    Parts N w μ b parts pv → AsRel N w μ b true cs vs → fillArrK agg sz parts cs K = some r →
    ∃ cs' vs', K cs' = some r ∧ AsRel N w μ b true cs' vs' ∧ Instr.fill (fun i => some (i * sz, sz)) vs.toArray pv = some vs'.toArray
  | [], _, cs, vs, K, hp, hc, h => by
    rw [show _ = [] from hp]
    exact ⟨cs, vs, h, hc, rfl⟩
  | (i, x) :: rest, _, cs, vs, K, hp, hc, h => by
    obtain ⟨u, l, rfl, hx, hp⟩ := hp
    simp only [fillArrK] at h
    obtain ⟨l', us, h, hl, hus, hn, _, _⟩ := wCells_sound hx h
    obtain ⟨h0, h⟩ := br_none h
    simp only [decide_eq_true_eq] at h0
    have hsp := hc.splice (i * sz) hl
    obtain ⟨cs', vs', h1, h2, h3⟩ := fillArrK_sound hp hsp h
    refine ⟨cs', vs', h1, h2, ?_⟩
    rw [fill_one (off := i * sz) (sz := sz) rfl hus hn (by rw [hl.len, hc.len]; exact h0)]
    exact h3

theorem run_mapM {α β : Type} (f : α → Sem β) (g : α → β) : ∀ (l : List α), (∀ x ∈ l, (f x).run P w = .ok (g x) w) → (l.mapM f).run P w = .ok (l.map g) w
  | [], _ => by simp
  | x :: r, h => by
    have ih := run_mapM f g r fun y hy => h y (by simp [hy])
    simp [List.mapM_cons, h x (by simp), ih]

theorem buildK_sound {t : TypeId} {parts : List (Nat × AVal)} {pv : List (Nat × Value)} {K : AVal → Option R'} (hp : Parts N w μ b parts pv) (h : buildK P t parts K = some r) :
    Yld P N w μ b K r (Instr.build t pv.toArray) := by
  unfold buildK at h
  obtain ⟨z, hz, h⟩ := bind_some' h
  obtain ⟨zv, hzr, hzrel⟩ := zeroT_spec (P := P) (N := N) (w := w) (μ := μ) (b := b) hz
  obtain ⟨cs, vs, h, hcs, hvs, _, _, _⟩ := wCells_sound hzrel h
  split at h
  · rename_i fs hfs
    obtain ⟨hall, h⟩ := br_none h
    obtain ⟨cs', vs', h1, h2, h3⟩ := fillK_sound hp hcs h
    refine ⟨_, h1, _, ?_, mkAgg_rel h2⟩
    have hm : (fs.mapM (m := Sem) fun f => do pure (f.offset, ← sizeOf f.type)).run P w = .ok (fs.map fun f => (f.offset, P.cellsOf f.type)) w := by
      rw [Array.mapM_eq_mapM_toList]
      have := run_mapM (P := P) (w := w) (fun f : Field => (do pure (f.offset, ← sizeOf f.type) : Sem (Nat × Nat))) (fun f => (f.offset, P.cellsOf f.type)) fs.toList fun f hf => by
        have := List.all_eq_true.1 hall f hf
        obtain ⟨d, hd⟩ := Option.isSome_iff_exists.1 this
        simp [run_size hd]
      simp only [Sem.run_map, this, Result.andThen_ok]
      congr 1
      apply Array.ext'
      simp
    simp only [Instr.build, Sem.run_bind, hzr, Result.andThen_ok, run_und hfs, hm, hvs]
    rw [h3]
    rfl
  · rename_i n e he
    obtain ⟨hd0, h⟩ := br_none h
    obtain ⟨d, hd⟩ := Option.isSome_iff_exists.1 hd0
    obtain ⟨cs', vs', h1, h2, h3⟩ := fillArrK_sound hp hcs h
    refine ⟨_, h1, _, ?_, mkAgg_rel h2⟩
    simp only [Instr.build, Sem.run_bind, hzr, Result.andThen_ok, run_und he, run_size hd, hvs]
    rw [h3]
    rfl
  · cases h

theorem kill_free {q i : Nat} (hq : Free μ b q) (hi : i ≠ q) : Free μ (kill b i) q := by
  rcases hq with hq | ⟨hq, hq'⟩
  · exact .inl (by rw [(kill_sub b i).len]; exact hq)
  · refine .inr ⟨?_, hq'⟩
    unfold kill
    split
    · rw [List.getElem?_set_ne hi]; exact hq
    · exact hq
mutual
theorem killA_free {N : Nat → Prop} {b0 : List Blk} {q : Nat} (hμ : q = b0.length ∨ μ[q]? = some .none) : ∀ {x : AVal} {v : Value} {b : List Blk}, ARel N w μ b0 x v → b0.length = b.length → Free μ b q → Free μ (killA x b) q
  | .v _, _, _, _, _, h => h
  | .nl, _, _, _, _, h => h
  | .lptr _ _, _, _, _, _, h => h
  | .lel _ _ _ _, _, _, _, _, h => h
  | .lref i ver, _, b, hx, _, h => by
    obtain ⟨_, blk, hh, hb, hm, hn, _⟩ := hx
    refine kill_free h fun e => ?_
    subst e
    rcases hμ with hμ | hμ
    · subst hμ; simp at hb
    · rw [hm] at hμ; cases hμ; exact hn rfl
  | .agg cs, _, _, hx, hl, h => by
    obtain ⟨vs, rfl, hc⟩ := hx
    exact killL_free hμ hc hl h
  | .func _ cs, _, _, hx, hl, h => by
    obtain ⟨vs, rfl, hc⟩ := hx
    exact killL_free hμ hc hl h
  | .tup cs, _, _, hx, hl, h => by
    obtain ⟨vs, rfl, hc⟩ := hx
    exact killL_free hμ hc hl h
  | .un, _, _, _, _, h => h
theorem killL_free {N : Nat → Prop} {b0 : List Blk} {q : Nat} (hμ : q = b0.length ∨ μ[q]? = some .none) : ∀ {fl : Bool} {cs : List AVal} {vs : List Value} {b : List Blk}, AsRel N w μ b0 fl cs vs → b0.length = b.length → Free μ b q → Free μ (killL cs b) q
  | _, [], _, _, _, _, h => h
  | _, x :: r, _, b, hx, hl, h => by
    obtain ⟨u, us, rfl, h1, _, h2⟩ := hx
    exact killL_free (b := killA x b) (cs := r) hμ h2 (by rw [(killA_sub x b).len]; exact hl) (killA_free hμ h1 hl h)
end
theorem Free.mu {q : Nat} (h : Free μ b q) : q = b.length ∨ μ[q]? = some .none := h.imp id (·.2)

/-- New memory that nobody owns. -/
theorem Post.grow {w' : World} {x : AVal} {v : Value} (R : Rel F w μ b) (hs : w.heap.size ≤ w'.heap.size) (hm : ∀ x, x < w.heap.size → w'.heap[x]? = w.heap[x]?)
    (hos : w'.os = w.os) (ht : w'.tape = w.tape) (ho : w'.output = w.output) (hv : ARel (Or F (Own μ b)) w' μ b x v) : Post F w μ b w' μ b x v := by
  have U : Upd F w μ b w' μ b := ⟨R.len, R.len, fun i blk h hb hm => ⟨blk, h, hb, hm, .refl _ _⟩, hs, fun x hx => ⟨Nat.lt_of_lt_of_le (R.fres x hx).2 hs, .inr hx⟩, fun x hx _ => hm x hx⟩
  refine ⟨U, ⟨R.len, ?_, R.inj, fun x hx => ⟨(R.fres x hx).1, Nat.lt_of_lt_of_le (R.fres x hx).2 hs⟩, fun x hx => Nat.lt_of_lt_of_le (R.fb x hx) hs⟩, hv, ⟨hos, ht, ho, hs, fun x hx _ => hm x hx⟩⟩
  intro i blk h hb hm'
  exact BRel.upd U (fun x hx ha => hm x (R.fres x ⟨i, blk, h, hb, ha, hm', hx⟩).2) (R.blk i blk h hb hm')

/-- A new array out of values. -/
theorem arr_post {q n cap : Nat} {e : TypeId} {xs : List CVal} {us : List Value} {cells : List Value} (R : Rel F w μ b) (hq : Free μ b q) (hes : EsRel (Or F (Own μ b)) w n xs us)
    (hcap : xs.length ≤ cap) (hroom : cap * n ≤ cells.length) (hp : ∀ (j : Nat) (v : Value), (flatC us)[j]? = some v → cells[j]? = some v) :
    ∃ μ', Post F w μ b (w.alloc (.cells cells.toArray e (0, 0))) μ' (putNew b q ⟨0, .arr n xs⟩) (.lref q 0) (.slice (some (pl w.heap.size 0)) xs.length cap) := by
  refine ⟨putH μ q (.arr (some (pl w.heap.size 0)) xs.length cap n), new_post R hq (by rw [alloc_size]; omega) (fun x hx => alloc_old w _ x hx) ?_ rfl rfl rfl ?_ ?_⟩
  · intro x hx
    simp only [Hd.own] at hx
    split at hx
    · cases hx
    · cases hx; simp only [pl]; rw [alloc_size]; omega
  · intro U
    refine ⟨_, cap, rfl, hcap, .inr ⟨w.heap.size, _, e, rfl, alloc_heap w _, by simpa using hroom, ?_⟩⟩
    exact ElRel.inBlock (hes.keep U.keep) (alloc_heap w _) hp
  · exact ⟨rfl, _, _, putNew_at hq.le, putH_at (by rw [R.len]; exact hq.le), by simp, Nat.le_refl _, fun _ _ => rfl⟩

theorem EsRel.ofCs {fl : Bool} {agg : Bool} {n : Nat} : ∀ {cs : List CVal} {us : List Value}, CsRel N w fl cs us → cs.all (CVal.fits agg n) = true → EsRel N w n cs us
  | [], _, h, _ => h
  | c :: r, _, h, hf => by
    obtain ⟨u, l, rfl, h1, _, h2⟩ := h
    simp at hf
    obtain ⟨vs, hvs, _, hn, _⟩ := CRel.fits h1 hf.1
    exact ⟨u, l, rfl, fits_noTup hf.1, h1, by rw [hvs]; simpa using hn, EsRel.ofCs h2 (by simpa using hf.2)⟩

theorem parts_vals : ∀ {parts : List (Nat × AVal)} {pv : List (Nat × Value)} {i : Nat} {l : List AVal}, Parts N w μ b parts pv → partsInOrder i parts = some l → AsRel N w μ b false l (pv.map (·.2))
  | [], _, _, l, hp, h => by
    rw [show _ = [] from hp]
    simp [partsInOrder] at h; subst h; rfl
  | (j, x) :: r, _, i, l, hp, h => by
    obtain ⟨u, pv, rfl, hx, hp⟩ := hp
    simp only [partsInOrder] at h
    obtain ⟨_, h⟩ := br_none h
    obtain ⟨l', hl, h⟩ := bind_some' h
    simp at h; subst h
    exact ⟨u, _, rfl, hx, (fun h => by cases h), parts_vals hp hl⟩

theorem fill_all {sz : Nat} : ∀ {parts : List (Nat × AVal)} {pv : List (Nat × Value)} {i : Nat} {l : List AVal} {vs : List Value}, Parts N w μ b parts pv → partsInOrder i parts = some l →
    (∀ p ∈ pv, ∃ us : List Value, p.2.cells = us.toArray ∧ us.length = sz) → (i + pv.length) * sz ≤ vs.length →
    Instr.fill (fun i => some (i * sz, sz)) vs.toArray pv = some (vs.take (i * sz) ++ flatC (pv.map (·.2)) ++ vs.drop ((i + pv.length) * sz)).toArray
  | [], _, i, l, vs, hp, h, hs, hl => by
    rw [show _ = [] from hp]
    simp [Instr.fill, flatC]
  | (j, x) :: r, _, i, l, vs, hp, h, hs, hl => by
    obtain ⟨u, pv, rfl, hx, hp⟩ := hp
    simp only [partsInOrder] at h
    obtain ⟨hij, h⟩ := br_none h
    obtain ⟨l', hl', h⟩ := bind_some' h
    have hij : i = j := by simpa using hij
    subst hij
    obtain ⟨us, hus, hun⟩ := hs (i, u) (by simp)
    simp only at hus
    have e1 : (i + (pv.length + 1)) * sz = i * sz + sz + pv.length * sz := by rw [Nat.add_mul, Nat.add_mul]; omega
    have e2 : (i + 1) * sz = i * sz + sz := by rw [Nat.add_mul]; omega
    have e3 : (i + 1 + pv.length) * sz = i * sz + sz + pv.length * sz := by rw [Nat.add_mul, Nat.add_mul]; omega
    simp only [List.length_cons, e1] at hl
    rw [fill_one (off := i * sz) (sz := sz) rfl hus hun (by omega)]
    rw [fill_all (i := i + 1) hp hl' (fun p hp => hs p (by simp [hp])) (by simp; rw [e3]; omega)]
    congr 2
    rw [e2, e3]
    have h1 : (List.take (i * sz) vs ++ us ++ List.drop (i * sz + us.length) vs).take (i * sz + sz) = vs.take (i * sz) ++ us := by
      rw [List.take_append_of_le_length (by simp; omega), List.take_of_length_le (by simp; omega)]
    have h2 : (List.take (i * sz) vs ++ us ++ List.drop (i * sz + us.length) vs).drop (i * sz + sz + pv.length * sz) = vs.drop (i * sz + sz + pv.length * sz) := by
      rw [List.drop_append, List.drop_of_length_le (by simp; omega), List.drop_drop]
      simp only [List.nil_append, List.length_append, List.length_take, hun]
      congr 1; omega
    rw [h1, h2]
    simp only [List.map_cons, flatC, List.flatMap_cons, hus, List.append_assoc, List.length_cons, e1]

theorem buildSliceK_sound {q : Nat} {t : TypeId} {len : Nat} {parts : List (Nat × AVal)} {pv : List (Nat × Value)} {K : AVal → List Blk → Option R'} (R : Rel F w μ b) (hq : Free μ b q)
    (hp : Parts (Or F (Own μ b)) w μ b parts pv) (h : buildSliceK P q t len parts b K = some r) : Acts P F w μ b K r (Instr.buildSlice t len pv.toArray) false := by
  unfold buildSliceK at h
  split at h
  · rename_i e he
    obtain ⟨l, hl, h⟩ := bind_some' h
    obtain ⟨h0, h⟩ := br_none h
    simp only [Bool.and_eq_true, decide_eq_true_eq, beq_iff_eq] at h0
    obtain ⟨⟨⟨h0, h1⟩, h2⟩, h3⟩ := h0
    obtain ⟨d, i, z, hd, hi, hz, hzs, _⟩ := elemOk_spec h2
    have hvals := parts_vals hp hl
    have hlen := hvals.len
    simp only [List.length_map] at hlen
    have hbig : ¬ (len * P.cellsOf e > 2 ^ 24) := by omega
    split at h
    · -- nothing in it
      have hpv : pv = [] := List.length_eq_zero_iff.1 (by omega)
      subst hpv
      refine ⟨_, _, h, by simp, .slice (some (pl w.heap.size 0)) 0 0, w.alloc (.cells #[] e (0, 0)), μ, ?_, Post.grow R (by rw [alloc_size]; omega) (fun x hx => alloc_old w _ x hx) rfl rfl rfl ⟨_, rfl⟩⟩
      simp [Instr.buildSlice, run_und he, run_size hd, Instr.fill, newRow]
      exact ⟨rfl, by first | rfl | (congr 2; apply Array.ext'; simp)⟩
    · rename_i hne
      obtain ⟨cs, hcs, h⟩ := bind_some' h
      obtain ⟨hf, h⟩ := br_none h
      obtain ⟨U0, R0⟩ := killL_upd l R
      have hcl := closeL_sound R (killL_sub l b) hcs hvals (killL_dead l b)
      have hes := EsRel.ofCs hcl hf
      have hq0 := killL_free hq.mu hvals rfl hq
      have hlc : cs.length = len := by have := hes.len; simp at this; omega
      have hpl : pv.length = len := by omega
      have hsz : ∀ p ∈ pv, ∃ us : List Value, p.2.cells = us.toArray ∧ us.length = P.cellsOf e := by
        intro p hp'
        have := hes.sizes p.2 (List.mem_map.2 ⟨p, hp', rfl⟩)
        exact ⟨p.2.cells.toList, by simp, by simpa using this⟩
      have hfill := fill_all (i := 0) (vs := ((Array.range (len * P.cellsOf e)).map (z.cells[· % z.cells.size]!)).toList) hp hl hsz (by simp [hpl])
      simp only [Nat.zero_mul, List.take_zero, List.nil_append, Nat.zero_add, hpl] at hfill
      rw [List.drop_of_length_le (by simp)] at hfill
      simp only [List.append_nil, Array.toArray_toList] at hfill
      obtain ⟨μ', hpost⟩ := arr_post (e := e) (cap := cs.length) (cells := flatC (pv.map (·.2))) R0 hq0 hes (Nat.le_refl _) (by rw [hes.flat_len]; exact Nat.le_refl _) (fun _ _ h => h)
      refine ⟨_, _, h, by simp, _, _, μ', ?_, Post.pre U0 (.refl _ _) hpost⟩
      have hn0 : ¬ (len * P.cellsOf e = 0) := by
        rw [Nat.mul_eq_zero]
        rintro (h | h)
        · exact hne h
        · exact h3 h
      simp only [Instr.buildSlice, Sem.run_bind, run_und he, Result.andThen_ok, run_size hd, if_neg hbig, if_neg hn0, run_zero hi hz, Sem.run_pure, Sem.run_ite, hfill, newRow, run_newObj]
      rw [hlc]
      rfl
  · cases h
end

end Go.Proofs.Ytlgonbonnjkekaa.Abs

/- The abstract machine and its soundness: parts Sound8, Sound9, Sound10, Sound11, Sound12, Sound13, Sound14, Sound15, Sound16. -/
import Derived.Test.YtomkegeojknihaaDoorMachA
import Derived.Tactics
set_option linter.unusedVariables false
set_option linter.unusedSectionVars false
set_option linter.unusedSimpArgs false
/-! Literals. -/
namespace Go.Proofs.YtomkegeojknihaaDoor.Abs
open Go
variable [Glob]

section
variable {P : Program} {w : World} {F N : Nat → Prop} {μ : List Hd} {b : List Blk} {R' : Type} {r : R'}

theorem take_set {l : List Value} {p : Nat} {v : Value} (h : p < l.length) : (l.set p v).take (p + 1) = l.take p ++ [v] := by
  rw [List.take_add_one, List.take_set_of_le (Nat.le_refl _), List.getElem?_set_self h]
  rfl

theorem zip_set : ∀ (vs : List Value) (k off : Nat) (cs : Array Value), off + k + vs.length ≤ cs.size →
    ((vs.zipIdx k).foldl (fun (cs : Array Value) (p : Value × Nat) => cs.setIfInBounds (off + p.2) p.1) cs).toList = cs.toList.take (off + k) ++ vs ++ cs.toList.drop (off + k + vs.length)
  | [], k, off, cs, h => by simp
  | v :: r, k, off, cs, h => by
    simp only [List.zipIdx_cons, List.foldl_cons]
    have hk : off + k < cs.toList.length := by simp at h ⊢; omega
    rw [zip_set r (k + 1) off _ (by simp at h ⊢; omega)]
    simp only [Array.toList_setIfInBounds]
    rw [show off + (k + 1) = off + k + 1 by omega, take_set hk, List.drop_set_of_lt (by omega)]
    simp only [List.append_assoc, List.singleton_append, List.cons_append, List.nil_append, List.length_cons]
    rw [show off + k + 1 + r.length = off + k + (r.length + 1) by omega]

theorem fill_step {vs : List Value} {off : Nat} {cs : List Value} (h : off + vs.length ≤ cs.length) :
    (vs.toArray.zipIdx.foldl (fun (cs : Array Value) (p : Value × Nat) => cs.setIfInBounds (off + p.2) p.1) cs.toArray) = (cs.take off ++ vs ++ cs.drop (off + vs.length)).toArray := by
  apply Array.ext'
  rw [← Array.foldl_toList, Array.toList_zipIdx]
  have := zip_set vs 0 off cs.toArray (by simpa using h)
  simpa using this

theorem fill_one {place : Nat → Option (Nat × Nat)} {i off sz : Nat} {u : Value} {us cs : List Value} {rest : List (Nat × Value)} (hp : place i = some (off, sz)) (hu : u.cells = us.toArray) (hs : us.length = sz)
    (h : off + us.length ≤ cs.length) : Instr.fill place cs.toArray ((i, u) :: rest) = Instr.fill place (cs.take off ++ us ++ cs.drop (off + us.length)).toArray rest := by
  have h1 : ¬ (off + us.length > cs.length) := by omega
  simp only [Instr.fill, hp, hu, List.size_toArray, hs, ne_eq, not_true_eq_false, decide_false, Bool.false_or]
  rw [if_neg (by simp; omega)]
  have := fill_step h
  rw [← hs]
  congr 1

/-- Parts and their values. -/
def Parts (N : Nat → Prop) (w : World) (μ : List Hd) (b : List Blk) : List (Nat × AVal) → List (Nat × Value) → Prop
  | [], pv => pv = []
  | p :: r, pv => ∃ u l, pv = (p.1, u) :: l ∧ ARel N w μ b p.2 u ∧ Parts N w μ b r l

theorem fillK_sound {fs : Array Field} : ∀ {parts : List (Nat × AVal)} {pv : List (Nat × Value)} {cs : List AVal} {vs : List Value} {K : List AVal → Option R'},
    Parts N w μ b parts pv → AsRel N w μ b true cs vs → fillK P fs parts cs K = some r →
    ∃ cs' vs', K cs' = some r ∧ AsRel N w μ b true cs' vs' ∧ Instr.fill ((fs.map fun f => (f.offset, P.cellsOf f.type))[·]?) vs.toArray pv = some vs'.toArray
  | [], _, cs, vs, K, hp, hc, h => by
    rw [show _ = [] from hp]
    exact ⟨cs, vs, h, hc, rfl⟩
  | (i, x) :: rest, _, cs, vs, K, hp, hc, h => by
    obtain ⟨u, l, rfl, hx, hp⟩ := hp
    simp only [fillK] at h
    split at h
    · rename_i f hf
      obtain ⟨l', us, h, hl, hus, hn, _, _⟩ := wCells_sound hx h
      obtain ⟨h0, h⟩ := br_none h
      simp only [decide_eq_true_eq] at h0
      have hsp := hc.splice f.offset hl
      obtain ⟨cs', vs', h1, h2, h3⟩ := fillK_sound hp hsp h
      refine ⟨cs', vs', h1, h2, ?_⟩
      rw [fill_one (off := f.offset) (sz := P.cellsOf f.type) (by simp [hf]) hus hn (by rw [hl.len, hc.len]; exact h0)]
      exact h3
    · cases h

theorem fillArrK_sound {agg : Bool} {sz : Nat} : ∀ {parts : List (Nat × AVal)} {pv : List (Nat × Value)} {cs : List AVal} {vs : List Value} {K : List AVal → Option R'},
    Parts N w μ b parts pv → AsRel N w μ b true cs vs → fillArrK agg sz parts cs K = some r →
    ∃ cs' vs', K cs' = some r ∧ AsRel N w μ b true cs' vs' ∧ Instr.fill (fun i => some (i * sz, sz)) vs.toArray pv = some vs'.toArray
  | [], _, cs, vs, K, hp, hc, h => by
    rw [show _ = [] from hp]
    exact ⟨cs, vs, h, hc, rfl⟩
  | (i, x) :: rest, _, cs, vs, K, hp, hc, h => by
    obtain ⟨u, l, rfl, hx, hp⟩ := hp
    simp only [fillArrK] at h
    obtain ⟨l', us, h, hl, hus, hn, _, _⟩ := wCells_sound hx h
    obtain ⟨h0, h⟩ := br_none h
    simp only [decide_eq_true_eq] at h0
    have hsp := hc.splice (i * sz) hl
    obtain ⟨cs', vs', h1, h2, h3⟩ := fillArrK_sound hp hsp h
    refine ⟨cs', vs', h1, h2, ?_⟩
    rw [fill_one (off := i * sz) (sz := sz) rfl hus hn (by rw [hl.len, hc.len]; exact h0)]
    exact h3

theorem run_mapM {α β : Type} (f : α → Sem β) (g : α → β) : ∀ (l : List α), (∀ x ∈ l, (f x).run P w = .ok (g x) w) → (l.mapM f).run P w = .ok (l.map g) w
  | [], _ => by simp
  | x :: r, h => by
    have ih := run_mapM f g r fun y hy => h y (by simp [hy])
    simp [List.mapM_cons, h x (by simp), ih]

theorem buildK_sound {t : TypeId} {parts : List (Nat × AVal)} {pv : List (Nat × Value)} {K : AVal → Option R'} (hp : Parts N w μ b parts pv) (h : buildK P t parts K = some r) :
    Yld P N w μ b K r (Instr.build t pv.toArray) := by
  unfold buildK at h
  obtain ⟨z, hz, h⟩ := bind_some' h
  obtain ⟨zv, hzr, hzrel⟩ := zeroT_spec (P := P) (N := N) (w := w) (μ := μ) (b := b) hz
  obtain ⟨cs, vs, h, hcs, hvs, _, _, _⟩ := wCells_sound hzrel h
  split at h
  · rename_i fs hfs
    obtain ⟨hall, h⟩ := br_none h
    obtain ⟨cs', vs', h1, h2, h3⟩ := fillK_sound hp hcs h
    refine ⟨_, h1, _, ?_, mkAgg_rel h2⟩
    have hm : (fs.mapM (m := Sem) fun f => do pure (f.offset, ← sizeOf f.type)).run P w = .ok (fs.map fun f => (f.offset, P.cellsOf f.type)) w := by
      rw [Array.mapM_eq_mapM_toList]
      have := run_mapM (P := P) (w := w) (fun f : Field => (do pure (f.offset, ← sizeOf f.type) : Sem (Nat × Nat))) (fun f => (f.offset, P.cellsOf f.type)) fs.toList fun f hf => by
        have := List.all_eq_true.1 hall f hf
        obtain ⟨d, hd⟩ := Option.isSome_iff_exists.1 this
        simp [run_size hd]
      simp only [Sem.run_map, this, Result.andThen_ok]
      congr 1
      apply Array.ext'
      simp
    simp only [Instr.build, Sem.run_bind, hzr, Result.andThen_ok, run_und hfs, hm, hvs]
    rw [h3]
    rfl
  · rename_i n e he
    obtain ⟨hd0, h⟩ := br_none h
    obtain ⟨d, hd⟩ := Option.isSome_iff_exists.1 hd0
    obtain ⟨cs', vs', h1, h2, h3⟩ := fillArrK_sound hp hcs h
    refine ⟨_, h1, _, ?_, mkAgg_rel h2⟩
    simp only [Instr.build, Sem.run_bind, hzr, Result.andThen_ok, run_und he, run_size hd, hvs]
    rw [h3]
    rfl
  · cases h

theorem kill_free {q i : Nat} (hq : Free μ b q) (hi : i ≠ q) : Free μ (kill b i) q := by
  rcases hq with hq | ⟨hq, hq'⟩
  · exact .inl (by rw [(kill_sub b i).len]; exact hq)
  · refine .inr ⟨?_, hq'⟩
    unfold kill
    split
    · rw [List.getElem?_set_ne hi]; exact hq
    · exact hq
mutual
theorem killA_free {N : Nat → Prop} {b0 : List Blk} {q : Nat} (hμ : q = b0.length ∨ μ[q]? = some .none) : ∀ {x : AVal} {v : Value} {b : List Blk}, ARel N w μ b0 x v → b0.length = b.length → Free μ b q → Free μ (killA x b) q
  | .v _, _, _, _, _, h => h
  | .nl, _, _, _, _, h => h
  | .lptr _ _, _, _, _, _, h => h
  | .lel _ _ _ _, _, _, _, _, h => h
  | .lref i ver, _, b, hx, _, h => by
    obtain ⟨_, blk, hh, hb, hm, hn, _⟩ := hx
    refine kill_free h fun e => ?_
    subst e
    rcases hμ with hμ | hμ
    · subst hμ; simp at hb
    · rw [hm] at hμ; cases hμ; exact hn rfl
  | .agg cs, _, _, hx, hl, h => by
    obtain ⟨vs, rfl, hc⟩ := hx
    exact killL_free hμ hc hl h
  | .func _ cs, _, _, hx, hl, h => by
    obtain ⟨vs, rfl, hc⟩ := hx
    exact killL_free hμ hc hl h
  | .tup cs, _, _, hx, hl, h => by
    obtain ⟨vs, rfl, hc⟩ := hx
    exact killL_free hμ hc hl h
  | .un, _, _, _, _, h => h
theorem killL_free {N : Nat → Prop} {b0 : List Blk} {q : Nat} (hμ : q = b0.length ∨ μ[q]? = some .none) : ∀ {fl : Bool} {cs : List AVal} {vs : List Value} {b : List Blk}, AsRel N w μ b0 fl cs vs → b0.length = b.length → Free μ b q → Free μ (killL cs b) q
  | _, [], _, _, _, _, h => h
  | _, x :: r, _, b, hx, hl, h => by
    obtain ⟨u, us, rfl, h1, _, h2⟩ := hx
    exact killL_free (b := killA x b) (cs := r) hμ h2 (by rw [(killA_sub x b).len]; exact hl) (killA_free hμ h1 hl h)
end
theorem Free.mu {q : Nat} (h : Free μ b q) : q = b.length ∨ μ[q]? = some .none := h.imp id (·.2)

/-- New memory that nobody owns. -/
theorem Post.grow {w' : World} {x : AVal} {v : Value} (R : Rel F w μ b) (hs : w.heap.size ≤ w'.heap.size) (hm : ∀ x, x < w.heap.size → w'.heap[x]? = w.heap[x]?)
    (hos : w'.os = w.os) (ht : w'.tape = w.tape) (ho : w'.output = w.output) (hv : ARel (Or F (Own μ b)) w' μ b x v) : Post F w μ b w' μ b x v := by
  have U : Upd F w μ b w' μ b := ⟨R.len, R.len, fun i blk h hb hm => ⟨blk, h, hb, hm, .refl _ _⟩, hs, fun x hx => ⟨Nat.lt_of_lt_of_le (R.fres x hx).2 hs, .inr hx⟩, fun x hx _ => hm x hx⟩
  refine ⟨U, ⟨R.len, ?_, R.inj, fun x hx => ⟨(R.fres x hx).1, Nat.lt_of_lt_of_le (R.fres x hx).2 hs⟩, R.fbk.to hs fun x hx => hm x (R.fbk.idl x hx), R.oid⟩, hv, ⟨hos, ht, ho, hs, fun x hx _ => hm x hx⟩⟩
  intro i blk h hb hm'
  exact BRel.upd U (fun x hx ha => hm x (R.fres x ⟨i, blk, h, hb, ha, hm', hx⟩).2) (R.blk i blk h hb hm')

/-- A new array out of values. -/
theorem arr_post {q n cap : Nat} {e : TypeId} {xs : List CVal} {us : List Value} {cells : List Value} (R : Rel F w μ b) (hq : Free μ b q) (hes : EsRel (Or F (Own μ b)) w n xs us)
    (hcap : xs.length ≤ cap) (hroom : cap * n ≤ cells.length) (hp : ∀ (j : Nat) (v : Value), (flatC us)[j]? = some v → cells[j]? = some v) :
    ∃ μ', Post F w μ b (w.alloc (.cells cells.toArray e (0, 0))) μ' (putNew b q ⟨0, .arr n xs⟩) (.lref q 0) (.slice (some (pl w.heap.size 0)) xs.length cap) := by
  refine ⟨putH μ q (.arr (some (pl w.heap.size 0)) xs.length cap n), new_post R hq (by rw [alloc_size]; omega) (fun x hx => alloc_old w _ x hx) ?_ rfl rfl rfl ?_ ?_⟩
  · intro x hx
    simp only [Hd.own] at hx
    split at hx
    · cases hx
    · cases hx; simp only [pl]; rw [alloc_size]; omega
  · intro U
    refine ⟨_, cap, rfl, hcap, .inr ⟨w.heap.size, _, e, rfl, alloc_heap w _, by simpa using hroom, ?_⟩⟩
    exact ElRel.inBlock (hes.keep U.keep) (alloc_heap w _) hp
  · exact ⟨rfl, _, _, putNew_at hq.le, putH_at (by rw [R.len]; exact hq.le), by simp, Nat.le_refl _, fun _ _ => rfl⟩

theorem EsRel.ofCs {fl : Bool} {agg : Bool} {n : Nat} : ∀ {cs : List CVal} {us : List Value}, CsRel N w fl cs us → cs.all (CVal.fits agg n) = true → EsRel N w n cs us
  | [], _, h, _ => h
  | c :: r, _, h, hf => by
    obtain ⟨u, l, rfl, h1, _, h2⟩ := h
    simp at hf
    obtain ⟨vs, hvs, _, hn, _⟩ := CRel.fits h1 hf.1
    exact ⟨u, l, rfl, fits_noTup hf.1, h1, by rw [hvs]; simpa using hn, EsRel.ofCs h2 (by simpa using hf.2)⟩

theorem parts_vals : ∀ {parts : List (Nat × AVal)} {pv : List (Nat × Value)} {i : Nat} {l : List AVal}, Parts N w μ b parts pv → partsInOrder i parts = some l → AsRel N w μ b false l (pv.map (·.2))
  | [], _, _, l, hp, h => by
    rw [show _ = [] from hp]
    simp [partsInOrder] at h; subst h; rfl
  | (j, x) :: r, _, i, l, hp, h => by
    obtain ⟨u, pv, rfl, hx, hp⟩ := hp
    simp only [partsInOrder] at h
    obtain ⟨_, h⟩ := br_none h
    obtain ⟨l', hl, h⟩ := bind_some' h
    simp at h; subst h
    exact ⟨u, _, rfl, hx, (fun h => by cases h), parts_vals hp hl⟩

theorem fill_all {sz : Nat} : ∀ {parts : List (Nat × AVal)} {pv : List (Nat × Value)} {i : Nat} {l : List AVal} {vs : List Value}, Parts N w μ b parts pv → partsInOrder i parts = some l →
    (∀ p ∈ pv, ∃ us : List Value, p.2.cells = us.toArray ∧ us.length = sz) → (i + pv.length) * sz ≤ vs.length →
    Instr.fill (fun i => some (i * sz, sz)) vs.toArray pv = some (vs.take (i * sz) ++ flatC (pv.map (·.2)) ++ vs.drop ((i + pv.length) * sz)).toArray
  | [], _, i, l, vs, hp, h, hs, hl => by
    rw [show _ = [] from hp]
    simp [Instr.fill, flatC]
  | (j, x) :: r, _, i, l, vs, hp, h, hs, hl => by
    obtain ⟨u, pv, rfl, hx, hp⟩ := hp
    simp only [partsInOrder] at h
    obtain ⟨hij, h⟩ := br_none h
    obtain ⟨l', hl', h⟩ := bind_some' h
    have hij : i = j := by simpa using hij
    subst hij
    obtain ⟨us, hus, hun⟩ := hs (i, u) (by simp)
    simp only at hus
    have e1 : (i + (pv.length + 1)) * sz = i * sz + sz + pv.length * sz := by rw [Nat.add_mul, Nat.add_mul]; omega
    have e2 : (i + 1) * sz = i * sz + sz := by rw [Nat.add_mul]; omega
    have e3 : (i + 1 + pv.length) * sz = i * sz + sz + pv.length * sz := by rw [Nat.add_mul, Nat.add_mul]; omega
    simp only [List.length_cons, e1] at hl
    rw [fill_one (off := i * sz) (sz := sz) rfl hus hun (by omega)]
    rw [fill_all (i := i + 1) hp hl' (fun p hp => hs p (by simp [hp])) (by simp; rw [e3]; omega)]
    congr 2
    rw [e2, e3]
    have h1 : (List.take (i * sz) vs ++ us ++ List.drop (i * sz + us.length) vs).take (i * sz + sz) = vs.take (i * sz) ++ us := by
      rw [List.take_append_of_le_length (by simp; omega), List.take_of_length_le (by simp; omega)]
    have h2 : (List.take (i * sz) vs ++ us ++ List.drop (i * sz + us.length) vs).drop (i * sz + sz + pv.length * sz) = vs.drop (i * sz + sz + pv.length * sz) := by
      rw [List.drop_append, List.drop_of_length_le (by simp; omega), List.drop_drop]
      simp only [List.nil_append, List.length_append, List.length_take, hun]
      congr 1; omega
    rw [h1, h2]
    simp only [List.map_cons, flatC, List.flatMap_cons, hus, List.append_assoc, List.length_cons, e1]

theorem buildSliceK_sound {q : Nat} {t : TypeId} {len : Nat} {parts : List (Nat × AVal)} {pv : List (Nat × Value)} {K : AVal → List Blk → Option R'} (R : Rel F w μ b) (hq : Free μ b q)
    (hp : Parts (Or F (Own μ b)) w μ b parts pv) (h : buildSliceK P q t len parts b K = some r) : Acts P F w μ b K r (Instr.buildSlice t len pv.toArray) false := by
  unfold buildSliceK at h
  split at h
  · rename_i e he
    obtain ⟨l, hl, h⟩ := bind_some' h
    obtain ⟨h0, h⟩ := br_none h
    simp only [Bool.and_eq_true, decide_eq_true_eq, beq_iff_eq] at h0
    obtain ⟨⟨⟨h0, h1⟩, h2⟩, h3⟩ := h0
    obtain ⟨d, i, z, hd, hi, hz, hzs, _⟩ := elemOk_spec h2
    have hvals := parts_vals hp hl
    have hlen := hvals.len
    simp only [List.length_map] at hlen
    have hbig : ¬ (len * P.cellsOf e > 2 ^ 24) := by omega
    split at h
    · -- nothing in it
      have hpv : pv = [] := List.length_eq_zero_iff.1 (by omega)
      subst hpv
      refine ⟨_, _, h, by simp, .slice (some (pl w.heap.size 0)) 0 0, w.alloc (.cells #[] e (0, 0)), μ, ?_, Post.grow R (by rw [alloc_size]; omega) (fun x hx => alloc_old w _ x hx) rfl rfl rfl ⟨_, rfl⟩⟩
      simp [Instr.buildSlice, run_und he, run_size hd, Instr.fill, newRow]
      exact ⟨rfl, by first | rfl | (congr 2; apply Array.ext'; simp)⟩
    · rename_i hne
      obtain ⟨cs, hcs, h⟩ := bind_some' h
      obtain ⟨hf, h⟩ := br_none h
      obtain ⟨U0, R0⟩ := killL_upd l R
      have hcl := closeL_sound R (killL_sub l b) hcs hvals (killL_dead l b)
      have hes := EsRel.ofCs hcl hf
      have hq0 := killL_free hq.mu hvals rfl hq
      have hlc : cs.length = len := by have := hes.len; simp at this; omega
      have hpl : pv.length = len := by omega
      have hsz : ∀ p ∈ pv, ∃ us : List Value, p.2.cells = us.toArray ∧ us.length = P.cellsOf e := by
        intro p hp'
        have := hes.sizes p.2 (List.mem_map.2 ⟨p, hp', rfl⟩)
        exact ⟨p.2.cells.toList, by simp, by simpa using this⟩
      have hfill := fill_all (i := 0) (vs := ((Array.range (len * P.cellsOf e)).map (z.cells[· % z.cells.size]!)).toList) hp hl hsz (by simp [hpl])
      simp only [Nat.zero_mul, List.take_zero, List.nil_append, Nat.zero_add, hpl] at hfill
      rw [List.drop_of_length_le (by simp)] at hfill
      simp only [List.append_nil, Array.toArray_toList] at hfill
      obtain ⟨μ', hpost⟩ := arr_post (e := e) (cap := cs.length) (cells := flatC (pv.map (·.2))) R0 hq0 hes (Nat.le_refl _) (by rw [hes.flat_len]; exact Nat.le_refl _) (fun _ _ h => h)
      refine ⟨_, _, h, by simp, _, _, μ', ?_, Post.pre U0 (.refl _ _) hpost⟩
      have hn0 : ¬ (len * P.cellsOf e = 0) := by
        rw [Nat.mul_eq_zero]
        rintro (h | h)
        · exact hne h
        · exact h3 h
      simp only [Instr.buildSlice, Sem.run_bind, run_und he, Result.andThen_ok, run_size hd, if_neg hbig, if_neg hn0, run_zero hi hz, Sem.run_pure, Sem.run_ite, hfill, newRow, run_newObj]
      rw [hlc]
      rfl
  · cases h
end

end Go.Proofs.YtomkegeojknihaaDoor.Abs

/-! make, conversions. -/
namespace Go.Proofs.YtomkegeojknihaaDoor.Abs
open Go
variable [Glob]

section
variable {P : Program} {w : World} {F N : Nat → Prop} {μ : List Hd} {b : List Blk} {R' : Type} {r : R'}

theorem Acts.ofYld {K : AVal → List Blk → Option R'} {S : Sem Value} (R : Rel F w μ b) (h : Yld P (Or F (Own μ b)) w μ b (fun y => K y b) r S) {ro : Bool} : Acts P F w μ b K r S ro := by
  obtain ⟨y, hy, u, hr, ha⟩ := h
  exact ⟨y, b, hy, fun _ => rfl, u, w, μ, hr, .same R ha⟩

theorem flatC_rep (z : Value) (sz : Nat) (hz : z.cells.size = sz) (h0 : sz ≠ 0) : ∀ (n : Nat),
    flatC (List.replicate n z) = ((Array.range (n * sz)).map (z.cells[· % z.cells.size]!)).toList
  | 0 => by simp [flatC]
  | n + 1 => by
    have ih := flatC_rep z sz hz h0 n
    unfold flatC at *
    rw [List.replicate_succ', List.flatMap_append, ih]
    apply List.ext_getElem?
    intro j
    have hl : ((Array.range (n * sz)).map (z.cells[· % z.cells.size]!)).toList.length = n * sz := by simp
    have e : (n + 1) * sz = n * sz + sz := by rw [Nat.add_mul]; omega
    by_cases hj : j < n * sz
    · rw [List.getElem?_append_left (by omega)]
      simp [hj, e, Nat.lt_of_lt_of_le hj (Nat.le_add_right (n * sz) sz)]
    · rw [List.getElem?_append_right (by omega), hl]
      by_cases hj2 : j < n * sz + sz
      · have hm : j % sz = j - n * sz := by
          have : j = (j - n * sz) + n * sz := by omega
          rw [this, Nat.add_mul_mod_self_right, Nat.mod_eq_of_lt (by omega)]; omega
        have h1 : j - n * sz < z.cells.size := by omega
        simp [e, hj2, hz, hm, h1]
        rw [getElem!_pos z.cells _ h1, Array.getElem?_eq_getElem h1]
      · have h1 : ¬ (j - n * sz < z.cells.size) := by omega
        simp [e, hj2, h1]

theorem EsRel.rep {sz : Nat} {c : CVal} {z : Value} (h1 : noTup c = true) (h2 : CRel N w c z) (h3 : z.cells.size = sz) : ∀ n, EsRel N w sz (List.replicate n c) (List.replicate n z)
  | 0 => rfl
  | n + 1 => ⟨z, List.replicate n z, rfl, h1, h2, h3, EsRel.rep h1 h2 h3 n⟩

theorem makeSliceK_sound {q : Nat} {t : TypeId} {x y : AVal} {v u : Value} {K : AVal → List Blk → Option R'} (R : Rel F w μ b) (hq : Free μ b q)
    (hx : ARel (Or F (Own μ b)) w μ b x v) (hy : ARel (Or F (Own μ b)) w μ b y u) (h : makeSliceK P q t x y b K = some r) : Acts P F w μ b K r (Instr.makeSlice t v u) false := by
  unfold makeSliceK at h
  split at h
  · rename_i e he
    obtain ⟨k, n, rfl, h⟩ := wIdx_sound hx h
    obtain ⟨k', m, rfl, h⟩ := wIdx_sound hy h
    obtain ⟨h0, g⟩ := br_none h
    clear h
    simp only [Bool.and_eq_true, decide_eq_true_eq] at h0
    obtain ⟨⟨⟨⟨h1, h2⟩, h3⟩, h4⟩, h5⟩ := h0
    subst h4
    have h := g
    clear g
    obtain ⟨d, i, z, hd, hi, hz, hzs, hby⟩ := elemOk_spec h1
    obtain ⟨z', hz', h⟩ := bind_some' h
    obtain ⟨c, hc, h⟩ := bind_some' h
    obtain ⟨hf, h⟩ := br_none h
    obtain ⟨zv, hzr, hzrel⟩ := zeroT_spec (P := P) (N := Or F (Own μ b)) (w := w) (μ := μ) (b := b) hz'
    have hzz : zv = z := by
      have h6 := hzr w
      have h7 : (zeroValue e).run P w = .ok z w := run_zero hi hz
      rw [h7] at h6; cases h6; rfl
    subst hzz
    obtain ⟨U0, R0⟩ := killA_upd z' R
    have hcl := closeA_sound R (killA_sub z' b) hc hzrel (killA_dead z' b)
    have hq0 := killA_free hq.mu hzrel rfl hq
    have hes := EsRel.rep (N := Or F (Own μ (killA z' b))) (w := w) (fits_noTup hf) hcl hzs n.toNat
    have hcells := flatC_rep zv (P.cellsOf e) hzs h2 n.toNat
    obtain ⟨μ', hpost⟩ := arr_post (e := e) (cap := n.toNat) (cells := flatC (List.replicate n.toNat zv)) R0 hq0 hes (by simp) (by rw [hes.flat_len]; simp) (fun _ _ h => h)
    refine ⟨_, _, h, by simp, _, _, μ', ?_, Post.pre U0 (.refl _ _) hpost⟩
    have hwrap : IntKind.i64.wrap n = n := by
      have : n < 9223372036854775808 := by omega
      simp only [IntKind.wrap, IntKind.signed, IntKind.bits]
      simp
      omega
    have hb1 : (i.bytes : Int) * n ≤ 4096 * 1048576 := by
      have hh1 : (i.bytes : Int) ≤ 4096 := by omega
      calc (i.bytes : Int) * n ≤ 4096 * n := Int.mul_le_mul_of_nonneg_right hh1 h3
        _ ≤ 4096 * 1048576 := by omega
    have hbig : ¬ ((i.bytes : Int) * n > 2 ^ 48) := by omega
    have hneg : ¬ (n < 0) := by omega
    have hask : ∀ k : Nat, (askRoom k).run P w = .ok () w := by
      intro k; unfold askRoom; split <;> rfl
    have hn : ((n.toNat * P.cellsOf e = 0) = False) ∨ n.toNat = 0 := by
      by_cases h0 : n.toNat = 0
      · exact .inr h0
      · left; simp [Nat.mul_eq_zero, h0, h2]
    have hinfo : (typeInfo e).run P w = .ok i w := by simp [typeInfo, hi]
    have hai : ∀ (k : IntKind) (n : Int), (asInt (.int k n)).run P w = .ok n w := fun _ _ => rfl
    have hb2 : ¬ (281474976710656 < (i.bytes : Int) * n) := by omega
    have hlen : (List.replicate n.toNat c).length = n.toNat := by simp
    rw [hcells, hlen]
    rcases hn with hn | hn
    · simp [Instr.makeSlice, run_und he, hai, hinfo, hwrap, hneg, hb2, hask, run_size hd, hn, hzr, newRow]
      refine ⟨rfl, ?_⟩
      congr 2
      apply Array.ext'; simp
    · simp [Instr.makeSlice, run_und he, hai, hinfo, hwrap, hneg, hb2, hask, run_size hd, hn, hzr, newRow]
      exact ⟨rfl, by first | rfl | (congr 2; apply Array.ext'; simp)⟩
  · cases h

/-! Conversions. -/
theorem bytes_loop : ∀ (xs : List CVal) (us : List Value) (s acc : List UInt8), EsRel N w 1 xs us → bytesOfC xs = some s →
    ((forIn (flatC us) (⟨acc.toArray⟩ : ByteArray) fun c (s : ByteArray) => (do
      let .int .u8 n := c | stuck "bytesToString: byte expected"
      pure (.yield (s.push (UInt8.ofNat n.toNat))) : Sem (ForInStep ByteArray))) : Sem ByteArray).run P w = .ok ⟨(acc ++ s).toArray⟩ w
  | [], _, s, acc, he, h => by
    rw [show _ = [] from he]
    simp [bytesOfC] at h; subst h
    simp [flatC]
  | c :: r, _, s, acc, he, h => by
    obtain ⟨u, l, rfl, h1, h2, h3, he⟩ := he
    simp only [bytesOfC] at h
    obtain ⟨n, hn, h⟩ := bind_some' h
    obtain ⟨s', hs, h⟩ := bind_some' h
    simp at h; subst h
    cases c <;> simp [CVal.asInt] at hn
    rename_i k n'
    obtain ⟨rfl, rfl⟩ := hn
    have hu : u = .int .u8 n' := h2
    subst hu
    have ih := bytes_loop r l s' (acc ++ [UInt8.ofNat n'.toNat]) he hs
    have hp : (⟨acc.toArray⟩ : ByteArray).push (UInt8.ofNat n'.toNat) = ⟨(acc ++ [UInt8.ofNat n'.toNat]).toArray⟩ := by
      apply ByteArray.ext; simp [ByteArray.push]
    have hfl : flatC (Value.int .u8 n' :: l) = Value.int .u8 n' :: flatC l := by simp [flatC, Value.cells]
    rw [hfl, List.forIn_cons]
    simp only [Sem.run_bind, Sem.run_pure, Result.andThen_ok, hp]
    rw [ih, List.append_assoc]
    rfl

theorem bytes_fit : ∀ {ys : List CVal} {s : List UInt8}, bytesOfC ys = some s → ys.all (CVal.fits false 1) = true
  | [], _, _ => rfl
  | c :: r, s, h => by
    simp only [bytesOfC] at h
    obtain ⟨n, hn, h⟩ := bind_some' h
    obtain ⟨s', hs, h⟩ := bind_some' h
    cases c <;> simp [CVal.asInt] at hn
    rw [List.all_cons, bytes_fit hs]
    rfl

theorem run_bytes {e : TypeId} (s : List UInt8) : ∃ w' cap pad fr, (Conv.stringToBytes e ⟨s.toArray⟩).run P w = .ok (.slice (some (pl w.heap.size 0)) s.length cap) w' ∧ s.length ≤ cap ∧
    w'.heap.size = w.heap.size + 1 ∧ (∀ x, x < w.heap.size → w'.heap[x]? = w.heap[x]?) ∧ w'.os = w.os ∧ w'.tape = w.tape ∧ w'.output = w.output ∧
    w'.heap[w.heap.size]? = some (.cells (List.toArray (s.map (fun c => Value.int .u8 c.toNat) ++ pad)) e fr) := by
  let cap := (Question.appendCap s.length 0 e).cut (w.tape w.drawn (Question.appendCap s.length 0 e))
  have hge : s.length ≤ cap := by
    show _ ≤ s.length + _
    omega
  let cells : Array Value := List.toArray (s.map (fun c => Value.int .u8 c.toNat) ++ List.replicate (cap - s.length) (Value.int .u8 0))
  let w1 : World := ({ w with drawn := w.drawn + 1 } : World).alloc (.cells cells e (0, 0))
  refine ⟨w1.freeze ⟨w.heap.size, cells.size, none⟩ 1, cap, List.replicate (cap - s.length) (Value.int .u8 0), (cells.size, cells.size + 1), ?_, hge, ?_, ?_, rfl, rfl, rfl, ?_⟩
  · have hf : (Question.appendCap s.length 0 e).forced = false := rfl
    have hsz : (⟨s.toArray⟩ : ByteArray).size = s.length := rfl
    have hcells : (Array.map (fun b : UInt8 => Value.int .u8 ↑b.toNat) s.toArray ++ Array.replicate (cap - s.length) (Value.int .u8 0)) = cells := by
      apply Array.ext'; simp [cells]
    have hshape : w1.shape? w.heap.size = some (e, cells.size) := by
      unfold World.shape?
      rw [drew_at]
    simp only [Conv.stringToBytes, Sem.run_bind, hsz]
    simp [hf, newRow, markStringish]
    have hc2 : ((List.map (fun b : UInt8 => Value.int .u8 ↑b.toNat) s).toArray ++ Array.replicate ((Question.appendCap s.length 0 e).cut (w.tape w.drawn (Question.appendCap s.length 0 e)) - s.length) (Value.int .u8 0)) = cells := by
      apply Array.ext'; simp [cells, cap]
    rw [hc2]
    have hsh : (w.drew.alloc (Obj.cells cells e)).shape? w.heap.size = some (e, cells.size) := hshape
    rw [hsh]
    rfl
  · simp [World.freeze, w1]
  · intro x hx
    have : x ≠ w.heap.size := by omega
    simp only [World.freeze, Nat.one_ne_zero, if_false]
    rw [Array.getElem?_modify, if_neg (by simpa using Ne.symm this)]
    exact drew_old w _ x hx
  · simp only [World.freeze, Nat.one_ne_zero, if_false]
    rw [Array.getElem?_modify, if_pos rfl, drew_at]
    rfl

theorem convertK_sound {q : Nat} {src dst : TypeId} {x : AVal} {v : Value} {K : AVal → List Blk → Option R'} (R : Rel F w μ b) (hx : ARel (Or F (Own μ b)) w μ b x v)
    (h : convertK P q src dst x b K = some r) : Acts P F w μ b K r (convert src dst v) true := by
  unfold convertK at h
  split at h
  · rename_i k k' h1 h2
    obtain ⟨n, rfl, h⟩ := wInt_sound hx h
    exact ⟨_, _, h, fun _ => rfl, .int k' (k'.wrap n), w, μ, by simp [convert, run_und h1, run_und h2, Conv.intToInt], .same R rfl⟩
  · rename_i h1 h2
    obtain ⟨s, rfl, h⟩ := wStr_sound hx h
    exact ⟨_, _, h, fun _ => rfl, .string ⟨s.toArray⟩, w, μ, by simp [convert, run_und h1, run_und h2], .same R rfl⟩
  · rename_i e h1 h2
    split at h
    · rename_i h3
      obtain ⟨ys, base, cap, h, rfl, hl, hc⟩ := wSl_sound R hx h
      obtain ⟨s, hs, h⟩ := bind_some' h
      refine ⟨_, _, h, fun _ => rfl, .string ⟨s.toArray⟩, w, μ, ?_, .same R rfl⟩
      have hfit : ys.all (CVal.fits false 1) = true := bytes_fit hs
      obtain ⟨us, hus, hrun⟩ := run_firstCells (P := P) (agg := false) hc hfit
      have hloop := bytes_loop (P := P) ys us s [] hus hs
      have hr := hrun cap w rfl
      cases base with
      | none =>
        have : ys = [] := by
          rcases hc with hc | ⟨z, o, sz, h, _⟩
          · exact hc
          · cases h
        subst this
        simp [bytesOfC] at hs; subst hs
        simp [convert, run_und h1, run_und h2, run_und h3, Conv.bytesToString]
        rfl
      | some a =>
        simp only [Builtin.firstCells, Nat.mul_one] at hr
        simp only [convert, Sem.run_bind, run_und h1, run_und h2, run_und h3, Result.andThen_ok, Conv.bytesToString, hr, List.forIn_toArray, Sem.run_pure]
        have h0 : (⟨([] : List UInt8).toArray⟩ : ByteArray) = ByteArray.empty := rfl
        rw [h0] at hloop
        erw [hloop]
        rfl
    · cases h
  · rename_i e h1 h2
    split at h
    · rename_i h3
      obtain ⟨s, rfl, h⟩ := wStr_sound hx h
      obtain ⟨h0, h⟩ := br_none h
      obtain ⟨w', cap, pad, fr, hrun, hcap, hsz, hold, ho, ht, hout, hat⟩ := run_bytes (P := P) (w := w) (e := e) s
      refine ⟨_, _, h, fun _ => rfl, _, w', μ, by simp only [convert, Sem.run_bind, run_und h1, run_und h2, run_und h3, Result.andThen_ok]; exact hrun,
        Post.grow R (by omega) hold ho ht hout ⟨_, cap, by simp [bytesC], by simpa [bytesC] using hcap, .inr ⟨w.heap.size, 0, 1, rfl, ?_, by omega, ?_⟩⟩⟩
      · rintro (hf | hf)
        · have := R.fb _ hf; omega
        · have := (R.fres _ hf).2; omega
      · have hes : ∀ s : List UInt8, EsRel (Or F (Own μ b)) w' 1 (bytesC s) (s.map fun c => Value.int .u8 c.toNat) := by
          intro s
          induction s with
          | nil => rfl
          | cons c r ih => exact ⟨_, _, rfl, rfl, rfl, rfl, ih⟩
        refine ElRel.inBlock (hes s) hat fun j v hv => ?_
        have hfl : ∀ s : List UInt8, flatC (s.map fun c => Value.int .u8 c.toNat) = s.map fun c => Value.int .u8 c.toNat := by
          intro s
          induction s with
          | nil => rfl
          | cons c r ih => unfold flatC at *; rw [List.map_cons, List.flatMap_cons, ih]; rfl
        rw [hfl] at hv
        rw [List.getElem?_append_left (List.getElem?_eq_some_iff.1 hv).1]
        exact hv
    · cases h
  · cases h
end
end Go.Proofs.YtomkegeojknihaaDoor.Abs

/-! Operations. -/
namespace Go.Proofs.YtomkegeojknihaaDoor.Abs
open Go
variable [Glob]

section
variable {P : Program} {w : World} {F N : Nat → Prop} {μ : List Hd} {b : List Blk} {R' : Type} {r : R'}

/-! Slots. -/
theorem AsRel.set : ∀ {fl : Bool} {cs : List AVal} {vs : List Value} {i : Nat} {x : AVal} {v : Value}, AsRel N w μ b fl cs vs → ARel N w μ b x v → (fl = true → flat v = true) →
    AsRel N w μ b fl (cs.set i x) (vs.set i v)
  | _, [], _, i, x, v, h, _, _ => by rw [show _ = [] from h]; simp [AsRel]
  | _, c :: r, _, 0, x, v, h, hx, hf => by
    obtain ⟨u, us, rfl, _, _, h⟩ := h
    exact ⟨v, us, rfl, hx, hf, h⟩
  | _, c :: r, _, i + 1, x, v, h, hx, hf => by
    obtain ⟨u, us, rfl, h1, h2, h⟩ := h
    exact ⟨u, us.set i v, rfl, h1, h2, AsRel.set h hx hf⟩

/-- The slots of a frame. -/
def TRel (N : Nat → Prop) (w : World) (μ : List Hd) (b : List Blk) (t : List AVal) (a : Act) : Prop := AsRel N w μ b false t a.tmps.toList ∧ a.defers = []

theorem TRel.eval {t : List AVal} {a : Act} (h : TRel N w μ b t a) (x : Operand) : ARel N w μ b (evalA t x) (a.eval x) := by
  cases x with
  | tmp i =>
    simp only [evalA, Act.eval, List.getD_eq_getElem?_getD, Array.getD_eq_getD_getElem?]
    cases hi : t[i]? with
    | none => trivial
    | some c =>
      obtain ⟨v, hv, hr, _⟩ := AsRel.get h.1 hi
      have : a.tmps[i]? = some v := by simpa using hv
      rw [this]; exact hr
  | const c =>
    simp only [evalA, Act.eval]
    cases hc : ofVal c with
    | none => trivial
    | some x => exact ofVal_rel hc
  | func f => exact ⟨[], rfl, rfl⟩
  | global g => trivial

theorem TRel.put {t : List AVal} {a : Act} (h : TRel N w μ b t a) (d : Option Nat) {x : AVal} {v : Value} (hx : ARel N w μ b x v) : TRel N w μ b (putA t d x) (a.put d v) := by
  cases d with
  | none => exact h
  | some i =>
    unfold TRel putA Act.put
    simp only [Array.toList_setIfInBounds]
    exact ⟨AsRel.set h.1 hx (by simp), h.2⟩

theorem TRel.set {t : List AVal} {a : Act} (h : TRel N w μ b t a) (i : Nat) {x : AVal} (hx : ∀ v, a.tmps[i]? = some v → ARel N w μ b x v) : TRel N w μ b (t.set i x) a := by
  refine ⟨?_, h.2⟩
  replace h := h.1
  by_cases hi : i < a.tmps.size
  · have : a.tmps.toList = a.tmps.toList.set i a.tmps[i] := by
      rw [set_self]; simp [hi]
    rw [this]
    exact AsRel.set h (hx _ (Array.getElem?_eq_getElem hi)) (by simp)
  · rw [List.set_eq_of_length_le (by have := AsRel.len h; simp at this; omega)]
    exact h

theorem TRel.upd {w' : World} {μ' : List Hd} {b' : List Blk} {t : List AVal} {a : Act} (U : Upd F w μ b w' μ' b') (h : TRel (Or F (Own μ b)) w μ b t a) : TRel (Or F (Own μ' b')) w' μ' b' t a :=
  ⟨AsRel.upd U h.1, h.2⟩

theorem mapParts_rel {t : List AVal} {a : Act} (h : TRel N w μ b t a) (ps : Array (Nat × Operand)) :
    ∃ pv : List (Nat × Value), (ps.map fun (i, x) => (i, a.eval x)) = pv.toArray ∧ Parts N w μ b (mapParts t ps) pv := by
  refine ⟨ps.toList.map fun p => (p.1, a.eval p.2), by apply Array.ext'; simp, ?_⟩
  unfold mapParts
  generalize ps.toList = l
  induction l with
  | nil => rfl
  | cons p l ih => exact ⟨_, _, rfl, h.eval p.2, ih⟩

theorem args_rel {t : List AVal} {a : Act} (h : TRel N w μ b t a) : ∀ l : List Operand, AsRel N w μ b false (l.map (evalA t)) (l.map a.eval)
  | [] => rfl
  | x :: r => ⟨_, _, rfl, h.eval x, (by simp), args_rel h r⟩

/-- An operation's meaning. -/
def Goes (P : Program) (F : Nat → Prop) (w : World) (μ : List Hd) (b : List Blk) (K : AVal → List Blk → Option R') (r : R') (o : Oper) (a : Act) (ro : Bool) : Prop :=
  ∃ y b', K y b' = some r ∧ (ro = true → b' = b) ∧ ∀ (next : Act → World → Prop) (Q : Exit → Act → World → Prop), (∀ v w' μ', Post F w μ b w' μ' b' y v → next (a.put o.dst v) w') → o.wp P a w next Q

theorem Goes.ofActs {K : AVal → List Blk → Option R'} {o : Oper} {a : Act} {S : Sem Value} {ro ro' : Bool} (h : Acts P F w μ b K r S ro) (ho : execOp a.eval o = (do pure (.value (← S)))) (hro : ro' = true → ro = true) : Goes P F w μ b K r o a ro' := by
  obtain ⟨y, b', hK, hb, u, w', μ', hr, hp⟩ := h
  refine ⟨y, b', hK, fun h => hb (hro h), fun next Q hn => ?_⟩
  unfold Oper.wp
  rw [ho]
  simp only [Sem.run_bind, hr, Result.andThen_ok, Sem.run_pure, Oper.upon_value]
  exact hn _ _ _ hp

theorem Goes.ofYld {K : AVal → List Blk → Option R'} {o : Oper} {a : Act} {S : Sem Value} (R : Rel F w μ b) {ro : Bool} (h : Yld P (Or F (Own μ b)) w μ b (fun y => K y b) r S)
    (ho : execOp a.eval o = (do pure (.value (← S)))) : Goes P F w μ b K r o a ro := by
  obtain ⟨y, hK, u, hr, hp⟩ := h
  refine ⟨y, b, hK, fun _ => rfl, fun next Q hn => ?_⟩
  unfold Oper.wp
  rw [ho]
  simp only [Sem.run_bind, hr, Result.andThen_ok, Sem.run_pure, Oper.upon_value]
  exact hn _ _ _ (.same R hp)

theorem Goes.ofVal {K : AVal → List Blk → Option R'} {o : Oper} {a : Act} {y : AVal} {v : Value} (R : Rel F w μ b) (h : K y b = some r) (hv : ARel (Or F (Own μ b)) w μ b y v)
    {ro : Bool} (ho : (execOp a.eval o).run P w = .ok (.value v) w) : Goes P F w μ b K r o a ro := by
  refine ⟨y, b, h, fun _ => rfl, fun next Q hn => ?_⟩
  unfold Oper.wp
  rw [ho]
  exact hn _ _ _ (.same R hv)


theorem run_value {S : Sem Value} {v : Value} {w' : World} (h : S.run P w = .ok v w') : (do pure (Next.value (← S)) : Sem Next).run P w = .ok (.value v) w' := by
  simp [h]

/-- A call's meaning. -/
def CallGoes (P : Program) (F : Nat → Prop) (w : World) (μ : List Hd) (b : List Blk) (K : AVal → List Blk → Option R') (r : R') (g : FuncId) (vs : List Value) (ro : Bool) : Prop :=
  ∃ y b', K y b' = some r ∧ (ro = true → b' = b) ∧ ∀ (o : Oper) (a : Act) (next : Act → World → Prop) (Q : Exit → Act → World → Prop), (execOp a.eval o).run P w = (callFunc g vs.toArray).run P w →
    (∀ v w' μ', Post F w μ b w' μ' b' y v → next (a.put o.dst v) w') → o.wp P a w next Q

theorem allV_rel {cs : List AVal} {xs : List CVal} {fl : Bool} {vs : List Value} (h : allV cs = some xs) (hr : AsRel N w μ b fl cs vs) : CsRel N w fl xs vs := by
  rw [allV_eq h] at hr
  exact hr.toC

theorem flats {t : List AVal} {a : Act} : ∀ {l : List Operand}, AsRel N w μ b false (l.map (evalA t)) (l.map a.eval) → (∀ x ∈ l, flatX (evalA t x) ) → AsRel N w μ b true (l.map (evalA t)) (l.map a.eval)
  | [], h, _ => h
  | x :: r, h, hf => by
    obtain ⟨u, us, he, h1, _, h2⟩ := h
    simp at he
    obtain ⟨rfl, rfl⟩ := he
    exact ⟨_, _, rfl, h1, fun _ => h1.flatOf (hf x (by simp)), flats h2 fun y hy => hf y (by simp [hy])⟩

theorem equalIn_nil (d : Nat) {xt : TypeId} {ms : Array (String × TypeId)} (hk : P.underlying xt = some (.interface ms)) : (Op.equalIn (d + 1) xt .nilIface .nilIface).run P w = .ok true w := by simp [Op.equalIn, run_und hk]
theorem equalIn_iface (d : Nat) {xt : TypeId} {ms : Array (String × TypeId)} {t : TypeId} {z : Value} (hk : P.underlying xt = some (.interface ms)) : (Op.equalIn (d + 1) xt (.iface t z) .nilIface).run P w = .ok false w := by simp [Op.equalIn, run_und hk]
theorem equal_nil {xt : TypeId} {ms : Array (String × TypeId)} (hk : P.underlying xt = some (.interface ms)) : (Op.equal xt .nilIface .nilIface).run P w = .ok true w := equalIn_nil 9999 hk
theorem equal_iface {xt : TypeId} {ms : Array (String × TypeId)} {t : TypeId} {z : Value} (hk : P.underlying xt = some (.interface ms)) : (Op.equal xt (.iface t z) .nilIface).run P w = .ok false w := equalIn_iface 9999 hk

theorem eqK_sound {op : BinOp} {xt : TypeId} {x y : AVal} {v u : Value} {ox oy : Operand} {K : AVal → Option R'} (hx : ARel N w μ b x v) (hy : ARel N w μ b y u)
    (hc : ∃ c, oy = .const c) (h : eqK P op xt x y K = some r) : Yld P N w μ b K r (do eqGuard op xt ox oy v u; Go.binOp op xt v u) := by
  obtain ⟨c, rfl⟩ := hc
  unfold eqK at h
  split at h
  · rename_i ms hms
    split at h
    · have hv : v = .nilIface := hx
      have hu : u = .nilIface := hy
      subst hv hu
      have hg : ∀ op, (eqGuard op xt ox (.const c) .nilIface .nilIface).run P w = .ok () w := by
        intro op; unfold eqGuard; cases op <;> simp
      split at h
      · exact ⟨_, h, .bool true, by simp only [Sem.run_bind, hg, Result.andThen_ok, Go.binOp, equal_nil hms, Sem.run_pure], rfl⟩
      · exact ⟨_, h, .bool false, by simp only [Sem.run_bind, hg, Result.andThen_ok, Go.binOp, equal_nil hms, Sem.run_pure]; rfl, rfl⟩
      · cases h
    · obtain ⟨z, hv, _⟩ := hx
      have hu : u = .nilIface := hy
      subst hv hu
      have hg : ∀ op t, (eqGuard op xt ox (.const c) (.iface t z) .nilIface).run P w = .ok () w := by
        intro op t; unfold eqGuard; cases op <;> simp
      split at h
      · exact ⟨_, h, .bool false, by simp only [Sem.run_bind, hg, Result.andThen_ok, Go.binOp, equal_iface hms, Sem.run_pure], rfl⟩
      · exact ⟨_, h, .bool true, by simp only [Sem.run_bind, hg, Result.andThen_ok, Go.binOp, equal_iface hms, Sem.run_pure]; rfl, rfl⟩
      · cases h
    · cases h
  · cases h

theorem AsRel.weak : ∀ {fl : Bool} {cs : List AVal} {vs : List Value}, AsRel N w μ b fl cs vs → AsRel N w μ b false cs vs
  | _, [], _, h => h
  | _, x :: r, _, h => by
    obtain ⟨u, us, rfl, h1, _, h2⟩ := h
    exact ⟨u, us, rfl, h1, by simp, AsRel.weak h2⟩
theorem CsRel.weak : ∀ {fl : Bool} {cs : List CVal} {vs : List Value}, CsRel N w fl cs vs → CsRel N w false cs vs
  | _, [], _, h => h
  | _, x :: r, _, h => by
    obtain ⟨u, us, rfl, h1, _, h2⟩ := h
    exact ⟨u, us, rfl, h1, by simp, CsRel.weak h2⟩

theorem appendK_sound {q : Nat} {ty ty2 out : TypeId} {x y : AVal} {v u : Value} {K : AVal → List Blk → Option R'} (R : Rel F w μ b) (hq : Free μ b q) (hx : ARel (Or F (Own μ b)) w μ b x v)
    (hy : ARel (Or F (Own μ b)) w μ b y u) (h : appendK P q b ty ty2 x y K = some r) : Acts P F w μ b K r (Builtin.append_ #[ty, ty2] out #[v, u]) false := by
  unfold appendK at h
  split at h
  · rename_i e he
    obtain ⟨h0, h⟩ := br_none h
    simp only [Bool.and_eq_true] at h0
    split at h
    · obtain ⟨base, rfl⟩ := hx
      obtain ⟨ys, base2, cap2, h, rfl, hl, hc⟩ := wSl_sound R hy h
      obtain ⟨h1, h⟩ := br_none h
      simp only [Bool.and_eq_true, decide_eq_true_eq] at h1
      obtain ⟨v, w', μ', hr, hp⟩ := append_new (out := out) (base := base) R hq he h0.2 h0.1 h1.1 hl h1.2 hc
      exact ⟨_, _, h, by simp, v, w', μ', hr, hp⟩
    · rename_i i ver
      obtain ⟨xs, hxs, h⟩ := bind_some' h
      obtain ⟨ys, base2, cap2, h, rfl, hl, hc⟩ := wSl_sound R hy h
      obtain ⟨h1, h⟩ := br_none h
      simp only [Bool.and_eq_true, decide_eq_true_eq, beq_iff_eq] at h1
      obtain ⟨v', w', μ', hr, hp⟩ := append_own (out := out) R hx hxs h1.1.2 he h0.2 h0.1 h1.1.1 hl h1.2 hc
      exact ⟨_, _, h, by simp, v', w', μ', hr, hp⟩
    · cases h
  · cases h

theorem Keep.sub {N M : Nat → Prop} (h : ∀ x, M x → N x) : Keep N M w w := ⟨Nat.le_refl _, fun x _ hn => ⟨rfl, fun k => hn (h x k)⟩⟩

theorem not_own_dead {b' : List Blk} {i x : Nat} (R : Rel F w μ b) (s : Sub b' b) {blk : Blk} {h : Hd} (hb : b[i]? = some blk) (ha : alive blk.body = true) (hm : μ[i]? = some h) (ho : h.own = some x)
    (hd : ∀ blk, b'[i]? = some blk → alive blk.body = false) : ¬ Or F (Own μ b') x := by
  have hown : Own μ b x := ⟨i, blk, h, hb, ha, hm, ho⟩
  rintro (hf | ⟨j, blk', h', hb', ha', hm', ho'⟩)
  · exact (R.fres x hown).1 hf
  · have := R.inj i j blk blk' h h' x hb (s.at_ j blk' hb' ha') ha ha' hm hm' ho ho'
    subst this
    have := hd blk' hb'
    rw [ha'] at this; cases this

theorem closeRK_sound {agg : Bool} {x : AVal} {v : Value} {K : CVal → List Blk → Option R'} (R : Rel F w μ b) (hx : ARel (Or F (Own μ b)) w μ b x v) (h : closeRK b agg x K = some r) :
    ∃ c b', K c b' = some r ∧ Sub b' b ∧ Upd F w μ b w μ b' ∧ Rel F w μ b' ∧ CRel (Or F (Own μ b')) w c v := by
  have other : ∀ {x : AVal}, ARel (Or F (Own μ b)) w μ b x v → ((closeA b x).bind fun c => K c (killA x b)) = some r → ∃ c b', K c b' = some r ∧ Sub b' b ∧ Upd F w μ b w μ b' ∧ Rel F w μ b' ∧ CRel (Or F (Own μ b')) w c v := by
    intro x hx h
    obtain ⟨c, hc, h⟩ := bind_some' h
    obtain ⟨U, R1⟩ := killA_upd x R
    exact ⟨c, _, h, killA_sub x b, U, R1, closeA_sound R (killA_sub x b) hc hx (killA_dead x b)⟩
  unfold closeRK at h
  split at h
  · rename_i i
    obtain ⟨cs, hcs, h⟩ := bind_some' h
    obtain ⟨xs, hxs, h⟩ := bind_some' h
    obtain ⟨h0, h⟩ := br_none h
    obtain ⟨ver, x, vs, e, hb, hm, hw, ha, _⟩ := R.box hcs
    obtain ⟨x', hm', rfl⟩ := hx
    rw [hm] at hm'; cases hm'
    obtain ⟨U0, R0⟩ := killL_upd cs R
    obtain ⟨U1, R1⟩ := kill_upd R0 i
    have hs1 := kill_sub (killL cs b) i
    have hcl0 := closeL_sound R (killL_sub cs b) hxs ha (killL_dead cs b)
    have hcl : CsRel (Or F (Own μ (kill (killL cs b) i))) w true xs vs := CsRel.keep (Keep.sub fun z hz => hz.imp id fun ho => hs1.own ho) hcl0
    have hno : ¬ Or F (Own μ (kill (killL cs b) i)) x := not_own_dead R (hs1.trans (killL_sub cs b)) hb rfl hm rfl fun blk hb => kill_dead hb
    have hlt : x < w.heap.size := (Array.getElem?_eq_some_iff.1 hw).1
    have hcell : ∀ j, w.cell? (pl x (0 + j)) = vs[j]? := fun j => by rw [Nat.zero_add]; exact cell_of_heap hw
    have hl1 := hcl.len
    have hl2 := ha.len
    refine ⟨_, _, h, hs1.trans (killL_sub cs b), U0.trans U1, R1, ?_⟩
    unfold packFp
    cases agg with
    | true =>
      refine ⟨x, 0, .agg vs.toArray, rfl, hno, hlt, rfl, ⟨vs, rfl, hcl⟩, fun j hj => ?_⟩
      rw [hcell j]; simp [Value.cells]
    | false =>
      simp at h0
      obtain ⟨c, rfl⟩ : ∃ c, xs = [c] := by
        match xs, hl1 with
        | [c], _ => exact ⟨c, rfl⟩
        | [], hl1 => simp only [List.length_nil] at hl1; omega
        | _ :: _ :: _, hl1 => simp only [List.length_cons] at hl1; omega
      obtain ⟨u, us, rfl, hu, hf, hus⟩ := hcl
      have hfl := hf rfl
      refine ⟨x, 0, u, rfl, hno, hlt, ?_, hu, fun j hj => ?_⟩
      · cases c with
        | tup l => obtain ⟨z, rfl, _⟩ := hu; simp [flat] at hfl
        | _ => rfl
      · rw [hcell j, cells_flat hfl]
        rw [cells_flat hfl] at hj
        simp at hj; subst hj; rfl
  · exact other hx h

theorem closeCapsK_sound : ∀ {caps : List AVal} {ags : List Bool} {b : List Blk} {vs : List Value} {K : List CVal → List Blk → Option R'}, Rel F w μ b → AsRel (Or F (Own μ b)) w μ b false caps vs → closeCapsK b ags caps K = some r →
    ∃ cs b', K cs b' = some r ∧ Sub b' b ∧ Upd F w μ b w μ b' ∧ Rel F w μ b' ∧ CsRel (Or F (Own μ b')) w false cs vs
  | [], ags, b, vs, K, R, ha, h => by
    have hv : vs = [] := ha
    subst hv
    have h' : K [] b = some r := by cases ags <;> exact h
    exact ⟨[], b, h', .refl _, .refl R, R, rfl⟩
  | x :: l, [], b, vs, K, R, ha, h => by cases h
  | x :: l, ag :: ags, b, vs, K, R, ha, h => by
    obtain ⟨u, us, rfl, hu, _, hus⟩ := ha
    obtain ⟨c, b1, h, s1, U1, R1, hc⟩ := closeRK_sound R hu h
    obtain ⟨cs, b2, h, s2, U2, R2, hcs⟩ := closeCapsK_sound R1 (AsRel.upd U1 hus) h
    exact ⟨c :: cs, b2, h, s2.trans s1, U1.trans U2, R2, u, us, rfl, CRel.keep U2.keep hc, by simp, hcs⟩

theorem roOp_val {E : Env} {o : Oper} {t : List AVal} {c : Call} {f : Operand} (ho : o.op = .call c) (hc : c.callee = .value f) (hne : ∀ g, f ≠ .func g) : roOp E o t = (match evalA t f with
      | .v d => pureV E d (c.args.toList.map (evalA t))
      | .func g caps => pureArgs E g 0 (c.args.toList.map (evalA t) ++ caps)
      | _ => false) := by
  unfold roOp
  cases f with
  | func g => exact absurd rfl (hne g)
  | _ => simp only [ho, hc]; rfl

theorem opK_sound {E : Env} {C : CallT} {q : Nat} {o : Oper} {t : List AVal} {a : Act} {K : AVal → List Blk → Option R'} (hP : E.P = P) (R : Rel F w μ b) (hq : Free μ b q)
    (ht : TRel (Or F (Own μ b)) w μ b t a)
    (hcall : ∀ g args vs, callK E C q g args b K = some r → AsRel (Or F (Own μ b)) w μ b false args vs → CallGoes P F w μ b K r g vs (pureArgs E g 0 args))
    (hap : ∀ c cs, apF C c cs (fun y => K (.v y) b) = some r → ∃ g caps, c = .func g caps ∧ ∀ vs, AsRel (Or F (Own μ b)) w μ b false ((cs ++ caps).map .v) vs → CallGoes P F w μ b K r g vs true)
    (h : opK E C q o t b K = some r) : Goes P F w μ b K r o a (roOp E o t) := by
  subst hP
  unfold opK at h
  split at h
  · -- move
    rename_i x ho
    exact .ofVal R h (ht.eval x) (by simp [execOp, ho])
  · rename_i x ho
    exact .ofVal R h (ht.eval x) (by simp [execOp, ho])
  · -- pick
    rename_i c x y ho
    obtain ⟨g, hg, h⟩ := wBool_sound (ht.eval c) h
    have hx := ht.eval x
    have hy := ht.eval y
    have hrun : (execOp a.eval o).run E.P w = .ok (.value (if g then a.eval x else a.eval y)) w := by simp [execOp, ho, hg, asBool]
    split at h
    · rename_i p s e1 e2
      rw [e1] at hx; rw [e2] at hy
      refine .ofVal R h ?_ hrun
      cases g
      · exact hy
      · exact hx
    · cases g
      · rcases br_some h with ⟨h, _⟩ | ⟨_, h⟩
        · cases h
        exact .ofVal R h hy hrun
      · rcases br_some h with ⟨_, h⟩ | ⟨h, _⟩
        · exact .ofVal R h hx hrun
        · cases h
  · -- alloc
    rename_i e ho
    obtain ⟨z, hz, h⟩ := bind_some' h
    obtain ⟨zv, hzr, hzrel⟩ := zeroT_spec (P := E.P) (N := Or F (Own μ b)) (w := w) (μ := μ) (b := b) hz
    obtain ⟨cs, vs, h, hcs, hvs, _, _, _⟩ := wCells_sound hzrel h
    obtain ⟨μ', hp⟩ := box_post (e := e) R hq hcs
    refine .ofActs (ro := false) ⟨_, _, h, by simp, _, _, μ', ?_, hp⟩ (S := Instr.alloc e true (.tuple #[])) (by simp [execOp, ho]) (by simp [roOp, ho])
    simp only [Instr.alloc, Sem.run_bind, hzr, Result.andThen_ok]
    simp [newVar, newRow, hvs]
    rfl
  · -- box
    rename_i e x ho
    obtain ⟨cs, vs, h, hcs, hvs, _, _, _⟩ := wCells_sound (ht.eval x) h
    obtain ⟨μ', hp⟩ := box_post (e := e) R hq hcs
    split at h
    · rename_i ag hfr
      obtain ⟨c, b', h, s1, U1, R1, hc⟩ := closeRK_sound hp.rel hp.val h
      refine .ofActs (ro := false) ⟨_, _, h, by simp, _, _, μ', ?_, ⟨hp.upd.trans U1, R1, hc, hp.fr⟩⟩ (S := Instr.box e (a.eval x)) (by simp [execOp, ho]) (by simp [roOp, ho])
      simp [Instr.box, newVar, newRow, hvs]
      rfl
    · refine .ofActs (ro := false) ⟨_, _, h, by simp, _, _, μ', ?_, hp⟩ (S := Instr.box e (a.eval x)) (by simp [execOp, ho]) (by simp [roOp, ho])
      simp [Instr.box, newVar, newRow, hvs]
      rfl
  · -- build
    rename_i ty ps ho
    obtain ⟨pv, hpv, hparts⟩ := mapParts_rel ht ps
    exact .ofYld R (buildK_sound hparts h) (by simp only [execOp, ho]; rw [hpv])
  · rename_i ty n ps ho
    obtain ⟨pv, hpv, hparts⟩ := mapParts_rel ht ps
    exact .ofActs (buildSliceK_sound R hq hparts h) (by simp only [execOp, ho]; rw [hpv]) (by simp [roOp, ho])
  · -- load
    rename_i ty x ho
    exact .ofYld R (loadK_sound R (ht.eval x) h) (by simp only [execOp, ho])
  · -- store
    rename_i ty x y ho
    obtain ⟨b', hK, w', μ', hr, hp⟩ := storeK_sound R (ht.eval x) (ht.eval y) h
    refine ⟨_, b', hK, by simp [roOp, ho], fun next Q hn => ?_⟩
    unfold Oper.wp
    simp only [execOp, ho, Sem.run_bind, hr, Result.andThen_ok, Sem.run_pure, Oper.upon_skip]
    exact hn _ _ _ (hp _)
  · -- nilCheck
    rename_i x ho
    have hx := ht.eval x
    split at h
    · rename_i i off e1
      rw [e1] at hx
      refine .ofVal R h hx ?_
      obtain ⟨z, _, hv⟩ := hx
      simp [execOp, ho, hv]
    · rename_i i ver idx off e1
      rw [e1] at hx
      refine .ofVal R h hx ?_
      obtain ⟨⟨z, hv⟩, _⟩ := hx
      simp [execOp, ho, hv]
    · rename_i c e1
      rw [e1] at hx
      obtain ⟨p, hp, h⟩ := bind_some' h
      have := asFp_sound hx hp
      subst this
      refine .ofVal R h hx ?_
      obtain ⟨z, o', u, hv, _⟩ := hx
      simp [execOp, ho, hv]
    · cases h
  · -- binOp
    rename_i op xt x y yt ho
    split at h
    · split at h
      · rename_i yo yc
        exact .ofYld R (eqK_sound (ox := x) (oy := .const yc) (ht.eval x) (ht.eval _) ⟨_, rfl⟩ h) (by simp only [execOp, ho])
      · cases h
    · exact .ofYld R (binK_sound (ox := x) (oy := y) (ht.eval x) (ht.eval y) h) (by simp only [execOp, ho])
  · rename_i op xt x ho
    exact .ofYld R (unK_sound (ht.eval x) h) (by simp only [execOp, ho])
  · rename_i s d x ho
    exact .ofActs (convertK_sound R (ht.eval x) h) (by simp only [execOp, ho]) (fun _ => rfl)
  · -- makeFunc
    rename_i g first caps ho
    obtain ⟨h0, h⟩ := br_none h
    have hfirst : first = #[] := by simpa using h0
    subst hfirst
    have hargs := args_rel ht caps.toList
    have hrun : (execOp a.eval o).run E.P w = .ok (.value (.func (.func g) #[] (List.toArray (caps.toList.map a.eval)))) w := by
      simp [execOp, ho, Instr.makeFunc]
      apply Array.ext'; simp
    split at h
    · rename_i ags hfr
      obtain ⟨cs, b', h, s1, U1, R1, hcs⟩ := closeCapsK_sound R hargs h
      refine ⟨_, b', h, fun hro => ?_, fun next Q hn => ?_⟩
      · simp [roOp, ho, keepsF, hfr] at hro
      · unfold Oper.wp
        rw [hrun]
        simp only [Oper.upon_value]
        exact hn _ _ μ ⟨U1, R1, ⟨_, rfl, hcs⟩, .refl _ _⟩
    · split at h
      · rename_i cs hcs
        exact .ofVal R h ⟨_, rfl, allV_rel hcs hargs⟩ hrun
      · exact .ofVal R h ⟨_, rfl, hargs⟩ hrun
  · rename_i ty n m ho
    exact .ofActs (makeSliceK_sound R hq (ht.eval n) (ht.eval m) h) (by simp only [execOp, ho]) (by simp [roOp, ho])
  · -- slice
    rename_i ty x lo hi mx ho
    refine .ofActs (sliceK_sound (vlo := lo.map a.eval) (vhi := hi.map a.eval) (vmx := mx.map a.eval) R (ht.eval x) ?_ ?_ ?_ ?_ ?_ h) (by simp only [execOp, ho]) (by simp [roOp, ho])
    · intro z hz
      cases lo <;> simp at hz
      subst hz
      exact ⟨_, rfl, ht.eval _⟩
    · cases lo <;> simp
    · intro z hz
      cases hi <;> simp at hz
      subst hz
      exact ⟨_, rfl, ht.eval _⟩
    · cases hi <;> simp
    · cases mx <;> simp
  · rename_i ty x f ho
    exact .ofYld R (fieldK_sound (ht.eval x) h) (by simp only [execOp, ho])
  · rename_i ty x ix ho
    exact .ofYld R (indexAddrK_sound R (ht.eval x) (ht.eval ix) h) (by simp only [execOp, ho])
  · rename_i ty x ix ho
    exact .ofYld R (indexK_sound (ht.eval x) (ht.eval ix) h) (by simp only [execOp, ho])
  · -- extract
    rename_i x i ho
    have hx := ht.eval x
    split at h
    · rename_i c e1
      rw [e1] at hx
      obtain ⟨cs, hcs, g⟩ := bind_some' h
      clear h
      cases c <;> simp [CVal.asTup] at hcs
      subst hcs
      obtain ⟨d, hd, h⟩ := bind_some' g
      obtain ⟨vs, hv, hr⟩ := hx
      obtain ⟨u, hu, hr, _⟩ := hr.get hd
      refine .ofVal R h hr ?_
      simp [execOp, ho, hv, Instr.extract, hu]
    · rename_i cs e1
      rw [e1] at hx
      obtain ⟨d, hd, h⟩ := bind_some' h
      obtain ⟨vs, hv, hr⟩ := hx
      obtain ⟨u, hu, hr, _⟩ := hr.get hd
      refine .ofVal R h hr ?_
      simp [execOp, ho, hv, Instr.extract, hu]
    · cases h
  · -- call
    rename_i c ho
    split at h
    · rename_i g hc
      have hargs := args_rel ht c.args.toList
      obtain ⟨y, b', hK, hro, hgo⟩ := hcall g _ _ h hargs
      refine ⟨y, b', hK, fun h => hro (by simpa [roOp, ho, hc] using h), fun next Q hn => hgo o a next Q ?_ hn⟩
      simp [execOp, ho, resolve, hc, Act.eval, Deferred.ofValue, invoke]
      congr 2
      apply Array.ext'; simp
    · rename_i f hne hc
      have hne : ∀ g, f ≠ .func g := by assumption
      have hf := ht.eval f
      have hargs := args_rel ht c.args.toList
      split at h
      · rename_i d e1
        rw [e1] at hf
        rcases callV_some h with ⟨cs, hcs, h2⟩ | ⟨hno, g, caps, rfl, h2⟩
        · obtain ⟨g, caps, rfl, h3⟩ := hap d cs h2
          obtain ⟨vs, hv, hcr⟩ := hf
          have hall := hargs.append (AsRel.ofC (μ := μ) (b := b) (hcr.weak))
          rw [hcs, ← List.map_append] at hall
          obtain ⟨y, b', hK, hro, hgo⟩ := h3 _ hall
          refine ⟨y, b', hK, fun h => hro rfl, fun next Q hn => hgo o a next Q ?_ hn⟩
          simp [execOp, ho, resolve, hc, hv, Deferred.ofValue, invoke]
          congr 2
          apply Array.ext'; simp
        · obtain ⟨vs, hv, hcs⟩ := hf
          have hall := hargs.append (AsRel.ofC (μ := μ) (b := b) (hcs.weak))
          obtain ⟨y, b', hK, hro, hgo⟩ := hcall g _ _ h2 hall
          refine ⟨y, b', hK, fun h => hro (by simpa [roOp_val ho hc hne, e1, pureV, hno] using h), fun next Q hn => hgo o a next Q ?_ hn⟩
          simp [execOp, ho, resolve, hc, hv, Deferred.ofValue, invoke]
          congr 2
          apply Array.ext'; simp
      · rename_i g caps e1
        rw [e1] at hf
        obtain ⟨vs, hv, hcs⟩ := hf
        have hall := hargs.append hcs.weak
        obtain ⟨y, b', hK, hro, hgo⟩ := hcall g _ _ h hall
        refine ⟨y, b', hK, fun h => hro (by simpa [roOp_val ho hc hne, e1] using h), fun next Q hn => hgo o a next Q ?_ hn⟩
        simp [execOp, ho, resolve, hc, hv, Deferred.ofValue, invoke]
        congr 2
        apply Array.ext'; simp
      · cases h
    · -- len
      rename_i hc
      split at h
      · rename_i x ty rest hx hty
        have hargs : c.args.map a.eval = #[a.eval x] := by apply Array.ext'; simp [hx]
        refine .ofYld R (lenK_sound (ts := c.argTypes) (out := o.type) R (ht.eval x) (by rw [← Array.getElem?_toList, hty]; rfl) h) ?_
        simp [execOp, ho, resolve, hc, invoke, hargs, builtin]
      · cases h
    · -- append
      rename_i hc
      split at h
      · rename_i x y ty ty2 hx hty
        have hargs : c.args.map a.eval = #[a.eval x, a.eval y] := by apply Array.ext'; simp [hx]
        have hts : c.argTypes = #[ty, ty2] := by apply Array.ext'; simp [hty]
        refine .ofActs (appendK_sound (out := o.type) R hq (ht.eval x) (ht.eval y) h) ?_ (by simp [roOp, ho, hc])
        simp [execOp, ho, resolve, hc, invoke, hargs, builtin, hts]
      · cases h
    · rename_i hc
      split at h
      · rename_i x y hx
        have hargs : c.args.map a.eval = #[a.eval x, a.eval y] := by apply Array.ext'; simp [hx]
        obtain ⟨k, _, h⟩ := bind_some' h
        obtain ⟨m, hm, h⟩ := wInt_sound (ht.eval x) h
        obtain ⟨n, hn, h⟩ := wInt_sound (ht.eval y) h
        refine .ofVal R h (v := .int k (if n > m then n else m)) ?_ ?_
        · by_cases hlt : m < n <;> simp [ARel, CRel, hlt]
        · simp [execOp, ho, resolve, hc, invoke, hargs, builtin, Builtin.max_, hm, hn, Builtin.max2]
      · cases h
    · rename_i hc
      split at h
      · rename_i x y hx
        have hargs : c.args.map a.eval = #[a.eval x, a.eval y] := by apply Array.ext'; simp [hx]
        obtain ⟨k, _, h⟩ := bind_some' h
        obtain ⟨m, hm, h⟩ := wInt_sound (ht.eval x) h
        obtain ⟨n, hn, h⟩ := wInt_sound (ht.eval y) h
        refine .ofVal R h (v := .int k (if n < m then n else m)) ?_ ?_
        · by_cases hlt : n < m <;> simp [ARel, CRel, hlt]
        · simp [execOp, ho, resolve, hc, invoke, hargs, builtin, Builtin.min_, hm, hn, Builtin.min2]
      · cases h
    · cases h
  · cases h
end
end Go.Proofs.YtomkegeojknihaaDoor.Abs

/-! What is handed over at a call. -/
namespace Go.Proofs.YtomkegeojknihaaDoor.Abs
open Go
variable [Glob]

section
variable {P : Program} {w : World} {F N M : Nat → Prop} {μ : List Hd} {b : List Blk} {R' : Type} {r : R'}


theorem promo_sound {E : Env} {g : FuncId} {q : Nat} : ∀ {used : Bool} {j : Nat} {args : List AVal} {b : List Blk} {μ : List Hd} {vs : List Value} {K : List AVal → List Blk → Option R'},
    (used = false → Free μ b q) → Rel F w μ b → AsRel (Or F (Own μ b)) w μ b false args vs → promo E g q used j args b K = some r →
    ∃ args1 b1 μ1, K args1 b1 = some r ∧ Upd F w μ b w μ1 b1 ∧ Rel F w μ1 b1 ∧ AsRel (Or F (Own μ1 b1)) w μ1 b1 false args1 vs ∧ (pureArgs E g j args = true → b1 = b ∧ args1 = args)
  | used, j, [], b, μ, vs, K, hq, R, ha, h => ⟨[], b, μ, h, .refl R, R, ha, fun _ => ⟨rfl, rfl⟩⟩
  | used, j, x :: rest, b, μ, vs, K, hq, R, ha, h => by
    obtain ⟨u, us, rfl, hx, _, ha⟩ := ha
    have other : ∀ {x : AVal}, ARel (Or F (Own μ b)) w μ b x u → (promo E g q used (j + 1) rest b fun l b => K (x :: l) b) = some r →
        ∃ args1 b1 μ1, K args1 b1 = some r ∧ Upd F w μ b w μ1 b1 ∧ Rel F w μ1 b1 ∧ AsRel (Or F (Own μ1 b1)) w μ1 b1 false args1 (u :: us) ∧ (pureArgs E g j (x :: rest) = true → b1 = b ∧ args1 = x :: rest) := by
      intro x hx h
      obtain ⟨args1, b1, μ1, h, U, R1, ha1, hp⟩ := promo_sound hq R ha h
      refine ⟨_, b1, μ1, h, U, R1, ⟨_, _, rfl, ARel.upd U hx, by simp, ha1⟩, fun hpu => ?_⟩
      have : pureArgs E g (j + 1) rest = true := by
        cases x <;> simp [pureArgs] at hpu <;> first | exact hpu | exact hpu.2
      exact ⟨(hp this).1, by rw [(hp this).2]⟩
    cases x with
    | nl =>
      simp only [promo] at h
      rcases br_some h with ⟨hpass, h⟩ | ⟨_, h⟩
      · rcases br_some h with ⟨_, h⟩ | ⟨hu, h⟩
        · cases h
        have hf := hq hu
        obtain ⟨base, rfl⟩ := hx
        have hown : ∀ x, (Hd.arr base 0 0 (szParam E.P g j)).own = some x → False := by
          intro x hx; cases base <;> simp [Hd.own] at hx
        have hp := new_post (F := F) (w := w) (w' := w) (q := q) (blk := ⟨0, .arr (szParam E.P g j) []⟩) (h := .arr base 0 0 (szParam E.P g j)) (x := .lref q 0) (v := .slice base 0 0)
          R hf (Nat.le_refl _) (fun _ _ => rfl) (fun x hx => (hown x hx).elim) rfl rfl rfl (fun U => ⟨base, 0, rfl, Nat.le_refl _, .inl rfl⟩)
          ⟨rfl, _, _, putNew_at hf.le, putH_at (by rw [R.len]; exact hf.le), by simp, Nat.le_refl _, fun _ _ => rfl⟩
        obtain ⟨args1, b1, μ1, h, U, R1, ha1, _⟩ := promo_sound (used := true) (by simp) hp.rel (AsRel.upd hp.upd ha) h
        exact ⟨_, b1, μ1, h, hp.upd.trans U, R1, ⟨_, _, rfl, ARel.upd U hp.val, by simp, ha1⟩, fun hpu => by simp [pureArgs] at hpu; simp [hpu.1] at hpass⟩
      · exact other hx h
    | _ => simp only [promo] at h; exact other hx h

/-! Arguments as the callee sees them. -/
def hsOf (μ : List Hd) (ids : List Nat) : List Hd := ids.map fun i => (μ[i]?).getD .none

def HA1 (M : Nat → Prop) (w : World) (hs : List Hd) : AVal → Value → Prop
  | .v c, v => CRel M w c v
  | .lptr j o, v => o = 0 ∧ ∃ x, hs[j]? = some (.box x) ∧ v = .pointer (some (pl x 0))
  | _, _ => False
def HAs1 (M : Nat → Prop) (w : World) (hs : List Hd) : List AVal → List Value → Prop
  | [], vs => vs = []
  | x :: r, vs => ∃ u us, vs = u :: us ∧ HA1 M w hs x u ∧ HAs1 M w hs r us
def HA (M : Nat → Prop) (w : World) (hs : List Hd) : AVal → Value → Prop
  | .lref j ver, v => ver = 0 ∧ ∃ base len cap sz, hs[j]? = some (.arr base len cap sz) ∧ v = .slice base len cap
  | .func g cs, v => ∃ vs : List Value, v = .func (.func g) #[] vs.toArray ∧ HAs1 M w hs cs vs
  | x, v => HA1 M w hs x v
def HAs (M : Nat → Prop) (w : World) (hs : List Hd) : List AVal → List Value → Prop
  | [], vs => vs = []
  | x :: r, vs => ∃ u us, vs = u :: us ∧ HA M w hs x u ∧ HAs M w hs r us

theorem HA.of1 {hs : List Hd} {x : AVal} {v : Value} (h : HA1 M w hs x v) : HA M w hs x v := by
  cases x <;> first | exact h | exact h.elim

theorem idxOf_some : ∀ {ids : List Nat} {i j : Nat}, idxOf ids i = some j → ids[j]? = some i
  | [], _, _, h => by simp [idxOf] at h
  | k :: r, i, j, h => by
    simp only [idxOf] at h
    rcases br_some h with ⟨h1, h2⟩ | ⟨_, h⟩
    · simp at h1 h2; subst h1 h2; rfl
    · cases hr : idxOf r i with
      | none => simp [hr] at h
      | some j' => simp [hr] at h; subst h; simpa using idxOf_some hr
theorem idxOf_none : ∀ {ids : List Nat} {i : Nat}, idxOf ids i = none → i ∉ ids
  | [], _, _ => by simp
  | k :: r, i, h => by
    simp only [idxOf] at h
    cases hk : k == i with
    | true => simp [hk, br] at h
    | false =>
      simp [hk, br] at h
      simp only [List.mem_cons, not_or]
      exact ⟨fun e => by simp [e] at hk, idxOf_none h⟩

structure HStep (F : Nat → Prop) (w : World) (μ : List Hd) (h h' : Hand) : Prop where
  ext : ∃ e, h'.ids = h.ids ++ e
  nodup : h.ids.Nodup → h'.ids.Nodup
  sub : Sub h'.b h.b
  upd : Upd F w μ h.b w μ h'.b
  rel : Rel F w μ h'.b
  args : h'.args = h.args

theorem HStep.refl {h : Hand} (R : Rel F w μ h.b) : HStep F w μ h h := ⟨⟨[], by simp⟩, id, .refl _, .refl R, R, rfl⟩
theorem HStep.trans {h h' h'' : Hand} (x : HStep F w μ h h') (y : HStep F w μ h' h'') : HStep F w μ h h'' := by
  obtain ⟨e, he⟩ := x.ext
  obtain ⟨e', he'⟩ := y.ext
  exact ⟨⟨e ++ e', by rw [he', he, List.append_assoc]⟩, fun n => y.nodup (x.nodup n), y.sub.trans x.sub, x.upd.trans y.upd, y.rel, y.args.trans x.args⟩

theorem nodup_snoc {ids : List Nat} {i : Nat} (h : i ∉ ids) (n : ids.Nodup) : (ids ++ [i]).Nodup := by
  rw [List.nodup_append]
  exact ⟨n, by simp, by intro a ha b hb; simp at hb; subst hb; intro e; subst e; exact h ha⟩

theorem hs_at {ids e : List Nat} {i j : Nat} {hd : Hd} (h : ids[j]? = some i) (hm : μ[i]? = some hd) : (hsOf μ (ids ++ e))[j]? = some hd := by
  unfold hsOf
  rw [List.getElem?_map, List.getElem?_append_left (List.getElem?_eq_some_iff.1 h).1, h]
  simp [hm]

theorem handPtr_sound {h : Hand} {i : Nat} {x : Nat} {K : AVal → Hand → Option R'} (R : Rel F w μ h.b) (hm : μ[i]? = some (.box x)) (hh : handPtr h i K = some r) :
    ∃ a h', K a h' = some r ∧ HStep F w μ h h' ∧ h'.b = h.b ∧ ∀ M e, HA1 M w (hsOf μ (h'.ids ++ e)) a (.pointer (some (pl x 0))) := by
  unfold handPtr at hh
  split at hh
  · rename_i j hj
    exact ⟨_, _, hh, .refl R, rfl, fun M e => ⟨rfl, x, hs_at (idxOf_some hj) hm, rfl⟩⟩
  · rename_i hj
    refine ⟨_, _, hh, ⟨⟨[i], rfl⟩, nodup_snoc (idxOf_none hj), .refl _, .refl R, R, rfl⟩, rfl, fun M e => ⟨rfl, x, hs_at (i := i) (by simp) hm, rfl⟩⟩

theorem handCaps_sound : ∀ {caps : List AVal} {h : Hand} {vs : List Value} {fl : Bool} {K : List AVal → Hand → Option R'}, Rel F w μ h.b → AsRel (Or F (Own μ h.b)) w μ h.b fl caps vs → handCaps caps h K = some r →
    ∃ l h', K l h' = some r ∧ HStep F w μ h h' ∧ h'.b = h.b ∧ ∀ (M : Nat → Prop) e, (∀ x, M x → Or F (Own μ h.b) x) → HAs1 M w (hsOf μ (h'.ids ++ e)) l vs
  | [], h, vs, fl, K, R, ha, hh => ⟨[], h, hh, .refl R, rfl, fun M e _ => ha⟩
  | x :: rest, h, vs, fl, K, R, ha, hh => by
    obtain ⟨u, us, rfl, hx, _, ha⟩ := ha
    cases x with
    | v c =>
      simp only [handCaps] at hh
      obtain ⟨l, h', hh, hs, hb, hl⟩ := handCaps_sound R ha hh
      exact ⟨_, h', hh, hs, hb, fun M e hM => ⟨u, us, rfl, CRel.keep (Keep.sub hM) hx, hl M e hM⟩⟩
    | lptr i off =>
      cases off with
      | zero =>
        simp only [handCaps] at hh
        obtain ⟨x, hm, rfl⟩ := hx
        obtain ⟨a, h1, hh, hs1, hb1, hp⟩ := handPtr_sound R hm hh
        obtain ⟨l, h', hh, hs, hb, hl⟩ := handCaps_sound hs1.rel (by rw [hb1]; exact ha) hh
        obtain ⟨e1, he1⟩ := hs.ext
        exact ⟨_, h', hh, hs1.trans hs, hb.trans hb1, fun M e hM => ⟨_, us, rfl, by rw [he1, List.append_assoc]; exact hp M _, hl M e (by rw [hb1]; exact hM)⟩⟩
      | succ n => simp [handCaps] at hh
    | _ => simp [handCaps] at hh

def isRef : AVal → Bool
  | .lref _ _ => true
  | _ => false

def pureA (m : PM) : AVal → Bool
  | .v _ => true
  | .nl => true
  | .lref _ _ => decide (m = .bor)
  | .agg cs => cs.all closedV
  | _ => false

theorem killL_closed : ∀ {cs : List AVal} {b : List Blk}, cs.all closedV = true → killL cs b = b
  | [], _, _ => rfl
  | x :: r, b, h => by
    simp only [List.all_cons, Bool.and_eq_true] at h
    cases x with
    | v c => exact killL_closed (cs := r) (b := b) h.2
    | nl => exact killL_closed (cs := r) (b := b) h.2
    | _ => simp [closedV] at h

theorem handA_sound {m : PM} {x : AVal} {h : Hand} {v : Value} {K : AVal → Hand → Option R'} (R : Rel F w μ h.b) (hx : ARel (Or F (Own μ h.b)) w μ h.b x v) (hh : handA m x h K = some r) :
    ∃ a h', K a h' = some r ∧ HStep F w μ h h' ∧ (pureA m x = true → h' = h) ∧ ∀ (M : Nat → Prop) e, (∀ x, M x → Or F (Own μ h'.b) x) → (m = .bor → isRef x = true → ∀ x, M x → F x) → HA M w (hsOf μ (h'.ids ++ e)) a v := by
  cases x with
  | v c => exact ⟨_, _, hh, .refl R, fun _ => rfl, fun M e hM _ => CRel.keep (Keep.sub hM) hx⟩
  | nl =>
    obtain ⟨base, rfl⟩ := hx
    exact ⟨_, _, hh, .refl R, fun _ => rfl, fun M e hM _ => ⟨base, 0, rfl, Nat.le_refl _, .inl rfl⟩⟩
  | lref i ver =>
    simp only [handA] at hh
    obtain ⟨xs, hxs, hh⟩ := bind_some' hh
    obtain ⟨sz, base, cap, hb, hm, hl, hc⟩ := R.arr hxs
    have hx0 := hx
    obtain ⟨_, blk, hd, hb', hm', _, _, hcur⟩ := hx
    rw [hb] at hb'; cases hb'
    rw [hm] at hm'; cases hm'
    have hv := hcur rfl rfl
    subst hv
    split at hh
    · split at hh
      · cases hh
      · rename_i hj
        exact ⟨_, _, hh, ⟨⟨[i], rfl⟩, nodup_snoc (idxOf_none hj), .refl _, .refl R, R, rfl⟩, by simp [pureA], fun M e _ _ => ⟨rfl, base, xs.length, cap, sz, hs_at (i := i) (by simp) hm, rfl⟩⟩
    · refine ⟨_, _, hh, .refl R, fun _ => rfl, fun M e hM hF => ?_⟩
      refine ⟨base, cap, rfl, hl, ?_⟩
      rcases hc with hc | ⟨z, cells, ee, rfl, hw, hz, he⟩
      · left; exact List.length_eq_zero_iff.1 (by omega)
      · by_cases h0 : cap = 0
        · left; exact List.length_eq_zero_iff.1 (by omega)
        · have hown : Own μ h.b z := ⟨i, _, _, hb, rfl, hm, by simp [Hd.own, h0, pl]⟩
          have hfr := R.fres z hown
          exact .inr ⟨z, 0, sz, rfl, fun k => hfr.1 (hF rfl rfl z k), hfr.2, ElRel.keepAt (Keep.sub hM) rfl he⟩
    · obtain ⟨U, R1⟩ := kill_upd R i
      have hcl := closeA_sound R (kill_sub h.b i) (x := .lref i ver) (c := .sl xs) (by simp [closeA, hxs]) hx0 (fun blk hb => kill_dead hb)
      exact ⟨_, _, hh, ⟨⟨[], by simp⟩, id, kill_sub _ _, U, R1, rfl⟩, by simp [pureA], fun M e hM _ => CRel.keep (Keep.sub hM) hcl⟩
  | lptr i off =>
    cases off with
    | zero =>
      obtain ⟨x, hm, rfl⟩ := hx
      obtain ⟨a, h', hh, hs, _, hp⟩ := handPtr_sound R hm hh
      exact ⟨a, h', hh, hs, by simp [pureA], fun M e _ _ => .of1 (hp M e)⟩
    | succ n => simp [handA] at hh
  | func g caps =>
    obtain ⟨vs, rfl, hc⟩ := hx
    obtain ⟨l, h', hh, hs, hb, hl⟩ := handCaps_sound R hc hh
    exact ⟨_, h', hh, hs, by simp [pureA], fun M e hM _ => ⟨vs, rfl, hl M e (by rw [← hb]; exact hM)⟩⟩
  | agg cs =>
    simp only [handA] at hh
    obtain ⟨l, hl, hh⟩ := bind_some' hh
    obtain ⟨vs, rfl, hc⟩ := hx
    obtain ⟨U, R1⟩ := killL_upd cs R
    have hcl := closeL_sound R (killL_sub cs h.b) hl hc (killL_dead cs h.b)
    exact ⟨_, _, hh, ⟨⟨[], by simp⟩, id, killL_sub _ _, U, R1, rfl⟩, fun hp => by rw [killL_closed hp], fun M e hM _ => ⟨vs, rfl, CsRel.keep (Keep.sub hM) hcl⟩⟩
  | _ => simp [handA] at hh

theorem handAll_sound {E : Env} {g : FuncId} : ∀ {args : List AVal} {j : Nat} {h : Hand} {vs : List Value} {K : Hand → Option R'}, Rel F w μ h.b → AsRel (Or F (Own μ h.b)) w μ h.b false args vs →
    handAll (E.pm g) j args h K = some r →
    ∃ (h' : Hand) (l : List AVal), K h' = some r ∧ HStep F w μ h ⟨h.args, h'.ids, h'.b⟩ ∧ h'.args = h.args ++ l ∧ (pureArgs E g j args = true → h'.ids = h.ids ∧ h'.b = h.b) ∧
      ∀ (M : Nat → Prop) e, (∀ x, M x → Or F (Own μ h'.b) x) → (borrows E g j args = true → ∀ x, M x → F x) → HAs M w (hsOf μ (h'.ids ++ e)) l vs
  | [], j, h, vs, K, R, ha, hh => ⟨h, [], hh, .refl R, by simp, fun _ => ⟨rfl, rfl⟩, fun M e _ _ => ha⟩
  | x :: rest, j, h, vs, K, R, ha, hh => by
    obtain ⟨u, us, rfl, hx, _, ha⟩ := ha
    simp only [handAll] at hh
    obtain ⟨a, h1, hh, hs1, hpu1, hp⟩ := handA_sound R hx hh
    obtain ⟨h', l, hh, hs, hargs, hpu, hl⟩ := handAll_sound (h := ⟨h1.args ++ [a], h1.ids, h1.b⟩) hs1.rel (AsRel.upd hs1.upd ha) hh
    obtain ⟨e1, he1⟩ := hs.ext
    refine ⟨h', a :: l, hh, ⟨?_, fun n => hs.nodup (hs1.nodup n), hs.sub.trans hs1.sub, hs1.upd.trans hs.upd, hs.rel, rfl⟩, by rw [hargs]; simp [hs1.args], fun hh => ?_, fun M e hM hb => ⟨u, us, rfl, ?_, hl M e hM fun hb' => hb ?_⟩⟩
    · obtain ⟨e0, he0⟩ := hs1.ext
      exact ⟨e0 ++ e1, by rw [he1]; simp [he0]⟩
    · have h2 : pureA (E.pm g j) x = true ∧ pureArgs E g (j + 1) rest = true := by
        cases x <;> simp [pureArgs] at hh <;> first | exact ⟨rfl, hh⟩ | exact ⟨rfl, hh.2⟩ | exact ⟨by simpa [pureA] using hh.1, hh.2⟩
      obtain ⟨h3, h4⟩ := hpu h2.2
      have := hpu1 h2.1
      subst this
      exact ⟨h3, h4⟩
    · simp only at he1
      rw [he1, List.append_assoc]
      refine hp M _ (fun x hx => (hM x hx).imp id fun ho => hs.sub.own ho) fun hm hr => hb ?_
      unfold borrows
      cases x <;> simp [isRef] at hr
      simp [hm]
    · unfold borrows; simp [hb']
end
end Go.Proofs.YtomkegeojknihaaDoor.Abs

/-! Calls. -/
namespace Go.Proofs.YtomkegeojknihaaDoor.Abs
open Go
variable [Glob]

section
variable {P : Program} {w : World} {F N M : Nat → Prop} {μ : List Hd} {b : List Blk} {R' : Type} {r : R'}

/-- The contents that are handed over, as they stand at last. -/
def PBok (F : Nat → Prop) (w : World) (μ : List Hd) (b : List Blk) (i : Nat) (p : PB) : Prop :=
  ∃ blk, b[i]? = some blk ∧ ((∃ sz xs, p = ⟨true, sz, xs⟩ ∧ blk.body = .arr sz xs) ∨
    (∃ cs xs, p = ⟨false, 0, xs⟩ ∧ blk.body = .box cs ∧ ∃ x vs e, μ[i]? = some (.box x) ∧ w.heap[x]? = some (.cells (List.toArray vs) e (0, 0)) ∧
      ∀ (M : Nat → Prop), (∀ x, M x → Or F (Own μ b) x) → CsRel M w true xs vs))

theorem aliveAt_some {i : Nat} (h : aliveAt b i = true) : ∃ blk, b[i]? = some blk ∧ alive blk.body = true := by
  unfold aliveAt at h
  split at h
  · rename_i ver sz xs hb; exact ⟨_, hb, rfl⟩
  · rename_i ver cs hb; exact ⟨_, hb, rfl⟩
  · cases h

theorem handBlks_sound : ∀ {ids : List Nat} {b : List Blk} {K : List PB → List Blk → Option R'}, Rel F w μ b → handBlks ids b K = some r →
    ∃ pbs b3, K pbs b3 = some r ∧ Sub b3 b ∧ Upd F w μ b w μ b3 ∧ Rel F w μ b3 ∧ pbs.length = ids.length ∧ (ids = [] → b3 = b) ∧ ∀ (j i : Nat) (p : PB), ids[j]? = some i → pbs[j]? = some p → aliveAt b3 i = true → PBok F w μ b3 i p
  | [], b, K, R, h => ⟨[], b, h, .refl _, .refl R, R, rfl, fun _ => rfl, fun j i p hj _ _ => by simp at hj⟩
  | i :: rest, b, K, R, h => by
    simp only [handBlks] at h
    split at h
    · rename_i ver sz xs hb
      obtain ⟨pbs, b3, h, hs, U, R3, hl, _, hp⟩ := handBlks_sound R h
      refine ⟨_, b3, h, hs, U, R3, by simp [hl], by simp, fun j k p hj hpj ha => ?_⟩
      cases j with
      | zero =>
        simp at hj hpj; subst hj hpj
        obtain ⟨blk, hb3, hal⟩ := aliveAt_some ha
        have := hs.at_ _ _ hb3 hal
        rw [hb] at this; cases this
        exact ⟨_, hb3, .inl ⟨sz, xs, rfl, rfl⟩⟩
      | succ j => exact hp j k p (by simpa using hj) (by simpa using hpj) ha
    · rename_i ver cs hb
      obtain ⟨xs, hxs, h⟩ := bind_some' h
      obtain ⟨U0, R0⟩ := killL_upd cs R
      obtain ⟨pbs, b3, h, hs, U, R3, hl, _, hp⟩ := handBlks_sound R0 h
      refine ⟨_, b3, h, hs.trans (killL_sub cs b), U0.trans U, R3, by simp [hl], by simp, fun j k p hj hpj ha => ?_⟩
      cases j with
      | zero =>
        simp at hj hpj; subst hj hpj
        obtain ⟨blk, hb3, hal⟩ := aliveAt_some ha
        have := (hs.trans (killL_sub cs b)).at_ _ _ hb3 hal
        rw [hb] at this; cases this
        have hbox : boxOf b i = some cs := by simp [boxOf, hb]
        obtain ⟨ver', x, vs, e, _, hm, hw, har, _⟩ := R.box hbox
        have hcl := closeL_sound R (killL_sub cs b) hxs har (killL_dead cs b)
        exact ⟨_, hb3, .inr ⟨cs, xs, rfl, rfl, x, vs, e, hm, hw, fun M hM => CsRel.keep (Keep.sub fun x hx => (hM x hx).imp id fun ho => hs.own ho) hcl⟩⟩
      | succ j => exact hp j k p (by simpa using hj) (by simpa using hpj) ha
    · cases h

theorem hsOf_at {ids : List Nat} {j : Nat} {hd : Hd} (h : (hsOf μ ids)[j]? = some hd) : ∃ i, ids[j]? = some i ∧ hd = (μ[i]?).getD .none := by
  unfold hsOf at h
  rw [List.getElem?_map] at h
  cases hi : ids[j]? with
  | none => simp [hi] at h
  | some i => simp [hi] at h; exact ⟨i, rfl, h.symm⟩

theorem nodup_inj : ∀ {l : List Nat} {j k i : Nat}, l.Nodup → l[j]? = some i → l[k]? = some i → j = k
  | [], j, _, _, _, h, _ => by simp at h
  | x :: r, 0, 0, _, _, _, _ => rfl
  | x :: r, 0, k + 1, i, n, h, h' => by
    simp at h h'; subst h
    exact ((List.nodup_cons.1 n).1 (List.mem_of_getElem? h')).elim
  | x :: r, j + 1, 0, i, n, h, h' => by
    simp at h h'; subst h'
    exact ((List.nodup_cons.1 n).1 (List.mem_of_getElem? h)).elim
  | x :: r, j + 1, k + 1, i, n, h, h' => by
    have e : j = k := nodup_inj (List.nodup_cons.1 n).2 (by simpa using h) (by simpa using h')
    rw [e]

/-- What the callee may not have as data. -/
structure Hidden (F M : Nat → Prop) (μ : List Hd) (b : List Blk) (ids : List Nat) : Prop where
  low : ∀ x, F x → M x
  up : ∀ x, M x → Or F (Own μ b) x
  off : ∀ (x i : Nat) (h : Hd), M x → i ∈ ids → μ[i]? = some h → h.own ≠ some x

theorem start_at {pbs : List PB} {j : Nat} {blk : Blk} (h : (pbs.map startBlk)[j]? = some blk) : ∃ p, pbs[j]? = some p ∧ blk = startBlk p := by
  rw [List.getElem?_map] at h
  cases hp : pbs[j]? with
  | none => simp [hp] at h
  | some p => simp [hp] at h; exact ⟨p, rfl, h.symm⟩

theorem start_own {ids : List Nat} {pbs : List PB} (R : Rel F w μ b) (hl : pbs.length = ids.length) (hp : ∀ (j i : Nat) (p : PB), ids[j]? = some i → pbs[j]? = some p → PBok F w μ b i p) {x : Nat}
    (h : Own (hsOf μ ids) (pbs.map startBlk) x) : ∃ (j i : Nat) (blk : Blk) (hd : Hd), ids[j]? = some i ∧ b[i]? = some blk ∧ alive blk.body = true ∧ μ[i]? = some hd ∧ hd.own = some x := by
  obtain ⟨j, blk, hd, hb, ha, hm, ho⟩ := h
  obtain ⟨i, hi, rfl⟩ := hsOf_at hm
  obtain ⟨p, hpj, rfl⟩ := start_at hb
  obtain ⟨blk, hb3, hor⟩ := hp j i p hi hpj
  have hal : alive blk.body = true := by
    rcases hor with ⟨sz, xs, _, e⟩ | ⟨cs, xs, _, e, _⟩ <;> rw [e] <;> rfl
  cases hmi : μ[i]? with
  | none => simp [hmi, Hd.own] at ho
  | some h0 => simp [hmi] at ho; exact ⟨j, i, blk, h0, hi, hb3, hal, hmi, ho⟩

theorem callee_rel {ids : List Nat} {pbs : List PB} (R : Rel F w μ b) (hn : ids.Nodup) (hl : pbs.length = ids.length)
    (hp : ∀ (j i : Nat) (p : PB), ids[j]? = some i → pbs[j]? = some p → PBok F w μ b i p) (H : Hidden F M μ b ids) : Rel M w (hsOf μ ids) (pbs.map startBlk) := by
  have hM : ∀ x, Or M (Own (hsOf μ ids) (pbs.map startBlk)) x → Or F (Own μ b) x := by
    rintro x (hx | hx)
    · exact H.up x hx
    · obtain ⟨j, i, blk, hd, _, h1, h2, h3, h4⟩ := start_own R hl hp hx
      exact .inr ⟨i, blk, hd, h1, h2, h3, h4⟩
  refine ⟨by simp [hsOf, hl], ?_, ?_, ?_, ?_, ?_⟩
  · intro j blk hd hb hm
    obtain ⟨i, hi, rfl⟩ := hsOf_at hm
    obtain ⟨p, hpj, rfl⟩ := start_at hb
    obtain ⟨blk, hb3, hor⟩ := hp j i p hi hpj
    have hil : i < μ.length := by rw [R.len]; exact (List.getElem?_eq_some_iff.1 hb3).1
    have hmi : μ[i]? = some μ[i] := List.getElem?_eq_getElem hil
    have hB := R.blk i blk _ hb3 hmi
    rw [hmi]
    rcases hor with ⟨sz, xs, rfl, e⟩ | ⟨cs, xs, rfl, e, x, vs, ee, hm', hw, hc⟩
    · rw [e] at hB
      obtain ⟨base, cap, h1, h2, h3⟩ := hB
      refine ⟨base, cap, h1, h2, h3.imp id ?_⟩
      rintro ⟨x, cells, ee, hb, hw, hz, he⟩
      exact ⟨x, cells, ee, hb, hw, hz, ElRel.keepAt (Keep.sub hM) rfl he⟩
    · have hμ : μ[i] = .box x := by rw [hm'] at hmi; exact (Option.some.inj hmi).symm
      exact ⟨x, vs, ee, hμ, hw, AsRel.ofC (hc _ hM)⟩
  · intro j k blk blk' hd hd' x hb hb' ha ha' hm hm' ho ho'
    obtain ⟨i, hi, rfl⟩ := hsOf_at hm
    obtain ⟨i', hi', rfl⟩ := hsOf_at hm'
    obtain ⟨p, hpj, rfl⟩ := start_at hb
    obtain ⟨p', hpj', rfl⟩ := start_at hb'
    obtain ⟨blk, hb3, hor⟩ := hp j i p hi hpj
    obtain ⟨blk', hb3', hor'⟩ := hp k i' p' hi' hpj'
    have hal : alive blk.body = true := by
      rcases hor with ⟨sz, xs, _, e⟩ | ⟨cs, xs, _, e, _⟩ <;> rw [e] <;> rfl
    have hal' : alive blk'.body = true := by
      rcases hor' with ⟨sz, xs, _, e⟩ | ⟨cs, xs, _, e, _⟩ <;> rw [e] <;> rfl
    have hil : i < μ.length := by rw [R.len]; exact (List.getElem?_eq_some_iff.1 hb3).1
    have hil' : i' < μ.length := by rw [R.len]; exact (List.getElem?_eq_some_iff.1 hb3').1
    rw [List.getElem?_eq_getElem hil] at ho
    rw [List.getElem?_eq_getElem hil'] at ho'
    have := R.inj i i' blk blk' _ _ x hb3 hb3' hal hal' (List.getElem?_eq_getElem hil) (List.getElem?_eq_getElem hil') ho ho'
    subst this
    have hj := (List.getElem?_eq_some_iff.1 hi).1
    exact nodup_inj hn hi hi'
  · intro x hx
    obtain ⟨j, i, blk, hd, hi, h1, h2, h3, h4⟩ := start_own R hl hp hx
    exact ⟨fun hm => H.off x i hd hm (List.mem_of_getElem? hi) h3 h4, (R.fres x ⟨i, blk, hd, h1, h2, h3, h4⟩).2⟩
  · refine R.fbk.toM (Nat.le_refl _) (fun _ _ => rfl) (fun x hx => ?_)
    rcases H.up x hx with h | h
    · exact R.fb x h
    · exact (R.fres x h).2
  · intro x hx
    obtain ⟨j, i, blk, hd, hi, h1, h2, h3, h4⟩ := start_own R hl hp hx
    exact R.oid x ⟨i, blk, hd, h1, h2, h3, h4⟩

/-- The arguments, in the callee's own terms. -/
theorem HA1.rel {hs : List Hd} {bs : List Blk} {x : AVal} {v : Value} (h : HA1 M w hs x v) (hM : ∀ x, N x → M x) : ARel N w hs bs x v := by
  cases x with
  | v c => exact CRel.keep (Keep.sub hM) h
  | lptr j o =>
    obtain ⟨rfl, x, hm, rfl⟩ := h
    exact ⟨x, hm, rfl⟩
  | _ => exact h.elim
theorem HAs1.rel {hs : List Hd} {bs : List Blk} : ∀ {l : List AVal} {vs : List Value}, HAs1 M w hs l vs → (∀ x, N x → M x) → AsRel N w hs bs false l vs
  | [], _, h, _ => h
  | x :: r, _, h, hM => by
    obtain ⟨u, us, rfl, h1, h2⟩ := h
    exact ⟨u, us, rfl, h1.rel hM, by simp, HAs1.rel h2 hM⟩
theorem HA.rel {hs : List Hd} {bs : List Blk} (hv : ∀ (j : Nat) (hd : Hd), hs[j]? = some hd → ∃ blk, bs[j]? = some blk ∧ blk.ver = 0) {x : AVal} {v : Value} (h : HA M w hs x v) (hM : ∀ x, N x → M x) :
    ARel N w hs bs x v := by
  cases x with
  | v c => exact HA1.rel (x := .v c) h hM
  | lptr j o => exact HA1.rel (x := .lptr j o) h hM
  | lref j ver =>
    obtain ⟨rfl, base, len, cap, sz, hm, rfl⟩ := h
    obtain ⟨blk, hb, h0⟩ := hv j _ hm
    exact ⟨rfl, blk, _, hb, hm, by simp, Nat.zero_le _, fun _ _ => rfl⟩
  | func g cs =>
    obtain ⟨vs, rfl, hc⟩ := h
    exact ⟨vs, rfl, hc.rel hM⟩
  | _ => exact h.elim
theorem HAs.rel {hs : List Hd} {bs : List Blk} (hv : ∀ (j : Nat) (hd : Hd), hs[j]? = some hd → ∃ blk, bs[j]? = some blk ∧ blk.ver = 0) : ∀ {l : List AVal} {vs : List Value}, HAs M w hs l vs → (∀ x, N x → M x) →
    AsRel N w hs bs false l vs
  | [], _, h, _ => h
  | x :: r, _, h, hM => by
    obtain ⟨u, us, rfl, h1, h2⟩ := h
    exact ⟨u, us, rfl, h1.rel hv hM, by simp, HAs.rel hv h2 hM⟩

theorem backBlks_sound : ∀ {ids : List Nat} {ls : List (List CVal)} {j : Nat} {b : List Blk} {K : List Blk → Option R'}, ids.Nodup → backBlks ids ls j b K = some r →
    ∃ b4, K b4 = some r ∧ b4.length = b.length ∧ (∀ i, i ∉ ids → b4[i]? = b[i]?) ∧ ∀ (k i : Nat), ids[k]? = some i → ∃ l, ls[j + k]? = some l ∧
      ((∃ ver sz xs, b[i]? = some ⟨ver, .arr sz xs⟩ ∧ b4[i]? = some ⟨ver + 1, .arr sz l⟩) ∨ (∃ ver cs, b[i]? = some ⟨ver, .box cs⟩ ∧ b4[i]? = some ⟨ver, .box (l.map .v)⟩))
  | [], ls, j, b, K, n, h => ⟨b, h, rfl, fun _ _ => rfl, fun k i hk => by simp at hk⟩
  | i :: rest, ls, j, b, K, n, h => by
    simp only [backBlks] at h
    obtain ⟨l, hl, h⟩ := bind_some' h
    obtain ⟨hi, n⟩ := List.nodup_cons.1 n
    have next : ∀ {blk' : Blk}, i < b.length → backBlks rest ls (j + 1) (b.set i blk') K = some r →
        ((∃ ver sz xs, b[i]? = some ⟨ver, .arr sz xs⟩ ∧ blk' = ⟨ver + 1, .arr sz l⟩) ∨ (∃ ver cs, b[i]? = some ⟨ver, .box cs⟩ ∧ blk' = ⟨ver, .box (l.map .v)⟩)) →
        ∃ b4, K b4 = some r ∧ b4.length = b.length ∧ (∀ k, k ∉ i :: rest → b4[k]? = b[k]?) ∧ ∀ (k i' : Nat), (i :: rest)[k]? = some i' → ∃ l, ls[j + k]? = some l ∧
          ((∃ ver sz xs, b[i']? = some ⟨ver, .arr sz xs⟩ ∧ b4[i']? = some ⟨ver + 1, .arr sz l⟩) ∨ (∃ ver cs, b[i']? = some ⟨ver, .box cs⟩ ∧ b4[i']? = some ⟨ver, .box (l.map .v)⟩)) := by
      intro blk' hlt h hb
      obtain ⟨b4, hK, hlen, hoff, hat⟩ := backBlks_sound n h
      refine ⟨b4, hK, by simpa using hlen, fun k hk => ?_, fun k i' hk => ?_⟩
      · simp only [List.mem_cons, not_or] at hk
        rw [hoff k hk.2, List.getElem?_set_ne (Ne.symm hk.1)]
      · cases k with
        | zero =>
          simp at hk; subst hk
          refine ⟨l, by simpa using hl, ?_⟩
          rw [hoff i hi, List.getElem?_set_self hlt]
          exact hb.imp (fun ⟨a, b, c, d, e⟩ => ⟨a, b, c, d, by rw [e]⟩) (fun ⟨a, b, c, d⟩ => ⟨a, b, c, by rw [d]⟩)
        | succ k =>
          have hk' : rest[k]? = some i' := by simpa using hk
          have hne : i ≠ i' := fun e => hi (by rw [e]; exact List.mem_of_getElem? hk')
          obtain ⟨l', hl', hor⟩ := hat k i' hk'
          refine ⟨l', by rw [← hl']; congr 1; omega, ?_⟩
          rw [List.getElem?_set_ne hne] at hor
          exact hor
    split at h
    · rename_i ver sz xs hb
      exact next (List.getElem?_eq_some_iff.1 hb).1 h (.inl ⟨ver, sz, xs, hb, rfl⟩)
    · rename_i ver cs hb
      obtain ⟨hlen, h⟩ := br_none h
      have hlen : l.length = cs.length := by simpa using hlen
      obtain ⟨xs, h', hxl, hx⟩ := explodeL_eq h
      have e : xs = l := same_of_get (by omega) hx
      subst e
      exact next (List.getElem?_eq_some_iff.1 hb).1 h' (.inr ⟨ver, cs, hb, rfl⟩)
    · cases h

def endBlk (p : PB) (l : List CVal) : Blk := cond p.arr ⟨0, .arr p.sz l⟩ ⟨0, .box (l.map .v)⟩
def endBlks (pbs : List PB) (ls : List (List CVal)) : List Blk := List.zipWith endBlk pbs ls

/-- What a function leaves. -/
structure FnPost (rm : Option Nat) (F : Nat → Prop) (w : World) (μ : List Hd) (pbs : List PB) (ret : Ret) (w' : World) (μ' : List Hd) (v : Value) : Prop where
  rel : Rel F w' μ' (endBlks pbs ret.2)
  len : ret.2.length = pbs.length
  box : ∀ (j : Nat) (x : Nat), μ[j]? = some (.box x) → μ'[j]? = some (.box x)
  own : ∀ x, Own μ' (endBlks pbs ret.2) x → x < w'.heap.size ∧ (w.heap.size ≤ x ∨ Own μ (pbs.map startBlk) x)
  fr : Fr (Own μ (pbs.map startBlk)) w w'
  val : match rm with
    | none => CRel (Or F (Own μ' (endBlks pbs ret.2))) w' ret.1 v
    | some j => ∃ (h : Hd) (p : PB), μ'[j]? = some h ∧ pbs[j]? = some p ∧ p.arr = true ∧ v = h.val

/-- A call comes to its function's end. -/
def Invokes (P : Program) (g : FuncId) (vs : List Value) (w : World) (post : Value → World → Prop) : Prop :=
  ∀ (o : Oper) (a : Act) (next : Act → World → Prop) (Q : Exit → Act → World → Prop), (execOp a.eval o).run P w = (callFunc g vs.toArray).run P w →
    (∀ v w', post v w' → next (a.put o.dst v) w') → o.wp P a w next Q

/-- A function does what its abstract form says. -/
def FnOk (P : Program) (rm : Option Nat) (g : FuncId) (args : List AVal) (pbs : List PB) (ret : Ret) : Prop :=
  ∀ (F : Nat → Prop) (w : World) (μ : List Hd) (vs : List Value), Rel F w μ (pbs.map startBlk) → AsRel (Or F (Own μ (pbs.map startBlk))) w μ (pbs.map startBlk) false args vs →
    Invokes P g vs w fun v w' => ∃ μ', FnPost rm F w μ pbs ret w' μ' v

/-- What calls come to is so. -/
def COk (E : Env) (C : CallT) : Prop := (∀ g args pbs ret, g ≠ apId → (match E.prim g with | some p => p args pbs | none => C g args pbs) = some ret → FnOk E.P (E.rm g) g args pbs ret) ∧
  ∀ c cs ret, C apId (.v c :: cs.map .v) [] = some ret → ∃ g caps, g ≠ apId ∧ c = .func g caps ∧ E.rm g = none ∧ FnOk E.P none g ((cs ++ caps).map .v) [] ret

/-- The heads after a call. -/
def backHs (μ : List Hd) (ids : List Nat) (hs : List Hd) : List Hd := (List.range μ.length).map fun i => match idxOf ids i with | some j => (hs[j]?).getD .none | none => (μ[i]?).getD .none

theorem idxOf_at : ∀ {ids : List Nat} {i j : Nat}, ids.Nodup → ids[j]? = some i → idxOf ids i = some j
  | [], _, j, _, h => by simp at h
  | k :: r, i, 0, n, h => by simp at h; subst h; simp [idxOf, br]
  | k :: r, i, j + 1, n, h => by
    have h' : r[j]? = some i := by simpa using h
    have hne : (k == i) = false := by
      simp only [beq_eq_false_iff_ne]
      intro e; subst e
      exact (List.nodup_cons.1 n).1 (List.mem_of_getElem? h')
    simp [idxOf, hne, br, idxOf_at (List.nodup_cons.1 n).2 h']
theorem idxOf_no : ∀ {ids : List Nat} {i : Nat}, i ∉ ids → idxOf ids i = none
  | [], _, _ => rfl
  | k :: r, i, h => by
    simp only [List.mem_cons, not_or] at h
    have hne : (k == i) = false := by
      simp only [beq_eq_false_iff_ne]; exact fun e => h.1 e.symm
    simp [idxOf, hne, br, idxOf_no h.2]

theorem backHs_len {ids : List Nat} {hs : List Hd} : (backHs μ ids hs).length = μ.length := by simp [backHs]
theorem backHs_off {ids : List Nat} {hs : List Hd} {i : Nat} (h : i ∉ ids) : (backHs μ ids hs)[i]? = μ[i]? := by
  unfold backHs
  rw [List.getElem?_map]
  by_cases hi : i < μ.length
  · simp [hi, idxOf_no h]
  · simp [hi]
theorem backHs_at {ids : List Nat} {hs : List Hd} {i j : Nat} {h : Hd} (n : ids.Nodup) (hi : i < μ.length) (hj : ids[j]? = some i) (hh : hs[j]? = some h) : (backHs μ ids hs)[i]? = some h := by
  unfold backHs
  rw [List.getElem?_map]
  simp [hi, idxOf_at n hj, hh]

theorem scalar_rel {N N' : Nat → Prop} {w : World} {c : CVal} {v : Value} (hs : scalar c = true) (h : CRel N w c v) : CRel N' w c v := by
  cases c <;> first | exact h | simp [scalar] at hs

/-- What is known of b4 after a call. -/
def Back (ids : List Nat) (ls : List (List CVal)) (b b4 : List Blk) : Prop := b4.length = b.length ∧ (∀ i, i ∉ ids → b4[i]? = b[i]?) ∧ ∀ (k i : Nat), ids[k]? = some i → ∃ l, ls[k]? = some l ∧
      ((∃ ver sz xs, b[i]? = some ⟨ver, .arr sz xs⟩ ∧ b4[i]? = some ⟨ver + 1, .arr sz l⟩) ∨ (∃ ver cs, b[i]? = some ⟨ver, .box cs⟩ ∧ b4[i]? = some ⟨ver, .box (l.map .v)⟩))

theorem end_at {ids : List Nat} {pbs : List PB} {ls : List (List CVal)} {b4 : List Blk} {j i : Nat} (hlen : pbs.length = ids.length)
    (hpb : ∀ (j i : Nat) (p : PB), ids[j]? = some i → pbs[j]? = some p → PBok F w μ b i p) (B : Back ids ls b b4) (hj : ids[j]? = some i) :
    ∃ p l blk3 blk4, pbs[j]? = some p ∧ (endBlks pbs ls)[j]? = some (endBlk p l) ∧ b[i]? = some blk3 ∧ b4[i]? = some blk4 ∧ blk4.body = (endBlk p l).body ∧ alive blk3.body = true ∧ alive blk4.body = true ∧
      blk3.ver ≤ blk4.ver ∧ (isArr blk4.body = true → blk3.ver < blk4.ver) ∧ isArr blk4.body = p.arr := by
  obtain ⟨l, hl, hor⟩ := B.2.2 j i hj
  have hjl : j < pbs.length := by rw [hlen]; exact (List.getElem?_eq_some_iff.1 hj).1
  have hp : pbs[j]? = some pbs[j] := List.getElem?_eq_getElem hjl
  obtain ⟨blk, hb, hpp⟩ := hpb j i _ hj hp
  have hend : (endBlks pbs ls)[j]? = some (endBlk pbs[j] l) := by
    unfold endBlks
    rw [List.getElem?_zipWith, hp, hl]
  rcases hor with ⟨ver, sz, xs, h3, h4⟩ | ⟨ver, cs, h3, h4⟩
  · rw [hb] at h3; cases h3
    rcases hpp with ⟨sz', xs', e, hbody⟩ | ⟨cs, xs', e, hbody, _⟩
    · cases hbody
      refine ⟨_, l, _, _, hp, hend, hb, h4, ?_, rfl, rfl, Nat.le_succ _, fun _ => Nat.lt_succ_self _, ?_⟩ <;> rw [e] <;> rfl
    · cases hbody
  · rw [hb] at h3; cases h3
    rcases hpp with ⟨sz', xs', e, hbody⟩ | ⟨cs, xs', e, hbody, _⟩
    · cases hbody
    · refine ⟨_, l, _, _, hp, hend, hb, h4, ?_, rfl, rfl, Nat.le_refl _, (fun h => by simp [isArr] at h), ?_⟩ <;> rw [e] <;> rfl

theorem back_own {ids : List Nat} {pbs : List PB} {ls : List (List CVal)} {b4 : List Blk} {hs' : List Hd} {w' : World} (R : Rel F w μ b) (hn : ids.Nodup) (hlen : pbs.length = ids.length)
    (hpb : ∀ (j i : Nat) (p : PB), ids[j]? = some i → pbs[j]? = some p → PBok F w μ b i p) (B : Back ids ls b b4) (hl' : hs'.length = (endBlks pbs ls).length) {x : Nat} (h : Own (backHs μ ids hs') b4 x) :
    (∃ (i : Nat) (blk : Blk) (hd : Hd), i ∉ ids ∧ b[i]? = some blk ∧ alive blk.body = true ∧ μ[i]? = some hd ∧ hd.own = some x) ∨ Own hs' (endBlks pbs ls) x := by
  obtain ⟨i, blk, hd, hb, ha, hm, ho⟩ := h
  by_cases hi : i ∈ ids
  · obtain ⟨j, hj⟩ := List.mem_iff_getElem?.1 hi
    obtain ⟨p, l, blk3, blk4, hp, hend, hb3, hb4, hbody, _, hal4, _⟩ := end_at hlen hpb B hj
    rw [hb] at hb4; cases hb4
    have hil : i < μ.length := by rw [R.len]; exact (List.getElem?_eq_some_iff.1 hb3).1
    have hjl : j < hs'.length := by rw [hl']; exact (List.getElem?_eq_some_iff.1 hend).1
    rw [backHs_at hn hil hj (List.getElem?_eq_getElem hjl)] at hm
    cases hm
    exact .inr ⟨j, _, _, hend, by rw [← hbody]; exact ha, List.getElem?_eq_getElem hjl, ho⟩
  · rw [B.2.1 i hi] at hb
    rw [backHs_off hi] at hm
    exact .inl ⟨i, blk, hd, hi, hb, ha, hm, ho⟩

theorem back_sound {ids : List Nat} {pbs : List PB} {ret : Ret} {b4 : List Blk} {hs' : List Hd} {w' : World} {rm : Option Nat} {v : Value} (R : Rel F w μ b) (hn : ids.Nodup) (hlen : pbs.length = ids.length)
    (hpb : ∀ (j i : Nat) (p : PB), ids[j]? = some i → pbs[j]? = some p → PBok F w μ b i p) (B : Back ids ret.2 b b4) (H : Hidden F M μ b ids)
    (hfull : ids = [] ∨ ∀ x, Or F (Own μ b) x → (∀ (i : Nat) (h : Hd), i ∈ ids → μ[i]? = some h → h.own ≠ some x) → M x)
    (p : FnPost rm M w (hsOf μ ids) pbs ret w' hs' v) :
    Upd F w μ b w' (backHs μ ids hs') b4 ∧ Rel F w' (backHs μ ids hs') b4 ∧ Fr (Own μ b) w w' ∧
      ((∀ x, Or F (Own μ b) x → (∀ (i : Nat) (h : Hd), i ∈ ids → μ[i]? = some h → h.own ≠ some x) → M x) → ∀ x, Or F (Own (backHs μ ids hs') b4) x → Or M (Own hs' (endBlks pbs ret.2)) x) := by
  have hl' : hs'.length = (endBlks pbs ret.2).length := p.rel.len
  have own := fun {x} => back_own (x := x) R hn hlen hpb B hl' (w' := w')
  have sown : ∀ x, Own (hsOf μ ids) (pbs.map startBlk) x → Own μ b x := fun x hx => by
    obtain ⟨j, i, blk, hd, _, h1, h2, h3, h4⟩ := start_own R hlen hpb hx
    exact ⟨i, blk, hd, h1, h2, h3, h4⟩
  have snot : ∀ (x i : Nat) (blk : Blk) (hd : Hd), i ∉ ids → b[i]? = some blk → alive blk.body = true → μ[i]? = some hd → hd.own = some x → ¬ Own (hsOf μ ids) (pbs.map startBlk) x := by
    intro x i blk hd hi hb ha hm ho hx
    obtain ⟨j, i', blk', hd', hj, h1, h2, h3, h4⟩ := start_own R hlen hpb hx
    have := R.inj i i' blk blk' hd hd' x hb h1 ha h2 hm h3 ho h4
    subst this
    exact hi (List.mem_of_getElem? hj)
  have hil : ∀ {i j : Nat}, ids[j]? = some i → i < μ.length := by
    intro i j hj
    obtain ⟨_, _, _, _, _, _, hb3, _⟩ := end_at hlen hpb B hj
    rw [R.len]; exact (List.getElem?_eq_some_iff.1 hb3).1
  have U : Upd F w μ b w' (backHs μ ids hs') b4 := by
    refine ⟨R.len, by rw [backHs_len, B.1, R.len], ?_, p.fr.size, ?_, ?_⟩
    · intro i blk h hb hm
      by_cases hi : i ∈ ids
      · obtain ⟨j, hj⟩ := List.mem_iff_getElem?.1 hi
        obtain ⟨pb, l, blk3, blk4, hp, hend, hb3, hb4, hbody, hal3, hal4, hle, hlt, harr⟩ := end_at hlen hpb B hj
        rw [hb] at hb3; cases hb3
        have hjl : j < hs'.length := by rw [hl']; exact (List.getElem?_eq_some_iff.1 hend).1
        refine ⟨blk4, hs'[j], hb4, backHs_at hn (hil hj) hj (List.getElem?_eq_getElem hjl), hle, ?_, ?_, ?_⟩
        · intro _ hnone
          have hB := p.rel.blk j _ _ hend (List.getElem?_eq_getElem hjl)
          rw [← hbody, hnone] at hB
          cases hbd : blk4.body with
          | dead => rw [hbd] at hal4; cases hal4
          | box cs => rw [hbd] at hB; obtain ⟨x, vs, e, he, _⟩ := hB; cases he
          | arr sz xs => rw [hbd] at hB; obtain ⟨base, cap, he, _⟩ := hB; cases he
        · intro x hx
          subst hx
          have : (hsOf μ ids)[j]? = some (.box x) := by simpa using hs_at (e := []) hj hm
          have := p.box j x this
          rw [List.getElem?_eq_getElem hjl] at this
          exact Option.some.inj this
        · intro he ha
          have := hlt ha
          omega
      · exact ⟨blk, h, by rw [B.2.1 i hi]; exact hb, by rw [backHs_off hi]; exact hm, .refl _ _⟩
    · intro x hx
      rcases own hx with ⟨i, blk, hd, hi, hb, ha, hm, ho⟩ | hx
      · have := R.fres x ⟨i, blk, hd, hb, ha, hm, ho⟩
        exact ⟨Nat.lt_of_lt_of_le this.2 p.fr.size, .inr ⟨i, blk, hd, hb, ha, hm, ho⟩⟩
      · obtain ⟨h1, h2⟩ := p.own x hx
        exact ⟨h1, h2.imp id (sown x)⟩
    · intro x hx hno
      exact p.fr.block x hx fun h => hno (sown x h)
  have sub2 : (∀ x, Or F (Own μ b) x → (∀ (i : Nat) (h : Hd), i ∈ ids → μ[i]? = some h → h.own ≠ some x) → M x) → ∀ x, Or F (Own (backHs μ ids hs') b4) x → Or M (Own hs' (endBlks pbs ret.2)) x := by
    intro hfull
    rintro x (hx | hx)
    · exact .inl (H.low x hx)
    · rcases own hx with ⟨i, blk, hd, hi, hb, ha, hm, ho⟩ | hx
      · refine .inl (hfull x (.inr ⟨i, blk, hd, hb, ha, hm, ho⟩) fun i' h' hi' hm' ho' => ?_)
        obtain ⟨j, hj⟩ := List.mem_iff_getElem?.1 hi'
        obtain ⟨pb, l, blk3, blk4, hp, hend, hb3, hb4, hbody, hal3, _⟩ := end_at hlen hpb B hj
        have := R.inj i i' blk blk3 hd h' x hb hb3 ha hal3 hm hm' ho ho'
        subst this
        exact hi hi'
      · exact .inr hx
  have sub := hfull.imp id sub2
  refine ⟨U, ⟨U.len, ?_, ?_, ?_, R.fbk.to p.fr.size fun x hx => p.fr.block x (R.fbk.idl x hx) fun h => R.oid x (sown x h) hx, ?_⟩, ⟨p.fr.os, p.fr.tape, p.fr.output, p.fr.size, fun x hx hno => p.fr.block x hx fun h => hno (sown x h)⟩, sub2⟩
  · intro i blk h hb hm
    by_cases hi : i ∈ ids
    · obtain ⟨j, hj⟩ := List.mem_iff_getElem?.1 hi
      obtain ⟨pb, l, blk3, blk4, hp, hend, hb3, hb4, hbody, hal3, hal4, hle, hlt, harr⟩ := end_at hlen hpb B hj
      rw [hb] at hb4; cases hb4
      have hjl : j < hs'.length := by rw [hl']; exact (List.getElem?_eq_some_iff.1 hend).1
      rw [backHs_at hn (hil hj) hj (List.getElem?_eq_getElem hjl)] at hm
      cases hm
      have sub' : ∀ x, Or F (Own (backHs μ ids hs') b4) x → Or M (Own hs' (endBlks pbs ret.2)) x := by
        rcases sub with h | h
        · rw [h] at hi; cases hi
        · exact h
      have hB := p.rel.blk j _ _ hend (List.getElem?_eq_getElem hjl)
      rw [hbody]
      unfold endBlk at hB ⊢
      cases hpa : pb.arr with
      | true =>
        rw [hpa] at hB
        obtain ⟨base, cap, h1, h2, h3⟩ := hB
        exact ⟨base, cap, h1, h2, h3.imp id fun ⟨x, cells, e, g1, g2, g3, g4⟩ => ⟨x, cells, e, g1, g2, g3, ElRel.keepAt (Keep.sub sub') rfl g4⟩⟩
      | false =>
        rw [hpa] at hB
        obtain ⟨x, us, e, h1, h2, h3⟩ := hB
        exact ⟨x, us, e, h1, h2, AsRel.ofC (CsRel.keep (Keep.sub sub') h3.toC)⟩
    · rw [B.2.1 i hi] at hb
      rw [backHs_off hi] at hm
      refine BRel.upd U (fun x ho ha => ?_) (R.blk i blk h hb hm)
      exact p.fr.block x (R.fres x ⟨i, blk, h, hb, ha, hm, ho⟩).2 (snot x i blk h hi hb ha hm ho)
  · have cross : ∀ (i j : Nat) (blk : Blk) (h : Hd) (x : Nat), i ∉ ids → b[i]? = some blk → alive blk.body = true → μ[i]? = some h → h.own = some x → Own hs' (endBlks pbs ret.2) x → False := by
      intro i j blk h x hi hb ha hm ho hx
      rcases (p.own x hx).2 with h2 | h2
      · have := (R.fres x ⟨i, blk, h, hb, ha, hm, ho⟩).2; omega
      · exact snot x i blk h hi hb ha hm ho h2
    have get : ∀ (i : Nat) (blk : Blk) (h : Hd) (x : Nat), i ∈ ids → b4[i]? = some blk → alive blk.body = true → (backHs μ ids hs')[i]? = some h → h.own = some x →
        ∃ (j : Nat) (eb : Blk), ids[j]? = some i ∧ (endBlks pbs ret.2)[j]? = some eb ∧ alive eb.body = true ∧ hs'[j]? = some h := by
      intro i blk h x hi hb ha hm ho
      obtain ⟨j, hj⟩ := List.mem_iff_getElem?.1 hi
      obtain ⟨pb, l, blk3, blk4, hp, hend, hb3, hb4, hbody, hal3, hal4, hle, hlt, harr⟩ := end_at hlen hpb B hj
      rw [hb] at hb4; cases hb4
      have hjl : j < hs'.length := by rw [hl']; exact (List.getElem?_eq_some_iff.1 hend).1
      rw [backHs_at hn (hil hj) hj (List.getElem?_eq_getElem hjl)] at hm
      exact ⟨j, _, hj, hend, by rw [← hbody]; exact ha, by rw [List.getElem?_eq_getElem hjl]; exact hm⟩
    intro i i' blk blk' h h' x hb hb' ha ha' hm hm' ho ho'
    by_cases hi : i ∈ ids
    · obtain ⟨j, eb, hj, he, hea, hsj⟩ := get i blk h x hi hb ha hm ho
      by_cases hi' : i' ∈ ids
      · obtain ⟨j', eb', hj', he', hea', hsj'⟩ := get i' blk' h' x hi' hb' ha' hm' ho'
        have := p.rel.inj j j' eb eb' h h' x he he' hea hea' hsj hsj' ho ho'
        subst this
        rw [hj] at hj'; exact Option.some.inj hj'
      · rw [B.2.1 i' hi'] at hb'
        rw [backHs_off hi'] at hm'
        exact (cross i' 0 blk' h' x hi' hb' ha' hm' ho' ⟨j, eb, h, he, hea, hsj, ho⟩).elim
    · rw [B.2.1 i hi] at hb
      rw [backHs_off hi] at hm
      by_cases hi' : i' ∈ ids
      · obtain ⟨j', eb', hj', he', hea', hsj'⟩ := get i' blk' h' x hi' hb' ha' hm' ho'
        exact (cross i 0 blk h x hi hb ha hm ho ⟨j', eb', h', he', hea', hsj', ho'⟩).elim
      · rw [B.2.1 i' hi'] at hb'
        rw [backHs_off hi'] at hm'
        exact R.inj i i' blk blk' h h' x hb hb' ha ha' hm hm' ho ho'
  · intro x hx
    refine ⟨fun hf => ?_, (U.own x hx).1⟩
    rcases (U.own x hx).2 with h | h
    · have := R.fb x hf; omega
    · exact (R.fres x h).1 hf
  · intro x hx hi
    rcases (U.own x hx).2 with h | h
    · have := R.fbk.idl x hi; omega
    · exact R.oid x h hi

theorem callK_sound {E : Env} {C : CallT} {q : Nat} {g : FuncId} {args : List AVal} {vs : List Value} {K : AVal → List Blk → Option R'} (hC : COk E C) (R : Rel F w μ b) (hq : Free μ b q)
    (ha : AsRel (Or F (Own μ b)) w μ b false args vs) (h : callK E C q g args b K = some r) : CallGoes E.P F w μ b K r g vs (pureArgs E g 0 args) := by
  unfold callK at h
  rcases br_some h with ⟨_, h⟩ | ⟨hgap, h⟩
  · cases h
  have hgap : g ≠ apId := by simpa using hgap
  obtain ⟨args1, b1, μ1, h, U1, R1, ha1, hpu1⟩ := promo_sound (fun _ => hq) R ha h
  obtain ⟨hd, l, h, hs, hl, hpu2, hHA⟩ := handAll_sound (h := ⟨[], [], b1⟩) R1 ha1 h
  obtain ⟨pbs, b3, h, hsub, U3, R3, hlen, hpu3, hpb⟩ := handBlks_sound hs.rel h
  obtain ⟨hal, h⟩ := br_none h
  obtain ⟨ret, hret, h⟩ := bind_some' h
  rcases br_some h with ⟨_, h⟩ | ⟨hbor, h⟩
  · cases h
  have hn : hd.ids.Nodup := hs.nodup List.nodup_nil
  obtain ⟨b4, h, hlen4, hoff4, hat4⟩ := backBlks_sound hn h
  have hpb : ∀ (j i : Nat) (p : PB), hd.ids[j]? = some i → pbs[j]? = some p → PBok F w μ1 b3 i p := fun j i p hi hp => hpb j i p hi hp (List.all_eq_true.1 hal i (List.mem_of_getElem? hi))
  have hl : hd.args = l := by simpa using hl
  have U13 : Upd F w μ b w μ1 b3 := (U1.trans hs.upd).trans U3
  have B : Back hd.ids ret.2 b3 b4 := ⟨hlen4, hoff4, fun k i hk => by simpa using hat4 k i hk⟩
  have hok := hC.1 g hd.args pbs ret hgap hret
  have hpure : pureArgs E g 0 args = true → b4 = b := by
    intro hp
    obtain ⟨e1, e2⟩ := hpu1 hp
    rw [e2] at hpu2
    obtain ⟨e3, e4⟩ := hpu2 hp
    have e5 := hpu3 e3
    have e6 : b4 = b3 := by
      apply List.ext_getElem?
      intro i
      exact hoff4 i (by rw [e3]; simp)
    rw [e6, e5, e4, e1]
  -- what the callee may not have as data
  obtain ⟨M, H, hM, hfull⟩ : ∃ M : Nat → Prop, Hidden F M μ1 b3 hd.ids ∧ (borrows E g 0 args1 = true → ∀ x, M x → F x) ∧
      ((borrows E g 0 args1 = true ∧ hd.ids = []) ∨ ∀ x, Or F (Own μ1 b3) x → (∀ (i : Nat) (h : Hd), i ∈ hd.ids → μ1[i]? = some h → h.own ≠ some x) → M x) := by
    cases hb : borrows E g 0 args1 with
    | true =>
      simp [hb] at hbor
      have hids := hbor.2
      exact ⟨F, ⟨fun _ h => h, fun _ h => .inl h, fun x i h _ hi => by rw [hids] at hi; cases hi⟩, fun _ _ h => h, .inl ⟨rfl, hids⟩⟩
    | false =>
      refine ⟨fun x => Or F (Own μ1 b3) x ∧ ∀ (i : Nat) (h : Hd), i ∈ hd.ids → μ1[i]? = some h → h.own ≠ some x, ⟨fun x hx => ⟨.inl hx, fun i h hi hm ho => ?_⟩, fun x hx => hx.1, fun x i h hx hi hm => hx.2 i h hi hm⟩,
        by simp, .inr fun x h1 h2 => ⟨h1, h2⟩⟩
      obtain ⟨j, hj⟩ := List.mem_iff_getElem?.1 hi
      obtain ⟨p, l', blk3, blk4, hp, hend, hb3, hb4, hbody, hal3, _⟩ := end_at hlen hpb B hj
      exact (R3.fres x ⟨i, blk3, h, hb3, hal3, hm, ho⟩).1 hx
  have hcr := callee_rel R3 hn hlen hpb H
  have hstart : ∀ x, Or M (Own (hsOf μ1 hd.ids) (pbs.map startBlk)) x → Or F (Own μ1 b3) x := by
    rintro x (hx | hx)
    · exact H.up x hx
    · obtain ⟨j, i, blk, hh, _, h1, h2, h3, h4⟩ := start_own R3 hlen hpb hx
      exact .inr ⟨i, blk, hh, h1, h2, h3, h4⟩
  have hargs : AsRel (Or M (Own (hsOf μ1 hd.ids) (pbs.map startBlk))) w (hsOf μ1 hd.ids) (pbs.map startBlk) false hd.args vs := by
    rw [hl]
    have h0 := hHA (Or M (Own (hsOf μ1 hd.ids) (pbs.map startBlk))) [] (fun x hx => (hstart x hx).imp id fun ho => hsub.own ho) (fun hb x hx => by
      rcases hx with hx | hx
      · exact hM hb x hx
      · simp [hb] at hbor
        obtain ⟨j, i, blk, hh, hj, _⟩ := start_own R3 hlen hpb hx
        rw [hbor.2] at hj; simp at hj)
    rw [List.append_nil] at h0
    refine HAs.rel (fun j hh hj => ?_) h0 fun x hx => hx
    have hjl : j < pbs.length := by
      have := (List.getElem?_eq_some_iff.1 hj).1
      simp [hsOf] at this; omega
    refine ⟨startBlk pbs[j], by simp [hjl], ?_⟩
    unfold startBlk
    cases pbs[j].arr <;> rfl
  have key := hok M w (hsOf μ1 hd.ids) vs hcr hargs
  -- what is laid back
  split at h
  · rename_i hrm
    refine ⟨_, _, h, hpure, fun o a next Q ho hnx => key o a next Q ho fun v w' ⟨hs', p⟩ => ?_⟩
    obtain ⟨U, R4, f, hsub4⟩ := back_sound R3 hn hlen hpb B H (hfull.imp (·.2) id) p
    refine hnx v w' _ ⟨U13.trans U, R4, ?_, Fr.step U13 (.refl _ _) f⟩
    have hv := p.val
    rw [hrm] at hv
    rcases hfull with ⟨hb, _⟩ | hfull
    · simp [hb] at hbor
      exact scalar_rel hbor.1 hv
    · exact CRel.keep (Keep.sub (hsub4 hfull)) hv
  · rename_i j hrm
    split at h
    · rename_i i hi
      refine ⟨_, _, h, hpure, fun o a next Q ho hnx => key o a next Q ho fun v w' ⟨hs', p⟩ => ?_⟩
      obtain ⟨U, R4, f, hsub4⟩ := back_sound R3 hn hlen hpb B H (hfull.imp (·.2) id) p
      refine hnx v w' _ ⟨U13.trans U, R4, ?_, Fr.step U13 (.refl _ _) f⟩
      have hv := p.val
      rw [hrm] at hv
      obtain ⟨hd', pb, hm', hp, harr, rfl⟩ := hv
      obtain ⟨p', l', blk3, blk4, hp', hend, hb3, hb4, hbody, hal3, hal4, hle, hlt, harr'⟩ := end_at hlen hpb B hi
      rw [hp] at hp'; cases hp'
      have hil : i < μ1.length := by rw [R3.len]; exact (List.getElem?_eq_some_iff.1 hb3).1
      have hB := p.rel.blk j _ _ hend hm'
      unfold endBlk at hB
      rw [harr] at hB
      obtain ⟨base, cap, he, _⟩ := hB
      refine ⟨by rw [he]; rfl, blk4, hd', hb4, backHs_at hn hil hi hm', by rw [he]; simp, by simp [verOf, hb4], fun _ _ => rfl⟩
    · cases h

theorem apF_sound {E : Env} {C : CallT} {c : CVal} {cs : List CVal} {K : AVal → List Blk → Option R'} (hC : COk E C) (R : Rel F w μ b) (h : apF C c cs (fun y => K (.v y) b) = some r) :
    ∃ g caps, c = .func g caps ∧ ∀ vs, AsRel (Or F (Own μ b)) w μ b false ((cs ++ caps).map .v) vs → CallGoes E.P F w μ b K r g vs true := by
  unfold apF at h
  obtain ⟨r0, hr0, hK⟩ := bind_some' h
  obtain ⟨g, caps, hg, rfl, hrm, hok⟩ := hC.2 c cs r0 hr0
  refine ⟨g, caps, rfl, fun vs ha => ?_⟩
  let q := b.length
  let E' : Env := { E with prim := fun g' => some fun args' pbs' => open Classical in if g' = g ∧ args' = (cs ++ caps).map .v ∧ pbs' = [] then some r0 else none }
  have hC' : COk E' (fun _ _ _ => none) := by
    refine ⟨fun g' args' pbs' ret' hne h' => ?_, fun c' cs' ret' h' => by cases h'⟩
    simp only [E'] at h'
    split at h'
    · rename_i hh
      cases h'
      obtain ⟨rfl, rfl, rfl⟩ := hh
      show FnOk E.P (E.rm g') g' _ [] r0
      rw [hrm]; exact hok
    · cases h'
  have hk : callK E' (fun _ _ _ => none) q g ((cs ++ caps).map .v) b K = some r := by
    rw [callK_v hg]
    simp only [E']
    rw [if_pos ⟨trivial, trivial, trivial⟩, Option.bind_some, hrm]
    exact hK
  have := callK_sound (E := E') hC' R (.inl rfl) ha hk
  rw [pureArgs_v] at this
  exact this
end
end Go.Proofs.YtomkegeojknihaaDoor.Abs

/-! Regions in the order of their text. -/
namespace Go.Proofs.YtomkegeojknihaaDoor.Abs
open Go
variable [Glob]

section
variable {P : Program} {w : World} {F N M : Nat → Prop} {μ : List Hd} {b : List Blk} {R' : Type} {r : R'}

/-- From one moment of a frame to a later one. -/
structure Now (F : Nat → Prop) (w : World) (μ : List Hd) (b : List Blk) (w' : World) (μ' : List Hd) (b' : List Blk) : Prop where
  upd : Upd F w μ b w' μ' b'
  rel : Rel F w' μ' b'
  fr : Fr (Own μ b) w w'

theorem Now.refl (R : Rel F w μ b) : Now F w μ b w μ b := ⟨.refl R, R, .refl _ _⟩
theorem Now.trans {w1 w2 : World} {μ1 μ2 : List Hd} {b1 b2 : List Blk} (x : Now F w μ b w1 μ1 b1) (y : Now F w1 μ1 b1 w2 μ2 b2) : Now F w μ b w2 μ2 b2 :=
  ⟨x.upd.trans y.upd, y.rel, Fr.step x.upd x.fr y.fr⟩
theorem Post.now {w' : World} {μ' : List Hd} {b' : List Blk} {x : AVal} {v : Value} (p : Post F w μ b w' μ' b' x v) : Now F w μ b w' μ' b' := ⟨p.upd, p.rel, p.fr⟩

theorem skipped_rel : ARel N w μ b skipped undef := ⟨[], rfl, rfl⟩

theorem getD_some {t : List AVal} {g : Nat} {x : AVal} (h : t.getD g .un = x) (hx : x ≠ .un) : t[g]? = some x := by
  rw [List.getD_eq_getElem?_getD] at h
  cases ht : t[g]? with
  | none => rw [ht] at h; exact (hx h.symm).elim
  | some y => rw [ht] at h; simp at h; rw [h]

theorem TRel.at {t : List AVal} {a : Act} {g : Nat} {x : AVal} (ht : TRel N w μ b t a) (h : t[g]? = some x) : ∃ v, a.tmps[g]? = some v ∧ ARel N w μ b x v := by
  obtain ⟨v, hv, hr, _⟩ := AsRel.get ht.1 h
  exact ⟨v, by simpa using hv, hr⟩

/-- Slots that operations leave alone. -/
structure Same (l : List Oper) (a a' : Act) : Prop where
  size : a'.tmps.size = a.tmps.size
  at_ : ∀ i, (∀ o ∈ l, o.dst ≠ some i) → a'.tmps[i]? = a.tmps[i]?
theorem Same.refl {l : List Oper} {a : Act} : Same l a a := ⟨rfl, fun _ _ => rfl⟩
theorem Same.trans {l : List Oper} {a b c : Act} (x : Same l a b) (y : Same l b c) : Same l a c := ⟨y.size.trans x.size, fun i h => (y.at_ i h).trans (x.at_ i h)⟩
theorem Same.put {l : List Oper} {a : Act} {o : Oper} (h : o ∈ l) (v : Value) : Same l a (a.put o.dst v) := by
  unfold Act.put
  cases hd : o.dst with
  | none => exact .refl
  | some d =>
    refine ⟨by simp, fun i hi => ?_⟩
    have : d ≠ i := fun e => hi o h (by rw [hd, e])
    simp [Array.getElem?_setIfInBounds_ne this]
theorem Same.mono {l l' : List Oper} {a b : Act} (h : Same l a b) (hs : ∀ o ∈ l, o ∈ l') : Same l' a b := ⟨h.size, fun i hi => h.at_ i fun o ho => hi o (hs o ho)⟩

theorem stepK_sound {E : Env} {C : CallT} {ro : Bool} (hC : COk E C) (ops : Array Oper) {o : Oper} {t : List AVal} {b : List Blk} {a : Act} {w : World} {μ : List Hd} {K : Bool → List AVal → List AVal → List Blk → Option R'}
    (R : Rel F w μ b) (ht : TRel (Or F (Own μ b)) w μ b t a) (h : stepK E C ro ops o t b K = some r) (Q : Exit → Act → World → Prop) (next : Act → World → Prop)
    (hq : ∀ ran t1 t' b' a' w' μ', K ran t1 t' b' = some r → (ro = true → b' = b) → Now F w μ b w' μ' b' → TRel (Or F (Own μ' b')) w' μ' b' t' a' → Same [o] a a' → next a' w') :
    if Region.wanted o (yielded ops a.tmps) then o.wp E.P a w next Q else next (a.put o.dst undef) w := by
  -- an operation that is carried out
  have go : ∀ {t : List AVal}, TRel (Or F (Own μ b)) w μ b t a → Region.wanted o (yielded ops a.tmps) = true →
      br (ro && !roOp E o t) none (opK E C b.length o t b fun x b => K true t (putA t o.dst x) b) = some r → if Region.wanted o (yielded ops a.tmps) then o.wp E.P a w next Q else next (a.put o.dst undef) w := by
    intro t ht hw h
    rcases br_some h with ⟨_, h⟩ | ⟨hr0, h⟩
    · cases h
    obtain ⟨y, b1, h, hro, hgo⟩ := opK_sound (E := E) rfl R (.inl rfl) ht (fun g args vs h ha => callK_sound hC R (.inl rfl) ha h) (fun c cs h => apF_sound hC R h) h
    rw [if_pos hw]
    refine hgo _ _ fun v w1 μ1 p => ?_
    exact hq _ _ _ _ _ _ _ h (fun e => hro (by rw [e] at hr0; simpa using hr0)) p.now ((TRel.upd p.upd ht).put o.dst p.val) (.put (by simp) v)
  -- an operation that is passed over
  have skip : ∀ {t t1 : List AVal}, TRel (Or F (Own μ b)) w μ b t a → Region.wanted o (yielded ops a.tmps) = false →
      K false t1 (putA t o.dst skipped) b = some r → if Region.wanted o (yielded ops a.tmps) then o.wp E.P a w next Q else next (a.put o.dst undef) w := by
    intro t t1 ht hw h
    rw [if_neg (by simp [hw])]
    exact hq _ _ _ _ _ _ _ h (fun _ => rfl) (.refl R) (ht.put o.dst skipped_rel) (.put (by simp) _)
  unfold stepK at h
  split at h
  · rename_i hg
    exact go ht (by simp [Region.wanted, hg]) h
  · rename_i j want hg
    split at h
    · cases h
    · rename_i g hgs
      have hy : ∀ v, a.tmps[g]? = some v → yielded ops a.tmps j = match v with | .bool b => some b | _ => none := by
        intro v hv
        unfold guardSlot at hgs
        simp only [yielded, hgs, Option.bind_some, hv]
        cases v <;> rfl
      split at h
      · rename_i c hc
        obtain ⟨v, hv, hr⟩ := ht.at (getD_some hc (by simp))
        obtain ⟨p, hp, h⟩ := bind_some' h
        cases c <;> simp [CVal.asBool] at hp
        rename_i p'
        subst hp
        have hvb : v = .bool p' := hr
        subst hvb
        have hyy := hy _ hv
        simp only at hyy
        have hset : TRel (Or F (Own μ b)) w μ b (t.set g (.v (.bool p'))) a := by
          refine ht.set g fun v' hv' => ?_
          rw [hv] at hv'; cases hv'
          rfl
        cases p' with
        | true =>
          rcases br_some h with ⟨_, h⟩ | ⟨h0, _⟩
          · cases want with
            | true =>
              rcases br_some h with ⟨_, h⟩ | ⟨h0, _⟩
              · exact go hset (by simp [Region.wanted, hg, hyy]) h
              · cases h0
            | false =>
              rcases br_some h with ⟨h0, _⟩ | ⟨_, h⟩
              · cases h0
              · exact skip hset (by simp [Region.wanted, hg, hyy]) h
          · cases h0
        | false =>
          rcases br_some h with ⟨h0, _⟩ | ⟨_, h⟩
          · cases h0
          · cases want with
            | true =>
              rcases br_some h with ⟨_, h⟩ | ⟨h0, _⟩
              · exact skip hset (by simp [Region.wanted, hg, hyy]) h
              · cases h0
            | false =>
              rcases br_some h with ⟨h0, _⟩ | ⟨_, h⟩
              · cases h0
              · exact go hset (by simp [Region.wanted, hg, hyy]) h
      · rename_i hc
        obtain ⟨v, hv, hr⟩ := ht.at (getD_some hc (by simp))
        obtain ⟨vs, rfl, hvs⟩ := hr
        have hyy := hy _ hv
        exact skip ht (by simp [Region.wanted, hg, hyy]) h
      · cases h

theorem evOps_sound {E : Env} {C : CallT} {ro : Bool} (hC : COk E C) (ops : Array Oper) : ∀ (l : List Oper) {t : List AVal} {b : List Blk} {a : Act} {w : World} {μ : List Hd} {K : List AVal → List Blk → Option R'},
    Rel F w μ b → TRel (Or F (Own μ b)) w μ b t a → evOps E C ro ops l t b K = some r → ∀ Q : Exit → Act → World → Prop,
      (∀ t' b' a' w' μ', K t' b' = some r → (ro = true → b' = b) → Now F w μ b w' μ' b' → TRel (Or F (Own μ' b')) w' μ' b' t' a' → Same l a a' → Q .normal a' w') → wpList E.P ops Q l a w
  | [], t, b, a, w, μ, K, R, ht, h, Q, hq => hq t b a w μ h (fun _ => rfl) (.refl R) ht .refl
  | o :: rest, t, b, a, w, μ, K, R, ht, h, Q, hq => by
    simp only [evOps] at h
    have key := stepK_sound hC ops R ht h Q (wpList E.P ops Q rest) fun ran t1 t' b' a' w' μ' hK hro hn ht' hs => by
      refine evOps_sound hC ops rest hn.rel ht' hK Q fun t2 b2 a2 w2 μ2 hK2 hro2 hn2 ht2 hs2 => ?_
      exact hq t2 b2 a2 w2 μ2 hK2 (fun e => (hro2 e).trans (hro e)) (hn.trans hn2) ht2 ((hs.mono fun o ho => by simp at ho; simp [ho]).trans (hs2.mono fun o ho => by simp [ho]))
    unfold wpList
    split
    · rename_i hw
      rw [if_pos hw] at key
      exact .inl key
    · rename_i hw
      rw [if_neg hw] at key
      exact key
end
end Go.Proofs.YtomkegeojknihaaDoor.Abs

/-! What is kept where ways meet. -/
namespace Go.Proofs.YtomkegeojknihaaDoor.Abs
open Go
variable [Glob]

section
variable {P : Program} {w : World} {F N M : Nat → Prop} {μ : List Hd} {b : List Blk} {R' : Type} {r : R'}

def gfind : List (Nat × Hd) → Nat → Option Hd
  | [], _ => none
  | (j', h) :: r, j => if j' = j then some h else gfind r j

theorem find_cons {m : Bind} {j j' : Nat} {x : Option Nat} : Bind.find ((j', x) :: m) j = if j' = j then some x else m.find j := by
  simp only [Bind.find]
  by_cases h : j' = j
  · simp [h, br]
  · rw [if_neg h, show (j' == j) = false by simpa using h]; rfl

theorem find_holds : ∀ {m : Bind} {j i : Nat}, m.find j = some (some i) → m.holds i = true
  | [], _, _, h => by simp [Bind.find] at h
  | (j', x) :: r, j, i, h => by
    rw [find_cons] at h
    split at h
    · simp at h; subst h; simp [Bind.holds]
    · have := find_holds h
      cases x <;> simp [Bind.holds, this]

structure BG (μ : List Hd) (sz : Nat → Nat) (m : Bind) (g : List (Nat × Hd)) : Prop where
  keys : ∀ j, m.find j = none ↔ gfind g j = none
  bound : ∀ j i, m.find j = some (some i) → ∃ h, gfind g j = some h ∧ μ[i]? = some h
  fresh : ∀ j, m.find j = some none → ∃ base, gfind g j = some (.arr base 0 0 (sz j))
  inj : ∀ j j' i, m.find j = some (some i) → m.find j' = some (some i) → j = j'

structure Ext (m : Bind) (g : List (Nat × Hd)) (m' : Bind) (g' : List (Nat × Hd)) : Prop where
  m : ∀ j x, m.find j = some x → m'.find j = some x
  g : ∀ j h, gfind g j = some h → gfind g' j = some h

theorem Ext.refl {m : Bind} {g : List (Nat × Hd)} : Ext m g m g := ⟨fun _ _ h => h, fun _ _ h => h⟩
theorem Ext.trans {m1 m2 m3 : Bind} {g1 g2 g3 : List (Nat × Hd)} (x : Ext m1 g1 m2 g2) (y : Ext m2 g2 m3 g3) : Ext m1 g1 m3 g3 := ⟨fun j a h => y.m j a (x.m j a h), fun j a h => y.g j a (x.g j a h)⟩

theorem BG.add {sz : Nat → Nat} {m : Bind} {g : List (Nat × Hd)} (B : BG μ sz m g) {j i : Nat} {h : Hd} (hj : m.find j = none) (hi : m.holds i = false) (hm : μ[i]? = some h) :
    BG μ sz ((j, some i) :: m) ((j, h) :: g) ∧ Ext m g ((j, some i) :: m) ((j, h) :: g) := by
  refine ⟨⟨fun k => ?_, fun k i' hk => ?_, fun k hk => ?_, fun k k' i' hk hk' => ?_⟩, ⟨fun k x hk => ?_, fun k x hk => ?_⟩⟩
  · rw [find_cons]; simp only [gfind]
    by_cases e : j = k <;> simp [e, B.keys k]
  · rw [find_cons] at hk; simp only [gfind]
    by_cases e : j = k
    · simp [e] at hk; subst hk; exact ⟨h, by simp [e], hm⟩
    · simp [e] at hk ⊢; exact B.bound k i' hk
  · rw [find_cons] at hk; simp only [gfind]
    by_cases e : j = k
    · simp [e] at hk
    · simp [e] at hk ⊢; exact B.fresh k hk
  · rw [find_cons] at hk hk'
    by_cases e : j = k <;> by_cases e' : j = k'
    · rw [← e, e']
    · simp [e] at hk; subst hk
      simp [e'] at hk'
      have := find_holds hk'
      rw [hi] at this; cases this
    · simp [e'] at hk'; subst hk'
      simp [e] at hk
      have := find_holds hk
      rw [hi] at this; cases this
    · simp [e] at hk; simp [e'] at hk'; exact B.inj k k' i' hk hk'
  · rw [find_cons]
    by_cases e : j = k
    · subst e; rw [hj] at hk; cases hk
    · simp [e, hk]
  · simp only [gfind]
    by_cases e : j = k
    · subst e; rw [(B.keys j).1 hj] at hk; cases hk
    · simp [e, hk]

theorem BG.addNone {sz : Nat → Nat} {m : Bind} {g : List (Nat × Hd)} (B : BG μ sz m g) {j : Nat} {base : Option Addr} (hj : m.find j = none) :
    BG μ sz ((j, none) :: m) ((j, .arr base 0 0 (sz j)) :: g) ∧ Ext m g ((j, none) :: m) ((j, .arr base 0 0 (sz j)) :: g) := by
  refine ⟨⟨fun k => ?_, fun k i' hk => ?_, fun k hk => ?_, fun k k' i' hk hk' => ?_⟩, ⟨fun k x hk => ?_, fun k x hk => ?_⟩⟩
  · rw [find_cons]; simp only [gfind]
    by_cases e : j = k <;> simp [e, B.keys k]
  · rw [find_cons] at hk; simp only [gfind]
    by_cases e : j = k
    · simp [e] at hk
    · simp [e] at hk ⊢; exact B.bound k i' hk
  · rw [find_cons] at hk; simp only [gfind]
    by_cases e : j = k
    · subst e; exact ⟨base, by simp⟩
    · simp [e] at hk ⊢; exact B.fresh k hk
  · rw [find_cons] at hk hk'
    by_cases e : j = k <;> by_cases e' : j = k'
    · rw [← e, e']
    · simp [e] at hk
    · simp [e'] at hk'
    · simp [e] at hk; simp [e'] at hk'; exact B.inj k k' i' hk hk'
  · rw [find_cons]
    by_cases e : j = k
    · subst e; rw [hj] at hk; cases hk
    · simp [e, hk]
  · simp only [gfind]
    by_cases e : j = k
    · subst e; rw [(B.keys j).1 hj] at hk; cases hk
    · simp [e, hk]

/-- What a kept value stands for. -/
def VR (N : Nat → Prop) (w : World) (g : List (Nat × Hd)) : (kd : Kd) → kd.T → Value → Prop
  | .int k, n, v => v = .int k n
  | .bool, p, v => v = .bool p
  | .str, s, v => v = .string ⟨List.toArray s⟩
  | .sl, s, v => CRel N w (.sl s) v
  | .cv, c, v => CRel N w c v
  | .lp j, _, v => ∃ x, gfind g j = some (.box x) ∧ v = .pointer (some (pl x 0))
  | .lr j, _, v => ∃ base len cap sz, gfind g j = some (.arr base len cap sz) ∧ v = .slice base len cap
  | .fn f, _, v => CRel N w (.func f []) v

theorem VR.ext {m m' : Bind} {g g' : List (Nat × Hd)} (e : Ext m g m' g') : ∀ {kd : Kd} {y : kd.T} {v : Value}, VR N w g kd y v → VR N w g' kd y v
  | .int _, _, _, h => h
  | .bool, _, _, h => h
  | .str, _, _, h => h
  | .sl, _, _, h => h
  | .cv, _, _, h => h
  | .lp j, _, _, ⟨x, h, hv⟩ => ⟨x, e.g _ _ h, hv⟩
  | .lr j, _, _, ⟨a, b, c, d, h, hv⟩ => ⟨a, b, c, d, e.g _ _ h, hv⟩
  | .fn _, _, _, h => h

theorem packV_sound {sz : Nat → Nat} {m : Bind} {g : List (Nat × Hd)} {x : AVal} {v : Value} (R : Rel F w μ b) (B : BG μ sz m g) (hx : ARel (Or F (Own μ b)) w μ b x v) :
    ∀ {kd : Kd} {K : kd.T → Bind → Option R'}, packV b kd x m K = some r → ∃ y m' g', K y m' = some r ∧ BG μ sz m' g' ∧ Ext m g m' g' ∧ VR (Or F (Own μ b)) w g' kd y v
  | .int k, K, h => by
    obtain ⟨n, hv, h⟩ := wInt_sound hx h
    exact ⟨n, m, g, h, B, .refl, hv⟩
  | .bool, K, h => by
    obtain ⟨n, hv, h⟩ := wBool_sound hx h
    exact ⟨n, m, g, h, B, .refl, hv⟩
  | .str, K, h => by
    obtain ⟨n, hv, h⟩ := wStr_sound hx h
    exact ⟨n, m, g, h, B, .refl, hv⟩
  | .sl, K, h => by
    simp only [packV] at h
    split at h
    · rename_i c
      obtain ⟨s, hs, h⟩ := bind_some' h
      cases c <;> simp [CVal.asSl] at hs
      subst hs
      exact ⟨_, m, g, h, B, .refl, hx⟩
    · obtain ⟨base, rfl⟩ := hx
      exact ⟨[], m, g, h, B, .refl, base, 0, rfl, Nat.le_refl _, .inl rfl⟩
    · cases h
  | .cv, K, h => by
    simp only [packV] at h
    split at h
    · exact ⟨_, m, g, h, B, .refl, hx⟩
    · cases h
  | .fn f, K, h => by
    simp only [packV] at h
    split at h
    · rename_i g'
      obtain ⟨hf, h'⟩ := br_none h
      have : g' = f := by simpa using hf
      subst this
      exact ⟨(), m, g, h', B, .refl, hx⟩
    · cases h
  | .lp j, K, h => by
    simp only [packV] at h
    split at h
    · rename_i i
      obtain ⟨x, hm, rfl⟩ := hx
      split at h
      · rename_i hj
        rcases br_some h with ⟨_, h⟩ | ⟨hi, h⟩
        · cases h
        obtain ⟨B', e⟩ := B.add (h := .box x) hj hi (by simpa using hm)
        exact ⟨(), _, _, h, B', e, x, by simp [gfind], by simp⟩
      · rename_i i' hj
        obtain ⟨hi, h'⟩ := br_none h
        clear h
        have : i' = i := by simpa using hi
        subst this
        have h := h'
        obtain ⟨hh, hg, hmm⟩ := B.bound j _ hj
        rw [hm] at hmm; cases hmm
        exact ⟨(), m, g, h, B, .refl, x, hg, by simp⟩
      · cases h
    · cases h
  | .lr j, K, h => by
    simp only [packV] at h
    split at h
    · rename_i i ver
      obtain ⟨xs, hxs, h⟩ := bind_some' h
      obtain ⟨sz', base, cap, hb, hm, hl, hc⟩ := R.arr hxs
      obtain ⟨_, blk, hd, hb', hm', _, _, hcur⟩ := hx
      rw [hb] at hb'; cases hb'
      rw [hm] at hm'; cases hm'
      have hv := hcur rfl rfl
      subst hv
      split at h
      · rename_i hj
        rcases br_some h with ⟨_, h⟩ | ⟨hi, h⟩
        · cases h
        obtain ⟨B', e⟩ := B.add hj hi hm
        exact ⟨(), _, _, h, B', e, base, xs.length, cap, sz', by simp [gfind], rfl⟩
      · rename_i i' hj
        obtain ⟨hi, h'⟩ := br_none h
        clear h
        have : i' = i := by simpa using hi
        subst this
        have h := h'
        obtain ⟨hh, hg, hmm⟩ := B.bound j _ hj
        rw [hm] at hmm; cases hmm
        exact ⟨(), m, g, h, B, .refl, base, xs.length, cap, sz', hg, rfl⟩
      · cases h
    · obtain ⟨base, rfl⟩ := hx
      split at h
      · rename_i hj
        obtain ⟨B', e⟩ := B.addNone (base := base) hj
        exact ⟨(), _, _, h, B', e, base, 0, 0, sz j, by simp [gfind], rfl⟩
      · cases h
    · cases h

/-- The slots that are kept. -/
def SlotsR (N : Nat → Prop) (w : World) (g : List (Nat × Hd)) (a : Act) : (l : List (Nat × Kd)) → SsT l → Prop
  | [], _ => True
  | (i, kd) :: r, y => (∃ v, a.tmps[i]? = some v ∧ VR N w g kd y.1 v) ∧ SlotsR N w g a r y.2
theorem SlotsR.ext {m m' : Bind} {g g' : List (Nat × Hd)} {a : Act} (e : Ext m g m' g') : ∀ {l : List (Nat × Kd)} {y : SsT l}, SlotsR N w g a l y → SlotsR N w g' a l y
  | [], _, _ => trivial
  | _ :: _, _, ⟨⟨v, hv, h⟩, k⟩ => ⟨⟨v, hv, VR.ext e h⟩, SlotsR.ext e k⟩

theorem packV_un : ∀ {kd : Kd} {m : Bind} {K : kd.T → Bind → Option R'}, packV b kd .un m K = some r → False
  | .int _, _, _, h => by simp [packV, wInt] at h
  | .bool, _, _, h => by simp [packV, wBool] at h
  | .str, _, _, h => by simp [packV, wStr] at h
  | .sl, _, _, h => by simp [packV] at h
  | .cv, _, _, h => by simp [packV] at h
  | .lp _, _, _, h => by simp [packV] at h
  | .lr _, _, _, h => by simp [packV] at h
  | .fn _, _, _, h => by simp [packV] at h

theorem packSlots_sound {sz : Nat → Nat} {a : Act} {t : List AVal} (R : Rel F w μ b) (ht : TRel (Or F (Own μ b)) w μ b t a) : ∀ {l : List (Nat × Kd)} {m : Bind} {g : List (Nat × Hd)} {K : SsT l → Bind → Option R'}, BG μ sz m g →
    packSlots t b l m K = some r → ∃ y m' g', K y m' = some r ∧ BG μ sz m' g' ∧ Ext m g m' g' ∧ SlotsR (Or F (Own μ b)) w g' a l y
  | [], m, g, K, B, h => ⟨(), m, g, h, B, .refl, trivial⟩
  | (i, kd) :: rest, m, g, K, B, h => by
    simp only [packSlots] at h
    cases hi : t[i]? with
    | none =>
      rw [List.getD_eq_getElem?_getD, hi] at h
      exact (packV_un h).elim
    | some x =>
      rw [List.getD_eq_getElem?_getD, hi] at h
      obtain ⟨v, hv, hr⟩ := ht.at hi
      obtain ⟨y, m1, g1, h, B1, e1, hy⟩ := packV_sound R B hr h
      obtain ⟨ys, m2, g2, h, B2, e2, hys⟩ := packSlots_sound R ht B1 h
      exact ⟨(y, ys), m2, g2, h, B2, e1.trans e2, ⟨v, hv, VR.ext e2 hy⟩, hys⟩

/-- The cells that are kept. -/
def CellsR (N : Nat → Prop) (w : World) (g : List (Nat × Hd)) : (l : List Kd) → KsT l → List Value → Prop
  | [], _, vs => vs = []
  | kd :: r, y, vs => ∃ u us, vs = u :: us ∧ VR N w g kd y.1 u ∧ flat u = true ∧ CellsR N w g r y.2 us
theorem CellsR.ext {m m' : Bind} {g g' : List (Nat × Hd)} (e : Ext m g m' g') : ∀ {l : List Kd} {y : KsT l} {vs : List Value}, CellsR N w g l y vs → CellsR N w g' l y vs
  | [], _, _, h => h
  | _ :: _, _, _, ⟨u, us, hv, h, hf, k⟩ => ⟨u, us, hv, VR.ext e h, hf, CellsR.ext e k⟩

theorem packCells_sound {sz : Nat → Nat} (R : Rel F w μ b) : ∀ {l : List Kd} {cs : List AVal} {vs : List Value} {m : Bind} {g : List (Nat × Hd)} {K : KsT l → Bind → Option R'}, BG μ sz m g →
    AsRel (Or F (Own μ b)) w μ b true cs vs → packCells b l cs m K = some r → ∃ y m' g', K y m' = some r ∧ BG μ sz m' g' ∧ Ext m g m' g' ∧ CellsR (Or F (Own μ b)) w g' l y vs
  | [], [], vs, m, g, K, B, ha, h => ⟨(), m, g, h, B, .refl, ha⟩
  | [], _ :: _, vs, m, g, K, B, ha, h => by simp [packCells] at h
  | _ :: _, [], vs, m, g, K, B, ha, h => by simp [packCells] at h
  | kd :: rest, x :: cs, vs, m, g, K, B, ha, h => by
    simp only [packCells] at h
    obtain ⟨u, us, rfl, hx, hf, ha⟩ := ha
    obtain ⟨y, m1, g1, h, B1, e1, hy⟩ := packV_sound R B hx h
    obtain ⟨ys, m2, g2, h, B2, e2, hys⟩ := packCells_sound R B1 ha h
    exact ⟨(y, ys), m2, g2, h, B2, e1.trans e2, u, us, rfl, VR.ext e2 hy, hf rfl, hys⟩

/-- The blocks that are kept. -/
def BlksR (N : Nat → Prop) (w : World) (b : List Blk) (m : Bind) (g : List (Nat × Hd)) : (l : List BK) → Nat → BsT l → Prop
  | [], _, _ => True
  | .arr sz :: r, j, y => ((∃ (i ver : Nat), m.find j = some (some i) ∧ b[i]? = some ⟨ver, .arr sz y.1⟩) ∨ (m.find j = some none ∧ y.1 = [])) ∧ BlksR N w b m g r (j + 1) y.2
  | .box ks :: r, j, y => (∃ (i ver : Nat) (cs : List AVal) (x : Nat) (vs : List Value) (e : TypeId), m.find j = some (some i) ∧ b[i]? = some ⟨ver, .box cs⟩ ∧ gfind g j = some (.box x) ∧ w.heap[x]? = some (.cells vs.toArray e (0, 0)) ∧ CellsR N w g ks y.1 vs) ∧
      BlksR N w b m g r (j + 1) y.2
theorem BlksR.ext {m m' : Bind} {g g' : List (Nat × Hd)} (e : Ext m g m' g') : ∀ {l : List BK} {j : Nat} {y : BsT l}, BlksR N w b m g l j y → BlksR N w b m' g' l j y
  | [], _, _, _ => trivial
  | .arr sz :: r, j, y, ⟨h, k⟩ => ⟨h.imp (fun ⟨i, ver, h1, h2⟩ => ⟨i, ver, e.m _ _ h1, h2⟩) (fun ⟨h1, h2⟩ => ⟨e.m _ _ h1, h2⟩), BlksR.ext e k⟩
  | .box ks :: r, j, y, ⟨⟨i, ver, cs, x, vs, ee, h1, h2, h3, h4, h5⟩, k⟩ => ⟨⟨i, ver, cs, x, vs, ee, e.m _ _ h1, h2, e.g _ _ h3, h4, CellsR.ext e h5⟩, BlksR.ext e k⟩

theorem packBlks_sound {sz : Nat → Nat} (R : Rel F w μ b) : ∀ {l : List BK} {j : Nat} {m : Bind} {g : List (Nat × Hd)} {K : BsT l → Bind → Option R'}, BG μ sz m g →
    packBlks b l j m K = some r → ∃ y m' g', K y m' = some r ∧ BG μ sz m' g' ∧ Ext m g m' g' ∧ BlksR (Or F (Own μ b)) w b m' g' l j y
  | [], j, m, g, K, B, h => ⟨(), m, g, h, B, .refl, trivial⟩
  | .arr s :: rest, j, m, g, K, B, h => by
    simp only [packBlks] at h
    split at h
    · rename_i i hj
      obtain ⟨xs, hxs, h⟩ := bind_some' h
      obtain ⟨hsz, h⟩ := br_none h
      obtain ⟨sz', base, cap, hb, _⟩ := R.arr hxs
      have : sz' = s := by simp [szOf, hb] at hsz; exact hsz
      subst this
      obtain ⟨ys, m2, g2, h, B2, e2, hys⟩ := packBlks_sound R B h
      exact ⟨(xs, ys), m2, g2, h, B2, e2, .inl ⟨i, _, e2.m _ _ hj, hb⟩, hys⟩
    · rename_i hj
      obtain ⟨ys, m2, g2, h, B2, e2, hys⟩ := packBlks_sound R B h
      exact ⟨([], ys), m2, g2, h, B2, e2, .inr ⟨e2.m _ _ hj, rfl⟩, hys⟩
    · cases h
  | .box ks :: rest, j, m, g, K, B, h => by
    simp only [packBlks] at h
    split at h
    · rename_i i hj
      obtain ⟨cs, hcs, h⟩ := bind_some' h
      obtain ⟨ver, x, vs, e, hb, hm, hw, ha, _⟩ := R.box hcs
      obtain ⟨y, m1, g1, h, B1, e1, hy⟩ := packCells_sound R B ha h
      obtain ⟨ys, m2, g2, h, B2, e2, hys⟩ := packBlks_sound R B1 h
      obtain ⟨hh, hg, hmm⟩ := B.bound j i hj
      rw [hm] at hmm; cases hmm
      exact ⟨(y, ys), m2, g2, h, B2, e1.trans e2, ⟨i, ver, cs, x, vs, e, e2.m _ _ (e1.m _ _ hj), hb, e2.g _ _ (e1.g _ _ hg), hw, CellsR.ext e2 hy⟩, hys⟩
    · cases h
end
end Go.Proofs.YtomkegeojknihaaDoor.Abs

/-! What is kept where ways meet, joined. -/
namespace Go.Proofs.YtomkegeojknihaaDoor.Abs
open Go
variable [Glob]

section
variable {P : Program} {w : World} {F N M : Nat → Prop} {μ : List Hd} {b : List Blk} {R' : Type} {r : R'}

/-- From a moment to a later one, where blocks may have got other numbers: but for the first n. -/
structure NowL (n : Nat) (F : Nat → Prop) (w : World) (μ : List Hd) (b : List Blk) (w' : World) (μ' : List Hd) (b' : List Blk) : Prop where
  rel : Rel F w' μ' b'
  box : ∀ (j x : Nat), j < n → μ[j]? = some (.box x) → μ'[j]? = some (.box x)
  own : ∀ x, Own μ' b' x → x < w'.heap.size ∧ (w.heap.size ≤ x ∨ Own μ b x)
  fr : Fr (Own μ b) w w'
  len : n ≤ b'.length

theorem NowL.refl {n : Nat} (R : Rel F w μ b) (h : n ≤ b.length) : NowL n F w μ b w μ b :=
  ⟨R, fun _ _ _ h => h, fun x hx => ⟨(R.fres x hx).2, .inr hx⟩, .refl _ _, h⟩
theorem NowL.trans {n : Nat} {w1 w2 : World} {μ1 μ2 : List Hd} {b1 b2 : List Blk} (x : NowL n F w μ b w1 μ1 b1) (y : NowL n F w1 μ1 b1 w2 μ2 b2) : NowL n F w μ b w2 μ2 b2 := by
  refine ⟨y.rel, fun j z hj h => y.box j z hj (x.box j z hj h), fun z hz => ?_, x.fr.trans y.fr fun z hz ho => ?_, y.len⟩
  · obtain ⟨h1, h2⟩ := y.own z hz
    refine ⟨h1, ?_⟩
    rcases h2 with h2 | h2
    · exact .inl (Nat.le_trans x.fr.size h2)
    · exact (x.own z h2).2
  · rcases (x.own z ho).2 with h | h
    · omega
    · exact h
theorem Now.toL {n : Nat} {w' : World} {μ' : List Hd} {b' : List Blk} (h : Now F w μ b w' μ' b') (hn : n ≤ b.length) : NowL n F w μ b w' μ' b' := by
  refine ⟨h.rel, fun j x hj hm => ?_, h.upd.own, h.fr, ?_⟩
  · have hb : j < b.length := by omega
    obtain ⟨blk', h', _, hm', V⟩ := h.upd.old j _ _ (List.getElem?_eq_getElem hb) hm
    rw [hm', V.box x rfl]
  · cases n with
    | zero => exact Nat.zero_le _
    | succ k =>
      have hb : k < b.length := by omega
      have hk : k < μ.length := by rw [h.upd.len0]; exact hb
      obtain ⟨blk', h', hb', _⟩ := h.upd.old k _ _ (List.getElem?_eq_getElem hb) (List.getElem?_eq_getElem hk)
      exact (List.getElem?_eq_some_iff.1 hb').1

def hsG (g : List (Nat × Hd)) (n : Nat) : List Hd := (List.range n).map fun j => (gfind g j).getD .none

theorem hsG_at {g : List (Nat × Hd)} {n j : Nat} {h : Hd} (hj : j < n) (hg : gfind g j = some h) : (hsG g n)[j]? = some h := by
  unfold hsG
  rw [List.getElem?_map]
  simp [hj, hg]
theorem hsG_get {g : List (Nat × Hd)} {n j : Nat} {h : Hd} (hh : (hsG g n)[j]? = some h) : j < n ∧ h = (gfind g j).getD .none := by
  unfold hsG at hh
  rw [List.getElem?_map] at hh
  by_cases hj : j < n
  · simp [hj] at hh; exact ⟨hj, hh.symm⟩
  · simp [hj] at hh

theorem unBlks_len : ∀ {l : List BK} {y : BsT l}, (unBlks l y).length = l.length
  | [], _ => rfl
  | .arr _ :: r, y => by simp [unBlks, unBlks_len]
  | .box _ :: r, y => by simp [unBlks, unBlks_len]
theorem unBlks_ver : ∀ {l : List BK} {y : BsT l} {k : Nat} {blk : Blk}, (unBlks l y)[k]? = some blk → blk.ver = 0
  | [], _, _, _, h => by simp [unBlks] at h
  | .arr _ :: r, y, 0, _, h => by simp [unBlks] at h; subst h; rfl
  | .box _ :: r, y, 0, _, h => by simp [unBlks] at h; subst h; rfl
  | .arr _ :: r, y, k + 1, _, h => unBlks_ver (l := r) (by simpa [unBlks] using h)
  | .box _ :: r, y, k + 1, _, h => unBlks_ver (l := r) (by simpa [unBlks] using h)

def szOfK (l : List BK) (j : Nat) : Nat :=
  match l[j]? with
  | some (.arr s) => s
  | _ => 0

theorem blks_at {m : Bind} {g : List (Nat × Hd)} : ∀ {l : List BK} {j0 : Nat} {y : BsT l} {k : Nat} {blk : Blk}, BlksR N w b m g l j0 y → (unBlks l y)[k]? = some blk →
    (∃ sz xs, l[k]? = some (.arr sz) ∧ blk = ⟨0, .arr sz xs⟩ ∧ ((∃ (i ver : Nat), m.find (j0 + k) = some (some i) ∧ b[i]? = some ⟨ver, .arr sz xs⟩) ∨ (m.find (j0 + k) = some none ∧ xs = []))) ∨
    (∃ (ks : List Kd) (y' : KsT ks), blk = ⟨0, .box (unCells ks y')⟩ ∧ ∃ (i ver : Nat) (cs : List AVal) (x : Nat) (vs : List Value) (e : TypeId), m.find (j0 + k) = some (some i) ∧ b[i]? = some ⟨ver, .box cs⟩ ∧
      gfind g (j0 + k) = some (.box x) ∧ w.heap[x]? = some (.cells vs.toArray e (0, 0)) ∧ CellsR N w g ks y' vs)
  | [], _, _, _, _, _, h => by simp [unBlks] at h
  | .arr sz :: r, j0, y, 0, blk, hB, h => by
    simp [unBlks] at h; subst h
    exact .inl ⟨sz, y.1, rfl, rfl, hB.1⟩
  | .box ks :: r, j0, y, 0, blk, hB, h => by
    simp [unBlks] at h; subst h
    exact .inr ⟨ks, y.1, rfl, hB.1⟩
  | .arr sz :: r, j0, y, k + 1, blk, hB, h => by
    have := blks_at (l := r) (k := k) hB.2 (by simpa [unBlks] using h)
    rw [show j0 + 1 + k = j0 + (k + 1) by omega] at this
    simpa using this
  | .box ks :: r, j0, y, k + 1, blk, hB, h => by
    have := blks_at (l := r) (k := k) hB.2 (by simpa [unBlks] using h)
    rw [show j0 + 1 + k = j0 + (k + 1) by omega] at this
    simpa using this

theorem find_map {f : Nat → Option Nat} : ∀ {l : List Nat} {k : Nat}, Bind.find (l.map fun j => (j, f j)) k = if k ∈ l then some (f k) else none
  | [], _ => rfl
  | a :: r, k => by
    rw [List.map_cons, find_cons, find_map]
    by_cases h : a = k
    · subst h; simp
    · simp [h, Ne.symm h]
theorem gfind_map {f : Nat → Hd} : ∀ {l : List Nat} {k : Nat}, gfind (l.map fun j => (j, f j)) k = if k ∈ l then some (f k) else none
  | [], _ => rfl
  | a :: r, k => by
    simp only [List.map_cons, gfind]
    rw [gfind_map]
    by_cases h : a = k
    · subst h; simp
    · simp [h, Ne.symm h]

theorem BG.init {sz : Nat → Nat} {np : Nat} (h : np ≤ μ.length) : BG μ sz (bind0 np) ((List.range np).map fun j => (j, (μ[j]?).getD .none)) := by
  have e1 : ∀ j, (bind0 np).find j = if j ∈ List.range np then some (some j) else none := fun j => find_map (f := some)
  have e2 : ∀ j, gfind ((List.range np).map fun j => (j, (μ[j]?).getD .none)) j = if j ∈ List.range np then some ((μ[j]?).getD .none) else none := fun j => gfind_map (f := fun j => (μ[j]?).getD .none)
  refine ⟨fun j => ?_, fun j i hj => ?_, fun j hj => ?_, fun j j' i hj hj' => ?_⟩
  · rw [e1, e2]; split <;> simp
  · rw [e1] at hj
    split at hj
    · rename_i hm
      simp at hj; subst hj
      have : j < μ.length := by simp at hm; omega
      exact ⟨μ[j], by rw [e2, if_pos hm]; simp [this], List.getElem?_eq_getElem this⟩
    · cases hj
  · rw [e1] at hj; split at hj <;> simp at hj
  · rw [e1] at hj hj'
    split at hj <;> split at hj' <;> simp at hj hj'
    rw [hj, hj']

theorem find_mem : ∀ {m : Bind} {j : Nat} {x : Option Nat}, m.find j = some x → ∃ p ∈ m, p.1 = j
  | [], _, _, h => by simp [Bind.find] at h
  | (j', y) :: r, j, x, h => by
    rw [find_cons] at h
    split at h
    · rename_i e; exact ⟨_, List.mem_cons_self, e⟩
    · obtain ⟨p, hp, e⟩ := find_mem h
      exact ⟨p, List.mem_cons_of_mem _ hp, e⟩

/-- Kept values, in their new frame. -/
theorem VR.rel {g : List (Nat × Hd)} {b2 : List Blk} {n : Nat} (hM : ∀ x, M x → N x) (hg : ∀ j h, gfind g j = some h → j < n) (hb : ∀ j, j < n → ∃ blk, b2[j]? = some blk ∧ blk.ver = 0) :
    ∀ {kd : Kd} {y : kd.T} {v : Value}, VR N w g kd y v → ARel M w (hsG g n) b2 (unV kd y) v
  | .int _, _, _, h => h
  | .bool, _, _, h => h
  | .str, _, _, h => h
  | .sl, _, _, h => CRel.keep (Keep.sub hM) h
  | .cv, _, _, h => CRel.keep (Keep.sub hM) h
  | .fn _, _, _, h => CRel.keep (Keep.sub hM) h
  | .lp j, _, _, ⟨x, h, hv⟩ => ⟨x, hsG_at (hg _ _ h) h, hv⟩
  | .lr j, _, _, ⟨base, len, cap, sz, h, hv⟩ => by
    obtain ⟨blk, hb, h0⟩ := hb j (hg _ _ h)
    exact ⟨by rw [hv]; rfl, blk, _, hb, hsG_at (hg _ _ h) h, by simp, Nat.zero_le _, fun _ _ => hv⟩

theorem CellsR.rel {g : List (Nat × Hd)} {b2 : List Blk} {n : Nat} (hM : ∀ x, M x → N x) (hg : ∀ j h, gfind g j = some h → j < n) (hb : ∀ j, j < n → ∃ blk, b2[j]? = some blk ∧ blk.ver = 0) :
    ∀ {l : List Kd} {y : KsT l} {vs : List Value}, CellsR N w g l y vs → AsRel M w (hsG g n) b2 true (unCells l y) vs
  | [], _, _, h => h
  | _ :: _, _, _, ⟨u, us, hv, h, hf, k⟩ => ⟨u, us, hv, VR.rel hM hg hb h, fun _ => hf, CellsR.rel hM hg hb k⟩

theorem unrel (vs : List Value) : AsRel N w μ b false (List.replicate vs.length .un) vs := by
  induction vs with
  | nil => rfl
  | cons v r ih => exact ⟨v, r, rfl, trivial, by simp, ih⟩

theorem SlotsR.rel {g : List (Nat × Hd)} {b2 : List Blk} {n : Nat} {a : Act} (hM : ∀ x, M x → N x) (hg : ∀ j h, gfind g j = some h → j < n) (hb : ∀ j, j < n → ∃ blk, b2[j]? = some blk ∧ blk.ver = 0) :
    ∀ {l : List (Nat × Kd)} {y : SsT l} {t : List AVal}, SlotsR N w g a l y → TRel M w (hsG g n) b2 t a → TRel M w (hsG g n) b2 (unSlots l y t) a
  | [], _, t, _, ht => ht
  | (i, kd) :: r, y, t, ⟨⟨v, hv, h⟩, k⟩, ht => SlotsR.rel (l := r) (y := y.2) hM hg hb k (ht.set i fun v' hv' => by rw [hv] at hv'; cases hv'; exact VR.rel hM hg hb h)

theorem packK_sound {np : Nat} {ks : LK} {s : St} {a : Act} {K : ks.T → Option R'} (R : Rel F w μ s.b) (ht : TRel (Or F (Own μ s.b)) w μ s.b s.t a) (hnp : np ≤ s.b.length) (h : packK np ks s K = some r) :
    ∃ p μ2, K p = some r ∧ NowL np F w μ s.b w μ2 (unpack a.tmps.size ks p).b ∧ TRel (Or F (Own μ2 (unpack a.tmps.size ks p).b)) w μ2 (unpack a.tmps.size ks p).b (unpack a.tmps.size ks p).t a := by
  unfold packK at h
  obtain ⟨hn, h⟩ := br_none h
  simp only [decide_eq_true_eq] at hn
  obtain ⟨x, m1, g1, h, B1, e1, hx⟩ := packSlots_sound R ht (BG.init (sz := szOfK ks.blks) (by rw [R.len]; exact hnp)) h
  obtain ⟨y, m2, g2, h, B2, e2, hy⟩ := packBlks_sound R B1 h
  obtain ⟨hall, h⟩ := br_none h
  replace hx := SlotsR.ext e2 hx
  have hg : ∀ j h, gfind g2 j = some h → j < ks.blks.length := by
    intro j h hj
    have : m2.find j ≠ none := fun e => by rw [(B2.keys j).1 e] at hj; cases hj
    obtain ⟨z, hz⟩ := Option.ne_none_iff_exists'.1 this
    obtain ⟨p, hp, e⟩ := find_mem hz
    have := List.all_eq_true.1 hall p hp
    simp at this; omega
  have hb2 : ∀ j, j < ks.blks.length → ∃ blk, (unBlks ks.blks y)[j]? = some blk ∧ blk.ver = 0 := by
    intro j hj
    have hj' : j < (unBlks ks.blks y).length := by rw [unBlks_len]; exact hj
    exact ⟨_, List.getElem?_eq_getElem hj', unBlks_ver (List.getElem?_eq_getElem hj')⟩
  -- whoever owns in the new frame owned before
  have own : ∀ (j : Nat) (blk : Blk) (hd : Hd) (z : Nat), (unBlks ks.blks y)[j]? = some blk → (hsG g2 ks.blks.length)[j]? = some hd → hd.own = some z →
      ∃ (i : Nat) (blk' : Blk), m2.find j = some (some i) ∧ True ∧ s.b[i]? = some blk' ∧ alive blk'.body = true ∧ μ[i]? = some hd := by
    intro j blk hd z hb hm ho
    obtain ⟨hj, rfl⟩ := hsG_get hm
    rcases blks_at hy hb with ⟨sz, xs, hl, rfl, ⟨i, ver, hi, hbi⟩ | ⟨hi, _⟩⟩ | ⟨ks', y', rfl, i, ver, cs, x', vs, e, hi, hbi, hgx, _⟩
    · rw [Nat.zero_add] at hi
      obtain ⟨h0, hg0, hm0⟩ := B2.bound j i hi
      exact ⟨i, _, hi, trivial, hbi, rfl, by rw [hg0]; exact hm0⟩
    · rw [Nat.zero_add] at hi
      obtain ⟨base, hg0⟩ := B2.fresh j hi
      rw [hg0] at ho
      cases base <;> simp [Hd.own] at ho
    · rw [Nat.zero_add] at hi
      obtain ⟨h0, hg0, hm0⟩ := B2.bound j i hi
      exact ⟨i, _, hi, trivial, hbi, rfl, by rw [hg0]; exact hm0⟩
  have sub : ∀ z, Own (hsG g2 ks.blks.length) (unBlks ks.blks y) z → Own μ s.b z := by
    rintro z ⟨j, blk, hd, hb, ha, hm, ho⟩
    obtain ⟨i, blk', _, _, h1, h2, h3⟩ := own j blk hd z hb hm ho
    exact ⟨i, blk', hd, h1, h2, h3, ho⟩
  have hM : ∀ z, Or F (Own (hsG g2 ks.blks.length) (unBlks ks.blks y)) z → Or F (Own μ s.b) z := fun z hz => hz.imp id (sub z)
  refine ⟨(x, y), hsG g2 ks.blks.length, h, ⟨⟨?_, ?_, ?_, fun z hz => R.fres z (sub z hz), R.fbk, fun z hz => R.oid z (sub z hz)⟩, ?_, fun z hz => ⟨(R.fres z (sub z hz)).2, .inr (sub z hz)⟩, .refl _ _, ?_⟩, ?_⟩
  · simp [hsG, unpack, unBlks_len]
  · intro j blk hd hb hm
    obtain ⟨hj, rfl⟩ := hsG_get hm
    rcases blks_at hy hb with ⟨sz, xs, hl, rfl, ⟨i, ver, hi, hbi⟩ | ⟨hi, rfl⟩⟩ | ⟨ks', y', rfl, i, ver, cs, x', vs, e, hi, hbi, hgx, hw, hc⟩
    · rw [Nat.zero_add] at hi
      obtain ⟨h0, hg0, hm0⟩ := B2.bound j i hi
      obtain ⟨base, cap, h1, h2, h3⟩ := R.blk i _ _ hbi hm0
      rw [hg0]
      exact ⟨base, cap, h1, h2, h3.imp id fun ⟨z, cells, e, k1, k2, k3, k4⟩ => ⟨z, cells, e, k1, k2, k3, ElRel.keepAt (Keep.sub hM) rfl k4⟩⟩
    · rw [Nat.zero_add] at hi
      obtain ⟨base, hg0⟩ := B2.fresh j hi
      rw [hg0]
      have : szOfK ks.blks j = sz := by simp [szOfK, hl]
      exact ⟨base, 0, by rw [this]; rfl, Nat.le_refl _, .inl rfl⟩
    · rw [Nat.zero_add] at hgx
      rw [hgx]
      exact ⟨x', vs, e, rfl, hw, CellsR.rel hM hg hb2 hc⟩
  · intro j j' blk blk' hd hd' z hb hb' ha ha' hm hm' ho ho'
    obtain ⟨i, bi, hi, _, h1, h2, h3⟩ := own j blk hd z hb hm ho
    obtain ⟨i', bi', hi', _, h1', h2', h3'⟩ := own j' blk' hd' z hb' hm' ho'
    have := R.inj i i' bi bi' hd hd' z h1 h1' h2 h2' h3 h3' ho ho'
    subst this
    exact B2.inj j j' i hi hi'
  · intro j z hj hm
    have hf : m2.find j = some (some j) := e2.m _ _ (e1.m _ _ (by
      rw [show (bind0 np).find j = if j ∈ List.range np then some (some j) else none from find_map (f := some)]
      simp [hj]))
    obtain ⟨h0, hg0, hm0⟩ := B2.bound j j hf
    rw [hm] at hm0; cases hm0
    exact hsG_at (by omega) hg0
  · simp [unpack, unBlks_len]; exact hn
  · refine SlotsR.rel hM hg hb2 hx ⟨?_, ht.2⟩
    have := unrel (N := Or F (Own (hsG g2 ks.blks.length) (unBlks ks.blks y))) (w := w) (μ := hsG g2 ks.blks.length) (b := unBlks ks.blks y) a.tmps.toList
    simpa using this
end
end Go.Proofs.YtomkegeojknihaaDoor.Abs

/-! A function's end. -/
namespace Go.Proofs.YtomkegeojknihaaDoor.Abs
open Go
variable [Glob]

section
variable {P : Program} {w : World} {F N M : Nat → Prop} {μ : List Hd} {b : List Blk} {R' : Type} {r : R'}

def endB : Option Nat → List CVal → Blk
  | some sz, l => ⟨0, .arr sz l⟩
  | none, l => ⟨0, .box (l.map .v)⟩
def endS (np : List (Option Nat)) (ls : List (List CVal)) : List Blk := List.zipWith endB np ls

/-- What a function's end leaves. -/
structure RetP (P : Program) (fn : Func) (rm : Option Nat) (np : List (Option Nat)) (F : Nat → Prop) (w : World) (μ : List Hd) (b : List Blk) (ret : Ret) (a : Act) (w' : World) : Prop where
  defers : a.defers = []
  out : ∃ v μ', (results fn a.tmps).run P w' = .ok v w' ∧ NowL np.length F w μ b w' μ' (endS np ret.2) ∧ ret.2.length = np.length ∧
    match rm with
    | none => CRel (Or F (Own μ' (endS np ret.2))) w' ret.1 v
    | some j => ∃ (h : Hd) (sz : Nat), μ'[j]? = some h ∧ np[j]? = some (some sz) ∧ v = h.val

theorem RetP.pre {fn : Func} {rm : Option Nat} {np : List (Option Nat)} {ret : Ret} {a : Act} {w1 w' : World} {μ1 : List Hd} {b1 : List Blk} (h : NowL np.length F w μ b w1 μ1 b1)
    (k : RetP P fn rm np F w1 μ1 b1 ret a w') : RetP P fn rm np F w μ b ret a w' := by
  obtain ⟨hd, v, μ', h1, h2, h3⟩ := k
  exact ⟨hd, v, μ', h1, h.trans h2, h3⟩

theorem run_mapM' {α β : Type} (f : α → Sem β) : ∀ (l : List α) (vs : List β), vs.length = l.length → (∀ (i : Nat) (x : α) (v : β), l[i]? = some x → vs[i]? = some v → (f x).run P w = .ok v w) → (l.mapM f).run P w = .ok vs w
  | [], [], _, _ => by simp
  | [], _ :: _, h, _ => by simp at h
  | _ :: _, [], h, _ => by simp at h
  | x :: r, v :: vs, hl, h => by
    have ih := run_mapM' f r vs (by simpa using hl) fun i y u hy hu => h (i + 1) y u (by simpa using hy) (by simpa using hu)
    simp [List.mapM_cons, h 0 x v rfl rfl, ih]

def resultOf (tmps : Array Value) : ResultVar → Sem Value
  | .tmp t => pure (tmps.getD t undef)
  | .cell a t => do loadVar t (← asAddr (tmps.getD a undef))

theorem finVals_sound {E : Env} {t : List AVal} {a : Act} : ∀ {l : List (ResultVar × TypeId)} {b : List Blk} {K : List CVal → List Blk → Option R'}, Rel F w μ b → TRel (Or F (Own μ b)) w μ b t a → finVals E t l b K = some r →
    ∃ cs b' vs, K cs b' = some r ∧ Sub b' b ∧ Upd F w μ b w μ b' ∧ Rel F w μ b' ∧ vs.length = l.length ∧ (∀ (i : Nat) (x : ResultVar × TypeId) (v : Value), l[i]? = some x → vs[i]? = some v → (resultOf a.tmps x.1).run E.P w = .ok v w) ∧
      CsRel (Or F (Own μ b')) w false cs vs
  | [], b, K, R, ht, h => ⟨[], b, [], h, .refl _, .refl R, R, rfl, (fun i x v hi _ => by simp at hi), rfl⟩
  | (.tmp i, ty) :: rest, b, K, R, ht, h => by
    simp only [finVals] at h
    have hev := ht.eval (.tmp i)
    simp only [evalA] at hev
    obtain ⟨c, b1, h, s1, U1, R1, hc⟩ := closeRK_sound R hev h
    obtain ⟨cs, b', vs, h, s2, U2, R2, hl, hrun, hcs⟩ := finVals_sound R1 (TRel.upd U1 ht) h
    refine ⟨c :: cs, b', a.eval (.tmp i) :: vs, h, s2.trans s1, U1.trans U2, R2, by simp [hl], fun j x v hj hv => ?_, _, _, rfl, CRel.keep (Keep.sub fun z hz => hz.imp id fun ho => s2.own ho) hc, by simp, hcs⟩
    cases j with
    | zero => simp at hj hv; subst hj hv; rfl
    | succ j => exact hrun j x v (by simpa using hj) (by simpa using hv)
  | (.cell ad ty', ty) :: rest, b, K, R, ht, h => by
    simp only [finVals] at h
    have hev := ht.eval (.tmp ad)
    simp only [evalA] at hev
    obtain ⟨x, h, u, hu, hx⟩ := loadK_sound R hev h
    obtain ⟨c, b1, h, s1, U1, R1, hc⟩ := closeRK_sound R hx h
    obtain ⟨cs, b', vs, h, s2, U2, R2, hl, hrun, hcs⟩ := finVals_sound R1 (TRel.upd U1 ht) h
    refine ⟨c :: cs, b', u :: vs, h, s2.trans s1, U1.trans U2, R2, by simp [hl], fun j x v hj hv => ?_, _, _, rfl, CRel.keep (Keep.sub fun z hz => hz.imp id fun ho => s2.own ho) hc, by simp, hcs⟩
    cases j with
    | zero =>
      simp at hj hv; subst hj hv
      simp only [resultOf]
      simp only [Instr.loadAt, Act.eval] at hu
      generalize a.tmps.getD ad undef = v at hu ⊢
      cases v with
      | pointer p =>
        cases p with
        | none => simp [Instr.sureAddr, stuck] at hu
        | some ad => exact hu
      | _ => simp [Instr.sureAddr, stuck] at hu
    | succ j => exact hrun j x v (by simpa using hj) (by simpa using hv)

/-- What is handed back of what was handed in. -/
theorem finBlks_sound : ∀ {np : List (Option Nat)} {j : Nat} {b : List Blk} {K : List (List CVal) → List Blk → Option R'}, Rel F w μ b → finBlks j np b K = some r →
    ∃ ls b', K ls b' = some r ∧ Sub b' b ∧ Upd F w μ b w μ b' ∧ Rel F w μ b' ∧ ls.length = np.length ∧ ∀ (k : Nat) (p : Option Nat) (l : List CVal), np[k]? = some p → ls[k]? = some l → aliveAt b' (j + k) = true →
      ∃ blk, b'[j + k]? = some blk ∧ ((∃ sz, p = some sz ∧ blk.body = .arr sz l) ∨ (p = none ∧ ∃ cs x vs e, blk.body = .box cs ∧ μ[j + k]? = some (.box x) ∧ w.heap[x]? = some (.cells (List.toArray vs) e (0, 0)) ∧
        ∀ (M : Nat → Prop), (∀ x, M x → Or F (Own μ b') x) → CsRel M w true l vs))
  | [], j, b, K, R, h => ⟨[], b, h, .refl _, .refl R, R, rfl, fun k p l hk _ _ => by simp at hk⟩
  | p :: rest, j, b, K, R, h => by
    simp only [finBlks] at h
    split at h
    · rename_i ver sz xs hb
      obtain ⟨hp, h'⟩ := br_none h
      clear h
      have hp : p = some sz := by simpa using hp
      subst hp
      have h := h'
      obtain ⟨ls, b', h, hs, U, R', hl, hat⟩ := finBlks_sound R h
      refine ⟨_, b', h, hs, U, R', by simp [hl], fun k p l hk hlk ha => ?_⟩
      cases k with
      | zero =>
        simp at hk hlk; subst hk hlk
        obtain ⟨blk, hb3, hal⟩ := aliveAt_some ha
        have := hs.at_ _ _ hb3 hal
        rw [Nat.add_zero, hb] at this; cases this
        exact ⟨_, hb3, .inl ⟨sz, rfl, rfl⟩⟩
      | succ k =>
        have := hat k p l (by simpa using hk) (by simpa using hlk) (by rw [show j + 1 + k = j + (k + 1) by omega]; exact ha)
        rw [show j + 1 + k = j + (k + 1) by omega] at this
        exact this
    · rename_i ver cs hb
      obtain ⟨hp, h'⟩ := br_none h
      clear h
      have hp : p = none := by simpa using hp
      subst hp
      have h := h'
      obtain ⟨xs, hxs, h⟩ := bind_some' h
      obtain ⟨U0, R0⟩ := killL_upd cs R
      obtain ⟨ls, b', h, hs, U, R', hl, hat⟩ := finBlks_sound R0 h
      refine ⟨_, b', h, hs.trans (killL_sub cs b), U0.trans U, R', by simp [hl], fun k p l hk hlk ha => ?_⟩
      cases k with
      | zero =>
        simp at hk hlk; subst hk hlk
        obtain ⟨blk, hb3, hal⟩ := aliveAt_some ha
        have := (hs.trans (killL_sub cs b)).at_ _ _ hb3 hal
        rw [Nat.add_zero, hb] at this; cases this
        have hbox : boxOf b j = some cs := by simp [boxOf, hb]
        obtain ⟨ver', x, vs, e, _, hm, hw, har, _⟩ := R.box hbox
        have hcl := closeL_sound R (killL_sub cs b) hxs har (killL_dead cs b)
        exact ⟨_, hb3, .inr ⟨rfl, cs, x, vs, e, rfl, hm, hw, fun M hM => CsRel.keep (Keep.sub fun x hx => (hM x hx).imp id fun ho => hs.own ho) hcl⟩⟩
      | succ k =>
        have := hat k p l (by simpa using hk) (by simpa using hlk) (by rw [show j + 1 + k = j + (k + 1) by omega]; exact ha)
        rw [show j + 1 + k = j + (k + 1) by omega] at this
        exact this
    · cases h

theorem endS_get {np : List (Option Nat)} {ls : List (List CVal)} {k : Nat} {blk : Blk} (h : (endS np ls)[k]? = some blk) : ∃ p l, np[k]? = some p ∧ ls[k]? = some l ∧ blk = endB p l := by
  unfold endS at h
  rw [List.getElem?_zipWith] at h
  split at h
  · rename_i p l h1 h2; simp at h; exact ⟨p, l, h1, h2, h.symm⟩
  · cases h

/-- The blocks that were handed in, as they are handed back. -/
theorem end_rel {np : List (Option Nat)} {ls : List (List CVal)} (R : Rel F w μ b) (hl : ls.length = np.length) (hnp : np.length ≤ μ.length)
    (hat : ∀ (k : Nat) (p : Option Nat) (l : List CVal), np[k]? = some p → ls[k]? = some l →
      ∃ blk, b[k]? = some blk ∧ ((∃ sz, p = some sz ∧ blk.body = .arr sz l) ∨ (p = none ∧ ∃ cs x vs e, blk.body = .box cs ∧ μ[k]? = some (.box x) ∧ w.heap[x]? = some (.cells (List.toArray vs) e (0, 0)) ∧
        ∀ (M : Nat → Prop), (∀ x, M x → Or F (Own μ b) x) → CsRel M w true l vs))) :
    NowL np.length F w μ b w (μ.take np.length) (endS np ls) := by
  have hm : ∀ {k : Nat} {h : Hd}, (μ.take np.length)[k]? = some h → k < np.length ∧ μ[k]? = some h := by
    intro k h hk
    rw [List.getElem?_take] at hk
    split at hk
    · exact ⟨by assumption, hk⟩
    · cases hk
  have own : ∀ (k : Nat) (blk : Blk) (h : Hd) (z : Nat), (endS np ls)[k]? = some blk → (μ.take np.length)[k]? = some h → h.own = some z →
      ∃ blk', b[k]? = some blk' ∧ alive blk'.body = true ∧ μ[k]? = some h := by
    intro k blk h z hb hk ho
    obtain ⟨p, l, h1, h2, rfl⟩ := endS_get hb
    obtain ⟨blk', hb', hor⟩ := hat k p l h1 h2
    refine ⟨blk', hb', ?_, (hm hk).2⟩
    rcases hor with ⟨sz, _, e⟩ | ⟨_, cs, x, vs, ee, e, _⟩ <;> rw [e] <;> rfl
  have sub : ∀ z, Own (μ.take np.length) (endS np ls) z → Own μ b z := by
    rintro z ⟨k, blk, h, hb, ha, hk, ho⟩
    obtain ⟨blk', h1, h2, h3⟩ := own k blk h z hb hk ho
    exact ⟨k, blk', h, h1, h2, h3, ho⟩
  have hM : ∀ z, Or F (Own (μ.take np.length) (endS np ls)) z → Or F (Own μ b) z := fun z hz => hz.imp id (sub z)
  have hlen : (endS np ls).length = np.length := by simp [endS, hl]
  refine ⟨⟨by rw [hlen, List.length_take]; omega, ?_, ?_, fun z hz => R.fres z (sub z hz), R.fbk, fun z hz => R.oid z (sub z hz)⟩, ?_, fun z hz => ⟨(R.fres z (sub z hz)).2, .inr (sub z hz)⟩, .refl _ _, by omega⟩
  · intro k blk h hb hk
    obtain ⟨p, l, h1, h2, rfl⟩ := endS_get hb
    obtain ⟨blk', hb', hor⟩ := hat k p l h1 h2
    obtain ⟨_, hmk⟩ := hm hk
    rcases hor with ⟨sz, rfl, e⟩ | ⟨rfl, cs, x, vs, ee, e, hmb, hw, hc⟩
    · have hB := R.blk k blk' h hb' hmk
      rw [e] at hB
      obtain ⟨base, cap, k1, k2, k3⟩ := hB
      exact ⟨base, cap, k1, k2, k3.imp id fun ⟨z, cells, e, g1, g2, g3, g4⟩ => ⟨z, cells, e, g1, g2, g3, ElRel.keepAt (Keep.sub hM) rfl g4⟩⟩
    · rw [hmk] at hmb; cases hmb
      exact ⟨x, vs, ee, rfl, hw, AsRel.ofC (hc _ hM)⟩
  · intro k k' blk blk' h h' z hb hb' ha ha' hk hk' ho ho'
    obtain ⟨b1, h1, h2, h3⟩ := own k blk h z hb hk ho
    obtain ⟨b1', h1', h2', h3'⟩ := own k' blk' h' z hb' hk' ho'
    exact R.inj k k' b1 b1' h h' z h1 h1' h2 h2' h3 h3' ho ho'
  · intro j x hj hx
    rw [List.getElem?_take_of_lt hj]; exact hx

theorem finK_sound {E : Env} {f : FuncId} {fn : Func} {np : List (Option Nat)} {s : St} {a : Act} {K : Ret → Option R'} (R : Rel F w μ s.b) (ht : TRel (Or F (Own μ s.b)) w μ s.b s.t a) (hnp : np.length ≤ s.b.length)
    (hres : fn.results.size = fn.resultTypes.size) (h : finK E f fn np s K = some r) : ∃ ret, K ret = some r ∧ RetP E.P fn (E.rm f) np F w μ s.b ret a w := by
  have hnp' : np.length ≤ μ.length := by rw [R.len]; exact hnp
  have allAlive : ∀ {b' : List Blk} {ls : List (List CVal)}, (List.range np.length).all (aliveAt b') = true → ∀ k (p : Option Nat), np[k]? = some p → aliveAt b' k = true := by
    intro b' ls hal k p hk
    exact List.all_eq_true.1 hal k (by simp; exact (List.getElem?_eq_some_iff.1 hk).1)
  unfold finK at h
  split at h
  · rename_i hrm
    obtain ⟨cs, b1, vs, h, s1, U1, R1, hl, hrun, hcs⟩ := finVals_sound R ht h
    obtain ⟨ls, b2, h, s2, U2, R2, hll, hat⟩ := finBlks_sound R1 h
    obtain ⟨hal, h⟩ := br_none h
    have hend := end_rel R2 hll hnp' fun k p l hk hlk => by
      have := hat k p l hk hlk (by rw [Nat.zero_add]; exact allAlive (ls := ls) hal k p hk)
      simpa using this
    have hpre : NowL np.length F w μ s.b w μ b2 := ⟨R2, fun _ _ _ h => h, fun x hx => ⟨(R2.fres x hx).2, .inr ((s2.trans s1).own hx)⟩, .refl _ _, by rw [(s2.trans s1).len]; exact hnp⟩
    have hresults : (results fn a.tmps).run E.P w = .ok (if h : vs.length = 1 then vs[0] else .tuple vs.toArray) w := by
      have hm : (fn.results.mapM (m := Sem) (resultOf a.tmps)).run E.P w = .ok vs.toArray w := by
        rw [Array.mapM_eq_mapM_toList]
        have hlen : vs.length = fn.results.toList.length := by rw [hl]; simp [hres]
        have := run_mapM' (P := E.P) (w := w) (resultOf a.tmps) fn.results.toList vs hlen fun i x v hx hv => by
          have hi : i < fn.resultTypes.toList.length := by
            have := (List.getElem?_eq_some_iff.1 hx).1
            simp at this ⊢; omega
          exact hrun i (x, fn.resultTypes.toList[i]) v (by rw [List.getElem?_zip_eq_some]; exact ⟨hx, List.getElem?_eq_getElem hi⟩) hv
        simp [Sem.run_map, this]
      unfold results
      change (do let vs ← fn.results.mapM (m := Sem) (resultOf a.tmps); pure (if h : vs.size = 1 then vs[0] else .tuple vs) : Sem Value).run E.P w = _
      simp only [Sem.run_bind, hm, Result.andThen_ok, Sem.run_pure]
      congr 1
    have hsub : ∀ z, Or F (Own (μ.take np.length) (endS np ls)) z → Or F (Own μ b1) z := by
      rintro z (hz | hz)
      · exact .inl hz
      · rcases (hend.own z hz).2 with h | h
        · have := (hend.own z hz).1; omega
        · exact .inr (s2.own h)
    have hcs' := CsRel.keep (Keep.sub hsub) hcs
    have hvl := hcs.len
    split at h
    · rename_i c
      refine ⟨_, h, ht.2, _, _, hresults, hpre.trans hend, hll, ?_⟩
      obtain ⟨u, us, rfl, hu, _, hus⟩ := hcs'
      have : us = [] := hus
      subst this
      simpa [hrm] using hu
    · rename_i hne
      refine ⟨_, h, ht.2, _, _, hresults, hpre.trans hend, hll, ?_⟩
      have h1 : ¬ vs.length = 1 := by
        intro e
        rw [hvl] at e
        obtain ⟨c, rfl⟩ := List.length_eq_one_iff.1 e
        exact hne c rfl
      simp only [h1, dif_neg, not_false_eq_true, hrm]
      exact ⟨vs, rfl, hcs'⟩
  · rename_i j hrm
    split at h
    · rename_i i hri
      split at h
      · rename_i i' ver hi'
        obtain ⟨h0, h'⟩ := br_none h
        clear h
        simp only [Bool.and_eq_true, decide_eq_true_eq] at h0
        obtain ⟨⟨hij, hver⟩, hsome⟩ := h0
        subst hij
        have h := h'
        obtain ⟨ls, b2, h, s2, U2, R2, hll, hat⟩ := finBlks_sound R h
        obtain ⟨hal, h⟩ := br_none h
        have hend := end_rel R2 hll hnp' fun k p l hk hlk => by
          have := hat k p l hk hlk (by rw [Nat.zero_add]; exact allAlive (ls := ls) hal k p hk)
          simpa using this
        have hpre : NowL np.length F w μ s.b w μ b2 := ⟨R2, fun _ _ _ h => h, fun x hx => ⟨(R2.fres x hx).2, .inr (s2.own hx)⟩, .refl _ _, by rw [s2.len]; exact hnp⟩
        obtain ⟨v, hv, hr⟩ := ht.at (getD_some hi' (by simp))
        obtain ⟨hfl, blk, hd, hb, hm, hn, hle, hcur⟩ := hr
        obtain ⟨p, hp⟩ := Option.isSome_iff_exists.1 hsome
        have hil : i' < ls.length := by rw [hll]; exact (List.getElem?_eq_some_iff.1 hp).1
        obtain ⟨blk2, hb2, hor⟩ := hat i' p _ hp (List.getElem?_eq_getElem hil) (by rw [Nat.zero_add]; exact allAlive (ls := ls) hal i' p hp)
        rw [Nat.zero_add] at hb2 hor
        have hal2 : alive blk2.body = true := by
          rcases hor with ⟨sz, _, e⟩ | ⟨_, cs, x, vs, ee, e, _⟩ <;> rw [e] <;> rfl
        have := s2.at_ _ _ hb2 hal2
        rw [hb] at this; cases this
        obtain ⟨xs, hxs⟩ := Option.isSome_iff_exists.1 hver
        obtain ⟨_, _, _, hb', _⟩ := R.arr hxs
        rw [hb] at hb'; cases hb'
        have hvb : ver = ver := rfl
        have hrsz : fn.results.size = 1 := by rw [← Array.length_toList, hri]; rfl
        have hresults : (results fn a.tmps).run E.P w = .ok v w := by
          have hfr : fn.results = #[.tmp i] := by apply Array.ext'; exact hri
          unfold results
          rw [hfr]
          simp [hv]
        have hval := hcur rfl rfl
        obtain ⟨sz, hpz⟩ : ∃ sz, p = some sz := by
          rcases hor with ⟨sz, e, _⟩ | ⟨_, cs, x, vs, ee, e, _⟩
          · exact ⟨sz, e⟩
          · cases e
        subst hpz
        refine ⟨_, h, ht.2, v, _, hresults, hpre.trans hend, hll, ?_⟩
        simp only [hrm]
        exact ⟨hd, sz, by rw [List.getElem?_take_of_lt (List.getElem?_eq_some_iff.1 hp).1]; exact hm, hp, hval⟩
      · cases h
    · cases h
end
end Go.Proofs.YtomkegeojknihaaDoor.Abs

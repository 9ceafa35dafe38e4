/- What is kept where ways meet, joined. -/
import Derived.Test.YtlgonbonnjkekaaSound14
set_option linter.unusedVariables false
set_option linter.unusedSectionVars false
set_option linter.unusedSimpArgs false
namespace Go.Proofs.Ytlgonbonnjkekaa.Abs
open Go

section
variable {P : Program} {w : World} {F N M : Nat → Prop} {μ : List Hd} {b : List Blk} {R' : Type} {r : R'}

/-- From a moment to a later one, where blocks may have got other numbers: but for the first n. -/
structure NowL (n : Nat) (F : Nat → Prop) (w : World) (μ : List Hd) (b : List Blk) (w' : World) (μ' : List Hd) (b' : List Blk) : Prop where
  rel : Rel F w' μ' b'
  box : ∀ (j x : Nat), j < n → μ[j]? = some (.box x) → μ'[j]? = some (.box x)
  own : ∀ x, Own μ' b' x → x < w'.heap.size ∧ (w.heap.size ≤ x ∨ Own μ b x)
  fr : Fr (Own μ b) w w'
  len : n ≤ b'.length

theorem NowL.refl {n : Nat} (R : Rel F w μ b) (h : n ≤ b.length) : NowL n F w μ b w μ b :=
  ⟨R, fun _ _ _ h => h, fun x hx => ⟨(R.fres x hx).2, .inr hx⟩, .refl _ _, h⟩
theorem NowL.trans {n : Nat} {w1 w2 : World} {μ1 μ2 : List Hd} {b1 b2 : List Blk} (x : NowL n F w μ b w1 μ1 b1) (y : NowL n F w1 μ1 b1 w2 μ2 b2) : NowL n F w μ b w2 μ2 b2 := by
  refine ⟨y.rel, fun j z hj h => y.box j z hj (x.box j z hj h), fun z hz => ?_, x.fr.trans y.fr fun z hz ho => ?_, y.len⟩
  · obtain ⟨h1, h2⟩ := y.own z hz
    refine ⟨h1, ?_⟩
    rcases h2 with h2 | h2
    · exact .inl (Nat.le_trans x.fr.size h2)
    · exact (x.own z h2).2
  · rcases (x.own z ho).2 with h | h
    · omega
    · exact h
theorem Now.toL {n : Nat} {w' : World} {μ' : List Hd} {b' : List Blk} (h : Now F w μ b w' μ' b') (hn : n ≤ b.length) : NowL n F w μ b w' μ' b' := by
  refine ⟨h.rel, fun j x hj hm => ?_, h.upd.own, h.fr, ?_⟩
  · have hb : j < b.length := by omega
    obtain ⟨blk', h', _, hm', V⟩ := h.upd.old j _ _ (List.getElem?_eq_getElem hb) hm
    rw [hm', V.box x rfl]
  · cases n with
    | zero => exact Nat.zero_le _
    | succ k =>
      have hb : k < b.length := by omega
      have hk : k < μ.length := by rw [h.upd.len0]; exact hb
      obtain ⟨blk', h', hb', _⟩ := h.upd.old k _ _ (List.getElem?_eq_getElem hb) (List.getElem?_eq_getElem hk)
      exact (List.getElem?_eq_some_iff.1 hb').1

def hsG (g : List (Nat × Hd)) (n : Nat) : List Hd := (List.range n).map fun j => (gfind g j).getD .none

theorem hsG_at {g : List (Nat × Hd)} {n j : Nat} {h : Hd} (hj : j < n) (hg : gfind g j = some h) : (hsG g n)[j]? = some h := by
  unfold hsG
  rw [List.getElem?_map]
  simp [hj, hg]
theorem hsG_get {g : List (Nat × Hd)} {n j : Nat} {h : Hd} (hh : (hsG g n)[j]? = some h) : j < n ∧ h = (gfind g j).getD .none := by
  unfold hsG at hh
  rw [List.getElem?_map] at hh
  by_cases hj : j < n
  · simp [hj] at hh; exact ⟨hj, hh.symm⟩
  · simp [hj] at hh

theorem unBlks_len : ∀ {l : List BK} {y : BsT l}, (unBlks l y).length = l.length
  | [], _ => rfl
  | .arr _ :: r, y => by simp [unBlks, unBlks_len]
  | .box _ :: r, y => by simp [unBlks, unBlks_len]
theorem unBlks_ver : ∀ {l : List BK} {y : BsT l} {k : Nat} {blk : Blk}, (unBlks l y)[k]? = some blk → blk.ver = 0
  | [], _, _, _, h => by simp [unBlks] at h
  | .arr _ :: r, y, 0, _, h => by simp [unBlks] at h; subst h; rfl
  | .box _ :: r, y, 0, _, h => by simp [unBlks] at h; subst h; rfl
  | .arr _ :: r, y, k + 1, _, h => unBlks_ver (l := r) (by simpa [unBlks] using h)
  | .box _ :: r, y, k + 1, _, h => unBlks_ver (l := r) (by simpa [unBlks] using h)

def szOfK (l : List BK) (j : Nat) : Nat :=
  match l[j]? with
  | some (.arr s) => s
  | _ => 0

theorem blks_at {m : Bind} {g : List (Nat × Hd)} : ∀ {l : List BK} {j0 : Nat} {y : BsT l} {k : Nat} {blk : Blk}, BlksR N w b m g l j0 y → (unBlks l y)[k]? = some blk →
    (∃ sz xs, l[k]? = some (.arr sz) ∧ blk = ⟨0, .arr sz xs⟩ ∧ ((∃ (i ver : Nat), m.find (j0 + k) = some (some i) ∧ b[i]? = some ⟨ver, .arr sz xs⟩) ∨ (m.find (j0 + k) = some none ∧ xs = []))) ∨
    (∃ (ks : List Kd) (y' : KsT ks), blk = ⟨0, .box (unCells ks y')⟩ ∧ ∃ (i ver : Nat) (cs : List AVal) (x : Nat) (vs : List Value) (e : TypeId), m.find (j0 + k) = some (some i) ∧ b[i]? = some ⟨ver, .box cs⟩ ∧
      gfind g (j0 + k) = some (.box x) ∧ w.heap[x]? = some (.cells vs.toArray e (0, 0)) ∧ CellsR N w g ks y' vs)
  | [], _, _, _, _, _, h => by simp [unBlks] at h
  | .arr sz :: r, j0, y, 0, blk, hB, h => by
    simp [unBlks] at h; subst h
    exact .inl ⟨sz, y.1, rfl, rfl, hB.1⟩
  | .box ks :: r, j0, y, 0, blk, hB, h => by
    simp [unBlks] at h; subst h
    exact .inr ⟨ks, y.1, rfl, hB.1⟩
  | .arr sz :: r, j0, y, k + 1, blk, hB, h => by
    have := blks_at (l := r) (k := k) hB.2 (by simpa [unBlks] using h)
    rw [show j0 + 1 + k = j0 + (k + 1) by omega] at this
    simpa using this
  | .box ks :: r, j0, y, k + 1, blk, hB, h => by
    have := blks_at (l := r) (k := k) hB.2 (by simpa [unBlks] using h)
    rw [show j0 + 1 + k = j0 + (k + 1) by omega] at this
    simpa using this

theorem find_map {f : Nat → Option Nat} : ∀ {l : List Nat} {k : Nat}, Bind.find (l.map fun j => (j, f j)) k = if k ∈ l then some (f k) else none
  | [], _ => rfl
  | a :: r, k => by
    rw [List.map_cons, find_cons, find_map]
    by_cases h : a = k
    · subst h; simp
    · simp [h, Ne.symm h]
theorem gfind_map {f : Nat → Hd} : ∀ {l : List Nat} {k : Nat}, gfind (l.map fun j => (j, f j)) k = if k ∈ l then some (f k) else none
  | [], _ => rfl
  | a :: r, k => by
    simp only [List.map_cons, gfind]
    rw [gfind_map]
    by_cases h : a = k
    · subst h; simp
    · simp [h, Ne.symm h]

theorem BG.init {sz : Nat → Nat} {np : Nat} (h : np ≤ μ.length) : BG μ sz (bind0 np) ((List.range np).map fun j => (j, (μ[j]?).getD .none)) := by
  have e1 : ∀ j, (bind0 np).find j = if j ∈ List.range np then some (some j) else none := fun j => find_map (f := some)
  have e2 : ∀ j, gfind ((List.range np).map fun j => (j, (μ[j]?).getD .none)) j = if j ∈ List.range np then some ((μ[j]?).getD .none) else none := fun j => gfind_map (f := fun j => (μ[j]?).getD .none)
  refine ⟨fun j => ?_, fun j i hj => ?_, fun j hj => ?_, fun j j' i hj hj' => ?_⟩
  · rw [e1, e2]; split <;> simp
  · rw [e1] at hj
    split at hj
    · rename_i hm
      simp at hj; subst hj
      have : j < μ.length := by simp at hm; omega
      exact ⟨μ[j], by rw [e2, if_pos hm]; simp [this], List.getElem?_eq_getElem this⟩
    · cases hj
  · rw [e1] at hj; split at hj <;> simp at hj
  · rw [e1] at hj hj'
    split at hj <;> split at hj' <;> simp at hj hj'
    rw [hj, hj']

theorem find_mem : ∀ {m : Bind} {j : Nat} {x : Option Nat}, m.find j = some x → ∃ p ∈ m, p.1 = j
  | [], _, _, h => by simp [Bind.find] at h
  | (j', y) :: r, j, x, h => by
    rw [find_cons] at h
    split at h
    · rename_i e; exact ⟨_, List.mem_cons_self, e⟩
    · obtain ⟨p, hp, e⟩ := find_mem h
      exact ⟨p, List.mem_cons_of_mem _ hp, e⟩

/-- Kept values, in their new frame. -/
theorem VR.rel {g : List (Nat × Hd)} {b2 : List Blk} {n : Nat} (hM : ∀ x, M x → N x) (hg : ∀ j h, gfind g j = some h → j < n) (hb : ∀ j, j < n → ∃ blk, b2[j]? = some blk ∧ blk.ver = 0) :
    ∀ {kd : Kd} {y : kd.T} {v : Value}, VR N w g kd y v → ARel M w (hsG g n) b2 (unV kd y) v
  | .int _, _, _, h => h
  | .bool, _, _, h => h
  | .str, _, _, h => h
  | .sl, _, _, h => CRel.keep (Keep.sub hM) h
  | .cv, _, _, h => CRel.keep (Keep.sub hM) h
  | .fn _, _, _, h => CRel.keep (Keep.sub hM) h
  | .lp j, _, _, ⟨x, h, hv⟩ => ⟨x, hsG_at (hg _ _ h) h, hv⟩
  | .lr j, _, _, ⟨base, len, cap, sz, h, hv⟩ => by
    obtain ⟨blk, hb, h0⟩ := hb j (hg _ _ h)
    exact ⟨by rw [hv]; rfl, blk, _, hb, hsG_at (hg _ _ h) h, by simp, Nat.zero_le _, fun _ _ => hv⟩

theorem CellsR.rel {g : List (Nat × Hd)} {b2 : List Blk} {n : Nat} (hM : ∀ x, M x → N x) (hg : ∀ j h, gfind g j = some h → j < n) (hb : ∀ j, j < n → ∃ blk, b2[j]? = some blk ∧ blk.ver = 0) :
    ∀ {l : List Kd} {y : KsT l} {vs : List Value}, CellsR N w g l y vs → AsRel M w (hsG g n) b2 true (unCells l y) vs
  | [], _, _, h => h
  | _ :: _, _, _, ⟨u, us, hv, h, hf, k⟩ => ⟨u, us, hv, VR.rel hM hg hb h, fun _ => hf, CellsR.rel hM hg hb k⟩

theorem unrel (vs : List Value) : AsRel N w μ b false (List.replicate vs.length .un) vs := by
  induction vs with
  | nil => rfl
  | cons v r ih => exact ⟨v, r, rfl, trivial, by simp, ih⟩

theorem SlotsR.rel {g : List (Nat × Hd)} {b2 : List Blk} {n : Nat} {a : Act} (hM : ∀ x, M x → N x) (hg : ∀ j h, gfind g j = some h → j < n) (hb : ∀ j, j < n → ∃ blk, b2[j]? = some blk ∧ blk.ver = 0) :
    ∀ {l : List (Nat × Kd)} {y : SsT l} {t : List AVal}, SlotsR N w g a l y → TRel M w (hsG g n) b2 t a → TRel M w (hsG g n) b2 (unSlots l y t) a
  | [], _, t, _, ht => ht
  | (i, kd) :: r, y, t, ⟨⟨v, hv, h⟩, k⟩, ht => SlotsR.rel (l := r) (y := y.2) hM hg hb k (ht.set i fun v' hv' => by rw [hv] at hv'; cases hv'; exact VR.rel hM hg hb h)

theorem packK_sound {np : Nat} {ks : LK} {s : St} {a : Act} {K : ks.T → Option R'} (R : Rel F w μ s.b) (ht : TRel (Or F (Own μ s.b)) w μ s.b s.t a) (hnp : np ≤ s.b.length) (h : packK np ks s K = some r) :
    ∃ p μ2, K p = some r ∧ NowL np F w μ s.b w μ2 (unpack a.tmps.size ks p).b ∧ TRel (Or F (Own μ2 (unpack a.tmps.size ks p).b)) w μ2 (unpack a.tmps.size ks p).b (unpack a.tmps.size ks p).t a := by
  unfold packK at h
  obtain ⟨hn, h⟩ := br_none h
  simp only [decide_eq_true_eq] at hn
  obtain ⟨x, m1, g1, h, B1, e1, hx⟩ := packSlots_sound R ht (BG.init (sz := szOfK ks.blks) (by rw [R.len]; exact hnp)) h
  obtain ⟨y, m2, g2, h, B2, e2, hy⟩ := packBlks_sound R B1 h
  obtain ⟨hall, h⟩ := br_none h
  replace hx := SlotsR.ext e2 hx
  have hg : ∀ j h, gfind g2 j = some h → j < ks.blks.length := by
    intro j h hj
    have : m2.find j ≠ none := fun e => by rw [(B2.keys j).1 e] at hj; cases hj
    obtain ⟨z, hz⟩ := Option.ne_none_iff_exists'.1 this
    obtain ⟨p, hp, e⟩ := find_mem hz
    have := List.all_eq_true.1 hall p hp
    simp at this; omega
  have hb2 : ∀ j, j < ks.blks.length → ∃ blk, (unBlks ks.blks y)[j]? = some blk ∧ blk.ver = 0 := by
    intro j hj
    have hj' : j < (unBlks ks.blks y).length := by rw [unBlks_len]; exact hj
    exact ⟨_, List.getElem?_eq_getElem hj', unBlks_ver (List.getElem?_eq_getElem hj')⟩
  -- whoever owns in the new frame owned before
  have own : ∀ (j : Nat) (blk : Blk) (hd : Hd) (z : Nat), (unBlks ks.blks y)[j]? = some blk → (hsG g2 ks.blks.length)[j]? = some hd → hd.own = some z →
      ∃ (i : Nat) (blk' : Blk), m2.find j = some (some i) ∧ True ∧ s.b[i]? = some blk' ∧ alive blk'.body = true ∧ μ[i]? = some hd := by
    intro j blk hd z hb hm ho
    obtain ⟨hj, rfl⟩ := hsG_get hm
    rcases blks_at hy hb with ⟨sz, xs, hl, rfl, ⟨i, ver, hi, hbi⟩ | ⟨hi, _⟩⟩ | ⟨ks', y', rfl, i, ver, cs, x', vs, e, hi, hbi, hgx, _⟩
    · rw [Nat.zero_add] at hi
      obtain ⟨h0, hg0, hm0⟩ := B2.bound j i hi
      exact ⟨i, _, hi, trivial, hbi, rfl, by rw [hg0]; exact hm0⟩
    · rw [Nat.zero_add] at hi
      obtain ⟨base, hg0⟩ := B2.fresh j hi
      rw [hg0] at ho
      cases base <;> simp [Hd.own] at ho
    · rw [Nat.zero_add] at hi
      obtain ⟨h0, hg0, hm0⟩ := B2.bound j i hi
      exact ⟨i, _, hi, trivial, hbi, rfl, by rw [hg0]; exact hm0⟩
  have sub : ∀ z, Own (hsG g2 ks.blks.length) (unBlks ks.blks y) z → Own μ s.b z := by
    rintro z ⟨j, blk, hd, hb, ha, hm, ho⟩
    obtain ⟨i, blk', _, _, h1, h2, h3⟩ := own j blk hd z hb hm ho
    exact ⟨i, blk', hd, h1, h2, h3, ho⟩
  have hM : ∀ z, Or F (Own (hsG g2 ks.blks.length) (unBlks ks.blks y)) z → Or F (Own μ s.b) z := fun z hz => hz.imp id (sub z)
  refine ⟨(x, y), hsG g2 ks.blks.length, h, ⟨⟨?_, ?_, ?_, fun z hz => R.fres z (sub z hz), R.fb⟩, ?_, fun z hz => ⟨(R.fres z (sub z hz)).2, .inr (sub z hz)⟩, .refl _ _, ?_⟩, ?_⟩
  · simp [hsG, unpack, unBlks_len]
  · intro j blk hd hb hm
    obtain ⟨hj, rfl⟩ := hsG_get hm
    rcases blks_at hy hb with ⟨sz, xs, hl, rfl, ⟨i, ver, hi, hbi⟩ | ⟨hi, rfl⟩⟩ | ⟨ks', y', rfl, i, ver, cs, x', vs, e, hi, hbi, hgx, hw, hc⟩
    · rw [Nat.zero_add] at hi
      obtain ⟨h0, hg0, hm0⟩ := B2.bound j i hi
      obtain ⟨base, cap, h1, h2, h3⟩ := R.blk i _ _ hbi hm0
      rw [hg0]
      exact ⟨base, cap, h1, h2, h3.imp id fun ⟨z, cells, e, k1, k2, k3, k4⟩ => ⟨z, cells, e, k1, k2, k3, ElRel.keepAt (Keep.sub hM) rfl k4⟩⟩
    · rw [Nat.zero_add] at hi
      obtain ⟨base, hg0⟩ := B2.fresh j hi
      rw [hg0]
      have : szOfK ks.blks j = sz := by simp [szOfK, hl]
      exact ⟨base, 0, by rw [this]; rfl, Nat.le_refl _, .inl rfl⟩
    · rw [Nat.zero_add] at hgx
      rw [hgx]
      exact ⟨x', vs, e, rfl, hw, CellsR.rel hM hg hb2 hc⟩
  · intro j j' blk blk' hd hd' z hb hb' ha ha' hm hm' ho ho'
    obtain ⟨i, bi, hi, _, h1, h2, h3⟩ := own j blk hd z hb hm ho
    obtain ⟨i', bi', hi', _, h1', h2', h3'⟩ := own j' blk' hd' z hb' hm' ho'
    have := R.inj i i' bi bi' hd hd' z h1 h1' h2 h2' h3 h3' ho ho'
    subst this
    exact B2.inj j j' i hi hi'
  · intro j z hj hm
    have hf : m2.find j = some (some j) := e2.m _ _ (e1.m _ _ (by
      rw [show (bind0 np).find j = if j ∈ List.range np then some (some j) else none from find_map (f := some)]
      simp [hj]))
    obtain ⟨h0, hg0, hm0⟩ := B2.bound j j hf
    rw [hm] at hm0; cases hm0
    exact hsG_at (by omega) hg0
  · simp [unpack, unBlks_len]; exact hn
  · refine SlotsR.rel hM hg hb2 hx ⟨?_, ht.2⟩
    have := unrel (N := Or F (Own (hsG g2 ks.blks.length) (unBlks ks.blks y))) (w := w) (μ := hsG g2 ks.blks.length) (b := unBlks ks.blks y) a.tmps.toList
    simpa using this
end
end Go.Proofs.Ytlgonbonnjkekaa.Abs

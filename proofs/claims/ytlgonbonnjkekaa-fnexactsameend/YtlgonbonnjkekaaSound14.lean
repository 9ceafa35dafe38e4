/- What is kept where ways meet. -/
import Derived.Test.YtlgonbonnjkekaaSound13
set_option linter.unusedVariables false
set_option linter.unusedSectionVars false
set_option linter.unusedSimpArgs false
namespace Go.Proofs.Ytlgonbonnjkekaa.Abs
open Go

section
variable {P : Program} {w : World} {F N M : Nat → Prop} {μ : List Hd} {b : List Blk} {R' : Type} {r : R'}

def gfind : List (Nat × Hd) → Nat → Option Hd
  | [], _ => none
  | (j', h) :: r, j => if j' = j then some h else gfind r j

theorem find_cons {m : Bind} {j j' : Nat} {x : Option Nat} : Bind.find ((j', x) :: m) j = if j' = j then some x else m.find j := by
  simp only [Bind.find]
  by_cases h : j' = j
  · simp [h, br]
  · rw [if_neg h, show (j' == j) = false by simpa using h]; rfl

theorem find_holds : ∀ {m : Bind} {j i : Nat}, m.find j = some (some i) → m.holds i = true
  | [], _, _, h => by simp [Bind.find] at h
  | (j', x) :: r, j, i, h => by
    rw [find_cons] at h
    split at h
    · simp at h; subst h; simp [Bind.holds]
    · have := find_holds h
      cases x <;> simp [Bind.holds, this]

structure BG (μ : List Hd) (sz : Nat → Nat) (m : Bind) (g : List (Nat × Hd)) : Prop where
  keys : ∀ j, m.find j = none ↔ gfind g j = none
  bound : ∀ j i, m.find j = some (some i) → ∃ h, gfind g j = some h ∧ μ[i]? = some h
  fresh : ∀ j, m.find j = some none → ∃ base, gfind g j = some (.arr base 0 0 (sz j))
  inj : ∀ j j' i, m.find j = some (some i) → m.find j' = some (some i) → j = j'

structure Ext (m : Bind) (g : List (Nat × Hd)) (m' : Bind) (g' : List (Nat × Hd)) : Prop where
  m : ∀ j x, m.find j = some x → m'.find j = some x
  g : ∀ j h, gfind g j = some h → gfind g' j = some h

theorem Ext.refl {m : Bind} {g : List (Nat × Hd)} : Ext m g m g := ⟨fun _ _ h => h, fun _ _ h => h⟩
theorem Ext.trans {m1 m2 m3 : Bind} {g1 g2 g3 : List (Nat × Hd)} (x : Ext m1 g1 m2 g2) (y : Ext m2 g2 m3 g3) : Ext m1 g1 m3 g3 := ⟨fun j a h => y.m j a (x.m j a h), fun j a h => y.g j a (x.g j a h)⟩

theorem BG.add {sz : Nat → Nat} {m : Bind} {g : List (Nat × Hd)} (B : BG μ sz m g) {j i : Nat} {h : Hd} (hj : m.find j = none) (hi : m.holds i = false) (hm : μ[i]? = some h) :
    BG μ sz ((j, some i) :: m) ((j, h) :: g) ∧ Ext m g ((j, some i) :: m) ((j, h) :: g) := by
  refine ⟨⟨fun k => ?_, fun k i' hk => ?_, fun k hk => ?_, fun k k' i' hk hk' => ?_⟩, ⟨fun k x hk => ?_, fun k x hk => ?_⟩⟩
  · rw [find_cons]; simp only [gfind]
    by_cases e : j = k <;> simp [e, B.keys k]
  · rw [find_cons] at hk; simp only [gfind]
    by_cases e : j = k
    · simp [e] at hk; subst hk; exact ⟨h, by simp [e], hm⟩
    · simp [e] at hk ⊢; exact B.bound k i' hk
  · rw [find_cons] at hk; simp only [gfind]
    by_cases e : j = k
    · simp [e] at hk
    · simp [e] at hk ⊢; exact B.fresh k hk
  · rw [find_cons] at hk hk'
    by_cases e : j = k <;> by_cases e' : j = k'
    · rw [← e, e']
    · simp [e] at hk; subst hk
      simp [e'] at hk'
      have := find_holds hk'
      rw [hi] at this; cases this
    · simp [e'] at hk'; subst hk'
      simp [e] at hk
      have := find_holds hk
      rw [hi] at this; cases this
    · simp [e] at hk; simp [e'] at hk'; exact B.inj k k' i' hk hk'
  · rw [find_cons]
    by_cases e : j = k
    · subst e; rw [hj] at hk; cases hk
    · simp [e, hk]
  · simp only [gfind]
    by_cases e : j = k
    · subst e; rw [(B.keys j).1 hj] at hk; cases hk
    · simp [e, hk]

theorem BG.addNone {sz : Nat → Nat} {m : Bind} {g : List (Nat × Hd)} (B : BG μ sz m g) {j : Nat} {base : Option Addr} (hj : m.find j = none) :
    BG μ sz ((j, none) :: m) ((j, .arr base 0 0 (sz j)) :: g) ∧ Ext m g ((j, none) :: m) ((j, .arr base 0 0 (sz j)) :: g) := by
  refine ⟨⟨fun k => ?_, fun k i' hk => ?_, fun k hk => ?_, fun k k' i' hk hk' => ?_⟩, ⟨fun k x hk => ?_, fun k x hk => ?_⟩⟩
  · rw [find_cons]; simp only [gfind]
    by_cases e : j = k <;> simp [e, B.keys k]
  · rw [find_cons] at hk; simp only [gfind]
    by_cases e : j = k
    · simp [e] at hk
    · simp [e] at hk ⊢; exact B.bound k i' hk
  · rw [find_cons] at hk; simp only [gfind]
    by_cases e : j = k
    · subst e; exact ⟨base, by simp⟩
    · simp [e] at hk ⊢; exact B.fresh k hk
  · rw [find_cons] at hk hk'
    by_cases e : j = k <;> by_cases e' : j = k'
    · rw [← e, e']
    · simp [e] at hk
    · simp [e'] at hk'
    · simp [e] at hk; simp [e'] at hk'; exact B.inj k k' i' hk hk'
  · rw [find_cons]
    by_cases e : j = k
    · subst e; rw [hj] at hk; cases hk
    · simp [e, hk]
  · simp only [gfind]
    by_cases e : j = k
    · subst e; rw [(B.keys j).1 hj] at hk; cases hk
    · simp [e, hk]

/-- What a kept value stands for. -/
def VR (N : Nat → Prop) (w : World) (g : List (Nat × Hd)) : (kd : Kd) → kd.T → Value → Prop
  | .int k, n, v => v = .int k n
  | .bool, p, v => v = .bool p
  | .str, s, v => v = .string ⟨List.toArray s⟩
  | .sl, s, v => CRel N w (.sl s) v
  | .cv, c, v => CRel N w c v
  | .lp j, _, v => ∃ x, gfind g j = some (.box x) ∧ v = .pointer (some (pl x 0))
  | .lr j, _, v => ∃ base len cap sz, gfind g j = some (.arr base len cap sz) ∧ v = .slice base len cap
  | .fn f, _, v => CRel N w (.func f []) v

theorem VR.ext {m m' : Bind} {g g' : List (Nat × Hd)} (e : Ext m g m' g') : ∀ {kd : Kd} {y : kd.T} {v : Value}, VR N w g kd y v → VR N w g' kd y v
  | .int _, _, _, h => h
  | .bool, _, _, h => h
  | .str, _, _, h => h
  | .sl, _, _, h => h
  | .cv, _, _, h => h
  | .lp j, _, _, ⟨x, h, hv⟩ => ⟨x, e.g _ _ h, hv⟩
  | .lr j, _, _, ⟨a, b, c, d, h, hv⟩ => ⟨a, b, c, d, e.g _ _ h, hv⟩
  | .fn _, _, _, h => h

theorem packV_sound {sz : Nat → Nat} {m : Bind} {g : List (Nat × Hd)} {x : AVal} {v : Value} (R : Rel F w μ b) (B : BG μ sz m g) (hx : ARel (Or F (Own μ b)) w μ b x v) :
    ∀ {kd : Kd} {K : kd.T → Bind → Option R'}, packV b kd x m K = some r → ∃ y m' g', K y m' = some r ∧ BG μ sz m' g' ∧ Ext m g m' g' ∧ VR (Or F (Own μ b)) w g' kd y v
  | .int k, K, h => by
    obtain ⟨n, hv, h⟩ := wInt_sound hx h
    exact ⟨n, m, g, h, B, .refl, hv⟩
  | .bool, K, h => by
    obtain ⟨n, hv, h⟩ := wBool_sound hx h
    exact ⟨n, m, g, h, B, .refl, hv⟩
  | .str, K, h => by
    obtain ⟨n, hv, h⟩ := wStr_sound hx h
    exact ⟨n, m, g, h, B, .refl, hv⟩
  | .sl, K, h => by
    simp only [packV] at h
    split at h
    · rename_i c
      obtain ⟨s, hs, h⟩ := bind_some' h
      cases c <;> simp [CVal.asSl] at hs
      subst hs
      exact ⟨_, m, g, h, B, .refl, hx⟩
    · obtain ⟨base, rfl⟩ := hx
      exact ⟨[], m, g, h, B, .refl, base, 0, rfl, Nat.le_refl _, .inl rfl⟩
    · cases h
  | .cv, K, h => by
    simp only [packV] at h
    split at h
    · exact ⟨_, m, g, h, B, .refl, hx⟩
    · cases h
  | .fn f, K, h => by
    simp only [packV] at h
    split at h
    · rename_i g'
      obtain ⟨hf, h'⟩ := br_none h
      have : g' = f := by simpa using hf
      subst this
      exact ⟨(), m, g, h', B, .refl, hx⟩
    · cases h
  | .lp j, K, h => by
    simp only [packV] at h
    split at h
    · rename_i i
      obtain ⟨x, hm, rfl⟩ := hx
      split at h
      · rename_i hj
        rcases br_some h with ⟨_, h⟩ | ⟨hi, h⟩
        · cases h
        obtain ⟨B', e⟩ := B.add (h := .box x) hj hi (by simpa using hm)
        exact ⟨(), _, _, h, B', e, x, by simp [gfind], by simp⟩
      · rename_i i' hj
        obtain ⟨hi, h'⟩ := br_none h
        clear h
        have : i' = i := by simpa using hi
        subst this
        have h := h'
        obtain ⟨hh, hg, hmm⟩ := B.bound j _ hj
        rw [hm] at hmm; cases hmm
        exact ⟨(), m, g, h, B, .refl, x, hg, by simp⟩
      · cases h
    · cases h
  | .lr j, K, h => by
    simp only [packV] at h
    split at h
    · rename_i i ver
      obtain ⟨xs, hxs, h⟩ := bind_some' h
      obtain ⟨sz', base, cap, hb, hm, hl, hc⟩ := R.arr hxs
      obtain ⟨_, blk, hd, hb', hm', _, _, hcur⟩ := hx
      rw [hb] at hb'; cases hb'
      rw [hm] at hm'; cases hm'
      have hv := hcur rfl rfl
      subst hv
      split at h
      · rename_i hj
        rcases br_some h with ⟨_, h⟩ | ⟨hi, h⟩
        · cases h
        obtain ⟨B', e⟩ := B.add hj hi hm
        exact ⟨(), _, _, h, B', e, base, xs.length, cap, sz', by simp [gfind], rfl⟩
      · rename_i i' hj
        obtain ⟨hi, h'⟩ := br_none h
        clear h
        have : i' = i := by simpa using hi
        subst this
        have h := h'
        obtain ⟨hh, hg, hmm⟩ := B.bound j _ hj
        rw [hm] at hmm; cases hmm
        exact ⟨(), m, g, h, B, .refl, base, xs.length, cap, sz', hg, rfl⟩
      · cases h
    · obtain ⟨base, rfl⟩ := hx
      split at h
      · rename_i hj
        obtain ⟨B', e⟩ := B.addNone (base := base) hj
        exact ⟨(), _, _, h, B', e, base, 0, 0, sz j, by simp [gfind], rfl⟩
      · cases h
    · cases h

/-- The slots that are kept. -/
def SlotsR (N : Nat → Prop) (w : World) (g : List (Nat × Hd)) (a : Act) : (l : List (Nat × Kd)) → SsT l → Prop
  | [], _ => True
  | (i, kd) :: r, y => (∃ v, a.tmps[i]? = some v ∧ VR N w g kd y.1 v) ∧ SlotsR N w g a r y.2
theorem SlotsR.ext {m m' : Bind} {g g' : List (Nat × Hd)} {a : Act} (e : Ext m g m' g') : ∀ {l : List (Nat × Kd)} {y : SsT l}, SlotsR N w g a l y → SlotsR N w g' a l y
  | [], _, _ => trivial
  | _ :: _, _, ⟨⟨v, hv, h⟩, k⟩ => ⟨⟨v, hv, VR.ext e h⟩, SlotsR.ext e k⟩

theorem packV_un : ∀ {kd : Kd} {m : Bind} {K : kd.T → Bind → Option R'}, packV b kd .un m K = some r → False
  | .int _, _, _, h => by simp [packV, wInt] at h
  | .bool, _, _, h => by simp [packV, wBool] at h
  | .str, _, _, h => by simp [packV, wStr] at h
  | .sl, _, _, h => by simp [packV] at h
  | .cv, _, _, h => by simp [packV] at h
  | .lp _, _, _, h => by simp [packV] at h
  | .lr _, _, _, h => by simp [packV] at h
  | .fn _, _, _, h => by simp [packV] at h

theorem packSlots_sound {sz : Nat → Nat} {a : Act} {t : List AVal} (R : Rel F w μ b) (ht : TRel (Or F (Own μ b)) w μ b t a) : ∀ {l : List (Nat × Kd)} {m : Bind} {g : List (Nat × Hd)} {K : SsT l → Bind → Option R'}, BG μ sz m g →
    packSlots t b l m K = some r → ∃ y m' g', K y m' = some r ∧ BG μ sz m' g' ∧ Ext m g m' g' ∧ SlotsR (Or F (Own μ b)) w g' a l y
  | [], m, g, K, B, h => ⟨(), m, g, h, B, .refl, trivial⟩
  | (i, kd) :: rest, m, g, K, B, h => by
    simp only [packSlots] at h
    cases hi : t[i]? with
    | none =>
      rw [List.getD_eq_getElem?_getD, hi] at h
      exact (packV_un h).elim
    | some x =>
      rw [List.getD_eq_getElem?_getD, hi] at h
      obtain ⟨v, hv, hr⟩ := ht.at hi
      obtain ⟨y, m1, g1, h, B1, e1, hy⟩ := packV_sound R B hr h
      obtain ⟨ys, m2, g2, h, B2, e2, hys⟩ := packSlots_sound R ht B1 h
      exact ⟨(y, ys), m2, g2, h, B2, e1.trans e2, ⟨v, hv, VR.ext e2 hy⟩, hys⟩

/-- The cells that are kept. -/
def CellsR (N : Nat → Prop) (w : World) (g : List (Nat × Hd)) : (l : List Kd) → KsT l → List Value → Prop
  | [], _, vs => vs = []
  | kd :: r, y, vs => ∃ u us, vs = u :: us ∧ VR N w g kd y.1 u ∧ flat u = true ∧ CellsR N w g r y.2 us
theorem CellsR.ext {m m' : Bind} {g g' : List (Nat × Hd)} (e : Ext m g m' g') : ∀ {l : List Kd} {y : KsT l} {vs : List Value}, CellsR N w g l y vs → CellsR N w g' l y vs
  | [], _, _, h => h
  | _ :: _, _, _, ⟨u, us, hv, h, hf, k⟩ => ⟨u, us, hv, VR.ext e h, hf, CellsR.ext e k⟩

theorem packCells_sound {sz : Nat → Nat} (R : Rel F w μ b) : ∀ {l : List Kd} {cs : List AVal} {vs : List Value} {m : Bind} {g : List (Nat × Hd)} {K : KsT l → Bind → Option R'}, BG μ sz m g →
    AsRel (Or F (Own μ b)) w μ b true cs vs → packCells b l cs m K = some r → ∃ y m' g', K y m' = some r ∧ BG μ sz m' g' ∧ Ext m g m' g' ∧ CellsR (Or F (Own μ b)) w g' l y vs
  | [], [], vs, m, g, K, B, ha, h => ⟨(), m, g, h, B, .refl, ha⟩
  | [], _ :: _, vs, m, g, K, B, ha, h => by simp [packCells] at h
  | _ :: _, [], vs, m, g, K, B, ha, h => by simp [packCells] at h
  | kd :: rest, x :: cs, vs, m, g, K, B, ha, h => by
    simp only [packCells] at h
    obtain ⟨u, us, rfl, hx, hf, ha⟩ := ha
    obtain ⟨y, m1, g1, h, B1, e1, hy⟩ := packV_sound R B hx h
    obtain ⟨ys, m2, g2, h, B2, e2, hys⟩ := packCells_sound R B1 ha h
    exact ⟨(y, ys), m2, g2, h, B2, e1.trans e2, u, us, rfl, VR.ext e2 hy, hf rfl, hys⟩

/-- The blocks that are kept. -/
def BlksR (N : Nat → Prop) (w : World) (b : List Blk) (m : Bind) (g : List (Nat × Hd)) : (l : List BK) → Nat → BsT l → Prop
  | [], _, _ => True
  | .arr sz :: r, j, y => ((∃ (i ver : Nat), m.find j = some (some i) ∧ b[i]? = some ⟨ver, .arr sz y.1⟩) ∨ (m.find j = some none ∧ y.1 = [])) ∧ BlksR N w b m g r (j + 1) y.2
  | .box ks :: r, j, y => (∃ (i ver : Nat) (cs : List AVal) (x : Nat) (vs : List Value) (e : TypeId), m.find j = some (some i) ∧ b[i]? = some ⟨ver, .box cs⟩ ∧ gfind g j = some (.box x) ∧ w.heap[x]? = some (.cells vs.toArray e (0, 0)) ∧ CellsR N w g ks y.1 vs) ∧
      BlksR N w b m g r (j + 1) y.2
theorem BlksR.ext {m m' : Bind} {g g' : List (Nat × Hd)} (e : Ext m g m' g') : ∀ {l : List BK} {j : Nat} {y : BsT l}, BlksR N w b m g l j y → BlksR N w b m' g' l j y
  | [], _, _, _ => trivial
  | .arr sz :: r, j, y, ⟨h, k⟩ => ⟨h.imp (fun ⟨i, ver, h1, h2⟩ => ⟨i, ver, e.m _ _ h1, h2⟩) (fun ⟨h1, h2⟩ => ⟨e.m _ _ h1, h2⟩), BlksR.ext e k⟩
  | .box ks :: r, j, y, ⟨⟨i, ver, cs, x, vs, ee, h1, h2, h3, h4, h5⟩, k⟩ => ⟨⟨i, ver, cs, x, vs, ee, e.m _ _ h1, h2, e.g _ _ h3, h4, CellsR.ext e h5⟩, BlksR.ext e k⟩

theorem packBlks_sound {sz : Nat → Nat} (R : Rel F w μ b) : ∀ {l : List BK} {j : Nat} {m : Bind} {g : List (Nat × Hd)} {K : BsT l → Bind → Option R'}, BG μ sz m g →
    packBlks b l j m K = some r → ∃ y m' g', K y m' = some r ∧ BG μ sz m' g' ∧ Ext m g m' g' ∧ BlksR (Or F (Own μ b)) w b m' g' l j y
  | [], j, m, g, K, B, h => ⟨(), m, g, h, B, .refl, trivial⟩
  | .arr s :: rest, j, m, g, K, B, h => by
    simp only [packBlks] at h
    split at h
    · rename_i i hj
      obtain ⟨xs, hxs, h⟩ := bind_some' h
      obtain ⟨hsz, h⟩ := br_none h
      obtain ⟨sz', base, cap, hb, _⟩ := R.arr hxs
      have : sz' = s := by simp [szOf, hb] at hsz; exact hsz
      subst this
      obtain ⟨ys, m2, g2, h, B2, e2, hys⟩ := packBlks_sound R B h
      exact ⟨(xs, ys), m2, g2, h, B2, e2, .inl ⟨i, _, e2.m _ _ hj, hb⟩, hys⟩
    · rename_i hj
      obtain ⟨ys, m2, g2, h, B2, e2, hys⟩ := packBlks_sound R B h
      exact ⟨([], ys), m2, g2, h, B2, e2, .inr ⟨e2.m _ _ hj, rfl⟩, hys⟩
    · cases h
  | .box ks :: rest, j, m, g, K, B, h => by
    simp only [packBlks] at h
    split at h
    · rename_i i hj
      obtain ⟨cs, hcs, h⟩ := bind_some' h
      obtain ⟨ver, x, vs, e, hb, hm, hw, ha, _⟩ := R.box hcs
      obtain ⟨y, m1, g1, h, B1, e1, hy⟩ := packCells_sound R B ha h
      obtain ⟨ys, m2, g2, h, B2, e2, hys⟩ := packBlks_sound R B1 h
      obtain ⟨hh, hg, hmm⟩ := B.bound j i hj
      rw [hm] at hmm; cases hmm
      exact ⟨(y, ys), m2, g2, h, B2, e1.trans e2, ⟨i, ver, cs, x, vs, e, e2.m _ _ (e1.m _ _ hj), hb, e2.g _ _ (e1.g _ _ hg), hw, CellsR.ext e2 hy⟩, hys⟩
    · cases h
end
end Go.Proofs.Ytlgonbonnjkekaa.Abs

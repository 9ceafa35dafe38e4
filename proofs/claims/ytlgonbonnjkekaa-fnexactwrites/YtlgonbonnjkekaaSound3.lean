/- Closing, new blocks, stores. -/
import Derived.Test.YtlgonbonnjkekaaSound2
set_option linter.unusedVariables false
set_option linter.unusedSectionVars false
set_option linter.unusedSimpArgs false
namespace Go.Proofs.Ytlgonbonnjkekaa.Abs
open Go

section
variable {P : Program} {w : World} {F N : Nat → Prop} {μ : List Hd} {b : List Blk}

theorem explodeC_eq {R : Type} {c : CVal} : ∀ {n i : Nat} {K : List CVal → Option R} {r : R}, explodeC c i n K = some r →
    ∃ xs, K xs = some r ∧ xs.length = n ∧ ∀ j x, xs[j]? = some x → c.cells[i + j]? = some x
  | 0, i, K, r, h => ⟨[], h, rfl, fun j x hx => by simp at hx⟩
  | n + 1, i, K, r, h => by
    obtain ⟨x, hx, h⟩ := bind_some' h
    obtain ⟨xs, h1, h2, h3⟩ := explodeC_eq h
    refine ⟨x :: xs, h1, by simp [h2], fun j y hy => ?_⟩
    cases j with
    | zero => simp at hy; subst hy; exact hx
    | succ j =>
      rw [show i + (j + 1) = i + 1 + j by omega]
      exact h3 j y (by simpa using hy)

theorem explodeL_eq {R : Type} {l : List CVal} : ∀ {n i : Nat} {K : List CVal → Option R} {r : R}, explodeL l i n K = some r →
    ∃ xs, K xs = some r ∧ xs.length = n ∧ ∀ j x, xs[j]? = some x → l[i + j]? = some x
  | 0, i, K, r, h => ⟨[], h, rfl, fun j x hx => by simp at hx⟩
  | n + 1, i, K, r, h => by
    obtain ⟨x, hx, h⟩ := bind_some' h
    obtain ⟨xs, h1, h2, h3⟩ := explodeL_eq h
    refine ⟨x :: xs, h1, by simp [h2], fun j y hy => ?_⟩
    cases j with
    | zero => simp at hy; subst hy; exact hx
    | succ j =>
      rw [show i + (j + 1) = i + 1 + j by omega]
      exact h3 j y (by simpa using hy)

theorem same_of_get {α : Type} {xs l : List α} (hn : xs.length = l.length) (h : ∀ (j : Nat) (x : α), xs[j]? = some x → l[0 + j]? = some x) : xs = l := by
  apply List.ext_getElem?
  intro j
  by_cases hj : j < xs.length
  · rw [List.getElem?_eq_getElem hj]
    have := h j _ (List.getElem?_eq_getElem hj)
    simpa using this.symm
  · rw [List.getElem?_eq_none (by omega), List.getElem?_eq_none (by omega)]

def flatX : AVal → Prop
  | .agg _ => False
  | .tup _ => False
  | .un => False
  | .v c => c.isFlat = true
  | _ => True

theorem ARel.flatOf {x : AVal} {v : Value} (h : ARel N w μ b x v) (hx : flatX x) : flat v = true := by
  cases x with
  | v c => exact CRel.flat h hx
  | nl => obtain ⟨_, rfl⟩ := h; rfl
  | lptr i off => obtain ⟨_, _, rfl⟩ := h; rfl
  | lref i ver => exact h.1
  | lel i ver idx off => obtain ⟨⟨_, rfl⟩, _⟩ := h; rfl
  | func f cs => obtain ⟨_, rfl, _⟩ := h; rfl
  | agg _ => exact hx.elim
  | tup _ => exact hx.elim
  | un => exact hx.elim

theorem wCells_sound {R' : Type} {agg : Bool} {n : Nat} {x : AVal} {v : Value} {K : List AVal → Option R'} {r : R'} (hx : ARel N w μ b x v) (h : wCells agg n x K = some r) :
    ∃ cs vs, K cs = some r ∧ AsRel N w μ b true cs vs ∧ v.cells = List.toArray vs ∧ vs.length = n ∧ (agg = true → v = .agg (List.toArray vs)) ∧ (agg = false → cs = [x] ∧ vs = [v]) := by
  unfold wCells at h
  rcases br_some h with ⟨ha, h⟩ | ⟨ha, h⟩
  · subst ha
    cases x with
    | agg cs =>
      have h : br (cs.length == n) (K cs) none = some r := h
      obtain ⟨h1, h⟩ := br_none h
      obtain ⟨vs, rfl, hc⟩ := hx
      exact ⟨cs, vs, h, hc, rfl, by rw [hc.len]; simpa using h1, fun _ => rfl, (fun h => by cases h)⟩
    | v c =>
      have h : br (c.isAggN n) (explodeC c 0 n fun xs => K (xs.map .v)) none = some r := h
      obtain ⟨h1, h⟩ := br_none h
      obtain ⟨xs, h0, h2, h3⟩ := explodeC_eq h
      obtain ⟨cs, rfl, hn⟩ := isAggN_iff h1
      have : xs = cs := same_of_get (by rw [h2, hn]) h3
      subst this
      obtain ⟨vs, rfl, hc⟩ := hx
      exact ⟨_, vs, h0, AsRel.ofC hc, rfl, by rw [hc.len]; exact hn, fun _ => rfl, (fun h => by cases h)⟩
    | _ => cases h
  · subst ha
    have fin : K [x] = some r → n = 1 → flatX x →
        ∃ cs vs, K cs = some r ∧ AsRel N w μ b true cs vs ∧ v.cells = List.toArray vs ∧ vs.length = n ∧ (false = true → v = .agg (List.toArray vs)) ∧ (false = false → cs = [x] ∧ vs = [v]) := by
      intro h1 h3 h4
      have hf := hx.flatOf h4
      exact ⟨[x], [v], h1, ⟨v, [], rfl, hx, fun _ => hf, rfl⟩, cells_flat hf, by simp [h3], (fun h => by cases h), fun _ => ⟨rfl, rfl⟩⟩
    cases x with
    | agg cs => cases h
    | tup cs => cases h
    | un => cases h
    | v c =>
      have h : br (c.isFlat && n == 1) (K [.v c]) none = some r := h
      obtain ⟨h1, h⟩ := br_none h
      simp only [Bool.and_eq_true, beq_iff_eq] at h1
      exact fin h h1.2 h1.1
    | nl | lptr _ _ | lel _ _ _ _ | lref _ _ | func _ _ =>
      obtain ⟨h5, h⟩ := br_none (x := K _) h
      exact fin h (by simpa using h5) trivial

/-! ### Killing -/
/-- Some of the blocks have died. -/
structure Sub (b' b : List Blk) : Prop where
  len : b'.length = b.length
  at_ : ∀ (i : Nat) (blk : Blk), b'[i]? = some blk → alive blk.body = true → b[i]? = some blk

theorem Sub.refl (b : List Blk) : Sub b b := ⟨rfl, fun _ _ h _ => h⟩
theorem Sub.trans {a b c : List Blk} (h : Sub a b) (k : Sub b c) : Sub a c := ⟨h.len.trans k.len, fun i blk hi ha => k.at_ i blk (h.at_ i blk hi ha) ha⟩
theorem Sub.own {b' : List Blk} (h : Sub b' b) {x : Nat} (ho : Own μ b' x) : Own μ b x := by
  obtain ⟨i, blk, hd, hb, ha, hm, hx⟩ := ho
  exact ⟨i, blk, hd, h.at_ i blk hb ha, ha, hm, hx⟩
theorem Sub.keep {b' : List Blk} (h : Sub b' b) : Keep (Or F (Own μ b)) (Or F (Own μ b')) w w :=
  ⟨Nat.le_refl _, fun x _ hn => ⟨rfl, fun hc => hn (hc.imp id h.own)⟩⟩

theorem kill_sub (b : List Blk) (i : Nat) : Sub (kill b i) b := by
  unfold kill
  split
  · rename_i ver bd hb
    refine ⟨by simp, fun j blk hj ha => ?_⟩
    by_cases hij : i = j
    · subst hij
      rw [List.getElem?_set_self (List.getElem?_eq_some_iff.1 hb).1] at hj
      cases hj
      simp [alive] at ha
    · rwa [List.getElem?_set_ne hij] at hj
  · exact .refl _
theorem kill_dead {b : List Blk} {i : Nat} {blk : Blk} (h : (kill b i)[i]? = some blk) : alive blk.body = false := by
  unfold kill at h
  split at h
  · rename_i ver bd hb
    rw [List.getElem?_set_self (List.getElem?_eq_some_iff.1 hb).1] at h
    cases h
    rfl
  · rename_i hb
    rw [hb] at h; cases h

mutual
theorem killA_sub : ∀ (x : AVal) (b : List Blk), Sub (killA x b) b
  | .v _, b => .refl b
  | .nl, b => .refl b
  | .lptr _ _, b => .refl b
  | .lel _ _ _ _, b => .refl b
  | .lref i ver, b => kill_sub b i
  | .agg cs, b => killL_sub cs b
  | .func _ cs, b => killL_sub cs b
  | .tup cs, b => killL_sub cs b
  | .un, b => .refl b
theorem killL_sub : ∀ (cs : List AVal) (b : List Blk), Sub (killL cs b) b
  | [], b => .refl b
  | x :: r, b => (killL_sub r (killA x b)).trans (killA_sub x b)
end

/-- The blocks that a value owns are dead. -/
def DeadAt (b' : List Blk) (i : Nat) : Prop := ∀ blk, b'[i]? = some blk → alive blk.body = false
mutual
def Dead (b' : List Blk) : AVal → Prop
  | .lref i _ => DeadAt b' i
  | .agg cs => DeadL b' cs
  | .func _ cs => DeadL b' cs
  | .tup cs => DeadL b' cs
  | _ => True
def DeadL (b' : List Blk) : List AVal → Prop
  | [] => True
  | x :: r => Dead b' x ∧ DeadL b' r
end
theorem DeadAt.sub {b' b : List Blk} {i : Nat} (h : DeadAt b i) (s : Sub b' b) : DeadAt b' i := fun blk hb => by
  cases ha : alive blk.body with
  | false => rfl
  | true => rw [← ha]; exact h blk (s.at_ i blk hb ha)
mutual
theorem Dead.sub {b' b : List Blk} (s : Sub b' b) : ∀ {x : AVal}, Dead b x → Dead b' x
  | .v _, _ => trivial
  | .nl, _ => trivial
  | .lptr _ _, _ => trivial
  | .lel _ _ _ _, _ => trivial
  | .lref i ver, h => DeadAt.sub h s
  | .agg cs, h => DeadL.sub s (cs := cs) h
  | .func _ cs, h => DeadL.sub s (cs := cs) h
  | .tup cs, h => DeadL.sub s (cs := cs) h
  | .un, _ => trivial
theorem DeadL.sub {b' b : List Blk} (s : Sub b' b) : ∀ {cs : List AVal}, DeadL b cs → DeadL b' cs
  | [], _ => trivial
  | x :: r, h => ⟨Dead.sub s h.1, DeadL.sub s h.2⟩
end
mutual
theorem killA_dead : ∀ (x : AVal) (b : List Blk), Dead (killA x b) x
  | .v _, b => trivial
  | .nl, b => trivial
  | .lptr _ _, b => trivial
  | .lel _ _ _ _, b => trivial
  | .lref i ver, b => fun blk h => kill_dead h
  | .agg cs, b => killL_dead cs b
  | .func _ cs, b => killL_dead cs b
  | .tup cs, b => killL_dead cs b
  | .un, b => trivial
theorem killL_dead : ∀ (cs : List AVal) (b : List Blk), DeadL (killL cs b) cs
  | [], b => trivial
  | x :: r, b => ⟨Dead.sub (killL_sub r (killA x b)) (killA_dead x b), killL_dead r (killA x b)⟩
end

mutual
theorem closeA_sound (R : Rel F w μ b) {b' : List Blk} (s : Sub b' b) : ∀ {x : AVal} {c : CVal} {v : Value}, closeA b x = some c → ARel (Or F (Own μ b)) w μ b x v → Dead b' x →
    CRel (Or F (Own μ b')) w c v
  | .v c, _, v, h, hx, _ => by
    simp only [closeA, Option.some.injEq] at h; subst h
    exact CRel.keep s.keep hx
  | .nl, _, v, h, hx, _ => by
    simp only [closeA, Option.some.injEq] at h; subst h
    obtain ⟨base, rfl⟩ := hx
    exact ⟨base, 0, rfl, Nat.le_refl _, .inl rfl⟩
  | .lptr _ _, _, _, h, _, _ => by simp [closeA] at h
  | .lel _ _ _ _, _, _, h, _, _ => by simp [closeA] at h
  | .un, _, _, h, _, _ => by simp [closeA] at h
  | .lref i ver, _, v, h, hx, hd => by
    simp only [closeA] at h
    obtain ⟨xs, hxs, h⟩ := bind_some' h
    simp only [Option.some.injEq] at h; subst h
    obtain ⟨sz, base, cap, hb, hm, hl, hc⟩ := R.arr hxs
    obtain ⟨_, blk, hh, hb', hm', _, _, hcur⟩ := hx
    rw [hb] at hb'; cases hb'
    rw [hm] at hm'; cases hm'
    have hv := hcur rfl rfl
    subst hv
    refine ⟨base, cap, rfl, hl, ?_⟩
    rcases hc with hc | ⟨x, cells, e, rfl, hw, hz, he⟩
    · left; have : xs.length = 0 := by omega
      exact List.length_eq_zero_iff.1 this
    · by_cases h0 : cap = 0
      · left; have : xs.length = 0 := by omega
        exact List.length_eq_zero_iff.1 this
      · have hown : Own μ b x := ⟨i, _, _, hb, rfl, hm, by simp [Hd.own, h0, pl]⟩
        refine .inr ⟨x, 0, sz, rfl, ?_, (R.fres x hown).2, ElRel.keepAt s.keep rfl he⟩
        rintro (hf | ⟨j, blk, hj, hbj, haj, hmj, hoj⟩)
        · exact (R.fres x hown).1 hf
        · have := R.inj i j _ blk _ hj x hb (s.at_ j blk hbj haj) rfl haj hm hmj (by simp [Hd.own, h0, pl]) hoj
          subst this
          have := hd blk hbj
          rw [haj] at this; cases this
  | .agg cs, _, v, h, hx, hd => by
    simp only [closeA] at h
    obtain ⟨xs, hxs, h⟩ := bind_some' h
    simp only [Option.some.injEq] at h; subst h
    obtain ⟨vs, rfl, hc⟩ := hx
    exact ⟨vs, rfl, closeL_sound R s hxs hc hd⟩
  | .func f cs, _, v, h, hx, hd => by
    simp only [closeA] at h
    obtain ⟨xs, hxs, h⟩ := bind_some' h
    simp only [Option.some.injEq] at h; subst h
    obtain ⟨vs, rfl, hc⟩ := hx
    exact ⟨vs, rfl, closeL_sound R s hxs hc hd⟩
  | .tup cs, _, v, h, hx, hd => by
    simp only [closeA] at h
    obtain ⟨xs, hxs, h⟩ := bind_some' h
    simp only [Option.some.injEq] at h; subst h
    obtain ⟨vs, rfl, hc⟩ := hx
    exact ⟨vs, rfl, closeL_sound R s hxs hc hd⟩
theorem closeL_sound (R : Rel F w μ b) {b' : List Blk} (s : Sub b' b) : ∀ {fl : Bool} {cs : List AVal} {xs : List CVal} {vs : List Value}, closeL b cs = some xs →
    AsRel (Or F (Own μ b)) w μ b fl cs vs → DeadL b' cs → CsRel (Or F (Own μ b')) w fl xs vs
  | _, [], _, vs, h, hx, _ => by
    simp only [closeL, Option.some.injEq] at h; subst h
    exact hx
  | _, x :: r, _, vs, h, hx, hd => by
    simp only [closeL] at h
    obtain ⟨c, hc, h⟩ := bind_some' h
    obtain ⟨cs, hcs, h⟩ := bind_some' h
    simp only [Option.some.injEq] at h; subst h
    obtain ⟨u, us, rfl, hu, hf, hr⟩ := hx
    exact ⟨u, us, rfl, closeA_sound R s hc hu hd.1, hf, closeL_sound R s hcs hr hd.2⟩
end

theorem kill_upd (R : Rel F w μ b) (i : Nat) : Upd F w μ b w μ (kill b i) ∧ Rel F w μ (kill b i) := by
  unfold kill
  split
  · rename_i ver bd hb
    have hi := (List.getElem?_eq_some_iff.1 hb).1
    have O : One F w μ b w μ (b.set i ⟨ver + 1, .dead⟩) i := by
      refine ⟨R, by simpa using R.len, by simp, fun j hj hne => ⟨List.getElem?_set_ne (Ne.symm hne), rfl⟩, by simpa using hi, ?_, Nat.le_refl _, ?_, fun _ _ _ => rfl⟩
      · intro blk h hb' hm
        rw [hb] at hb'; cases hb'
        exact ⟨_, h, List.getElem?_set_self hi, hm, ⟨Nat.le_succ _, id, fun _ h => h, fun e => by simp at e⟩⟩
      · intro blk' h' x hb' hm ha
        rw [List.getElem?_set_self hi] at hb'; cases hb'
        simp [alive] at ha
    refine ⟨O.upd, O.done fun blk' h' hb' hm => ?_⟩
    rw [List.getElem?_set_self hi] at hb'; cases hb'
    trivial
  · exact ⟨.refl R, R⟩

mutual
theorem killA_upd : ∀ (x : AVal) {b : List Blk}, Rel F w μ b → Upd F w μ b w μ (killA x b) ∧ Rel F w μ (killA x b)
  | .v _, b, R => ⟨.refl R, R⟩
  | .nl, b, R => ⟨.refl R, R⟩
  | .lptr _ _, b, R => ⟨.refl R, R⟩
  | .lel _ _ _ _, b, R => ⟨.refl R, R⟩
  | .lref i ver, b, R => kill_upd R i
  | .agg cs, b, R => killL_upd cs R
  | .func _ cs, b, R => killL_upd cs R
  | .tup cs, b, R => killL_upd cs R
  | .un, b, R => ⟨.refl R, R⟩
theorem killL_upd : ∀ (cs : List AVal) {b : List Blk}, Rel F w μ b → Upd F w μ b w μ (killL cs b) ∧ Rel F w μ (killL cs b)
  | [], b, R => ⟨.refl R, R⟩
  | x :: r, b, R => by
    obtain ⟨U, R1⟩ := killA_upd x R
    obtain ⟨V, R2⟩ := killL_upd r R1
    exact ⟨U.trans V, R2⟩
end
end

end Go.Proofs.Ytlgonbonnjkekaa.Abs

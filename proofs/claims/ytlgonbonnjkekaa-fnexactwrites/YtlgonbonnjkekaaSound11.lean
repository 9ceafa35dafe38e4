/- What is handed over at a call. -/
import Derived.Test.YtlgonbonnjkekaaSound10
set_option linter.unusedVariables false
set_option linter.unusedSectionVars false
set_option linter.unusedSimpArgs false
namespace Go.Proofs.Ytlgonbonnjkekaa.Abs
open Go

section
variable {P : Program} {w : World} {F N M : Nat → Prop} {μ : List Hd} {b : List Blk} {R' : Type} {r : R'}


theorem promo_sound {E : Env} {g : FuncId} {q : Nat} : ∀ {used : Bool} {j : Nat} {args : List AVal} {b : List Blk} {μ : List Hd} {vs : List Value} {K : List AVal → List Blk → Option R'},
    (used = false → Free μ b q) → Rel F w μ b → AsRel (Or F (Own μ b)) w μ b false args vs → promo E g q used j args b K = some r →
    ∃ args1 b1 μ1, K args1 b1 = some r ∧ Upd F w μ b w μ1 b1 ∧ Rel F w μ1 b1 ∧ AsRel (Or F (Own μ1 b1)) w μ1 b1 false args1 vs ∧ (pureArgs E g j args = true → b1 = b ∧ args1 = args)
  | used, j, [], b, μ, vs, K, hq, R, ha, h => ⟨[], b, μ, h, .refl R, R, ha, fun _ => ⟨rfl, rfl⟩⟩
  | used, j, x :: rest, b, μ, vs, K, hq, R, ha, h => by
    obtain ⟨u, us, rfl, hx, _, ha⟩ := ha
    have other : ∀ {x : AVal}, ARel (Or F (Own μ b)) w μ b x u → (promo E g q used (j + 1) rest b fun l b => K (x :: l) b) = some r →
        ∃ args1 b1 μ1, K args1 b1 = some r ∧ Upd F w μ b w μ1 b1 ∧ Rel F w μ1 b1 ∧ AsRel (Or F (Own μ1 b1)) w μ1 b1 false args1 (u :: us) ∧ (pureArgs E g j (x :: rest) = true → b1 = b ∧ args1 = x :: rest) := by
      intro x hx h
      obtain ⟨args1, b1, μ1, h, U, R1, ha1, hp⟩ := promo_sound hq R ha h
      refine ⟨_, b1, μ1, h, U, R1, ⟨_, _, rfl, ARel.upd U hx, by simp, ha1⟩, fun hpu => ?_⟩
      have : pureArgs E g (j + 1) rest = true := by
        cases x <;> simp [pureArgs] at hpu <;> first | exact hpu | exact hpu.2
      exact ⟨(hp this).1, by rw [(hp this).2]⟩
    cases x with
    | nl =>
      simp only [promo] at h
      rcases br_some h with ⟨hpass, h⟩ | ⟨_, h⟩
      · rcases br_some h with ⟨_, h⟩ | ⟨hu, h⟩
        · cases h
        have hf := hq hu
        obtain ⟨base, rfl⟩ := hx
        have hown : ∀ x, (Hd.arr base 0 0 (szParam E.P g j)).own = some x → False := by
          intro x hx; cases base <;> simp [Hd.own] at hx
        have hp := new_post (F := F) (w := w) (w' := w) (q := q) (blk := ⟨0, .arr (szParam E.P g j) []⟩) (h := .arr base 0 0 (szParam E.P g j)) (x := .lref q 0) (v := .slice base 0 0)
          R hf (Nat.le_refl _) (fun _ _ => rfl) (fun x hx => (hown x hx).elim) rfl rfl rfl (fun U => ⟨base, 0, rfl, Nat.le_refl _, .inl rfl⟩)
          ⟨rfl, _, _, putNew_at hf.le, putH_at (by rw [R.len]; exact hf.le), by simp, Nat.le_refl _, fun _ _ => rfl⟩
        obtain ⟨args1, b1, μ1, h, U, R1, ha1, _⟩ := promo_sound (used := true) (by simp) hp.rel (AsRel.upd hp.upd ha) h
        exact ⟨_, b1, μ1, h, hp.upd.trans U, R1, ⟨_, _, rfl, ARel.upd U hp.val, by simp, ha1⟩, fun hpu => by simp [pureArgs] at hpu; simp [hpu.1] at hpass⟩
      · exact other hx h
    | _ => simp only [promo] at h; exact other hx h

/-! Arguments as the callee sees them. -/
def hsOf (μ : List Hd) (ids : List Nat) : List Hd := ids.map fun i => (μ[i]?).getD .none

def HA1 (M : Nat → Prop) (w : World) (hs : List Hd) : AVal → Value → Prop
  | .v c, v => CRel M w c v
  | .lptr j o, v => o = 0 ∧ ∃ x, hs[j]? = some (.box x) ∧ v = .pointer (some (pl x 0))
  | _, _ => False
def HAs1 (M : Nat → Prop) (w : World) (hs : List Hd) : List AVal → List Value → Prop
  | [], vs => vs = []
  | x :: r, vs => ∃ u us, vs = u :: us ∧ HA1 M w hs x u ∧ HAs1 M w hs r us
def HA (M : Nat → Prop) (w : World) (hs : List Hd) : AVal → Value → Prop
  | .lref j ver, v => ver = 0 ∧ ∃ base len cap sz, hs[j]? = some (.arr base len cap sz) ∧ v = .slice base len cap
  | .func g cs, v => ∃ vs : List Value, v = .func (.func g) #[] vs.toArray ∧ HAs1 M w hs cs vs
  | x, v => HA1 M w hs x v
def HAs (M : Nat → Prop) (w : World) (hs : List Hd) : List AVal → List Value → Prop
  | [], vs => vs = []
  | x :: r, vs => ∃ u us, vs = u :: us ∧ HA M w hs x u ∧ HAs M w hs r us

theorem HA.of1 {hs : List Hd} {x : AVal} {v : Value} (h : HA1 M w hs x v) : HA M w hs x v := by
  cases x <;> first | exact h | exact h.elim

theorem idxOf_some : ∀ {ids : List Nat} {i j : Nat}, idxOf ids i = some j → ids[j]? = some i
  | [], _, _, h => by simp [idxOf] at h
  | k :: r, i, j, h => by
    simp only [idxOf] at h
    rcases br_some h with ⟨h1, h2⟩ | ⟨_, h⟩
    · simp at h1 h2; subst h1 h2; rfl
    · cases hr : idxOf r i with
      | none => simp [hr] at h
      | some j' => simp [hr] at h; subst h; simpa using idxOf_some hr
theorem idxOf_none : ∀ {ids : List Nat} {i : Nat}, idxOf ids i = none → i ∉ ids
  | [], _, _ => by simp
  | k :: r, i, h => by
    simp only [idxOf] at h
    cases hk : k == i with
    | true => simp [hk, br] at h
    | false =>
      simp [hk, br] at h
      simp only [List.mem_cons, not_or]
      exact ⟨fun e => by simp [e] at hk, idxOf_none h⟩

structure HStep (F : Nat → Prop) (w : World) (μ : List Hd) (h h' : Hand) : Prop where
  ext : ∃ e, h'.ids = h.ids ++ e
  nodup : h.ids.Nodup → h'.ids.Nodup
  sub : Sub h'.b h.b
  upd : Upd F w μ h.b w μ h'.b
  rel : Rel F w μ h'.b
  args : h'.args = h.args

theorem HStep.refl {h : Hand} (R : Rel F w μ h.b) : HStep F w μ h h := ⟨⟨[], by simp⟩, id, .refl _, .refl R, R, rfl⟩
theorem HStep.trans {h h' h'' : Hand} (x : HStep F w μ h h') (y : HStep F w μ h' h'') : HStep F w μ h h'' := by
  obtain ⟨e, he⟩ := x.ext
  obtain ⟨e', he'⟩ := y.ext
  exact ⟨⟨e ++ e', by rw [he', he, List.append_assoc]⟩, fun n => y.nodup (x.nodup n), y.sub.trans x.sub, x.upd.trans y.upd, y.rel, y.args.trans x.args⟩

theorem nodup_snoc {ids : List Nat} {i : Nat} (h : i ∉ ids) (n : ids.Nodup) : (ids ++ [i]).Nodup := by
  rw [List.nodup_append]
  exact ⟨n, by simp, by intro a ha b hb; simp at hb; subst hb; intro e; subst e; exact h ha⟩

theorem hs_at {ids e : List Nat} {i j : Nat} {hd : Hd} (h : ids[j]? = some i) (hm : μ[i]? = some hd) : (hsOf μ (ids ++ e))[j]? = some hd := by
  unfold hsOf
  rw [List.getElem?_map, List.getElem?_append_left (List.getElem?_eq_some_iff.1 h).1, h]
  simp [hm]

theorem handPtr_sound {h : Hand} {i : Nat} {x : Nat} {K : AVal → Hand → Option R'} (R : Rel F w μ h.b) (hm : μ[i]? = some (.box x)) (hh : handPtr h i K = some r) :
    ∃ a h', K a h' = some r ∧ HStep F w μ h h' ∧ h'.b = h.b ∧ ∀ M e, HA1 M w (hsOf μ (h'.ids ++ e)) a (.pointer (some (pl x 0))) := by
  unfold handPtr at hh
  split at hh
  · rename_i j hj
    exact ⟨_, _, hh, .refl R, rfl, fun M e => ⟨rfl, x, hs_at (idxOf_some hj) hm, rfl⟩⟩
  · rename_i hj
    refine ⟨_, _, hh, ⟨⟨[i], rfl⟩, nodup_snoc (idxOf_none hj), .refl _, .refl R, R, rfl⟩, rfl, fun M e => ⟨rfl, x, hs_at (i := i) (by simp) hm, rfl⟩⟩

theorem handCaps_sound : ∀ {caps : List AVal} {h : Hand} {vs : List Value} {fl : Bool} {K : List AVal → Hand → Option R'}, Rel F w μ h.b → AsRel (Or F (Own μ h.b)) w μ h.b fl caps vs → handCaps caps h K = some r →
    ∃ l h', K l h' = some r ∧ HStep F w μ h h' ∧ h'.b = h.b ∧ ∀ (M : Nat → Prop) e, (∀ x, M x → Or F (Own μ h.b) x) → HAs1 M w (hsOf μ (h'.ids ++ e)) l vs
  | [], h, vs, fl, K, R, ha, hh => ⟨[], h, hh, .refl R, rfl, fun M e _ => ha⟩
  | x :: rest, h, vs, fl, K, R, ha, hh => by
    obtain ⟨u, us, rfl, hx, _, ha⟩ := ha
    cases x with
    | v c =>
      simp only [handCaps] at hh
      obtain ⟨l, h', hh, hs, hb, hl⟩ := handCaps_sound R ha hh
      exact ⟨_, h', hh, hs, hb, fun M e hM => ⟨u, us, rfl, CRel.keep (Keep.sub hM) hx, hl M e hM⟩⟩
    | lptr i off =>
      cases off with
      | zero =>
        simp only [handCaps] at hh
        obtain ⟨x, hm, rfl⟩ := hx
        obtain ⟨a, h1, hh, hs1, hb1, hp⟩ := handPtr_sound R hm hh
        obtain ⟨l, h', hh, hs, hb, hl⟩ := handCaps_sound hs1.rel (by rw [hb1]; exact ha) hh
        obtain ⟨e1, he1⟩ := hs.ext
        exact ⟨_, h', hh, hs1.trans hs, hb.trans hb1, fun M e hM => ⟨_, us, rfl, by rw [he1, List.append_assoc]; exact hp M _, hl M e (by rw [hb1]; exact hM)⟩⟩
      | succ n => simp [handCaps] at hh
    | _ => simp [handCaps] at hh

def isRef : AVal → Bool
  | .lref _ _ => true
  | _ => false

def pureA (m : PM) : AVal → Bool
  | .v _ => true
  | .nl => true
  | .lref _ _ => decide (m = .bor)
  | _ => false

theorem handA_sound {m : PM} {x : AVal} {h : Hand} {v : Value} {K : AVal → Hand → Option R'} (R : Rel F w μ h.b) (hx : ARel (Or F (Own μ h.b)) w μ h.b x v) (hh : handA m x h K = some r) :
    ∃ a h', K a h' = some r ∧ HStep F w μ h h' ∧ (pureA m x = true → h' = h) ∧ ∀ (M : Nat → Prop) e, (∀ x, M x → Or F (Own μ h'.b) x) → (m = .bor → isRef x = true → ∀ x, M x → F x) → HA M w (hsOf μ (h'.ids ++ e)) a v := by
  cases x with
  | v c => exact ⟨_, _, hh, .refl R, fun _ => rfl, fun M e hM _ => CRel.keep (Keep.sub hM) hx⟩
  | nl =>
    obtain ⟨base, rfl⟩ := hx
    exact ⟨_, _, hh, .refl R, fun _ => rfl, fun M e hM _ => ⟨base, 0, rfl, Nat.le_refl _, .inl rfl⟩⟩
  | lref i ver =>
    simp only [handA] at hh
    obtain ⟨xs, hxs, hh⟩ := bind_some' hh
    obtain ⟨sz, base, cap, hb, hm, hl, hc⟩ := R.arr hxs
    have hx0 := hx
    obtain ⟨_, blk, hd, hb', hm', _, _, hcur⟩ := hx
    rw [hb] at hb'; cases hb'
    rw [hm] at hm'; cases hm'
    have hv := hcur rfl rfl
    subst hv
    split at hh
    · split at hh
      · cases hh
      · rename_i hj
        exact ⟨_, _, hh, ⟨⟨[i], rfl⟩, nodup_snoc (idxOf_none hj), .refl _, .refl R, R, rfl⟩, by simp [pureA], fun M e _ _ => ⟨rfl, base, xs.length, cap, sz, hs_at (i := i) (by simp) hm, rfl⟩⟩
    · refine ⟨_, _, hh, .refl R, fun _ => rfl, fun M e hM hF => ?_⟩
      refine ⟨base, cap, rfl, hl, ?_⟩
      rcases hc with hc | ⟨z, cells, ee, rfl, hw, hz, he⟩
      · left; exact List.length_eq_zero_iff.1 (by omega)
      · by_cases h0 : cap = 0
        · left; exact List.length_eq_zero_iff.1 (by omega)
        · have hown : Own μ h.b z := ⟨i, _, _, hb, rfl, hm, by simp [Hd.own, h0, pl]⟩
          have hfr := R.fres z hown
          exact .inr ⟨z, 0, sz, rfl, fun k => hfr.1 (hF rfl rfl z k), hfr.2, ElRel.keepAt (Keep.sub hM) rfl he⟩
    · obtain ⟨U, R1⟩ := kill_upd R i
      have hcl := closeA_sound R (kill_sub h.b i) (x := .lref i ver) (c := .sl xs) (by simp [closeA, hxs]) hx0 (fun blk hb => kill_dead hb)
      exact ⟨_, _, hh, ⟨⟨[], by simp⟩, id, kill_sub _ _, U, R1, rfl⟩, by simp [pureA], fun M e hM _ => CRel.keep (Keep.sub hM) hcl⟩
  | lptr i off =>
    cases off with
    | zero =>
      obtain ⟨x, hm, rfl⟩ := hx
      obtain ⟨a, h', hh, hs, _, hp⟩ := handPtr_sound R hm hh
      exact ⟨a, h', hh, hs, by simp [pureA], fun M e _ _ => .of1 (hp M e)⟩
    | succ n => simp [handA] at hh
  | func g caps =>
    obtain ⟨vs, rfl, hc⟩ := hx
    obtain ⟨l, h', hh, hs, hb, hl⟩ := handCaps_sound R hc hh
    exact ⟨_, h', hh, hs, by simp [pureA], fun M e hM _ => ⟨vs, rfl, hl M e (by rw [← hb]; exact hM)⟩⟩
  | agg cs =>
    simp only [handA] at hh
    obtain ⟨l, hl, hh⟩ := bind_some' hh
    obtain ⟨vs, rfl, hc⟩ := hx
    obtain ⟨U, R1⟩ := killL_upd cs R
    have hcl := closeL_sound R (killL_sub cs h.b) hl hc (killL_dead cs h.b)
    exact ⟨_, _, hh, ⟨⟨[], by simp⟩, id, killL_sub _ _, U, R1, rfl⟩, by simp [pureA], fun M e hM _ => ⟨vs, rfl, CsRel.keep (Keep.sub hM) hcl⟩⟩
  | _ => simp [handA] at hh

theorem handAll_sound {E : Env} {g : FuncId} : ∀ {args : List AVal} {j : Nat} {h : Hand} {vs : List Value} {K : Hand → Option R'}, Rel F w μ h.b → AsRel (Or F (Own μ h.b)) w μ h.b false args vs →
    handAll (E.pm g) j args h K = some r →
    ∃ (h' : Hand) (l : List AVal), K h' = some r ∧ HStep F w μ h ⟨h.args, h'.ids, h'.b⟩ ∧ h'.args = h.args ++ l ∧ (pureArgs E g j args = true → h'.ids = h.ids ∧ h'.b = h.b) ∧
      ∀ (M : Nat → Prop) e, (∀ x, M x → Or F (Own μ h'.b) x) → (borrows E g j args = true → ∀ x, M x → F x) → HAs M w (hsOf μ (h'.ids ++ e)) l vs
  | [], j, h, vs, K, R, ha, hh => ⟨h, [], hh, .refl R, by simp, fun _ => ⟨rfl, rfl⟩, fun M e _ _ => ha⟩
  | x :: rest, j, h, vs, K, R, ha, hh => by
    obtain ⟨u, us, rfl, hx, _, ha⟩ := ha
    simp only [handAll] at hh
    obtain ⟨a, h1, hh, hs1, hpu1, hp⟩ := handA_sound R hx hh
    obtain ⟨h', l, hh, hs, hargs, hpu, hl⟩ := handAll_sound (h := ⟨h1.args ++ [a], h1.ids, h1.b⟩) hs1.rel (AsRel.upd hs1.upd ha) hh
    obtain ⟨e1, he1⟩ := hs.ext
    refine ⟨h', a :: l, hh, ⟨?_, fun n => hs.nodup (hs1.nodup n), hs.sub.trans hs1.sub, hs1.upd.trans hs.upd, hs.rel, rfl⟩, by rw [hargs]; simp [hs1.args], fun hh => ?_, fun M e hM hb => ⟨u, us, rfl, ?_, hl M e hM fun hb' => hb ?_⟩⟩
    · obtain ⟨e0, he0⟩ := hs1.ext
      exact ⟨e0 ++ e1, by rw [he1]; simp [he0]⟩
    · have h2 : pureA (E.pm g j) x = true ∧ pureArgs E g (j + 1) rest = true := by
        cases x <;> simp [pureArgs] at hh <;> first | exact ⟨rfl, hh⟩ | exact ⟨rfl, hh.2⟩ | exact ⟨by simp [pureA, hh.1], hh.2⟩
      obtain ⟨h3, h4⟩ := hpu h2.2
      have := hpu1 h2.1
      subst this
      exact ⟨h3, h4⟩
    · simp only at he1
      rw [he1, List.append_assoc]
      refine hp M _ (fun x hx => (hM x hx).imp id fun ho => hs.sub.own ho) fun hm hr => hb ?_
      unfold borrows
      cases x <;> simp [isRef] at hr
      simp [hm]
    · unfold borrows; simp [hb']
end
end Go.Proofs.Ytlgonbonnjkekaa.Abs

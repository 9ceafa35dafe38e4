/- Code. -/
import Derived.Test.YtlgonbonnjkekaaSound17
import Derived.LoopN
set_option linter.unusedVariables false
set_option linter.unusedSectionVars false
set_option linter.unusedSimpArgs false
namespace Go.Proofs.Ytlgonbonnjkekaa.Abs
open Go

section
variable {P : Program} {w : World} {F N M : Nat → Prop} {μ : List Hd} {b : List Blk} {R' : Type} {r : R'}

theorem AsRel.mk' : ∀ {cs : List AVal} {vs : List Value}, vs.length = cs.length → (∀ (i : Nat) (x : AVal) (v : Value), cs[i]? = some x → vs[i]? = some v → ARel N w μ b x v) → AsRel N w μ b false cs vs
  | [], vs, hl, _ => by
    have : vs = [] := List.length_eq_zero_iff.1 hl
    subst this; rfl
  | x :: r, [], hl, _ => by simp at hl
  | x :: r, v :: vs, hl, h => ⟨v, vs, rfl, h 0 x v rfl rfl, by simp, AsRel.mk' (by simpa using hl) fun i y u hy hu => h (i + 1) y u (by simpa using hy) (by simpa using hu)⟩

theorem wipe_get : ∀ {l : List Oper} {t : List AVal} {i : Nat} {x : AVal}, (l.foldl (fun t o => putA t o.dst .un) t)[i]? = some x → x = .un ∨ (t[i]? = some x ∧ ∀ o ∈ l, o.dst ≠ some i)
  | [], _, _, _, h => .inr ⟨h, by simp⟩
  | o :: r, t, i, x, h => by
    rw [List.foldl_cons] at h
    rcases wipe_get h with h | ⟨h, hn⟩
    · exact .inl h
    · cases hd : o.dst with
      | none =>
        rw [hd] at h
        exact .inr ⟨h, fun o' ho' => by
          rcases List.mem_cons.1 ho' with e | e
          · subst e; rw [hd]; simp
          · exact hn o' e⟩
      | some d =>
        rw [hd] at h
        simp only [putA] at h
        by_cases e : d = i
        · subst e
          have hlt : d < t.length := by
            have := (List.getElem?_eq_some_iff.1 h).1
            simpa using this
          rw [List.getElem?_set_self hlt] at h
          exact .inl (Option.some.inj h).symm
        · rw [List.getElem?_set_ne e] at h
          exact .inr ⟨h, fun o' ho' => by
            rcases List.mem_cons.1 ho' with e' | e'
            · subst e'; rw [hd]; simpa using e
            · exact hn o' e'⟩

theorem wipe_len : ∀ {l : List Oper} {t : List AVal}, (l.foldl (fun t o => putA t o.dst .un) t).length = t.length
  | [], _ => rfl
  | o :: r, t => by
    rw [List.foldl_cons, wipe_len]
    cases o.dst <;> simp [putA]

theorem wipe_rel {w' : World} {μ' : List Hd} {ops : Array Oper} {t : List AVal} {a a' : Act} (U : Upd F w μ b w' μ' b) (ht : TRel (Or F (Own μ b)) w μ b t a) (hs : Same ops.toList a a') (hd : a'.defers = []) :
    TRel (Or F (Own μ' b)) w' μ' b (wipe ops t) a' := by
  have ht' := TRel.upd U ht
  refine ⟨AsRel.mk' ?_ ?_, hd⟩
  · have := AsRel.len ht.1
    unfold wipe
    rw [wipe_len]
    simp only [Array.length_toList] at this ⊢
    rw [hs.size]; exact this
  · intro i x v hx hv
    unfold wipe at hx
    rcases wipe_get hx with rfl | ⟨hx, hn⟩
    · trivial
    · obtain ⟨u, hu, hr⟩ := ht'.at hx
      have := hs.at_ i hn
      rw [hu] at this
      rw [Array.getElem?_toList, this] at hv
      cases hv
      exact hr

/-- Kept values that name no block. -/
theorem VR.closed {g : List (Nat × Hd)} : ∀ {kd : Kd} {y : kd.T} {v : Value}, kd.closed = true → VR N w g kd y v → ARel N w μ b (unV kd y) v
  | .int _, _, _, _, h => h
  | .bool, _, _, _, h => h
  | .str, _, _, _, h => h
  | .sl, _, _, _, h => h
  | .cv, _, _, _, h => h
  | .fn _, _, _, _, h => h
  | .lp _, _, _, hc, _ => by cases hc
  | .lr _, _, _, hc, _ => by cases hc

theorem SlotsR.closed {g : List (Nat × Hd)} {a : Act} : ∀ {l : List (Nat × Kd)} {y : SsT l} {t : List AVal}, l.all (fun k => k.2.closed) = true → SlotsR N w g a l y → TRel N w μ b t a → TRel N w μ b (unSlots l y t) a
  | [], _, t, _, _, ht => ht
  | (i, kd) :: r, y, t, hc, ⟨⟨v, hv, h⟩, k⟩, ht => by
    simp only [List.all_cons, Bool.and_eq_true] at hc
    exact SlotsR.closed (l := r) (y := y.2) hc.2 k (ht.set i fun v' hv' => by rw [hv] at hv'; cases hv'; exact VR.closed hc.1 h)

theorem evReg_sound {E : Env} {N' : Ann} {C : CallT} {f : FuncId} (hm : E.P.follows .mixedOrders = true) (hC : COk E C) {id : Nat} {ops : Array Oper} {draw : Bool} {s : St} {a : Act} {K : St → Option R'}
    (R : Rel F w μ s.b) (ht : TRel (Or F (Own μ s.b)) w μ s.b s.t a) (h : evReg E N' C f id ops draw s K = some r) (Q : Exit → Act → World → Prop)
    (hq : ∀ s' a' w' μ', K s' = some r → Now F w μ s.b w' μ' s'.b → TRel (Or F (Own μ' s'.b)) w' μ' s'.b s'.t a' → a'.tmps.size = a.tmps.size → Q .normal a' w') :
    (Code.region id ops draw).wp E.P Q a w := by
  unfold evReg at h
  split at h
  · cases draw with
    | false =>
      exact wp_region_list (evOps_sound hC ops _ R ht h Q fun t' b' a' w' μ' hK _ hn ht' hs => hq ⟨t', b'⟩ a' w' μ' hK hn ht' hs.size)
    | true =>
      obtain ⟨htp, h⟩ := br_none h
      exact evD_sound hm hC htp R ht h Q fun t' b' a' w' μ' hK _ hn ht' hs => hq ⟨t', b'⟩ a' w' μ' hK hn ht' hs.size
  · rename_i ks hks
    obtain ⟨hcl, h⟩ := br_none h
    obtain ⟨x, hx, h⟩ := bind_some' h
    have fin : ∀ (t' : List AVal) (b' : List Blk) (a' : Act) (w' : World) (μ' : List Hd), packSlots t' b' ks [] (fun x _ => some x) = some x → b' = s.b → Now F w μ s.b w' μ' b' → TRel (Or F (Own μ' b')) w' μ' b' t' a' →
        Same ops.toList a a' → Q .normal a' w' := by
      intro t' b' a' w' μ' hp hb hn ht' hs
      subst hb
      obtain ⟨y, m, g, hy, _, _, hsl⟩ := packSlots_sound (sz := fun _ => 0) (g := []) hn.rel ht' ⟨fun j => by simp [Bind.find, gfind], fun j i h => by simp [Bind.find] at h, fun j h => by simp [Bind.find] at h, fun j j' i h => by simp [Bind.find] at h⟩ hp
      simp at hy
      subst hy
      exact hq _ a' w' μ' h hn (SlotsR.closed hcl hsl (wipe_rel hn.upd ht hs ht'.2)) hs.size
    cases draw with
    | false => exact wp_region_list (evOps_sound hC ops _ R ht hx Q fun t' b' a' w' μ' hK hro hn ht' hs => fin t' b' a' w' μ' hK (hro rfl) hn ht' hs)
    | true =>
      obtain ⟨htp, hx⟩ := br_none hx
      exact evD_sound hm hC htp R ht hx Q fun t' b' a' w' μ' hK hro hn ht' hs => fin t' b' a' w' μ' hK (hro rfl) hn ht' hs

/-- A loop does what its abstract form says, in so many rounds. -/
def LoopOk (E : Env) (n : Nat) (f : FuncId) (c : Code) (np : List (Option Nat)) (ks : LK) (p : ks.T) (out : LO ks.T) : Prop :=
  ∀ (fn : Func), E.P.funcs[f]? = some fn → fn.results.size = fn.resultTypes.size → ∀ (F : Nat → Prop) (w : World) (μ : List Hd) (a : Act), a.tmps.size = fn.ntmps →
    Rel F w μ (unpack fn.ntmps ks p).b → TRel (Or F (Own μ (unpack fn.ntmps ks p).b)) w μ (unpack fn.ntmps ks p).b (unpack fn.ntmps ks p).t a → np.length ≤ (unpack fn.ntmps ks p).b.length → ∀ Q : Exit → Act → World → Prop,
    (∀ j p' a' w' μ', out = .out j p' → NowL np.length F w μ (unpack fn.ntmps ks p).b w' μ' (unpack fn.ntmps ks p').b → TRel (Or F (Own μ' (unpack fn.ntmps ks p').b)) w' μ' (unpack fn.ntmps ks p').b (unpack fn.ntmps ks p').t a' →
      a'.tmps.size = fn.ntmps → Q (.exit j) a' w') →
    (∀ ret a' w', out = .ret ret → RetP E.P fn (E.rm f) np F w μ (unpack fn.ntmps ks p).b ret a' w' → Q .ret a' w') → Code.rounds E.P c Q n a w

def LOk (E : Env) (n : Nat) (L : LoopT) : Prop := ∀ f bid c np ks p out, L f bid c np ks p = some out → LoopOk E n f c np ks p out

def xe : X → Exit
  | .N => .normal
  | .X j => .exit j

theorem ev_sound {E : Env} {N' : Ann} {C : CallT} {L : LoopT} {n : Nat} (hm : E.P.follows .mixedOrders = true) (hC : COk E C) (hL : LOk E n L) {f : FuncId} {fn : Func} (hf : E.P.funcs[f]? = some fn) (hres : fn.results.size = fn.resultTypes.size)
    {np : List (Option Nat)} {kr : Ret → Option R'} : ∀ (c : Code) {bid : Nat} {k : X → St → Option R'} {s : St} {a : Act} {w : World} {μ : List Hd}, Rel F w μ s.b → TRel (Or F (Own μ s.b)) w μ s.b s.t a → np.length ≤ s.b.length → a.tmps.size = fn.ntmps →
      ev E N' C L f fn.ntmps np (finK E f fn np) kr c bid k s = some r → ∀ Q : Exit → Act → World → Prop,
      (∀ e s' a' w' μ', k e s' = some r → NowL np.length F w μ s.b w' μ' s'.b → TRel (Or F (Own μ' s'.b)) w' μ' s'.b s'.t a' → a'.tmps.size = fn.ntmps → Q (xe e) a' w') →
      (∀ ret a' w', kr ret = some r → RetP E.P fn (E.rm f) np F w μ s.b ret a' w' → Q .ret a' w') → c.wp E.P Q a w
  | .skip, bid, k, s, a, w, μ, R, ht, hnp, hnt, h, Q, hk, hr => wp_skip (hk .N s a w μ h (.refl R hnp) ht hnt)
  | .region id ops draw, bid, k, s, a, w, μ, R, ht, hnp, hnt, h, Q, hk, hr =>
    evReg_sound hm hC R ht h Q fun s' a' w' μ' hK hn ht' hs => hk .N s' a' w' μ' hK (hn.toL hnp) ht' (hs.trans hnt)
  | .seq x y, bid, k, s, a, w, μ, R, ht, hnp, hnt, h, Q, hk, hr => by
    refine wp_seq (ev_sound hm hC hL hf hres x R ht hnp hnt h _ ?_ ?_)
    · intro e s' a' w' μ' hK hn ht' hs
      cases e with
      | N =>
        refine ev_sound hm hC hL hf hres y hn.rel ht' hn.len hs hK Q ?_ ?_
        · intro e s'' a'' w'' μ'' hK' hn' ht'' hs'
          exact hk e s'' a'' w'' μ'' hK' (hn.trans hn') ht'' hs'
        · intro ret a'' w'' hK' hp
          exact hr ret a'' w'' hK' (RetP.pre hn hp)
      | X j => exact hk (.X j) s' a' w' μ' hK hn ht' hs
    · intro ret a' w' hK hp
      exact hr ret a' w' hK hp
  | .cond c x y, bid, k, s, a, w, μ, R, ht, hnp, hnt, h, Q, hk, hr => by
    simp only [ev] at h
    obtain ⟨g, hg, h⟩ := wBool_sound (ht.eval c) h
    have hb : ∀ g, (condSet c g s).b = s.b := fun g => by cases c <;> rfl
    have hset : TRel (Or F (Own μ s.b)) w μ s.b (condSet c g s).t a := by
      cases c with
      | tmp i =>
        refine ht.set i fun v hv => ?_
        have e : a.eval (.tmp i) = .bool g := hg
        simp only [Act.eval, Array.getD_eq_getD_getElem?, hv, Option.getD_some] at e
        exact e
      | _ => exact ht
    refine wp_cond_split hg (fun e => ?_) (fun e => ?_)
    · subst e
      rcases br_some h with ⟨_, h⟩ | ⟨h0, _⟩
      · exact ev_sound hm hC hL hf hres x (s := condSet c true s) (by rw [hb]; exact R) (by rw [hb]; exact hset) (by rw [hb]; exact hnp) hnt h Q (by rw [hb]; exact hk) (by rw [hb]; exact hr)
      · cases h0
    · subst e
      rcases br_some h with ⟨h0, _⟩ | ⟨_, h⟩
      · cases h0
      · exact ev_sound hm hC hL hf hres y (s := condSet c false s) (by rw [hb]; exact R) (by rw [hb]; exact hset) (by rw [hb]; exact hnp) hnt h Q (by rw [hb]; exact hk) (by rw [hb]; exact hr)
  | .block id c, bid, k, s, a, w, μ, R, ht, hnp, hnt, h, Q, hk, hr => by
    refine wp_block (ev_sound hm hC hL hf hres c R ht hnp hnt h _ ?_ ?_)
    · intro e s' a' w' μ' hK hn ht' hs
      cases e with
      | N => exact hk .N s' a' w' μ' hK hn ht' hs
      | X j =>
        simp only [xe, Exit.inBlock]
        rcases br_some hK with ⟨hj, hK⟩ | ⟨hj, hK⟩
        · have : j = id := by simpa using hj
          rw [if_pos this]
          exact hk .N s' a' w' μ' hK hn ht' hs
        · have : ¬ j = id := by simpa using hj
          rw [if_neg this]
          exact hk (.X j) s' a' w' μ' hK hn ht' hs
    · intro ret a' w' hK hp
      exact hr ret a' w' hK hp
  | .loop c, bid, k, s, a, w, μ, R, ht, hnp, hnt, h, Q, hk, hr => by
    simp only [ev] at h
    split at h
    · cases h
    · rename_i ks hks
      obtain ⟨p, μ2, h, hn, ht2⟩ := packK_sound R ht hnp h
      obtain ⟨out, ho, h⟩ := bind_some' h
      rw [hnt] at hn ht2
      refine wp_loop_rounds n (hL f bid c np ks p out ho fn hf hres F w μ2 a hnt hn.rel ht2 hn.len Q ?_ ?_)
      · intro j p' a' w' μ' he hn' ht' hs
        subst he
        exact hk (.X j) _ a' w' μ' h (hn.trans hn') ht' hs
      · intro ret a' w' he hp
        subst he
        exact hr ret a' w' h (RetP.pre hn hp)
  | .exit id, bid, k, s, a, w, μ, R, ht, hnp, hnt, h, Q, hk, hr => wp_exit (hk (.X id) s a w μ h (.refl R hnp) ht hnt)
  | .ret, bid, k, s, a, w, μ, R, ht, hnp, hnt, h, Q, hk, hr => by
    obtain ⟨ret, hK, hp⟩ := finK_sound R ht hnp hres h
    exact wp_ret (hr ret a w hK hp)
  | .scope _, _, _, _, _, _, _, _, _, _, _, h, _, _, _ => by simp [ev] at h
  | .label _, _, _, _, _, _, _, _, _, _, _, h, _, _, _ => by simp [ev] at h
  | .goto _, _, _, _, _, _, _, _, _, _, _, h, _, _, _ => by simp [ev] at h
end
end Go.Proofs.Ytlgonbonnjkekaa.Abs

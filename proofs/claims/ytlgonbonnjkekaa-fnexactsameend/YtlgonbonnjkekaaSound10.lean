/- Operations. -/
import Derived.Test.YtlgonbonnjkekaaSound9
set_option linter.unusedVariables false
set_option linter.unusedSectionVars false
set_option linter.unusedSimpArgs false
namespace Go.Proofs.Ytlgonbonnjkekaa.Abs
open Go

section
variable {P : Program} {w : World} {F N : Nat → Prop} {μ : List Hd} {b : List Blk} {R' : Type} {r : R'}

/-! Slots. -/
theorem AsRel.set : ∀ {fl : Bool} {cs : List AVal} {vs : List Value} {i : Nat} {x : AVal} {v : Value}, AsRel N w μ b fl cs vs → ARel N w μ b x v → (fl = true → flat v = true) →
    AsRel N w μ b fl (cs.set i x) (vs.set i v)
  | _, [], _, i, x, v, h, _, _ => by rw [show _ = [] from h]; simp [AsRel]
  | _, c :: r, _, 0, x, v, h, hx, hf => by
    obtain ⟨u, us, rfl, _, _, h⟩ := h
    exact ⟨v, us, rfl, hx, hf, h⟩
  | _, c :: r, _, i + 1, x, v, h, hx, hf => by
    obtain ⟨u, us, rfl, h1, h2, h⟩ := h
    exact ⟨u, us.set i v, rfl, h1, h2, AsRel.set h hx hf⟩

/-- The slots of a frame. -/
def TRel (N : Nat → Prop) (w : World) (μ : List Hd) (b : List Blk) (t : List AVal) (a : Act) : Prop := AsRel N w μ b false t a.tmps.toList ∧ a.defers = []

theorem TRel.eval {t : List AVal} {a : Act} (h : TRel N w μ b t a) (x : Operand) : ARel N w μ b (evalA t x) (a.eval x) := by
  cases x with
  | tmp i =>
    simp only [evalA, Act.eval, List.getD_eq_getElem?_getD, Array.getD_eq_getD_getElem?]
    cases hi : t[i]? with
    | none => trivial
    | some c =>
      obtain ⟨v, hv, hr, _⟩ := AsRel.get h.1 hi
      have : a.tmps[i]? = some v := by simpa using hv
      rw [this]; exact hr
  | const c =>
    simp only [evalA, Act.eval]
    cases hc : ofVal c with
    | none => trivial
    | some x => exact ofVal_rel hc
  | func f => exact ⟨[], rfl, rfl⟩
  | global g => trivial

theorem TRel.put {t : List AVal} {a : Act} (h : TRel N w μ b t a) (d : Option Nat) {x : AVal} {v : Value} (hx : ARel N w μ b x v) : TRel N w μ b (putA t d x) (a.put d v) := by
  cases d with
  | none => exact h
  | some i =>
    unfold TRel putA Act.put
    simp only [Array.toList_setIfInBounds]
    exact ⟨AsRel.set h.1 hx (by simp), h.2⟩

theorem TRel.set {t : List AVal} {a : Act} (h : TRel N w μ b t a) (i : Nat) {x : AVal} (hx : ∀ v, a.tmps[i]? = some v → ARel N w μ b x v) : TRel N w μ b (t.set i x) a := by
  refine ⟨?_, h.2⟩
  replace h := h.1
  by_cases hi : i < a.tmps.size
  · have : a.tmps.toList = a.tmps.toList.set i a.tmps[i] := by
      rw [set_self]; simp [hi]
    rw [this]
    exact AsRel.set h (hx _ (Array.getElem?_eq_getElem hi)) (by simp)
  · rw [List.set_eq_of_length_le (by have := AsRel.len h; simp at this; omega)]
    exact h

theorem TRel.upd {w' : World} {μ' : List Hd} {b' : List Blk} {t : List AVal} {a : Act} (U : Upd F w μ b w' μ' b') (h : TRel (Or F (Own μ b)) w μ b t a) : TRel (Or F (Own μ' b')) w' μ' b' t a :=
  ⟨AsRel.upd U h.1, h.2⟩

theorem mapParts_rel {t : List AVal} {a : Act} (h : TRel N w μ b t a) (ps : Array (Nat × Operand)) :
    ∃ pv : List (Nat × Value), (ps.map fun (i, x) => (i, a.eval x)) = pv.toArray ∧ Parts N w μ b (mapParts t ps) pv := by
  refine ⟨ps.toList.map fun p => (p.1, a.eval p.2), by apply Array.ext'; simp, ?_⟩
  unfold mapParts
  generalize ps.toList = l
  induction l with
  | nil => rfl
  | cons p l ih => exact ⟨_, _, rfl, h.eval p.2, ih⟩

theorem args_rel {t : List AVal} {a : Act} (h : TRel N w μ b t a) : ∀ l : List Operand, AsRel N w μ b false (l.map (evalA t)) (l.map a.eval)
  | [] => rfl
  | x :: r => ⟨_, _, rfl, h.eval x, (by simp), args_rel h r⟩

/-- An operation's meaning. -/
def Goes (P : Program) (F : Nat → Prop) (w : World) (μ : List Hd) (b : List Blk) (K : AVal → List Blk → Option R') (r : R') (o : Oper) (a : Act) (ro : Bool) : Prop :=
  ∃ y b', K y b' = some r ∧ (ro = true → b' = b) ∧ ∀ (next : Act → World → Prop) (Q : Exit → Act → World → Prop), (∀ v w' μ', Post F w μ b w' μ' b' y v → next (a.put o.dst v) w') → o.wp P a w next Q

theorem Goes.ofActs {K : AVal → List Blk → Option R'} {o : Oper} {a : Act} {S : Sem Value} {ro ro' : Bool} (h : Acts P F w μ b K r S ro) (ho : execOp a.eval o = (do pure (.value (← S)))) (hro : ro' = true → ro = true) : Goes P F w μ b K r o a ro' := by
  obtain ⟨y, b', hK, hb, u, w', μ', hr, hp⟩ := h
  refine ⟨y, b', hK, fun h => hb (hro h), fun next Q hn => ?_⟩
  unfold Oper.wp
  rw [ho]
  simp only [Sem.run_bind, hr, Result.andThen_ok, Sem.run_pure, Oper.upon_value]
  exact hn _ _ _ hp

theorem Goes.ofYld {K : AVal → List Blk → Option R'} {o : Oper} {a : Act} {S : Sem Value} (R : Rel F w μ b) {ro : Bool} (h : Yld P (Or F (Own μ b)) w μ b (fun y => K y b) r S)
    (ho : execOp a.eval o = (do pure (.value (← S)))) : Goes P F w μ b K r o a ro := by
  obtain ⟨y, hK, u, hr, hp⟩ := h
  refine ⟨y, b, hK, fun _ => rfl, fun next Q hn => ?_⟩
  unfold Oper.wp
  rw [ho]
  simp only [Sem.run_bind, hr, Result.andThen_ok, Sem.run_pure, Oper.upon_value]
  exact hn _ _ _ (.same R hp)

theorem Goes.ofVal {K : AVal → List Blk → Option R'} {o : Oper} {a : Act} {y : AVal} {v : Value} (R : Rel F w μ b) (h : K y b = some r) (hv : ARel (Or F (Own μ b)) w μ b y v)
    {ro : Bool} (ho : (execOp a.eval o).run P w = .ok (.value v) w) : Goes P F w μ b K r o a ro := by
  refine ⟨y, b, h, fun _ => rfl, fun next Q hn => ?_⟩
  unfold Oper.wp
  rw [ho]
  exact hn _ _ _ (.same R hv)


theorem run_value {S : Sem Value} {v : Value} {w' : World} (h : S.run P w = .ok v w') : (do pure (Next.value (← S)) : Sem Next).run P w = .ok (.value v) w' := by
  simp [h]

/-- A call's meaning. -/
def CallGoes (P : Program) (F : Nat → Prop) (w : World) (μ : List Hd) (b : List Blk) (K : AVal → List Blk → Option R') (r : R') (g : FuncId) (vs : List Value) (ro : Bool) : Prop :=
  ∃ y b', K y b' = some r ∧ (ro = true → b' = b) ∧ ∀ (o : Oper) (a : Act) (next : Act → World → Prop) (Q : Exit → Act → World → Prop), (execOp a.eval o).run P w = (callFunc g vs.toArray).run P w →
    (∀ v w' μ', Post F w μ b w' μ' b' y v → next (a.put o.dst v) w') → o.wp P a w next Q

theorem allV_rel {cs : List AVal} {xs : List CVal} {fl : Bool} {vs : List Value} (h : allV cs = some xs) (hr : AsRel N w μ b fl cs vs) : CsRel N w fl xs vs := by
  rw [allV_eq h] at hr
  exact hr.toC

theorem flats {t : List AVal} {a : Act} : ∀ {l : List Operand}, AsRel N w μ b false (l.map (evalA t)) (l.map a.eval) → (∀ x ∈ l, flatX (evalA t x) ) → AsRel N w μ b true (l.map (evalA t)) (l.map a.eval)
  | [], h, _ => h
  | x :: r, h, hf => by
    obtain ⟨u, us, he, h1, _, h2⟩ := h
    simp at he
    obtain ⟨rfl, rfl⟩ := he
    exact ⟨_, _, rfl, h1, fun _ => h1.flatOf (hf x (by simp)), flats h2 fun y hy => hf y (by simp [hy])⟩

theorem equalIn_nil (d : Nat) {xt : TypeId} {ms : Array (String × TypeId)} (hk : P.underlying xt = some (.interface ms)) : (Op.equalIn (d + 1) xt .nilIface .nilIface).run P w = .ok true w := by simp [Op.equalIn, run_und hk]
theorem equalIn_iface (d : Nat) {xt : TypeId} {ms : Array (String × TypeId)} {t : TypeId} {z : Value} (hk : P.underlying xt = some (.interface ms)) : (Op.equalIn (d + 1) xt (.iface t z) .nilIface).run P w = .ok false w := by simp [Op.equalIn, run_und hk]
theorem equal_nil {xt : TypeId} {ms : Array (String × TypeId)} (hk : P.underlying xt = some (.interface ms)) : (Op.equal xt .nilIface .nilIface).run P w = .ok true w := equalIn_nil 9999 hk
theorem equal_iface {xt : TypeId} {ms : Array (String × TypeId)} {t : TypeId} {z : Value} (hk : P.underlying xt = some (.interface ms)) : (Op.equal xt (.iface t z) .nilIface).run P w = .ok false w := equalIn_iface 9999 hk

theorem eqK_sound {op : BinOp} {xt : TypeId} {x y : AVal} {v u : Value} {ox oy : Operand} {K : AVal → Option R'} (hx : ARel N w μ b x v) (hy : ARel N w μ b y u)
    (hc : ∃ c, oy = .const c) (h : eqK P op xt x y K = some r) : Yld P N w μ b K r (do eqGuard op xt ox oy v u; Go.binOp op xt v u) := by
  obtain ⟨c, rfl⟩ := hc
  unfold eqK at h
  split at h
  · rename_i ms hms
    split at h
    · have hv : v = .nilIface := hx
      have hu : u = .nilIface := hy
      subst hv hu
      have hg : ∀ op, (eqGuard op xt ox (.const c) .nilIface .nilIface).run P w = .ok () w := by
        intro op; unfold eqGuard; cases op <;> simp
      split at h
      · exact ⟨_, h, .bool true, by simp only [Sem.run_bind, hg, Result.andThen_ok, Go.binOp, equal_nil hms, Sem.run_pure], rfl⟩
      · exact ⟨_, h, .bool false, by simp only [Sem.run_bind, hg, Result.andThen_ok, Go.binOp, equal_nil hms, Sem.run_pure]; rfl, rfl⟩
      · cases h
    · obtain ⟨z, hv, _⟩ := hx
      have hu : u = .nilIface := hy
      subst hv hu
      have hg : ∀ op t, (eqGuard op xt ox (.const c) (.iface t z) .nilIface).run P w = .ok () w := by
        intro op t; unfold eqGuard; cases op <;> simp
      split at h
      · exact ⟨_, h, .bool false, by simp only [Sem.run_bind, hg, Result.andThen_ok, Go.binOp, equal_iface hms, Sem.run_pure], rfl⟩
      · exact ⟨_, h, .bool true, by simp only [Sem.run_bind, hg, Result.andThen_ok, Go.binOp, equal_iface hms, Sem.run_pure]; rfl, rfl⟩
      · cases h
    · cases h
  · cases h

theorem AsRel.weak : ∀ {fl : Bool} {cs : List AVal} {vs : List Value}, AsRel N w μ b fl cs vs → AsRel N w μ b false cs vs
  | _, [], _, h => h
  | _, x :: r, _, h => by
    obtain ⟨u, us, rfl, h1, _, h2⟩ := h
    exact ⟨u, us, rfl, h1, by simp, AsRel.weak h2⟩
theorem CsRel.weak : ∀ {fl : Bool} {cs : List CVal} {vs : List Value}, CsRel N w fl cs vs → CsRel N w false cs vs
  | _, [], _, h => h
  | _, x :: r, _, h => by
    obtain ⟨u, us, rfl, h1, _, h2⟩ := h
    exact ⟨u, us, rfl, h1, by simp, CsRel.weak h2⟩

theorem appendK_sound {q : Nat} {ty ty2 out : TypeId} {x y : AVal} {v u : Value} {K : AVal → List Blk → Option R'} (R : Rel F w μ b) (hq : Free μ b q) (hx : ARel (Or F (Own μ b)) w μ b x v)
    (hy : ARel (Or F (Own μ b)) w μ b y u) (h : appendK P q b ty ty2 x y K = some r) : Acts P F w μ b K r (Builtin.append_ #[ty, ty2] out #[v, u]) false := by
  unfold appendK at h
  split at h
  · rename_i e he
    obtain ⟨h0, h⟩ := br_none h
    simp only [Bool.and_eq_true] at h0
    split at h
    · obtain ⟨base, rfl⟩ := hx
      obtain ⟨ys, base2, cap2, h, rfl, hl, hc⟩ := wSl_sound R hy h
      obtain ⟨h1, h⟩ := br_none h
      simp only [Bool.and_eq_true, decide_eq_true_eq] at h1
      obtain ⟨v, w', μ', hr, hp⟩ := append_new (out := out) (base := base) R hq he h0.2 h0.1 h1.1 hl h1.2 hc
      exact ⟨_, _, h, by simp, v, w', μ', hr, hp⟩
    · rename_i i ver
      obtain ⟨xs, hxs, h⟩ := bind_some' h
      obtain ⟨ys, base2, cap2, h, rfl, hl, hc⟩ := wSl_sound R hy h
      obtain ⟨h1, h⟩ := br_none h
      simp only [Bool.and_eq_true, decide_eq_true_eq, beq_iff_eq] at h1
      obtain ⟨v', w', μ', hr, hp⟩ := append_own (out := out) R hx hxs h1.1.2 he h0.2 h0.1 h1.1.1 hl h1.2 hc
      exact ⟨_, _, h, by simp, v', w', μ', hr, hp⟩
    · cases h
  · cases h

theorem Keep.sub {N M : Nat → Prop} (h : ∀ x, M x → N x) : Keep N M w w := ⟨Nat.le_refl _, fun x _ hn => ⟨rfl, fun k => hn (h x k)⟩⟩

theorem not_own_dead {b' : List Blk} {i x : Nat} (R : Rel F w μ b) (s : Sub b' b) {blk : Blk} {h : Hd} (hb : b[i]? = some blk) (ha : alive blk.body = true) (hm : μ[i]? = some h) (ho : h.own = some x)
    (hd : ∀ blk, b'[i]? = some blk → alive blk.body = false) : ¬ Or F (Own μ b') x := by
  have hown : Own μ b x := ⟨i, blk, h, hb, ha, hm, ho⟩
  rintro (hf | ⟨j, blk', h', hb', ha', hm', ho'⟩)
  · exact (R.fres x hown).1 hf
  · have := R.inj i j blk blk' h h' x hb (s.at_ j blk' hb' ha') ha ha' hm hm' ho ho'
    subst this
    have := hd blk' hb'
    rw [ha'] at this; cases this

theorem closeRK_sound {agg : Bool} {x : AVal} {v : Value} {K : CVal → List Blk → Option R'} (R : Rel F w μ b) (hx : ARel (Or F (Own μ b)) w μ b x v) (h : closeRK b agg x K = some r) :
    ∃ c b', K c b' = some r ∧ Sub b' b ∧ Upd F w μ b w μ b' ∧ Rel F w μ b' ∧ CRel (Or F (Own μ b')) w c v := by
  have other : ∀ {x : AVal}, ARel (Or F (Own μ b)) w μ b x v → ((closeA b x).bind fun c => K c (killA x b)) = some r → ∃ c b', K c b' = some r ∧ Sub b' b ∧ Upd F w μ b w μ b' ∧ Rel F w μ b' ∧ CRel (Or F (Own μ b')) w c v := by
    intro x hx h
    obtain ⟨c, hc, h⟩ := bind_some' h
    obtain ⟨U, R1⟩ := killA_upd x R
    exact ⟨c, _, h, killA_sub x b, U, R1, closeA_sound R (killA_sub x b) hc hx (killA_dead x b)⟩
  unfold closeRK at h
  split at h
  · rename_i i
    obtain ⟨cs, hcs, h⟩ := bind_some' h
    obtain ⟨xs, hxs, h⟩ := bind_some' h
    obtain ⟨h0, h⟩ := br_none h
    obtain ⟨ver, x, vs, e, hb, hm, hw, ha, _⟩ := R.box hcs
    obtain ⟨x', hm', rfl⟩ := hx
    rw [hm] at hm'; cases hm'
    obtain ⟨U0, R0⟩ := killL_upd cs R
    obtain ⟨U1, R1⟩ := kill_upd R0 i
    have hs1 := kill_sub (killL cs b) i
    have hcl0 := closeL_sound R (killL_sub cs b) hxs ha (killL_dead cs b)
    have hcl : CsRel (Or F (Own μ (kill (killL cs b) i))) w true xs vs := CsRel.keep (Keep.sub fun z hz => hz.imp id fun ho => hs1.own ho) hcl0
    have hno : ¬ Or F (Own μ (kill (killL cs b) i)) x := not_own_dead R (hs1.trans (killL_sub cs b)) hb rfl hm rfl fun blk hb => kill_dead hb
    have hlt : x < w.heap.size := (Array.getElem?_eq_some_iff.1 hw).1
    have hcell : ∀ j, w.cell? (pl x (0 + j)) = vs[j]? := fun j => by rw [Nat.zero_add]; exact cell_of_heap hw
    have hl1 := hcl.len
    have hl2 := ha.len
    refine ⟨_, _, h, hs1.trans (killL_sub cs b), U0.trans U1, R1, ?_⟩
    unfold packFp
    cases agg with
    | true =>
      refine ⟨x, 0, .agg vs.toArray, rfl, hno, hlt, rfl, ⟨vs, rfl, hcl⟩, fun j hj => ?_⟩
      rw [hcell j]; simp [Value.cells]
    | false =>
      simp at h0
      obtain ⟨c, rfl⟩ : ∃ c, xs = [c] := by
        match xs, hl1 with
        | [c], _ => exact ⟨c, rfl⟩
        | [], hl1 => simp only [List.length_nil] at hl1; omega
        | _ :: _ :: _, hl1 => simp only [List.length_cons] at hl1; omega
      obtain ⟨u, us, rfl, hu, hf, hus⟩ := hcl
      have hfl := hf rfl
      refine ⟨x, 0, u, rfl, hno, hlt, ?_, hu, fun j hj => ?_⟩
      · cases c with
        | tup l => obtain ⟨z, rfl, _⟩ := hu; simp [flat] at hfl
        | _ => rfl
      · rw [hcell j, cells_flat hfl]
        rw [cells_flat hfl] at hj
        simp at hj; subst hj; rfl
  · exact other hx h

theorem closeCapsK_sound : ∀ {caps : List AVal} {ags : List Bool} {b : List Blk} {vs : List Value} {K : List CVal → List Blk → Option R'}, Rel F w μ b → AsRel (Or F (Own μ b)) w μ b false caps vs → closeCapsK b ags caps K = some r →
    ∃ cs b', K cs b' = some r ∧ Sub b' b ∧ Upd F w μ b w μ b' ∧ Rel F w μ b' ∧ CsRel (Or F (Own μ b')) w false cs vs
  | [], ags, b, vs, K, R, ha, h => by
    have hv : vs = [] := ha
    subst hv
    have h' : K [] b = some r := by cases ags <;> exact h
    exact ⟨[], b, h', .refl _, .refl R, R, rfl⟩
  | x :: l, [], b, vs, K, R, ha, h => by cases h
  | x :: l, ag :: ags, b, vs, K, R, ha, h => by
    obtain ⟨u, us, rfl, hu, _, hus⟩ := ha
    obtain ⟨c, b1, h, s1, U1, R1, hc⟩ := closeRK_sound R hu h
    obtain ⟨cs, b2, h, s2, U2, R2, hcs⟩ := closeCapsK_sound R1 (AsRel.upd U1 hus) h
    exact ⟨c :: cs, b2, h, s2.trans s1, U1.trans U2, R2, u, us, rfl, CRel.keep U2.keep hc, by simp, hcs⟩

theorem roOp_val {E : Env} {o : Oper} {t : List AVal} {c : Call} {f : Operand} (ho : o.op = .call c) (hc : c.callee = .value f) (hne : ∀ g, f ≠ .func g) : roOp E o t = (match evalA t f with
      | .v d => pureV E d (c.args.toList.map (evalA t))
      | .func g caps => pureArgs E g 0 (c.args.toList.map (evalA t) ++ caps)
      | _ => false) := by
  unfold roOp
  cases f with
  | func g => exact absurd rfl (hne g)
  | _ => simp only [ho, hc]; rfl

theorem opK_sound {E : Env} {C : CallT} {q : Nat} {o : Oper} {t : List AVal} {a : Act} {K : AVal → List Blk → Option R'} (hP : E.P = P) (R : Rel F w μ b) (hq : Free μ b q)
    (ht : TRel (Or F (Own μ b)) w μ b t a)
    (hcall : ∀ g args vs, callK E C q g args b K = some r → AsRel (Or F (Own μ b)) w μ b false args vs → CallGoes P F w μ b K r g vs (pureArgs E g 0 args))
    (hap : ∀ c cs, apF C c cs (fun y => K (.v y) b) = some r → ∃ g caps, c = .func g caps ∧ ∀ vs, AsRel (Or F (Own μ b)) w μ b false ((cs ++ caps).map .v) vs → CallGoes P F w μ b K r g vs true)
    (h : opK E C q o t b K = some r) : Goes P F w μ b K r o a (roOp E o t) := by
  subst hP
  unfold opK at h
  split at h
  · -- move
    rename_i x ho
    exact .ofVal R h (ht.eval x) (by simp [execOp, ho])
  · rename_i x ho
    exact .ofVal R h (ht.eval x) (by simp [execOp, ho])
  · -- pick
    rename_i c x y ho
    obtain ⟨g, hg, h⟩ := wBool_sound (ht.eval c) h
    have hx := ht.eval x
    have hy := ht.eval y
    have hrun : (execOp a.eval o).run E.P w = .ok (.value (if g then a.eval x else a.eval y)) w := by simp [execOp, ho, hg, asBool]
    split at h
    · rename_i p s e1 e2
      rw [e1] at hx; rw [e2] at hy
      refine .ofVal R h ?_ hrun
      cases g
      · exact hy
      · exact hx
    · cases g
      · rcases br_some h with ⟨h, _⟩ | ⟨_, h⟩
        · cases h
        exact .ofVal R h hy hrun
      · rcases br_some h with ⟨_, h⟩ | ⟨h, _⟩
        · exact .ofVal R h hx hrun
        · cases h
  · -- alloc
    rename_i e ho
    obtain ⟨z, hz, h⟩ := bind_some' h
    obtain ⟨zv, hzr, hzrel⟩ := zeroT_spec (P := E.P) (N := Or F (Own μ b)) (w := w) (μ := μ) (b := b) hz
    obtain ⟨cs, vs, h, hcs, hvs, _, _, _⟩ := wCells_sound hzrel h
    obtain ⟨μ', hp⟩ := box_post (e := e) R hq hcs
    refine .ofActs (ro := false) ⟨_, _, h, by simp, _, _, μ', ?_, hp⟩ (S := Instr.alloc e true (.tuple #[])) (by simp [execOp, ho]) (by simp [roOp, ho])
    simp only [Instr.alloc, Sem.run_bind, hzr, Result.andThen_ok]
    simp [newVar, newRow, hvs]
    rfl
  · -- box
    rename_i e x ho
    obtain ⟨cs, vs, h, hcs, hvs, _, _, _⟩ := wCells_sound (ht.eval x) h
    obtain ⟨μ', hp⟩ := box_post (e := e) R hq hcs
    split at h
    · rename_i ag hfr
      obtain ⟨c, b', h, s1, U1, R1, hc⟩ := closeRK_sound hp.rel hp.val h
      refine .ofActs (ro := false) ⟨_, _, h, by simp, _, _, μ', ?_, ⟨hp.upd.trans U1, R1, hc, hp.fr⟩⟩ (S := Instr.box e (a.eval x)) (by simp [execOp, ho]) (by simp [roOp, ho])
      simp [Instr.box, newVar, newRow, hvs]
      rfl
    · refine .ofActs (ro := false) ⟨_, _, h, by simp, _, _, μ', ?_, hp⟩ (S := Instr.box e (a.eval x)) (by simp [execOp, ho]) (by simp [roOp, ho])
      simp [Instr.box, newVar, newRow, hvs]
      rfl
  · -- build
    rename_i ty ps ho
    obtain ⟨pv, hpv, hparts⟩ := mapParts_rel ht ps
    exact .ofYld R (buildK_sound hparts h) (by simp only [execOp, ho]; rw [hpv])
  · rename_i ty n ps ho
    obtain ⟨pv, hpv, hparts⟩ := mapParts_rel ht ps
    exact .ofActs (buildSliceK_sound R hq hparts h) (by simp only [execOp, ho]; rw [hpv]) (by simp [roOp, ho])
  · -- load
    rename_i ty x ho
    exact .ofYld R (loadK_sound R (ht.eval x) h) (by simp only [execOp, ho])
  · -- store
    rename_i ty x y ho
    obtain ⟨b', hK, w', μ', hr, hp⟩ := storeK_sound R (ht.eval x) (ht.eval y) h
    refine ⟨_, b', hK, by simp [roOp, ho], fun next Q hn => ?_⟩
    unfold Oper.wp
    simp only [execOp, ho, Sem.run_bind, hr, Result.andThen_ok, Sem.run_pure, Oper.upon_skip]
    exact hn _ _ _ (hp _)
  · -- nilCheck
    rename_i x ho
    have hx := ht.eval x
    split at h
    · rename_i i off e1
      rw [e1] at hx
      refine .ofVal R h hx ?_
      obtain ⟨z, _, hv⟩ := hx
      simp [execOp, ho, hv]
    · rename_i i ver idx off e1
      rw [e1] at hx
      refine .ofVal R h hx ?_
      obtain ⟨⟨z, hv⟩, _⟩ := hx
      simp [execOp, ho, hv]
    · rename_i c e1
      rw [e1] at hx
      obtain ⟨p, hp, h⟩ := bind_some' h
      have := asFp_sound hx hp
      subst this
      refine .ofVal R h hx ?_
      obtain ⟨z, o', u, hv, _⟩ := hx
      simp [execOp, ho, hv]
    · cases h
  · -- binOp
    rename_i op xt x y yt ho
    split at h
    · split at h
      · rename_i yo yc
        exact .ofYld R (eqK_sound (ox := x) (oy := .const yc) (ht.eval x) (ht.eval _) ⟨_, rfl⟩ h) (by simp only [execOp, ho])
      · cases h
    · exact .ofYld R (binK_sound (ox := x) (oy := y) (ht.eval x) (ht.eval y) h) (by simp only [execOp, ho])
  · rename_i op xt x ho
    exact .ofYld R (unK_sound (ht.eval x) h) (by simp only [execOp, ho])
  · rename_i s d x ho
    exact .ofActs (convertK_sound R (ht.eval x) h) (by simp only [execOp, ho]) (fun _ => rfl)
  · -- makeFunc
    rename_i g first caps ho
    obtain ⟨h0, h⟩ := br_none h
    have hfirst : first = #[] := by simpa using h0
    subst hfirst
    have hargs := args_rel ht caps.toList
    have hrun : (execOp a.eval o).run E.P w = .ok (.value (.func (.func g) #[] (List.toArray (caps.toList.map a.eval)))) w := by
      simp [execOp, ho, Instr.makeFunc]
      apply Array.ext'; simp
    split at h
    · rename_i ags hfr
      obtain ⟨cs, b', h, s1, U1, R1, hcs⟩ := closeCapsK_sound R hargs h
      refine ⟨_, b', h, fun hro => ?_, fun next Q hn => ?_⟩
      · simp [roOp, ho, keepsF, hfr] at hro
      · unfold Oper.wp
        rw [hrun]
        simp only [Oper.upon_value]
        exact hn _ _ μ ⟨U1, R1, ⟨_, rfl, hcs⟩, .refl _ _⟩
    · split at h
      · rename_i cs hcs
        exact .ofVal R h ⟨_, rfl, allV_rel hcs hargs⟩ hrun
      · exact .ofVal R h ⟨_, rfl, hargs⟩ hrun
  · rename_i ty n m ho
    exact .ofActs (makeSliceK_sound R hq (ht.eval n) (ht.eval m) h) (by simp only [execOp, ho]) (by simp [roOp, ho])
  · -- slice
    rename_i ty x lo hi mx ho
    refine .ofActs (sliceK_sound (vlo := lo.map a.eval) (vhi := hi.map a.eval) (vmx := mx.map a.eval) R (ht.eval x) ?_ ?_ ?_ ?_ ?_ h) (by simp only [execOp, ho]) (by simp [roOp, ho])
    · intro z hz
      cases lo <;> simp at hz
      subst hz
      exact ⟨_, rfl, ht.eval _⟩
    · cases lo <;> simp
    · intro z hz
      cases hi <;> simp at hz
      subst hz
      exact ⟨_, rfl, ht.eval _⟩
    · cases hi <;> simp
    · cases mx <;> simp
  · rename_i ty x f ho
    exact .ofYld R (fieldK_sound (ht.eval x) h) (by simp only [execOp, ho])
  · rename_i ty x ix ho
    exact .ofYld R (indexAddrK_sound R (ht.eval x) (ht.eval ix) h) (by simp only [execOp, ho])
  · rename_i ty x ix ho
    exact .ofYld R (indexK_sound (ht.eval x) (ht.eval ix) h) (by simp only [execOp, ho])
  · -- extract
    rename_i x i ho
    have hx := ht.eval x
    split at h
    · rename_i c e1
      rw [e1] at hx
      obtain ⟨cs, hcs, g⟩ := bind_some' h
      clear h
      cases c <;> simp [CVal.asTup] at hcs
      subst hcs
      obtain ⟨d, hd, h⟩ := bind_some' g
      obtain ⟨vs, hv, hr⟩ := hx
      obtain ⟨u, hu, hr, _⟩ := hr.get hd
      refine .ofVal R h hr ?_
      simp [execOp, ho, hv, Instr.extract, hu]
    · rename_i cs e1
      rw [e1] at hx
      obtain ⟨d, hd, h⟩ := bind_some' h
      obtain ⟨vs, hv, hr⟩ := hx
      obtain ⟨u, hu, hr, _⟩ := hr.get hd
      refine .ofVal R h hr ?_
      simp [execOp, ho, hv, Instr.extract, hu]
    · cases h
  · -- call
    rename_i c ho
    split at h
    · rename_i g hc
      have hargs := args_rel ht c.args.toList
      obtain ⟨y, b', hK, hro, hgo⟩ := hcall g _ _ h hargs
      refine ⟨y, b', hK, fun h => hro (by simpa [roOp, ho, hc] using h), fun next Q hn => hgo o a next Q ?_ hn⟩
      simp [execOp, ho, resolve, hc, Act.eval, Deferred.ofValue, invoke]
      congr 2
      apply Array.ext'; simp
    · rename_i f hne hc
      have hne : ∀ g, f ≠ .func g := by assumption
      have hf := ht.eval f
      have hargs := args_rel ht c.args.toList
      split at h
      · rename_i d e1
        rw [e1] at hf
        rcases callV_some h with ⟨cs, hcs, h2⟩ | ⟨hno, g, caps, rfl, h2⟩
        · obtain ⟨g, caps, rfl, h3⟩ := hap d cs h2
          obtain ⟨vs, hv, hcr⟩ := hf
          have hall := hargs.append (AsRel.ofC (μ := μ) (b := b) (hcr.weak))
          rw [hcs, ← List.map_append] at hall
          obtain ⟨y, b', hK, hro, hgo⟩ := h3 _ hall
          refine ⟨y, b', hK, fun h => hro rfl, fun next Q hn => hgo o a next Q ?_ hn⟩
          simp [execOp, ho, resolve, hc, hv, Deferred.ofValue, invoke]
          congr 2
          apply Array.ext'; simp
        · obtain ⟨vs, hv, hcs⟩ := hf
          have hall := hargs.append (AsRel.ofC (μ := μ) (b := b) (hcs.weak))
          obtain ⟨y, b', hK, hro, hgo⟩ := hcall g _ _ h2 hall
          refine ⟨y, b', hK, fun h => hro (by simpa [roOp_val ho hc hne, e1, pureV, hno] using h), fun next Q hn => hgo o a next Q ?_ hn⟩
          simp [execOp, ho, resolve, hc, hv, Deferred.ofValue, invoke]
          congr 2
          apply Array.ext'; simp
      · rename_i g caps e1
        rw [e1] at hf
        obtain ⟨vs, hv, hcs⟩ := hf
        have hall := hargs.append hcs.weak
        obtain ⟨y, b', hK, hro, hgo⟩ := hcall g _ _ h hall
        refine ⟨y, b', hK, fun h => hro (by simpa [roOp_val ho hc hne, e1] using h), fun next Q hn => hgo o a next Q ?_ hn⟩
        simp [execOp, ho, resolve, hc, hv, Deferred.ofValue, invoke]
        congr 2
        apply Array.ext'; simp
      · cases h
    · -- len
      rename_i hc
      split at h
      · rename_i x ty rest hx hty
        have hargs : c.args.map a.eval = #[a.eval x] := by apply Array.ext'; simp [hx]
        refine .ofYld R (lenK_sound (ts := c.argTypes) (out := o.type) R (ht.eval x) (by rw [← Array.getElem?_toList, hty]; rfl) h) ?_
        simp [execOp, ho, resolve, hc, invoke, hargs, builtin]
      · cases h
    · -- append
      rename_i hc
      split at h
      · rename_i x y ty ty2 hx hty
        have hargs : c.args.map a.eval = #[a.eval x, a.eval y] := by apply Array.ext'; simp [hx]
        have hts : c.argTypes = #[ty, ty2] := by apply Array.ext'; simp [hty]
        refine .ofActs (appendK_sound (out := o.type) R hq (ht.eval x) (ht.eval y) h) ?_ (by simp [roOp, ho, hc])
        simp [execOp, ho, resolve, hc, invoke, hargs, builtin, hts]
      · cases h
    · rename_i hc
      split at h
      · rename_i x y hx
        have hargs : c.args.map a.eval = #[a.eval x, a.eval y] := by apply Array.ext'; simp [hx]
        obtain ⟨k, _, h⟩ := bind_some' h
        obtain ⟨m, hm, h⟩ := wInt_sound (ht.eval x) h
        obtain ⟨n, hn, h⟩ := wInt_sound (ht.eval y) h
        refine .ofVal R h (v := .int k (if n > m then n else m)) ?_ ?_
        · by_cases hlt : m < n <;> simp [ARel, CRel, hlt]
        · simp [execOp, ho, resolve, hc, invoke, hargs, builtin, Builtin.max_, hm, hn, Builtin.max2]
      · cases h
    · rename_i hc
      split at h
      · rename_i x y hx
        have hargs : c.args.map a.eval = #[a.eval x, a.eval y] := by apply Array.ext'; simp [hx]
        obtain ⟨k, _, h⟩ := bind_some' h
        obtain ⟨m, hm, h⟩ := wInt_sound (ht.eval x) h
        obtain ⟨n, hn, h⟩ := wInt_sound (ht.eval y) h
        refine .ofVal R h (v := .int k (if n < m then n else m)) ?_ ?_
        · by_cases hlt : n < m <;> simp [ARel, CRel, hlt]
        · simp [execOp, ho, resolve, hc, invoke, hargs, builtin, Builtin.min_, hm, hn, Builtin.min2]
      · cases h
    · cases h
  · cases h
end
end Go.Proofs.Ytlgonbonnjkekaa.Abs

/- Operations that leave memory as it is. -/
import Derived.Test.YtlgonbonnjkekaaSound4
import GoSem.Dispatch
import Derived.Lib.Strings
import Derived.Laws.StructEq
set_option linter.unusedVariables false
set_option linter.unusedSectionVars false
set_option linter.unusedSimpArgs false
namespace Go.Proofs.Ytlgonbonnjkekaa.Abs
open Go

section
variable {P : Program} {w : World} {F N : Nat → Prop} {μ : List Hd} {b : List Blk} {R' : Type} {r : R'}

theorem ofCell_rel {v : Value} {x : AVal} (h : ofCell v = some x) : ARel N w μ b x v ∧ flat v = true := by
  unfold ofCell at h
  split at h
  · simp at h; subst h; exact ⟨rfl, rfl⟩
  · simp at h; subst h; exact ⟨rfl, rfl⟩
  · rename_i s
    simp at h; subst h
    exact ⟨by simp [ARel, CRel], rfl⟩
  · simp at h; subst h; exact ⟨rfl, rfl⟩
  · simp at h; subst h; exact ⟨⟨none, rfl⟩, rfl⟩
  · simp at h; subst h; exact ⟨rfl, rfl⟩
  · simp at h; subst h; exact ⟨rfl, rfl⟩
  · cases h

theorem ofCells_rel : ∀ {vs : List Value} {xs : List AVal}, ofCells vs = some xs → AsRel N w μ b true xs vs
  | [], xs, h => by simp [ofCells] at h; subst h; rfl
  | v :: r, xs, h => by
    simp only [ofCells] at h
    obtain ⟨a, ha, h⟩ := bind_some' h
    obtain ⟨l, hl, h⟩ := bind_some' h
    simp at h; subst h
    obtain ⟨h1, h2⟩ := ofCell_rel (N := N) (w := w) (μ := μ) (b := b) ha
    exact ⟨v, r, rfl, h1, fun _ => h2, ofCells_rel hl⟩

theorem ofVal_rel {v : Value} {x : AVal} (h : ofVal v = some x) : ARel N w μ b x v := by
  unfold ofVal at h
  split at h
  · rename_i cs
    obtain ⟨l, hl, h⟩ := bind_some' h
    simp at h; subst h
    have := mkAgg_rel (ofCells_rel (N := N) (w := w) (μ := μ) (b := b) hl)
    simpa using this
  · exact (ofCell_rel h).1

theorem zeroT_spec {t : TypeId} {x : AVal} (h : zeroT P t = some x) : ∃ z, (∀ w1 : World, (zeroValue t).run P w1 = .ok z w1) ∧ ARel N w μ b x z := by
  unfold zeroT at h
  obtain ⟨z, hz, h⟩ := bind_some' h
  obtain ⟨i, hi, hz⟩ := bind_some' hz
  exact ⟨z, fun w1 => run_zero hi hz, ofVal_rel h⟩

/-! Projections. -/
theorem wInt_sound {k : IntKind} {x : AVal} {v : Value} {K : Int → Option R'} (hx : ARel N w μ b x v) (h : wInt k x K = some r) : ∃ n, v = .int k n ∧ K n = some r := by
  unfold wInt at h
  cases x with
  | v c =>
    obtain ⟨n, hn, h⟩ := bind_some' (x := c.asInt k) h
    cases c <;> simp [CVal.asInt] at hn
    obtain ⟨rfl, rfl⟩ := hn
    exact ⟨_, hx, h⟩
  | _ => cases h
theorem wIdx_sound {x : AVal} {v : Value} {K : Int → Option R'} (hx : ARel N w μ b x v) (h : wIdx x K = some r) : ∃ k n, v = .int k n ∧ K n = some r := by
  unfold wIdx at h
  cases x with
  | v c =>
    obtain ⟨n, hn, h⟩ := bind_some' (x := c.asIdx) h
    cases c <;> simp [CVal.asIdx] at hn
    subst hn
    exact ⟨_, _, hx, h⟩
  | _ => cases h
theorem wBool_sound {x : AVal} {v : Value} {K : Bool → Option R'} (hx : ARel N w μ b x v) (h : wBool x K = some r) : ∃ p, v = .bool p ∧ K p = some r := by
  unfold wBool at h
  cases x with
  | v c =>
    obtain ⟨n, hn, h⟩ := bind_some' (x := c.asBool) h
    cases c <;> simp [CVal.asBool] at hn
    subst hn
    exact ⟨_, hx, h⟩
  | _ => cases h
theorem wStr_sound {x : AVal} {v : Value} {K : List UInt8 → Option R'} (hx : ARel N w μ b x v) (h : wStr x K = some r) : ∃ s, v = .string ⟨s.toArray⟩ ∧ K s = some r := by
  unfold wStr at h
  cases x with
  | v c =>
    obtain ⟨n, hn, h⟩ := bind_some' (x := c.asStr) h
    cases c <;> simp [CVal.asStr] at hn
    subst hn
    exact ⟨_, hx, h⟩
  | _ => cases h
theorem asFp_sound {p : CVal} {q : CVal × Nat} {v : Value} (hx : CRel N w p v) (h : p.asFp = some q) : p = .fp q.1 q.2 := by
  cases p <;> simp [CVal.asFp] at h
  subst h; rfl

/-- What an operation comes to that leaves memory alone. -/
def Yld (P : Program) (N : Nat → Prop) (w : World) (μ : List Hd) (b : List Blk) (K : AVal → Option R') (r : R') (S : Sem Value) : Prop :=
  ∃ y, K y = some r ∧ ∃ u, S.run P w = .ok u w ∧ ARel N w μ b y u

theorem fieldK_sound {t : TypeId} {x : AVal} {f : Nat} {v : Value} {K : AVal → Option R'} (hx : ARel N w μ b x v) (h : fieldK P t x f K = some r) :
    Yld P N w μ b K r (Instr.fieldAt t v f) := by
  unfold fieldK at h
  split at h
  · rename_i fs hfs
    split at h
    · rename_i fd hfd
      rcases br_some h with ⟨_, h⟩ | ⟨hz, h⟩
      · cases h
      simp only [decide_eq_false_iff_not] at hz
      have hsize : ∀ w1 : World, (sizeOf fd.type).run P w1 = .ok (P.cellsOf fd.type) w1 := by
        intro w1
        unfold Program.cellsOf at hz
        cases hi : P.info? fd.type with
        | none => simp [hi] at hz
        | some i => simp [sizeOf, typeInfo, hi, Program.cellsOf]
      have run : ∀ a : Addr, v = .pointer (some a) → (Instr.fieldAt t v f).run P w = .ok (.pointer (some (a.add fd.offset))) w := by
        intro a ha
        subst ha
        simp [Instr.fieldAt, run_und hfs, hfd, Instr.sureAddr, fieldPlace, hsize, hz]
      cases x with
      | lptr i off =>
        obtain ⟨y, hm, rfl⟩ := hx
        exact ⟨_, h, _, run _ rfl, y, hm, by rw [pl_add]⟩
      | lel i ver idx off =>
        obtain ⟨⟨a, rfl⟩, blk, hd, hb, hm, hn, hle, hcur⟩ := hx
        refine ⟨_, h, _, run _ rfl, ⟨_, rfl⟩, blk, hd, hb, hm, hn, hle, fun h1 h2 => ?_⟩
        obtain ⟨x', len, cap, sz, rfl, hi, hv⟩ := hcur h1 h2
        refine ⟨x', len, cap, sz, rfl, hi, ?_⟩
        cases hv
        rw [pl_add, Nat.add_assoc]
      | v p =>
        obtain ⟨q, hq, h⟩ := bind_some' (x := p.asFp) h
        have := asFp_sound hx hq
        subst this
        obtain ⟨y, o, u, rfl, h1, h2, h3, h4, h5⟩ := hx
        refine ⟨_, h, _, run _ rfl, y, o, u, ?_, h1, h2, h3, h4, h5⟩
        rw [pl_add, Nat.add_assoc]
      | _ => cases h
    · cases h
  · cases h

theorem sl_index {xs : List CVal} {v : Value} (hx : CRel N w (.sl xs) v) {i : Nat} {c : CVal} (hc : xs[i]? = some c) {agg : Bool} {n : Nat} (hf : c.fits agg n = true) :
    ∃ x o cap, v = .slice (some (pl x o)) xs.length cap ∧ CRel N w (.fp c 0) (.pointer (some (pl x (o + i * n)))) := by
  obtain ⟨base, cap, rfl, hl, h⟩ := hx
  rcases h with h | ⟨x, o, sz, rfl, h1, h2, h3⟩
  · subst h; simp at hc
  · obtain ⟨u, ht, hu, hz, hj⟩ := h3.get hc
    have : sz = n := by
      obtain ⟨vs, hvs, _, hn, _⟩ := CRel.fits hu hf
      rw [hvs] at hz; simp at hz; omega
    subst this
    exact ⟨x, o, cap, rfl, x, o + i * sz, u, by simp, h1, h2, ht, hu, fun j hjj => hj j (by omega)⟩

theorem fits_ne {agg : Bool} {n : Nat} {c : CVal} (h : c.fits agg n = true) : agg = false → n = 1 := by
  intro ha; subst ha
  simp [CVal.fits] at h
  exact h.2

theorem indexAddrK_sound {t : TypeId} {x ix : AVal} {v vi : Value} {K : AVal → Option R'} (R : Rel F w μ b) (hx : ARel (Or F (Own μ b)) w μ b x v) (hi : ARel (Or F (Own μ b)) w μ b ix vi)
    (h : indexAddrK P t b x ix K = some r) : Yld P (Or F (Own μ b)) w μ b K r (Instr.indexAt t v vi) := by
  unfold indexAddrK at h
  split at h
  · rename_i e he
    obtain ⟨k, n, rfl, h⟩ := wIdx_sound hi h
    obtain ⟨h0, h⟩ := br_none h
    simp only [decide_eq_true_eq, Bool.and_eq_true] at h0
    obtain ⟨h0, hs⟩ := h0
    obtain ⟨d, hd⟩ := Option.isSome_iff_exists.1 hs
    have run : ∀ (a : Addr) (len cap : Nat), n < len → (Instr.indexAt t (.slice (some a) len cap) (.int k n)).run P w = .ok (.pointer (some (a.add (n.toNat * P.cellsOf e)))) w := by
      intro a len cap hlt
      have : 0 ≤ n ∧ n < len := ⟨h0, hlt⟩
      simp [Instr.indexAt, asIntOf, run_und he, run_size hd, this]
    cases x with
    | lref i ver =>
      obtain ⟨xs, hxs, h⟩ := bind_some' (x := arrOf b i ver) h
      obtain ⟨h1, h⟩ := br_none h
      simp only [decide_eq_true_eq, Bool.and_eq_true, beq_iff_eq] at h1
      obtain ⟨h1, h2⟩ := h1
      obtain ⟨sz, base, cap, hb, hm, hl, hc⟩ := R.arr hxs
      obtain ⟨_, blk, hh, hb', hm', _, _, hcur⟩ := hx
      rw [hb] at hb'; cases hb'
      rw [hm] at hm'; cases hm'
      have hv := hcur rfl rfl
      subst hv
      have hsz : sz = P.cellsOf e := by simpa [szOf, hb] using h2
      subst hsz
      rcases hc with hc | ⟨y, cells, tt, rfl, hw, hz, hel⟩
      · omega
      · refine ⟨_, h, _, run (pl y 0) xs.length cap (by omega), ⟨_, rfl⟩, _, _, hb, hm, by simp, Nat.le_refl _, fun _ _ => ⟨y, _, _, _, rfl, h1, ?_⟩⟩
        rw [pl_add]; simp
    | v c =>
      obtain ⟨xs, hxs, h⟩ := bind_some' (x := c.asSl) h
      cases c <;> simp [CVal.asSl] at hxs
      subst hxs
      obtain ⟨c, hc, h⟩ := bind_some' h
      obtain ⟨hf, h⟩ := br_none h
      obtain ⟨y, o, cap, rfl, hp⟩ := sl_index hx hc hf
      have hlt := (List.getElem?_eq_some_iff.1 hc).1
      refine ⟨_, h, _, run (pl y o) _ cap (by omega), ?_⟩
      rw [pl_add]; exact hp
    | _ => cases h
  · rename_i len e he
    obtain ⟨k, n, rfl, h⟩ := wIdx_sound hi h
    obtain ⟨h0, h⟩ := br_none h
    simp only [decide_eq_true_eq, Bool.and_eq_true] at h0
    obtain ⟨⟨h0, h1⟩, hs⟩ := h0
    obtain ⟨d, hd⟩ := Option.isSome_iff_exists.1 hs
    have run : ∀ a : Addr, v = .pointer (some a) → (Instr.indexAt t v (.int k n)).run P w = .ok (.pointer (some (a.add (n.toNat * P.cellsOf e)))) w := by
      intro a ha
      subst ha
      have : 0 ≤ n ∧ n < len := ⟨h0, h1⟩
      simp [Instr.indexAt, asIntOf, run_und he, run_size hd, this, Instr.sureAddr]
    cases x with
    | lptr i off =>
      obtain ⟨y, hm, rfl⟩ := hx
      exact ⟨_, h, _, run _ rfl, y, hm, by rw [pl_add]⟩
    | lel i ver idx off =>
      obtain ⟨⟨a, rfl⟩, blk, hd', hb, hm, hn, hle, hcur⟩ := hx
      refine ⟨_, h, _, run _ rfl, ⟨_, rfl⟩, blk, hd', hb, hm, hn, hle, fun h1 h2 => ?_⟩
      obtain ⟨x', len, cap, sz, rfl, hi, hv⟩ := hcur h1 h2
      refine ⟨x', len, cap, sz, rfl, hi, ?_⟩
      cases hv
      rw [pl_add, Nat.add_assoc]
    | v p =>
      obtain ⟨q, hq, h⟩ := bind_some' (x := p.asFp) h
      have := asFp_sound hx hq
      subst this
      obtain ⟨y, o, u, rfl, h1, h2, h3, h4, h5⟩ := hx
      refine ⟨_, h, _, run _ rfl, y, o, u, ?_, h1, h2, h3, h4, h5⟩
      rw [pl_add, Nat.add_assoc]
    | _ => cases h
  · cases h

theorem indexK_sound {t : TypeId} {x ix : AVal} {v vi : Value} {K : AVal → Option R'} (hx : ARel N w μ b x v) (hi : ARel N w μ b ix vi)
    (h : indexK P t x ix K = some r) : Yld P N w μ b K r (Instr.index t v vi) := by
  unfold indexK at h
  split at h
  · rename_i he
    obtain ⟨k, n, rfl, h⟩ := wIdx_sound hi h
    obtain ⟨s, rfl, h⟩ := wStr_sound hx h
    obtain ⟨h0, h⟩ := br_none h
    simp only [decide_eq_true_eq] at h0
    obtain ⟨c, hc, h⟩ := bind_some' h
    refine ⟨_, h, _, ?_, rfl⟩
    have : (⟨s.toArray⟩ : ByteArray)[n.toNat]? = some c := by
      have hlt := (List.getElem?_eq_some_iff.1 hc).1
      have hlt' : n.toNat < (⟨s.toArray⟩ : ByteArray).size := by simpa [ByteArray.size] using hlt
      rw [getElem?_pos (⟨s.toArray⟩ : ByteArray) n.toNat hlt']
      have h2 := (List.getElem?_eq_some_iff.1 hc).2
      congr 1
    simp [Instr.index, asIntOf, run_und he, h0, this]
  · rename_i len e he
    obtain ⟨k, n, rfl, h⟩ := wIdx_sound hi h
    obtain ⟨h0, h⟩ := br_none h
    simp only [decide_eq_true_eq, Bool.and_eq_true, Bool.not_eq_true'] at h0
    obtain ⟨⟨⟨⟨h0, h1⟩, h2⟩, h3⟩, h4⟩ := h0
    obtain ⟨d', hd'⟩ := Option.isSome_iff_exists.1 h4
    cases x with
    | v c =>
      obtain ⟨h5, h6⟩ := br_none (b := c.isAgg) h
      obtain ⟨d, hd, h7⟩ := bind_some' h6
      cases c <;> simp [CVal.isAgg] at h5
      rename_i cs
      obtain ⟨vs, rfl, hcs⟩ := hx
      obtain ⟨u, hu, hr, _⟩ := hcs.get hd
      refine ⟨_, h7, u, ?_, hr⟩
      have : 0 ≤ n ∧ n < len := ⟨h0, h1⟩
      simp [Instr.index, asIntOf, run_und he, this, run_size hd', h3, part, run_agg hd', h2, hu]
    | _ => cases h
  · cases h

theorem unK_sound {op : UnOp} {t : TypeId} {x : AVal} {v : Value} {K : AVal → Option R'} (hx : ARel N w μ b x v) (h : unK P op t x K = some r) :
    Yld P N w μ b K r (Op.unary op v) := by
  unfold unK at h
  split at h
  · obtain ⟨p, rfl, h⟩ := wBool_sound hx h
    exact ⟨_, h, _, rfl, rfl⟩
  · obtain ⟨k, _, h⟩ := bind_some' h
    obtain ⟨n, rfl, h⟩ := wInt_sound hx h
    exact ⟨_, h, _, rfl, rfl⟩
  · cases h

theorem lenK_sound {t : TypeId} {x : AVal} {v : Value} {K : AVal → Option R'} {ts : Array TypeId} {out : TypeId} (R : Rel F w μ b) (hx : ARel (Or F (Own μ b)) w μ b x v) (ht : ts[0]? = some t)
    (h : lenK P t b x K = some r) : Yld P (Or F (Own μ b)) w μ b K r (Builtin.len_ ts out #[v]) := by
  unfold lenK at h
  split at h
  · rename_i he
    obtain ⟨s, rfl, h⟩ := wStr_sound hx h
    refine ⟨_, h, .int .i64 (⟨s.toArray⟩ : ByteArray).size, ?_, ?_⟩
    · unfold Builtin.len_
      simp only [ht, List.getElem?_toArray, List.getElem?_cons_zero, Sem.run_bind, run_und he, Result.andThen_ok]
      rfl
    · exact congrArg (fun n : Nat => Value.int .i64 n) (by simp [ByteArray.size])
  · rename_i e he
    obtain ⟨ys, base, cap, h, rfl, _, _⟩ := wSl_sound R hx h
    refine ⟨_, h, .int .i64 ys.length, ?_, rfl⟩
    unfold Builtin.len_
    simp only [ht, List.getElem?_toArray, List.getElem?_cons_zero, Sem.run_bind, run_und he, Result.andThen_ok]
    rfl
  · rename_i n e he
    refine ⟨_, h, .int .i64 n, ?_, rfl⟩
    unfold Builtin.len_
    simp only [ht, List.getElem?_toArray, List.getElem?_cons_zero, Sem.run_bind, run_und he, Result.andThen_ok]
    rfl
  · cases h

theorem intOp_sound {op : BinOp} {xt : TypeId} {k : IntKind} {x y : Int} {c : CVal} (hop : isShift op = false) (h : intOp op k x y = some c) :
    ∃ u, (Go.binOp op xt (.int k x) (.int k y)).run P w = .ok u w ∧ CRel N w c u := by
  cases op <;> simp only [isShift, Bool.true_eq_false] at hop <;> simp only [intOp, Option.some.injEq] at h
  case quo =>
    rcases br_some h with ⟨_, h⟩ | ⟨h0, h⟩
    · cases h
    · simp only [decide_eq_false_iff_not, Option.some.injEq] at h0 h
      subst h
      exact ⟨_, by simp [Go.binOp, Op.intDiv, h0], rfl⟩
  case rem =>
    rcases br_some h with ⟨_, h⟩ | ⟨h0, h⟩
    · cases h
    · simp only [decide_eq_false_iff_not, Option.some.injEq] at h0 h
      subst h
      exact ⟨_, by simp [Go.binOp, Op.intDiv, h0], rfl⟩
  case add => subst h; exact ⟨_, by rw [show Go.binOp .add xt (.int k x) (.int k y) = Op.intArith .add k x y by simp [Go.binOp]]; rfl, rfl⟩
  case sub => subst h; exact ⟨_, by rw [show Go.binOp .sub xt (.int k x) (.int k y) = Op.intArith .sub k x y by simp [Go.binOp]]; rfl, rfl⟩
  case mul => subst h; exact ⟨_, by rw [show Go.binOp .mul xt (.int k x) (.int k y) = Op.intArith .mul k x y by simp [Go.binOp]]; rfl, rfl⟩
  case and => subst h; exact ⟨_, by rw [show Go.binOp .and xt (.int k x) (.int k y) = Op.intBits .and k x y by simp [Go.binOp]]; rfl, rfl⟩
  case or => subst h; exact ⟨_, by rw [show Go.binOp .or xt (.int k x) (.int k y) = Op.intBits .or k x y by simp [Go.binOp]]; rfl, rfl⟩
  case xor => subst h; exact ⟨_, by rw [show Go.binOp .xor xt (.int k x) (.int k y) = Op.intBits .xor k x y by simp [Go.binOp]]; rfl, rfl⟩
  case andNot => subst h; exact ⟨_, by rw [show Go.binOp .andNot xt (.int k x) (.int k y) = Op.intBits .andNot k x y by simp [Go.binOp]]; rfl, rfl⟩
  case eql => subst h; exact ⟨_, by rw [show Go.binOp .eql xt (.int k x) (.int k y) = Op.intCmp .eql x y by simp [Go.binOp]]; rfl, rfl⟩
  case neq => subst h; exact ⟨_, by rw [show Go.binOp .neq xt (.int k x) (.int k y) = Op.intCmp .neq x y by simp [Go.binOp]]; rfl, rfl⟩
  case lss => subst h; exact ⟨_, by rw [show Go.binOp .lss xt (.int k x) (.int k y) = Op.intCmp .lss x y by simp [Go.binOp]]; rfl, rfl⟩
  case leq => subst h; exact ⟨_, by rw [show Go.binOp .leq xt (.int k x) (.int k y) = Op.intCmp .leq x y by simp [Go.binOp]]; rfl, rfl⟩
  case gtr => subst h; exact ⟨_, by rw [show Go.binOp .gtr xt (.int k x) (.int k y) = Op.intCmp .gtr x y by simp [Go.binOp]]; rfl, rfl⟩
  case geq => subst h; exact ⟨_, by rw [show Go.binOp .geq xt (.int k x) (.int k y) = Op.intCmp .geq x y by simp [Go.binOp]]; rfl, rfl⟩
  all_goals (cases h; done)

theorem shiftOp_sound {op : BinOp} {xt : TypeId} {k k' : IntKind} {x y : Int} {c : CVal} (hop : isShift op = true) (h : shiftOp op k x y = some c) :
    ∃ u, (Go.binOp op xt (.int k x) (.int k' y)).run P w = .ok u w ∧ CRel N w c u := by
  unfold shiftOp at h
  rcases br_some h with ⟨_, h⟩ | ⟨h0, h⟩
  · cases h
  · simp only [decide_eq_false_iff_not] at h0
    cases op <;> simp only [isShift, Bool.false_eq_true] at hop <;> simp only [Option.some.injEq] at h <;> subst h
    · exact ⟨_, by simp [Go.binOp, Op.shift, h0], rfl⟩
    · exact ⟨_, by simp [Go.binOp, Op.shift, h0], rfl⟩

theorem guard_int {op : BinOp} {t : TypeId} {x y : Operand} {v u : Value} (hv : ∀ cs, v ≠ .agg cs) (hn : v ≠ .nilIface) : (eqGuard op t x y v u).run P w = .ok () w := by
  unfold eqGuard
  cases v <;> first | (exact absurd rfl (hv _)) | (exact absurd rfl hn) | (cases op <;> cases u <;> rfl)

theorem equalIn_bool (d : Nat) {xt : TypeId} {p q : Bool} (hk : P.underlying xt = some .bool) : (Op.equalIn (d + 1) xt (.bool p) (.bool q)).run P w = .ok (p == q) w := by
  simp only [Op.equalIn, Sem.run_bind, run_und hk, Result.andThen_ok]
  rfl
theorem equal_bool {xt : TypeId} {p q : Bool} (hk : P.underlying xt = some .bool) : (Op.equal xt (.bool p) (.bool q)).run P w = .ok (p == q) w := equalIn_bool 9999 hk

theorem bytesLt_eq : ∀ a b : List UInt8, Op.bytesLess a b = bytesLt a b
  | [], [] => rfl
  | _ :: _, [] => rfl
  | [], _ :: _ => rfl
  | a :: x, b :: y => by
    simp only [Op.bytesLess, bytesLt, bytesLt_eq x y]
    congr 1

theorem bl_toList (s : List UInt8) : (⟨s.toArray⟩ : ByteArray).toList = s := by
  rw [Lib.toList_data]

theorem wAgg_sound {x : AVal} {v : Value} {K : List CVal → Option R'} (hx : ARel N w μ b x v) (h : wAgg x K = some r) : ∃ cs vs, v = .agg (List.toArray vs) ∧ CsRel N w true cs vs ∧ K cs = some r := by
  unfold wAgg at h
  split at h
  · rename_i c
    obtain ⟨cs, hc, h⟩ := bind_some' h
    cases c <;> simp [CVal.asAgg] at hc
    subst hc
    obtain ⟨vs, hv, hr⟩ := hx
    exact ⟨_, vs, hv, hr, h⟩
  · cases h

theorem asInt_some {k : IntKind} {x : CVal} {n : Int} (h : x.asInt k = some n) : x = .int k n := by
  unfold CVal.asInt at h
  split at h
  · split at h
    · rename_i e; cases h; rw [e]
    · cases h
  · cases h
theorem asBool_some {x : CVal} {n : Bool} (h : x.asBool = some n) : x = .bool n := by
  unfold CVal.asBool at h
  split at h <;> cases h; rfl
theorem asStr_some {x : CVal} {n : List UInt8} (h : x.asStr = some n) : x = .str n := by
  unfold CVal.asStr at h
  split at h <;> cases h; rfl

theorem eqCell_sound {d : Nat} {t : TypeId} {x y : CVal} {u v : Value} {e : Bool} (hx : CRel N w x u) (hy : CRel N w y v) (h : eqCellT P t x y = some e) : aggT P t = false ∧ (∃ dd, P.underlying t = some dd) ∧ (Op.equalIn (d + 1) t u v).run P w = .ok e w := by
  unfold eqCellT at h
  split at h
  · rename_i ht
    obtain ⟨a, ha, h⟩ := bind_some' h
    obtain ⟨c, hc, h⟩ := bind_some' h
    cases h
    cases asBool_some ha; cases asBool_some hc
    have hu : u = .bool a := hx
    have hv : v = .bool c := hy
    subst hu hv
    refine ⟨by simp [aggT, ht], ⟨_, ht⟩, ?_⟩
    rw [run_equalIn_bool' w d t a c ht]
  · rename_i k ht
    obtain ⟨a, ha, h⟩ := bind_some' h
    obtain ⟨c, hc, h⟩ := bind_some' h
    cases h
    cases asInt_some ha; cases asInt_some hc
    have hu : u = .int k a := hx
    have hv : v = .int k c := hy
    subst hu hv
    refine ⟨by simp [aggT, ht], ⟨_, ht⟩, ?_⟩
    rw [run_equalIn_int w d t k k a c ht]
    rfl
  · rename_i ht
    obtain ⟨a, ha, h⟩ := bind_some' h
    obtain ⟨c, hc, h⟩ := bind_some' h
    cases h
    cases asStr_some ha; cases asStr_some hc
    have hu : u = .string ⟨a.toArray⟩ := hx
    have hv : v = .string ⟨c.toArray⟩ := hy
    subst hu hv
    refine ⟨by simp [aggT, ht], ⟨_, ht⟩, ?_⟩
    rw [run_equalIn_string w d t _ _ ht, bl_toList, bl_toList]
    congr 1
    rw [Bool.eq_iff_iff]; simp
  · cases h

theorem eqFields_all {d : Nat} {va vb : List Value} {a c : List CVal} (ha : CsRel N w true a va) (hb : CsRel N w true c vb) : ∀ {fs : List Field} {z : Bool}, Abs.eqFields P fs a c = some z →
    (Op.eqFields (d + 1) va.toArray vb.toArray fs).run P w = .ok z w
  | [], z, h => by cases h; simp [Op.eqFields]
  | f :: r, z, h => by
    unfold Abs.eqFields at h
    obtain ⟨h0, h⟩ := br_none h
    have h0 : f.name ≠ "_" := by simpa using h0
    obtain ⟨x, hx, h⟩ := bind_some' h
    obtain ⟨y, hy, h⟩ := bind_some' h
    obtain ⟨e, he, h⟩ := bind_some' h
    obtain ⟨z', hz, h⟩ := bind_some' h
    cases h
    obtain ⟨u, hu, hxu, _⟩ := ha.get hx
    obtain ⟨v, hv, hyv, _⟩ := hb.get hy
    obtain ⟨hag, ⟨dd, hdd⟩, h1⟩ := eqCell_sound (d := d) hxu hyv he
    have hag : (isAgg f.type).run P w = .ok false w := by rw [run_agg hdd, hag]
    have p1 : (part f.type va.toArray f.offset).run P w = .ok u w := by simp [part, hag, hu]
    have p2 : (part f.type vb.toArray f.offset).run P w = .ok v w := by simp [part, hag, hv]
    have h2 := eqFields_all (d := d) ha hb hz
    rw [Op.eqFields]
    simp only [ne_eq, h0, not_false_eq_true, if_true, Sem.run_bind, p1, p2, h1, Result.andThen_ok]
    cases e
    · simp
    · simpa using h2

theorem binK_sound {op : BinOp} {xt yt : TypeId} {x y : AVal} {v u : Value} {ox oy : Operand} {K : AVal → Option R'} (hx : ARel N w μ b x v) (hy : ARel N w μ b y u)
    (h : binK P op xt x y yt K = some r) : Yld P N w μ b K r (do eqGuard op xt ox oy v u; Go.binOp op xt v u) := by
  unfold binK at h
  split at h
  · rename_i k hk
    rcases br_some h with ⟨hop, h⟩ | ⟨hop, h⟩
    · obtain ⟨m, rfl, h⟩ := wInt_sound hx h
      obtain ⟨k', n, rfl, h⟩ := wIdx_sound hy h
      obtain ⟨c, hc, h⟩ := bind_some' h
      obtain ⟨z, hz, hr⟩ := shiftOp_sound (P := P) (w := w) (N := N) (xt := xt) (k' := k') hop hc
      refine ⟨_, h, z, ?_, hr⟩
      simp only [Sem.run_bind, guard_int (v := .int k m) (fun cs h => by cases h) (by simp), Result.andThen_ok]
      exact hz
    · obtain ⟨m, rfl, h⟩ := wInt_sound hx h
      obtain ⟨n, rfl, h⟩ := wInt_sound hy h
      obtain ⟨c, hc, h⟩ := bind_some' h
      obtain ⟨z, hz, hr⟩ := intOp_sound (P := P) (w := w) (N := N) (xt := xt) hop hc
      refine ⟨_, h, z, ?_, hr⟩
      simp only [Sem.run_bind, guard_int (v := .int k m) (fun cs h => by cases h) (by simp), Result.andThen_ok]
      exact hz
  · obtain ⟨s, rfl, h⟩ := wStr_sound hx h
    obtain ⟨s', rfl, h⟩ := wStr_sound hy h
    have run : ∀ z, (Op.stringOp op ⟨s.toArray⟩ ⟨s'.toArray⟩).run P w = .ok z w → (do eqGuard op xt ox oy (.string ⟨s.toArray⟩) (.string ⟨s'.toArray⟩); Go.binOp op xt (.string ⟨s.toArray⟩) (.string ⟨s'.toArray⟩) : Sem Value).run P w = .ok z w := by
      intro z hz
      simp only [Sem.run_bind, guard_int (v := .string ⟨s.toArray⟩) (fun cs h => by cases h) (by simp), Result.andThen_ok]
      rw [← hz]
      cases op <;> rfl
    split at h
    · obtain ⟨h0, h⟩ := br_none h
      simp only [decide_eq_true_eq] at h0
      refine ⟨_, h, .string (⟨s.toArray⟩ ++ ⟨s'.toArray⟩), run _ ?_, ?_⟩
      · have hmax : IntKind.i64.max = 9223372036854775807 := by decide
        have h1 : ¬ (((⟨s.toArray⟩ : ByteArray).size + (⟨s'.toArray⟩ : ByteArray).size : Nat) : Int) > IntKind.i64.max := by
          have e1 : (⟨s.toArray⟩ : ByteArray).size = s.length := rfl
          have e2 : (⟨s'.toArray⟩ : ByteArray).size = s'.length := rfl
          rw [hmax, e1, e2]; omega
        simp only [Op.stringOp, h1, if_false]
        rfl
      · show Value.string _ = Value.string _
        congr 1
    · refine ⟨_, h, .bool ((⟨s.toArray⟩ : ByteArray).toList == (⟨s'.toArray⟩ : ByteArray).toList), run _ rfl, ?_⟩
      rw [bl_toList, bl_toList]
      exact congrArg Value.bool (by rw [Bool.eq_iff_iff]; simp)
    · refine ⟨_, h, .bool (!((⟨s.toArray⟩ : ByteArray).toList == (⟨s'.toArray⟩ : ByteArray).toList)), run _ rfl, ?_⟩
      rw [bl_toList, bl_toList]
      exact congrArg Value.bool (by rw [Bool.eq_iff_iff]; simp)
    · refine ⟨_, h, .bool (Op.bytesLess (⟨s.toArray⟩ : ByteArray).toList (⟨s'.toArray⟩ : ByteArray).toList), run _ rfl, ?_⟩
      rw [bl_toList, bl_toList, bytesLt_eq]
      rfl
    · cases h
  · obtain ⟨p, rfl, h⟩ := wBool_sound hx h
    obtain ⟨p', rfl, h⟩ := wBool_sound hy h
    have run : ∀ z, (Go.binOp op xt (.bool p) (.bool p')).run P w = .ok z w → (do eqGuard op xt ox oy (.bool p) (.bool p'); Go.binOp op xt (.bool p) (.bool p') : Sem Value).run P w = .ok z w := by
      intro z hz
      simp only [Sem.run_bind, guard_int (v := .bool p) (fun cs h => by cases h) (by simp), Result.andThen_ok]
      exact hz
    split at h
    · refine ⟨_, h, .bool (p == p'), run _ ?_, rfl⟩
      rw [show Go.binOp .eql xt (.bool p) (.bool p') = (do pure (.bool (← Op.equal xt (.bool p) (.bool p')))) from rfl]
      simp only [Sem.run_bind, equal_bool ‹P.underlying xt = some .bool›, Result.andThen_ok]
      rfl
    · refine ⟨_, h, .bool (!(p == p')), run _ ?_, rfl⟩
      rw [show Go.binOp .neq xt (.bool p) (.bool p') = (do pure (.bool (!(← Op.equal xt (.bool p) (.bool p'))))) from rfl]
      simp only [Sem.run_bind, equal_bool ‹P.underlying xt = some .bool›, Result.andThen_ok]
      rfl
    · cases h
  · -- structs
    rename_i fs hk
    rcases br_some h with ⟨_, h⟩ | ⟨h0, h⟩
    · cases h
    simp only [Bool.or_eq_false_iff] at h0
    obtain ⟨cs, va, rfl, hva, h⟩ := wAgg_sound hx h
    obtain ⟨cs', vb, rfl, hvb, h⟩ := wAgg_sound hy h
    obtain ⟨z, hz, h⟩ := bind_some' h
    have hfs : P.fieldsOf xt = fs := by simp [Program.fieldsOf, hk]
    have heq : (Op.equal xt (.agg va.toArray) (.agg vb.toArray)).run P w = .ok z w := by
      have : (Op.equalIn (9998 + 1 + 1) xt (.agg va.toArray) (.agg vb.toArray)).run P w = .ok z w := by
        rw [run_equalIn_struct (P := P) w _ xt _ _ (by rw [hfs]; exact hk) h0.1, hfs]
        exact eqFields_all hva hvb hz
      exact this
    have hg : (op = .eql ∨ op = .neq) → (eqGuard op xt ox oy (.agg va.toArray) (.agg vb.toArray)).run P w = .ok () w := by
      rintro (rfl | rfl) <;> simp [eqGuard, h0.2]
    split at h
    · refine ⟨_, h, .bool z, ?_, rfl⟩
      rw [show Go.binOp .eql xt (.agg va.toArray) (.agg vb.toArray) = (do pure (.bool (← Op.equal xt (.agg va.toArray) (.agg vb.toArray)))) from rfl]
      simp only [Sem.run_bind, hg (.inl rfl), heq, Result.andThen_ok]
      rfl
    · refine ⟨_, h, .bool (!z), ?_, rfl⟩
      rw [show Go.binOp .neq xt (.agg va.toArray) (.agg vb.toArray) = (do pure (.bool (!(← Op.equal xt (.agg va.toArray) (.agg vb.toArray))))) from rfl]
      simp only [Sem.run_bind, hg (.inr rfl), heq, Result.andThen_ok]
      rfl
    · cases h
  · cases h
end

end Go.Proofs.Ytlgonbonnjkekaa.Abs

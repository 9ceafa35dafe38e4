/- The machine with no bound on its steps: what comes of some number of steps on. -/
import Derived.Test.YtlgonbonnjkekaaKit
set_option linter.unusedVariables false
set_option linter.unusedSectionVars false
set_option linter.unusedSimpArgs false
namespace Go.Proofs.Ytlgonbonnjkekaa.Abs
open Go

/-- What Y tells comes of the X from some number on. -/
def Ap {R : Type} (X : Nat → Option R) (Y : Option R) : Prop := ∀ r, Y = some r → Evt fun n => X n = some r

section
variable {R α β : Type}
theorem Ap.const (Y : Option R) : Ap (fun _ => Y) Y := fun r h => .of fun _ => h
theorem Ap.none (X : Nat → Option R) : Ap X Option.none := fun r h => by cases h
theorem Ap.bind {X : Nat → Option α} {Y : Option α} {K : Nat → α → Option R} {K' : α → Option R} (h : Ap X Y) (k : ∀ a, Ap (fun n => K n a) (K' a)) : Ap (fun n => (X n).bind (K n)) (Y.bind K') := by
  intro r hr
  cases Y with
  | none => cases hr
  | some y =>
    refine ((h y rfl).and (k y r hr)).mono fun n ⟨h1, h2⟩ => ?_
    show (X n).bind (K n) = _
    rw [h1]
    exact h2
theorem Ap.bind' {Y : Option α} {K : Nat → α → Option R} {K' : α → Option R} (k : ∀ a, Ap (fun n => K n a) (K' a)) : Ap (fun n => Y.bind (K n)) (Y.bind K') := .bind (.const Y) k
theorem Ap.br {b : Bool} {X X' : Nat → Option R} {Y Y' : Option R} (h : Ap X Y) (k : Ap X' Y') : Ap (fun n => Abs.br b (X n) (X' n)) (Abs.br b Y Y') := by
  cases b
  · exact k
  · exact h
theorem Det.ap {F : (R : Type) → (α → Option R) → Option R} (d : Det F) {K : Nat → α → Option R} {K' : α → Option R} (k : ∀ a, Ap (fun n => K n a) (K' a)) : Ap (fun n => F R (K n)) (F R K') := by
  obtain ⟨o, ho⟩ := d
  simp only [ho]
  exact .bind' k
theorem Det2.ap {F : (R : Type) → (α → β → Option R) → Option R} (d : Det2 F) {K : Nat → α → β → Option R} {K' : α → β → Option R} (k : ∀ a b, Ap (fun n => K n a b) (K' a b)) : Ap (fun n => F R (K n)) (F R K') := by
  obtain ⟨o, ho⟩ := d
  simp only [ho]
  exact .bind' fun p => k p.1 p.2
end

section
variable {R : Type} {E : Env} {N : Ann} {C : Nat → CallT} {C' : CallT} {L : Nat → LoopT} {L' : LoopT} {f : FuncId}
variable (hC : ∀ g args pbs, Ap (fun n => C n g args pbs) (C' g args pbs)) (hL : ∀ f bid c np ks p, Ap (fun n => L n f bid c np ks p) (L' f bid c np ks p))
include hC

theorem callK_ap {q : Nat} {g : FuncId} {args : List AVal} {b : List Blk} {K : Nat → AVal → List Blk → Option R} {K' : AVal → List Blk → Option R} (k : ∀ x b, Ap (fun n => K n x b) (K' x b)) :
    Ap (fun n => callK E (C n) q g args b (K n)) (callK E C' q g args b K') := by
  unfold callK
  refine .br (.none _) ?_
  refine Det2.ap (F := fun R K => promo (R := R) E g q false 0 args b K) (promo_det args) fun args1 b1 => ?_
  refine Det.ap (F := fun R K => handAll (R := R) (E.pm g) 0 args1 ⟨[], [], b1⟩ K) handAll_det fun h => ?_
  refine Det2.ap (F := fun R K => handBlks (R := R) h.ids h.b K) handBlks_det fun pbs b3 => ?_
  refine .br (.bind ?_ fun r => .br (.none _) ?_) (.none _)
  · cases E.prim g with
    | none => exact hC g h.args pbs
    | some p => exact .const _
  · refine Det.ap (F := fun R K => backBlks (R := R) h.ids r.2 0 b3 K) backBlks_det fun b4 => ?_
    cases E.rm g with
    | none => exact k _ _
    | some j =>
      simp only
      cases h.ids[j]? with
      | none => exact .none _
      | some i => exact k _ _

theorem opK_ap {q : Nat} {o : Oper} {t : List AVal} {b : List Blk} {K : Nat → AVal → List Blk → Option R} {K' : AVal → List Blk → Option R} (k : ∀ x b, Ap (fun n => K n x b) (K' x b)) :
    Ap (fun n => opK E (C n) q o t b (K n)) (opK E C' q o t b K') := by
  by_cases hc : ∃ c, o.op = .call c
  · obtain ⟨c, hc⟩ := hc
    by_cases hv : ∃ f, c.callee = .value f
    · obtain ⟨fo, hv⟩ := hv
      have gen : ∀ f : Operand, Ap (fun n => (match evalA t f with
          | .v d => callV E (C n) q d (c.args.toList.map (evalA t)) b (K n)
          | .func g caps => callK E (C n) q g (c.args.toList.map (evalA t) ++ caps) b (K n)
          | _ => Option.none)) (match evalA t f with
          | .v d => callV E C' q d (c.args.toList.map (evalA t)) b K'
          | .func g caps => callK E C' q g (c.args.toList.map (evalA t) ++ caps) b K'
          | _ => Option.none) := by
        intro f
        cases evalA t f with
        | v c' =>
          unfold callV
          cases allV (c.args.toList.map (evalA t)) with
          | some cs => exact .bind (hC _ _ _) fun r => k _ _
          | none =>
            cases c' with
            | func g caps => exact callK_ap hC k
            | _ => exact .none _
        | func g caps => exact callK_ap hC k
        | _ => exact .none _
      unfold opK
      simp only [hc, hv]
      cases fo with
      | func g => exact callK_ap hC k
      | tmp i => exact gen (.tmp i)
      | const x => exact gen (.const x)
      | global x => exact gen (.global x)
    · have e : ∀ n (K : AVal → List Blk → Option R), opK E (C n) q o t b K = opK E C' q o t b K := by
        intro n K
        unfold opK
        simp only [hc]
        split <;> first | rfl | (rename_i h; exact (hv ⟨_, h⟩).elim)
      simp only [e]
      exact Det2.ap (F := fun R K => opK (R := R) E C' q o t b K) opK_det k
  · have e : ∀ n (K : AVal → List Blk → Option R), opK E (C n) q o t b K = opK E C' q o t b K := by
      intro n K
      unfold opK
      split <;> first | rfl | (rename_i h; exact (hc ⟨_, h⟩).elim)
    simp only [e]
    exact Det2.ap (F := fun R K => opK (R := R) E C' q o t b K) opK_det k

theorem stepK_ap {ro : Bool} {ops : Array Oper} {o : Oper} {t : List AVal} {b : List Blk} {K : Nat → Bool → List AVal → List AVal → List Blk → Option R} {K' : Bool → List AVal → List AVal → List Blk → Option R}
    (k : ∀ r t t' b, Ap (fun n => K n r t t' b) (K' r t t' b)) : Ap (fun n => stepK E (C n) ro ops o t b (K n)) (stepK E C' ro ops o t b K') := by
  unfold stepK
  cases o.guard with
  | none => exact .br (.none _) (opK_ap hC fun x b => k _ _ _ _)
  | some jw =>
    obtain ⟨j, want⟩ := jw
    simp only
    cases guardSlot ops j with
    | none => exact .none _
    | some g =>
      simp only
      generalize t.getD g .un = y
      have tupc : ∀ cs, Ap (fun n => match AVal.tup cs with
          | .v c => c.asBool.bind fun p =>
              br p
                (br want
                  (br (ro && !roOp E o (t.set g (.v (.bool true)))) Option.none
                    (opK E (C n) b.length o (t.set g (.v (.bool true))) b fun x b => K n true (t.set g (.v (.bool true))) (putA (t.set g (.v (.bool true))) o.dst x) b))
                  (K n false (t.set g (.v (.bool true))) (putA (t.set g (.v (.bool true))) o.dst skipped) b))
                (br want (K n false (t.set g (.v (.bool false))) (putA (t.set g (.v (.bool false))) o.dst skipped) b)
                  (br (ro && !roOp E o (t.set g (.v (.bool false)))) Option.none
                    (opK E (C n) b.length o (t.set g (.v (.bool false))) b fun x b => K n true (t.set g (.v (.bool false))) (putA (t.set g (.v (.bool false))) o.dst x) b)))
          | .tup [] => K n false t (putA t o.dst skipped) b
          | _ => Option.none) (match AVal.tup cs with
          | .v c => c.asBool.bind fun p =>
              br p
                (br want
                  (br (ro && !roOp E o (t.set g (.v (.bool true)))) Option.none
                    (opK E C' b.length o (t.set g (.v (.bool true))) b fun x b => K' true (t.set g (.v (.bool true))) (putA (t.set g (.v (.bool true))) o.dst x) b))
                  (K' false (t.set g (.v (.bool true))) (putA (t.set g (.v (.bool true))) o.dst skipped) b))
                (br want (K' false (t.set g (.v (.bool false))) (putA (t.set g (.v (.bool false))) o.dst skipped) b)
                  (br (ro && !roOp E o (t.set g (.v (.bool false)))) Option.none
                    (opK E C' b.length o (t.set g (.v (.bool false))) b fun x b => K' true (t.set g (.v (.bool false))) (putA (t.set g (.v (.bool false))) o.dst x) b)))
          | .tup [] => K' false t (putA t o.dst skipped) b
          | _ => Option.none) := by
        intro cs
        cases cs with
        | nil => exact k _ _ _ _
        | cons => exact .none _
      cases y with
      | v c =>
        exact .bind' fun p => .br (.br (.br (.none _) (opK_ap hC fun x b => k _ _ _ _)) (k _ _ _ _)) (.br (k _ _ _ _) (.br (.none _) (opK_ap hC fun x b => k _ _ _ _)))
      | tup cs => exact tupc cs
      | _ => exact .none _

theorem evOps_ap {ro : Bool} {ops : Array Oper} : ∀ {l : List Oper} {t : List AVal} {b : List Blk} {K : Nat → List AVal → List Blk → Option R} {K' : List AVal → List Blk → Option R},
    (∀ t b, Ap (fun n => K n t b) (K' t b)) → Ap (fun n => evOps E (C n) ro ops l t b (K n)) (evOps E C' ro ops l t b K')
  | [], t, b, K, K', k => k t b
  | o :: r, t, b, K, K', k => by
    unfold evOps
    exact stepK_ap hC (K := fun n _ _ t b => evOps E (C n) ro ops r t b (K n)) (K' := fun _ _ t b => evOps E C' ro ops r t b K') fun _ _ t b => evOps_ap k

theorem evD_ap {ro : Bool} {ops : Array Oper} : ∀ {l : List Nat} {acc : List (Nat × Cls)} {t : List AVal} {b : List Blk} {K : Nat → List AVal → List Blk → Option R} {K' : List AVal → List Blk → Option R},
    (∀ t b, Ap (fun n => K n t b) (K' t b)) → Ap (fun n => evD E (C n) ro ops l acc t b (K n)) (evD E C' ro ops l acc t b K')
  | [], acc, t, b, K, K', k => k t b
  | i :: r, acc, t, b, K, K', k => by
    unfold evD
    cases ops[i]? with
    | none => exact .none _
    | some o =>
      exact stepK_ap hC (K := fun n ran t1 t' b' => Abs.br (acc.all (fits ops i o (cond ran (clsOf E o t1) .blind))) (evD E (C n) ro ops r ((i, cond ran (clsOf E o t1) .blind) :: acc) t' b' (K n)) Option.none)
        (K' := fun ran t1 t' b' => Abs.br (acc.all (fits ops i o (cond ran (clsOf E o t1) .blind))) (evD E C' ro ops r ((i, cond ran (clsOf E o t1) .blind) :: acc) t' b' K') Option.none)
        fun ran t1 t' b' => .br (evD_ap k) (.none _)

theorem evReg_ap {id : Nat} {ops : Array Oper} {draw : Bool} {s : St} {K : Nat → St → Option R} {K' : St → Option R} (k : ∀ s, Ap (fun n => K n s) (K' s)) :
    Ap (fun n => evReg E N (C n) f id ops draw s (K n)) (evReg E N C' f id ops draw s K') := by
  unfold evReg
  cases N.reg f id with
  | none =>
    cases draw with
    | false => exact evOps_ap hC (K := fun n t b => K n ⟨t, b⟩) (K' := fun t b => K' ⟨t, b⟩) fun t b => k _
    | true => exact .br (evD_ap hC (K := fun n t b => K n ⟨t, b⟩) (K' := fun t b => K' ⟨t, b⟩) fun t b => k _) (.none _)
  | some ks =>
    refine .br (.bind ?_ fun x => k _) (.none _)
    cases draw with
    | false => exact evOps_ap hC (K := fun n t b => packSlots t b ks [] fun x _ => some x) (K' := fun t b => packSlots t b ks [] fun x _ => some x) fun t b => .const _
    | true => exact .br (evD_ap hC (K := fun n t b => packSlots t b ks [] fun x _ => some x) (K' := fun t b => packSlots t b ks [] fun x _ => some x) fun t b => .const _) (.none _)

theorem packV_ap {α : Type} {b : List Blk} {kd : Kd} {x : AVal} {m : Bind} {K : Nat → kd.T → Bind → Option α} {K' : kd.T → Bind → Option α} (k : ∀ p m, Ap (fun n => K n p m) (K' p m)) :
    Ap (fun n => packV b kd x m (K n)) (packV b kd x m K') := by
  unfold packV
  cases kd with
  | int kk => exact wInt_det.ap (R := α) (K := fun n x => K n x m) (K' := fun x => K' x m) fun a => k _ _
  | bool => exact wBool_det.ap (R := α) (K := fun n x => K n x m) (K' := fun x => K' x m) fun a => k _ _
  | str => exact wStr_det.ap (R := α) (K := fun n x => K n x m) (K' := fun x => K' x m) fun a => k _ _
  | sl =>
    cases x with
    | v c => exact .bind' fun s => k _ _
    | nl => exact k _ _
    | _ => exact .none _
  | cv =>
    cases x with
    | v c => exact k _ _
    | _ => exact .none _
  | fn g =>
    cases x with
    | v c =>
      cases c with
      | func g' caps =>
        cases caps with
        | nil => exact .br (k _ _) (.none _)
        | cons => exact .none _
      | _ => exact .none _
    | _ => exact .none _
  | lp j =>
    cases x with
    | lptr i off =>
      cases off with
      | zero =>
        simp only
        cases m.find j with
        | none => exact .br (.none _) (k _ _)
        | some o =>
          cases o with
          | none => exact .none _
          | some i' => exact .br (k _ _) (.none _)
      | succ => exact .none _
    | _ => exact .none _
  | lr j =>
    cases x with
    | lref i ver =>
      refine .bind' fun _ => ?_
      cases m.find j with
      | none => exact .br (.none _) (k _ _)
      | some o =>
        cases o with
        | none => exact .none _
        | some i' => exact .br (k _ _) (.none _)
    | nl =>
      simp only
      cases m.find j with
      | none => exact k _ _
      | some o => exact .none _
    | _ => exact .none _

theorem packSlots_ap {α : Type} {t : List AVal} {b : List Blk} : ∀ {l : List (Nat × Kd)} {m : Bind} {K : Nat → SsT l → Bind → Option α} {K' : SsT l → Bind → Option α}, (∀ p m, Ap (fun n => K n p m) (K' p m)) →
    Ap (fun n => packSlots t b l m (K n)) (packSlots t b l m K')
  | [], m, K, K', k => k _ _
  | (i, kd) :: r, m, K, K', k => packV_ap hC (K := fun n x m => packSlots t b r m fun xs m => K n (x, xs) m) (K' := fun x m => packSlots t b r m fun xs m => K' (x, xs) m) fun x m =>
      packSlots_ap (K := fun n xs m => K n (x, xs) m) (K' := fun xs m => K' (x, xs) m) fun xs m => k _ _

theorem packCells_ap {α : Type} {b : List Blk} : ∀ {l : List Kd} {cs : List AVal} {m : Bind} {K : Nat → KsT l → Bind → Option α} {K' : KsT l → Bind → Option α}, (∀ p m, Ap (fun n => K n p m) (K' p m)) →
    Ap (fun n => packCells b l cs m (K n)) (packCells b l cs m K')
  | [], [], m, K, K', k => k _ _
  | [], _ :: _, m, K, K', k => .none _
  | _ :: _, [], m, K, K', k => .none _
  | kd :: r, x :: cs, m, K, K', k => packV_ap hC (K := fun n x m => packCells b r cs m fun xs m => K n (x, xs) m) (K' := fun x m => packCells b r cs m fun xs m => K' (x, xs) m) fun x m =>
      packCells_ap (K := fun n xs m => K n (x, xs) m) (K' := fun xs m => K' (x, xs) m) fun xs m => k _ _

theorem packBlks_ap {α : Type} {b : List Blk} : ∀ {l : List BK} {j : Nat} {m : Bind} {K : Nat → BsT l → Bind → Option α} {K' : BsT l → Bind → Option α}, (∀ p m, Ap (fun n => K n p m) (K' p m)) →
    Ap (fun n => packBlks b l j m (K n)) (packBlks b l j m K')
  | [], j, m, K, K', k => k _ _
  | .arr sz :: r, j, m, K, K', k => by
    unfold packBlks
    cases m.find j with
    | none => exact .none _
    | some o =>
      cases o with
      | none => exact packBlks_ap (K := fun n ys m => K n ([], ys) m) (K' := fun ys m => K' ([], ys) m) fun ys m => k _ _
      | some i => exact .bind' fun xs => .br (packBlks_ap (K := fun n ys m => K n (xs, ys) m) (K' := fun ys m => K' (xs, ys) m) fun ys m => k _ _) (.none _)
  | .box ks :: r, j, m, K, K', k => by
    unfold packBlks
    cases m.find j with
    | none => exact .none _
    | some o =>
      cases o with
      | none => exact .none _
      | some i => exact .bind' fun cs => packCells_ap hC (K := fun n x m => packBlks b r (j + 1) m fun ys m => K n (x, ys) m) (K' := fun x m => packBlks b r (j + 1) m fun ys m => K' (x, ys) m) fun x m =>
          packBlks_ap (K := fun n ys m => K n (x, ys) m) (K' := fun ys m => K' (x, ys) m) fun ys m => k _ _

theorem packK_ap {α : Type} {np : Nat} {ks : LK} {s : St} {K : Nat → ks.T → Option α} {K' : ks.T → Option α} (k : ∀ p, Ap (fun n => K n p) (K' p)) :
    Ap (fun n => packK np ks s (K n)) (packK np ks s K') := by
  unfold packK
  refine .br ?_ (.none _)
  exact packSlots_ap hC (K := fun n x m => packBlks s.b ks.blks 0 m fun y m => Abs.br (m.all fun p => decide (p.1 < ks.blks.length)) (K n (x, y)) Option.none)
    (K' := fun x m => packBlks s.b ks.blks 0 m fun y m => Abs.br (m.all fun p => decide (p.1 < ks.blks.length)) (K' (x, y)) Option.none) fun x m =>
    packBlks_ap hC (K := fun n y m => Abs.br (m.all fun p => decide (p.1 < ks.blks.length)) (K n (x, y)) Option.none) (K' := fun y m => Abs.br (m.all fun p => decide (p.1 < ks.blks.length)) (K' (x, y)) Option.none)
      fun y m => .br (k _) (.none _)

include hL
theorem ev_ap {nt : Nat} {np : List (Option Nat)} {fin : St → (Ret → Option R) → Option R} {kr : Ret → Option R} : ∀ (c : Code) {bid : Nat} {s : St} {k : Nat → X → St → Option R} {k' : X → St → Option R},
    (∀ e s, Ap (fun n => k n e s) (k' e s)) → Ap (fun n => ev E N (C n) (L n) f nt np fin kr c bid (k n) s) (ev E N C' L' f nt np fin kr c bid k' s)
  | .skip, bid, s, k, k', hk => hk _ _
  | .region id ops draw, bid, s, k, k', hk => evReg_ap hC (K := fun n s => k n .N s) (K' := fun s => k' .N s) fun s => hk _ _
  | .seq a b, bid, s, k, k', hk => ev_ap a (k := fun n e s => match e with | .N => ev E N (C n) (L n) f nt np fin kr b bid (k n) s | .X j => k n (.X j) s)
      (k' := fun e s => match e with | .N => ev E N C' L' f nt np fin kr b bid k' s | .X j => k' (.X j) s) fun e s => by
        cases e with
        | N => exact ev_ap b hk
        | X j => exact hk _ _
  | .cond c a b, bid, s, k, k', hk => wBool_det.ap (R := R) (K := fun n g => Abs.br g (ev E N (C n) (L n) f nt np fin kr a bid (k n) (condSet c true s)) (ev E N (C n) (L n) f nt np fin kr b bid (k n) (condSet c false s)))
      (K' := fun g => Abs.br g (ev E N C' L' f nt np fin kr a bid k' (condSet c true s)) (ev E N C' L' f nt np fin kr b bid k' (condSet c false s))) fun g => .br (ev_ap a hk) (ev_ap b hk)
  | .block id c, bid, s, k, k', hk => ev_ap c (k := fun n e s => match e with | .N => k n .N s | .X j => Abs.br (j == id) (k n .N s) (k n (.X j) s))
      (k' := fun e s => match e with | .N => k' .N s | .X j => Abs.br (j == id) (k' .N s) (k' (.X j) s)) fun e s => by
        cases e with
        | N => exact hk _ _
        | X j => exact .br (hk _ _) (hk _ _)
  | .loop c, bid, s, k, k', hk => by
    unfold ev
    cases N.loop f bid with
    | none => exact .none _
    | some ks =>
      refine packK_ap hC (K := fun n p => (L n f bid c np ks p).bind fun o => loK o kr fun j p => k n (.X j) (unpack nt ks p)) (K' := fun p => (L' f bid c np ks p).bind fun o => loK o kr fun j p => k' (.X j) (unpack nt ks p)) fun p => ?_
      refine .bind (hL _ _ _ _ _ _) fun o => ?_
      cases o with
      | ret r => exact .const _
      | out j p => exact hk _ _
  | .exit id, bid, s, k, k', hk => hk _ _
  | .ret, bid, s, k, k', hk => .const _
  | .rangeFunc .., bid, s, k, k', hk => .none _
  | .scope .., bid, s, k, k', hk => .none _
  | .label .., bid, s, k, k', hk => .none _
  | .goto .., bid, s, k, k', hk => .none _
  | .refuse .., bid, s, k, k', hk => .none _

theorem evF_ap {args : List AVal} {pbs : List PB} : Ap (fun n => evF E N (C n) (L n) f args pbs) (evF E N C' L' f args pbs) := by
  unfold evF
  cases E.P.funcs[f]? with
  | none => exact .none _
  | some fn =>
    simp only
    cases fn.body with
    | none => exact .none _
    | some c =>
      refine .br (.none _) ?_
      exact ev_ap hC hL c (k := fun n e s => match e with | .N => finK E f fn (pbs.map PB.sh) s some | .X _ => Option.none) (k' := fun e s => match e with | .N => finK E f fn (pbs.map PB.sh) s some | .X _ => Option.none)
        fun e s => .const _

theorem evL_ap {bid : Nat} {c : Code} {np : List (Option Nat)} {ks : LK} {p : ks.T} : Ap (fun n => evL E N (C n) (L n) f bid c np ks p) (evL E N C' L' f bid c np ks p) := by
  unfold evL
  cases E.P.funcs[f]? with
  | none => exact .none _
  | some fn =>
    refine ev_ap hC hL c (k := fun n e s => match e with
        | .N => packK np.length ks s fun p => L n f bid c np ks p
        | .X j => packK np.length ks s fun p => some (.out j p)) (k' := fun e s => match e with
        | .N => packK np.length ks s fun p => L' f bid c np ks p
        | .X j => packK np.length ks s fun p => some (.out j p)) fun e s => ?_
    cases e with
    | N => exact packK_ap hC (K := fun n p => L n f bid c np ks p) (K' := fun p => L' f bid c np ks p) fun p => hL _ _ _ _ _ _
    | X j => exact .const _
end

section
variable (E : Env) (N : Ann)
open Classical in
/-- What a call comes to. -/
noncomputable def Cw : CallT := fun g args pbs => if h : ∃ r, Evt fun n => (run E N n).1 g args pbs = some r then some h.choose else none
open Classical in
/-- What a loop comes to. -/
noncomputable def Lw : LoopT := fun f bid c np ks p => if h : ∃ r, Evt fun n => (run E N n).2 f bid c np ks p = some r then some h.choose else none

variable {E N}
theorem Evt.uniq {α : Type} {X : Nat → Option α} {r r' : α} (h : Evt fun n => X n = some r) (k : Evt fun n => X n = some r') : r = r' := by
  obtain ⟨b, h⟩ := h.and k
  obtain ⟨h1, h2⟩ := h b (Nat.le_refl _)
  rw [h1] at h2
  exact Option.some.inj h2
theorem Cw_evt {g : FuncId} {args : List AVal} {pbs : List PB} {r : Ret} (h : Cw E N g args pbs = some r) : Evt fun n => (run E N n).1 g args pbs = some r := by
  unfold Cw at h
  split at h
  · rename_i hh
    cases h
    exact hh.choose_spec
  · cases h
theorem Cw_of {g : FuncId} {args : List AVal} {pbs : List PB} {r : Ret} (h : Evt fun n => (run E N n).1 g args pbs = some r) : Cw E N g args pbs = some r := by
  have hh : ∃ r, Evt fun n => (run E N n).1 g args pbs = some r := ⟨r, h⟩
  unfold Cw
  rw [dif_pos hh]
  exact congrArg some (hh.choose_spec.uniq h)
theorem Lw_evt {f : FuncId} {bid : Nat} {c : Code} {np : List (Option Nat)} {ks : LK} {p : ks.T} {r : LO ks.T} (h : Lw E N f bid c np ks p = some r) : Evt fun n => (run E N n).2 f bid c np ks p = some r := by
  unfold Lw at h
  split at h
  · rename_i hh
    cases h
    exact hh.choose_spec
  · cases h
theorem Lw_of {f : FuncId} {bid : Nat} {c : Code} {np : List (Option Nat)} {ks : LK} {p : ks.T} {r : LO ks.T} (h : Evt fun n => (run E N n).2 f bid c np ks p = some r) : Lw E N f bid c np ks p = some r := by
  have hh : ∃ r, Evt fun n => (run E N n).2 f bid c np ks p = some r := ⟨r, h⟩
  unfold Lw
  rw [dif_pos hh]
  exact congrArg some (hh.choose_spec.uniq h)
theorem Cw_ap (g : FuncId) (args : List AVal) (pbs : List PB) : Ap (fun n => (run E N n).1 g args pbs) (Cw E N g args pbs) := fun r h => Cw_evt h
theorem Lw_ap (f : FuncId) (bid : Nat) (c : Code) (np : List (Option Nat)) (ks : LK) (p : ks.T) : Ap (fun n => (run E N n).2 f bid c np ks p) (Lw E N f bid c np ks p) := fun r h => Lw_evt h

/-- A function does what its code does. -/
theorem fnW {g : FuncId} {args : List AVal} {pbs : List PB} {r : Ret} (hg : g ≠ apId) (h : evF E N (Cw E N) (Lw E N) g args pbs = some r) : Cw E N g args pbs = some r :=
  Cw_of ((evF_ap Cw_ap Lw_ap r h).next fun n h => by
    show cond (g == apId) _ _ = _
    rw [show (g == apId) = false by simpa using hg]
    exact h)
/-- A function value does what its function does. -/
theorem apW {g : FuncId} {caps cs : List CVal} {r : Ret} (hg : g ≠ apId) (hrm : E.rm g = none) (hp : E.prim g = none) (h : Cw E N g ((cs ++ caps).map .v) [] = some r) : Cw E N apId (.v (.func g caps) :: cs.map .v) [] = some r :=
  Cw_of ((Cw_evt h).next fun n h => by
    have e : (run E N (n + 1)).1 apId (.v (.func g caps) :: cs.map .v) [] = applyV E (run E N n).1 (.v (.func g caps) :: cs.map .v) [] := by
      simp only [run]
      rw [show (apId == apId) = true by simp]
      rfl
    rw [e]
    simp only [applyV, allV_map, Option.bind_some, hp, hrm]
    rw [show (g == apId) = false by simpa using hg]
    exact h)
/-- A loop does what its code does. -/
theorem loopW {f : FuncId} {bid : Nat} {c : Code} {np : List (Option Nat)} {ks : LK} {p : ks.T} {r : LO ks.T} (h : evL E N (Cw E N) (Lw E N) f bid c np ks p = some r) : Lw E N f bid c np ks p = some r :=
  Lw_of ((evL_ap Cw_ap Lw_ap r h).next fun n h => h)
theorem Cw_run {g : FuncId} {args : List AVal} {pbs : List PB} {r : Ret} (h : Cw E N g args pbs = some r) : ∃ n, (run E N (n + 1)).1 g args pbs = some r := by
  obtain ⟨b, hb⟩ := Cw_evt h
  exact ⟨b, hb (b + 1) (by omega)⟩
end
end Go.Proofs.Ytlgonbonnjkekaa.Abs

/- What operations look at. -/
import Derived.Test.YtlgonbonnjkekaaDet
set_option linter.unusedVariables false
set_option linter.unusedSectionVars false
set_option linter.unusedSimpArgs false
namespace Go.Proofs.Ytlgonbonnjkekaa.Abs
open Go

section
variable {E : Env} {C : CallT} {q : Nat} {o : Oper} {t t' : List AVal} {b : List Blk} {R : Type}

theorem mapParts_congr {ps : Array (Nat × Operand)} (h : ∀ x ∈ ps.map (·.2), evalA t x = evalA t' x) : mapParts t ps = mapParts t' ps := by
  unfold mapParts
  refine List.map_congr_left fun p hp => ?_
  rw [h p.2 (Array.mem_map.2 ⟨p, by simpa using hp, rfl⟩)]

theorem args_congr {c : Call} (h : ∀ x ∈ c.operands, evalA t x = evalA t' x) : c.args.toList.map (evalA t) = c.args.toList.map (evalA t') :=
  List.map_congr_left fun x hx => h x (by simp [Call.operands]; exact .inr (by simpa using hx))

theorem opK_congr (h : ∀ x ∈ o.op.operands, evalA t x = evalA t' x) {K : AVal → List Blk → Option R} : opK E C q o t b K = opK E C q o t' b K := by
  obtain ⟨dst, op, type, pos, after, guard⟩ := o
  unfold opK
  cases op <;> simp only [Op.operands] at h <;> simp only []
  case move x => rw [h x (by simp)]
  case assign x => rw [h x (by simp)]
  case pick c x y => rw [h c (by simp), h x (by simp), h y (by simp)]
  case box e x => rw [h x (by simp)]
  case build ty ps => rw [mapParts_congr fun x hx => h x (by simpa using hx)]
  case buildSlice ty n ps => rw [mapParts_congr fun x hx => h x (by simpa using hx)]
  case load ty x => rw [h x (by simp)]
  case store ty x y => rw [h x (by simp), h y (by simp)]
  case nilCheck x => rw [h x (by simp)]
  case binOp op xt x y yt => rw [h x (by simp), h y (by simp)]
  case unOp op xt x => rw [h x (by simp)]
  case convert s d x => rw [h x (by simp)]
  case makeFunc fn first caps =>
    have e : caps.toList.map (evalA t) = caps.toList.map (evalA t') := List.map_congr_left fun x hx => h x (by simp; exact .inr (by simpa using hx))
    cases fn <;> simp only [e]
  case makeSlice ty n m => rw [h n (by simp), h m (by simp)]
  case slice ty x lo hi mx =>
    have e1 : lo.map (evalA t) = lo.map (evalA t') := by cases lo <;> simp; exact h _ (by simp)
    have e2 : hi.map (evalA t) = hi.map (evalA t') := by cases hi <;> simp; exact h _ (by simp)
    have e3 : mx.map (evalA t) = mx.map (evalA t') := by cases mx <;> simp; exact h _ (by simp)
    rw [h x (by simp), e1, e2, e3]
  case fieldAddr ty x f => rw [h x (by simp)]
  case indexAddr ty x ix => rw [h x (by simp), h ix (by simp)]
  case index ty x ix => rw [h x (by simp), h ix (by simp)]
  case extract x i => rw [h x (by simp)]
  case call c =>
    have e := args_congr h
    have e' : ∀ x ∈ c.args.toList, evalA t x = evalA t' x := fun x hx => h x (by simp [Call.operands]; exact .inr (by simpa using hx))
    cases hc : c.callee with
    | value f =>
      have hf : evalA t f = evalA t' f := h f (by simp [Call.operands, hc])
      cases f <;> simp only [hf, e]
    | invoke x m => rfl
    | builtin bi =>
      cases bi <;> simp only []
      case len =>
        split
        · rename_i x ty rest hx hty
          rw [e' x (by rw [hx]; simp)]
        · rfl
      case append =>
        split
        · rename_i x y ty ty2 hx hty
          rw [e' x (by rw [hx]; simp), e' y (by rw [hx]; simp)]
        · rfl
      case max =>
        split
        · rename_i x y hx
          rw [e' x (by rw [hx]; simp), e' y (by rw [hx]; simp)]
        · rfl
      case min =>
        split
        · rename_i x y hx
          rw [e' x (by rw [hx]; simp), e' y (by rw [hx]; simp)]
        · rfl

theorem roOp_congr (h : ∀ x ∈ o.op.operands, evalA t x = evalA t' x) : roOp E o t = roOp E o t' := by
  obtain ⟨dst, op, type, pos, after, guard⟩ := o
  unfold roOp
  cases op <;> simp only [Op.operands] at h <;> simp only []
  case slice ty x lo hi mx => rw [h x (by simp)]
  case call c =>
    have e := args_congr h
    cases hc : c.callee with
    | value f =>
      have hf : evalA t f = evalA t' f := h f (by simp [Call.operands, hc])
      cases f <;> simp only [hf, e]
    | invoke x m => rfl
    | builtin bi => cases bi <;> rfl

theorem blindOp_congr (h : ∀ x ∈ o.op.operands, evalA t x = evalA t' x) : blindOp E o t = blindOp E o t' := by
  obtain ⟨dst, op, type, pos, after, guard⟩ := o
  unfold blindOp
  cases op <;> simp only [Op.operands] at h <;> simp only []
  case load ty x => rw [h x (by simp)]
  case convert s d x => rw [h x (by simp)]
  case indexAddr ty x ix => rw [h x (by simp)]
  case slice ty x lo hi mx => rw [h x (by simp)]
  case call c =>
    have e := args_congr h
    have e' : ∀ x ∈ c.args.toList, evalA t x = evalA t' x := fun x hx => h x (by simp [Call.operands]; exact .inr (by simpa using hx))
    cases hc : c.callee with
    | value f =>
      have hf : evalA t f = evalA t' f := h f (by simp [Call.operands, hc])
      cases f <;> simp only [hf, e]
    | invoke x m => rfl
    | builtin bi =>
      cases bi <;> simp only []
      case len =>
        split
        · rename_i x hx
          rw [e' x (by rw [hx]; simp)]
        · rfl
end

/-! Operations that leave the blocks alone, or do not look at them. -/
def Bl {ι α : Type} (pb : ι → List Blk) (F : ι → (R : Type) → (α → List Blk → Option R) → Option R) : Prop := ∃ z : Option α, ∀ i R K, F i R K = z.bind fun x => K x (pb i)

section
variable {ι α γ : Type} {pb : ι → List Blk}
theorem Bl.pure (x : α) : Bl pb fun i R K => K x (pb i) := ⟨some x, fun _ _ _ => rfl⟩
theorem Bl.none : Bl (α := α) pb fun i R K => Option.none := ⟨Option.none, fun _ _ _ => rfl⟩
theorem Bl.br {c : Bool} {F G : ι → (R : Type) → (α → List Blk → Option R) → Option R} (h : Bl pb F) (k : Bl pb G) : Bl pb fun i R K => Abs.br c (F i R K) (G i R K) := by
  cases c
  · exact k
  · exact h
theorem Bl.bind {x : Option γ} {F : γ → ι → (R : Type) → (α → List Blk → Option R) → Option R} (h : ∀ c, Bl pb (F c)) : Bl pb fun i R K => x.bind fun c => F c i R K := by
  cases x with
  | none => exact .none
  | some c => exact h c
theorem Bl.comp {G : (R : Type) → (γ → Option R) → Option R} {F : γ → ι → (R : Type) → (α → List Blk → Option R) → Option R} (g : Det G) (h : ∀ c, Bl pb (F c)) : Bl pb fun i R K => G R fun c => F c i R K := by
  obtain ⟨o, ho⟩ := g
  cases o with
  | none => exact ⟨Option.none, fun i R K => ho R _⟩
  | some c =>
    obtain ⟨o', ho'⟩ := h c
    exact ⟨o', fun i R K => (ho R _).trans (ho' i R K)⟩
theorem Bl.of1 {G : (R : Type) → (α → Option R) → Option R} (g : Det G) : Bl pb fun i R K => G R fun x => K x (pb i) := .comp g fun x => .pure x

theorem sliceK_bl {P : Program} {t : TypeId} {x : AVal} {lo hi mx : Option AVal} (hx : closedV x = true) : Bl pb fun i R K => sliceK (R := R) P t (pb i) x lo hi mx K := by
  unfold sliceK
  cases mx with
  | some _ => exact .none
  | none =>
    simp only
    cases P.underlying t with
    | none => exact .none
    | some d =>
      cases d with
      | string => exact .comp wStr_det fun s => .comp wOpt_det fun h => .comp wOpt_det fun l => .br (.pure _) .none
      | slice e =>
        refine .br ?_ .none
        cases x with
        | v c => exact .bind fun xs => .comp wOpt_det fun h => .comp wOpt_det fun l => .br (.pure _) .none
        | nl => exact .comp wOpt_det fun h => .comp wOpt_det fun l => .br (.pure _) .none
        | _ => cases hx
      | _ => exact .none

theorem convertK_bl {P : Program} {src dst : TypeId} {x : AVal} {qq : ι → Nat} (hs : ∃ z : Option (List CVal), ∀ i R (K : List CVal → Option R), wSl (pb i) x K = z.bind K) :
    Bl pb fun i R K => convertK (R := R) P (qq i) src dst x (pb i) K := by
  unfold convertK
  cases P.underlying src with
  | none => exact .none
  | some d1 =>
    cases P.underlying dst with
    | none => cases d1 <;> exact .none
    | some d2 =>
      cases d1 <;> cases d2 <;> first
        | exact .none
        | exact .comp wInt_det fun n => .pure _
        | exact .comp wStr_det fun s => .pure _
        | skip
      · rename_i e
        simp only
        cases P.underlying e with
        | none => exact .none
        | some d3 =>
          cases d3 with
          | int k =>
            cases k <;> first
              | exact .none
              | exact .comp wStr_det fun s => .br (.pure _) .none
          | _ => exact .none
      · rename_i e
        simp only
        cases P.underlying e with
        | none => exact .none
        | some d3 =>
          cases d3 with
          | int k =>
            cases k <;> first
              | exact .none
              | skip
            obtain ⟨z, hz⟩ := hs
            obtain ⟨z', hz'⟩ : Bl pb fun i R K => z.bind fun xs => (bytesOfC xs).bind fun s => K (AVal.v (.str s)) (pb i) := .bind fun xs => .bind fun s => .pure _
            exact ⟨z', fun i R K => (hz i R _).trans (hz' i R K)⟩
          | _ => exact .none

/-! Calls that leave the blocks alone. -/
theorem promo_pure {E : Env} {g : FuncId} {q : Nat} : ∀ {args : List AVal} {used : Bool} {j : Nat} {b : List Blk} {R : Type} {K : List AVal → List Blk → Option R}, pureArgs E g j args = true → promo E g q used j args b K = K args b
  | [], _, _, _, _, _, _ => rfl
  | x :: r, used, j, b, R, K, h => by
    cases x with
    | v c => simp only [promo]; rw [promo_pure (by simpa [pureArgs] using h)]
    | nl =>
      simp [pureArgs] at h
      simp only [promo, h.1, decide_false, Abs.br]
      rw [promo_pure h.2]
    | lref i ver =>
      simp [pureArgs] at h
      simp only [promo]; rw [promo_pure h.2]
    | _ => simp [pureArgs] at h

theorem blind_pure {E : Env} {g : FuncId} : ∀ {args : List AVal} {j : Nat}, blindArgs E g j args = true → pureArgs E g j args = true
  | [], _, _ => rfl
  | x :: r, j, h => by
    cases x with
    | v c => simp [blindArgs] at h; simp [pureArgs, blind_pure h]
    | nl => simp [blindArgs] at h; simp [pureArgs, h.1, blind_pure h.2]
    | _ => simp [blindArgs] at h

/-- handing over with the blocks of i -/
theorem handAll_pure {E : Env} {g : FuncId} : ∀ {args : List AVal} {j : Nat} {b : List Blk}, pureArgs E g j args = true → ∃ z : Option (List AVal), ∀ (l : List AVal) (ids : List Nat) (R : Type) (K : Hand → Option R),
    handAll (E.pm g) j args ⟨l, ids, b⟩ K = z.bind fun m => K ⟨l ++ m, ids, b⟩
  | [], _, _, _ => ⟨some [], fun l ids R K => by simp [handAll]⟩
  | x :: r, j, b, h => by
    cases x with
    | v c =>
      obtain ⟨z, hz⟩ := handAll_pure (b := b) (show pureArgs E g (j + 1) r = true by simpa [pureArgs] using h)
      refine ⟨z.bind fun m => some (.v c :: m), fun l ids R K => ?_⟩
      simp only [handAll, handA]
      rw [hz]
      cases z <;> simp
    | nl =>
      simp [pureArgs] at h
      obtain ⟨z, hz⟩ := handAll_pure (b := b) h.2
      refine ⟨z.bind fun m => some (.v (.sl []) :: m), fun l ids R K => ?_⟩
      simp only [handAll, handA]
      rw [hz]
      cases z <;> simp
    | lref i ver =>
      simp [pureArgs] at h
      obtain ⟨z, hz⟩ := handAll_pure (b := b) h.2
      refine ⟨(arrOf b i ver).bind fun xs => z.bind fun m => some (.v (.sl xs) :: m), fun l ids R K => ?_⟩
      simp only [handAll, handA, h.1]
      cases arrOf b i ver with
      | none => rfl
      | some xs =>
        simp only [Option.bind_some]
        rw [hz]
        cases z <;> simp
    | _ => simp [pureArgs] at h

theorem handAll_blind {E : Env} {g : FuncId} : ∀ {args : List AVal} {j : Nat}, blindArgs E g j args = true → ∃ m : List AVal, ∀ (l : List AVal) (ids : List Nat) (b : List Blk) (R : Type) (K : Hand → Option R),
    handAll (E.pm g) j args ⟨l, ids, b⟩ K = K ⟨l ++ m, ids, b⟩
  | [], _, _ => ⟨[], fun l ids b R K => by simp [handAll]⟩
  | x :: r, j, h => by
    cases x with
    | v c =>
      obtain ⟨m, hm⟩ := handAll_blind (show blindArgs E g (j + 1) r = true by simpa [blindArgs] using h)
      refine ⟨.v c :: m, fun l ids b R K => ?_⟩
      simp only [handAll, handA]
      rw [hm]; simp
    | nl =>
      simp [blindArgs] at h
      obtain ⟨m, hm⟩ := handAll_blind h.2
      refine ⟨.v (.sl []) :: m, fun l ids b R K => ?_⟩
      simp only [handAll, handA]
      rw [hm]; simp
    | _ => simp [blindArgs] at h

/-- what follows the handing over of nothing -/
def restV (E : Env) (C : CallT) (g : FuncId) (args m : List AVal) : Option AVal :=
  (match E.prim g with | some p => p m [] | none => C g m []).bind fun r =>
    Abs.br (borrows E g 0 args && (!scalar r.1 || !([] : List Nat).isEmpty)) none
      (match E.rm g with
       | none => some (AVal.v r.1)
       | some j => none)

theorem rest_eq {E : Env} {C : CallT} {g : FuncId} {args m : List AVal} {b : List Blk} {R : Type} {K : AVal → List Blk → Option R} :
    (handBlks (R := R) [] b fun pbs b3 =>
      Abs.br (([] : List Nat).all (aliveAt b3))
        ((match E.prim g with | some p => p m pbs | none => C g m pbs).bind fun r =>
          Abs.br (borrows E g 0 args && (!scalar r.1 || !([] : List Nat).isEmpty)) none
            (backBlks [] r.2 0 b3 fun b4 =>
              match E.rm g with
              | none => K (AVal.v r.1) b4
              | some j =>
                match ([] : List Nat)[j]? with
                | some i => K (AVal.lref i (verOf b4 i)) b4
                | none => none)) none) = (restV E C g args m).bind fun x => K x b := by
  unfold restV
  simp only [handBlks, List.all_nil, Abs.br]
  generalize (match E.prim g with | some p => p m [] | none => C g m [] : Option Ret) = ret
  cases ret with
  | none => rfl
  | some r =>
    simp only [Option.bind_some]
    cases (borrows E g 0 args && (!scalar r.1 || !([] : List Nat).isEmpty)) with
    | true => rfl
    | false =>
      simp only [backBlks]
      cases E.rm g with
      | none => rfl
      | some j => rfl

theorem callK_pure {E : Env} {C : CallT} {g : FuncId} {args : List AVal} {b : List Blk} {q : Nat} (h : pureArgs E g 0 args = true) : ∃ z : Option AVal, ∀ R (K : AVal → List Blk → Option R), callK (R := R) E C q g args b K = z.bind fun x => K x b := by
  obtain ⟨z, hz⟩ := handAll_pure (b := b) h
  refine ⟨Abs.br (g == apId) none (z.bind fun m => restV E C g args m), fun R K => ?_⟩
  unfold callK
  cases g == apId with
  | true => rfl
  | false =>
    simp only [Abs.br]
    rw [promo_pure h, hz]
    cases z with
    | none => rfl
    | some m => exact rest_eq

theorem callK_blind {E : Env} {C : CallT} {g : FuncId} {args : List AVal} (h : blindArgs E g 0 args = true) : ∃ z : Option AVal, ∀ q b R (K : AVal → List Blk → Option R), callK (R := R) E C q g args b K = z.bind fun x => K x b := by
  obtain ⟨m, hm⟩ := handAll_blind h
  refine ⟨Abs.br (g == apId) none (restV E C g args m), fun q b R K => ?_⟩
  unfold callK
  cases g == apId with
  | true => rfl
  | false =>
    simp only [Abs.br]
    rw [promo_pure (blind_pure h), hm]
    exact rest_eq

theorem loadK_v {P : Program} {t : TypeId} {p : CVal} {b b' : List Blk} {R : Type} {K : AVal → Option R} : loadK P t b (.v p) K = loadK P t b' (.v p) K := rfl
theorem indexAddrK_place {P : Program} {t : TypeId} {x ix : AVal} {b b' : List Blk} {R : Type} {K : AVal → Option R} (h : placeV x = true) : indexAddrK P t b x ix K = indexAddrK P t b' x ix K := by
  cases x with
  | v c => rfl
  | lptr i off => rfl
  | _ => cases h
theorem wSl_closed {x : AVal} {b b' : List Blk} {R : Type} {K : List CVal → Option R} (h : closedV x = true) : wSl b x K = wSl b' x K := by
  cases x with
  | v c => rfl
  | nl => rfl
  | _ => cases h
theorem lenK_closed {P : Program} {t : TypeId} {x : AVal} {b b' : List Blk} {R : Type} {K : AVal → Option R} (h : closedV x = true) : lenK P t b x K = lenK P t b' x K := by
  unfold lenK
  cases P.underlying t with
  | none => rfl
  | some d =>
    cases d with
    | slice e => exact wSl_closed h
    | _ => rfl

theorem opK_bl {E : Env} {C : CallT} {o : Oper} {t : List AVal} {qq : ι → Nat} (hne : Nonempty ι) (h : (blindOp E o t = true) ∨ (roOp E o t = true ∧ ∀ i j, pb i = pb j ∧ qq i = qq j)) :
    Bl pb fun i R K => opK (R := R) E C (qq i) o t (pb i) K := by
  obtain ⟨i0⟩ := hne
  -- that which looks at the blocks, where they are the same
  have same : ∀ {α : Type} {G : List Blk → (R : Type) → (α → Option R) → Option R}, (∀ b, Det (G b)) → (∀ i j R K, G (pb i) R K = G (pb j) R K) → Bl pb fun i R K => G (pb i) R fun x => K x (pb i) := by
    intro α G hd hs
    obtain ⟨z, hz⟩ := hd (pb i0)
    exact ⟨z, fun i R K => (hs i i0 R _).trans (hz R _)⟩
  obtain ⟨dst, op, type, pos, after, guard⟩ := o
  unfold opK
  cases op with
  | move x => exact .pure _
  | assign x => exact .pure _
  | pick c x y =>
    refine .comp wBool_det fun g => ?_
    have dflt : ∀ (p r : AVal), Bl pb fun i R K => Abs.br (R := R) g (K p (pb i)) (K r (pb i)) := fun p r => .br (.pure _) (.pure _)
    generalize evalA t x = p
    generalize evalA t y = r
    cases p with
    | v c =>
      cases r with
      | v c' => exact .pure _
      | _ => exact dflt _ _
    | _ => exact dflt _ _
  | alloc e => simp [blindOp, roOp] at h
  | box e x => simp [blindOp, roOp] at h
  | build ty ps => exact .of1 buildK_det
  | buildSlice ty n ps => simp [blindOp, roOp] at h
  | load ty x =>
    refine same (G := fun b R K => loadK E.P ty b (evalA t x) K) (fun b => loadK_det) fun i j R K => ?_
    rcases h with h | ⟨_, h⟩
    · simp only [blindOp] at h
      split at h
      · rename_i c hc; simp only [hc]; rfl
      · cases h
    · rw [(h i j).1]
  | store ty x y => simp [blindOp, roOp] at h
  | nilCheck x =>
    simp only
    cases evalA t x with
    | lptr i off => exact .pure _
    | lel i ver idx off => exact .pure _
    | v c => exact .bind fun p => .pure _
    | _ => exact .none
  | binOp op xt x y yt =>
    simp only
    cases hd : E.P.underlying xt with
    | none => exact .of1 binK_det
    | some d =>
      cases d with
      | interface ms =>
        cases y with
        | const c => exact .of1 eqK_det
        | _ => exact .none
      | _ => exact .of1 binK_det
  | unOp op xt x => exact .of1 unK_det
  | convert s d x =>
    refine convertK_bl (qq := qq) ?_
    rcases h with h | ⟨_, h⟩
    · simp only [blindOp] at h
      obtain ⟨z, hz⟩ := wSl_det (b := pb i0) (x := evalA t x)
      exact ⟨z, fun i R K => (wSl_closed h).trans (hz R K)⟩
    · obtain ⟨z, hz⟩ := wSl_det (b := pb i0) (x := evalA t x)
      exact ⟨z, fun i R K => by rw [(h i i0).1]; exact hz R K⟩
  | makeFunc fn first caps =>
    cases fn with
    | func g =>
      refine .br ?_ .none
      have hk : E.frz g = none := by
        rcases h with h | ⟨h, _⟩
        · simpa [blindOp, keepsF] using h
        · simpa [roOp, keepsF] using h
      rw [hk]
      simp only
      cases allClosed (caps.toList.map (evalA t)) with
      | none => exact .pure _
      | some cs => exact .pure _
    | _ => exact .none
  | makeSlice ty n m => simp [blindOp, roOp] at h
  | slice ty x lo hi mx =>
    refine sliceK_bl ?_
    rcases h with h | ⟨h, _⟩
    · simpa [blindOp] using h
    · simpa [roOp] using h
  | fieldAddr ty x f => exact .of1 fieldK_det
  | indexAddr ty x ix =>
    refine same (G := fun b R K => indexAddrK E.P ty b (evalA t x) (evalA t ix) K) (fun b => indexAddrK_det) fun i j R K => ?_
    rcases h with h | ⟨_, h⟩
    · exact indexAddrK_place (by simpa [blindOp] using h)
    · rw [(h i j).1]
  | index ty x ix => exact .of1 indexK_det
  | extract x i =>
    simp only
    cases evalA t x with
    | v c => exact .bind fun cs => .bind fun d => .pure _
    | tup cs => exact .bind fun d => .pure _
    | _ => exact .none
  | call c =>
    have calls : ∀ (g : FuncId) (args : List AVal), (blindArgs E g 0 args = true ∨ (pureArgs E g 0 args = true ∧ ∀ i j, pb i = pb j ∧ qq i = qq j)) → Bl pb fun i R K => callK (R := R) E C (qq i) g args (pb i) K := by
      intro g args h
      rcases h with h | ⟨h, hs⟩
      · obtain ⟨z, hz⟩ := callK_blind (C := C) h
        exact ⟨z, fun i R K => hz (qq i) (pb i) R K⟩
      · obtain ⟨z, hz⟩ := callK_pure (C := C) (b := pb i0) (q := qq i0) h
        refine ⟨z, fun i R K => ?_⟩
        have e1 := (hs i i0).1
        have e2 := (hs i i0).2
        show callK E C (qq i) g args (pb i) K = _
        rw [e1, e2]; exact hz R K
    have gen : ∀ f : Operand, ((match evalA t f with
          | .v d => blindV E d (c.args.toList.map (evalA t))
          | .func g caps => blindArgs E g 0 (c.args.toList.map (evalA t) ++ caps)
          | _ => false) = true ∨ (match evalA t f with
          | .v d => pureV E d (c.args.toList.map (evalA t))
          | .func g caps => pureArgs E g 0 (c.args.toList.map (evalA t) ++ caps)
          | _ => false) = true ∧ ∀ i j, pb i = pb j ∧ qq i = qq j) → Bl pb fun i R K => (match evalA t f with
          | .v d => callV (R := R) E C (qq i) d (c.args.toList.map (evalA t)) (pb i) K
          | .func g caps => callK E C (qq i) g (c.args.toList.map (evalA t) ++ caps) (pb i) K
          | _ => none) := by
      intro f h
      cases hf : evalA t f with
      | v c' =>
        rw [hf] at h
        simp only [callV]
        cases hall : allV (c.args.toList.map (evalA t)) with
        | some cs => exact .bind fun r => .pure _
        | none =>
          cases c' with
          | func g caps =>
            simp only [pureV, blindV, hall] at h
            exact calls _ _ h
          | _ => exact .none
      | func g caps => rw [hf] at h; exact calls _ _ h
      | _ => exact .none
    simp only [blindOp, roOp] at h
    simp only
    cases hc : c.callee with
    | value f =>
      rw [hc] at h
      cases f with
      | func g => exact calls _ _ h
      | tmp i => exact gen (.tmp i) h
      | const x => exact gen (.const x) h
      | global x => exact gen (.global x) h
    | invoke x m => exact .none
    | builtin bi =>
      rw [hc] at h
      cases bi with
      | len =>
        simp only at h ⊢
        split
        · rename_i x ty rest hx hty
          refine same (G := fun b R K => lenK E.P ty b (evalA t x) K) (fun b => lenK_det) fun i j R K => ?_
          rcases h with h | ⟨_, h⟩
          · rw [hx] at h; exact lenK_closed h
          · rw [(h i j).1]
        · exact .none
      | append => simp at h
      | max =>
        simp only
        generalize c.args.toList = args
        match args with
        | [x, y] => exact .bind fun k => .comp wInt_det fun m => .comp wInt_det fun n => .pure _
        | [] => exact .none
        | [_] => exact .none
        | _ :: _ :: _ :: _ => exact .none
      | min =>
        simp only
        generalize c.args.toList = args
        match args with
        | [x, y] => exact .bind fun k => .comp wInt_det fun m => .comp wInt_det fun n => .pure _
        | [] => exact .none
        | [_] => exact .none
        | _ :: _ :: _ :: _ => exact .none
      | _ => exact .none
  | _ => exact .none
end
end Go.Proofs.Ytlgonbonnjkekaa.Abs

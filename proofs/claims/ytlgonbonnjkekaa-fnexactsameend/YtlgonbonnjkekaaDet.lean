/- What follows an operation does not bear on it: each is a value or nothing, and then what follows. -/
import Derived.Test.YtlgonbonnjkekaaCallV
set_option linter.unusedVariables false
set_option linter.unusedSectionVars false
set_option linter.unusedSimpArgs false
namespace Go.Proofs.Ytlgonbonnjkekaa.Abs
open Go

def Det {α : Type} (F : (R : Type) → (α → Option R) → Option R) : Prop := ∃ o : Option α, ∀ R K, F R K = o.bind K
def Det2 {α β : Type} (F : (R : Type) → (α → β → Option R) → Option R) : Prop := ∃ o : Option (α × β), ∀ R K, F R K = o.bind fun p => K p.1 p.2

section
variable {α β γ : Type}
theorem Det.pure (x : α) : Det fun R K => K x := ⟨some x, fun _ _ => rfl⟩
theorem Det.none : Det (α := α) fun R K => Option.none := ⟨Option.none, fun _ _ => rfl⟩
theorem Det.br {b : Bool} {F G : (R : Type) → (α → Option R) → Option R} (h : Det F) (k : Det G) : Det fun R K => Abs.br b (F R K) (G R K) := by
  cases b
  · exact k
  · exact h
theorem Det.bind {x : Option γ} {F : γ → (R : Type) → (α → Option R) → Option R} (h : ∀ c, Det (F c)) : Det fun R K => x.bind fun c => F c R K := by
  cases x with
  | none => exact .none
  | some c => exact h c
theorem Det.comp {G : (R : Type) → (γ → Option R) → Option R} {F : γ → (R : Type) → (α → Option R) → Option R} (g : Det G) (h : ∀ c, Det (F c)) : Det fun R K => G R fun c => F c R K := by
  obtain ⟨o, ho⟩ := g
  cases o with
  | none => exact ⟨Option.none, fun R K => ho R _⟩
  | some c =>
    obtain ⟨o', ho'⟩ := h c
    exact ⟨o', fun R K => (ho R _).trans (ho' R K)⟩
theorem Det.comp2 {δ : Type} {G : (R : Type) → (γ → δ → Option R) → Option R} {F : γ → δ → (R : Type) → (α → Option R) → Option R} (g : Det2 G) (h : ∀ c d, Det (F c d)) : Det fun R K => G R fun c d => F c d R K := by
  obtain ⟨o, ho⟩ := g
  cases o with
  | none => exact ⟨Option.none, fun R K => ho R _⟩
  | some c =>
    obtain ⟨o', ho'⟩ := h c.1 c.2
    exact ⟨o', fun R K => (ho R _).trans (ho' R K)⟩

theorem Det2.pure (x : α) (y : β) : Det2 fun R K => K x y := ⟨some (x, y), fun _ _ => rfl⟩
theorem Det2.none : Det2 (α := α) (β := β) fun R K => Option.none := ⟨Option.none, fun _ _ => rfl⟩
theorem Det2.br {b : Bool} {F G : (R : Type) → (α → β → Option R) → Option R} (h : Det2 F) (k : Det2 G) : Det2 fun R K => Abs.br b (F R K) (G R K) := by
  cases b
  · exact k
  · exact h
theorem Det2.bind {x : Option γ} {F : γ → (R : Type) → (α → β → Option R) → Option R} (h : ∀ c, Det2 (F c)) : Det2 fun R K => x.bind fun c => F c R K := by
  cases x with
  | none => exact .none
  | some c => exact h c
theorem Det2.comp {G : (R : Type) → (γ → Option R) → Option R} {F : γ → (R : Type) → (α → β → Option R) → Option R} (g : Det G) (h : ∀ c, Det2 (F c)) : Det2 fun R K => G R fun c => F c R K := by
  obtain ⟨o, ho⟩ := g
  cases o with
  | none => exact ⟨Option.none, fun R K => ho R _⟩
  | some c =>
    obtain ⟨o', ho'⟩ := h c
    exact ⟨o', fun R K => (ho R _).trans (ho' R K)⟩
theorem Det2.comp2 {δ : Type} {G : (R : Type) → (γ → δ → Option R) → Option R} {F : γ → δ → (R : Type) → (α → β → Option R) → Option R} (g : Det2 G) (h : ∀ c d, Det2 (F c d)) : Det2 fun R K => G R fun c d => F c d R K := by
  obtain ⟨o, ho⟩ := g
  cases o with
  | none => exact ⟨Option.none, fun R K => ho R _⟩
  | some c =>
    obtain ⟨o', ho'⟩ := h c.1 c.2
    exact ⟨o', fun R K => (ho R _).trans (ho' R K)⟩
end

variable {P : Program} {b : List Blk}

theorem wInt_det {k : IntKind} {x : AVal} : Det fun R K => wInt k x K := by
  cases x with
  | v c => exact .bind fun n => .pure n
  | _ => exact .none
theorem wIdx_det {x : AVal} : Det fun R K => wIdx x K := by
  cases x with
  | v c => exact .bind fun n => .pure n
  | _ => exact .none
theorem wBool_det {x : AVal} : Det fun R K => wBool x K := by
  cases x with
  | v c => exact .bind fun n => .pure n
  | _ => exact .none
theorem wStr_det {x : AVal} : Det fun R K => wStr x K := by
  cases x with
  | v c => exact .bind fun n => .pure n
  | _ => exact .none
theorem wSl_det {x : AVal} : Det fun R K => wSl b x K := by
  cases x with
  | v c => exact .bind fun n => .pure n
  | nl => exact .pure _
  | lref i ver => exact .bind fun n => .pure n
  | _ => exact .none
theorem explodeC_det {c : CVal} : ∀ {n i : Nat}, Det fun R K => explodeC (R := R) c i n K
  | 0, i => .pure _
  | n + 1, i => .bind fun x => explodeC_det.comp fun xs => .pure _
theorem explodeL_det {l : List CVal} : ∀ {n i : Nat}, Det fun R K => explodeL (R := R) l i n K
  | 0, i => .pure _
  | n + 1, i => .bind fun x => explodeL_det.comp fun xs => .pure _
theorem wCells_det {agg : Bool} {n : Nat} {x : AVal} : Det fun R K => wCells (R := R) agg n x K := by
  unfold wCells
  refine .br ?_ ?_
  · cases x with
    | agg cs => exact .br (.pure _) .none
    | v c => exact .br (explodeC_det.comp fun xs => .pure _) .none
    | _ => exact .none
  · cases x with
    | agg cs => exact .none
    | tup cs => exact .none
    | un => exact .none
    | v c => exact .br (.pure _) .none
    | _ => exact .br (.pure _) .none
theorem loadK_det {t : TypeId} {x : AVal} : Det fun R K => loadK (R := R) P t b x K := by
  unfold loadK
  cases P.underlying t with
  | none => exact .none
  | some d =>
    cases x with
    | lptr i off => exact .bind fun cs => .br (.br (.pure _) .none) (.bind fun _ => .pure _)
    | lel i ver idx off => exact .bind fun xs => .bind fun c => .br (.bind fun d => .pure _) (.bind fun d => .pure _)
    | v p => exact .bind fun q => .br (.bind fun d => .pure _) (.bind fun d => .pure _)
    | _ => exact .none
theorem storeK_det {t : TypeId} {x y : AVal} : Det fun R K => storeK (R := R) P t b x y K := by
  unfold storeK
  cases P.underlying t with
  | none => exact .none
  | some d =>
    cases x with
    | lptr i off => exact .bind fun cs => wCells_det.comp fun l => .br (.pure _) .none
    | lel i ver idx off => exact .bind fun d => .bind fun xs => .bind fun c => .br (.br (.pure _) (.br (.pure _) .none)) .none
    | _ => exact .none
theorem fieldK_det {t : TypeId} {x : AVal} {f : Nat} : Det fun R K => fieldK (R := R) P t x f K := by
  unfold fieldK
  cases P.underlying t with
  | none => exact .none
  | some d =>
    cases d with
    | struct fs =>
      simp only
      cases fs[f]? with
      | none => exact .none
      | some fd =>
        refine .br .none ?_
        cases x with
        | lptr i off => exact .pure _
        | lel i ver idx off => exact .pure _
        | v p => exact .bind fun q => .pure _
        | _ => exact .none
    | _ => exact .none
theorem indexAddrK_det {t : TypeId} {x ix : AVal} : Det fun R K => indexAddrK (R := R) P t b x ix K := by
  unfold indexAddrK
  cases P.underlying t with
  | none => exact .none
  | some d =>
    cases d with
    | slice e =>
      refine wIdx_det.comp fun n => .br ?_ .none
      cases x with
      | lref i ver => exact .bind fun xs => .br (.pure _) .none
      | v c => exact .bind fun xs => .bind fun d => .br (.pure _) .none
      | _ => exact .none
    | array len e =>
      refine wIdx_det.comp fun n => .br ?_ .none
      cases x with
      | lptr i off => exact .pure _
      | lel i ver idx off => exact .pure _
      | v p => exact .bind fun q => .pure _
      | _ => exact .none
    | _ => exact .none
theorem indexK_det {t : TypeId} {x ix : AVal} : Det fun R K => indexK (R := R) P t x ix K := by
  unfold indexK
  cases P.underlying t with
  | none => exact .none
  | some d =>
    cases d with
    | string => exact wIdx_det.comp fun n => wStr_det.comp fun s => .br (.bind fun c => .pure _) .none
    | array len e =>
      refine wIdx_det.comp fun n => .br ?_ .none
      cases x with
      | v c => exact .br (.bind fun d => .pure _) .none
      | _ => exact .none
    | _ => exact .none
theorem wOpt_det {x : Option AVal} {d : Int} : Det fun R K => wOpt (R := R) x d K := by
  cases x with
  | none => exact .pure _
  | some a => exact wIdx_det
theorem sliceK_det {t : TypeId} {x : AVal} {lo hi mx : Option AVal} : Det2 fun R K => sliceK (R := R) P t b x lo hi mx K := by
  unfold sliceK
  cases mx with
  | some _ => exact .none
  | none =>
    simp only
    cases P.underlying t with
    | none => exact .none
    | some d =>
      cases d with
      | string => exact .comp wStr_det fun s => .comp wOpt_det fun h => .comp wOpt_det fun l => .br (.pure _ _) .none
      | slice e =>
        refine .br ?_ .none
        cases x with
        | v c => exact .bind fun xs => .comp wOpt_det fun h => .comp wOpt_det fun l => .br (.pure _ _) .none
        | nl => exact .comp wOpt_det fun h => .comp wOpt_det fun l => .br (.pure _ _) .none
        | lref i ver =>
          refine .bind fun xs => ?_
          cases lo with
          | none => exact .comp wOpt_det fun h => .br (.pure _ _) .none
          | some _ => exact .none
        | _ => exact .none
      | _ => exact .none
theorem appendK_det {q : Nat} {ty ty2 : TypeId} {s x : AVal} : Det2 fun R K => appendK (R := R) P q b ty ty2 s x K := by
  unfold appendK
  cases P.underlying ty with
  | none => exact .none
  | some d =>
    cases d with
    | slice e =>
      refine .br ?_ .none
      cases s with
      | nl => exact .comp wSl_det fun ys => .br (.pure _ _) .none
      | lref i ver => exact .bind fun xs => .comp wSl_det fun ys => .br (.pure _ _) .none
      | _ => exact .none
    | _ => exact .none
theorem buildSliceK_det {q : Nat} {t : TypeId} {len : Nat} {parts : List (Nat × AVal)} : Det2 fun R K => buildSliceK (R := R) P q t len parts b K := by
  unfold buildSliceK
  cases P.underlying t with
  | none => exact .none
  | some d =>
    cases d with
    | slice e =>
      refine .bind fun l => .br ?_ .none
      cases len with
      | zero => exact .pure _ _
      | succ n => exact .bind fun cs => .br (.pure _ _) .none
    | _ => exact .none
theorem fillK_det {fs : Array Field} : ∀ {parts : List (Nat × AVal)} {cs : List AVal}, Det fun R K => fillK (R := R) P fs parts cs K
  | [], cs => .pure _
  | (i, x) :: r, cs => by
    unfold fillK
    cases fs[i]? with
    | none => exact .none
    | some f => exact wCells_det.comp fun l => .br fillK_det .none
theorem fillArrK_det {agg : Bool} {sz : Nat} : ∀ {parts : List (Nat × AVal)} {cs : List AVal}, Det fun R K => fillArrK (R := R) agg sz parts cs K
  | [], cs => .pure _
  | (i, x) :: r, cs => wCells_det.comp fun l => .br fillArrK_det .none
theorem buildK_det {t : TypeId} {parts : List (Nat × AVal)} : Det fun R K => buildK (R := R) P t parts K := by
  unfold buildK
  refine .bind fun z => wCells_det.comp fun cs => ?_
  cases P.underlying t with
  | none => exact .none
  | some d =>
    cases d with
    | struct fs => exact .br (fillK_det.comp fun l => .pure _) .none
    | array n e => exact .br (fillArrK_det.comp fun l => .pure _) .none
    | _ => exact .none
theorem makeSliceK_det {q : Nat} {t : TypeId} {x y : AVal} : Det2 fun R K => makeSliceK (R := R) P q t x y b K := by
  unfold makeSliceK
  cases P.underlying t with
  | none => exact .none
  | some d =>
    cases d with
    | slice e => exact .comp wIdx_det fun n => .comp wIdx_det fun m => .br (.bind fun z => .bind fun c => .br (.pure _ _) .none) .none
    | _ => exact .none
theorem convertK_det {q : Nat} {src dst : TypeId} {x : AVal} : Det2 fun R K => convertK (R := R) P q src dst x b K := by
  unfold convertK
  cases P.underlying src with
  | none => exact .none
  | some d1 =>
    cases P.underlying dst with
    | none => cases d1 <;> exact .none
    | some d2 =>
      cases d1 <;> cases d2 <;> first
        | exact .none
        | exact .comp wInt_det fun n => .pure _ _
        | exact .comp wStr_det fun s => .pure _ _
        | skip
      · rename_i e
        simp only
        cases P.underlying e with
        | none => exact .none
        | some d3 =>
          cases d3 with
          | int k =>
            cases k <;> first
              | exact .none
              | exact .comp wStr_det fun s => .br (.pure _ _) .none
          | _ => exact .none
      · rename_i e
        simp only
        cases P.underlying e with
        | none => exact .none
        | some d3 =>
          cases d3 with
          | int k =>
            cases k <;> first
              | exact .none
              | exact .comp wSl_det fun xs => .bind fun s => .pure _ _
          | _ => exact .none
theorem wAgg_det {x : AVal} : Det fun R K => wAgg (R := R) x K := by
  cases x with
  | v c => exact ⟨c.asAgg, fun _ _ => rfl⟩
  | _ => exact .none
theorem binK_det {op : BinOp} {xt yt : TypeId} {x y : AVal} : Det fun R K => binK (R := R) P op xt x y yt K := by
  unfold binK
  cases P.underlying xt with
  | none => exact .none
  | some d =>
    cases d with
    | int k => exact .br (wInt_det.comp fun a => wIdx_det.comp fun b => .bind fun c => .pure _) (wInt_det.comp fun a => wInt_det.comp fun b => .bind fun c => .pure _)
    | string =>
      refine wStr_det.comp fun a => wStr_det.comp fun b => ?_
      cases op with
      | add => exact .br (.pure _) .none
      | eql => exact .pure _
      | neq => exact .pure _
      | lss => exact .pure _
      | _ => exact .none
    | bool =>
      refine wBool_det.comp fun a => wBool_det.comp fun b => ?_
      cases op with
      | eql => exact .pure _
      | neq => exact .pure _
      | _ => exact .none
    | struct fs =>
      refine .br .none (wAgg_det.comp fun a => wAgg_det.comp fun b => .bind fun z => ?_)
      cases op with
      | eql => exact .pure _
      | neq => exact .pure _
      | _ => exact .none
    | _ => exact .none
theorem eqK_det {op : BinOp} {xt : TypeId} {x y : AVal} : Det fun R K => eqK (R := R) P op xt x y K := by
  unfold eqK
  cases P.underlying xt with
  | none => exact .none
  | some d =>
    cases d with
    | interface ms =>
      cases x with
      | v c =>
        cases y with
        | v c' => cases c <;> cases c' <;> first | exact .none | (cases op <;> first | exact .none | exact .pure _)
        | _ => cases c <;> exact .none
      | _ => exact .none
    | _ => exact .none
theorem unK_det {op : UnOp} {xt : TypeId} {x : AVal} : Det fun R K => unK (R := R) P op xt x K := by
  unfold unK
  cases op with
  | not => exact wBool_det.comp fun b => .pure _
  | neg => exact .bind fun k => wInt_det.comp fun n => .pure _
  | _ => exact .none
theorem lenK_det {t : TypeId} {x : AVal} : Det fun R K => lenK (R := R) P t b x K := by
  unfold lenK
  cases P.underlying t with
  | none => exact .none
  | some d =>
    cases d with
    | string => exact wStr_det.comp fun s => .pure _
    | slice e => exact wSl_det.comp fun s => .pure _
    | array n e => exact .pure _
    | _ => exact .none

/-! Calls. -/
theorem promo_det {E : Env} {g : FuncId} {q : Nat} : ∀ (args : List AVal) {used : Bool} {j : Nat} {b : List Blk}, Det2 fun R K => promo (R := R) E g q used j args b K
  | [], _, _, b => .pure _ _
  | x :: r, used, j, b => by
    have rest : Det2 fun R K => promo (R := R) E g q used (j + 1) r b fun l b => K (x :: l) b := .comp2 (promo_det r (used := used) (j := j + 1) (b := b)) fun l b => .pure _ _
    cases x with
    | nl => exact .br (.br .none (.comp2 (promo_det r (used := true) (j := j + 1) (b := putNew b q ⟨0, .arr (szParam E.P g j) []⟩)) fun l b => .pure _ _)) rest
    | _ => exact rest
theorem handPtr_det {h : Hand} {i : Nat} : Det2 fun R K => handPtr (R := R) h i K := by
  unfold handPtr
  cases idxOf h.ids i with
  | none => exact .pure _ _
  | some j => exact .pure _ _
theorem handCaps_det : ∀ (caps : List AVal) {h : Hand}, Det2 fun R K => handCaps (R := R) caps h K
  | [], h => .pure _ _
  | x :: r, h => by
    cases x with
    | v c =>
      have : Det2 fun R K => handCaps (R := R) r h fun l h => K (.v c :: l) h := .comp2 (handCaps_det r) fun l h => .pure _ _
      exact this
    | lptr i off =>
      cases off with
      | zero =>
        have : Det2 fun R K => handPtr (R := R) h i fun a h => handCaps r h fun l h => K (a :: l) h :=
          .comp2 (G := fun R K => handPtr (R := R) h i K) handPtr_det fun a h => .comp2 (G := fun R K => handCaps (R := R) r h K) (handCaps_det r) fun l h => .pure _ _
        exact this
      | succ n => exact .none
    | _ => exact .none
theorem handA_det {m : PM} {x : AVal} {h : Hand} : Det2 fun R K => handA (R := R) m x h K := by
  cases x with
  | v c => exact .pure _ _
  | nl => exact .pure _ _
  | lref i ver =>
    refine .bind fun xs => ?_
    cases m with
    | pass =>
      simp only
      cases idxOf h.ids i with
      | none => exact .pure _ _
      | some _ => exact .none
    | bor => exact .pure _ _
    | cls => exact .pure _ _
  | lptr i off =>
    cases off with
    | zero => exact handPtr_det
    | succ n => exact .none
  | func g caps =>
    have : Det2 (α := AVal) fun R K => handCaps (R := R) caps h fun l h => K (.func g l) h := .comp2 (handCaps_det caps) fun l h => .pure _ _
    exact this
  | agg cs => exact .bind fun l => .pure _ _
  | _ => exact .none
theorem handAll_det {pm : Nat → PM} : ∀ {args : List AVal} {j : Nat} {h : Hand}, Det fun R K => handAll (R := R) pm j args h K
  | [], j, h => .pure _
  | x :: r, j, h => .comp2 handA_det fun a h => handAll_det
theorem handBlks_det : ∀ {ids : List Nat} {b : List Blk}, Det2 fun R K => handBlks (R := R) ids b K
  | [], b => .pure _ _
  | i :: r, b => by
    unfold handBlks
    cases b[i]? with
    | none => exact .none
    | some blk =>
      obtain ⟨ver, bd⟩ := blk
      cases bd with
      | arr sz xs => exact .comp2 handBlks_det fun l b => .pure _ _
      | box cs => exact .bind fun xs => .comp2 handBlks_det fun l b => .pure _ _
      | dead => exact .none
theorem backBlks_det : ∀ {ids : List Nat} {ls : List (List CVal)} {j : Nat} {b : List Blk}, Det fun R K => backBlks (R := R) ids ls j b K
  | [], ls, j, b => .pure _
  | i :: r, ls, j, b => by
    unfold backBlks
    refine .bind fun l => ?_
    cases b[i]? with
    | none => exact .none
    | some blk =>
      obtain ⟨ver, bd⟩ := blk
      cases bd with
      | arr sz xs => exact backBlks_det
      | box cs => exact .br (explodeL_det.comp fun xs => backBlks_det) .none
      | dead => exact .none
theorem callK_det {E : Env} {C : CallT} {q : Nat} {g : FuncId} {args : List AVal} : Det2 fun R K => callK (R := R) E C q g args b K := by
  unfold callK
  refine .br .none <| .comp2 (promo_det args) fun args1 b1 => .comp handAll_det fun h => .comp2 handBlks_det fun pbs b3 => .br (.bind fun r => .br .none (.comp backBlks_det fun b4 => ?_)) .none
  cases E.rm g with
  | none => exact .pure _ _
  | some j =>
    simp only
    cases h.ids[j]? with
    | none => exact .none
    | some i => exact .pure _ _

theorem callV_det {E : Env} {C : CallT} {q : Nat} {c : CVal} {args : List AVal} : Det2 fun R K => callV (R := R) E C q c args b K := by
  unfold callV
  cases allV args with
  | some cs => exact .bind fun r => .pure _ _
  | none =>
    cases c with
    | func g caps => exact callK_det
    | _ => exact .none

/-! Captured values. -/
theorem closeRK_det {agg : Bool} {x : AVal} {b : List Blk} : Det2 fun R K => closeRK (R := R) b agg x K := by
  have other : ∀ x : AVal, Det2 fun R (K : CVal → List Blk → Option R) => (closeA b x).bind fun c => K c (killA x b) := fun x => .bind fun c => .pure _ _
  cases x with
  | lptr i off =>
    cases off with
    | zero =>
      have : Det2 fun R (K : CVal → List Blk → Option R) => (boxOf b i).bind fun cs => (closeL b cs).bind fun xs => br (agg || decide (cs.length = 1)) (K (packFp agg xs) (kill (killL cs b) i)) none :=
        .bind fun cs => .bind fun xs => .br (.pure _ _) .none
      exact this
    | succ n => exact other (.lptr i (n + 1))
  | v c => exact other (.v c)
  | nl => exact other .nl
  | lel i ver idx off => exact other (.lel i ver idx off)
  | lref i ver => exact other (.lref i ver)
  | agg cs => exact other (.agg cs)
  | func g cs => exact other (.func g cs)
  | tup cs => exact other (.tup cs)
  | un => exact other .un
theorem closeCapsK_det : ∀ {caps : List AVal} {ags : List Bool} {b : List Blk}, Det2 fun R K => closeCapsK (R := R) b ags caps K
  | [], ags, b => by
    have : Det2 fun R (K : List CVal → List Blk → Option R) => K [] b := .pure _ _
    cases ags <;> exact this
  | x :: r, [], b => .none
  | x :: r, ag :: ags, b => by
    have : Det2 fun R (K : List CVal → List Blk → Option R) => closeRK b ag x fun c b => closeCapsK b ags r fun cs b => K (c :: cs) b :=
      .comp2 (G := fun R K => closeRK (R := R) b ag x K) closeRK_det fun c b => .comp2 (G := fun R K => closeCapsK (R := R) b ags r K) closeCapsK_det fun cs b => .pure _ _
    exact this

/-! Operations. -/
theorem Det2.of1 {α β : Type} {y : β} {F : (R : Type) → (α → Option R) → Option R} (h : Det F) : Det2 fun R K => F R fun x => K x y := .comp h fun x => .pure _ _

theorem opK_det {E : Env} {C : CallT} {q : Nat} {o : Oper} {t : List AVal} : Det2 fun R K => opK (R := R) E C q o t b K := by
  unfold opK
  cases o.op with
  | move x => exact .pure _ _
  | assign x => exact .pure _ _
  | pick c x y =>
    refine .comp wBool_det fun g => ?_
    have dflt : ∀ (p r : AVal), Det2 fun R K => br (R := R) g (K p b) (K r b) := fun p r => .br (.pure _ _) (.pure _ _)
    generalize evalA t x = p
    generalize evalA t y = r
    cases p with
    | v c =>
      cases r with
      | v c' => exact .pure _ _
      | _ => exact dflt _ _
    | _ => exact dflt _ _
  | alloc e => exact .bind fun z => .comp wCells_det fun cs => .pure _ _
  | box e x =>
    refine .comp wCells_det fun cs => ?_
    cases E.frzB o with
    | none => exact .pure _ _
    | some ag => exact .comp2 (G := fun R K => closeRK (R := R) (putNew b q ⟨0, .box cs⟩) ag (.lptr q 0) K) closeRK_det fun c b => .pure _ _
  | build ty ps => exact .of1 buildK_det
  | buildSlice ty n ps => exact buildSliceK_det
  | load ty x => exact .of1 loadK_det
  | store ty x y => exact .comp (G := fun R K => storeK (R := R) E.P ty b (evalA t x) (evalA t y) K) storeK_det fun b => .pure _ _
  | nilCheck x =>
    simp only
    cases evalA t x with
    | lptr i off => exact .pure _ _
    | lel i ver idx off => exact .pure _ _
    | v c => exact .bind fun p => .pure _ _
    | _ => exact .none
  | binOp op xt x y yt =>
    simp only
    cases hd : E.P.underlying xt with
    | none => exact .of1 binK_det
    | some d =>
      cases d with
      | interface ms =>
        cases y with
        | const c => exact .of1 eqK_det
        | _ => exact .none
      | _ => exact .of1 binK_det
  | unOp op xt x => exact .of1 unK_det
  | convert s d x => exact convertK_det
  | makeFunc fn first caps =>
    cases fn with
    | func g =>
      refine .br ?_ .none
      cases E.frz g with
      | some ags => exact .comp2 (G := fun R K => closeCapsK (R := R) b ags (caps.toList.map (evalA t)) K) closeCapsK_det fun cs b => .pure _ _
      | none =>
        simp only
        cases allClosed (caps.toList.map (evalA t)) with
        | none => exact .pure _ _
        | some cs => exact .pure _ _
    | _ => exact .none
  | makeSlice ty n m => exact makeSliceK_det
  | slice ty x lo hi mx => exact sliceK_det
  | fieldAddr ty x f => exact .of1 fieldK_det
  | indexAddr ty x ix => exact .of1 indexAddrK_det
  | index ty x ix => exact .of1 indexK_det
  | extract x i =>
    simp only
    cases evalA t x with
    | v c => exact .bind fun cs => .bind fun d => .pure _ _
    | tup cs => exact .bind fun d => .pure _ _
    | _ => exact .none
  | call c =>
    simp only
    cases c.callee with
    | value f =>
      have gen : Det2 fun R (K : AVal → List Blk → Option R) => (match evalA t f with
          | .v d => callV E C q d (c.args.toList.map (evalA t)) b K
          | .func g caps => callK E C q g (c.args.toList.map (evalA t) ++ caps) b K
          | _ => none : Option R) := by
        cases evalA t f with
        | v c' => exact callV_det
        | func g caps => exact callK_det
        | _ => exact .none
      cases f with
      | func g => exact callK_det
      | _ => exact gen
    | invoke x m => exact .none
    | builtin bi =>
      generalize c.args.toList = args
      generalize c.argTypes.toList = tys
      cases bi with
      | len =>
        match args, tys with
        | [x], ty :: _ => exact .of1 lenK_det
        | [], _ => exact .none
        | _ :: _ :: _, _ => exact .none
        | [_], [] => exact .none
      | append =>
        match args, tys with
        | [x, y], [ty, ty2] => exact appendK_det
        | [], _ => exact .none
        | [_], _ => exact .none
        | _ :: _ :: _ :: _, _ => exact .none
        | [_, _], [] => exact .none
        | [_, _], [_] => exact .none
        | [_, _], _ :: _ :: _ :: _ => exact .none
      | max =>
        match args with
        | [x, y] => exact .bind fun k => .comp wInt_det fun m => .comp wInt_det fun n => .pure _ _
        | [] => exact .none
        | [_] => exact .none
        | _ :: _ :: _ :: _ => exact .none
      | min =>
        match args with
        | [x, y] => exact .bind fun k => .comp wInt_det fun m => .comp wInt_det fun n => .pure _ _
        | [] => exact .none
        | [_] => exact .none
        | _ :: _ :: _ :: _ => exact .none
      | _ => exact .none
  | _ => exact .none
end Go.Proofs.Ytlgonbonnjkekaa.Abs

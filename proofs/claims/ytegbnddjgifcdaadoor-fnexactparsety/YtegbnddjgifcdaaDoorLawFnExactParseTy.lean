/- The law FnExactParseTy returns true, whatever the input, and leaves its arguments as they were. -/
import Derived.Test.YtegbnddjgifcdaaDoorParseLaw
import Derived.Deep.DeepHandedRow
import Derived.Stop.LaidErr
import Derived.Lib.LaidTab
import Derived.SevenTiedAt
import Derived.Test.YtegbnddjgifcdaaDoorCards
import Derived.Test.YtegbnddjgifcdaaDoorTie
import Derived.Test.YtegbnddjgifcdaaDoorBack
import Derived.Test.YtegbnddjgifcdaaDoorRows
import Derived.WalkKit
import Derived.ProofKit
import Derived.OpenShut
import Derived.ChangeOld
import Derived.Below
import Derived.SizedLaws
set_option linter.unusedVariables false
set_option maxRecDepth 100000
set_option linter.unusedSectionVars false
set_option linter.unusedSimpArgs false
namespace Go.Proofs.YtegbnddjgifcdaaDoor.Abs
open Go Go.Proofs

theorem wt_list {α : Type} {p : α → Prop} {enc : α → CVal} {n : Nat} {l e : TypeId} {cs : List CVal} (ha : aggT Tryd.prog e = true) (hl : Tryd.prog.underlying l = some (.slice e)) (hr : ∀ {cs}, WT Tryd.prog n e cs → ∃ t : α, p t ∧ enc t = .agg cs)
    (h : WT Tryd.prog (n + 1) l cs) : ∃ ts : List α, (ts.length ≤ maxLen ∧ ∀ t ∈ ts, p t) ∧ cs = [.sl (ts.map enc)] := by
  unfold WT at h
  rw [hl] at h
  obtain ⟨xs, rfl, hlen, hall⟩ := h
  have each : ∀ x ∈ xs, ∃ t : α, p t ∧ enc t = x := by
    intro x hx
    obtain ⟨hf, hw⟩ := hall x hx
    obtain ⟨t, ht, he⟩ := hr hw
    rw [ha] at hf
    refine ⟨t, ht, ?_⟩
    cases x with
    | agg cs => exact he
    | _ => simp [CVal.fits, CVal.isAggN] at hf
  have lift : ∀ l : List CVal, (∀ x ∈ l, ∃ t : α, p t ∧ enc t = x) → ∃ ts : List α, ts.map enc = l ∧ ∀ t ∈ ts, p t := by
    intro l
    induction l with
    | nil => exact fun _ => ⟨[], rfl, by simp⟩
    | cons x r ih =>
      intro h
      obtain ⟨t, ht, he⟩ := h x (by simp)
      obtain ⟨ts, hts, hw⟩ := ih fun y hy => h y (by simp [hy])
      exact ⟨t :: ts, by simp [he, hts], fun u hu => by rcases List.mem_cons.1 hu with e | e; subst e; exact ht; exact hw u e⟩
  obtain ⟨ts, rfl, hw⟩ := lift xs each
  exact ⟨ts, ⟨by simpa using hlen, hw⟩, rfl⟩

open Go.ChangeShapes Go.WideShapes Go.ChangeAt Go.RowKit
open Go.Proofs.YtegbnddjgifcdaaDoor (Rows.fnExactParseTySpec Rows.fnExactParseTyRow)
theorem own : ownKnob Tryd.prog.godebug = none := by kernel_rfl
theorem goodOk : ([9] : List TypeId).all (goodT Tryd.prog [9]) = true := by kernel_rfl
theorem arg_string {W : World} {H : Type} {enc : TypeId × Value → H} {r : Reach} {base : Nat} {v : Value} {d : DataW H} {p : List MemPlace} (h : DataW.Trod enc Tryd.prog W 0 (fun _ => true) true 9 v d p) (hv : Value.okWide Tryd.prog W r base 9 v) :
    ∃ t : List UInt8, t.length ≤ maxLen ∧ CRel (fun _ => False) W (.str t) v := by
  obtain ⟨n, h⟩ := h
  obtain ⟨i, rfl⟩ := okWide_string Tryd.underlying9 hv
  obtain ⟨ccs, hr, hw⟩ := trod_wt goodOk n (by rfl) h
  cases n with
  | zero => exact hw.elim
  | succ n =>
    unfold WT at hw
    rw [Tryd.underlying9] at hw
    obtain ⟨j, rfl, wf⟩ := hw
    obtain ⟨u, us, e, hu, _⟩ := hr
    have e1 : u = .string ⟨j.toArray⟩ := hu
    subst e1
    simp [Value.cells] at e
    obtain ⟨rfl, _⟩ := e
    exact ⟨j, wf, rfl⟩

/-- A table's cells. -/
def valsOf : DataW Unit → Array Value
  | .agg xs => (xs.flatMap fun | .lit (.int k n) => [Value.int k n] | .agg ys => (ys.map fun | .lit (.int k n) => Value.int k n | _ => Value.bool false) | _ => [Value.bool false]).toArray
  | _ => #[]
def putTab (d : DataW Unit) : Obj → Obj
  | .cells _ t frozen => .cells (valsOf d) t frozen
  | o => o
open Go.Proofs.YtegbnddjgifcdaaDoor in
/-- The settled world, the tables holding what their initialisers lay: the witness. -/
noncomputable def laidWorld (os : Os) : World :=
  { World.holding Tryd.prog os ⟨#[], #[], []⟩ with heap := (((World.holding Tryd.prog os ⟨#[], #[], []⟩).heap.modify 2 (putTab Rows.laid_unicode_utf8_acceptRanges)).modify 1 (putTab Rows.laid_unicode_utf8_first)) }
open Go.Proofs.YtegbnddjgifcdaaDoor in
theorem laid_met (os : Os) (args : Array Value) : laidMet Tryd.prog Rows.fnExactParseTyRow.laid ((laidWorld os).forCall (fun _ _ => 0) ⟨#[], args, []⟩).memory :=
  laidMet_of_run' 8 (by kernel_rfl) (by kernel_rfl)
set_option maxRecDepth 100000 in
open Go.Proofs.YtegbnddjgifcdaaDoor in
theorem lifted (os : Os) (started : os.Started) (H : Type) (enc : TypeId × Value → H) (F : Stop.Interp) :
    ReturnsInHanded {} Tryd.checked os 3 .any ((OpenSpec.ofChange Rows.fnExactParseTySpec).preRow enc Tryd.prog Tryd.f3 Rows.fnExactParseTyRow.domain false Rows.fnExactParseTyRow.laid) (((OpenSpec.ofChange Rows.fnExactParseTySpec).at F).post enc Tryd.prog Tryd.f3 false true false false) := by
  refine returnsInHanded_of_row (C := Tryd.checked) own started (by kernel_rfl) Tryd.func3
    (witness_row_at (enc := enc) (C := Tryd.checked) false (laidWorld os) #[.string ⟨#[]⟩] rfl (by kernel_rfl) (by kernel_rfl) (by kernel_rfl)
      (OpenSpec.preRow_of_B rfl 8 (by kernel_rfl) (by kernel_rfl) (laid_met os _))) ?_
  intro W base args ds gs before hval0 hW hcnd _ hsz0 hL hsh _
  have hW' := hW
  obtain ⟨p, q, hA0, hV, rfl, hfz, hnd⟩ := hW
  obtain ⟨rfl, rfl⟩ := trodVars_none hV
  have hA : DataW.TrodAll enc Tryd.prog W 0 (fun _ => true) true [9] args.toList ds p := by
    have := hA0; rw [show (Tryd.checked.prog) = Tryd.prog from rfl, Tryd.params3] at this; exact this
  obtain ⟨v0, d0, rfl, rfl, h0⟩ := trodAll_one hA
  obtain ⟨x0, w0, r0⟩ := arg_string h0 (hval0 0 9 v0 (by rw [Tryd.params3]; rfl) rfl)
  obtain ⟨b, hb⟩ := Cw_run (law_ParseTy w0)
  have hargs : CsRel (fun _ => False) W false [(.str x0)] [v0] := ⟨_, _, rfl, r0, by simp, rfl⟩
  refine top_calls (E := E) (N' := N) (n := b) (g := 3) (cs := [(.str x0)]) (c := .bool true) (Checked.mixed Tryd.checked) primOk rfl rfl ⟨glob_lt (max_of_shape hsh), (max_of_shape hsh)⟩ (by decide) rfl hb hargs _ fun v' w' hv' hbel => ?_
  have hv' : v' = .bool true := hv'
  subst hv'
  exact ⟨_, rfl, _, _, _, [], _, [], hW', trodAll_mk1 (shut_bool Tryd.underlying4 _), trodAll_back goodOk hbel (by rw [Tryd.params3]; rfl) hA0, rfl, hbel.frame _, fun h => by cases h⟩

open Go.Proofs.YtegbnddjgifcdaaDoor in
theorem over : Rows.fnExactParseTyRow.holds Tryd.pinned (OpenSpec.ofChange Rows.fnExactParseTySpec) :=
  OpenClaim.holds_of_cond 3 Tryd.f3 rfl rfl rfl rfl rfl rfl rfl ⟨rfl, rfl, rfl, rfl, rfl⟩ rfl rfl rfl rfl rfl (by kernel_rfl) Tryd.func3 (by kernel_rfl)
    (of_decide_eq_true (by kernel_rfl)) (by unfold Func.isWrapper; first | (rw [if_pos (by decide +kernel)]; kernel_rfl) | (rw [if_neg (by decide +kernel)]; exact ⟨rfl, rfl⟩))
    (fun os started H enc _ F => by rw [OpenClaim.pre_eq_preRow]; exact lifted os started H enc F)
end Go.Proofs.YtegbnddjgifcdaaDoor.Abs
namespace Go.Proofs.YtegbnddjgifcdaaDoor
/-- The law FnExactParseTy returns true for every input; it changes nothing of what it is given: tied to the program's text. -/
theorem fnExactParseTy_holds : Rows.FnExactParseTyCardSaid :=
  Claim7.holds_tied_plain_at .later [] [.data, .pinned] true (true, "4443d87b2ab21d782cf2dfcee0a8e20652e2f00618aad4db12d07d5a0250ead5") false
    Abs.over (fun _ h => by cases h) (by kernel_rfl) (fun _ h => by cases h) fnExactParseTy_row_tie rfl ⟨rfl, rfl⟩ (by kernel_rfl) rfl
    (fun f fn hf hfn => by
      obtain rfl : f = 3 := Option.some.inj ((show Tryd.prog.funcNamed "loop.example/g00187/laws.FnExactParseTy" = some 3 by kernel_rfl).symm.trans hf) |>.symm
      obtain rfl : fn = Tryd.f3 := (Option.some.inj (Tryd.func3.symm.trans hfn)).symm
      exact ⟨by kernel_rfl, fun j t ht => by
        rw [Tryd.params3] at ht
        rcases j with _ | j
        · obtain rfl : t = 9 := by simpa using ht.symm
          exact (show Tryd.prog.wantsStandIn 9 = false by kernel_rfl)
        simp at ht⟩)
    (by kernel_rfl)
end Go.Proofs.YtegbnddjgifcdaaDoor

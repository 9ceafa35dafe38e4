/- The law FnTypes returns true, whatever the input, and leaves its arguments as they were. -/
import Derived.Test.YtegbnddjgifcdaaDoorFnTypes
import Derived.Deep.DeepHandedRow
import Derived.Stop.LaidErr
import Derived.Lib.LaidTab
import Derived.SevenTiedAt
import Derived.Test.YtegbnddjgifcdaaDoorCards
import Derived.Test.YtegbnddjgifcdaaDoorTie
import Derived.Test.YtegbnddjgifcdaaDoorBack
import Derived.Test.YtegbnddjgifcdaaDoorRows
import Derived.WalkKit
import Derived.ProofKit
import Derived.OpenShut
import Derived.ChangeOld
import Derived.Below
import Derived.SizedLaws
set_option linter.unusedVariables false
set_option maxRecDepth 100000
set_option linter.unusedSectionVars false
set_option linter.unusedSimpArgs false
namespace Go.Proofs.YtegbnddjgifcdaaDoor.Abs
open Go Go.Proofs

theorem wt_list {α : Type} {p : α → Prop} {enc : α → CVal} {n : Nat} {l e : TypeId} {cs : List CVal} (ha : aggT Tryd.prog e = true) (hl : Tryd.prog.underlying l = some (.slice e)) (hr : ∀ {cs}, WT Tryd.prog n e cs → ∃ t : α, p t ∧ enc t = .agg cs)
    (h : WT Tryd.prog (n + 1) l cs) : ∃ ts : List α, (ts.length ≤ maxLen ∧ ∀ t ∈ ts, p t) ∧ cs = [.sl (ts.map enc)] := by
  unfold WT at h
  rw [hl] at h
  obtain ⟨xs, rfl, hlen, hall⟩ := h
  have each : ∀ x ∈ xs, ∃ t : α, p t ∧ enc t = x := by
    intro x hx
    obtain ⟨hf, hw⟩ := hall x hx
    obtain ⟨t, ht, he⟩ := hr hw
    rw [ha] at hf
    refine ⟨t, ht, ?_⟩
    cases x with
    | agg cs => exact he
    | _ => simp [CVal.fits, CVal.isAggN] at hf
  have lift : ∀ l : List CVal, (∀ x ∈ l, ∃ t : α, p t ∧ enc t = x) → ∃ ts : List α, ts.map enc = l ∧ ∀ t ∈ ts, p t := by
    intro l
    induction l with
    | nil => exact fun _ => ⟨[], rfl, by simp⟩
    | cons x r ih =>
      intro h
      obtain ⟨t, ht, he⟩ := h x (by simp)
      obtain ⟨ts, hts, hw⟩ := ih fun y hy => h y (by simp [hy])
      exact ⟨t :: ts, by simp [he, hts], fun u hu => by rcases List.mem_cons.1 hu with e | e; subst e; exact ht; exact hw u e⟩
  obtain ⟨ts, rfl, hw⟩ := lift xs each
  exact ⟨ts, ⟨by simpa using hlen, hw⟩, rfl⟩

open Go.ChangeShapes Go.WideShapes Go.ChangeAt Go.RowKit
open Go.Proofs.YtegbnddjgifcdaaDoor (Rows.fnTypesSpec Rows.fnTypesRow)
theorem own : ownKnob Tryd.prog.godebug = none := by kernel_rfl
theorem goodOk : ([5, 30] : List TypeId).all (goodT Tryd.prog [5, 30]) = true := by kernel_rfl
theorem arg_bytes {W : World} {H : Type} {enc : TypeId × Value → H} {r : Reach} {base : Nat} {v : Value} {d : DataW H} {p : List MemPlace} (h : DataW.Trod enc Tryd.prog W 0 (fun _ => true) true 30 v d p) (hv : Value.okWide Tryd.prog W r base 30 v) :
    ∃ t : List UInt8, t.length ≤ maxLen ∧ CRel (fun _ => False) W (.sl (bytesC t)) v := by
  obtain ⟨n, h⟩ := h
  obtain ⟨a, l, c, rfl⟩ := okWide_slice Tryd.underlying30 hv
  obtain ⟨ccs, hr, hw⟩ := trod_wt goodOk n (by rfl) h
  cases n with
  | zero => exact hw.elim
  | succ n =>
    unfold WT at hw
    rw [Tryd.underlying30] at hw
    obtain ⟨xs, rfl, hlen, hall⟩ := hw
    have lift : ∀ l : List CVal, (∀ x ∈ l, ∃ c : UInt8, CVal.int .u8 c.toNat = x) → ∃ ts : List UInt8, bytesC ts = l := by
      intro l
      induction l with
      | nil => exact fun _ => ⟨[], rfl⟩
      | cons x r ih =>
        intro h
        obtain ⟨t, he⟩ := h x (by simp)
        obtain ⟨ts, hts⟩ := ih fun y hy => h y (by simp [hy])
        exact ⟨t :: ts, by rw [← hts, ← he]; rfl⟩
    obtain ⟨ts, rfl⟩ := lift xs fun x hx => by
      obtain ⟨hf, h⟩ := hall x hx
      cases n with
      | zero => exact h.elim
      | succ n =>
        unfold WT at h
        rw [Tryd.underlying5] at h
        obtain ⟨i, hv, w⟩ := h
        have hi : 0 ≤ i ∧ i < 256 := by
          simp [Lit.wf, IntKind.min, IntKind.max, IntKind.signed, IntKind.bits] at w
          omega
        refine ⟨UInt8.ofNat i.toNat, ?_⟩
        have e : (UInt8.ofNat i.toNat).toNat = i.toNat := by simp; omega
        rw [e, Int.toNat_of_nonneg hi.1]
        cases x with
        | agg l => unfold aggT at hf; rw [Tryd.underlying5] at hf; simp [CVal.fits, CVal.isFlat] at hf
        | _ => simpa [CVal.cells] using hv.symm
    obtain ⟨u, us, e, hu, _⟩ := hr
    simp [Value.cells] at e
    obtain ⟨rfl, _⟩ := e
    exact ⟨ts, by simpa [bytesC] using hlen, hu⟩

/-- A table's cells. -/
def valsOf : DataW Unit → Array Value
  | .agg xs => (xs.flatMap fun | .lit (.int k n) => [Value.int k n] | .agg ys => (ys.map fun | .lit (.int k n) => Value.int k n | _ => Value.bool false) | _ => [Value.bool false]).toArray
  | _ => #[]
def putTab (d : DataW Unit) : Obj → Obj
  | .cells _ t frozen => .cells (valsOf d) t frozen
  | o => o
open Go.Proofs.YtegbnddjgifcdaaDoor in
/-- The settled world, the tables holding what their initialisers lay: the witness. -/
noncomputable def laidWorld (os : Os) : World :=
  { World.holding Tryd.prog os ⟨#[], #[], []⟩ with heap := ((((((World.holding Tryd.prog os ⟨#[], #[], []⟩).heap.modify 4 (putTab Rows.laid_math_bits_deBruijn32tab)).modify 5 (putTab Rows.laid_math_bits_deBruijn64tab)).modify 3 (putTab Rows.laid_internal_strconv_uint64pow10)).modify 2 (putTab Rows.laid_unicode_utf8_acceptRanges)).modify 1 (putTab Rows.laid_unicode_utf8_first)) }
open Go.Proofs.YtegbnddjgifcdaaDoor in
theorem laid_met (os : Os) (args : Array Value) : laidMet Tryd.prog Rows.fnTypesRow.laid ((laidWorld os).forCall (fun _ _ => 0) ⟨#[], args, []⟩).memory :=
  laidMet_of_run' 8 (by kernel_rfl) (by kernel_rfl)
theorem tab_of {W : World} (h : laidMet Tryd.prog Rows.fnTypesRow.laid W) : tabOk W :=
  Lib.tabIs_of_head (t := 147) (e := 134) (n := 20) (show Tryd.prog.globalNamed "internal/strconv.uint64pow10" = some 3 by kernel_rfl) (by kernel_rfl) (by kernel_rfl) (by kernel_rfl) (by kernel_rfl) (by kernel_rfl) h.tail.tail
set_option maxRecDepth 100000 in
open Go.Proofs.YtegbnddjgifcdaaDoor in
theorem lifted (os : Os) (started : os.Started) (H : Type) (enc : TypeId × Value → H) (F : Stop.Interp) :
    ReturnsInHanded {} Tryd.checked os 4 .any ((OpenSpec.ofChange Rows.fnTypesSpec).preRow enc Tryd.prog Tryd.f4 Rows.fnTypesRow.domain false Rows.fnTypesRow.laid) (((OpenSpec.ofChange Rows.fnTypesSpec).at F).post enc Tryd.prog Tryd.f4 false true false false) := by
  refine returnsInHanded_of_row (C := Tryd.checked) own started (by kernel_rfl) Tryd.func4
    (witness_row_at (enc := enc) (C := Tryd.checked) false (laidWorld os) #[.slice none 0 0] rfl (by kernel_rfl) (by kernel_rfl) (by kernel_rfl)
      (OpenSpec.preRow_of_B rfl 8 (by kernel_rfl) (by kernel_rfl) (laid_met os _))) ?_
  intro W base args ds gs before hval0 hW hcnd _ hsz0 hL hsh _
  have hW' := hW
  obtain ⟨p, q, hA0, hV, rfl, hfz, hnd⟩ := hW
  obtain ⟨rfl, rfl⟩ := trodVars_none hV
  have hA : DataW.TrodAll enc Tryd.prog W 0 (fun _ => true) true [30] args.toList ds p := by
    have := hA0; rw [show (Tryd.checked.prog) = Tryd.prog from rfl, Tryd.params4] at this; exact this
  obtain ⟨v0, d0, rfl, rfl, h0⟩ := trodAll_one hA
  obtain ⟨x0, w0, r0⟩ := arg_bytes h0 (hval0 0 30 v0 (by rw [Tryd.params4]; rfl) rfl)
  obtain ⟨b, hb⟩ := Cw_run (law_FnTypes w0)
  have hargs : CsRel (fun _ => False) W false [(.sl (bytesC x0))] [v0] := ⟨_, _, rfl, r0, by simp, rfl⟩
  refine top_calls (E := E) (N' := N) (n := b) (g := 4) (cs := [(.sl (bytesC x0))]) (c := .bool true) (Checked.mixed Tryd.checked) primOk rfl rfl ⟨glob_lt ⟨tab_of hL, max_of_shape hsh⟩, ⟨tab_of hL, max_of_shape hsh⟩⟩ (by decide) rfl hb hargs _ fun v' w' hv' hbel => ?_
  have hv' : v' = .bool true := hv'
  subst hv'
  exact ⟨_, rfl, _, _, _, [], _, [], hW', trodAll_mk1 (shut_bool Tryd.underlying4 _), trodAll_back goodOk hbel (by rw [Tryd.params4]; rfl) hA0, rfl, hbel.frame _, fun h => by cases h⟩

open Go.Proofs.YtegbnddjgifcdaaDoor in
theorem over : Rows.fnTypesRow.holds Tryd.pinned (OpenSpec.ofChange Rows.fnTypesSpec) :=
  OpenClaim.holds_of_cond 4 Tryd.f4 rfl rfl rfl rfl rfl rfl rfl ⟨rfl, rfl, rfl, rfl, rfl⟩ rfl rfl rfl rfl rfl (by kernel_rfl) Tryd.func4 (by kernel_rfl)
    (of_decide_eq_true (by kernel_rfl)) (by unfold Func.isWrapper; first | (rw [if_pos (by decide +kernel)]; kernel_rfl) | (rw [if_neg (by decide +kernel)]; exact ⟨rfl, rfl⟩))
    (fun os started H enc _ F => by rw [OpenClaim.pre_eq_preRow]; exact lifted os started H enc F)
end Go.Proofs.YtegbnddjgifcdaaDoor.Abs
namespace Go.Proofs.YtegbnddjgifcdaaDoor
/-- The law FnTypes returns true for every input; it changes nothing of what it is given: tied to the program's text. -/
theorem fnTypes_holds : Rows.FnTypesCardSaid :=
  Claim7.holds_tied_plain_at .later [] [.data, .data, .data, .data, .pinned] true (true, "4443d87b2ab21d782cf2dfcee0a8e20652e2f00618aad4db12d07d5a0250ead5") false
    Abs.over (fun _ h => by cases h) (by kernel_rfl) (fun _ h => by cases h) fnTypes_row_tie rfl ⟨rfl, rfl⟩ (by kernel_rfl) rfl
    (fun f fn hf hfn => by
      obtain rfl : f = 4 := Option.some.inj ((show Tryd.prog.funcNamed "loop.example/g00187/laws.FnTypes" = some 4 by kernel_rfl).symm.trans hf) |>.symm
      obtain rfl : fn = Tryd.f4 := (Option.some.inj (Tryd.func4.symm.trans hfn)).symm
      exact ⟨by kernel_rfl, fun j t ht => by
        rw [Tryd.params4] at ht
        rcases j with _ | j
        · obtain rfl : t = 30 := by simpa using ht.symm
          exact (show Tryd.prog.wantsStandIn 30 = false by kernel_rfl)
        simp at ht⟩)
    (by kernel_rfl)
end Go.Proofs.YtegbnddjgifcdaaDoor

/- The law FnExactParseTerm returns true, whatever the input, and leaves its arguments as they were. -/
import Derived.Test.YtegbnddjgifcdaaGreatDoorParseTerm
import Derived.Deep.DeepHandedRow
import Derived.Stop.LaidErr
import Derived.Lib.LaidTab
import Derived.SevenTiedAt
import Derived.Test.YtegbnddjgifcdaaGreatDoorCards
import Derived.Test.YtegbnddjgifcdaaGreatDoorTie
import Derived.Test.YtegbnddjgifcdaaGreatDoorBack
import Derived.Test.YtegbnddjgifcdaaGreatDoorRows
import Derived.WalkKit
import Derived.ProofKit
import Derived.OpenShut
import Derived.ChangeOld
import Derived.Below
import Derived.SizedLaws
set_option linter.unusedVariables false
set_option maxRecDepth 100000
set_option linter.unusedSectionVars false
set_option linter.unusedSimpArgs false
namespace Go.Proofs.YtegbnddjgifcdaaGreatDoor.Abs
open Go Go.Proofs

theorem wt_list {α : Type} {p : α → Prop} {enc : α → CVal} {n : Nat} {l e : TypeId} {cs : List CVal} (ha : aggT Tryz.prog e = true) (hl : Tryz.prog.underlying l = some (.slice e)) (hr : ∀ {cs}, WT Tryz.prog n e cs → ∃ t : α, p t ∧ enc t = .agg cs)
    (h : WT Tryz.prog (n + 1) l cs) : ∃ ts : List α, (ts.length ≤ maxLen ∧ ∀ t ∈ ts, p t) ∧ cs = [.sl (ts.map enc)] := by
  unfold WT at h
  rw [hl] at h
  obtain ⟨xs, rfl, hlen, hall⟩ := h
  have each : ∀ x ∈ xs, ∃ t : α, p t ∧ enc t = x := by
    intro x hx
    obtain ⟨hf, hw⟩ := hall x hx
    obtain ⟨t, ht, he⟩ := hr hw
    rw [ha] at hf
    refine ⟨t, ht, ?_⟩
    cases x with
    | agg cs => exact he
    | _ => simp [CVal.fits, CVal.isAggN] at hf
  have lift : ∀ l : List CVal, (∀ x ∈ l, ∃ t : α, p t ∧ enc t = x) → ∃ ts : List α, ts.map enc = l ∧ ∀ t ∈ ts, p t := by
    intro l
    induction l with
    | nil => exact fun _ => ⟨[], rfl, by simp⟩
    | cons x r ih =>
      intro h
      obtain ⟨t, ht, he⟩ := h x (by simp)
      obtain ⟨ts, hts, hw⟩ := ih fun y hy => h y (by simp [hy])
      exact ⟨t :: ts, by simp [he, hts], fun u hu => by rcases List.mem_cons.1 hu with e | e; subst e; exact ht; exact hw u e⟩
  obtain ⟨ts, rfl, hw⟩ := lift xs each
  exact ⟨ts, ⟨by simpa using hlen, hw⟩, rfl⟩

open Go.ChangeShapes Go.WideShapes Go.ChangeAt Go.RowKit
open Go.Proofs.YtegbnddjgifcdaaGreatDoor (Rows.fnExactParseTermSpec Rows.fnExactParseTermRow)
theorem own : ownKnob Tryz.prog.godebug = none := by kernel_rfl
theorem goodOk : ([9] : List TypeId).all (goodT Tryz.prog [9]) = true := by kernel_rfl
theorem arg_string {W : World} {H : Type} {enc : TypeId × Value → H} {r : Reach} {base : Nat} {v : Value} {d : DataW H} {p : List MemPlace} (h : DataW.Trod enc Tryz.prog W 0 (fun _ => true) true 9 v d p) (hv : Value.okWide Tryz.prog W r base 9 v) :
    ∃ t : List UInt8, t.length ≤ maxLen ∧ CRel (fun _ => False) W (.str t) v := by
  obtain ⟨n, h⟩ := h
  obtain ⟨i, rfl⟩ := okWide_string Tryz.underlying9 hv
  obtain ⟨ccs, hr, hw⟩ := trod_wt goodOk n (by rfl) h
  cases n with
  | zero => exact hw.elim
  | succ n =>
    unfold WT at hw
    rw [Tryz.underlying9] at hw
    obtain ⟨j, rfl, wf⟩ := hw
    obtain ⟨u, us, e, hu, _⟩ := hr
    have e1 : u = .string ⟨j.toArray⟩ := hu
    subst e1
    simp [Value.cells] at e
    obtain ⟨rfl, _⟩ := e
    exact ⟨j, wf, rfl⟩

/-- A table's cells. -/
def valsOf : DataW Unit → Array Value
  | .agg xs => (xs.flatMap fun | .lit (.int k n) => [Value.int k n] | .agg ys => (ys.map fun | .lit (.int k n) => Value.int k n | _ => Value.bool false) | _ => [Value.bool false]).toArray
  | _ => #[]
def putTab (d : DataW Unit) : Obj → Obj
  | .cells _ t frozen => .cells (valsOf d) t frozen
  | o => o
def putErr (b : Nat) : Obj → Obj
  | .cells _ t frozen => .cells #[.iface 123 (.pointer (some ⟨b, 0, none⟩))] t frozen
  | o => o
open Go.Proofs.YtegbnddjgifcdaaGreatDoor in
/-- The settled world, the tables holding what their initialisers lay: the witness. -/
noncomputable def laidWorld (os : Os) : World :=
  { World.holding Tryz.prog os ⟨#[], #[], []⟩ with heap := ((((((((World.holding Tryz.prog os ⟨#[.cells #[.string ⟨#[118, 97, 108, 117, 101, 32, 111, 117, 116, 32, 111, 102, 32, 114, 97, 110, 103, 101]⟩] 125, .cells #[.string ⟨#[105, 110, 118, 97, 108, 105, 100, 32, 115, 121, 110, 116, 97, 120]⟩] 125], #[], []⟩).heap.modify 6 (putTab Rows.laid_math_bits_deBruijn32tab)).modify 7 (putTab Rows.laid_math_bits_deBruijn64tab)).modify 5 (putTab Rows.laid_internal_strconv_uint64pow10)).modify 2 (putTab Rows.laid_unicode_utf8_acceptRanges)).modify 4 (putErr 13)).modify 3 (putErr 14)).modify 1 (putTab Rows.laid_unicode_utf8_first)) }
open Go.Proofs.YtegbnddjgifcdaaGreatDoor in
theorem laid_met (os : Os) (args : Array Value) : laidMet Tryz.prog Rows.fnExactParseTermRow.laid ((laidWorld os).forCall (fun _ _ => 0) ⟨#[], args, []⟩).memory :=
  laidMet_of_run' 8 (by kernel_rfl) (by kernel_rfl)
theorem tab_of {W : World} (h : laidMet Tryz.prog Rows.fnExactParseTermRow.laid W) : tabOk W :=
  Lib.tabIs_of_head (t := 127) (e := 109) (n := 20) (show Tryz.prog.globalNamed "internal/strconv.uint64pow10" = some 5 by kernel_rfl) (by kernel_rfl) (by kernel_rfl) (by kernel_rfl) (by kernel_rfl) (by kernel_rfl) h.tail.tail
theorem err_star : "*" ++ "errors.errorString" = "*errors.errorString" := by decide
theorem row_err (u : TypeId) (h : Tryz.prog.typeName? 3 u = some "*errors.errorString") : u = 123 :=
  typeName_ptr_named (nm := "errors.errorString") (by rw [err_star]; kernel_rfl) (by kernel_rfl) (by decide) u (by rw [err_star]; exact h)
theorem err_of {W : World} (h : laidMet Tryz.prog Rows.fnExactParseTermRow.laid W) : errOk W := by
  obtain ⟨a0, s0, hv0, -, -, -⟩ := laid_sentinel (n := "strconv.ErrSyntax") (nm := "*errors.errorString") (g := 3) (ti := 83) (tp := 123) (te := 125) (ts := 9) h.tail.tail.tail.tail.tail (by kernel_rfl) (by kernel_rfl) Tryz.underlying83 row_err Tryz.underlying123 Tryz.underlying125 rfl rfl Tryz.underlying9 (by kernel_rfl) (by kernel_rfl)
  obtain ⟨a1, s1, hv1, -, -, -⟩ := laid_sentinel (n := "strconv.ErrRange") (nm := "*errors.errorString") (g := 4) (ti := 83) (tp := 123) (te := 125) (ts := 9) h.tail.tail.tail.tail (by kernel_rfl) (by kernel_rfl) Tryz.underlying83 row_err Tryz.underlying123 Tryz.underlying125 rfl rfl Tryz.underlying9 (by kernel_rfl) (by kernel_rfl)
  exact ⟨⟨_, by have h0 := World.var?_cell (show Tryz.prog.globalNamed "strconv.ErrSyntax" = some 3 by kernel_rfl) hv0 0; simpa using h0, .inr ⟨_, _, rfl⟩⟩, ⟨_, by have h0 := World.var?_cell (show Tryz.prog.globalNamed "strconv.ErrRange" = some 4 by kernel_rfl) hv1 0; simpa using h0, .inr ⟨_, _, rfl⟩⟩⟩
set_option maxRecDepth 100000 in
open Go.Proofs.YtegbnddjgifcdaaGreatDoor in
theorem lifted (os : Os) (started : os.Started) (H : Type) (enc : TypeId × Value → H) (F : Stop.Interp) :
    ReturnsInHanded {} Tryz.checked os 3 .any ((OpenSpec.ofChange Rows.fnExactParseTermSpec).preRow enc Tryz.prog Tryz.f3 Rows.fnExactParseTermRow.domain false Rows.fnExactParseTermRow.laid) (((OpenSpec.ofChange Rows.fnExactParseTermSpec).at F).post enc Tryz.prog Tryz.f3 false true false false) := by
  refine returnsInHanded_of_row (C := Tryz.checked) own started (by kernel_rfl) Tryz.func3
    (witness_row_at (enc := enc) (C := Tryz.checked) false (laidWorld os) #[.string ⟨#[]⟩] rfl (by kernel_rfl) (by kernel_rfl) (by kernel_rfl)
      (OpenSpec.preRow_of_B rfl 8 (by kernel_rfl) (by kernel_rfl) (laid_met os _))) ?_
  intro W base args ds gs before hval0 hW hcnd _ hsz0 hL hsh _
  have hW' := hW
  obtain ⟨p, q, hA0, hV, rfl, hfz, hnd⟩ := hW
  obtain ⟨rfl, rfl⟩ := trodVars_none hV
  have hA : DataW.TrodAll enc Tryz.prog W 0 (fun _ => true) true [9] args.toList ds p := by
    have := hA0; rw [show (Tryz.checked.prog) = Tryz.prog from rfl, Tryz.params3] at this; exact this
  obtain ⟨v0, d0, rfl, rfl, h0⟩ := trodAll_one hA
  obtain ⟨x0, w0, r0⟩ := arg_string h0 (hval0 0 9 v0 (by rw [Tryz.params3]; rfl) rfl)
  obtain ⟨b, hb⟩ := Cw_run (law_ParseTerm w0)
  have hargs : CsRel (fun _ => False) W false [(.str x0)] [v0] := ⟨_, _, rfl, r0, by simp, rfl⟩
  refine top_calls (E := E) (N' := N) (n := b) (g := 3) (cs := [(.str x0)]) (c := .bool true) (Checked.mixed Tryz.checked) primOk rfl rfl ⟨glob_lt ⟨tab_of hL, max_of_shape hsh, err_of hL⟩, ⟨tab_of hL, max_of_shape hsh, err_of hL⟩⟩ (by decide) rfl hb hargs _ fun v' w' hv' hbel => ?_
  have hv' : v' = .bool true := hv'
  subst hv'
  exact ⟨_, rfl, _, _, _, [], _, [], hW', trodAll_mk1 (shut_bool Tryz.underlying4 _), trodAll_back goodOk hbel (by rw [Tryz.params3]; rfl) hA0, rfl, hbel.frame _, fun h => by cases h⟩

open Go.Proofs.YtegbnddjgifcdaaGreatDoor in
theorem over : Rows.fnExactParseTermRow.holds Tryz.pinned (OpenSpec.ofChange Rows.fnExactParseTermSpec) :=
  OpenClaim.holds_of_cond 3 Tryz.f3 rfl rfl rfl rfl rfl rfl rfl ⟨rfl, rfl, rfl, rfl, rfl⟩ rfl rfl rfl rfl rfl (by kernel_rfl) Tryz.func3 (by kernel_rfl)
    (of_decide_eq_true (by kernel_rfl)) (by unfold Func.isWrapper; first | (rw [if_pos (by decide +kernel)]; kernel_rfl) | (rw [if_neg (by decide +kernel)]; exact ⟨rfl, rfl⟩))
    (fun os started H enc _ F => by rw [OpenClaim.pre_eq_preRow]; exact lifted os started H enc F)
end Go.Proofs.YtegbnddjgifcdaaGreatDoor.Abs
namespace Go.Proofs.YtegbnddjgifcdaaGreatDoor
/-- The law FnExactParseTerm returns true for every input; it changes nothing of what it is given: tied to the program's text. -/
theorem fnExactParseTerm_holds : Rows.FnExactParseTermCardSaid :=
  Claim7.holds_tied_plain_at .later [] [.data, .data, .data, .data, .sentinel, .sentinel, .pinned] true (true, "64ab89bf1c5bfde84d66e051cf9141498351b4e850a0a16aa776af6af245df6d") true
    Abs.over (fun _ h => by cases h) (by kernel_rfl) (fun _ h => by cases h) fnExactParseTerm_row_tie rfl ⟨rfl, rfl⟩ (by kernel_rfl) rfl
    (fun f fn hf hfn => by
      obtain rfl : f = 3 := Option.some.inj ((show Tryz.prog.funcNamed "loop.example/g00187/laws.FnExactParseTerm" = some 3 by kernel_rfl).symm.trans hf) |>.symm
      obtain rfl : fn = Tryz.f3 := (Option.some.inj (Tryz.func3.symm.trans hfn)).symm
      exact ⟨by kernel_rfl, fun j t ht => by
        rw [Tryz.params3] at ht
        rcases j with _ | j
        · obtain rfl : t = 9 := by simpa using ht.symm
          exact (show Tryz.prog.wantsStandIn 9 = false by kernel_rfl)
        simp at ht⟩)
    (by kernel_rfl)
end Go.Proofs.YtegbnddjgifcdaaGreatDoor

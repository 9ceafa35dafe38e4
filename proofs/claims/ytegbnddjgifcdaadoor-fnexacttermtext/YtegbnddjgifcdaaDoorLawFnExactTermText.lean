/- The law FnExactTermText returns true, whatever the input, and leaves its arguments as they were. -/
import Derived.Test.YtegbnddjgifcdaaDoorTermTextLaw
import Derived.Deep.DeepHandedRow
import Derived.Stop.LaidErr
import Derived.Lib.LaidTab
import Derived.SevenTiedAt
import Derived.Test.YtegbnddjgifcdaaDoorCards
import Derived.Test.YtegbnddjgifcdaaDoorTie
import Derived.Test.YtegbnddjgifcdaaDoorBack
import Derived.Test.YtegbnddjgifcdaaDoorRows
import Derived.WalkKit
import Derived.ProofKit
import Derived.OpenShut
import Derived.ChangeOld
import Derived.Below
import Derived.SizedLaws
set_option linter.unusedVariables false
set_option maxRecDepth 100000
set_option linter.unusedSectionVars false
set_option linter.unusedSimpArgs false
namespace Go.Proofs.YtegbnddjgifcdaaDoor.Abs
open Go Go.Proofs

theorem wt_list {α : Type} {p : α → Prop} {enc : α → CVal} {n : Nat} {l e : TypeId} {cs : List CVal} (ha : aggT Tryd.prog e = true) (hl : Tryd.prog.underlying l = some (.slice e)) (hr : ∀ {cs}, WT Tryd.prog n e cs → ∃ t : α, p t ∧ enc t = .agg cs)
    (h : WT Tryd.prog (n + 1) l cs) : ∃ ts : List α, (ts.length ≤ maxLen ∧ ∀ t ∈ ts, p t) ∧ cs = [.sl (ts.map enc)] := by
  unfold WT at h
  rw [hl] at h
  obtain ⟨xs, rfl, hlen, hall⟩ := h
  have each : ∀ x ∈ xs, ∃ t : α, p t ∧ enc t = x := by
    intro x hx
    obtain ⟨hf, hw⟩ := hall x hx
    obtain ⟨t, ht, he⟩ := hr hw
    rw [ha] at hf
    refine ⟨t, ht, ?_⟩
    cases x with
    | agg cs => exact he
    | _ => simp [CVal.fits, CVal.isAggN] at hf
  have lift : ∀ l : List CVal, (∀ x ∈ l, ∃ t : α, p t ∧ enc t = x) → ∃ ts : List α, ts.map enc = l ∧ ∀ t ∈ ts, p t := by
    intro l
    induction l with
    | nil => exact fun _ => ⟨[], rfl, by simp⟩
    | cons x r ih =>
      intro h
      obtain ⟨t, ht, he⟩ := h x (by simp)
      obtain ⟨ts, hts, hw⟩ := ih fun y hy => h y (by simp [hy])
      exact ⟨t :: ts, by simp [he, hts], fun u hu => by rcases List.mem_cons.1 hu with e | e; subst e; exact ht; exact hw u e⟩
  obtain ⟨ts, rfl, hw⟩ := lift xs each
  exact ⟨ts, ⟨by simpa using hlen, hw⟩, rfl⟩
theorem wt_Ty : ∀ (n : Nat) {cs : List CVal}, WT Tryd.prog n 38 cs → ∃ t : Ty, t.wt ∧ t.enc = .agg cs
  | 0, _, h => h.elim
  | 1, _, h => by
    unfold WT at h
    rw [Tryd.underlying38] at h
    obtain ⟨a, b, rfl, h, _⟩ := h
    exact h.elim
  | n + 2, cs, h => by
    unfold WT at h
    rw [Tryd.underlying38] at h
    obtain ⟨b0, r0, rfl, h0, b1, r1, rfl, h1, b2, r2, rfl, h2, hend⟩ := h
    have hend : r2 = [] := hend
    subst hend
    unfold WT at h0
    rw [Tryd.underlying3] at h0
    obtain ⟨v0, rfl, w0⟩ := h0
    unfold WT at h1
    rw [Tryd.underlying3] at h1
    obtain ⟨v1, rfl, w1⟩ := h1
    obtain ⟨v2, w2, rfl⟩ := wt_list (e := 38) (p := Ty.wt) (enc := Ty.enc) (by unfold aggT; rw [Tryd.underlying38]) Tryd.underlying36 (fun hw => wt_Ty n hw) h2
    refine ⟨.mk v0 v1 v2, (Ty.wt_def _).2 ⟨i64_of_wf w0, i64_of_wf w1, w2⟩, ?_⟩
    rw [Ty.enc_def]
    rfl
theorem wt_Term : ∀ (n : Nat) {cs : List CVal}, WT Tryd.prog n 41 cs → ∃ t : Term, t.wt ∧ t.enc = .agg cs
  | 0, _, h => h.elim
  | 1, _, h => by
    unfold WT at h
    rw [Tryd.underlying41] at h
    obtain ⟨a, b, rfl, h, _⟩ := h
    exact h.elim
  | n + 2, cs, h => by
    unfold WT at h
    rw [Tryd.underlying41] at h
    obtain ⟨b0, r0, rfl, h0, b1, r1, rfl, h1, b2, r2, rfl, h2, b3, r3, rfl, h3, b4, r4, rfl, h4, b5, r5, rfl, h5, b6, r6, rfl, h6, hend⟩ := h
    have hend : r6 = [] := hend
    subst hend
    unfold WT at h0
    rw [Tryd.underlying3] at h0
    obtain ⟨v0, rfl, w0⟩ := h0
    unfold WT at h1
    rw [Tryd.underlying3] at h1
    obtain ⟨v1, rfl, w1⟩ := h1
    unfold WT at h2
    rw [Tryd.underlying9] at h2
    obtain ⟨v2, rfl, w2⟩ := h2
    unfold WT at h3
    rw [Tryd.underlying9] at h3
    obtain ⟨v3, rfl, w3⟩ := h3
    obtain ⟨v4, w4, e4⟩ := wt_Ty (n + 1) h4
    obtain ⟨v5, w5, rfl⟩ := wt_list (e := 38) (p := Ty.wt) (enc := Ty.enc) (by unfold aggT; rw [Tryd.underlying38]) Tryd.underlying36 (fun hw => wt_Ty n hw) h5
    obtain ⟨v6, w6, rfl⟩ := wt_list (e := 41) (p := Term.wt) (enc := Term.enc) (by unfold aggT; rw [Tryd.underlying41]) Tryd.underlying39 (fun hw => wt_Term n hw) h6
    refine ⟨.mk v0 v1 v2 v3 v4 v5 v6, (Term.wt_def _).2 ⟨i64_of_wf w0, i64_of_wf w1, w2, w3, w4, w5, w6⟩, ?_⟩
    rw [Term.enc_def]
    rw [Ty.enc_def] at e4; injection e4 with e4; 
    simp only [← e4, List.cons_append, List.nil_append, List.append_nil]
    rfl

open Go.ChangeShapes Go.WideShapes Go.ChangeAt Go.RowKit
open Go.Proofs.YtegbnddjgifcdaaDoor (Rows.fnExactTermTextSpec Rows.fnExactTermTextRow)
theorem own : ownKnob Tryd.prog.godebug = none := by kernel_rfl
theorem goodOk : ([3, 9, 36, 38, 39, 41] : List TypeId).all (goodT Tryd.prog [3, 9, 36, 38, 39, 41]) = true := by kernel_rfl
theorem arg_Term {W : World} {H : Type} {enc : TypeId × Value → H} {r : Reach} {base : Nat} {v : Value} {d : DataW H} {p : List MemPlace} (h : DataW.Trod enc Tryd.prog W 0 (fun _ => true) true 41 v d p) (hv : Value.okWide Tryd.prog W r base 41 v) :
    ∃ t : Term, t.wt ∧ CRel (fun _ => False) W t.enc v := by
  obtain ⟨n, h⟩ := h
  unfold Value.okWide at hv
  rw [Tryd.underlying41] at hv
  obtain ⟨cs, rfl, _⟩ := hv
  obtain ⟨ccs, hr, hw⟩ := trod_wt goodOk n (by rfl) h
  obtain ⟨t, ht, he⟩ := wt_Term n hw
  exact ⟨t, ht, by rw [he]; exact ⟨cs.toList, by simp, hr⟩⟩

/-- A table's cells. -/
def valsOf : DataW Unit → Array Value
  | .agg xs => (xs.flatMap fun | .lit (.int k n) => [Value.int k n] | .agg ys => (ys.map fun | .lit (.int k n) => Value.int k n | _ => Value.bool false) | _ => [Value.bool false]).toArray
  | _ => #[]
def putTab (d : DataW Unit) : Obj → Obj
  | .cells _ t frozen => .cells (valsOf d) t frozen
  | o => o
open Go.Proofs.YtegbnddjgifcdaaDoor in
/-- The settled world, the tables holding what their initialisers lay: the witness. -/
noncomputable def laidWorld (os : Os) : World :=
  { World.holding Tryd.prog os ⟨#[], #[], []⟩ with heap := ((((World.holding Tryd.prog os ⟨#[], #[], []⟩).heap.modify 4 (putTab Rows.laid_math_bits_deBruijn32tab)).modify 5 (putTab Rows.laid_math_bits_deBruijn64tab)).modify 3 (putTab Rows.laid_internal_strconv_uint64pow10)) }
open Go.Proofs.YtegbnddjgifcdaaDoor in
theorem laid_met (os : Os) (args : Array Value) : laidMet Tryd.prog Rows.fnExactTermTextRow.laid ((laidWorld os).forCall (fun _ _ => 0) ⟨#[], args, []⟩).memory :=
  laidMet_of_run' 8 (by kernel_rfl) (by kernel_rfl)
theorem tab_of {W : World} (h : laidMet Tryd.prog Rows.fnExactTermTextRow.laid W) : tabOk W :=
  Lib.tabIs_of_head (t := 147) (e := 134) (n := 20) (show Tryd.prog.globalNamed "internal/strconv.uint64pow10" = some 3 by kernel_rfl) (by kernel_rfl) (by kernel_rfl) (by kernel_rfl) (by kernel_rfl) (by kernel_rfl) h.tail.tail
set_option maxRecDepth 100000 in
open Go.Proofs.YtegbnddjgifcdaaDoor in
theorem lifted (os : Os) (started : os.Started) (H : Type) (enc : TypeId × Value → H) (F : Stop.Interp) :
    ReturnsInHanded {} Tryd.checked os 5 .any ((OpenSpec.ofChange Rows.fnExactTermTextSpec).preRow enc Tryd.prog Tryd.f5 Rows.fnExactTermTextRow.domain false Rows.fnExactTermTextRow.laid) (((OpenSpec.ofChange Rows.fnExactTermTextSpec).at F).post enc Tryd.prog Tryd.f5 false true false false) := by
  refine returnsInHanded_of_row (C := Tryd.checked) own started (by kernel_rfl) Tryd.func5
    (witness_row_at (enc := enc) (C := Tryd.checked) false (laidWorld os) #[.agg #[.int .i64 0, .int .i64 0, .string ⟨#[]⟩, .string ⟨#[]⟩, .int .i64 0, .int .i64 0, .slice none 0 0, .slice none 0 0, .slice none 0 0]] rfl (by kernel_rfl) (by kernel_rfl) (by kernel_rfl)
      (OpenSpec.preRow_of_B rfl 8 (by kernel_rfl) (by kernel_rfl) (laid_met os _))) ?_
  intro W base args ds gs before hval0 hW hcnd _ hsz0 hL hsh _
  have hW' := hW
  obtain ⟨p, q, hA0, hV, rfl, hfz, hnd⟩ := hW
  obtain ⟨rfl, rfl⟩ := trodVars_none hV
  have hA : DataW.TrodAll enc Tryd.prog W 0 (fun _ => true) true [41] args.toList ds p := by
    have := hA0; rw [show (Tryd.checked.prog) = Tryd.prog from rfl, Tryd.params5] at this; exact this
  obtain ⟨v0, d0, rfl, rfl, h0⟩ := trodAll_one hA
  obtain ⟨x0, w0, r0⟩ := arg_Term h0 (hval0 0 41 v0 (by rw [Tryd.params5]; rfl) rfl)
  obtain ⟨b, hb⟩ := Cw_run (law_TermText w0)
  have hargs : CsRel (fun _ => False) W false [x0.enc] [v0] := ⟨_, _, rfl, r0, by simp, rfl⟩
  refine top_calls (E := E) (N' := N) (n := b) (g := 5) (cs := [x0.enc]) (c := .bool true) (Checked.mixed Tryd.checked) primOk rfl rfl ⟨glob_lt ⟨tab_of hL, max_of_shape hsh⟩, ⟨tab_of hL, max_of_shape hsh⟩⟩ (by decide) rfl hb hargs _ fun v' w' hv' hbel => ?_
  have hv' : v' = .bool true := hv'
  subst hv'
  exact ⟨_, rfl, _, _, _, [], _, [], hW', trodAll_mk1 (shut_bool Tryd.underlying4 _), trodAll_back goodOk hbel (by rw [Tryd.params5]; rfl) hA0, rfl, hbel.frame _, fun h => by cases h⟩

open Go.Proofs.YtegbnddjgifcdaaDoor in
theorem over : Rows.fnExactTermTextRow.holds Tryd.pinned (OpenSpec.ofChange Rows.fnExactTermTextSpec) :=
  OpenClaim.holds_of_cond 5 Tryd.f5 rfl rfl rfl rfl rfl rfl rfl ⟨rfl, rfl, rfl, rfl, rfl⟩ rfl rfl rfl rfl rfl (by kernel_rfl) Tryd.func5 (by kernel_rfl)
    (of_decide_eq_true (by kernel_rfl)) (by unfold Func.isWrapper; first | (rw [if_pos (by decide +kernel)]; kernel_rfl) | (rw [if_neg (by decide +kernel)]; exact ⟨rfl, rfl⟩))
    (fun os started H enc _ F => by rw [OpenClaim.pre_eq_preRow]; exact lifted os started H enc F)
end Go.Proofs.YtegbnddjgifcdaaDoor.Abs
namespace Go.Proofs.YtegbnddjgifcdaaDoor
/-- The law FnExactTermText returns true for every input; it changes nothing of what it is given: tied to the program's text. -/
theorem fnExactTermText_holds : Rows.FnExactTermTextCardSaid :=
  Claim7.holds_tied_plain_at .later [] [.data, .data, .data] true (true, "4443d87b2ab21d782cf2dfcee0a8e20652e2f00618aad4db12d07d5a0250ead5") false
    Abs.over (fun _ h => by cases h) (by kernel_rfl) (fun _ h => by cases h) fnExactTermText_row_tie rfl ⟨rfl, rfl⟩ (by kernel_rfl) rfl
    (fun f fn hf hfn => by
      obtain rfl : f = 5 := Option.some.inj ((show Tryd.prog.funcNamed "loop.example/g00187/laws.FnExactTermText" = some 5 by kernel_rfl).symm.trans hf) |>.symm
      obtain rfl : fn = Tryd.f5 := (Option.some.inj (Tryd.func5.symm.trans hfn)).symm
      exact ⟨by kernel_rfl, fun j t ht => by
        rw [Tryd.params5] at ht
        rcases j with _ | j
        · obtain rfl : t = 41 := by simpa using ht.symm
          exact (show Tryd.prog.wantsStandIn 41 = false by kernel_rfl)
        simp at ht⟩)
    (by kernel_rfl)
end Go.Proofs.YtegbnddjgifcdaaDoor

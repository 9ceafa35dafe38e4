/- The law FnSubst returns true, whatever the input, and leaves its arguments as they were. -/
import Derived.Test.YtmjjaoffeajcbaaFnSubst
import Derived.Test.YtmjjaoffeajcbaaBack
import Derived.Test.YtmjjaoffeajcbaaRows
import Derived.WalkKit
import Derived.ProofKit
import Derived.OpenShut
import Derived.ChangeOld
import Derived.Below
import Derived.SizedLaws
set_option linter.unusedVariables false
set_option maxRecDepth 100000
set_option linter.unusedSectionVars false
set_option linter.unusedSimpArgs false
namespace Go.Proofs.Ytmjjaoffeajcbaa.Abs
open Go Go.Proofs

theorem wt_list {α : Type} {p : α → Prop} {enc : α → CVal} {n : Nat} {l e : TypeId} {cs : List CVal} (ha : aggT Try.prog e = true) (hl : Try.prog.underlying l = some (.slice e)) (hr : ∀ {cs}, WT Try.prog n e cs → ∃ t : α, p t ∧ enc t = .agg cs)
    (h : WT Try.prog (n + 1) l cs) : ∃ ts : List α, (ts.length ≤ maxLen ∧ ∀ t ∈ ts, p t) ∧ cs = [.sl (ts.map enc)] := by
  unfold WT at h
  rw [hl] at h
  obtain ⟨xs, rfl, hlen, hall⟩ := h
  have each : ∀ x ∈ xs, ∃ t : α, p t ∧ enc t = x := by
    intro x hx
    obtain ⟨hf, hw⟩ := hall x hx
    obtain ⟨t, ht, he⟩ := hr hw
    rw [ha] at hf
    refine ⟨t, ht, ?_⟩
    cases x with
    | agg cs => exact he
    | _ => simp [CVal.fits, CVal.isAggN] at hf
  have lift : ∀ l : List CVal, (∀ x ∈ l, ∃ t : α, p t ∧ enc t = x) → ∃ ts : List α, ts.map enc = l ∧ ∀ t ∈ ts, p t := by
    intro l
    induction l with
    | nil => exact fun _ => ⟨[], rfl, by simp⟩
    | cons x r ih =>
      intro h
      obtain ⟨t, ht, he⟩ := h x (by simp)
      obtain ⟨ts, hts, hw⟩ := ih fun y hy => h y (by simp [hy])
      exact ⟨t :: ts, by simp [he, hts], fun u hu => by rcases List.mem_cons.1 hu with e | e; subst e; exact ht; exact hw u e⟩
  obtain ⟨ts, rfl, hw⟩ := lift xs each
  exact ⟨ts, ⟨by simpa using hlen, hw⟩, rfl⟩

open Go.ChangeShapes Go.WideShapes Go.ChangeAt Go.RowKit
open Go.Proofs.Ytmjjaoffeajcbaa (Rows.fnSubstSpec Rows.fnSubstRow)
theorem own : ownKnob Try.prog.godebug = none := by kernel_rfl
theorem goodOk : ([5, 22] : List TypeId).all (goodT Try.prog [5, 22]) = true := by kernel_rfl
theorem arg_bytes {W : World} {H : Type} {enc : TypeId × Value → H} {r : Reach} {base : Nat} {v : Value} {d : DataW H} {p : List MemPlace} (h : DataW.Trod enc Try.prog W 0 (fun _ => true) true 22 v d p) (hv : Value.okWide Try.prog W r base 22 v) :
    ∃ t : List UInt8, t.length ≤ maxLen ∧ CRel (fun _ => False) W (.sl (bytesC t)) v := by
  obtain ⟨n, h⟩ := h
  obtain ⟨a, l, c, rfl⟩ := okWide_slice Try.underlying22 hv
  obtain ⟨ccs, hr, hw⟩ := trod_wt goodOk n (by rfl) h
  cases n with
  | zero => exact hw.elim
  | succ n =>
    unfold WT at hw
    rw [Try.underlying22] at hw
    obtain ⟨xs, rfl, hlen, hall⟩ := hw
    have lift : ∀ l : List CVal, (∀ x ∈ l, ∃ c : UInt8, CVal.int .u8 c.toNat = x) → ∃ ts : List UInt8, bytesC ts = l := by
      intro l
      induction l with
      | nil => exact fun _ => ⟨[], rfl⟩
      | cons x r ih =>
        intro h
        obtain ⟨t, he⟩ := h x (by simp)
        obtain ⟨ts, hts⟩ := ih fun y hy => h y (by simp [hy])
        exact ⟨t :: ts, by rw [← hts, ← he]; rfl⟩
    obtain ⟨ts, rfl⟩ := lift xs fun x hx => by
      obtain ⟨hf, h⟩ := hall x hx
      cases n with
      | zero => exact h.elim
      | succ n =>
        unfold WT at h
        rw [Try.underlying5] at h
        obtain ⟨i, hv, w⟩ := h
        have hi : 0 ≤ i ∧ i < 256 := by
          simp [Lit.wf, IntKind.min, IntKind.max, IntKind.signed, IntKind.bits] at w
          omega
        refine ⟨UInt8.ofNat i.toNat, ?_⟩
        have e : (UInt8.ofNat i.toNat).toNat = i.toNat := by simp; omega
        rw [e, Int.toNat_of_nonneg hi.1]
        cases x with
        | agg l => unfold aggT at hf; rw [Try.underlying5] at hf; simp [CVal.fits, CVal.isFlat] at hf
        | _ => simpa [CVal.cells] using hv.symm
    obtain ⟨u, us, e, hu, _⟩ := hr
    simp [Value.cells] at e
    obtain ⟨rfl, _⟩ := e
    exact ⟨ts, by simpa [bytesC] using hlen, hu⟩

open Go.Proofs.Ytmjjaoffeajcbaa in
theorem lifted (os : Os) (started : os.Started) (H : Type) (enc : TypeId × Value → H) :
    ReturnsInHanded {} Try.checked os 3 .any (Rows.fnSubstSpec.pre6 enc Try.prog Try.f3 Rows.fnSubstRow.domain false) (Rows.fnSubstSpec.post enc Try.prog Try.f3 false true false false) := by
  refine returnsInHanded_of_change_sized (C := Try.checked) own started (by kernel_rfl) Try.func3
    (ChangeSpec.witness6 (enc := enc) (C := Try.checked) false ⟨#[], #[.slice none 0 0], []⟩ 8 (by kernel_rfl) (by kernel_rfl) (by kernel_rfl) (by kernel_rfl)) ?_
  intro W base args ds gs before hval0 hW hcnd hsz0 _
  have hW' := hW
  obtain ⟨p, q, hA0, hV, rfl, hfz, hnd⟩ := hW
  obtain ⟨rfl, rfl⟩ := trodVars_none hV
  have hA : DataW.TrodAll enc Try.prog W 0 (fun _ => true) true [22] args.toList ds p := by
    have := hA0; rw [show (Try.checked.prog) = Try.prog from rfl, Try.params3] at this; exact this
  obtain ⟨v0, d0, rfl, rfl, h0⟩ := trodAll_one hA
  obtain ⟨x0, w0, r0⟩ := arg_bytes h0 (hval0 0 22 v0 (by rw [Try.params3]; rfl) rfl)
  obtain ⟨b, hb⟩ := Cw_run (law_FnSubst w0)
  have hargs : CsRel (fun _ => False) W false [(.sl (bytesC x0))] [v0] := ⟨_, _, rfl, r0, by simp, rfl⟩
  refine top_calls (E := E) (N' := N) (n := b) (g := 3) (cs := [(.sl (bytesC x0))]) (c := .bool true) (Checked.mixed Try.checked) primOk rfl rfl ⟨fun x hx => hx.elim, trivial⟩ (by decide) rfl hb hargs _ fun v' w' hv' hbel => ?_
  have hv' : v' = .bool true := hv'
  subst hv'
  exact ⟨_, rfl, _, _, _, [], _, [], hW', trodAll_mk1 (shut_bool Try.underlying4 _), trodAll_back goodOk hbel (by rw [Try.params3]; rfl) hA0, rfl, hbel.frame _, fun h => by cases h⟩

open Go.Proofs.Ytmjjaoffeajcbaa in
theorem over : Rows.fnSubstRow.holds Try.pinned (OpenSpec.ofChange Rows.fnSubstSpec) :=
  OpenClaim.holds_of_wide 3 Try.f3 rfl rfl rfl rfl rfl rfl rfl ⟨rfl, rfl, rfl, rfl, rfl⟩ rfl rfl rfl rfl rfl (by kernel_rfl) Try.func3 (by kernel_rfl)
    (of_decide_eq_true (by kernel_rfl)) (by unfold Func.isWrapper; first | (rw [if_pos (by decide +kernel)]; kernel_rfl) | (rw [if_neg (by decide +kernel)]; exact ⟨rfl, rfl⟩))
    (fun os started H enc _ => lifted os started H enc)
end Go.Proofs.Ytmjjaoffeajcbaa.Abs
namespace Go.Proofs.Ytmjjaoffeajcbaa
/-- The law FnSubst returns true for every input; it changes nothing of what it is given. -/
theorem fnSubst_holds : Rows.FnSubstSaid := Abs.over
end Go.Proofs.Ytmjjaoffeajcbaa

/- The law FnExactSameTy returns true, whatever the input, and leaves its arguments as they were. -/
import Derived.Test.YtlgonbonnjkekaaTySame
import Derived.Test.YtlgonbonnjkekaaBack
import Derived.Test.YtlgonbonnjkekaaRows
import Derived.WalkKit
import Derived.ProofKit
import Derived.OpenShut
import Derived.ChangeOld
import Derived.Below
import Derived.SizedLaws
set_option linter.unusedVariables false
namespace Go.Proofs.Ytlgonbonnjkekaa.Abs
open Go Go.Proofs

theorem wt_ty : ∀ (n : Nat) {cs : List CVal}, WT Try.prog n 32 cs → ∃ t : Ty, t.wt ∧ t.enc = .agg cs
  | 0, _, h => h.elim
  | 1, _, h => by
    unfold WT at h
    rw [Try.underlying32] at h
    obtain ⟨a, b, rfl, h, _⟩ := h
    exact h.elim
  | n + 2, cs, h => by
    unfold WT at h
    rw [Try.underlying32] at h
    obtain ⟨a, b, rfl, ha, a2, b2, rfl, ha2, a3, b3, rfl, ha3, hb⟩ := h
    have hb : b3 = [] := hb
    subst hb
    unfold WT at ha ha2 ha3
    rw [Try.underlying3] at ha ha2
    rw [Try.underlying30] at ha3
    obtain ⟨k, rfl, _⟩ := ha
    obtain ⟨nn, rfl, _⟩ := ha2
    obtain ⟨xs, rfl, hlen, hall⟩ := ha3
    have each : ∀ x ∈ xs, ∃ t : Ty, t.wt ∧ t.enc = x := by
      intro x hx
      obtain ⟨hf, hw⟩ := hall x hx
      obtain ⟨t, ht, he⟩ := wt_ty n hw
      have hagg : aggT Try.prog 32 = true := by unfold aggT; rw [Try.underlying32]
      rw [hagg] at hf
      refine ⟨t, ht, ?_⟩
      cases x with
      | agg cs => exact he
      | _ => simp [CVal.fits, CVal.isAggN] at hf
    have lift : ∀ l : List CVal, (∀ x ∈ l, ∃ t : Ty, t.wt ∧ t.enc = x) → ∃ ts : List Ty, ts.map Ty.enc = l ∧ ∀ t ∈ ts, t.wt := by
      intro l
      induction l with
      | nil => exact fun _ => ⟨[], rfl, by simp⟩
      | cons x r ih =>
        intro h
        obtain ⟨t, ht, he⟩ := h x (by simp)
        obtain ⟨ts, hts, hw⟩ := ih fun y hy => h y (by simp [hy])
        exact ⟨t :: ts, by simp [he, hts], fun u hu => by rcases List.mem_cons.1 hu with e | e; subst e; exact ht; exact hw u e⟩
    obtain ⟨ts, rfl, hw⟩ := lift xs each
    refine ⟨.mk k nn ts, by rw [Ty.wt]; exact ⟨by simpa using hlen, hw⟩, by rw [Ty.enc]; rfl⟩

open Go.ChangeShapes Go.WideShapes Go.ChangeAt Go.RowKit
open Go.Proofs.Ytlgonbonnjkekaa (Rows.fnExactSameTySpec Rows.fnExactSameTyRow)
theorem own : ownKnob Try.prog.godebug = none := by kernel_rfl
theorem goodOk : ([3, 30, 32] : List TypeId).all (goodT Try.prog [3, 30, 32]) = true := by kernel_rfl

theorem arg_ty {W : World} {H : Type} {enc : TypeId × Value → H} {v : Value} {d : DataW H} {p : List MemPlace} (h : DataW.Trod enc Try.prog W 0 (fun _ => true) true 32 v d p) (hv : ∃ cs, v = .agg cs) :
    ∃ t : Ty, t.wt ∧ CRel (fun _ => False) W t.enc v := by
  obtain ⟨n, h⟩ := h
  obtain ⟨cs, rfl⟩ := hv
  obtain ⟨ccs, hr, hw⟩ := trod_wt goodOk n (by rfl) h
  obtain ⟨t, ht, he⟩ := wt_ty n hw
  exact ⟨t, ht, by rw [he]; exact ⟨cs.toList, by simp, hr⟩⟩

theorem agg_of {W : World} {r : Reach} {base : Nat} {v : Value} (h : Value.okWide Try.prog W r base 32 v) : ∃ cs, v = .agg cs := by
  unfold Value.okWide at h
  rw [Try.underlying32] at h
  obtain ⟨cs, h, _⟩ := h
  exact ⟨cs, h⟩

open Go.Proofs.Ytlgonbonnjkekaa in
theorem lifted (os : Os) (started : os.Started) (H : Type) (enc : TypeId × Value → H) :
    ReturnsInHanded {} Try.checked os 5 .any (Rows.fnExactSameTySpec.pre6 enc Try.prog Try.f5 Rows.fnExactSameTyRow.domain false) (Rows.fnExactSameTySpec.post enc Try.prog Try.f5 false true false false) := by
  refine returnsInHanded_of_change_sized (C := Try.checked) own started (by kernel_rfl) Try.func5
    (ChangeSpec.witness6 (enc := enc) (C := Try.checked) false ⟨#[], #[.agg #[.int .i64 0, .int .i64 0, .slice none 0 0], .agg #[.int .i64 0, .int .i64 0, .slice none 0 0]], []⟩ 8 (by kernel_rfl) (by kernel_rfl) (by kernel_rfl) (by kernel_rfl)) ?_
  intro W base args ds gs before hval0 hW hcnd hsz0 _
  have hW' := hW
  obtain ⟨p, q, hA0, hV, rfl, hfz, hnd⟩ := hW
  obtain ⟨rfl, rfl⟩ := trodVars_none hV
  have hA : DataW.TrodAll enc Try.prog W 0 (fun _ => true) true [32, 32] args.toList ds p := by
    have := hA0; rw [show (Try.checked.prog) = Try.prog from rfl, Try.params5] at this; exact this
  obtain ⟨v, v', d, d', p1, p2, rfl, rfl, rfl, h1, h2⟩ := trodAll_two hA
  obtain ⟨t, ht, hr⟩ := arg_ty h1 (agg_of (hval0 0 32 v (by rw [Try.params5]; rfl) rfl))
  obtain ⟨u, hu, hr'⟩ := arg_ty h2 (agg_of (hval0 1 32 v' (by rw [Try.params5]; rfl) rfl))
  obtain ⟨b, hb⟩ := law ht hu
  have hargs : CsRel (fun _ => False) W false [t.enc, u.enc] [v, v'] := ⟨_, _, rfl, hr, by simp, _, _, rfl, hr', by simp, rfl⟩
  refine top_calls (E := E) (N' := N) (n := b) (g := 5) (cs := [t.enc, u.enc]) (c := .bool true) (Checked.mixed Try.checked) (fun g p h => by cases h) rfl (hb (b + 1) (by omega)) hargs _ fun v0 w' hv0 hbel => ?_
  have hv0 : v0 = .bool true := hv0
  subst hv0
  exact ⟨_, rfl, _, _, _, [], _, [], hW', trodAll_mk1 (shut_bool Try.underlying4 _), trodAll_back goodOk hbel (by rw [Try.params5]; rfl) hA0, rfl, hbel.frame _, fun h => by cases h⟩

open Go.Proofs.Ytlgonbonnjkekaa in
theorem over : Rows.fnExactSameTyRow.holds Try.pinned (OpenSpec.ofChange Rows.fnExactSameTySpec) :=
  OpenClaim.holds_of_wide 5 Try.f5 rfl rfl rfl rfl rfl rfl rfl ⟨rfl, rfl, rfl, rfl, rfl⟩ rfl rfl rfl rfl rfl (by kernel_rfl) Try.func5 (by kernel_rfl)
    (of_decide_eq_true (by kernel_rfl)) (by unfold Func.isWrapper; first | (rw [if_pos (by decide +kernel)]; kernel_rfl) | (rw [if_neg (by decide +kernel)]; exact ⟨rfl, rfl⟩))
    (fun os started H enc _ => lifted os started H enc)
end Go.Proofs.Ytlgonbonnjkekaa.Abs
namespace Go.Proofs.Ytlgonbonnjkekaa
/-- The law FnExactSameTy returns true for every input; it changes nothing of what it is given. -/
theorem fnExactSameTy_holds : Rows.FnExactSameTySaid := Abs.over
end Go.Proofs.Ytlgonbonnjkekaa

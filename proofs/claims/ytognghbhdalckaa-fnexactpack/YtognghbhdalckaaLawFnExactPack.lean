/- The law FnExactPack returns true, whatever the input, and leaves its arguments as they were. -/
import Derived.Test.YtognghbhdalckaaPackRow
import Derived.Test.YtognghbhdalckaaBack
import Derived.Test.YtognghbhdalckaaRows
import Derived.WalkKit
import Derived.ProofKit
import Derived.OpenShut
import Derived.ChangeOld
import Derived.Below
import Derived.SizedLaws
set_option linter.unusedVariables false
set_option maxRecDepth 100000
set_option linter.unusedSectionVars false
set_option linter.unusedSimpArgs false
namespace Go.Proofs.Ytognghbhdalckaa.Abs
open Go Go.Proofs

theorem wt_list {α : Type} {p : α → Prop} {enc : α → CVal} {n : Nat} {l e : TypeId} {cs : List CVal} (ha : aggT Try.prog e = true) (hl : Try.prog.underlying l = some (.slice e)) (hr : ∀ {cs}, WT Try.prog n e cs → ∃ t : α, p t ∧ enc t = .agg cs)
    (h : WT Try.prog (n + 1) l cs) : ∃ ts : List α, (ts.length ≤ maxLen ∧ ∀ t ∈ ts, p t) ∧ cs = [.sl (ts.map enc)] := by
  unfold WT at h
  rw [hl] at h
  obtain ⟨xs, rfl, hlen, hall⟩ := h
  have each : ∀ x ∈ xs, ∃ t : α, p t ∧ enc t = x := by
    intro x hx
    obtain ⟨hf, hw⟩ := hall x hx
    obtain ⟨t, ht, he⟩ := hr hw
    rw [ha] at hf
    refine ⟨t, ht, ?_⟩
    cases x with
    | agg cs => exact he
    | _ => simp [CVal.fits, CVal.isAggN] at hf
  have lift : ∀ l : List CVal, (∀ x ∈ l, ∃ t : α, p t ∧ enc t = x) → ∃ ts : List α, ts.map enc = l ∧ ∀ t ∈ ts, p t := by
    intro l
    induction l with
    | nil => exact fun _ => ⟨[], rfl, by simp⟩
    | cons x r ih =>
      intro h
      obtain ⟨t, ht, he⟩ := h x (by simp)
      obtain ⟨ts, hts, hw⟩ := ih fun y hy => h y (by simp [hy])
      exact ⟨t :: ts, by simp [he, hts], fun u hu => by rcases List.mem_cons.1 hu with e | e; subst e; exact ht; exact hw u e⟩
  obtain ⟨ts, rfl, hw⟩ := lift xs each
  exact ⟨ts, ⟨by simpa using hlen, hw⟩, rfl⟩
theorem wt_ints (n : Nat) {cs : List CVal} (h : WT Try.prog n 37 cs) : ∃ l : List Int, (l.length ≤ maxLen ∧ ∀ i ∈ l, i64 i) ∧ cs = [.sl (l.map (.int .i64))] := by
  cases n with
  | zero => exact h.elim
  | succ n =>
    unfold WT at h
    rw [Try.underlying37] at h
    obtain ⟨xs, rfl, hlen, hall⟩ := h
    have lift : ∀ l : List CVal, (∀ x ∈ l, ∃ i : Int, i64 i ∧ CVal.int .i64 i = x) → ∃ ts : List Int, ts.map (CVal.int .i64) = l ∧ ∀ t ∈ ts, i64 t := by
      intro l
      induction l with
      | nil => exact fun _ => ⟨[], rfl, by simp⟩
      | cons x r ih =>
        intro h
        obtain ⟨t, ht, he⟩ := h x (by simp)
        obtain ⟨ts, hts, hw⟩ := ih fun y hy => h y (by simp [hy])
        exact ⟨t :: ts, by simp [he, hts], fun u hu => by rcases List.mem_cons.1 hu with e | e; subst e; exact ht; exact hw u e⟩
    obtain ⟨ts, rfl, hw⟩ := lift xs fun x hx => by
      obtain ⟨hf, h⟩ := hall x hx
      cases n with
      | zero => exact h.elim
      | succ n =>
        unfold WT at h
        rw [Try.underlying3] at h
        obtain ⟨v, hv, w⟩ := h
        refine ⟨v, i64_of_wf w, ?_⟩
        cases x with
        | agg l => unfold aggT at hf; rw [Try.underlying3] at hf; simp [CVal.fits, CVal.isFlat] at hf
        | _ => simpa [CVal.cells] using hv.symm
    exact ⟨ts, ⟨by simpa using hlen, hw⟩, rfl⟩
theorem wt_Ins : ∀ (n : Nat) {cs : List CVal}, WT Try.prog n 46 cs → ∃ t : Ins, t.wt ∧ t.enc = .agg cs
  | 0, _, h => h.elim
  | 1, _, h => by
    unfold WT at h
    rw [Try.underlying46] at h
    obtain ⟨a, b, rfl, h, _⟩ := h
    exact h.elim
  | n + 2, cs, h => by
    unfold WT at h
    rw [Try.underlying46] at h
    obtain ⟨b0, r0, rfl, h0, b1, r1, rfl, h1, b2, r2, rfl, h2, b3, r3, rfl, h3, b4, r4, rfl, h4, b5, r5, rfl, h5, b6, r6, rfl, h6, hend⟩ := h
    have hend : r6 = [] := hend
    subst hend
    unfold WT at h0
    rw [Try.underlying3] at h0
    obtain ⟨v0, rfl, w0⟩ := h0
    unfold WT at h1
    rw [Try.underlying3] at h1
    obtain ⟨v1, rfl, w1⟩ := h1
    unfold WT at h2
    rw [Try.underlying3] at h2
    obtain ⟨v2, rfl, w2⟩ := h2
    unfold WT at h3
    rw [Try.underlying3] at h3
    obtain ⟨v3, rfl, w3⟩ := h3
    unfold WT at h4
    rw [Try.underlying3] at h4
    obtain ⟨v4, rfl, w4⟩ := h4
    obtain ⟨v5, w5, rfl⟩ := wt_ints (n + 1) h5
    unfold WT at h6
    rw [Try.underlying3] at h6
    obtain ⟨v6, rfl, w6⟩ := h6
    refine ⟨.mk v0 v1 v2 v3 v4 v5 v6, (Ins.wt_def _).2 ⟨i64_of_wf w0, i64_of_wf w1, i64_of_wf w2, i64_of_wf w3, i64_of_wf w4, w5, i64_of_wf w6⟩, ?_⟩
    rw [Ins.enc_def]
    rfl
theorem wt_Piece : ∀ (n : Nat) {cs : List CVal}, WT Try.prog n 24 cs → ∃ t : Piece, t.wt ∧ t.enc = .agg cs
  | 0, _, h => h.elim
  | 1, _, h => by
    unfold WT at h
    rw [Try.underlying24] at h
    obtain ⟨a, b, rfl, h, _⟩ := h
    exact h.elim
  | n + 2, cs, h => by
    unfold WT at h
    rw [Try.underlying24] at h
    obtain ⟨b0, r0, rfl, h0, b1, r1, rfl, h1, b2, r2, rfl, h2, b3, r3, rfl, h3, hend⟩ := h
    have hend : r3 = [] := hend
    subst hend
    unfold WT at h0
    rw [Try.underlying3] at h0
    obtain ⟨v0, rfl, w0⟩ := h0
    unfold WT at h1
    rw [Try.underlying3] at h1
    obtain ⟨v1, rfl, w1⟩ := h1
    unfold WT at h2
    rw [Try.underlying3] at h2
    obtain ⟨v2, rfl, w2⟩ := h2
    obtain ⟨v3, w3, rfl⟩ := wt_list (e := 46) (p := Ins.wt) (enc := Ins.enc) (by unfold aggT; rw [Try.underlying46]) Try.underlying22 (fun hw => wt_Ins n hw) h3
    refine ⟨.mk v0 v1 v2 v3, (Piece.wt_def _).2 ⟨i64_of_wf w0, i64_of_wf w1, i64_of_wf w2, w3⟩, ?_⟩
    rw [Piece.enc_def]
    rfl

open Go.ChangeShapes Go.WideShapes Go.ChangeAt Go.RowKit
open Go.Proofs.Ytognghbhdalckaa (Rows.fnExactPackSpec Rows.fnExactPackRow)
theorem own : ownKnob Try.prog.godebug = none := by kernel_rfl
theorem goodOk : ([3, 22, 24, 37, 46] : List TypeId).all (goodT Try.prog [3, 22, 24, 37, 46]) = true := by kernel_rfl
theorem arg_Piece {W : World} {H : Type} {enc : TypeId × Value → H} {r : Reach} {base : Nat} {v : Value} {d : DataW H} {p : List MemPlace} (h : DataW.Trod enc Try.prog W 0 (fun _ => true) true 24 v d p) (hv : Value.okWide Try.prog W r base 24 v) :
    ∃ t : Piece, t.wt ∧ CRel (fun _ => False) W t.enc v := by
  obtain ⟨n, h⟩ := h
  unfold Value.okWide at hv
  rw [Try.underlying24] at hv
  obtain ⟨cs, rfl, _⟩ := hv
  obtain ⟨ccs, hr, hw⟩ := trod_wt goodOk n (by rfl) h
  obtain ⟨t, ht, he⟩ := wt_Piece n hw
  exact ⟨t, ht, by rw [he]; exact ⟨cs.toList, by simp, hr⟩⟩

open Go.Proofs.Ytognghbhdalckaa in
theorem lifted (os : Os) (started : os.Started) (H : Type) (enc : TypeId × Value → H) :
    ReturnsInHanded {} Try.checked os 3 .any (Rows.fnExactPackSpec.pre6 enc Try.prog Try.f3 Rows.fnExactPackRow.domain false) (Rows.fnExactPackSpec.post enc Try.prog Try.f3 false true false false) := by
  refine returnsInHanded_of_change_sized (C := Try.checked) own started (by kernel_rfl) Try.func3
    (ChangeSpec.witness6 (enc := enc) (C := Try.checked) false ⟨#[], #[.agg #[.int .i64 0, .int .i64 0, .int .i64 0, .slice none 0 0]], []⟩ 8 (by kernel_rfl) (by kernel_rfl) (by kernel_rfl) (by kernel_rfl)) ?_
  intro W base args ds gs before hval0 hW hcnd hsz0 _
  have hW' := hW
  obtain ⟨p, q, hA0, hV, rfl, hfz, hnd⟩ := hW
  obtain ⟨rfl, rfl⟩ := trodVars_none hV
  have hA : DataW.TrodAll enc Try.prog W 0 (fun _ => true) true [24] args.toList ds p := by
    have := hA0; rw [show (Try.checked.prog) = Try.prog from rfl, Try.params3] at this; exact this
  obtain ⟨v0, d0, rfl, rfl, h0⟩ := trodAll_one hA
  obtain ⟨x0, w0, r0⟩ := arg_Piece h0 (hval0 0 24 v0 (by rw [Try.params3]; rfl) rfl)
  obtain ⟨b, hb⟩ := Cw_run (law_Pack w0)
  have hargs : CsRel (fun _ => False) W false [x0.enc] [v0] := ⟨_, _, rfl, r0, by simp, rfl⟩
  refine top_calls (E := E) (N' := N) (n := b) (g := 3) (cs := [x0.enc]) (c := .bool true) (Checked.mixed Try.checked) primOk rfl rfl ⟨fun x hx => hx.elim, trivial⟩ (by decide) rfl hb hargs _ fun v' w' hv' hbel => ?_
  have hv' : v' = .bool true := hv'
  subst hv'
  exact ⟨_, rfl, _, _, _, [], _, [], hW', trodAll_mk1 (shut_bool Try.underlying4 _), trodAll_back goodOk hbel (by rw [Try.params3]; rfl) hA0, rfl, hbel.frame _, fun h => by cases h⟩

open Go.Proofs.Ytognghbhdalckaa in
theorem over : Rows.fnExactPackRow.holds Try.pinned (OpenSpec.ofChange Rows.fnExactPackSpec) :=
  OpenClaim.holds_of_wide 3 Try.f3 rfl rfl rfl rfl rfl rfl rfl ⟨rfl, rfl, rfl, rfl, rfl⟩ rfl rfl rfl rfl rfl (by kernel_rfl) Try.func3 (by kernel_rfl)
    (of_decide_eq_true (by kernel_rfl)) (by unfold Func.isWrapper; first | (rw [if_pos (by decide +kernel)]; kernel_rfl) | (rw [if_neg (by decide +kernel)]; exact ⟨rfl, rfl⟩))
    (fun os started H enc _ => lifted os started H enc)
end Go.Proofs.Ytognghbhdalckaa.Abs
namespace Go.Proofs.Ytognghbhdalckaa
/-- The law FnExactPack returns true for every input; it changes nothing of what it is given. -/
theorem fnExactPack_holds : Rows.FnExactPackSaid := Abs.over
end Go.Proofs.Ytognghbhdalckaa

/- Texts for the law FnExactSameTy. -/
import Derived.Test.YtlgonbonnjkekaaKit
import Derived.Test.YtlgonbonnjkekaaTyEqs
set_option linter.unusedVariables false
set_option linter.unusedSimpArgs false
namespace Go.Proofs.Ytlgonbonnjkekaa.Abs
open Go Go.Proofs

inductive Ty where
  | mk (k n : Int) (a : List Ty)

def Ty.enc : Ty → CVal
  | .mk k n a => .agg [.int .i64 k, .int .i64 n, .sl (a.map Ty.enc)]

noncomputable abbrev Cn (n : Nat) := (run E N n).1
noncomputable abbrev Ln (n : Nat) := (run E N n).2

/-- The sizes that szTy lets through. -/
def Ty.ok : Ty → Prop
  | .mk k n a => a.length ≤ 1048576 ∧ ∀ t ∈ a, t.ok

theorem fn_next {g : Nat} {args : List AVal} {pbs : List PB} {r : Ret} (h : Evt fun n => evF E N (Cn n) (Ln n) g args pbs = some r) : Evt fun n => Cn n g args pbs = some r := h.next fun n h => h

theorem toTyS_loop {ts : List Ty} {b : Nat} (hl : ts.length ≤ 1048576) (h : ∀ n, b ≤ n → ∀ t ∈ ts, Cn n 15 [.v t.enc] [] = some (t.enc, [])) :
    ∀ (d i : Nat) (ys : List CVal), i + d = ts.length → ys.length = ts.length → (∀ j, i ≤ j → j < ts.length → ∃ cs, ys[j]? = some (.agg cs) ∧ cs.length = 3) → ∀ n, b + d + 1 ≤ n →
      Ln n 28 0 (loopCode Try.prog 28 0) [] k28_0 ((ts.map Ty.enc, (), (i : Int), ()), ys, ()) = some (.out 0 ((ts.map Ty.enc, (), (ts.length : Int), ()), ys.take i ++ (ts.drop i).map Ty.enc, ()))
  | 0, i, ys, hi, hy, hz, n, hn => by
    obtain ⟨m, rfl⟩ : ∃ m, n = m + 1 := ⟨n - 1, by omega⟩
    show evL E N (Cn m) (Ln m) 28 0 _ [] k28_0 _ = _
    rw [el28_0]
    have : i = ts.length := by omega
    subst this
    simp [nl28_0, ← hy]
  | d + 1, i, ys, hi, hy, hz, n, hn => by
    obtain ⟨m, rfl⟩ : ∃ m, n = m + 1 := ⟨n - 1, by omega⟩
    show evL E N (Cn m) (Ln m) 28 0 _ [] k28_0 _ = _
    rw [el28_0]
    have hlt : i < ts.length := by omega
    obtain ⟨cs, hcs, hc3⟩ := hz i (Nat.le_refl _) hlt
    have ht := h m (by omega) ts[i] (List.getElem_mem _)
    have ih := toTyS_loop hl h d (i + 1) (ys.set i ts[i].enc) (by omega) (by simp [hy]) (fun j hj hj' => by
      obtain ⟨cs', h1, h2⟩ := hz j (by omega) hj'
      exact ⟨cs', by rw [List.getElem?_set_ne (by omega)]; exact h1, h2⟩) m (by omega)
    have hget : (ts.map Ty.enc)[(i : Int).toNat]? = some ts[i].enc := by simp [hlt]
    have hw : IntKind.i64.wrap ((i : Int) + 1) = ((i + 1 : Nat) : Int) := by rw [wrap_i64] <;> omega
    have henc : ∃ k nn a, ts[i].enc = .agg [.int .i64 k, .int .i64 nn, .sl a] := by
      cases ts[i] with | mk k nn a => exact ⟨k, nn, _, by rw [Ty.enc]⟩
    obtain ⟨k, nn, a, he⟩ := henc
    have h1 : ((i : Int) < ((ts.map Ty.enc).length : Int)) := by simp; omega
    have h2 : i < ys.length := by omega
    rw [he] at ht hget ih
    unfold nl28_0
    simp only [hget, Option.bind_some]
    have e1 : CVal.sub (.agg [.int .i64 k, .int .i64 nn, .sl a]) (nat_lit 0) 3 = some (.agg [.int .i64 k, .int .i64 nn, .sl a]) := sub_agg rfl
    rw [e1]
    simp only [Option.bind_some, ht]
    have hys : ys[(i : Int).toNat]? = some (.agg cs) := by simpa using hcs
    rw [hys, hw]
    have e2 : (i : Int).toNat = i := by simp
    rw [e2, ih]
    simp [h2, hc3]
    rw [show decide (i < ts.length) = true by simpa using hlt, br_true', take_set_drop h2 (by simpa using hget)]

theorem toTyS_law {ts : List Ty} (hl : ts.length ≤ 1048576) (h : ∀ t ∈ ts, Evt fun n => Cn n 15 [.v t.enc] [] = some (t.enc, [])) : Evt fun n => Cn n 28 [.v (.sl (ts.map Ty.enc))] [] = some (.sl (ts.map Ty.enc), []) := by
  obtain ⟨b, hb⟩ := Evt.all h
  refine fn_next ⟨b + ts.length + 1, fun n hn => ?_⟩
  show evF E N (Cn n) (Ln n) 28 _ [] = _
  rw [eq28]
  unfold nf28
  have hz : List.replicate ((ts.map Ty.enc).length : Int).toNat (CVal.agg [CVal.int IntKind.i64 0, CVal.int IntKind.i64 0, CVal.sl []]) = List.replicate ts.length (CVal.agg [CVal.int IntKind.i64 0, CVal.int IntKind.i64 0, CVal.sl []]) := by simp
  have := toTyS_loop hl hb ts.length 0 (List.replicate ts.length (CVal.agg [CVal.int IntKind.i64 0, CVal.int IntKind.i64 0, CVal.sl []])) (by omega) (by simp) (fun j _ hj => ⟨_, by simp [hj]; rfl, rfl⟩) n (by omega)
  rw [hz]
  have e : ((0 : Nat) : Int) = 0 := rfl
  rw [e] at this
  rw [this]
  have h2 : ((ts.length : Int) ≤ 1048576) := by omega
  simp [h2]

theorem toTy_law : ∀ t : Ty, t.ok → Evt fun n => Cn n 15 [.v t.enc] [] = some (t.enc, [])
  | .mk k nn a, h => by
    rw [Ty.ok] at h
    have := toTyS_law h.1 fun t ht => toTy_law t (h.2 t ht)
    refine fn_next (this.mono fun n hn => ?_)
    rw [Ty.enc, eq15]
    simp [nf15, hn]
termination_by t => SizeOf.sizeOf t
decreasing_by
  have := List.sizeOf_lt_of_mem ht
  simp; omega

/-- Lengths that there can be. -/
def Ty.wt : Ty → Prop
  | .mk k n a => a.length ≤ maxLen ∧ ∀ t ∈ a, t.wt

/-- What szTy comes to. -/
def SzOk (t : Ty) : Prop := ∀ left : Int, 0 ≤ left → left ≤ 1048576 → ∃ r : Int, (Evt fun n => Cn n 13 [.v t.enc, .v (.int .i64 left)] [] = some (.int .i64 r, [])) ∧ r ≤ left ∧ -1 ≤ r ∧ (0 ≤ r → t.ok)

theorem szTyS_loop {ts : List Ty} (hl : ts.length ≤ 1048576) (h : ∀ t ∈ ts, SzOk t) : ∀ (d i : Nat) (left : Int), i + d = ts.length → 0 ≤ left → left ≤ 1048576 →
    (Evt fun n => Ln n 27 0 (loopCode Try.prog 27 0) [] k27_0 ((ts.map Ty.enc, left, (i : Int), ()), ()) = some (.ret (.int .i64 (-1), []))) ∨
    ∃ r : Int, (Evt fun n => Ln n 27 0 (loopCode Try.prog 27 0) [] k27_0 ((ts.map Ty.enc, left, (i : Int), ()), ()) = some (.out 0 ((ts.map Ty.enc, r, (ts.length : Int), ()), ()))) ∧ 0 ≤ r ∧ r ≤ left ∧ ∀ t ∈ ts.drop i, t.ok
  | 0, i, left, hi, h0, h1 => by
    refine .inr ⟨left, ?_, h0, Int.le_refl _, ?_⟩
    · refine (Evt.of (p := fun _ => True) fun _ => trivial).next fun n _ => ?_
      show evL E N (Cn n) (Ln n) 27 0 _ [] k27_0 _ = _
      rw [el27_0]
      have : i = ts.length := by omega
      subst this
      simp [nl27_0]
    · intro t ht
      rw [List.drop_of_length_le (by omega)] at ht
      cases ht
  | d + 1, i, left, hi, h0, h1 => by
    have hlt : i < ts.length := by omega
    obtain ⟨r, hr, hr1, hr2, hr3⟩ := h ts[i] (List.getElem_mem _) left h0 h1
    have hget : (ts.map Ty.enc)[(i : Int).toNat]? = some ts[i].enc := by simp [hlt]
    have hw : IntKind.i64.wrap ((i : Int) + 1) = ((i + 1 : Nat) : Int) := by rw [wrap_i64] <;> omega
    have henc : ∃ k nn a, ts[i].enc = .agg [.int .i64 k, .int .i64 nn, .sl a] := by
      cases ts[i] with | mk k nn a => exact ⟨k, nn, _, by rw [Ty.enc]⟩
    obtain ⟨k, nn, a, he⟩ := henc
    rw [he] at hr hget
    have e1 : CVal.sub (.agg [.int .i64 k, .int .i64 nn, .sl a]) (nat_lit 0) 3 = some (.agg [.int .i64 k, .int .i64 nn, .sl a]) := sub_agg rfl
    have hdec : decide ((i : Int) < ((ts.map Ty.enc).length : Int)) = true := by simp; omega
    by_cases hneg : r < 0
    · refine .inl (hr.next fun n hn => ?_)
      show evL E N (Cn n) (Ln n) 27 0 _ [] k27_0 _ = _
      rw [el27_0]
      unfold nl27_0
      simp only [hget, Option.bind_some]
      rw [e1, hdec]
      simp [hn, hneg]
    · have rest := szTyS_loop hl h d (i + 1) r (by omega) (by omega) (by omega)
      have step : ∀ out, (Evt fun n => Ln n 27 0 (loopCode Try.prog 27 0) [] k27_0 ((ts.map Ty.enc, r, ((i + 1 : Nat) : Int), ()), ()) = some out) →
          Evt fun n => Ln n 27 0 (loopCode Try.prog 27 0) [] k27_0 ((ts.map Ty.enc, left, (i : Int), ()), ()) = some out := by
        intro out ho
        refine (hr.and ho).next fun n ⟨hn, hn2⟩ => ?_
        show evL E N (Cn n) (Ln n) 27 0 _ [] k27_0 _ = _
        rw [el27_0]
        unfold nl27_0
        simp only [hget, Option.bind_some]
        rw [e1, hdec, hw]
        simp only [br_true', Option.bind_some, hn, asInt_int]
        rw [show decide (r < 0) = false by simpa using hneg]
        simp
        exact hn2
      rcases rest with h2 | ⟨r', h2, h3, h4, h5⟩
      · exact .inl (step _ h2)
      · refine .inr ⟨r', step _ h2, h3, by omega, fun t ht => ?_⟩
        rw [List.drop_eq_getElem_cons hlt] at ht
        rcases List.mem_cons.1 ht with e | e
        · subst e; exact hr3 (by omega)
        · exact h5 t e

theorem szTy_law : ∀ t : Ty, t.wt → SzOk t
  | .mk k nn a, hwt => by
    rw [Ty.wt] at hwt
    intro left h0 h1
    have key : ∃ r : Int, (Evt fun n => Cn n 27 [.v (.sl (a.map Ty.enc)), .v (.int .i64 left)] [] = some (.int .i64 r, [])) ∧ r ≤ left ∧ -1 ≤ r ∧ (0 ≤ r → a.length ≤ 1048576 ∧ ∀ t ∈ a, t.ok) := by
      have hw : IntKind.i64.wrap (left - ((a.map Ty.enc).length : Int)) = left - (a.length : Int) := by
        have := hwt.1
        unfold maxLen at this
        rw [List.length_map, wrap_i64] <;> omega
      by_cases hs : left - (a.length : Int) < 0
      · refine ⟨-1, fn_next (.of fun n => ?_), by omega, by omega, by omega⟩
        rw [eq27]
        unfold nf27
        rw [hw]
        simp [hs]
      · rcases szTyS_loop (by omega) (fun t ht => szTy_law t (hwt.2 t ht)) a.length 0 (left - (a.length : Int)) (by omega) (by omega) (by omega) with h2 | ⟨r, h2, h3, h4, h5⟩
        · refine ⟨-1, fn_next (h2.mono fun n hn => ?_), by omega, by omega, by omega⟩
          rw [eq27]
          unfold nf27
          rw [hw]
          have e : ((0 : Nat) : Int) = 0 := rfl
          rw [e] at hn
          rw [hn]
          simp [hs]
        · refine ⟨r, fn_next (h2.mono fun n hn => ?_), by omega, by omega, fun _ => ⟨by omega, fun t ht => h5 t (by simpa using ht)⟩⟩
          rw [eq27]
          unfold nf27
          rw [hw]
          have e : ((0 : Nat) : Int) = 0 := rfl
          rw [e] at hn
          rw [hn]
          simp [hs]
    obtain ⟨r, hr, hr1, hr2, hr3⟩ := key
    by_cases hneg : r < 0
    · refine ⟨-1, fn_next (hr.mono fun n hn => ?_), by omega, by omega, by omega⟩
      rw [Ty.enc, eq13]
      simp [nf13, hn, hneg]
    · refine ⟨r, fn_next (hr.mono fun n hn => ?_), hr1, hr2, fun h => by rw [Ty.ok]; exact hr3 h⟩
      rw [Ty.enc, eq13]
      simp [nf13, hn, hneg]
termination_by t => SizeOf.sizeOf t
decreasing_by
  have := List.sizeOf_lt_of_mem ht
  simp; omega

theorem Ty.shape (t : Ty) : ∃ k nn a, t.enc = .agg [.int .i64 k, .int .i64 nn, .sl a] := by
  cases t with | mk k nn a => exact ⟨k, nn, _, by rw [Ty.enc]⟩

/-- Both answer alike. -/
def Alike (t u : Ty) : Prop := ∃ r : Bool, (Evt fun n => Cn n 14 [.v t.enc, .v u.enc] [] = some (.bool r, [])) ∧ (Evt fun n => Cn n 16 [.v t.enc, .v u.enc] [] = some (.bool r, []))

theorem alike_loop {ts us : List Ty} (hl : ts.length ≤ 1048576) (hlu : ts.length = us.length) (h : ∀ t ∈ ts, ∀ u, Alike t u) (k nn k' nn' : Int) : ∀ (d i : Nat), i + d = ts.length →
    ((Evt fun n => Ln n 14 0 (loopCode Try.prog 14 0) [] k14_0 (((), (), (i : Int), ()), (k, nn, ts.map Ty.enc, ()), (k', nn', us.map Ty.enc, ()), ()) = some (.ret (.bool false, []))) ∧
      Evt fun n => Ln n 29 0 (loopCode Try.prog 29 0) [] k29_0 ((us.map Ty.enc, (), ts.map Ty.enc, (ts.length : Int), (i : Int), ()), ()) = some (.ret (.bool false, []))) ∨
    ∃ p q, (Evt fun n => Ln n 14 0 (loopCode Try.prog 14 0) [] k14_0 (((), (), (i : Int), ()), (k, nn, ts.map Ty.enc, ()), (k', nn', us.map Ty.enc, ()), ()) = some (.out 0 p)) ∧
      Evt fun n => Ln n 29 0 (loopCode Try.prog 29 0) [] k29_0 ((us.map Ty.enc, (), ts.map Ty.enc, (ts.length : Int), (i : Int), ()), ()) = some (.out 0 q)
  | 0, i, hi => by
    refine .inr ⟨(((), (), (i : Int), ()), (k, nn, ts.map Ty.enc, ()), (k', nn', us.map Ty.enc, ()), ()), ((us.map Ty.enc, (), ts.map Ty.enc, (ts.length : Int), (i : Int), ()), ()),
      (Evt.of (p := fun _ => True) fun _ => trivial).next fun n _ => ?_, (Evt.of (p := fun _ => True) fun _ => trivial).next fun n _ => ?_⟩
    · show evL E N (Cn n) (Ln n) 14 0 _ [] k14_0 _ = _
      rw [el14_0]
      unfold nl14_0
      rw [show decide ((i : Int) < ((ts.map Ty.enc).length : Int)) = false by simp; omega]
      rfl
    · show evL E N (Cn n) (Ln n) 29 0 _ [] k29_0 _ = _
      rw [el29_0]
      unfold nl29_0
      rw [show decide ((i : Int) < (ts.length : Int)) = false by simp; omega]
      rfl
  | d + 1, i, hi => by
    have hlt : i < ts.length := by omega
    have hltu : i < us.length := by omega
    obtain ⟨r, hr, hr'⟩ := h ts[i] (List.getElem_mem _) us[i]
    have hget : (ts.map Ty.enc)[(i : Int).toNat]? = some ts[i].enc := by simp [hlt]
    have hgetu : (us.map Ty.enc)[(i : Int).toNat]? = some us[i].enc := by simp [hltu]
    have hw : IntKind.i64.wrap ((i : Int) + 1) = ((i + 1 : Nat) : Int) := by rw [wrap_i64] <;> omega
    obtain ⟨k1, n1, a1, he⟩ := ts[i].shape
    obtain ⟨k2, n2, a2, hu⟩ := us[i].shape
    rw [he, hu] at hr hr'
    rw [he] at hget
    rw [hu] at hgetu
    have e1 : ∀ k nn a, CVal.sub (.agg [.int .i64 k, .int .i64 nn, .sl a]) (nat_lit 0) 3 = some (.agg [.int .i64 k, .int .i64 nn, .sl a]) := fun _ _ _ => sub_agg rfl
    have hdec : decide ((i : Int) < ((ts.map Ty.enc).length : Int)) = true := by simp; omega
    have hdec2 : decide ((i : Int) < (ts.length : Int)) = true := by simp; omega
    cases r with
    | false =>
      refine .inl ⟨hr.next fun n hn => ?_, hr'.next fun n hn => ?_⟩
      · show evL E N (Cn n) (Ln n) 14 0 _ [] k14_0 _ = _
        rw [el14_0]
        unfold nl14_0
        simp only [hget, hgetu, Option.bind_some, e1, hdec]
        simp [hn]
      · show evL E N (Cn n) (Ln n) 29 0 _ [] k29_0 _ = _
        rw [el29_0]
        unfold nl29_0
        simp only [hget, hgetu, Option.bind_some, e1, hdec2]
        simp [hn]
    | true =>
      have step : ∀ out, (Evt fun n => Ln n 14 0 (loopCode Try.prog 14 0) [] k14_0 (((), (), ((i + 1 : Nat) : Int), ()), (k, nn, ts.map Ty.enc, ()), (k', nn', us.map Ty.enc, ()), ()) = some out) →
          Evt fun n => Ln n 14 0 (loopCode Try.prog 14 0) [] k14_0 (((), (), (i : Int), ()), (k, nn, ts.map Ty.enc, ()), (k', nn', us.map Ty.enc, ()), ()) = some out := by
        intro out ho
        refine (hr.and ho).next fun n ⟨hn, hn2⟩ => ?_
        show evL E N (Cn n) (Ln n) 14 0 _ [] k14_0 _ = _
        rw [el14_0]
        unfold nl14_0
        simp only [hget, hgetu, Option.bind_some, e1, hdec, hw]
        simp [hn]
        exact hn2
      have step2 : ∀ out, (Evt fun n => Ln n 29 0 (loopCode Try.prog 29 0) [] k29_0 ((us.map Ty.enc, (), ts.map Ty.enc, (ts.length : Int), ((i + 1 : Nat) : Int), ()), ()) = some out) →
          Evt fun n => Ln n 29 0 (loopCode Try.prog 29 0) [] k29_0 ((us.map Ty.enc, (), ts.map Ty.enc, (ts.length : Int), (i : Int), ()), ()) = some out := by
        intro out ho
        refine (hr'.and ho).next fun n ⟨hn, hn2⟩ => ?_
        show evL E N (Cn n) (Ln n) 29 0 _ [] k29_0 _ = _
        rw [el29_0]
        unfold nl29_0
        simp only [hget, hgetu, Option.bind_some, e1, hdec2, hw]
        simp [hn]
        exact hn2
      rcases alike_loop hl hlu h k nn k' nn' d (i + 1) (by omega) with ⟨h1, h2⟩ | ⟨p, q, h1, h2⟩
      · exact .inl ⟨step _ h1, step2 _ h2⟩
      · exact .inr ⟨p, q, step _ h1, step2 _ h2⟩

theorem same_law : ∀ t : Ty, t.ok → ∀ u : Ty, Alike t u
  | .mk k nn a, h, .mk k' nn' a' => by
    rw [Ty.ok] at h
    have alike := fun t ht => same_law t (h.2 t ht)
    by_cases hk : k = k'
    · by_cases hn : nn = nn'
      · by_cases hlen : a.length = a'.length
        · subst hk hn
          have e : ((0 : Nat) : Int) = 0 := rfl
          rcases alike_loop h.1 hlen alike k nn k nn a.length 0 (by omega) with ⟨h1, h2⟩ | ⟨p, q, h1, h2⟩
          · have h3 : Evt fun n => Cn n 29 [.v (.sl (a.map Ty.enc)), .v (.sl (a'.map Ty.enc)), .v (.func 16 [])] [] = some (.bool false, []) := by
              refine fn_next (h2.mono fun n hn => ?_)
              rw [eq29]
              unfold nf29
              rw [e] at hn
              have e2 : (((a.map Ty.enc).length : Nat) : Int) = (a.length : Int) := by simp
              rw [e2, hn]
              simp [hlen]
            refine ⟨false, fn_next (h1.mono fun n hn => ?_), fn_next (h3.mono fun n hn => ?_)⟩
            · rw [Ty.enc, Ty.enc, eq14]
              unfold nf14
              rw [e] at hn
              rw [hn]
              simp [hlen]
            · rw [Ty.enc, Ty.enc, eq16]
              unfold nf16
              simp [hn]
          · have h3 : Evt fun n => Cn n 29 [.v (.sl (a.map Ty.enc)), .v (.sl (a'.map Ty.enc)), .v (.func 16 [])] [] = some (.bool true, []) := by
              refine fn_next (h2.mono fun n hn => ?_)
              rw [eq29]
              unfold nf29
              rw [e] at hn
              have e2 : (((a.map Ty.enc).length : Nat) : Int) = (a.length : Int) := by simp
              rw [e2, hn]
              simp [hlen]
            refine ⟨true, fn_next (h1.mono fun n hn => ?_), fn_next (h3.mono fun n hn => ?_)⟩
            · rw [Ty.enc, Ty.enc, eq14]
              unfold nf14
              rw [e] at hn
              rw [hn]
              simp [hlen]
            · rw [Ty.enc, Ty.enc, eq16]
              unfold nf16
              simp [hn]
        · have hlen' : ¬ ((a.length : Int) = (a'.length : Int)) := by omega
          have h3 : Evt fun n => Cn n 29 [.v (.sl (a.map Ty.enc)), .v (.sl (a'.map Ty.enc)), .v (.func 16 [])] [] = some (.bool false, []) := by
            refine fn_next (.of fun n => ?_)
            rw [eq29]
            unfold nf29
            simp [hlen']
          refine ⟨false, fn_next (.of fun n => ?_), fn_next (h3.mono fun n hn' => ?_)⟩
          · rw [Ty.enc, Ty.enc, eq14]
            unfold nf14
            simp [hlen', hk, hn]
          · rw [Ty.enc, Ty.enc, eq16]
            unfold nf16
            simp [hn', hk, hn]
      · refine ⟨false, fn_next (.of fun n => ?_), fn_next (.of fun n => ?_)⟩
        · rw [Ty.enc, Ty.enc, eq14]
          unfold nf14
          simp [hk, hn]
        · rw [Ty.enc, Ty.enc, eq16]
          unfold nf16
          simp [hk, hn]
    · refine ⟨false, fn_next (.of fun n => ?_), fn_next (.of fun n => ?_)⟩
      · rw [Ty.enc, Ty.enc, eq14]
        unfold nf14
        simp [hk]
      · rw [Ty.enc, Ty.enc, eq16]
        unfold nf16
        simp [hk]
termination_by t => SizeOf.sizeOf t
decreasing_by
  have := List.sizeOf_lt_of_mem ht
  simp; omega

theorem eqTyS_loop {ts : List Ty} (hl : ts.length ≤ 1048576) (h : ∀ t ∈ ts, Evt fun n => Cn n 17 [.v t.enc, .v t.enc] [] = some (.bool true, [])) : ∀ (d i : Nat), i + d = ts.length →
    Evt fun n => Ln n 30 0 (loopCode Try.prog 30 0) [] k30_0 ((ts.map Ty.enc, ts.map Ty.enc, (i : Int), ()), ()) = some (.out 0 ((ts.map Ty.enc, ts.map Ty.enc, (ts.length : Int), ()), ()))
  | 0, i, hi => by
    refine (Evt.of (p := fun _ => True) fun _ => trivial).next fun n _ => ?_
    show evL E N (Cn n) (Ln n) 30 0 _ [] k30_0 _ = _
    rw [el30_0]
    have : i = ts.length := by omega
    subst this
    simp [nl30_0]
  | d + 1, i, hi => by
    have hlt : i < ts.length := by omega
    have hr := h ts[i] (List.getElem_mem _)
    have hget : (ts.map Ty.enc)[(i : Int).toNat]? = some ts[i].enc := by simp [hlt]
    have hw : IntKind.i64.wrap ((i : Int) + 1) = ((i + 1 : Nat) : Int) := by rw [wrap_i64] <;> omega
    obtain ⟨k1, n1, a1, he⟩ := ts[i].shape
    rw [he] at hr hget
    have e1 : ∀ k nn a, CVal.sub (.agg [.int .i64 k, .int .i64 nn, .sl a]) (nat_lit 0) 3 = some (.agg [.int .i64 k, .int .i64 nn, .sl a]) := fun _ _ _ => sub_agg rfl
    have hdec : decide ((i : Int) < ((ts.map Ty.enc).length : Int)) = true := by simp; omega
    refine (hr.and (eqTyS_loop hl h d (i + 1) (by omega))).next fun n ⟨hn, hn2⟩ => ?_
    show evL E N (Cn n) (Ln n) 30 0 _ [] k30_0 _ = _
    rw [el30_0]
    unfold nl30_0
    simp only [hget, Option.bind_some, e1, hdec, hw]
    simp [hn]
    exact hn2

theorem eqTy_law : ∀ t : Ty, t.ok → Evt fun n => Cn n 17 [.v t.enc, .v t.enc] [] = some (.bool true, [])
  | .mk k nn a, h => by
    rw [Ty.ok] at h
    have h1 := eqTyS_loop h.1 (fun t ht => eqTy_law t (h.2 t ht)) a.length 0 (by omega)
    have h2 : Evt fun n => Cn n 30 [.v (.sl (a.map Ty.enc)), .v (.sl (a.map Ty.enc))] [] = some (.bool true, []) := by
      refine fn_next (h1.mono fun n hn => ?_)
      rw [eq30]
      unfold nf30
      have e : ((0 : Nat) : Int) = 0 := rfl
      rw [e] at hn
      rw [hn]
      simp
    refine fn_next (h2.mono fun n hn => ?_)
    rw [Ty.enc, eq17]
    unfold nf17
    simp [hn]
termination_by t => SizeOf.sizeOf t
decreasing_by
  have := List.sizeOf_lt_of_mem ht
  simp; omega

theorem law {t u : Ty} (ht : t.wt) (hu : u.wt) : Evt fun n => Cn n 5 [.v t.enc, .v u.enc] [] = some (.bool true, []) := by
  obtain ⟨r1, h1, hb1, _, ok1⟩ := szTy_law t ht 1048576 (by omega) (by omega)
  cases t with | mk k nn a =>
  cases u with | mk k' nn' a' =>
  by_cases hn1 : r1 < 0
  · refine fn_next (h1.mono fun n hn => ?_)
    rw [Ty.enc] at hn
    rw [Ty.enc, Ty.enc, eq5]
    unfold nf5
    simp [hn, hn1]
  · obtain ⟨r2, h2, hb2, _, ok2⟩ := szTy_law (.mk k' nn' a') hu r1 (by omega) (by omega)
    by_cases hn2 : r2 < 0
    · refine fn_next ((h1.and h2).mono fun n ⟨hn, hm⟩ => ?_)
      rw [Ty.enc] at hn hm
      rw [Ty.enc, Ty.enc, eq5]
      unfold nf5
      simp [hn, hn1, hm, hn2]
    · have okt := ok1 (by omega)
      have oku := ok2 (by omega)
      have t1 := toTy_law _ okt
      have t2 := toTy_law _ oku
      obtain ⟨r, s1, s2⟩ := same_law _ okt (.mk k' nn' a')
      have q1 := eqTy_law _ okt
      have q2 := eqTy_law _ oku
      refine fn_next (((((((h1.and h2).and t1).and t2).and s1).and s2).and q1).and q2 |>.mono fun n hh => ?_)
      obtain ⟨⟨⟨⟨⟨⟨⟨a1, a2⟩, a3⟩, a4⟩, a5⟩, a6⟩, a7⟩, a8⟩ := hh
      simp only [Ty.enc] at a1 a2 a3 a4 a5 a6 a7 a8
      rw [Ty.enc, Ty.enc, eq5]
      unfold nf5
      simp [a1, hn1, a2, hn2, a3, a4, a5, a6, a7, a8]
end Go.Proofs.Ytlgonbonnjkekaa.Abs

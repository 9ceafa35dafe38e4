/- Slices that grow; stores. -/
import Derived.Test.YtlgonbonnjkekaaSound4
set_option linter.unusedVariables false
set_option linter.unusedSectionVars false
set_option linter.unusedSimpArgs false
namespace Go.Proofs.Ytlgonbonnjkekaa.Abs
open Go

section
variable {P : Program} {w : World} {F N : Nat → Prop} {μ : List Hd} {b : List Blk}

theorem growBy_le (newLen : Nat) : ∀ (k c : Nat), c ≤ 2 * newLen + 200 → Builtin.growBy newLen k c ≤ 2 * newLen + 200
  | 0, c, h => h
  | k + 1, c, h => by
    simp only [Builtin.growBy]
    split
    · exact h
    · refine growBy_le newLen k _ ?_
      omega
theorem nextslicecap_le (need cap : Nat) (h : cap < need) : Builtin.nextslicecap need cap ≤ 2 * need + 600 := by
  unfold Builtin.nextslicecap
  split
  · omega
  · split
    · omega
    · have := growBy_le need 4 cap (by omega); omega

theorem elemOk_spec {e : TypeId} (h : elemOk P e = true) : ∃ d i z, P.underlying e = some d ∧ P.info? e = some i ∧ i.zero = some z ∧ z.cells.size = P.cellsOf e ∧ i.bytes ≤ 4096 := by
  unfold elemOk at h
  simp only [Bool.and_eq_true, decide_eq_true_eq] at h
  obtain ⟨⟨h1, h2⟩, h3⟩ := h
  obtain ⟨d, hd⟩ := Option.isSome_iff_exists.1 h1
  obtain ⟨i, hi⟩ := info_of hd
  rw [hi] at h3
  simp only [Option.bind_some] at h3
  cases hz : i.zero with
  | none => simp [hz] at h3
  | some z =>
    simp [hz] at h3
    refine ⟨d, i, z, hd, hi, hz, h3, ?_⟩
    simpa [Program.bytesOf, hi] using h2

theorem setRow_heap' {x : Nat} {cells : Array Value} {e : TypeId} {l : Array Value} (h : w.heap[x]? = some (.cells cells e (0, 0))) : (w.setRow x l).heap[x]? = some (.cells l e (0, 0)) := setRow_heap w x _ _ _ _ h
theorem setRow_off {x y : Nat} {l : Array Value} (h : y ≠ x) : (w.setRow x l).heap[y]? = w.heap[y]? := setRow_other w x y l h

/-- What append comes to, in the model. -/
theorem run_append {ty ty2 e : TypeId} {out : TypeId} {base base2 : Option Addr} {xs ys : List CVal} {cap cap2 : Nat} {us vs : List Value}
    (hty : P.underlying ty = some (.slice e)) (hty2 : isSliceT P ty2 = true) (hok : elemOk P e = true) (hlim : xs.length + ys.length ≤ lim)
    (hl : xs.length ≤ cap) (hxs : EsRel N w (P.cellsOf e) xs us) (hys : EsRel N w (P.cellsOf e) ys vs)
    (hry0 : ∀ (cap : Nat) (w1 : World), w1.heap = w.heap → (Builtin.firstCells (P.cellsOf e) ys.length (.slice base2 ys.length cap)).run P w1 = .ok (flatC vs).toArray w1)
    (hrx0 : ∀ (cap : Nat) (w1 : World), w1.heap = w.heap → (Builtin.firstCells (P.cellsOf e) xs.length (.slice base xs.length cap)).run P w1 = .ok (flatC us).toArray w1) :
    (xs.length + ys.length ≤ cap ∧ ∀ w', (match base with | some a => (storeCells (a.add (xs.length * P.cellsOf e)) (flatC vs)).run P w = .ok () w' | none => w' = w) →
      (Builtin.append_ #[ty, ty2] out #[.slice base xs.length cap, .slice base2 ys.length cap2]).run P w = .ok (.slice base (xs.length + ys.length) cap) w') ∨
    (cap < xs.length + ys.length ∧ ∃ newCap rest, xs.length + ys.length ≤ newCap ∧ rest.length = (newCap - (xs.length + ys.length)) * P.cellsOf e ∧
      (Builtin.append_ #[ty, ty2] out #[.slice base xs.length cap, .slice base2 ys.length cap2]).run P w =
        .ok (.slice (some (pl w.heap.size 0)) (xs.length + ys.length) newCap) (({ w with drawn := w.drawn + 1 } : World).alloc (.cells (flatC us ++ flatC vs ++ rest).toArray e (0, 0)))) := by
  obtain ⟨d, i, z, hd, hi, hz, hzs, hby⟩ := elemOk_spec hok
  have hry := hry0 cap2
  have hrx' := hrx0 cap
  obtain ⟨e2, h2⟩ : ∃ e2, P.underlying ty2 = some (.slice e2) := by
    unfold isSliceT at hty2
    split at hty2
    · rename_i e2 h2; exact ⟨e2, h2⟩
    · cases hty2
  by_cases hcap : xs.length + ys.length ≤ cap
  · left
    refine ⟨hcap, fun w' hw' => ?_⟩
    cases base with
    | none =>
      simp only at hw'; subst hw'
      simp [Builtin.append_, run_und hty, run_size hd, run_und h2, Builtin.lenOf, hcap, hry w' rfl]
    | some a =>
      simp only at hw'
      simp [Builtin.append_, run_und hty, run_size hd, run_und h2, Builtin.lenOf, hcap, hry w rfl, hw']
  · right
    refine ⟨by omega, ?_⟩
    have hnext := nextslicecap_le (xs.length + ys.length) cap (by omega)
    have hb : ¬ (2 ^ 48 < Builtin.nextslicecap (xs.length + ys.length) cap * i.bytes) := by
      have : Builtin.nextslicecap (xs.length + ys.length) cap * i.bytes ≤ (2 * (xs.length + ys.length) + 600) * 4096 := Nat.mul_le_mul hnext hby
      unfold lim at hlim
      omega
    have hmax : ¬ (IntKind.i64.max < ((xs.length + ys.length : Nat) : Int)) := by
      have : IntKind.i64.max = 9223372036854775807 := by decide
      rw [this]; unfold lim at hlim; omega
    let newCap := (Question.appendCap (xs.length + ys.length) cap e).cut (w.tape w.drawn (Question.appendCap (xs.length + ys.length) cap e))
    have hge : xs.length + ys.length ≤ newCap := by
      show _ ≤ xs.length + ys.length + _
      omega
    refine ⟨newCap, (Builtin.zeroCells z.cells (newCap - (xs.length + ys.length))).toList, hge, ?_, ?_⟩
    · simp [Builtin.zeroCells, hzs]
    · have h3 := hrx' w.drew rfl
      have h4 := hry w.drew rfl
      have hinfo : ∀ w1 : World, (typeInfo e).run P w1 = .ok i w1 := fun w1 => by simp [typeInfo, hi]
      have hzero : ∀ w1 : World, (zeroValue e).run P w1 = .ok z w1 := fun w1 => run_zero hi hz
      have hf : (Question.appendCap (xs.length + ys.length) cap e).forced = false := rfl
      have hb' : ¬ (281474976710656 < Builtin.nextslicecap (xs.length + ys.length) cap * i.bytes) := hb
      have hmax' : ¬ (9223372036854775807 < (xs.length : Int) + (ys.length : Int)) := by unfold lim at hlim; omega
      simp [Builtin.append_, run_und hty, run_size hd, run_und h2, Builtin.lenOf, hcap, hinfo, hzero, hf, hb', hmax', h3, h4, newRow]
      refine ⟨⟨rfl, rfl⟩, ?_⟩
      congr 2
      apply Array.ext'
      simp [newCap]

theorem drew_heap (w : World) : ({ w with drawn := w.drawn + 1 } : World).heap = w.heap := rfl
theorem drew_old (w : World) (o : Obj) (x : Nat) (h : x < w.heap.size) : (({ w with drawn := w.drawn + 1 } : World).alloc o).heap[x]? = w.heap[x]? := alloc_old _ o x h
theorem drew_size (w : World) (o : Obj) : (({ w with drawn := w.drawn + 1 } : World).alloc o).heap.size = w.heap.size + 1 := alloc_size _ o
theorem drew_at (w : World) (o : Obj) : (({ w with drawn := w.drawn + 1 } : World).alloc o).heap[w.heap.size]? = some o := alloc_heap ({ w with drawn := w.drawn + 1 } : World) o

theorem flatC_append (us vs : List Value) : flatC (us ++ vs) = flatC us ++ flatC vs := by simp [flatC]

/-- Cells in a block, read as elements. -/
theorem ElRel.inBlock {sz x : Nat} {xs : List CVal} {us : List Value} {cells : List Value} {e : TypeId} {fr : Nat × Nat} (h : EsRel N w sz xs us)
    (hw : w.heap[x]? = some (.cells cells.toArray e fr)) (hp : ∀ (j : Nat) (v : Value), (flatC us)[j]? = some v → cells[j]? = some v) : ElRel N w sz x 0 xs :=
  h.put fun j v hv => by
    rw [cell_of_heap hw, Nat.zero_add]; exact hp j v hv

/-- append to nothing. -/
theorem append_new {ty ty2 e out : TypeId} {q : Nat} {ys : List CVal} {base base2 : Option Addr} {cap2 : Nat} (R : Rel F w μ b) (hq : Free μ b q)
    (hty : P.underlying ty = some (.slice e)) (hty2 : isSliceT P ty2 = true) (hok : elemOk P e = true) (hlim : ys.length ≤ lim) (hl2 : ys.length ≤ cap2)
    (hf : ys.all (CVal.fits (aggT P e) (P.cellsOf e)) = true)
    (hc : ys = [] ∨ ∃ z o sz, base2 = some (pl z o) ∧ z < w.heap.size ∧ ElRel (Or F (Own μ b)) w sz z o ys) :
    ∃ v w' μ', (Builtin.append_ #[ty, ty2] out #[.slice base 0 0, .slice base2 ys.length cap2]).run P w = .ok v w' ∧
      Post F w μ b w' μ' (putNew b q ⟨0, .arr (P.cellsOf e) ys⟩) (.lref q 0) v := by
  obtain ⟨us, hus, hrun⟩ := run_firstCells (P := P) hc hf
  have h0 : ∀ (cap : Nat) (w1 : World), w1.heap = w.heap → (Builtin.firstCells (P.cellsOf e) ([] : List CVal).length (.slice base ([] : List CVal).length cap)).run P w1 = .ok (flatC []).toArray w1 := by
    intro cap w1 _
    cases base with
    | none => rfl
    | some a => simp [Builtin.firstCells, loadCells, loadCellsFrom, flatC]
  have hap := run_append (out := out) (cap := 0) (cap2 := cap2) (base := base) (base2 := base2) (xs := []) (us := []) hty hty2 hok (by simpa using hlim) (Nat.le_refl _) rfl hus hrun h0
  have hqμ : q ≤ μ.length := by rw [R.len]; exact hq.le
  simp only [List.length_nil, Nat.zero_add, Nat.zero_mul] at hap
  rcases hap with ⟨h1, h2⟩ | ⟨h1, newCap, rest, h2, h3, h4⟩
  · have hy : ys = [] := List.length_eq_zero_iff.1 (by omega)
    subst hy
    have hu : us = [] := hus
    subst hu
    refine ⟨_, w, putH μ q (.arr base 0 0 (P.cellsOf e)), h2 w ?_, ?_⟩
    · cases base with
      | none => rfl
      | some a => simp [storeCells, flatC]
    · refine new_post R hq (Nat.le_refl _) (fun _ _ => rfl) ?_ rfl rfl rfl ?_ ?_
      · intro x hx; cases base <;> simp [Hd.own] at hx
      · intro U; exact ⟨base, 0, rfl, Nat.le_refl _, .inl rfl⟩
      · exact ⟨rfl, _, _, putNew_at hq.le, putH_at hqμ, by simp, Nat.le_refl _, fun _ _ => rfl⟩
  · refine ⟨_, _, putH μ q (.arr (some (pl w.heap.size 0)) ys.length newCap (P.cellsOf e)), h4, ?_⟩
    refine new_post R hq (by rw [drew_size]; omega) (fun x hx => drew_old w _ x hx) ?_ rfl rfl rfl ?_ ?_
    · intro x hx
      simp only [Hd.own] at hx
      split at hx
      · cases hx
      · cases hx; simp only [pl]; rw [drew_size]; omega
    · intro U
      refine ⟨_, newCap, rfl, h2, .inr ⟨w.heap.size, _, e, rfl, drew_at w _, ?_, ?_⟩⟩
      · have := hus.flat_len
        have h6 : (flatC []).length = 0 := rfl
        simp only [List.size_toArray, List.length_append, this, h3, h6, Nat.zero_add]
        rw [← Nat.add_mul, show ys.length + (newCap - ys.length) = newCap by omega]; exact Nat.le_refl _
      · refine ElRel.inBlock (hus.keep U.keep) (drew_at w _) fun j v hv => ?_
        rw [show flatC [] ++ flatC us ++ rest = flatC us ++ rest from rfl, List.getElem?_append_left (List.getElem?_eq_some_iff.1 hv).1]; exact hv
    · exact ⟨rfl, _, _, putNew_at hq.le, putH_at hqμ, by simp, Nat.le_refl _, fun _ _ => rfl⟩

/-- One block alone that is there turns, its handle and what it owns may be others. -/
theorem set_one {w' : World} {i : Nat} {blk blk' : Blk} {h h' : Hd} (R : Rel F w μ b) (hb : b[i]? = some blk) (hm : μ[i]? = some h) (V : VerOk blk h blk' h')
    (hs : w.heap.size ≤ w'.heap.size)
    (hn : ∀ x, alive blk'.body = true → h'.own = some x → x < w'.heap.size ∧ (w.heap.size ≤ x ∨ (alive blk.body = true ∧ h.own = some x)))
    (hmem : ∀ x, x < w.heap.size → (alive blk.body = true → h.own ≠ some x) → w'.heap[x]? = w.heap[x]?) :
    One F w μ b w' (μ.set i h') (b.set i blk') i := by
  have hi := (List.getElem?_eq_some_iff.1 hb).1
  have hi' := (List.getElem?_eq_some_iff.1 hm).1
  refine ⟨R, by simpa using R.len, by simp, fun j hj hne => ⟨List.getElem?_set_ne (Ne.symm hne), List.getElem?_set_ne (Ne.symm hne)⟩, by simpa using hi, ?_, hs, ?_, ?_⟩
  · intro blk0 h0 hb0 hm0
    rw [hb] at hb0; cases hb0
    rw [hm] at hm0; cases hm0
    exact ⟨blk', h', List.getElem?_set_self hi, List.getElem?_set_self hi', V⟩
  · intro blk0 h0 x hb0 hm0 ha ho
    rw [List.getElem?_set_self hi] at hb0; cases hb0
    rw [List.getElem?_set_self hi'] at hm0; cases hm0
    obtain ⟨h1, h2⟩ := hn x ha ho
    exact ⟨h1, h2.imp id fun ⟨h3, h4⟩ => ⟨blk, h, hb, hm, h3, h4⟩⟩
  · intro x hx hc
    exact hmem x hx fun ha => hc blk h hb hm ha

theorem set_post {w' : World} {i : Nat} {blk blk' : Blk} {h h' : Hd} {x : AVal} {v : Value} (R : Rel F w μ b) (hb : b[i]? = some blk) (hm : μ[i]? = some h) (V : VerOk blk h blk' h')
    (hs : w.heap.size ≤ w'.heap.size)
    (hn : ∀ x, alive blk'.body = true → h'.own = some x → x < w'.heap.size ∧ (w.heap.size ≤ x ∨ (alive blk.body = true ∧ h.own = some x)))
    (hmem : ∀ x, x < w.heap.size → (alive blk.body = true → h.own ≠ some x) → w'.heap[x]? = w.heap[x]?)
    (hos : w'.os = w.os) (ht : w'.tape = w.tape) (ho : w'.output = w.output)
    (hB : Upd F w μ b w' (μ.set i h') (b.set i blk') → BRel (Or F (Own (μ.set i h') (b.set i blk'))) w' (μ.set i h') (b.set i blk') h' blk'.body)
    (hv : Upd F w μ b w' (μ.set i h') (b.set i blk') → ARel (Or F (Own (μ.set i h') (b.set i blk'))) w' (μ.set i h') (b.set i blk') x v) :
    Post F w μ b w' (μ.set i h') (b.set i blk') x v := by
  have O := set_one (blk' := blk') R hb hm V hs hn hmem
  have hi := (List.getElem?_eq_some_iff.1 hb).1
  have hi' := (List.getElem?_eq_some_iff.1 hm).1
  refine ⟨O.upd, O.done ?_, hv O.upd, O.fr hos ht ho⟩
  intro blk0 h0 hb0 hm0
  rw [List.getElem?_set_self hi] at hb0; cases hb0
  rw [List.getElem?_set_self hi'] at hm0; cases hm0
  exact hB O.upd

/-- append to a slice of one's own. -/
theorem append_own {ty ty2 e out : TypeId} {i ver : Nat} {xs ys : List CVal} {base2 : Option Addr} {cap2 : Nat} {v : Value} (R : Rel F w μ b)
    (hx : ARel (Or F (Own μ b)) w μ b (.lref i ver) v) (hxs : arrOf b i ver = some xs) (hsz : szOf b i = P.cellsOf e)
    (hty : P.underlying ty = some (.slice e)) (hty2 : isSliceT P ty2 = true) (hok : elemOk P e = true) (hlim : xs.length + ys.length ≤ lim) (hl2 : ys.length ≤ cap2)
    (hf : ys.all (CVal.fits (aggT P e) (P.cellsOf e)) = true)
    (hc : ys = [] ∨ ∃ z o sz, base2 = some (pl z o) ∧ z < w.heap.size ∧ ElRel (Or F (Own μ b)) w sz z o ys) :
    ∃ v' w' μ', (Builtin.append_ #[ty, ty2] out #[v, .slice base2 ys.length cap2]).run P w = .ok v' w' ∧
      Post F w μ b w' μ' (b.set i ⟨ver + 1, .arr (P.cellsOf e) (xs ++ ys)⟩) (.lref i (ver + 1)) v' := by
  obtain ⟨sz, base, cap, hb, hm, hl, hcap⟩ := R.arr hxs
  obtain ⟨_, blk, hh, hb', hm', _, _, hcur⟩ := hx
  rw [hb] at hb'; cases hb'
  rw [hm] at hm'; cases hm'
  have hv := hcur rfl rfl
  subst hv
  have hi := (List.getElem?_eq_some_iff.1 hb).1
  have hi' := (List.getElem?_eq_some_iff.1 hm).1
  have hsz' : sz = P.cellsOf e := by simpa [szOf, hb] using hsz
  subst hsz'
  obtain ⟨us, hus, hrun⟩ := run_firstCells (P := P) hc hf
  -- the elements that are there
  have hold : ∃ vs, EsRel (Or F (Own μ b)) w (P.cellsOf e) xs vs ∧
      (∀ (cap : Nat) (w1 : World), w1.heap = w.heap → (Builtin.firstCells (P.cellsOf e) xs.length (.slice base xs.length cap)).run P w1 = .ok (flatC vs).toArray w1) ∧
      (cap = 0 ∨ ∃ x cells t, base = some (pl x 0) ∧ w.heap[x]? = some (.cells cells t (0, 0)) ∧ cap * P.cellsOf e ≤ cells.size ∧ Own μ b x ∧
        ∀ (j : Nat) (v : Value), (flatC vs)[j]? = some v → cells[j]? = some v) := by
    by_cases h0 : cap = 0
    · have hx0 : xs = [] := List.length_eq_zero_iff.1 (by omega)
      subst hx0
      refine ⟨[], rfl, fun cap w1 _ => ?_, .inl h0⟩
      cases base with
      | none => rfl
      | some a => simp [Builtin.firstCells, loadCells, loadCellsFrom, flatC]
    · obtain ⟨x, cells, t, rfl, hw, hz, he⟩ := hcap.resolve_left h0
      obtain ⟨vs, hvs, hcell⟩ := he.out
      refine ⟨vs, hvs, fun cap w1 hw1 => ?_, .inr ⟨x, cells, t, rfl, hw, hz, ⟨i, _, _, hb, rfl, hm, by simp [Hd.own, h0, pl]⟩, fun j v hv => ?_⟩⟩
      · have hlen := hvs.flat_len
        have := run_loadCells_list (P := P) w1 (pl x 0) (flatC vs) fun j v hj => by rw [pl_add, cell_heap hw1]; exact hcell j v hj
        simp only [Builtin.firstCells]
        rw [← hlen]; exact this
      · have := hcell j v hv
        simpa [World.cell?, pl, hw] using this
  obtain ⟨vs, hvs, hrx, hblk⟩ := hold
  have hap := run_append (out := out) (cap := cap) (cap2 := cap2) (base := base) (base2 := base2) hty hty2 hok hlim hl hvs hus hrun hrx
  have hall : EsRel (Or F (Own μ b)) w (P.cellsOf e) (xs ++ ys) (vs ++ us) := hvs.append hus
  have hflen := hvs.flat_len
  have hfl2 := hus.flat_len
  rcases hap with ⟨h1, h2⟩ | ⟨h1, newCap, rest, h2, h3, h4⟩
  · by_cases h0 : cap = 0
    · -- nothing is there, nothing comes
      have hy : ys = [] := List.length_eq_zero_iff.1 (by omega)
      subst hy
      have hu : us = [] := hus
      subst hu
      refine ⟨_, w, μ.set i (.arr base xs.length cap (P.cellsOf e)), h2 w ?_, ?_⟩
      · cases base with
        | none => rfl
        | some a => simp [storeCells, flatC]
      · refine set_post R hb hm ⟨Nat.le_succ _, (fun _ h => by cases h), (fun _ h => by cases h), fun e => by simp at e⟩ (Nat.le_refl _) ?_ (fun _ _ _ => rfl) rfl rfl rfl ?_ ?_
        · intro x _ ho
          exact ⟨(R.fres x ⟨i, _, _, hb, rfl, hm, ho⟩).2, .inr ⟨rfl, ho⟩⟩
        · intro U; exact ⟨base, cap, by simp, by simpa using hl, .inl h0⟩
        · intro U; exact ⟨rfl, _, _, List.getElem?_set_self hi, List.getElem?_set_self hi', by simp, Nat.le_refl _, fun _ _ => rfl⟩
    · obtain ⟨x, cells, t, rfl, hw, hz, hown, hpre⟩ := hblk.resolve_left h0
      have hroom : 0 + xs.length * P.cellsOf e + (flatC us).length ≤ cells.size := by
        rw [hfl2]
        have : (xs.length + ys.length) * P.cellsOf e ≤ cap * P.cellsOf e := Nat.mul_le_mul_right _ h1
        rw [Nat.add_mul] at this; omega
      have hst := run_storeCells_at (P := P) x (xs.length * P.cellsOf e) t (flatC us) 0 cells w hw (by omega) fun v hv => flat_oneCell (hus.flatAll v hv)
      simp only [Nat.add_zero] at hst
      refine ⟨_, w.setRow x (cells.toList.take (xs.length * P.cellsOf e) ++ flatC us ++ cells.toList.drop (xs.length * P.cellsOf e + (flatC us).length)).toArray,
        μ.set i (.arr (some (pl x 0)) (xs.length + ys.length) cap (P.cellsOf e)), h2 _ ?_, ?_⟩
      · simp only [pl_add, Nat.zero_add]; exact hst
      · have hx1 : ∀ y, (Hd.arr (some (pl x 0)) (xs.length + ys.length) cap (P.cellsOf e)).own = some y → y = x := by
          intro y hy; simp [Hd.own, h0, pl] at hy; exact hy.symm
        refine set_post R hb hm ⟨Nat.le_succ _, (fun _ h => by cases h), (fun _ h => by cases h), fun e => by simp at e⟩ (by simp) ?_ ?_ rfl rfl rfl ?_ ?_
        · intro y _ ho
          have := hx1 y ho
          subst this
          exact ⟨by simpa using (R.fres y hown).2, .inr ⟨rfl, by simp [Hd.own, h0, pl]⟩⟩
        · intro y hy hne
          refine setRow_off fun e => ?_
          subst e
          exact hne rfl (by simp [Hd.own, h0, pl])
        · intro U
          refine ⟨_, cap, by simp, by simpa using h1, .inr ⟨x, _, t, rfl, setRow_heap' hw, ?_, ?_⟩⟩
          · simp only [List.size_toArray, List.length_append, List.length_take, List.length_drop, Array.length_toList]
            omega
          · refine ElRel.inBlock (hall.keep U.keep) (setRow_heap' hw) fun j v hv => ?_
            rw [flatC_append] at hv
            by_cases hj : j < (flatC vs).length
            · rw [List.getElem?_append_left hj] at hv
              rw [List.append_assoc, List.getElem?_append_left (by simp; omega), List.getElem?_take_of_lt (by omega)]
              simpa using hpre j v hv
            · rw [List.getElem?_append_right (by omega)] at hv
              have hj2 := (List.getElem?_eq_some_iff.1 hv).1
              rw [List.append_assoc, List.getElem?_append_right (by simp; omega)]
              have hmin : min (xs.length * P.cellsOf e) cells.size = xs.length * P.cellsOf e := by omega
              simp only [List.length_take, Array.length_toList, hmin]
              rw [List.getElem?_append_left (by omega), ← hflen]; exact hv
        · intro U; exact ⟨rfl, _, _, List.getElem?_set_self hi, List.getElem?_set_self hi', by simp, Nat.le_refl _, fun _ _ => rfl⟩
  · refine ⟨_, _, μ.set i (.arr (some (pl w.heap.size 0)) (xs.length + ys.length) newCap (P.cellsOf e)), h4, ?_⟩
    refine set_post R hb hm ⟨Nat.le_succ _, (fun _ h => by cases h), (fun _ h => by cases h), fun e => by simp at e⟩ (by rw [drew_size]; omega) ?_ (fun x hx _ => drew_old w _ x hx) rfl rfl rfl ?_ ?_
    · intro x _ hx
      simp only [Hd.own] at hx
      split at hx
      · cases hx
      · cases hx; simp only [pl]; rw [drew_size]; omega
    · intro U
      refine ⟨_, newCap, by simp, by simpa using h2, .inr ⟨w.heap.size, _, e, rfl, drew_at w _, ?_, ?_⟩⟩
      · simp only [List.size_toArray, List.length_append, hflen, hfl2, h3]
        rw [← Nat.add_mul, ← Nat.add_mul, show xs.length + ys.length + (newCap - (xs.length + ys.length)) = newCap by omega]; exact Nat.le_refl _
      · refine ElRel.inBlock (hall.keep U.keep) (drew_at w _) fun j v hv => ?_
        rw [flatC_append] at hv
        rw [List.getElem?_append_left (by simpa using (List.getElem?_eq_some_iff.1 hv).1)]; exact hv
    · intro U; exact ⟨rfl, _, _, List.getElem?_set_self hi, List.getElem?_set_self hi', by simp, Nat.le_refl _, fun _ _ => rfl⟩
end

end Go.Proofs.Ytlgonbonnjkekaa.Abs

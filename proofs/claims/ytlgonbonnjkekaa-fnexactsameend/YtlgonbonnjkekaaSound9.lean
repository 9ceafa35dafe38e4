/- make, conversions. -/
import Derived.Test.YtlgonbonnjkekaaSound8
set_option linter.unusedVariables false
set_option linter.unusedSectionVars false
set_option linter.unusedSimpArgs false
namespace Go.Proofs.Ytlgonbonnjkekaa.Abs
open Go

section
variable {P : Program} {w : World} {F N : Nat → Prop} {μ : List Hd} {b : List Blk} {R' : Type} {r : R'}

theorem Acts.ofYld {K : AVal → List Blk → Option R'} {S : Sem Value} (R : Rel F w μ b) (h : Yld P (Or F (Own μ b)) w μ b (fun y => K y b) r S) {ro : Bool} : Acts P F w μ b K r S ro := by
  obtain ⟨y, hy, u, hr, ha⟩ := h
  exact ⟨y, b, hy, fun _ => rfl, u, w, μ, hr, .same R ha⟩

theorem flatC_rep (z : Value) (sz : Nat) (hz : z.cells.size = sz) (h0 : sz ≠ 0) : ∀ (n : Nat),
    flatC (List.replicate n z) = ((Array.range (n * sz)).map (z.cells[· % z.cells.size]!)).toList
  | 0 => by simp [flatC]
  | n + 1 => by
    have ih := flatC_rep z sz hz h0 n
    unfold flatC at *
    rw [List.replicate_succ', List.flatMap_append, ih]
    apply List.ext_getElem?
    intro j
    have hl : ((Array.range (n * sz)).map (z.cells[· % z.cells.size]!)).toList.length = n * sz := by simp
    have e : (n + 1) * sz = n * sz + sz := by rw [Nat.add_mul]; omega
    by_cases hj : j < n * sz
    · rw [List.getElem?_append_left (by omega)]
      simp [hj, e, Nat.lt_of_lt_of_le hj (Nat.le_add_right (n * sz) sz)]
    · rw [List.getElem?_append_right (by omega), hl]
      by_cases hj2 : j < n * sz + sz
      · have hm : j % sz = j - n * sz := by
          have : j = (j - n * sz) + n * sz := by omega
          rw [this, Nat.add_mul_mod_self_right, Nat.mod_eq_of_lt (by omega)]; omega
        have h1 : j - n * sz < z.cells.size := by omega
        simp [e, hj2, hz, hm, h1]
        rw [getElem!_pos z.cells _ h1, Array.getElem?_eq_getElem h1]
      · have h1 : ¬ (j - n * sz < z.cells.size) := by omega
        simp [e, hj2, h1]

theorem EsRel.rep {sz : Nat} {c : CVal} {z : Value} (h1 : noTup c = true) (h2 : CRel N w c z) (h3 : z.cells.size = sz) : ∀ n, EsRel N w sz (List.replicate n c) (List.replicate n z)
  | 0 => rfl
  | n + 1 => ⟨z, List.replicate n z, rfl, h1, h2, h3, EsRel.rep h1 h2 h3 n⟩

theorem makeSliceK_sound {q : Nat} {t : TypeId} {x y : AVal} {v u : Value} {K : AVal → List Blk → Option R'} (R : Rel F w μ b) (hq : Free μ b q)
    (hx : ARel (Or F (Own μ b)) w μ b x v) (hy : ARel (Or F (Own μ b)) w μ b y u) (h : makeSliceK P q t x y b K = some r) : Acts P F w μ b K r (Instr.makeSlice t v u) false := by
  unfold makeSliceK at h
  split at h
  · rename_i e he
    obtain ⟨k, n, rfl, h⟩ := wIdx_sound hx h
    obtain ⟨k', m, rfl, h⟩ := wIdx_sound hy h
    obtain ⟨h0, g⟩ := br_none h
    clear h
    simp only [Bool.and_eq_true, decide_eq_true_eq] at h0
    obtain ⟨⟨⟨⟨h1, h2⟩, h3⟩, h4⟩, h5⟩ := h0
    subst h4
    have h := g
    clear g
    obtain ⟨d, i, z, hd, hi, hz, hzs, hby⟩ := elemOk_spec h1
    obtain ⟨z', hz', h⟩ := bind_some' h
    obtain ⟨c, hc, h⟩ := bind_some' h
    obtain ⟨hf, h⟩ := br_none h
    obtain ⟨zv, hzr, hzrel⟩ := zeroT_spec (P := P) (N := Or F (Own μ b)) (w := w) (μ := μ) (b := b) hz'
    have hzz : zv = z := by
      have h6 := hzr w
      have h7 : (zeroValue e).run P w = .ok z w := run_zero hi hz
      rw [h7] at h6; cases h6; rfl
    subst hzz
    obtain ⟨U0, R0⟩ := killA_upd z' R
    have hcl := closeA_sound R (killA_sub z' b) hc hzrel (killA_dead z' b)
    have hq0 := killA_free hq.mu hzrel rfl hq
    have hes := EsRel.rep (N := Or F (Own μ (killA z' b))) (w := w) (fits_noTup hf) hcl hzs n.toNat
    have hcells := flatC_rep zv (P.cellsOf e) hzs h2 n.toNat
    obtain ⟨μ', hpost⟩ := arr_post (e := e) (cap := n.toNat) (cells := flatC (List.replicate n.toNat zv)) R0 hq0 hes (by simp) (by rw [hes.flat_len]; simp) (fun _ _ h => h)
    refine ⟨_, _, h, by simp, _, _, μ', ?_, Post.pre U0 (.refl _ _) hpost⟩
    have hwrap : IntKind.i64.wrap n = n := by
      have : n < 9223372036854775808 := by omega
      simp only [IntKind.wrap, IntKind.signed, IntKind.bits]
      simp
      omega
    have hb1 : (i.bytes : Int) * n ≤ 4096 * 1048576 := by
      have hh1 : (i.bytes : Int) ≤ 4096 := by omega
      calc (i.bytes : Int) * n ≤ 4096 * n := Int.mul_le_mul_of_nonneg_right hh1 h3
        _ ≤ 4096 * 1048576 := by omega
    have hbig : ¬ ((i.bytes : Int) * n > 2 ^ 48) := by omega
    have hneg : ¬ (n < 0) := by omega
    have hask : ∀ k : Nat, (askRoom k).run P w = .ok () w := by
      intro k; unfold askRoom; split <;> rfl
    have hn : ((n.toNat * P.cellsOf e = 0) = False) ∨ n.toNat = 0 := by
      by_cases h0 : n.toNat = 0
      · exact .inr h0
      · left; simp [Nat.mul_eq_zero, h0, h2]
    have hinfo : (typeInfo e).run P w = .ok i w := by simp [typeInfo, hi]
    have hai : ∀ (k : IntKind) (n : Int), (asInt (.int k n)).run P w = .ok n w := fun _ _ => rfl
    have hb2 : ¬ (281474976710656 < (i.bytes : Int) * n) := by omega
    have hlen : (List.replicate n.toNat c).length = n.toNat := by simp
    rw [hcells, hlen]
    rcases hn with hn | hn
    · simp [Instr.makeSlice, run_und he, hai, hinfo, hwrap, hneg, hb2, hask, run_size hd, hn, hzr, newRow]
      refine ⟨rfl, ?_⟩
      congr 2
      apply Array.ext'; simp
    · simp [Instr.makeSlice, run_und he, hai, hinfo, hwrap, hneg, hb2, hask, run_size hd, hn, hzr, newRow]
      exact ⟨rfl, by first | rfl | (congr 2; apply Array.ext'; simp)⟩
  · cases h

/-! Conversions. -/
theorem bytes_loop : ∀ (xs : List CVal) (us : List Value) (s acc : List UInt8), EsRel N w 1 xs us → bytesOfC xs = some s →
    ((forIn (flatC us) (⟨acc.toArray⟩ : ByteArray) fun c (s : ByteArray) => (do
      let .int .u8 n := c | stuck "bytesToString: byte expected"
      pure (.yield (s.push (UInt8.ofNat n.toNat))) : Sem (ForInStep ByteArray))) : Sem ByteArray).run P w = .ok ⟨(acc ++ s).toArray⟩ w
  | [], _, s, acc, he, h => by
    rw [show _ = [] from he]
    simp [bytesOfC] at h; subst h
    simp [flatC]
  | c :: r, _, s, acc, he, h => by
    obtain ⟨u, l, rfl, h1, h2, h3, he⟩ := he
    simp only [bytesOfC] at h
    obtain ⟨n, hn, h⟩ := bind_some' h
    obtain ⟨s', hs, h⟩ := bind_some' h
    simp at h; subst h
    cases c <;> simp [CVal.asInt] at hn
    rename_i k n'
    obtain ⟨rfl, rfl⟩ := hn
    have hu : u = .int .u8 n' := h2
    subst hu
    have ih := bytes_loop r l s' (acc ++ [UInt8.ofNat n'.toNat]) he hs
    have hp : (⟨acc.toArray⟩ : ByteArray).push (UInt8.ofNat n'.toNat) = ⟨(acc ++ [UInt8.ofNat n'.toNat]).toArray⟩ := by
      apply ByteArray.ext; simp [ByteArray.push]
    have hfl : flatC (Value.int .u8 n' :: l) = Value.int .u8 n' :: flatC l := by simp [flatC, Value.cells]
    rw [hfl, List.forIn_cons]
    simp only [Sem.run_bind, Sem.run_pure, Result.andThen_ok, hp]
    rw [ih, List.append_assoc]
    rfl

theorem bytes_fit : ∀ {ys : List CVal} {s : List UInt8}, bytesOfC ys = some s → ys.all (CVal.fits false 1) = true
  | [], _, _ => rfl
  | c :: r, s, h => by
    simp only [bytesOfC] at h
    obtain ⟨n, hn, h⟩ := bind_some' h
    obtain ⟨s', hs, h⟩ := bind_some' h
    cases c <;> simp [CVal.asInt] at hn
    rw [List.all_cons, bytes_fit hs]
    rfl

theorem run_bytes {e : TypeId} (s : List UInt8) : ∃ w' cap pad fr, (Conv.stringToBytes e ⟨s.toArray⟩).run P w = .ok (.slice (some (pl w.heap.size 0)) s.length cap) w' ∧ s.length ≤ cap ∧
    w'.heap.size = w.heap.size + 1 ∧ (∀ x, x < w.heap.size → w'.heap[x]? = w.heap[x]?) ∧ w'.os = w.os ∧ w'.tape = w.tape ∧ w'.output = w.output ∧
    w'.heap[w.heap.size]? = some (.cells (List.toArray (s.map (fun c => Value.int .u8 c.toNat) ++ pad)) e fr) := by
  let cap := (Question.appendCap s.length 0 e).cut (w.tape w.drawn (Question.appendCap s.length 0 e))
  have hge : s.length ≤ cap := by
    show _ ≤ s.length + _
    omega
  let cells : Array Value := List.toArray (s.map (fun c => Value.int .u8 c.toNat) ++ List.replicate (cap - s.length) (Value.int .u8 0))
  let w1 : World := ({ w with drawn := w.drawn + 1 } : World).alloc (.cells cells e (0, 0))
  refine ⟨w1.freeze ⟨w.heap.size, cells.size, none⟩ 1, cap, List.replicate (cap - s.length) (Value.int .u8 0), (cells.size, cells.size + 1), ?_, hge, ?_, ?_, rfl, rfl, rfl, ?_⟩
  · have hf : (Question.appendCap s.length 0 e).forced = false := rfl
    have hsz : (⟨s.toArray⟩ : ByteArray).size = s.length := rfl
    have hcells : (Array.map (fun b : UInt8 => Value.int .u8 ↑b.toNat) s.toArray ++ Array.replicate (cap - s.length) (Value.int .u8 0)) = cells := by
      apply Array.ext'; simp [cells]
    have hshape : w1.shape? w.heap.size = some (e, cells.size) := by
      unfold World.shape?
      rw [drew_at]
    simp only [Conv.stringToBytes, Sem.run_bind, hsz]
    simp [hf, newRow, markStringish]
    have hc2 : ((List.map (fun b : UInt8 => Value.int .u8 ↑b.toNat) s).toArray ++ Array.replicate ((Question.appendCap s.length 0 e).cut (w.tape w.drawn (Question.appendCap s.length 0 e)) - s.length) (Value.int .u8 0)) = cells := by
      apply Array.ext'; simp [cells, cap]
    rw [hc2]
    have hsh : (w.drew.alloc (Obj.cells cells e)).shape? w.heap.size = some (e, cells.size) := hshape
    rw [hsh]
    rfl
  · simp [World.freeze, w1]
  · intro x hx
    have : x ≠ w.heap.size := by omega
    simp only [World.freeze, Nat.one_ne_zero, if_false]
    rw [Array.getElem?_modify, if_neg (by simpa using Ne.symm this)]
    exact drew_old w _ x hx
  · simp only [World.freeze, Nat.one_ne_zero, if_false]
    rw [Array.getElem?_modify, if_pos rfl, drew_at]
    rfl

theorem convertK_sound {q : Nat} {src dst : TypeId} {x : AVal} {v : Value} {K : AVal → List Blk → Option R'} (R : Rel F w μ b) (hx : ARel (Or F (Own μ b)) w μ b x v)
    (h : convertK P q src dst x b K = some r) : Acts P F w μ b K r (convert src dst v) true := by
  unfold convertK at h
  split at h
  · rename_i k k' h1 h2
    obtain ⟨n, rfl, h⟩ := wInt_sound hx h
    exact ⟨_, _, h, fun _ => rfl, .int k' (k'.wrap n), w, μ, by simp [convert, run_und h1, run_und h2, Conv.intToInt], .same R rfl⟩
  · rename_i h1 h2
    obtain ⟨s, rfl, h⟩ := wStr_sound hx h
    exact ⟨_, _, h, fun _ => rfl, .string ⟨s.toArray⟩, w, μ, by simp [convert, run_und h1, run_und h2], .same R rfl⟩
  · rename_i e h1 h2
    split at h
    · rename_i h3
      obtain ⟨ys, base, cap, h, rfl, hl, hc⟩ := wSl_sound R hx h
      obtain ⟨s, hs, h⟩ := bind_some' h
      refine ⟨_, _, h, fun _ => rfl, .string ⟨s.toArray⟩, w, μ, ?_, .same R rfl⟩
      have hfit : ys.all (CVal.fits false 1) = true := bytes_fit hs
      obtain ⟨us, hus, hrun⟩ := run_firstCells (P := P) (agg := false) hc hfit
      have hloop := bytes_loop (P := P) ys us s [] hus hs
      have hr := hrun cap w rfl
      cases base with
      | none =>
        have : ys = [] := by
          rcases hc with hc | ⟨z, o, sz, h, _⟩
          · exact hc
          · cases h
        subst this
        simp [bytesOfC] at hs; subst hs
        simp [convert, run_und h1, run_und h2, run_und h3, Conv.bytesToString]
        rfl
      | some a =>
        simp only [Builtin.firstCells, Nat.mul_one] at hr
        simp only [convert, Sem.run_bind, run_und h1, run_und h2, run_und h3, Result.andThen_ok, Conv.bytesToString, hr, List.forIn_toArray, Sem.run_pure]
        have h0 : (⟨([] : List UInt8).toArray⟩ : ByteArray) = ByteArray.empty := rfl
        rw [h0] at hloop
        erw [hloop]
        rfl
    · cases h
  · rename_i e h1 h2
    split at h
    · rename_i h3
      obtain ⟨s, rfl, h⟩ := wStr_sound hx h
      obtain ⟨h0, h⟩ := br_none h
      obtain ⟨w', cap, pad, fr, hrun, hcap, hsz, hold, ho, ht, hout, hat⟩ := run_bytes (P := P) (w := w) (e := e) s
      refine ⟨_, _, h, fun _ => rfl, _, w', μ, by simp only [convert, Sem.run_bind, run_und h1, run_und h2, run_und h3, Result.andThen_ok]; exact hrun,
        Post.grow R (by omega) hold ho ht hout ⟨_, cap, by simp [bytesC], by simpa [bytesC] using hcap, .inr ⟨w.heap.size, 0, 1, rfl, ?_, by omega, ?_⟩⟩⟩
      · rintro (hf | hf)
        · have := R.fb _ hf; omega
        · have := (R.fres _ hf).2; omega
      · have hes : ∀ s : List UInt8, EsRel (Or F (Own μ b)) w' 1 (bytesC s) (s.map fun c => Value.int .u8 c.toNat) := by
          intro s
          induction s with
          | nil => rfl
          | cons c r ih => exact ⟨_, _, rfl, rfl, rfl, rfl, ih⟩
        refine ElRel.inBlock (hes s) hat fun j v hv => ?_
        have hfl : ∀ s : List UInt8, flatC (s.map fun c => Value.int .u8 c.toNat) = s.map fun c => Value.int .u8 c.toNat := by
          intro s
          induction s with
          | nil => rfl
          | cons c r ih => unfold flatC at *; rw [List.map_cons, List.flatMap_cons, ih]; rfl
        rw [hfl] at hv
        rw [List.getElem?_append_left (List.getElem?_eq_some_iff.1 hv).1]
        exact hv
    · cases h
  · cases h
end
end Go.Proofs.Ytlgonbonnjkekaa.Abs

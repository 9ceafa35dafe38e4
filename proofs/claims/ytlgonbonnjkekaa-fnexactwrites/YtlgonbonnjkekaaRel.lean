/- How the abstract machine's data stand to the model's: closed values, slots, blocks. -/
import Derived.Test.YtlgonbonnjkekaaCallV
set_option linter.unusedVariables false
set_option linter.unusedSectionVars false
namespace Go.Proofs.Ytlgonbonnjkekaa.Abs
open Go

def flat : Value → Bool
  | .agg _ => false
  | .tuple _ => false
  | _ => true

theorem cells_flat {v : Value} (h : flat v = true) : v.cells = #[v] := by
  cases v <;> first | rfl | (simp [flat] at h)

def noTup : CVal → Bool
  | .tup _ => false
  | _ => true
theorem noTup_fl {c : CVal} (h : noTup c = true) : (∃ n, c.isAggN n = true) ∨ c.isFlat = true := by
  cases c with
  | agg cs => exact .inl ⟨cs.length, by simp [CVal.isAggN]⟩
  | tup cs => simp [noTup] at h
  | _ => exact .inr rfl
theorem fits_noTup {agg : Bool} {n : Nat} {c : CVal} (h : c.fits agg n = true) : noTup c = true := by
  cases c with
  | tup cs => cases agg <;> simp [CVal.fits, CVal.isAggN, CVal.isFlat] at h
  | _ => rfl

/-- A place of memory. -/
def pl (b o : Nat) : Addr := ⟨b, o, none⟩

mutual
/-- A closed value, none of whose memory lies in a block of N. -/
def CRel (N : Nat → Prop) (w : World) : CVal → Value → Prop
  | .bool b, v => v = .bool b
  | .int k n, v => v = .int k n
  | .str s, v => v = .string ⟨s.toArray⟩
  | .sl xs, v => ∃ base cap, v = .slice base xs.length cap ∧ xs.length ≤ cap ∧
      (xs = [] ∨ ∃ b o sz, base = some (pl b o) ∧ ¬ N b ∧ b < w.heap.size ∧ ElRel N w sz b o xs)
  | .agg cs, v => ∃ vs : List Value, v = .agg vs.toArray ∧ CsRel N w true cs vs
  | .fp c off, v => ∃ b o u, v = .pointer (some (pl b (o + off))) ∧ ¬ N b ∧ b < w.heap.size ∧ noTup c = true ∧ CRel N w c u ∧
      ∀ j, j < u.cells.size → w.cell? (pl b (o + j)) = u.cells[j]?
  | .func f cs, v => ∃ vs : List Value, v = .func (.func f) #[] vs.toArray ∧ CsRel N w false cs vs
  | .nilp, v => v = .pointer none
  | .nilf, v => v = .nilFunc
  | .nili, v => v = .nilIface
  | .iface t c, v => ∃ u, v = .iface t u ∧ CRel N w c u
  | .tup cs, v => ∃ vs : List Value, v = .tuple vs.toArray ∧ CsRel N w false cs vs
def CsRel (N : Nat → Prop) (w : World) : Bool → List CVal → List Value → Prop
  | _, [], vs => vs = []
  | fl, c :: r, vs => ∃ u us, vs = u :: us ∧ CRel N w c u ∧ (fl = true → flat u = true) ∧ CsRel N w fl r us
def ElRel (N : Nat → Prop) (w : World) : Nat → Nat → Nat → List CVal → Prop
  | _, _, _, [] => True
  | sz, b, o, c :: r => (∃ u, noTup c = true ∧ CRel N w c u ∧ u.cells.size = sz ∧ ∀ j, j < sz → w.cell? (pl b (o + j)) = u.cells[j]?) ∧ ElRel N w sz b (o + sz) r
end

/-- Where a block of the abstract machine lies. -/
inductive Hd where
  | none
  | box (b : Nat)
  | arr (base : Option Addr) (len cap sz : Nat)

def Hd.own : Hd → Option Nat
  | .none => Option.none
  | .box b => some b
  | .arr (some a) _ cap _ => if cap = 0 then Option.none else some a.block
  | .arr .none _ _ _ => Option.none

def Hd.val : Hd → Value
  | .none => .bool false
  | .box b => .pointer (some (pl b 0))
  | .arr base len cap _ => .slice base len cap

def isArr : Body → Bool
  | .arr _ _ => true
  | _ => false

mutual
/-- What a slot holds. -/
def ARel (N : Nat → Prop) (w : World) (μ : List Hd) (b : List Blk) : AVal → Value → Prop
  | .v c, v => CRel N w c v
  | .nl, v => ∃ base, v = .slice base 0 0
  | .lptr i off, v => ∃ x, μ[i]? = some (.box x) ∧ v = .pointer (some (pl x off))
  | .lel i ver idx off, v => (∃ a, v = .pointer (some a)) ∧ ∃ (blk : Blk) (h : Hd), b[i]? = some blk ∧ μ[i]? = some h ∧ h ≠ .none ∧ ver ≤ blk.ver ∧
      (ver = blk.ver → isArr blk.body = true → ∃ x len cap sz, h = .arr (some (pl x 0)) len cap sz ∧ idx < len ∧ v = .pointer (some (pl x (idx * sz + off))))
  | .lref i ver, v => flat v = true ∧ ∃ (blk : Blk) (h : Hd), b[i]? = some blk ∧ μ[i]? = some h ∧ h ≠ .none ∧ ver ≤ blk.ver ∧ (ver = blk.ver → isArr blk.body = true → v = h.val)
  | .agg cs, v => ∃ vs : List Value, v = .agg vs.toArray ∧ AsRel N w μ b true cs vs
  | .func f cs, v => ∃ vs : List Value, v = .func (.func f) #[] vs.toArray ∧ AsRel N w μ b false cs vs
  | .tup cs, v => ∃ vs : List Value, v = .tuple vs.toArray ∧ AsRel N w μ b false cs vs
  | .un, _ => True
def AsRel (N : Nat → Prop) (w : World) (μ : List Hd) (b : List Blk) : Bool → List AVal → List Value → Prop
  | _, [], vs => vs = []
  | fl, c :: r, vs => ∃ u us, vs = u :: us ∧ ARel N w μ b c u ∧ (fl = true → flat u = true) ∧ AsRel N w μ b fl r us
end

/-- What a block holds. -/
def BRel (N : Nat → Prop) (w : World) (μ : List Hd) (b : List Blk) (h : Hd) : Body → Prop
  | .dead => True
  | .box cs => ∃ x vs e, h = .box x ∧ w.heap[x]? = some (.cells (List.toArray vs) e (0, 0)) ∧ AsRel N w μ b true cs vs
  | .arr sz xs => ∃ base cap, h = .arr base xs.length cap sz ∧ xs.length ≤ cap ∧
      (cap = 0 ∨ ∃ x cells e, base = some (pl x 0) ∧ w.heap[x]? = some (.cells cells e (0, 0)) ∧ cap * sz ≤ cells.size ∧ ElRel N w sz x 0 xs)

def alive : Body → Bool
  | .dead => false
  | _ => true

/-- The blocks of the model's memory that the frame owns. -/
def Own (μ : List Hd) (b : List Blk) (x : Nat) : Prop :=
  ∃ (i : Nat) (blk : Blk) (h : Hd), b[i]? = some blk ∧ alive blk.body = true ∧ μ[i]? = some h ∧ h.own = some x

def Or (F O : Nat → Prop) (x : Nat) : Prop := F x ∨ O x

structure Rel (F : Nat → Prop) (w : World) (μ : List Hd) (b : List Blk) : Prop where
  len : μ.length = b.length
  blk : ∀ (i : Nat) (blk : Blk) (h : Hd), b[i]? = some blk → μ[i]? = some h → BRel (Or F (Own μ b)) w μ b h blk.body
  inj : ∀ (i j : Nat) (blk blk' : Blk) (h h' : Hd) (x : Nat), b[i]? = some blk → b[j]? = some blk' → alive blk.body = true → alive blk'.body = true →
    μ[i]? = some h → μ[j]? = some h' → h.own = some x → h'.own = some x → i = j
  fres : ∀ x, Own μ b x → ¬ F x ∧ x < w.heap.size
  fb : ∀ x, F x → x < w.heap.size

/-- From w to w' nothing has turned but in the blocks of O. -/
structure Fr (O : Nat → Prop) (w w' : World) : Prop where
  os : w'.os = w.os
  tape : w'.tape = w.tape
  output : w'.output = w.output
  size : w.heap.size ≤ w'.heap.size
  block : ∀ x, x < w.heap.size → ¬ O x → w'.heap[x]? = w.heap[x]?

theorem Fr.refl (O : Nat → Prop) (w : World) : Fr O w w := ⟨rfl, rfl, rfl, Nat.le_refl _, fun _ _ _ => rfl⟩
theorem Fr.trans {O O' : Nat → Prop} {a b c : World} (h : Fr O a b) (k : Fr O' b c) (ho : ∀ x, x < a.heap.size → O' x → O x) : Fr O a c :=
  ⟨k.os.trans h.os, k.tape.trans h.tape, k.output.trans h.output, Nat.le_trans h.size k.size,
   fun x hx hn => (k.block x (Nat.lt_of_lt_of_le hx h.size) (fun hc => hn (ho x hx hc))).trans (h.block x hx hn)⟩

theorem cell_block {w w' : World} {x : Nat} (h : w'.heap[x]? = w.heap[x]?) (o : Nat) : w'.cell? (pl x o) = w.cell? (pl x o) := by
  simp only [World.cell?, pl, h]

/-- Closed values last: no block that they lie in is written, and none becomes one of N'. -/
structure Keep (N N' : Nat → Prop) (w w' : World) : Prop where
  size : w.heap.size ≤ w'.heap.size
  block : ∀ x, x < w.heap.size → ¬ N x → w'.heap[x]? = w.heap[x]? ∧ ¬ N' x

theorem cell_lt {w : World} {x o : Nat} {v : Value} (h : w.cell? (pl x o) = some v) : x < w.heap.size := by
  simp only [World.cell?, pl] at h
  rcases Nat.lt_or_ge x w.heap.size with h' | h'
  · exact h'
  · simp [Array.getElem?_eq_none h'] at h

section
variable {N N' : Nat → Prop} {w w' : World} (K : Keep N N' w w')
include K
mutual
theorem CRel.keep : ∀ {c : CVal} {v : Value}, CRel N w c v → CRel N' w' c v
  | .bool _, _, h => h
  | .int _ _, _, h => h
  | .str _, _, h => h
  | .sl xs, v, h => by
    obtain ⟨base, cap, hv, hc, h⟩ := h
    refine ⟨base, cap, hv, hc, ?_⟩
    rcases h with h | ⟨b, o, sz, hb, hn, hs, he⟩
    · exact .inl h
    · exact .inr ⟨b, o, sz, hb, (K.block b hs hn).2, Nat.lt_of_lt_of_le hs K.size, ElRel.keep hs hn he⟩
  | .agg cs, v, h => by
    obtain ⟨vs, hv, h⟩ := h
    exact ⟨vs, hv, CsRel.keep h⟩
  | .fp c off, v, h => by
    obtain ⟨b, o, u, hv, hn, hs, ht, hc, hj⟩ := h
    exact ⟨b, o, u, hv, (K.block b hs hn).2, Nat.lt_of_lt_of_le hs K.size, ht, CRel.keep hc, fun j h => by rw [cell_block (K.block b hs hn).1]; exact hj j h⟩
  | .func _ cs, v, h => by
    obtain ⟨vs, hv, h⟩ := h
    exact ⟨vs, hv, CsRel.keep h⟩
  | .nilp, _, h => h
  | .nilf, _, h => h
  | .nili, _, h => h
  | .iface t c, v, h => by
    obtain ⟨u, hv, h⟩ := h
    exact ⟨u, hv, CRel.keep h⟩
  | .tup cs, v, h => by
    obtain ⟨vs, hv, h⟩ := h
    exact ⟨vs, hv, CsRel.keep h⟩
theorem CsRel.keep : ∀ {fl : Bool} {cs : List CVal} {vs : List Value}, CsRel N w fl cs vs → CsRel N' w' fl cs vs
  | _, [], _, h => h
  | _, c :: r, vs, h => by
    obtain ⟨u, us, hv, hc, hf, h⟩ := h
    exact ⟨u, us, hv, CRel.keep hc, hf, CsRel.keep h⟩
theorem ElRel.keep : ∀ {sz b o : Nat} {cs : List CVal}, b < w.heap.size → ¬ N b → ElRel N w sz b o cs → ElRel N' w' sz b o cs
  | _, _, _, [], _, _, _ => trivial
  | sz, b, o, c :: r, hs, hn, h => by
    obtain ⟨⟨u, ht, hc, hz, hj⟩, h⟩ := h
    exact ⟨⟨u, ht, CRel.keep hc, hz, fun j h => by rw [cell_block (K.block b hs hn).1]; exact hj j h⟩, ElRel.keep hs hn h⟩
end

/-- The same where the block itself is one of N, and has not been written. -/
theorem ElRel.keepAt : ∀ {sz b o : Nat} {cs : List CVal}, w'.heap[b]? = w.heap[b]? → ElRel N w sz b o cs → ElRel N' w' sz b o cs
  | _, _, _, [], _, _ => trivial
  | sz, b, o, c :: r, hb, h => by
    obtain ⟨⟨u, ht, hc, hz, hj⟩, h⟩ := h
    exact ⟨⟨u, ht, CRel.keep K hc, hz, fun j h => by rw [cell_block hb]; exact hj j h⟩, ElRel.keepAt hb h⟩
end


/-! ### Blocks change -/
/-- What was named by a block's handle may be named so still. -/
structure VerOk (blk : Blk) (h : Hd) (blk' : Blk) (h' : Hd) : Prop where
  le : blk.ver ≤ blk'.ver
  nn : h ≠ .none → h' ≠ .none
  box : ∀ x, h = .box x → h' = .box x
  same : blk'.ver = blk.ver → isArr blk'.body = true → h ≠ .none → isArr blk.body = true ∧ h' = h

theorem VerOk.refl (blk : Blk) (h : Hd) : VerOk blk h blk h := ⟨Nat.le_refl _, id, fun _ h => h, fun _ h _ => ⟨h, rfl⟩⟩

/-- From one state to the next. -/
structure Upd (F : Nat → Prop) (w : World) (μ : List Hd) (b : List Blk) (w' : World) (μ' : List Hd) (b' : List Blk) : Prop where
  len0 : μ.length = b.length
  len : μ'.length = b'.length
  old : ∀ (i : Nat) (blk : Blk) (h : Hd), b[i]? = some blk → μ[i]? = some h → ∃ (blk' : Blk) (h' : Hd), b'[i]? = some blk' ∧ μ'[i]? = some h' ∧ VerOk blk h blk' h'
  size : w.heap.size ≤ w'.heap.size
  own : ∀ x, Own μ' b' x → x < w'.heap.size ∧ (w.heap.size ≤ x ∨ Own μ b x)
  mem : ∀ x, x < w.heap.size → ¬ Own μ b x → w'.heap[x]? = w.heap[x]?

section
variable {F : Nat → Prop} {w w' : World} {μ μ' : List Hd} {b b' : List Blk}
theorem Upd.keep (U : Upd F w μ b w' μ' b') : Keep (Or F (Own μ b)) (Or F (Own μ' b')) w w' :=
  ⟨U.size, fun x hx hn => ⟨U.mem x hx fun h => hn (.inr h), fun h => by
    rcases h with h | h
    · exact hn (.inl h)
    · rcases (U.own x h).2 with h' | h'
      · omega
      · exact hn (.inr h')⟩⟩

mutual
theorem ARel.upd (U : Upd F w μ b w' μ' b') : ∀ {x : AVal} {v : Value}, ARel (Or F (Own μ b)) w μ b x v → ARel (Or F (Own μ' b')) w' μ' b' x v
  | .v c, v, h => CRel.keep U.keep h
  | .nl, v, h => h
  | .lptr i off, v, h => by
    obtain ⟨x, hm, hv⟩ := h
    have hi : i < b.length := by
      rw [← U.len0]
      exact (List.getElem?_eq_some_iff.1 hm).1
    obtain ⟨blk', h', hb', hm', V⟩ := U.old i b[i] _ (List.getElem?_eq_getElem hi) hm
    exact ⟨x, by rw [hm', V.box x rfl], hv⟩
  | .lel i ver idx off, v, h => by
    obtain ⟨hfl, blk, hd, hb, hm, hn, hle, hc⟩ := h
    obtain ⟨blk', h', hb', hm', V⟩ := U.old i blk hd hb hm
    refine ⟨hfl, blk', h', hb', hm', V.nn hn, Nat.le_trans hle V.le, fun he ha => ?_⟩
    have e : blk'.ver = blk.ver := by have := V.le; omega
    obtain ⟨ha', rfl⟩ := V.same e ha hn
    exact hc (by omega) ha'
  | .lref i ver, v, h => by
    obtain ⟨hfl, blk, hd, hb, hm, hn, hle, hc⟩ := h
    obtain ⟨blk', h', hb', hm', V⟩ := U.old i blk hd hb hm
    refine ⟨hfl, blk', h', hb', hm', V.nn hn, Nat.le_trans hle V.le, fun he ha => ?_⟩
    have e : blk'.ver = blk.ver := by have := V.le; omega
    obtain ⟨ha', rfl⟩ := V.same e ha hn
    exact hc (by omega) ha'
  | .agg cs, v, h => by
    obtain ⟨vs, hv, h⟩ := h
    exact ⟨vs, hv, AsRel.upd U h⟩
  | .func f cs, v, h => by
    obtain ⟨vs, hv, h⟩ := h
    exact ⟨vs, hv, AsRel.upd U h⟩
  | .tup cs, v, h => by
    obtain ⟨vs, hv, h⟩ := h
    exact ⟨vs, hv, AsRel.upd U h⟩
  | .un, _, _ => trivial
theorem AsRel.upd (U : Upd F w μ b w' μ' b') : ∀ {fl : Bool} {cs : List AVal} {vs : List Value}, AsRel (Or F (Own μ b)) w μ b fl cs vs → AsRel (Or F (Own μ' b')) w' μ' b' fl cs vs
  | _, [], _, h => h
  | _, c :: r, vs, h => by
    obtain ⟨u, us, hv, hc, hf, h⟩ := h
    exact ⟨u, us, hv, ARel.upd U hc, hf, AsRel.upd U h⟩
end

/-- A block that has not been touched. -/
theorem BRel.upd (U : Upd F w μ b w' μ' b') {h : Hd} {bd : Body} (hh : ∀ x, h.own = some x → alive bd = true → w'.heap[x]? = w.heap[x]?)
    (B : BRel (Or F (Own μ b)) w μ b h bd) : BRel (Or F (Own μ' b')) w' μ' b' h bd := by
  cases bd with
  | dead => trivial
  | box cs =>
    obtain ⟨x, vs, e, rfl, hw, ha⟩ := B
    exact ⟨x, vs, e, rfl, by rw [hh x rfl rfl]; exact hw, AsRel.upd U ha⟩
  | arr sz xs =>
    obtain ⟨base, cap, rfl, hl, hc⟩ := B
    refine ⟨base, cap, rfl, hl, ?_⟩
    rcases hc with hc | ⟨x, cells, e, rfl, hw, h1, h3⟩
    · exact .inl hc
    · by_cases h0 : cap = 0
      · exact .inl h0
      · have hx := hh x (by simp [Hd.own, h0, pl]) rfl
        exact .inr ⟨x, cells, e, rfl, by rw [hx]; exact hw, h1, ElRel.keepAt U.keep hx h3⟩

/-- One block alone has turned, or is new: all the others stand as they stood. -/
structure One (F : Nat → Prop) (w : World) (μ : List Hd) (b : List Blk) (w' : World) (μ' : List Hd) (b' : List Blk) (k : Nat) : Prop where
  rel : Rel F w μ b
  len : μ'.length = b'.length
  grow : b.length ≤ b'.length
  off : ∀ i, i < b'.length → i ≠ k → b'[i]? = b[i]? ∧ μ'[i]? = μ[i]?
  kb : k < b'.length
  at_ : ∀ blk h, b[k]? = some blk → μ[k]? = some h → ∃ (blk' : Blk) (h' : Hd), b'[k]? = some blk' ∧ μ'[k]? = some h' ∧ VerOk blk h blk' h'
  size : w.heap.size ≤ w'.heap.size
  new : ∀ (blk' : Blk) (h' : Hd) x, b'[k]? = some blk' → μ'[k]? = some h' → alive blk'.body = true → h'.own = some x →
    x < w'.heap.size ∧ (w.heap.size ≤ x ∨ ∃ (blk : Blk) (h : Hd), b[k]? = some blk ∧ μ[k]? = some h ∧ alive blk.body = true ∧ h.own = some x)
  mem : ∀ x, x < w.heap.size → (∀ (blk : Blk) (h : Hd), b[k]? = some blk → μ[k]? = some h → alive blk.body = true → h.own ≠ some x) → w'.heap[x]? = w.heap[x]?

theorem One.own {k : Nat} (O : One F w μ b w' μ' b' k) : ∀ x, Own μ' b' x → x < w'.heap.size ∧ (w.heap.size ≤ x ∨ Own μ b x) := by
  intro x ⟨i, blk, h, hb, ha, hm, ho⟩
  by_cases hk : i = k
  · subst hk
    obtain ⟨h1, h2⟩ := O.new blk h x hb hm ha ho
    refine ⟨h1, h2.imp id ?_⟩
    rintro ⟨blk0, h0, hb0, hm0, ha0, ho0⟩
    exact ⟨i, blk0, h0, hb0, ha0, hm0, ho0⟩
  · have hi : i < b'.length := (List.getElem?_eq_some_iff.1 hb).1
    obtain ⟨e1, e2⟩ := O.off i hi hk
    rw [e1] at hb; rw [e2] at hm
    have hx := (O.rel.fres x ⟨i, blk, h, hb, ha, hm, ho⟩).2
    exact ⟨Nat.lt_of_lt_of_le hx O.size, .inr ⟨i, blk, h, hb, ha, hm, ho⟩⟩

theorem One.upd {k : Nat} (O : One F w μ b w' μ' b' k) : Upd F w μ b w' μ' b' := by
  refine ⟨O.rel.len, O.len, ?_, O.size, O.own, ?_⟩
  · intro i blk h hb hm
    by_cases hk : i = k
    · subst hk; exact O.at_ blk h hb hm
    · have hi : i < b'.length := Nat.lt_of_lt_of_le (List.getElem?_eq_some_iff.1 hb).1 O.grow
      obtain ⟨e1, e2⟩ := O.off i hi hk
      exact ⟨blk, h, by rw [e1]; exact hb, by rw [e2]; exact hm, .refl _ _⟩
  · intro x hx hn
    refine O.mem x hx fun blk h hb hm ha ho => hn ⟨k, blk, h, hb, ha, hm, ho⟩

theorem One.done {k : Nat} (O : One F w μ b w' μ' b' k)
    (hk : ∀ (blk' : Blk) (h' : Hd), b'[k]? = some blk' → μ'[k]? = some h' → BRel (Or F (Own μ' b')) w' μ' b' h' blk'.body) : Rel F w' μ' b' := by
  have U := O.upd
  have far : ∀ (i : Nat) (blk : Blk) (h : Hd) (x : Nat), i ≠ k → b[i]? = some blk → μ[i]? = some h → alive blk.body = true → h.own = some x → w'.heap[x]? = w.heap[x]? := by
    intro i blk h x hne hb hm ha ho
    refine O.mem x (O.rel.fres x ⟨i, blk, h, hb, ha, hm, ho⟩).2 fun blk0 h0 hb0 hm0 ha0 ho0 => hne ?_
    exact O.rel.inj i k blk blk0 h h0 x hb hb0 ha ha0 hm hm0 ho ho0
  refine ⟨O.len, ?_, ?_, ?_, fun x hx => Nat.lt_of_lt_of_le (O.rel.fb x hx) O.size⟩
  · intro i blk h hb hm
    by_cases hki : i = k
    · subst hki; exact hk blk h hb hm
    · have hi : i < b'.length := (List.getElem?_eq_some_iff.1 hb).1
      obtain ⟨e1, e2⟩ := O.off i hi hki
      rw [e1] at hb; rw [e2] at hm
      exact BRel.upd U (fun x ho ha => far i blk h x hki hb hm ha ho) (O.rel.blk i blk h hb hm)
  · have cross : ∀ (i : Nat) (blk : Blk) (h : Hd) (blk' : Blk) (h' : Hd) (x : Nat), i ≠ k → i < b'.length → b'[i]? = some blk → alive blk.body = true → μ'[i]? = some h → h.own = some x →
        b'[k]? = some blk' → alive blk'.body = true → μ'[k]? = some h' → h'.own = some x → False := by
      intro i blk h blk' h' x hne hi hb ha hm ho hb' ha' hm' ho'
      obtain ⟨e1, e2⟩ := O.off i hi hne
      rw [e1] at hb; rw [e2] at hm
      have hx := (O.rel.fres x ⟨i, blk, h, hb, ha, hm, ho⟩).2
      rcases (O.new blk' h' x hb' hm' ha' ho').2 with h1 | ⟨blk0, h0, hb0, hm0, ha0, ho0⟩
      · omega
      · exact hne (O.rel.inj i k blk blk0 h h0 x hb hb0 ha ha0 hm hm0 ho ho0)
    intro i j blk blk' h h' x hb hb' ha ha' hm hm' ho ho'
    have hi : i < b'.length := (List.getElem?_eq_some_iff.1 hb).1
    have hj : j < b'.length := (List.getElem?_eq_some_iff.1 hb').1
    by_cases hik : i = k
    · by_cases hjk : j = k
      · rw [hik, hjk]
      · subst hik; exact (cross j blk' h' blk h x hjk hj hb' ha' hm' ho' hb ha hm ho).elim
    · by_cases hjk : j = k
      · subst hjk; exact (cross i blk h blk' h' x hik hi hb ha hm ho hb' ha' hm' ho').elim
      · obtain ⟨e1, e2⟩ := O.off i hi hik
        obtain ⟨e3, e4⟩ := O.off j hj hjk
        rw [e1] at hb; rw [e2] at hm; rw [e3] at hb'; rw [e4] at hm'
        exact O.rel.inj i j blk blk' h h' x hb hb' ha ha' hm hm' ho ho'
  · intro x hx
    obtain ⟨h1, h2⟩ := O.own x hx
    refine ⟨fun hf => ?_, h1⟩
    rcases h2 with h2 | h2
    · have := O.rel.fb x hf; omega
    · exact (O.rel.fres x h2).1 hf

theorem One.fr {k : Nat} (O : One F w μ b w' μ' b' k) (hos : w'.os = w.os) (ht : w'.tape = w.tape) (ho : w'.output = w.output) : Fr (Own μ b) w w' :=
  ⟨hos, ht, ho, O.size, O.upd.mem⟩
end

end Go.Proofs.Ytlgonbonnjkekaa.Abs

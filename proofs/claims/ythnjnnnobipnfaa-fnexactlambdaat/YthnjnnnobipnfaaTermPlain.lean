/- The text of a term, in plain lists. -/
import Derived.Test.YthnjnnnobipnfaaTermLaws
import Derived.Test.YthnjnnnobipnfaaTyText
import Derived.Test.YthnjnnnobipnfaaL2Int
set_option linter.unusedVariables false
set_option linter.unusedSectionVars false
set_option linter.unusedSimpArgs false
set_option maxRecDepth 100000
namespace Go.Proofs.Ythnjnnnobipnfaa.Abs
open Go Go.Proofs
open Classical
namespace Ty
theorem joinTail_toksL (l : List Ty) : Lib.joinTail [32] (toksL l) = textL l := by
  induction l with
  | nil => rfl
  | cons u l ih => rw [toksL_cons, joinTail_append, joinTail_toks u, ih, textL_cons]
end Ty
namespace Term
def kword (k : Int) : List UInt8 :=
  if k = 1 then [110] else if k = 2 then [116] else if k = 3 then [118] else if k = 4 then [102, 110] else if k = 5 then [97, 112, 112] else if k = 6 then [108, 101, 116] else
  if k = 7 then [102, 105, 120] else if k = 8 then [105, 102] else if k = 9 then [112, 97, 105, 114] else if k = 10 then [102, 115, 116] else if k = 11 then [115, 110, 100] else
  if k = 12 then [110, 105, 108] else if k = 13 then [99, 111, 110, 115] else if k = 14 then [99, 97, 115, 101] else if k = 15 then [111, 112] else if k = 16 then [114, 97, 105, 115, 101] else [116, 114, 121]
def sign (n : Int) : List UInt8 := if n = 1 then [43] else if n = 2 then [45] else if n = 3 then [42] else if n = 4 then [60] else [61]
def opt (s : List UInt8) : List (List UInt8) := if s = [] then [] else [s]
/-- The first word, and the others of the head. -/
def first (t : Term) : List UInt8 := if t.k = 2 then (if t.n = 1 then [116] else [117]) else kword t.k
def numW (t : Term) : List (List UInt8) := if t.k = 1 ∨ t.k = 6 ∨ t.k = 7 then [Lib.itoa t.n] else if t.k = 15 then [sign t.n] else if t.k = 3 then [Lib.itoa t.ts.length] else []
def rest (t : Term) : List (List UInt8) := opt t.s ++ (opt t.z ++ (numW t ++ (Ty.toksL t.ts ++ (if hasT t.k = true then t.t.toks else []))))
def toks : Term → List (List UInt8)
  | .mk k n s z t ts a => (first (.mk k n s z t ts a) :: rest (.mk k n s z t ts a)) ++ (a.map toks).flatten
def toksL (l : List Term) : List (List UInt8) := (l.map toks).flatten
theorem toks_def (t : Term) : t.toks = first t :: (rest t ++ toksL t.a) := by cases t; rw [toks]; rfl
@[simp] theorem toksL_nil : toksL [] = [] := rfl
@[simp] theorem toksL_cons {t : Term} {l : List Term} : toksL (t :: l) = t.toks ++ toksL l := by simp [toksL]
def text (t : Term) : List UInt8 := Lib.join t.toks [32]
theorem text_eq (t : Term) : t.text = first t ++ (Lib.joinTail [32] (rest t) ++ Lib.joinTail [32] (toksL t.a)) := by
  unfold text
  rw [toks_def, Lib.join_cons, Ty.joinTail_append]
theorem joinTail_toks (t : Term) : Lib.joinTail [32] t.toks = 32 :: t.text := by
  rw [text_eq, toks_def, Ty.joinTail_cons, Ty.joinTail_append]
  simp
theorem nodes_mem {l : List Term} : ∀ {u : Term}, u ∈ l → u.nodes ≤ nodesL l := by
  induction l with
  | nil => intro u h; cases h
  | cons x l ih =>
    intro u h
    rw [nodesL_cons]
    rcases List.mem_cons.1 h with rfl | h
    · omega
    · have := ih h; omega
theorem joinTail_one (s : List UInt8) : Lib.joinTail [32] [s] = 32 :: s := by simp [Lib.joinTail]
theorem joinTail_nil : Lib.joinTail [32] [] = [] := rfl

/-! What a right head tells -/
structure Head (t : Term) : Prop where
  a : (t.a.length : Int) = parts t.k
  num : numberOk t.k t.n = true
  nm : namesOk t.k t.s t.z = true
  fx : t.k = 7 → t.fixB = true
  ty : hasT t.k = true → t.t.right
  no : hasT t.k = false → t.t.k = 0
  ts : (t.ts.length : Int) ≤ if t.k = 3 then 2 else 0
  tsr : ∀ x ∈ t.ts, x.right
theorem same_zero {x : Ty} (h : x.same Ty.zero = true) : x.k = 0 := by
  cases x with
  | mk k n a =>
    unfold Ty.zero at h
    rw [Ty.same] at h
    simp only [Bool.and_eq_true, decide_eq_true_eq] at h
    exact h.1
theorem head_of {t : Term} (h : t.head = true) : Head t := by
  unfold head at h
  simp only [Bool.and_eq_true, Bool.or_eq_true, decide_eq_true_eq, beq_iff_eq, Bool.not_eq_true', decide_eq_false_iff_not] at h
  obtain ⟨h1, h2, h3, h4, h5, h6, h7, h8⟩ := h
  refine ⟨h1, h2, h3, fun e => (h4.resolve_left (fun n => n e)), fun e => ?_, fun e => ?_, h7, fun x hx => ?_⟩
  · rw [e] at h5
    unfold Ty.rightB at h5
    exact of_decide_eq_true h5.symm
  · rcases h6 with h6 | h6
    · rw [h6] at e; cases e
    · exact same_zero h6
  · have := List.any_eq_false.1 h8 x hx
    unfold Ty.rightB at this
    simpa using this
theorem Head.k {t : Term} (h : Head t) : 1 ≤ t.k ∧ t.k ≤ 17 := by
  have h1 := h.a
  unfold parts at h1
  repeat' split at h1
  all_goals omega
theorem name_len {s : List UInt8} (h : isName false s = true) : s.length ≤ 8 ∧ s ≠ [] := by
  unfold isName at h
  simp only [Bool.and_eq_true, decide_eq_true_eq] at h
  exact ⟨h.1.2, fun e => by have := h.1.1; rw [e] at this; simp at this⟩
theorem Head.s_len {t : Term} (h : Head t) : t.s.length ≤ 8 := by
  have h1 := h.nm
  unfold namesOk at h1
  split at h1
  · simp only [Bool.and_eq_true] at h1
    exact (name_len h1.1).1
  · simp only [Bool.and_eq_true, Bool.or_eq_true, decide_eq_true_eq] at h1
    rcases h1.2.2 with e | e
    · rw [e]; simp
    · exact (name_len e).1
theorem Head.z_len {t : Term} (h : Head t) : t.z.length ≤ 8 := by
  have h1 := h.nm
  unfold namesOk at h1
  split at h1
  · simp only [Bool.and_eq_true] at h1
    exact (name_len h1.2.1).1
  · simp only [Bool.and_eq_true, decide_eq_true_eq] at h1
    rw [h1.1]; simp
theorem Head.i {t : Term} (h : Head t) : -1000000 ≤ t.n ∧ t.n ≤ 1000000 := by
  have h1 := h.num
  unfold numberOk at h1
  repeat' split at h1
  all_goals (simp only [decide_eq_true_eq] at h1; omega)
theorem itoa_short {n : Int} (h : -1000000 ≤ n ∧ n ≤ 1000000) : (Lib.itoa n).length ≤ 21 := itoa_len n (by unfold i64; omega)
theorem opt_len (s : List UInt8) : (Lib.joinTail [32] (opt s)).length ≤ s.length + 1 := by
  unfold opt
  split
  · simp [joinTail_nil]
  · rw [joinTail_one]; simp
theorem numW_len {t : Term} (h : Head t) : (Lib.joinTail [32] (numW t)).length ≤ 30 := by
  unfold numW
  split
  · have := itoa_short h.i
    rw [joinTail_one]; simp only [List.length_cons]; omega
  · split
    · rw [joinTail_one]
      unfold sign
      repeat' split
      all_goals simp
    · split
      · have h7 := h.ts
        have : (Lib.itoa t.ts.length).length ≤ 21 := itoa_len _ (by unfold i64; split at h7 <;> omega)
        rw [joinTail_one]; simp only [List.length_cons]; omega
      · simp [joinTail_nil]
theorem right_text {x : Ty} (h : x.right) : x.text.length + 1 ≤ 180 := by
  have h1 := Ty.text_len x h.1
  have h2 := h.2.2
  omega
theorem textL_len : ∀ (l : List Ty), (∀ x ∈ l, x.right) → (Ty.textL l).length ≤ 180 * l.length
  | [], _ => by simp
  | x :: l, h => by
    have h1 := right_text (h x (by simp))
    have h2 := textL_len l fun y hy => h y (by simp [hy])
    simp only [Ty.textL_cons, List.length_append, List.length_cons]; omega
theorem ts_len {t : Term} (h : Head t) : t.ts.length ≤ 2 := by have h7 := h.ts; split at h7 <;> omega
theorem rest_len {t : Term} (h : Head t) : (Lib.joinTail [32] (rest t)).length ≤ 700 := by
  unfold rest
  simp only [Ty.joinTail_append, List.length_append]
  have h1 := opt_len t.s
  have h2 := opt_len t.z
  have h3 := numW_len h
  have h4 := textL_len t.ts h.tsr
  have h5 := ts_len h
  have h6 := h.s_len
  have h7 := h.z_len
  rw [Ty.joinTail_toksL]
  have h8 : (Lib.joinTail [32] (if hasT t.k = true then t.t.toks else [])).length ≤ 180 := by
    split
    · next e => rw [Ty.joinTail_toks]; exact right_text (h.ty e)
    · simp [joinTail_nil]
  omega
theorem ite_len {p : Prop} [Decidable p] {a b : List UInt8} {n : Nat} (ha : a.length ≤ n) (hb : b.length ≤ n) : (if p then a else b).length ≤ n := by split <;> assumption
theorem kword_len (k : Int) : (kword k).length ≤ 5 := by
  unfold kword
  repeat' apply ite_len
  all_goals decide
theorem first_len (t : Term) : (first t).length ≤ 5 := by
  unfold first
  exact ite_len (ite_len (by decide) (by decide)) (kword_len _)
theorem text_len : ∀ t : Term, t.good → t.text.length + 1 ≤ 800 * t.nodes := ind fun t ih hg => by
  obtain ⟨hh, hp⟩ := (good_def t).1 hg
  have : ∀ l : List Term, (∀ u ∈ l, u.text.length + 1 ≤ 800 * u.nodes) → (Lib.joinTail [32] (toksL l)).length ≤ 800 * nodesL l := by
    intro l
    induction l with
    | nil => intro _; simp [joinTail_nil]
    | cons u l ih =>
      intro h
      have h1 := h u (by simp)
      have h2 := ih fun v hv => h v (by simp [hv])
      rw [toksL_cons, Ty.joinTail_append, joinTail_toks]
      simp only [List.length_append, List.length_cons, nodesL_cons]; omega
  have h1 := this t.a fun u hu => ih u hu (hp u hu)
  have h2 := first_len t
  have h3 := rest_len (head_of hh)
  rw [text_eq, List.length_append, List.length_append, nodes_def]; omega
theorem rest_many {t : Term} (h : Head t) : (rest t).length ≤ 200 := by
  unfold rest
  simp only [List.length_append]
  have h1 : (opt t.s).length ≤ 1 := by unfold opt; split <;> simp
  have h2 : (opt t.z).length ≤ 1 := by unfold opt; split <;> simp
  have h3 : (numW t).length ≤ 1 := by unfold numW; repeat' split
                                      all_goals simp
  have h5 := ts_len h
  have h4 : ∀ (l : List Ty), (∀ x ∈ l, x.right) → (Ty.toksL l).length ≤ 60 * l.length := by
    intro l
    induction l with
    | nil => intro _; simp
    | cons x l ih =>
      intro h
      have h1 := Ty.toks_len x
      have h2 := (h x (by simp)).2.2
      have h3 := ih fun y hy => h y (by simp [hy])
      simp only [Ty.toksL_cons, List.length_append, List.length_cons]; omega
  have h4 := h4 t.ts h.tsr
  have h8 : (if hasT t.k = true then t.t.toks else []).length ≤ 60 := by
    split
    · next e => rw [Ty.toks_len]; exact (h.ty e).2.2
    · simp
  omega
theorem toks_many : ∀ t : Term, t.good → t.toks.length ≤ 201 * t.nodes := ind fun t ih hg => by
  obtain ⟨hh, hp⟩ := (good_def t).1 hg
  have : ∀ l : List Term, (∀ u ∈ l, u.toks.length ≤ 201 * u.nodes) → (toksL l).length ≤ 201 * nodesL l := by
    intro l
    induction l with
    | nil => intro _; simp
    | cons u l ih =>
      intro h
      have h1 := h u (by simp)
      have h2 := ih fun v hv => h v (by simp [hv])
      simp only [toksL_cons, List.length_append, nodesL_cons]; omega
  have h1 := this t.a fun u hu => ih u hu (hp u hu)
  have h3 := rest_many (head_of hh)
  rw [toks_def, List.length_cons, List.length_append, nodes_def]; omega
theorem Head.ts_nil {t : Term} (h : Head t) (h3 : t.k ≠ 3) : t.ts = [] := by
  have := h.ts
  rw [if_neg h3] at this
  exact List.eq_nil_of_length_eq_zero (by omega)
theorem zero_of {x : Ty} (h : x.same Ty.zero = true) : x = Ty.zero := by
  cases x with
  | mk k n a =>
    unfold Ty.zero at h ⊢
    rw [Ty.same] at h
    simp only [Bool.and_eq_true, decide_eq_true_eq] at h
    cases a with
    | nil => rw [h.1, h.2.1]
    | cons y l => simp [Ty.sameL] at h
theorem bool_rest {t : Term} (H : Head t) (hg : t.head = true) (h2 : t.k = 2) : rest t = [] ∧ t = .mk 2 (if first t = [116] then 1 else 0) [] [] Ty.zero [] [] := by
  have hn := H.num
  have ha := H.a
  have hnm := H.nm
  have hts := H.ts_nil (by omega)
  have hz : t.t = Ty.zero := by
    unfold head at hg
    simp only [Bool.and_eq_true, Bool.or_eq_true, h2] at hg
    exact zero_of (hg.2.2.2.2.2.1.resolve_left (by decide))
  rw [h2] at hn ha hnm
  have ha : t.a = [] := List.eq_nil_of_length_eq_zero (by have : parts 2 = 0 := rfl; omega)
  have hn : 0 ≤ t.n ∧ t.n ≤ 1 := by
    unfold numberOk at hn
    simpa using hn
  unfold namesOk at hnm
  simp only [show ¬ ((2 : Int) = 14) by omega, if_false, Bool.and_eq_true, decide_eq_true_eq, beq_iff_eq, Bool.or_eq_true] at hnm
  obtain ⟨z0, s1, s2⟩ := hnm
  have s0 : t.s = [] := by
    rcases s2 with e | e
    · exact e
    · rw [e] at s1; exact absurd s1 (by decide)
  refine ⟨?_, ?_⟩
  · unfold rest
    rw [s0, z0, hts, h2]
    have : numW t = [] := by unfold numW; simp [h2]
    rw [this]
    rfl
  · have : (if first t = [116] then (1 : Int) else 0) = t.n := by
      unfold first
      rw [if_pos h2]
      have : t.n = 0 ∨ t.n = 1 := by omega
      rcases this with e | e <;> rw [e] <;> decide
    rw [this]
    cases t
    simp only [k_mk, s_mk, z_mk, t_mk, ts_mk, a_mk, n_mk] at *
    subst_vars
    rfl
end Term
/-! One step at the head -/
theorem br_T {R : Type} {b : Bool} {x y : Option R} {z : Option R} (h : b = true) (h2 : x = z) : br b x y = z := by rw [h]; exact h2
theorem br_F {R : Type} {b : Bool} {x y : Option R} {z : Option R} (h : b = false) (h2 : y = z) : br b x y = z := by rw [h]; exact h2
theorem bd {α β : Type} {o : Option α} {a : α} {f : α → Option β} {z : Option β} (h : o = some a) (h2 : f a = z) : o.bind f = z := by rw [h]; exact h2
theorem lo_out {A R : Type} {kr : Ret → Option R} {k : Nat → A → Option R} {j : Nat} {p : A} {z : Option R} (h : k j p = z) : loK (.out j p) kr k = z := h

namespace Term
theorem kword_at {k : Int} (h : 1 ≤ k ∧ k ≤ 17) : [CVal.str [], CVal.str [(110 : UInt8)], CVal.str [(116 : UInt8)], CVal.str [(118 : UInt8)],
    CVal.str [(102 : UInt8), (110 : UInt8)], CVal.str [(97 : UInt8), (112 : UInt8), (112 : UInt8)], CVal.str [(108 : UInt8), (101 : UInt8), (116 : UInt8)],
    CVal.str [(102 : UInt8), (105 : UInt8), (120 : UInt8)], CVal.str [(105 : UInt8), (102 : UInt8)], CVal.str [(112 : UInt8), (97 : UInt8), (105 : UInt8), (114 : UInt8)],
    CVal.str [(102 : UInt8), (115 : UInt8), (116 : UInt8)], CVal.str [(115 : UInt8), (110 : UInt8), (100 : UInt8)], CVal.str [(110 : UInt8), (105 : UInt8), (108 : UInt8)],
    CVal.str [(99 : UInt8), (111 : UInt8), (110 : UInt8), (115 : UInt8)], CVal.str [(99 : UInt8), (97 : UInt8), (115 : UInt8), (101 : UInt8)], CVal.str [(111 : UInt8), (112 : UInt8)],
    CVal.str [(114 : UInt8), (97 : UInt8), (105 : UInt8), (115 : UInt8), (101 : UInt8)], CVal.str [(116 : UInt8), (114 : UInt8), (121 : UInt8)]][k.toNat]? = some (.str (kword k)) := by
  have : k = 1 ∨ k = 2 ∨ k = 3 ∨ k = 4 ∨ k = 5 ∨ k = 6 ∨ k = 7 ∨ k = 8 ∨ k = 9 ∨ k = 10 ∨ k = 11 ∨ k = 12 ∨ k = 13 ∨ k = 14 ∨ k = 15 ∨ k = 16 ∨ k = 17 := by omega
  rcases this with rfl | rfl | rfl | rfl | rfl | rfl | rfl | rfl | rfl | rfl | rfl | rfl | rfl | rfl | rfl | rfl | rfl <;> rfl
theorem kword_at2 {k : Int} (h : 1 ≤ k ∧ k ≤ 17) (h2 : k ≠ 2) : [CVal.str [], CVal.str [(110 : UInt8)], CVal.str [], CVal.str [(118 : UInt8)],
    CVal.str [(102 : UInt8), (110 : UInt8)], CVal.str [(97 : UInt8), (112 : UInt8), (112 : UInt8)], CVal.str [(108 : UInt8), (101 : UInt8), (116 : UInt8)],
    CVal.str [(102 : UInt8), (105 : UInt8), (120 : UInt8)], CVal.str [(105 : UInt8), (102 : UInt8)], CVal.str [(112 : UInt8), (97 : UInt8), (105 : UInt8), (114 : UInt8)],
    CVal.str [(102 : UInt8), (115 : UInt8), (116 : UInt8)], CVal.str [(115 : UInt8), (110 : UInt8), (100 : UInt8)], CVal.str [(110 : UInt8), (105 : UInt8), (108 : UInt8)],
    CVal.str [(99 : UInt8), (111 : UInt8), (110 : UInt8), (115 : UInt8)], CVal.str [(99 : UInt8), (97 : UInt8), (115 : UInt8), (101 : UInt8)], CVal.str [(111 : UInt8), (112 : UInt8)],
    CVal.str [(114 : UInt8), (97 : UInt8), (105 : UInt8), (115 : UInt8), (101 : UInt8)], CVal.str [(116 : UInt8), (114 : UInt8), (121 : UInt8)]][k.toNat]? = some (.str (kword k)) := by
  have : k = 1 ∨ k = 3 ∨ k = 4 ∨ k = 5 ∨ k = 6 ∨ k = 7 ∨ k = 8 ∨ k = 9 ∨ k = 10 ∨ k = 11 ∨ k = 12 ∨ k = 13 ∨ k = 14 ∨ k = 15 ∨ k = 16 ∨ k = 17 := by omega
  rcases this with rfl | rfl | rfl | rfl | rfl | rfl | rfl | rfl | rfl | rfl | rfl | rfl | rfl | rfl | rfl | rfl <;> rfl
theorem sign_at {n : Int} (h : 1 ≤ n ∧ n ≤ 5) : [CVal.str [], CVal.str [(43 : UInt8)], CVal.str [(45 : UInt8)], CVal.str [(42 : UInt8)], CVal.str [(60 : UInt8)], CVal.str [(61 : UInt8)]][n.toNat]? = some (.str (sign n)) := by
  have : n = 1 ∨ n = 2 ∨ n = 3 ∨ n = 4 ∨ n = 5 := by omega
  rcases this with rfl | rfl | rfl | rfl | rfl <;> rfl
theorem sign_len (n : Int) : (sign n).length = 1 := by
  unfold sign
  repeat' split
  all_goals rfl
/-- Whether a name stands at S, at Z. -/
theorem Head.s_iff {t : Term} (H : Head t) : t.s = [] ↔ ¬ (bindsS t.k = true ∨ t.k = 3) := by
  have h1 := H.nm
  unfold namesOk at h1
  by_cases h14 : t.k = 14
  · rw [if_pos h14] at h1
    simp only [Bool.and_eq_true] at h1
    have := (name_len h1.1).2
    exact ⟨fun e => (this e).elim, fun e => (e (.inl (by rw [h14]; rfl))).elim⟩
  · rw [if_neg h14] at h1
    simp only [Bool.and_eq_true, beq_iff_eq, Bool.or_eq_true, decide_eq_true_eq] at h1
    by_cases hb : bindsS t.k = true ∨ t.k = 3
    · have hn : isName false t.s = true := by rw [h1.2.1]; rcases hb with hb | hb <;> simp [hb]
      exact ⟨fun e => ((name_len hn).2 e).elim, fun e => (e hb).elim⟩
    · have hn : isName false t.s = false := by
        rw [h1.2.1]
        simp only [not_or] at hb
        simp [hb.1, hb.2]
      exact ⟨fun _ => hb, fun _ => by rcases h1.2.2 with e | e; exact e; rw [hn] at e; cases e⟩
theorem Head.z_iff {t : Term} (H : Head t) : t.z = [] ↔ t.k ≠ 14 := by
  have h1 := H.nm
  unfold namesOk at h1
  by_cases h14 : t.k = 14
  · rw [if_pos h14] at h1
    simp only [Bool.and_eq_true] at h1
    have := (name_len h1.2.1).2
    exact ⟨fun e => (this e).elim, fun e => (e h14).elim⟩
  · rw [if_neg h14] at h1
    simp only [Bool.and_eq_true, decide_eq_true_eq] at h1
    exact ⟨fun _ => h14, fun _ => h1.1⟩
theorem Head.t_pos {t : Term} (H : Head t) : (0 < t.t.k) ↔ hasT t.k = true := by
  cases e : hasT t.k with
  | true =>
    have := ((Ty.good_def t.t).1 (H.ty e).1).1.kind
    exact ⟨fun _ => rfl, fun _ => by omega⟩
  | false =>
    have := H.no e
    exact ⟨fun h => by omega, fun h => by cases h⟩
end Term

macro "lenT" : tactic => `(tactic| refine br_T (decide_eq_true (by (try simp only [List.length_append, List.length_cons, List.length_nil]); omega)) ?_)
end Go.Proofs.Ythnjnnnobipnfaa.Abs

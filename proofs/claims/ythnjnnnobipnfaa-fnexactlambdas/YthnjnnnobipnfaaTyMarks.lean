/- Marks in types: what the law's functions do with them. -/
import Derived.Test.YthnjnnnobipnfaaTyMark
import Derived.Test.YthnjnnnobipnfaaTyFns
set_option linter.unusedVariables false
set_option linter.unusedSimpArgs false
set_option maxRecDepth 100000
namespace Go.Proofs.Ythnjnnnobipnfaa.Abs
open Go Go.Proofs


theorem agg3_fits {a b c : CVal} : CVal.fits false 1 (.agg [a, b, c]) = false := rfl
theorem agg3_isAgg {a b c : CVal} : CVal.isAgg (.agg [a, b, c]) = true := rfl
theorem agg3_cells {a b c : CVal} : CVal.cells (.agg [a, b, c]) = [a, b, c] := rfl
theorem agg3_cell2 {a b c : CVal} : CVal.cell (.agg [a, b, c]) 2 = some c := rfl
theorem drop3_1 {a b c : CVal} : List.drop 1 [a, b, c] = [b, c] := rfl
theorem splice3_1 {a b c x : CVal} : splice [a, b, c] 1 [x] = [a, x, c] := rfl
theorem agg3_put2 {a b c x : CVal} : CVal.putCell (.agg [a, b, c]) 2 x = .agg [a, b, x] := rfl
theorem agg3_fitsT {a b c : CVal} : CVal.fits true 3 (.agg [a, b, c]) = true := rfl
theorem agg3_cell0 {a b c : CVal} : CVal.cell (.agg [a, b, c]) 0 = some a := rfl
theorem agg3_cell1 {a b c : CVal} : CVal.cell (.agg [a, b, c]) 1 = some b := rfl
def MarkTy (t : Ty) : Prop := ∀ k : Int, 0 ≤ k → k + numTL t.a ≤ 1000000000 →
    CC f_l_markTyS [.lref 0 0, .v (.int .i64 k)] [PB.arr ⟨true, true, 0⟩ false 3 (t.a.map Ty.enc)] = some (.int .i64 (k + numTL t.a), [(markTL t.a k).map Ty.enc])
theorem allFits (l : List Ty) : (l.map Ty.enc).all (CVal.fits true 3) = true := by simp
theorem markTyS_loop : ∀ (suf : List Ty) (done : List CVal) (k : Int), done.length + suf.length ≤ 1048576 → 0 ≤ k → k + numTL suf ≤ 1000000000 → (∀ t ∈ suf, MarkTy t) →
    LL f_l_markTyS 0 lc_l_markTyS_0 [PSh.arr ⟨true, true, 0⟩ false 3] k_l_markTyS_0 (((), k, (done.length : Int), ()), done ++ suf.map Ty.enc, ()) =
      some (.out 0 (((), k + numTL suf, ((done.length + suf.length : Nat) : Int), ()), done ++ (markTL suf k).map Ty.enc, ()))
  | [], done, k, hl, h0, hb, h => by
    apply gl_l_markTyS_0
    unfold nl_l_markTyS_0
    simp [numTL, markTL]
  | t :: suf, done, k, hl, h0, hb, h => by
    apply gl_l_markTyS_0
    unfold nl_l_markTyS_0
    have hn : numTL (t :: suf) = numT t + numTL suf := rfl
    have hm : numT t = 2 + numTL t.a := by cases t; rfl
    have hmk : markT t k = .mk k (k + 1) (markTL t.a (k + 2)) := by cases t; rfl
    have w1 : IntKind.i64.wrap (k + 1) = k + 1 := by rw [wrap_i64] <;> omega
    have w2 : IntKind.i64.wrap (k + 1 + 1) = k + 2 := by rw [wrap_i64] <;> omega
    have w3 : IntKind.i64.wrap ((done.length : Int) + 1) = ((done ++ [(markT t k).enc]).length : Int) := by rw [wrap_i64] <;> simp at hl ⊢ <;> omega
    have ih := markTyS_loop suf (done ++ [(markT t k).enc]) (k + 2 + numTL t.a) (by simp at hl ⊢; omega) (by omega) (by omega) (fun u hu => h u (by simp [hu]))
    have hc := h t (by simp) (k + 2) (by omega) (by omega)
    simp only [List.append_assoc, List.singleton_append] at ih
    have e0 : ((done.length : Nat) : Int).toNat = done.length := by simp
    have e1 : (done ++ List.map Ty.enc (t :: suf)) = done ++ .agg [.int .i64 t.k, .int .i64 t.n, .sl (t.a.map Ty.enc)] :: suf.map Ty.enc := by rw [← Ty.enc_def]; rfl
    rw [e1, lti_done]
    simp only [nn_mid, br_true', e0]
    rw [lt_done, get_done]
    simp only [Bool.and_true, br_true', Option.bind_some, agg3_fits, br_false', agg3_isAgg, agg3_cells, drop3_1, splice3_1, set_done, lt_done, get_done, List.length_cons, List.length_nil, Nat.reduceAdd, Nat.reduceLeDiff, decide_true, agg3_cell2, asSl_sl, allFits, w1, w2, hc, List.getElem?_cons_zero, asInt_int, agg3_put2, w3]
    rw [show CVal.agg [.int .i64 k, .int .i64 (k + 1), .sl ((markTL t.a (k + 2)).map Ty.enc)] = (markT t k).enc by rw [hmk, Ty.enc_def]; rfl, ih]
    have e4 : markTL (t :: suf) k = markT t k :: markTL suf (k + numT t) := rfl
    rw [hn, hm, e4, hm]
    simp only [List.length_append, List.length_cons, List.length_nil, List.map_cons]
    have e5 : k + 2 + (numTL t.a : Int) + (numTL suf : Int) = k + ((2 + numTL t.a + numTL suf : Nat) : Int) := by omega
    have e6 : k + 2 + (numTL t.a : Int) = k + ((2 + numTL t.a : Nat) : Int) := by omega
    have e7 : done.length + (0 + 1) + suf.length = done.length + (suf.length + 1) := by omega
    rw [e5, e6, e7]

theorem markTyS_law {l : List Ty} (hl : l.length ≤ 1048576) (h : ∀ t ∈ l, MarkTy t) (k : Int) (h0 : 0 ≤ k) (hb : k + numTL l ≤ 1000000000) :
    CC f_l_markTyS [.lref 0 0, .v (.int .i64 k)] [PB.arr ⟨true, true, 0⟩ false 3 (l.map Ty.enc)] = some (.int .i64 (k + numTL l), [(markTL l k).map Ty.enc]) := by
  have hloop := markTyS_loop l [] k (by simpa using hl) h0 hb h
  simp only [List.nil_append, List.length_nil, Int.cast_ofNat_Int] at hloop
  apply go_l_markTyS
  unfold nf_l_markTyS
  rw [hloop]
  rfl
theorem MarkTy_all : ∀ t : Ty, t.ok → MarkTy t := Ty.ind fun t ih hok k h0 hb => markTyS_law hok.len (fun u hu => ih u hu (hok.part hu)) k h0 hb
theorem markTy_law {t : Ty} (hok : t.ok) (k : Int) (h0 : 0 ≤ k) (hb : k + numTL t.a ≤ 1000000000) :
    CC f_l_markTy [.agg [.v (.int .i64 t.k), .v (.int .i64 t.n), .lref 0 0], .v (.int .i64 k)] [PB.arr ⟨true, true, 0⟩ false 3 (t.a.map Ty.enc)] = some (.int .i64 (k + numTL t.a), [(markTL t.a k).map Ty.enc]) := by
  apply go_l_markTy
  unfold nf_l_markTy
  rw [MarkTy_all t hok k h0 hb]
  rfl

/-! What is held of marks. -/
def HeldTy (t : Ty) : Prop := ∀ k : Int, 0 ≤ k → k + numTL t.a ≤ 1000000000 →
    CC f_l_heldTyS [.v (.sl ((markTL t.a k).map Ty.enc)), .v (.int .i64 k)] [] = some (.int .i64 (k + numTL t.a), [])
theorem heldTyS_loop : ∀ (suf : List Ty) (done : List CVal) (k : Int), done.length + suf.length ≤ 1048576 → 0 ≤ k → k + numTL suf ≤ 1000000000 → (∀ t ∈ suf, HeldTy t) →
    ∃ q, LL f_l_heldTyS 0 lc_l_heldTyS_0 [] k_l_heldTyS_0 ((done ++ (markTL suf k).map Ty.enc, k, (done.length : Int), ()), ()) =
      some (.out 0 ((q, k + numTL suf, ((done.length + suf.length : Nat) : Int), ()), ()))
  | [], done, k, hl, h0, hb, h => by
    refine ⟨_, gl_l_heldTyS_0 _ _ _ _ (by unfold nl_l_heldTyS_0; simp [numTL, markTL]; rfl)⟩
  | t :: suf, done, k, hl, h0, hb, h => by
    have hn : numTL (t :: suf) = numT t + numTL suf := rfl
    have hm : numT t = 2 + numTL t.a := by cases t; rfl
    have hmk : markT t k = .mk k (k + 1) (markTL t.a (k + 2)) := by cases t; rfl
    have w1 : IntKind.i64.wrap (k + 1) = k + 1 := by rw [wrap_i64] <;> omega
    have w2 : IntKind.i64.wrap (k + 1 + 1) = k + 2 := by rw [wrap_i64] <;> omega
    have w3 : IntKind.i64.wrap ((done.length : Int) + 1) = ((done ++ [(markT t k).enc]).length : Int) := by rw [wrap_i64] <;> simp at hl ⊢ <;> omega
    obtain ⟨q, ih⟩ := heldTyS_loop suf (done ++ [(markT t k).enc]) (k + numT t) (by simp at hl ⊢; omega) (by omega) (by omega) (fun u hu => h u (by simp [hu]))
    have hc := h t (by simp) (k + 2) (by omega) (by omega)
    simp only [List.append_assoc, List.singleton_append] at ih
    have e0 : ((done.length : Nat) : Int).toNat = done.length := by simp
    have e1 : done ++ (markTL (t :: suf) k).map Ty.enc = done ++ (markT t k).enc :: (markTL suf (k + numT t)).map Ty.enc := rfl
    have e2 : (markT t k).enc = .agg [.int .i64 k, .int .i64 (k + 1), .sl ((markTL t.a (k + 2)).map Ty.enc)] := by rw [hmk, Ty.enc_def]; rfl
    have e3 : ¬ k + 2 + (numTL t.a : Int) < 0 := by omega
    have e6 : k + 2 + (numTL t.a : Int) = k + (numT t : Int) := by omega
    refine ⟨q, gl_l_heldTyS_0 _ _ _ _ ?_⟩
    unfold nl_l_heldTyS_0
    rw [e1, lti_done]
    simp only [nn_mid, br_true', e0]
    rw [get_done, e2]
    simp only [br_true', Option.bind_some, agg3_fitsT, agg3_cell0, agg3_cell1, agg3_cell2, asInt_int, decide_true, Bool.not_true, br_false', w1, w2, hc, e3, decide_false, w3]
    rw [e6, ← e2, ih]
    simp only [List.length_append, List.length_cons, List.length_nil, hn]
    have e5 : k + (numT t : Int) + (numTL suf : Int) = k + ((numT t + numTL suf : Nat) : Int) := by omega
    have e7 : done.length + (0 + 1) + suf.length = done.length + (suf.length + 1) := by omega
    rw [e5, e7]
theorem heldTyS_law {l : List Ty} (hl : l.length ≤ 1048576) (h : ∀ t ∈ l, HeldTy t) (k : Int) (h0 : 0 ≤ k) (hb : k + numTL l ≤ 1000000000) :
    CC f_l_heldTyS [.v (.sl ((markTL l k).map Ty.enc)), .v (.int .i64 k)] [] = some (.int .i64 (k + numTL l), []) := by
  obtain ⟨q, hloop⟩ := heldTyS_loop l [] k (by simpa using hl) h0 hb h
  simp only [List.nil_append, List.length_nil, Int.cast_ofNat_Int] at hloop
  apply go_l_heldTyS
  unfold nf_l_heldTyS
  rw [hloop]
  rfl
theorem HeldTy_all : ∀ t : Ty, t.ok → HeldTy t := Ty.ind fun t ih hok k h0 hb => heldTyS_law hok.len (fun u hu => ih u hu (hok.part hu)) k h0 hb
theorem heldTy_law {t : Ty} (hok : t.ok) (k x y : Int) (h0 : 0 ≤ k) (hb : k + numTL t.a ≤ 1000000000) :
    CC f_l_heldTy [.v (.agg [.int .i64 x, .int .i64 y, .sl ((markTL t.a k).map Ty.enc)]), .v (.int .i64 k)] [] = some (.int .i64 (k + numTL t.a), []) := by
  have e3 : ¬ k + (numTL t.a : Int) < 0 := by omega
  apply go_l_heldTy
  unfold nf_l_heldTy
  simp only [HeldTy_all t hok k h0 hb, Option.bind_some, asInt_int, e3, decide_false, br_false']
end Go.Proofs.Ythnjnnnobipnfaa.Abs

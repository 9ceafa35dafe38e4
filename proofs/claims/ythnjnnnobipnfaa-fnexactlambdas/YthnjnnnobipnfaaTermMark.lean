/- Marks in terms. -/
import Derived.Test.YthnjnnnobipnfaaDataTerm
import Derived.Test.YthnjnnnobipnfaaTyMarks
import Derived.Test.YthnjnnnobipnfaaMText
set_option linter.unusedVariables false
set_option linter.unusedSimpArgs false
set_option maxRecDepth 100000
namespace Go.Proofs.Ythnjnnnobipnfaa.Abs
open Go Go.Proofs

mutual
def numTm : Term → Nat
  | .mk _ _ _ _ t ts a => 6 + numTL t.a + numTL ts + numTmL a
def numTmL : List Term → Nat
  | [] => 0
  | t :: r => numTm t + numTmL r
end
mutual
def markTm : Term → Int → Term
  | .mk _ _ _ _ t ts a, k => .mk k (k + 1) (mtext (k + 2)) (mtext (k + 3)) (.mk (k + 4) (k + 5) (markTL t.a (k + 6))) (markTL ts (k + 6 + numTL t.a)) (markTmL a (k + 6 + numTL t.a + numTL ts))
def markTmL : List Term → Int → List Term
  | [], _ => []
  | t :: r, k => markTm t k :: markTmL r (k + numTm t)
end
mutual
theorem numTm_sz : ∀ t : Term, numTm t ≤ 6 + 6 * t.sz
  | .mk k n s z t ts a => by
    have h := numTmL_sz a
    have h1 := numTL_sz t.a
    have h2 := numTL_sz ts
    have h3 := Ty.sz_def t
    simp only [numTm, Term.sz_def, Term.s_mk, Term.z_mk, Term.t_mk, Term.ts_mk, Term.a_mk]; omega
theorem numTmL_sz : ∀ l : List Term, numTmL l ≤ 6 * (l.length + Term.szL l)
  | [] => by simp [numTmL]
  | t :: r => by
    have h1 := numTm_sz t
    have h2 := numTmL_sz r
    simp only [numTmL, Term.szL_cons, List.length_cons]; omega
end
section
variable {a b c d e f g h i x : CVal}
theorem a9_fits : CVal.fits false 1 (.agg [a, b, c, d, e, f, g, h, i]) = false := rfl
theorem a9_isAgg : CVal.isAgg (.agg [a, b, c, d, e, f, g, h, i]) = true := rfl
theorem a9_cells : CVal.cells (.agg [a, b, c, d, e, f, g, h, i]) = [a, b, c, d, e, f, g, h, i] := rfl
theorem a9_len : [a, b, c, d, e, f, g, h, i].length = 9 := rfl
theorem a9_drop : List.drop 1 [a, b, c, d, e, f, g, h, i] = [b, c, d, e, f, g, h, i] := rfl
theorem a9_s1 : splice [a, b, c, d, e, f, g, h, i] 1 [x] = [a, x, c, d, e, f, g, h, i] := rfl
theorem a9_s2 : splice [a, b, c, d, e, f, g, h, i] 2 [x] = [a, b, x, d, e, f, g, h, i] := rfl
theorem a9_s3 : splice [a, b, c, d, e, f, g, h, i] 3 [x] = [a, b, c, x, e, f, g, h, i] := rfl
theorem a9_s4 : splice [a, b, c, d, e, f, g, h, i] 4 [x] = [a, b, c, d, x, f, g, h, i] := rfl
theorem a9_s5 : splice [a, b, c, d, e, f, g, h, i] 5 [x] = [a, b, c, d, e, x, g, h, i] := rfl
theorem a9_c6 : CVal.cell (.agg [a, b, c, d, e, f, g, h, i]) 6 = some g := rfl
theorem a9_c7 : CVal.cell (.agg [a, b, c, d, e, f, g, h, i]) 7 = some h := rfl
theorem a9_c8 : CVal.cell (.agg [a, b, c, d, e, f, g, h, i]) 8 = some i := rfl
theorem a9_p6 : CVal.putCell (.agg [a, b, c, d, e, f, g, h, i]) 6 x = .agg [a, b, c, d, e, f, x, h, i] := rfl
theorem a9_p7 : CVal.putCell (.agg [a, b, c, d, e, f, g, h, i]) 7 x = .agg [a, b, c, d, e, f, g, x, i] := rfl
theorem a9_p8 : CVal.putCell (.agg [a, b, c, d, e, f, g, h, i]) 8 x = .agg [a, b, c, d, e, f, g, h, x] := rfl
end
theorem allFits9 (l : List Term) : (l.map Term.enc).all (CVal.fits true 9) = true := by simp

def MarkTm (t : Term) : Prop := ∀ k : Int, 0 ≤ k → k + numTmL t.a ≤ 1000000000 →
    CC f_l_markTermS [.lref 0 0, .v (.int .i64 k)] [PB.arr ⟨true, true, 0⟩ false 9 (t.a.map Term.enc)] = some (.int .i64 (k + numTmL t.a), [(markTmL t.a k).map Term.enc])
theorem markTermS_loop : ∀ (suf : List Term) (done : List CVal) (k : Int), done.length + suf.length ≤ 1048576 → 0 ≤ k → k + numTmL suf ≤ 1000000000 → (∀ t ∈ suf, t.ok ∧ MarkTm t) →
    LL f_l_markTermS 0 lc_l_markTermS_0 [PSh.arr ⟨true, true, 0⟩ false 9] k_l_markTermS_0 (((), k, (done.length : Int), ()), done ++ suf.map Term.enc, ()) =
      some (.out 0 (((), k + numTmL suf, ((done.length + suf.length : Nat) : Int), ()), done ++ (markTmL suf k).map Term.enc, ()))
  | [], done, k, hl, h0, hb, h => by
    apply gl_l_markTermS_0
    unfold nl_l_markTermS_0
    simp [numTmL, markTmL]
  | t :: suf, done, k, hl, h0, hb, h => by
    apply gl_l_markTermS_0
    unfold nl_l_markTermS_0
    obtain ⟨hok, hcA⟩ := h t (by simp)
    have hn : numTmL (t :: suf) = numTm t + numTmL suf := rfl
    have hm : numTm t = 6 + numTL t.t.a + numTL t.ts + numTmL t.a := by cases t; rfl
    have hmk : markTm t k = .mk k (k + 1) (mtext (k + 2)) (mtext (k + 3)) (.mk (k + 4) (k + 5) (markTL t.t.a (k + 6))) (markTL t.ts (k + 6 + numTL t.t.a)) (markTmL t.a (k + 6 + numTL t.t.a + numTL t.ts)) := by cases t; rfl
    have w1 : IntKind.i64.wrap (k + 1) = k + 1 := by rw [wrap_i64] <;> omega
    have w2 : IntKind.i64.wrap (k + 1 + 1) = k + 2 := by rw [wrap_i64] <;> omega
    have w3 : IntKind.i64.wrap (k + 2 + 1) = k + 3 := by rw [wrap_i64] <;> omega
    have w4 : IntKind.i64.wrap (k + 3 + 1) = k + 4 := by rw [wrap_i64] <;> omega
    have w5 : IntKind.i64.wrap (k + 4 + 1) = k + 5 := by rw [wrap_i64] <;> omega
    have w6 : IntKind.i64.wrap (k + 5 + 1) = k + 6 := by rw [wrap_i64] <;> omega
    have wi : IntKind.i64.wrap ((done.length : Int) + 1) = ((done ++ [(markTm t k).enc]).length : Int) := by rw [wrap_i64] <;> simp at hl ⊢ <;> omega
    have ih := markTermS_loop suf (done ++ [(markTm t k).enc]) (k + numTm t) (by simp at hl ⊢; omega) (by omega) (by omega) (fun u hu => h u (by simp [hu]))
    have c1 := MarkTy_all t.t hok.t (k + 6) (by omega) (by omega)
    have c2 := markTyS_law hok.ts_len (fun u hu => MarkTy_all u (hok.ts hu)) (k + 6 + numTL t.t.a) (by omega) (by omega)
    have c3 := hcA (k + 6 + numTL t.t.a + numTL t.ts) (by omega) (by omega)
    have x2 := markText_law (k + 2) (by omega)
    have x3 := markText_law (k + 3) (by omega)
    simp only [List.append_assoc, List.singleton_append] at ih
    have e0 : ((done.length : Nat) : Int).toNat = done.length := by simp
    have e1 : (done ++ List.map Term.enc (t :: suf)) = done ++ .agg [.int .i64 t.k, .int .i64 t.n, .str t.s, .str t.z, .int .i64 t.t.k, .int .i64 t.t.n, .sl (t.t.a.map Ty.enc), .sl (t.ts.map Ty.enc), .sl (t.a.map Term.enc)] :: suf.map Term.enc := by rw [← Term.enc_def]; rfl
    rw [e1, lti_done]
    simp only [nn_mid, br_true', e0]
    rw [lt_done, get_done]
    simp only [Bool.and_true, br_true', Option.bind_some, a9_fits, br_false', a9_isAgg, a9_cells, a9_len, a9_drop, a9_s1, a9_s2, a9_s3, a9_s4, a9_s5, a9_c6, a9_c7, a9_c8, a9_p6, a9_p7, a9_p8, set_done, lt_done, get_done, Nat.reduceLeDiff, decide_true, asSl_sl, allFits, allFits9, w1, w2, w3, w4, w5, w6, x2, x3, c1, c2, c3, List.getElem?_cons_zero, asInt_int, isFlat_str, asStr_str, wi]
    have e2 : (markTm t k).enc = .agg [.int .i64 k, .int .i64 (k + 1), .str (mtext (k + 2)), .str (mtext (k + 3)), .int .i64 (k + 4), .int .i64 (k + 5), .sl ((markTL t.t.a (k + 6)).map Ty.enc), .sl ((markTL t.ts (k + 6 + numTL t.t.a)).map Ty.enc), .sl ((markTmL t.a (k + 6 + numTL t.t.a + numTL t.ts)).map Term.enc)] := by rw [hmk, Term.enc_def]; rfl
    have e6 : k + 6 + (numTL t.t.a : Int) + (numTL t.ts : Int) + (numTmL t.a : Int) = k + (numTm t : Int) := by omega
    rw [← e2, e6, ih]
    have e4 : markTmL (t :: suf) k = markTm t k :: markTmL suf (k + numTm t) := rfl
    rw [hn, e4]
    simp only [List.length_append, List.length_cons, List.length_nil, List.map_cons]
    have e5 : k + (numTm t : Int) + (numTmL suf : Int) = k + ((numTm t + numTmL suf : Nat) : Int) := by omega
    have e7 : done.length + (0 + 1) + suf.length = done.length + (suf.length + 1) := by omega
    rw [e5, e7]
theorem markTermS_law {l : List Term} (hl : l.length ≤ 1048576) (h : ∀ t ∈ l, t.ok ∧ MarkTm t) (k : Int) (h0 : 0 ≤ k) (hb : k + numTmL l ≤ 1000000000) :
    CC f_l_markTermS [.lref 0 0, .v (.int .i64 k)] [PB.arr ⟨true, true, 0⟩ false 9 (l.map Term.enc)] = some (.int .i64 (k + numTmL l), [(markTmL l k).map Term.enc]) := by
  have hloop := markTermS_loop l [] k (by simpa using hl) h0 hb h
  simp only [List.nil_append, List.length_nil, Int.cast_ofNat_Int] at hloop
  apply go_l_markTermS
  unfold nf_l_markTermS
  rw [hloop]
  rfl
theorem MarkTm_all : ∀ t : Term, t.ok → MarkTm t := Term.ind fun t ih hok k h0 hb => markTermS_law hok.a_len (fun u hu => ⟨hok.a hu, ih u hu (hok.a hu)⟩) k h0 hb
theorem markTerm_law {t : Term} (hok : t.ok) (k : Int) (h0 : 0 ≤ k) (hb : k + numTm t ≤ 1000000000) :
    CC f_l_markTerm [.agg [.v (.int .i64 t.k), .v (.int .i64 t.n), .v (.str t.s), .v (.str t.z), .v (.int .i64 t.t.k), .v (.int .i64 t.t.n), .lref 0 0, .lref 1 0, .lref 2 0], .v (.int .i64 k)]
      [PB.arr ⟨true, true, 0⟩ false 3 (t.t.a.map Ty.enc), PB.arr ⟨true, true, 0⟩ false 3 (t.ts.map Ty.enc), PB.arr ⟨true, true, 0⟩ false 9 (t.a.map Term.enc)] =
      some (.int .i64 (k + numTL t.t.a + numTL t.ts + numTmL t.a), [(markTL t.t.a k).map Ty.enc, (markTL t.ts (k + numTL t.t.a)).map Ty.enc, (markTmL t.a (k + numTL t.t.a + numTL t.ts)).map Term.enc]) := by
  have hm : numTm t = 6 + numTL t.t.a + numTL t.ts + numTmL t.a := by cases t; rfl
  apply go_l_markTerm
  unfold nf_l_markTerm
  rw [markTy_law hok.t k h0 (by omega)]
  simp only [Option.bind_some, List.getElem?_cons_zero]
  rw [markTyS_law hok.ts_len (fun u hu => MarkTy_all u (hok.ts hu)) (k + numTL t.t.a) (by omega) (by omega)]
  simp only [Option.bind_some, List.getElem?_cons_zero]
  rw [MarkTm_all t hok (k + numTL t.t.a + numTL t.ts) (by omega) (by omega)]
  simp only [Option.bind_some, List.getElem?_cons_zero]
def HeldTm (t : Term) : Prop := ∀ k : Int, 0 ≤ k → k + numTmL t.a ≤ 1000000000 →
    CC f_l_heldTermS [.v (.sl ((markTmL t.a k).map Term.enc)), .v (.int .i64 k)] [] = some (.int .i64 (k + numTmL t.a), [])
theorem heldTermS_loop : ∀ (suf : List Term) (done : List CVal) (k : Int), done.length + suf.length ≤ 1048576 → 0 ≤ k → k + numTmL suf ≤ 1000000000 → (∀ t ∈ suf, t.ok ∧ HeldTm t) →
    ∃ q, LL f_l_heldTermS 0 lc_l_heldTermS_0 [] k_l_heldTermS_0 ((done ++ (markTmL suf k).map Term.enc, k, (done.length : Int), ()), ()) =
      some (.out 0 ((q, k + numTmL suf, ((done.length + suf.length : Nat) : Int), ()), ()))
  | [], done, k, hl, h0, hb, h => by
    refine ⟨_, gl_l_heldTermS_0 _ _ _ _ (by unfold nl_l_heldTermS_0; simp [numTmL, markTmL]; rfl)⟩
  | t :: suf, done, k, hl, h0, hb, h => by
    obtain ⟨hok, hcA⟩ := h t (by simp)
    have hn : numTmL (t :: suf) = numTm t + numTmL suf := rfl
    have hm : numTm t = 6 + numTL t.t.a + numTL t.ts + numTmL t.a := by cases t; rfl
    have hmk : markTm t k = .mk k (k + 1) (mtext (k + 2)) (mtext (k + 3)) (.mk (k + 4) (k + 5) (markTL t.t.a (k + 6))) (markTL t.ts (k + 6 + numTL t.t.a)) (markTmL t.a (k + 6 + numTL t.t.a + numTL t.ts)) := by cases t; rfl
    have w1 : IntKind.i64.wrap (k + 1) = k + 1 := by rw [wrap_i64] <;> omega
    have w2 : IntKind.i64.wrap (k + 1 + 1) = k + 2 := by rw [wrap_i64] <;> omega
    have w3 : IntKind.i64.wrap (k + 2 + 1) = k + 3 := by rw [wrap_i64] <;> omega
    have w4 : IntKind.i64.wrap (k + 3 + 1) = k + 4 := by rw [wrap_i64] <;> omega
    have w5 : IntKind.i64.wrap (k + 4 + 1) = k + 5 := by rw [wrap_i64] <;> omega
    have w6 : IntKind.i64.wrap (k + 5 + 1) = k + 6 := by rw [wrap_i64] <;> omega
    have wi : IntKind.i64.wrap ((done.length : Int) + 1) = ((done ++ [(markTm t k).enc]).length : Int) := by rw [wrap_i64] <;> simp at hl ⊢ <;> omega
    obtain ⟨q, ih⟩ := heldTermS_loop suf (done ++ [(markTm t k).enc]) (k + numTm t) (by simp at hl ⊢; omega) (by omega) (by omega) (fun u hu => h u (by simp [hu]))
    have c1 := HeldTy_all t.t hok.t (k + 6) (by omega) (by omega)
    have c2 := heldTyS_law hok.ts_len (fun u hu => HeldTy_all u (hok.ts hu)) (k + 6 + numTL t.t.a) (by omega) (by omega)
    have c3 := hcA (k + 6 + numTL t.t.a + numTL t.ts) (by omega) (by omega)
    have x2 := markText_law (k + 2) (by omega)
    have x3 := markText_law (k + 3) (by omega)
    simp only [List.append_assoc, List.singleton_append] at ih
    have e0 : ((done.length : Nat) : Int).toNat = done.length := by simp
    have e1 : done ++ (markTmL (t :: suf) k).map Term.enc = done ++ (markTm t k).enc :: (markTmL suf (k + numTm t)).map Term.enc := rfl
    have m0 : (markTm t k).k = k := by rw [hmk]; rfl
    have m1 : (markTm t k).n = k + 1 := by rw [hmk]; rfl
    have m2 : (markTm t k).s = mtext (k + 2) := by rw [hmk]; rfl
    have m3 : (markTm t k).z = mtext (k + 3) := by rw [hmk]; rfl
    have m4 : (markTm t k).t.k = k + 4 := by rw [hmk]; rfl
    have m5 : (markTm t k).t.n = k + 5 := by rw [hmk]; rfl
    have m6 : (markTm t k).t.a = markTL t.t.a (k + 6) := by rw [hmk]; rfl
    have m7 : (markTm t k).ts = markTL t.ts (k + 6 + numTL t.t.a) := by rw [hmk]; rfl
    have m8 : (markTm t k).a = markTmL t.a (k + 6 + numTL t.t.a + numTL t.ts) := by rw [hmk]; rfl
    have n1 : ¬ k + 6 + (numTL t.t.a : Int) < 0 := by omega
    have n2 : ¬ k + 6 + (numTL t.t.a : Int) + (numTL t.ts : Int) < 0 := by omega
    have n3 : ¬ k + 6 + (numTL t.t.a : Int) + (numTL t.ts : Int) + (numTmL t.a : Int) < 0 := by omega
    have e6 : k + 6 + (numTL t.t.a : Int) + (numTL t.ts : Int) + (numTmL t.a : Int) = k + (numTm t : Int) := by omega
    refine ⟨q, gl_l_heldTermS_0 _ _ _ _ ?_⟩
    unfold nl_l_heldTermS_0
    rw [e1, lti_done]
    simp only [nn_mid, br_true', e0]
    rw [get_done]
    simp only [br_true', Option.bind_some, Term.enc_fits, Term.enc_cell0, Term.enc_cell1, Term.enc_cell2, Term.enc_cell3, Term.enc_cell4, Term.enc_cell5, Term.enc_cell6, Term.enc_cell7, Term.enc_cell8, m0, m1, m2, m3, m4, m5, m6, m7, m8, asInt_int, asStr_str, decide_true, Bool.not_true, br_false', w1, w2, w3, w4, w5, w6, x2, x3, c1, c2, c3, n1, n2, n3, decide_false, wi]
    rw [e6, ih]
    simp only [List.length_append, List.length_cons, List.length_nil, hn]
    have e5 : k + (numTm t : Int) + (numTmL suf : Int) = k + ((numTm t + numTmL suf : Nat) : Int) := by omega
    have e7 : done.length + (0 + 1) + suf.length = done.length + (suf.length + 1) := by omega
    rw [e5, e7]
theorem heldTermS_law {l : List Term} (hl : l.length ≤ 1048576) (h : ∀ t ∈ l, t.ok ∧ HeldTm t) (k : Int) (h0 : 0 ≤ k) (hb : k + numTmL l ≤ 1000000000) :
    CC f_l_heldTermS [.v (.sl ((markTmL l k).map Term.enc)), .v (.int .i64 k)] [] = some (.int .i64 (k + numTmL l), []) := by
  obtain ⟨q, hloop⟩ := heldTermS_loop l [] k (by simpa using hl) h0 hb h
  simp only [List.nil_append, List.length_nil, Int.cast_ofNat_Int] at hloop
  apply go_l_heldTermS
  unfold nf_l_heldTermS
  rw [hloop]
  rfl
theorem HeldTm_all : ∀ t : Term, t.ok → HeldTm t := Term.ind fun t ih hok k h0 hb => heldTermS_law hok.a_len (fun u hu => ⟨hok.a hu, ih u hu (hok.a hu)⟩) k h0 hb
theorem heldTerm_law {t : Term} (hok : t.ok) (k : Int) (h0 : 0 ≤ k) (hb : k + numTm t ≤ 1000000000) :
    CC f_l_heldTerm [.v (.agg [.int .i64 t.k, .int .i64 t.n, .str t.s, .str t.z, .int .i64 t.t.k, .int .i64 t.t.n, .sl ((markTL t.t.a k).map Ty.enc), .sl ((markTL t.ts (k + numTL t.t.a)).map Ty.enc), .sl ((markTmL t.a (k + numTL t.t.a + numTL t.ts)).map Term.enc)]), .v (.int .i64 k)] [] =
      some (.int .i64 (k + numTL t.t.a + numTL t.ts + numTmL t.a), []) := by
  have hm : numTm t = 6 + numTL t.t.a + numTL t.ts + numTmL t.a := by cases t; rfl
  have n1 : ¬ k + (numTL t.t.a : Int) < 0 := by omega
  have n2 : ¬ k + (numTL t.t.a : Int) + (numTL t.ts : Int) < 0 := by omega
  have n3 : ¬ k + (numTL t.t.a : Int) + (numTL t.ts : Int) + (numTmL t.a : Int) < 0 := by omega
  apply go_l_heldTerm
  unfold nf_l_heldTerm
  rw [heldTy_law hok.t k _ _ h0 (by omega)]
  simp only [Option.bind_some, asInt_int, n1, decide_false, br_false']
  rw [heldTyS_law hok.ts_len (fun u hu => HeldTy_all u (hok.ts hu)) (k + numTL t.t.a) (by omega) (by omega)]
  simp only [Option.bind_some, asInt_int, n2, decide_false, br_false']
  rw [HeldTm_all t hok (k + numTL t.t.a + numTL t.ts) (by omega) (by omega)]
  simp only [Option.bind_some, asInt_int, n3, decide_false, br_false']
end Go.Proofs.Ythnjnnnobipnfaa.Abs

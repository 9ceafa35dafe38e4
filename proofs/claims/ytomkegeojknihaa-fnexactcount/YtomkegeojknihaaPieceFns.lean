/- Piece: what is made of it, and its size. -/
import Derived.Test.YtomkegeojknihaaDataPiece
import Derived.Test.YtomkegeojknihaaU1Eqs
import Derived.Test.YtomkegeojknihaaInsFns
set_option linter.unusedVariables false
set_option linter.unusedSectionVars false
set_option linter.unusedSimpArgs false
namespace Go.Proofs.Ytomkegeojknihaa.Abs
open Go Go.Proofs

def SzPiece (t : Piece) : Prop := ∀ l : Int, 0 ≤ l → l ≤ 1048576 → CC f_l_szPiece [.v t.enc, .v (.int .i64 l)] [] = some (.int .i64 (left l t.sz), [])
theorem szPieceS_loop : ∀ (suf pre : List Piece) (l : Int), (pre ++ suf).length ≤ 1048576 → (∀ t ∈ suf, SzPiece t) → 0 ≤ l → l ≤ 1048576 →
    LL f_l_szPieceS 0 lc_l_szPieceS_0 [] k_l_szPieceS_0 (((pre ++ suf).map Piece.enc, l, (pre.length : Int), ()), ()) =
      some (if l < (Piece.szL suf : Int) then .ret (.int .i64 (-1), []) else .out 0 (((pre ++ suf).map Piece.enc, l - Piece.szL suf, ((pre ++ suf).length : Int), ()), ()))
  | [], pre, l, hl, h, h0, h1 => by
    apply gl_l_szPieceS_0
    unfold nl_l_szPieceS_0
    rw [lt_end]
    have : ¬ l < 0 := by omega
    simp [this]
  | t :: suf, pre, l, hl, h, h0, h1 => by
    apply gl_l_szPieceS_0
    unfold nl_l_szPieceS_0
    rw [lt_mid, nn_mid, get_mid, wrap_mid pre suf t hl]
    have ht := h t (by simp) l h0 h1
    simp only [br_true', Option.bind_some, Piece.enc_fits, Piece.enc_sub, ht, asInt_int]
    by_cases hn : l < (t.sz : Int)
    · have h2 : l < (Piece.szL (t :: suf) : Int) := by simp; omega
      rw [if_pos h2, show decide (left l t.sz < 0) = true from decide_eq_true ((left_neg h0).2 hn)]
      rfl
    · have h3 : ¬ left l t.sz < 0 := fun hc => hn ((left_neg h0).1 hc)
      have ih := szPieceS_loop suf (pre ++ [t]) (l - t.sz) (by simpa using hl) (fun u hu => h u (by simp [hu])) (by omega) (by omega)
      simp only [List.append_assoc, List.singleton_append] at ih
      rw [left_ok hn] at h3 ⊢
      simp only [h3, decide_false, br_false']
      rw [ih]
      have e : (l - (t.sz : Int) < (Piece.szL suf : Int)) ↔ (l < (Piece.szL (t :: suf) : Int)) := by simp; omega
      have e2 : l - (t.sz : Int) - (Piece.szL suf : Int) = l - (Piece.szL (t :: suf) : Int) := by simp; omega
      simp only [e, e2]
theorem szPieceS_law {ts : List Piece} (hl : ts.length ≤ maxLen) (h : ∀ t ∈ ts, SzPiece t) (l : Int) (h0 : 0 ≤ l) (h1 : l ≤ 1048576) :
    CC f_l_szPieceS [.v (.sl (ts.map Piece.enc)), .v (.int .i64 l)] [] = some (.int .i64 (left l (ts.length + Piece.szL ts)), []) := by
  apply go_l_szPieceS
  unfold nf_l_szPieceS
  have hw : IntKind.i64.wrap (l - ((ts.map Piece.enc).length : Int)) = l - (ts.length : Int) := by
    unfold maxLen at hl
    rw [List.length_map, wrap_i64] <;> omega
  rw [hw]
  by_cases hs : l < (ts.length : Int)
  · have : l - (ts.length : Int) < 0 := by omega
    have h2 : left l (ts.length + Piece.szL ts) = -1 := by unfold left; rw [if_pos (by omega)]
    simp [this, h2]
  · have h3 : ¬ l - (ts.length : Int) < 0 := by omega
    have hloop := szPieceS_loop ts [] (l - ts.length) (by simp; omega) h (by omega) (by omega)
    simp only [List.nil_append, List.length_nil] at hloop
    simp only [h3, decide_false, br_false']
    rw [show ((0 : Int)) = ((0 : Nat) : Int) from rfl, hloop]
    by_cases h4 : l - (ts.length : Int) < (Piece.szL ts : Int)
    · have h2 : left l (ts.length + Piece.szL ts) = -1 := by unfold left; rw [if_pos (by omega)]
      simp [h4, h2]
    · have h2 : left l (ts.length + Piece.szL ts) = l - (ts.length : Int) - (Piece.szL ts : Int) := by unfold left; rw [if_neg (by omega)]; omega
      simp [h4, h2]
theorem szPiece_law : ∀ t : Piece, t.wt → SzPiece t := fun t hw l h0 h1 => by
  have hw := (Piece.wt_def t).1 hw
  have hsz := Piece.sz_def t
  rw [Piece.enc_def]
  apply go_l_szPiece
  unfold nf_l_szPiece
  have c0 := szInsS_law (hw.2.2.2).1 (fun u hu => szIns_law u ((hw.2.2.2).2 u hu)) (l) (by omega) (by omega)
  simp only [c0, Option.bind_some, asInt_int]
  by_cases g0 : l < (((t.ins.length + Ins.szL t.ins) : Nat) : Int)
  · rw [show decide (left (l) (t.ins.length + Ins.szL t.ins) < 0) = true from decide_eq_true ((left_neg (by omega)).2 g0), br_true']
    have : left l t.sz = -1 := by unfold left; rw [if_pos (by omega)]
    rw [this]
  rw [show decide (left (l) (t.ins.length + Ins.szL t.ins) < 0) = false from decide_eq_false (fun hc => g0 ((left_neg (by omega)).1 hc)), br_false', left_ok g0]
  have : left l t.sz = (l - (((t.ins.length + Ins.szL t.ins) : Nat) : Int)) := by unfold left; rw [if_neg (by omega)]; omega
  rw [this]
theorem toPieceS_loop : ∀ (suf pre : List Piece) (zs : List CVal), (pre ++ suf).length ≤ 1048576 → (∀ t ∈ suf, CC f_l_toPiece [.v t.enc] [] = some (t.enc, [])) → zs.length = suf.length → (∀ z ∈ zs, ∃ cs, z = .agg cs ∧ cs.length = 4) →
    LL f_l_toPieceS 0 lc_l_toPieceS_0 [] k_l_toPieceS_0 (((pre ++ suf).map Piece.enc, (), (pre.length : Int), ()), pre.map Piece.enc ++ zs, ()) =
      some (.out 0 (((pre ++ suf).map Piece.enc, (), ((pre ++ suf).length : Int), ()), (pre ++ suf).map Piece.enc, ()))
  | [], pre, zs, hl, h, hz, hs => by
    apply gl_l_toPieceS_0
    unfold nl_l_toPieceS_0
    rw [lt_end]
    have : zs = [] := List.eq_nil_of_length_eq_zero (by simpa using hz)
    subst this
    simp
  | t :: suf, pre, [], hl, h, hz, hs => by simp at hz
  | t :: suf, pre, z :: zs, hl, h, hz, hs => by
    apply gl_l_toPieceS_0
    unfold nl_l_toPieceS_0
    obtain ⟨cs, rfl, hcs⟩ := hs z (by simp)
    have e1 : (pre.map Piece.enc ++ CVal.agg cs :: zs)[((pre.length : Nat) : Int).toNat]? = some (.agg cs) := by simp
    have e2 : (pre.map Piece.enc ++ CVal.agg cs :: zs).set ((pre.length : Nat) : Int).toNat t.enc = (pre ++ [t]).map Piece.enc ++ zs := by
      simp [List.set_append]
    have e3 : decide (((pre.length : Nat) : Int).toNat < (pre.map Piece.enc ++ CVal.agg cs :: zs).length) = true := by simp
    have ih := toPieceS_loop suf (pre ++ [t]) zs (by simpa using hl) (fun u hu => h u (by simp [hu])) (by simpa using hz) (fun z hz => hs z (by simp [hz]))
    simp only [List.append_assoc, List.singleton_append] at ih
    rw [lt_mid, nn_mid, get_mid, wrap_mid pre suf t hl, e1, e3]
    simp only [br_true', Option.bind_some, Piece.enc_fits, Piece.enc_sub, h t (by simp), e2, Bool.and_true, fits_agg, hcs, beq_self_eq_true]
    exact ih
theorem toPieceS_law {ts : List Piece} (hl : ts.length ≤ 1048576) (h : ∀ t ∈ ts, CC f_l_toPiece [.v t.enc] [] = some (t.enc, [])) : CC f_l_toPieceS [.v (.sl (ts.map Piece.enc))] [] = some (.sl (ts.map Piece.enc), []) := by
  apply go_l_toPieceS
  unfold nf_l_toPieceS
  have hloop := toPieceS_loop ts [] (List.replicate ts.length (.agg [.int .i64 0, .int .i64 0, .int .i64 0, .sl []])) (by simpa using hl) h (by simp) (fun z hz => ⟨_, (List.eq_of_mem_replicate hz), rfl⟩)
  simp only [List.nil_append, List.length_nil, List.map_nil, Int.cast_ofNat_Int] at hloop
  simp only [List.length_map, Int.toNat_natCast, hloop, decide_true, Bool.true_and, show decide ((ts.length : Int) ≤ 1048576) = true by simpa using (by omega), br_true', Option.bind_some, loK_out]
  rfl
theorem eqPieceS_loop : ∀ (suf pre : List Piece), (pre ++ suf).length ≤ 1048576 → (∀ t ∈ suf, CC f_l_eqPiece [.v t.enc, .v t.enc] [] = some (.bool true, [])) →
    LL f_l_eqPieceS 0 lc_l_eqPieceS_0 [] k_l_eqPieceS_0 (((pre ++ suf).map Piece.enc, (pre ++ suf).map Piece.enc, (pre.length : Int), ()), ()) =
      some (.out 0 (((pre ++ suf).map Piece.enc, (pre ++ suf).map Piece.enc, ((pre ++ suf).length : Int), ()), ()))
  | [], pre, hl, h => by
    apply gl_l_eqPieceS_0
    unfold nl_l_eqPieceS_0
    rw [lt_end]
    simp
  | t :: suf, pre, hl, h => by
    apply gl_l_eqPieceS_0
    unfold nl_l_eqPieceS_0
    have ih := eqPieceS_loop suf (pre ++ [t]) (by simpa using hl) (fun u hu => h u (by simp [hu]))
    simp only [List.append_assoc, List.singleton_append] at ih
    rw [lt_mid, nn_mid, get_mid, wrap_mid pre suf t hl]
    simp only [br_true', Option.bind_some, Piece.enc_fits, Piece.enc_sub, h t (by simp), asBool_bool, Bool.not_true, br_false', Piece.enc_isAggN, Piece.enc_cell0, Piece.enc_cell1, Piece.enc_cell2, Piece.enc_cell3, Piece.enc_eta]
    exact ih
theorem eqPieceS_law {ts : List Piece} (hl : ts.length ≤ 1048576) (h : ∀ t ∈ ts, CC f_l_eqPiece [.v t.enc, .v t.enc] [] = some (.bool true, [])) : CC f_l_eqPieceS [.v (.sl (ts.map Piece.enc)), .v (.sl (ts.map Piece.enc))] [] = some (.bool true, []) := by
  apply go_l_eqPieceS
  unfold nf_l_eqPieceS
  have hloop := eqPieceS_loop ts [] (by simpa using hl) h
  simp only [List.nil_append, List.length_nil, Int.cast_ofNat_Int] at hloop
  simp only [hloop, decide_true, Bool.not_true, br_false', Option.bind_some, loK_out]
  rfl
theorem toPiece_law : ∀ t : Piece, t.ok → CC f_l_toPiece [.v t.enc] [] = some (t.enc, []) := fun t hok => by
  have h0 := toInsS_law hok.ins_len (fun u hu => toIns_law u (hok.ins hu))
  rw [Piece.enc_def]
  apply go_l_toPiece
  unfold nf_l_toPiece
  simp only [h0, Option.bind_some, isFlat_sl, Bool.and_true, br_true']
theorem eqPiece_law : ∀ t : Piece, t.ok → CC f_l_eqPiece [.v t.enc, .v t.enc] [] = some (.bool true, []) := fun t hok => by
  have h0 := eqInsS_law hok.ins_len (fun u hu => eqIns_law u (hok.ins hu))
  rw [Piece.enc_def]
  apply go_l_eqPiece
  unfold nf_l_eqPiece
  simp only [h0, Option.bind_some, decide_true, Bool.not_true, br_false', br_true', asBool_bool]
end Go.Proofs.Ytomkegeojknihaa.Abs

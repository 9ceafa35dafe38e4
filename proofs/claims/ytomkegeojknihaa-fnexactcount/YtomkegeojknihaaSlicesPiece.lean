/- Searching a slice of Piece with a function, and comparing two. -/
import Derived.Test.YtomkegeojknihaaDataPiece
import Derived.Test.YtomkegeojknihaaU1Eqs
set_option linter.unusedVariables false
set_option linter.unusedSectionVars false
set_option linter.unusedSimpArgs false
namespace Go.Proofs.Ytomkegeojknihaa.Abs
open Go Go.Proofs

theorem indexPiece_loop {c : CVal} {p : Piece → Bool} : ∀ (suf pre : List Piece), (pre ++ suf).length ≤ 1048576 → (∀ t ∈ suf, CC apId [.v c, .v t.enc] [] = some (.bool (p t), [])) →
    LL f_slices_IndexFunc_Piece 0 lc_slices_IndexFunc_Piece_0 [] k_slices_IndexFunc_Piece_0 (((pre ++ suf).map Piece.enc, c, ((pre ++ suf).length : Int), (pre.length : Int), ()), ()) =
      some (if suf.any p then .ret (.int .i64 ((pre.length + suf.findIdx p : Nat) : Int), []) else .out 0 (((pre ++ suf).map Piece.enc, c, ((pre ++ suf).length : Int), ((pre ++ suf).length : Int), ()), ()))
  | [], pre, hl, h => by
    apply gl_slices_IndexFunc_Piece_0
    unfold nl_slices_IndexFunc_Piece_0
    rw [lt_end']
    simp
  | t :: suf, pre, hl, h => by
    apply gl_slices_IndexFunc_Piece_0
    unfold nl_slices_IndexFunc_Piece_0
    have ih := indexPiece_loop suf (pre ++ [t]) (by simpa using hl) (fun u hu => h u (by simp [hu]))
    simp only [List.append_assoc, List.singleton_append] at ih
    rw [lt_mid', nn_mid, get_mid, wrap_mid pre suf t hl]
    simp only [br_true', Option.bind_some, Piece.enc_fits, Piece.enc_sub, h t (by simp), asBool_bool, List.any_cons, List.findIdx_cons]
    cases hp : p t with
    | true => simp
    | false =>
      simp only [br_false', Bool.false_or, cond_false]
      rw [ih]
      simp only [List.length_append, List.length_cons, List.length_nil]
      rw [show pre.length + (0 + 1) + suf.findIdx p = pre.length + (suf.findIdx p + 1) by omega]
theorem indexPiece_law {c : CVal} {p : Piece → Bool} {ts : List Piece} (hl : ts.length ≤ 1048576) (h : ∀ t ∈ ts, CC apId [.v c, .v t.enc] [] = some (.bool (p t), [])) :
    CC f_slices_IndexFunc_Piece [.v (.sl (ts.map Piece.enc)), .v c] [] = some (.int .i64 (if ts.any p then (ts.findIdx p : Int) else -1), []) := by
  have hloop := indexPiece_loop ts [] (by simpa using hl) h
  simp only [List.nil_append, List.length_nil, Int.cast_ofNat_Int, Nat.zero_add] at hloop
  apply go_slices_IndexFunc_Piece
  unfold nf_slices_IndexFunc_Piece
  simp only [List.length_map, hloop]
  split <;> rfl
end Go.Proofs.Ytomkegeojknihaa.Abs

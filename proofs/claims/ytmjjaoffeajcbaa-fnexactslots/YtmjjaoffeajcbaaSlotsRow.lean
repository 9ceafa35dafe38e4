/- The law FnExactSlots on data. -/
import Derived.Test.YtmjjaoffeajcbaaSlotsLaw
set_option linter.unusedVariables false
set_option linter.unusedSimpArgs false
set_option linter.unusedSectionVars false
set_option maxRecDepth 100000
namespace Go.Proofs.Ytmjjaoffeajcbaa.Abs
open Go Go.Proofs

/-- Marks in a piece. -/
theorem markPiece_some {t : Piece} (hok : t.ok) : ∃ xs' : List CVal, CC f_l_markPiece [.agg [.v (.int .i64 t.lam), .v (.int .i64 t.inn), .v (.int .i64 t.regs), .lref 0 0], .v (.int .i64 1)] [PB.arr ⟨true, true, 0⟩ false 7 (t.ins.map Ins.enc)] = some (.int .i64 (1 + insMarks t.ins), [xs']) := by
  have hz : t.ins.length + Ins.szL t.ins ≤ 1048576 := by have := hok.2; rw [Piece.sz_def] at this; exact this
  have hmi := insMarks_le t.ins
  obtain ⟨xs', hmp⟩ := markInsS_loop t.ins [] 1 (by simp; omega) (fun x hx => by have := Ins.sz_mem hx; rw [Ins.sz_def] at this; omega) (by omega) (by omega)
  simp only [List.nil_append, List.length_nil, Int.cast_ofNat_Int] at hmp
  have m0 : CC f_l_markInsS [.lref 0 0, .v (.int .i64 1)] [PB.arr ⟨true, true, 0⟩ false 7 (t.ins.map Ins.enc)] = some (.int .i64 (1 + insMarks t.ins), [xs']) := by
    apply go_l_markInsS
    unfold nf_l_markInsS
    rw [hmp]
    rfl
  refine ⟨xs', ?_⟩
  apply go_l_markPiece
  unfold nf_l_markPiece
  rw [m0]
  rfl
theorem law_Slots {t : Piece} (hw : t.wt) : CC f_l_FnExactSlots [.v t.enc] [] = some (.bool true, []) := by
  have hs := szPiece_law t hw 1048576 (by omega) (by omega)
  have e := Piece.enc_def t
  by_cases hn : (1048576 : Int) < (t.sz : Int)
  · have h1 : left 1048576 t.sz < 0 := (left_neg (by omega)).2 hn
    rw [e]
    apply go_l_FnExactSlots
    unfold nf_l_FnExactSlots
    simp only [← e, hs, Option.bind_some, asInt_int, h1, decide_true, br_true']
  · have hok : t.ok := ⟨hw, by omega⟩
    have h1 : ¬ left 1048576 t.sz < 0 := fun h => hn ((left_neg (by omega)).1 h)
    obtain ⟨O, o1, o2, hI, hS⟩ := Slots_both hok
    have hon : O.map nt = (O.map Int.ofNat).map (CVal.int .i64) := by rw [List.map_map]; rfl
    rw [hon] at hI hS
    have o3 : (O.map Int.ofNat).length ≤ 400 := by rw [List.length_map]; exact o1
    generalize (O.map Int.ofNat) = o at hI hS o3
    have hT := toPiece_law t hok
    have hE1 := eqPiece_law t hok
    have hE2 := eqIntS_law (l := o) (by omega)
    have hz : t.ins.length + Ins.szL t.ins ≤ 1048576 := by have := hok.2; rw [Piece.sz_def] at this; exact this
    obtain ⟨xs', m1⟩ := markPiece_some hok
    have m2 := markIntS_law (l := o) (by omega) 1 (by omega) (by omega)
    have m3 := heldIntS_law o.length (by omega) 1 (by omega) (by omega)
    have hp : CVal.plain (.sl (o.map (.int .i64))) = true := by simp [CVal.plain, plain_ints]
    have n1 : ¬ (1 + (insMarks t.ins : Int) < 0) := by omega
    have n2 : ¬ (1 + (o.length : Int) < 0) := by omega
    have hae : CVal.agg [.int .i64 t.lam, .int .i64 t.inn, .int .i64 t.regs, .sl (t.ins.map Ins.enc)] = t.enc := Piece.enc_eta t
    rw [e]
    apply go_l_FnExactSlots
    unfold nf_l_FnExactSlots
    simp only [← e, hs, hT, hS, Option.bind_some, asInt_int, h1, decide_true, decide_false, br_true', br_false', Piece.enc_isAggN, Piece.enc_cell0, Piece.enc_cell1, Piece.enc_cell2, Piece.enc_cell3, asSl_sl]
    simp only [hae, hI, hp, Option.bind_some, Bool.not_true, br_false', br_true', isFlat_sl, asSl_sl, hE1, hE2, scalar_bool, scalar_int, asBool_bool, asInt_int, m1, m2, m3, n1, n2, List.getElem?_cons_zero, decide_true, decide_false]
end Go.Proofs.Ytmjjaoffeajcbaa.Abs

/- Whether lists of what lives are right: the law FnExactLiveOk on data, the reference's side, and both. -/
import Derived.Test.YtmjjaoffeajcbaaLiveOkLaw
set_option linter.unusedVariables false
set_option linter.unusedSimpArgs false
set_option linter.unusedSectionVars false
set_option maxRecDepth 100000
namespace Go.Proofs.Ytmjjaoffeajcbaa.Abs
open Go Go.Proofs

section
variable {p : Piece} (F : Fit p)
include F
theorem Oks_loop2 (lv : List (List Int)) {i : Nat} (hi : i < p.ins.length) (L : List Int) (hL : lv[i]? = some L) : ∀ (suf pre : List Int) (f : Nat → Nat → Bool), L = pre ++ suf → L.length ≤ 1048576 →
    LL f_s_LiveOk 2 lc_s_LiveOk_2 [] k_s_LiveOk_2 ((lv.map ei, (), (), (i : Int), (pre.length : Int), ()), (p.lam, p.inn, p.regs, p.ins.map Ins.enc, ()), (p.lam, p.inn, p.regs, p.ins.map Ins.enc, (), false, ()), em p.ins.length p.regs.toNat f, ()) =
      some (bif goodB p.regs pre.getLast? suf then .out 2 ((lv.map ei, (), (), (i : Int), (L.length : Int), ()), (p.lam, p.inn, p.regs, p.ins.map Ins.enc, ()), (p.lam, p.inn, p.regs, p.ins.map Ins.enc, (), false, ()), em p.ins.length p.regs.toNat (updAll i suf f), ()) else .ret (.bool false, []))
  | [], pre, f, he, hl => by
    have hg : (lv.map ei)[((i : Nat) : Int).toNat]? = some (ei L) := by simp [hL]
    apply gl_s_LiveOk_2
    unfold nl_s_LiveOk_2
    rw [hg]
    have : decide ((pre.length : Int) < (((L.map (CVal.int .i64)).length : Nat) : Int)) = false := decide_eq_false (by rw [List.length_map, he]; simp)
    simp only [ge0, br_true', Option.bind_some, ei_fits, ei_cell, ei_asSl, this, br_false', goodB_nil, cond_true]
    rw [he]
    simp [updAll]
  | x :: suf, pre, f, he, hl => by
    have ih := Oks_loop2 lv hi L hL suf (pre ++ [x]) (upd f i x.toNat) (by simpa using he) hl
    rw [List.getLast?_concat] at ih
    have hw := wrap_regs F
    have hg : (lv.map ei)[((i : Nat) : Int).toNat]? = some (ei L) := by simp [hL]
    have hl' : (pre ++ x :: suf).length ≤ 1048576 := by rw [← he]; exact hl
    have h1 : decide ((pre.length : Int) < (((L.map (CVal.int .i64)).length : Nat) : Int)) = true := decide_eq_true (by rw [List.length_map, he]; simp; omega)
    have h2 : (L.map (CVal.int .i64))[((pre.length : Nat) : Int).toNat]? = some (.int .i64 x) := by rw [he]; exact get_mid _ _ _ _
    have ti : ((i : Nat) : Int).toNat = i := by simp
    have hset : ∀ h : 0 ≤ x ∧ x ≤ p.regs - 1, (em p.ins.length p.regs.toNat f).set i (.sl ((rowL p.regs.toNat (f i)).set x.toNat (.bool true))) = em p.ins.length p.regs.toNat (upd f i x.toNat) := fun h => em_upd
    have hp : ∀ a b : List CVal, CVal.putCell (.sl a) 0 (.sl b) = .sl b := fun _ _ => rfl
    have hf : ∀ b : Bool, CVal.fitsF false [CK.bool] (.bool b) = true := fun _ => rfl
    apply gl_s_LiveOk_2
    unfold nl_s_LiveOk_2
    rw [hg]
    simp only [ge0, nn_mid, br_true', Option.bind_some, ei_fits, ei_cell, ei_asSl, h1, h2, fits_int, cell_int, hw, l1In_law, asBool_bool, asInt_int, asIdx_int, wrap_mid pre suf x hl']
    have fin : ∀ h : 0 ≤ x ∧ x ≤ p.regs - 1, br (decide (((i : Nat) : Int).toNat < (em p.ins.length p.regs.toNat f).length) && true)
        ((em p.ins.length p.regs.toNat f)[((i : Nat) : Int).toNat]?.bind fun y => (y.cell 0).bind fun c => c.asSl.bind fun xs => br (decide ((0 : Int) ≤ x) && true)
          (((em p.ins.length p.regs.toNat f)[((i : Nat) : Int).toNat]?.bind fun y => (y.cell 0).bind fun c => c.asSl).bind fun y_1 => br (decide (x.toNat < y_1.length))
            ((em p.ins.length p.regs.toNat f)[((i : Nat) : Int).toNat]?.bind fun y_2 => (y_2.cell 0).bind fun c => c.asSl.bind fun xs => xs[x.toNat]?.bind fun y_3 => br (CVal.fitsF false [CK.bool] y_3)
              (LL f_s_LiveOk 2 lc_s_LiveOk_2 [] k_s_LiveOk_2 ((lv.map ei, (), (), (i : Int), ((pre ++ [x]).length : Int), ()), (p.lam, p.inn, p.regs, p.ins.map Ins.enc, ()), (p.lam, p.inn, p.regs, p.ins.map Ins.enc, (), false, ()),
                (em p.ins.length p.regs.toNat f).set ((i : Nat) : Int).toNat (y_2.putCell 0 (.sl (xs.set x.toNat (.bool true)))), ())) none) none) none) none =
        some (bif goodB p.regs (some x) suf then .out 2 ((lv.map ei, (), (), (i : Int), (L.length : Int), ()), (p.lam, p.inn, p.regs, p.ins.map Ins.enc, ()), (p.lam, p.inn, p.regs, p.ins.map Ins.enc, (), false, ()), em p.ins.length p.regs.toNat (updAll i (x :: suf) f), ()) else .ret (.bool false, [])) := by
      intro h
      have hx : x.toNat < p.regs.toNat := by omega
      simp only [ti, em_len, decide_eq_true hi, Bool.and_true, br_true', em_get hi, Option.bind_some, cell_sl, asSl_sl, decide_eq_true h.1, rowL_len, decide_eq_true hx, rowL_get hx, hf, hp, hset h]
      exact ih
    rcases eq_snoc pre with rfl | ⟨q, a, rfl⟩
    · rw [List.getLast?_nil, goodB_none, bif_and]
      by_cases h : 0 ≤ x ∧ x ≤ p.regs - 1
      · simp only [decide_eq_true h, Bool.not_true, br_false', List.length_nil, Int.cast_ofNat_Int, Int.lt_irrefl, decide_false, Option.bind_some, cond_true]
        exact fin h
      · simp only [decide_eq_false h, Bool.not_false, br_true', Option.bind_some, cond_false]
    · rw [List.getLast?_concat, goodB_some, bif_and, bif_and]
      by_cases h : 0 ≤ x ∧ x ≤ p.regs - 1
      · have hpos : decide ((0 : Int) < ((q ++ [a]).length : Int)) = true := decide_eq_true (by simp only [List.length_append, List.length_cons, List.length_nil]; omega)
        have hgl := get_last q (x :: suf) a (by simpa using hl')
        rw [← he] at hgl
        have hn := nn_last q a (by simp at hl' ⊢; omega)
        simp only [decide_eq_true h, Bool.not_true, br_false', hpos, br_true', hn, hgl, Option.bind_some, fits_int, cell_int, asInt_int, cond_true]
        by_cases hax : a < x
        · have h3 : ¬ x ≤ a := by omega
          simp only [decide_eq_false h3, br_false', decide_eq_true hax, cond_true]
          exact fin h
        · have h3 : x ≤ a := by omega
          simp only [decide_eq_true h3, br_true', decide_eq_false hax, cond_false]
      · simp only [decide_eq_false h, Bool.not_false, br_true', Option.bind_some, cond_false]
/-- What the first k lists say. -/
def lvN (lv : List (List Int)) (k : Nat) (i r : Nat) : Bool := decide (i < k) && lvB lv i r
theorem Oks_loop0 (lv : List (List Int)) (hlen : lv.length = p.ins.length) (ht : ∀ t ∈ lv, t.length ≤ 1048576) : ∀ (suf pre : List (List Int)), lv = pre ++ suf →
    LL f_s_LiveOk 0 lc_s_LiveOk_0 [] k_s_LiveOk_0 ((lv.map ei, (), (), (pre.length : Int), ()), (p.lam, p.inn, p.regs, p.ins.map Ins.enc, ()), (p.lam, p.inn, p.regs, p.ins.map Ins.enc, (), false, ()), em p.ins.length p.regs.toNat (lvN lv pre.length), ()) =
      some (bif goodAll p.regs suf then .out 0 ((lv.map ei, (), (), (lv.length : Int), ()), (p.lam, p.inn, p.regs, p.ins.map Ins.enc, ()), (p.lam, p.inn, p.regs, p.ins.map Ins.enc, (), false, ()), em p.ins.length p.regs.toNat (lvN lv lv.length), ()) else .ret (.bool false, []))
  | [], pre, he => by
    have hp : pre.length = lv.length := by rw [he]; simp
    rw [hp]
    apply gl_s_LiveOk_0
    unfold nl_s_LiveOk_0
    rw [List.length_map]
    simp [goodAll]
  | t :: suf, pre, he => by
    have ih := Oks_loop0 lv hlen ht suf (pre ++ [t]) (by simpa using he)
    have hn := F.n
    have hpl : pre.length < lv.length := by rw [he]; simp
    have hin := Oks_loop2 F lv (i := pre.length) (by omega) t (by rw [he]; simp) t [] (lvN lv pre.length) rfl (ht t (by rw [he]; simp))
    simp only [List.length_nil, Int.cast_ofNat_Int, List.getLast?_nil] at hin
    have hw := wrap_succ (i := pre.length) (by omega)
    have hlt : decide ((pre.length : Int) < (((lv.map ei).length : Nat) : Int)) = true := decide_eq_true (by rw [List.length_map]; omega)
    have e3 : em p.ins.length p.regs.toNat (updAll pre.length t (lvN lv pre.length)) = em p.ins.length p.regs.toNat (lvN lv (pre ++ [t]).length) := by
      refine em_congr fun i hi r hr => ?_
      rw [updAll_at, List.length_append, List.length_singleton]
      unfold lvN
      by_cases e : i = pre.length
      · subst e
        unfold lvB
        rw [he]
        simp
      · have : decide (i < pre.length) = decide (i < pre.length + 1) := by rw [decide_eq_decide]; omega
        simp [e, this]
    rw [show (((pre ++ [t]).length : Nat) : Int) = (pre.length : Int) + 1 by simp] at ih
    apply gl_s_LiveOk_0
    unfold nl_s_LiveOk_0
    rw [hlt, hin]
    unfold goodAll
    rw [List.all_cons, bif_and]
    cases goodB p.regs none t with
    | false => rfl
    | true =>
      simp only [br_true', cond_true, Option.bind_some, loK_out, beq_self_eq_true, e3, hw]
      exact ih
/-- Rounds at the instructions from i on. -/
def nodesFrom (p : Piece) : Nat → Nat → (Nat → Nat → Bool) → Nat → Nat → Bool
  | _, 0, f => f
  | i, d + 1, f => nodesFrom p (i + 1) d (nodeF p i f)
theorem nodesFrom_le {n R : Nat} : ∀ {d i : Nat} {f : Nat → Nat → Bool}, MLe n R f (nodesFrom p i d f)
  | 0, _, _ => .refl
  | d + 1, i, f => nodeF_le.trans (nodesFrom_le (d := d))
theorem Oks_loop4 {c0 : Nat} : ∀ (d i : Nat) (f : Nat → Nat → Bool), i + d = p.ins.length → c0 ≤ cnt p.ins.length p.regs.toNat f →
    LL f_s_LiveOk 4 lc_s_LiveOk_4 [] k_s_LiveOk_4 (((), (), (i : Int), ()), (p.lam, p.inn, p.regs, p.ins.map Ins.enc, ()), (p.lam, p.inn, p.regs, p.ins.map Ins.enc, (), decide (c0 < cnt p.ins.length p.regs.toNat f), ()), em p.ins.length p.regs.toNat f, ()) =
      some (.out 4 (((), (), (p.ins.length : Int), ()), (p.lam, p.inn, p.regs, p.ins.map Ins.enc, ()), (p.lam, p.inn, p.regs, p.ins.map Ins.enc, (), decide (c0 < cnt p.ins.length p.regs.toNat (nodesFrom p i d f)), ()), em p.ins.length p.regs.toNat (nodesFrom p i d f), ()))
  | 0, i, f, h, hc => by
    have e : i = p.ins.length := by omega
    subst e
    apply gl_s_LiveOk_4
    unfold nl_s_LiveOk_4
    rw [List.length_map, show decide ((p.ins.length : Int) < (p.ins.length : Int)) = false by simp]
    rfl
  | d + 1, i, f, h, hc => by
    have hn := F.n
    have hi : i < p.ins.length := by omega
    have ih := Oks_loop4 (c0 := c0) d (i + 1) (nodeF p i f) (by omega) (Nat.le_trans hc (cnt_mono nodeF_le))
    have hw := wrap_succ (i := i) (by omega)
    rw [show (((i + 1 : Nat)) : Int) = (i : Int) + 1 by omega] at ih
    have hlt : decide ((i : Int) < (((p.ins.map Ins.enc).length : Nat) : Int)) = true := decide_eq_true (by rw [List.length_map]; omega)
    have hN := Node_law F hc hi
    unfold boxP boxR at hN
    apply gl_s_LiveOk_4
    unfold nl_s_LiveOk_4
    simp only [hlt, br_true', hN, Option.bind_some, List.getElem?_cons_zero, List.getElem?_cons_succ, asSl_sl, asInt_int, asBool_bool, hw]
    exact ih
/-- Rounds put no mark where none is wanted, and one where there is. -/
theorem nodes_stay : ∀ {d i : Nat} {f g : Nat → Nat → Bool}, i + d = p.ins.length → (∀ i, i < p.ins.length → ∀ r, r < p.regs.toNat → g i r = f i r) → (∀ i, i < p.ins.length → ∀ r, r < p.regs.toNat → wantB p f i r = true → f i r = true) →
    ∀ i', i' < p.ins.length → ∀ r, r < p.regs.toNat → nodesFrom p i d g i' r = f i' r
  | 0, i, f, g, h, hg, hf => hg
  | d + 1, i, f, g, h, hg, hf => by
    refine nodes_stay (d := d) (i := i + 1) (by omega) (fun i' hi' r hr => ?_) hf
    unfold nodeF
    rw [hg i' hi' r hr, wantB_congr F hg hr]
    by_cases e : i' = i
    · subst e
      have := hf i' hi' r hr
      cases hw : wantB p f i' r with
      | false => simp
      | true => rw [this hw]; rfl
    · simp [e]
theorem nodes_grow : ∀ {d i : Nat} {f : Nat → Nat → Bool} {i' r : Nat}, i + d = p.ins.length → i ≤ i' → i' < p.ins.length → r < p.regs.toNat → wantB p f i' r = true → nodesFrom p i d f i' r = true
  | 0, i, f, i', r, h, h1, h2, hr, hw => by omega
  | d + 1, i, f, i', r, h, h1, h2, hr, hw => by
    by_cases e : i' = i
    · subst e
      exact nodesFrom_le F (d := d) (i := i' + 1) i' h2 r hr (by unfold nodeF; rw [hw]; simp)
    · exact nodes_grow (d := d) (i := i + 1) (by omega) (by omega) h2 hr (wantB_mono F nodeF_le hr hw)
theorem rows_nodes (f : Nat → Nat → Bool) : rowsFrom p.regs.toNat (wantB p f) f 0 p.ins.length = !decide (cnt p.ins.length p.regs.toNat f < cnt p.ins.length p.regs.toNat (nodesFrom p 0 p.ins.length f)) := by
  rw [Bool.eq_iff_iff, rowsFrom_iff]
  simp only [Bool.not_eq_true', decide_eq_false_iff_not, Nat.not_lt]
  constructor
  · intro h
    exact Nat.le_of_eq (cnt_congr (nodes_stay F (d := p.ins.length) (i := 0) (by omega) (fun _ _ _ _ => rfl) fun i hi r hr => h i (Nat.zero_le _) (by omega) r hr))
  · intro h i _ hi r hr hw
    have hi' : i < p.ins.length := by omega
    rw [cnt_eq (nodesFrom_le F) h i hi' r hr]
    exact nodes_grow F (by omega) (Nat.zero_le _) hi' hr hw
end
theorem LiveOk_i {p : Piece} (hok : p.ok) {lv : List (List Int)} (hl : lv.length ≤ 1048576) (ht : ∀ t ∈ lv, t.length ≤ 1048576) :
    CC f_i_LiveOk [.v p.enc, .v (.sl (lv.map ei))] [] = some (.bool (pieceB p && (decide (lv.length = p.ins.length) && (goodAll p.regs lv && rowsFrom p.regs.toNat (wantB p (lvB lv)) (lvB lv) 0 p.ins.length))), []) := by
  have hP := pieceOk_i hok
  rw [Piece.enc_def]
  apply go_i_LiveOk
  unfold nf_i_LiveOk
  simp only [Piece.enc_eta, hP, Option.bind_some, asBool_bool, List.length_map]
  cases hb : pieceB p with
  | false => rfl
  | true =>
    have F := fit_of hok hb
    by_cases he : lv.length = p.ins.length
    · have h0 := Oki_loop0 F lv [] (by simpa using hl) ht
      have h4 := Oki_loop4 F (lvB lv) p.ins.length 0 (by omega)
      simp only [List.nil_append, List.length_nil, Int.cast_ofNat_Int] at h0 h4
      have e0 : em 0 p.regs.toNat (lvB lv) = [] := rfl
      rw [e0] at h0
      have d1 : decide ((lv.length : Int) = (p.ins.length : Int)) = true := decide_eq_true (by omega)
      simp only [Bool.not_true, br_false', Option.bind_some, d1]
      rw [h0]
      cases hg : goodAll p.regs lv with
      | false =>
        simp only [cond_false, Option.bind_some]
        rw [decide_eq_true he]; rfl
      | true =>
        simp only [cond_true, Option.bind_some, loK_out, beq_self_eq_true, br_true', List.length_map]
        rw [he, h4]
        cases rowsFrom p.regs.toNat (wantB p (lvB lv)) (lvB lv) 0 p.ins.length <;> simp [he]
    · have d1 : decide ((lv.length : Int) = (p.ins.length : Int)) = false := decide_eq_false (by omega)
      simp [d1, he]
theorem LiveOk_s {p : Piece} (hok : p.ok) {lv : List (List Int)} (hl : lv.length ≤ 1048576) (ht : ∀ t ∈ lv, t.length ≤ 1048576) :
    CC f_s_LiveOk [.v p.enc, .v (.sl (lv.map ei))] [] = some (.bool (pieceB p && (decide (lv.length = p.ins.length) && (goodAll p.regs lv && rowsFrom p.regs.toNat (wantB p (lvB lv)) (lvB lv) 0 p.ins.length))), []) := by
  have hP := pieceOk_s hok
  rw [Piece.enc_def]
  apply go_s_LiveOk
  unfold nf_s_LiveOk
  simp only [Piece.enc_eta, hP, Option.bind_some, asBool_bool, List.length_map]
  cases hb : pieceB p with
  | false => rfl
  | true =>
    have F := fit_of hok hb
    by_cases he : lv.length = p.ins.length
    · have h0 := Oks_loop0 F lv he ht lv [] rfl
      simp only [List.length_nil, Int.cast_ofNat_Int] at h0
      have hN := New_law F
      have d1 : decide ((lv.length : Int) = (p.ins.length : Int)) = true := decide_eq_true (by omega)
      have e0 : em p.ins.length p.regs.toNat (lvN lv 0) = em p.ins.length p.regs.toNat (fun _ _ => false) := em_congr fun i _ r _ => by simp [lvN]
      have e1 : em p.ins.length p.regs.toNat (lvN lv lv.length) = em p.ins.length p.regs.toNat (lvB lv) := em_congr fun i hi r _ => by unfold lvN; rw [decide_eq_true (by omega)]; rfl
      rw [e0, e1] at h0
      have h4 := Oks_loop4 F (c0 := cnt p.ins.length p.regs.toNat (lvB lv)) p.ins.length 0 (lvB lv) (by omega) (Nat.le_refl _)
      simp only [Int.cast_ofNat_Int, Nat.lt_irrefl, decide_false] at h4
      have a6 : ∀ a b c d e g : CVal, CVal.isAggN 6 (.agg [a, b, c, d, e, g]) = true := fun _ _ _ _ _ _ => rfl
      simp only [Bool.not_true, br_false', Option.bind_some, d1, hN, asFp_fp, decide_true, Bool.true_and, a6, br_true', cell_agg, List.getElem?_cons_zero, List.getElem?_cons_succ, asSl_sl, asInt_int, asBool_bool]
      rw [h0]
      cases hg : goodAll p.regs lv with
      | false =>
        simp only [cond_false, Option.bind_some]
        rw [decide_eq_true he]; rfl
      | true =>
        simp only [cond_true, Option.bind_some, loK_out, beq_self_eq_true, br_true']
        rw [h4, rows_nodes F]
        simp [he]
    · have d1 : decide ((lv.length : Int) = (p.ins.length : Int)) = false := decide_eq_false (by omega)
      simp [d1, he]
end Go.Proofs.Ytmjjaoffeajcbaa.Abs

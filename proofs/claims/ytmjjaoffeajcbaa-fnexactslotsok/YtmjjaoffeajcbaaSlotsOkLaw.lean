/- Whether slots are right: both sides on data. -/
import Derived.Test.YtmjjaoffeajcbaaClashLaw
import Derived.Test.YtmjjaoffeajcbaaSlicesP
set_option linter.unusedVariables false
set_option linter.unusedSimpArgs false
set_option linter.unusedSectionVars false
set_option maxRecDepth 100000
namespace Go.Proofs.Ytmjjaoffeajcbaa.Abs
open Go Go.Proofs

/-! ### Tables are the same both ways round -/
def SymT (T : Nat → Nat → Bool) : Prop := ∀ x y, T x y = T y x
theorem sym_addP {T c : Nat → Nat → Bool} (h : SymT T) : SymT (addP T c) := by
  intro x y
  unfold addP
  rw [h x y, Bool.or_comm (c x y), show decide (x ≠ y) = decide (y ≠ x) by rw [decide_eq_decide]; exact ne_comm]
theorem sym_clAll {G : Nat → Nat → Bool} : ∀ {l : List Ins} {i : Nat} {T : Nat → Nat → Bool}, SymT T → SymT (clAll G i l T)
  | [], _, _, h => h
  | x :: r, i, T, h => sym_clAll (l := r) (sym_addP h)
theorem sym_clashT (p : Piece) (G : Nat → Nat → Bool) : SymT (clashT p G) := sym_addP (sym_clAll fun _ _ => rfl)
theorem pairRow_mem {g : Nat → Bool} {a : Nat} {z : Int × Int} : ∀ {d b : Nat}, z ∈ pairRow g a b d ↔ ∃ k : Nat, z = ((a : Int), (k : Int)) ∧ b ≤ k ∧ k < b + d ∧ a < k ∧ g k = true
  | 0, b => by
    simp only [pairRow, List.not_mem_nil, false_iff]
    rintro ⟨k, _, h1, h2, _⟩; omega
  | d + 1, b => by
    unfold pairRow
    rw [List.mem_append, pairRow_mem (d := d) (b := b + 1)]
    constructor
    · rintro (h | ⟨k, h1, h2, h3, h4⟩)
      · split at h
        · rename_i hg
          simp only [Bool.and_eq_true, decide_eq_true_eq] at hg
          simp at h
          exact ⟨b, h, Nat.le_refl _, by omega, hg.2, hg.1⟩
        · cases h
      · exact ⟨k, h1, by omega, by omega, h4⟩
    · rintro ⟨k, h1, h2, h3, h4, h5⟩
      by_cases e : k = b
      · subst e
        exact .inl (by rw [if_pos (by simp [h4, h5])]; simp [h1])
      · exact .inr ⟨k, h1, by omega, by omega, h4, h5⟩
theorem pairs_mem {R : Nat} {T : Nat → Nat → Bool} {z : Int × Int} : ∀ {d a : Nat}, z ∈ pairsFrom R T a d ↔ ∃ i k : Nat, z = ((i : Int), (k : Int)) ∧ a ≤ i ∧ i < a + d ∧ k < R ∧ i < k ∧ T i k = true
  | 0, a => by
    simp only [pairsFrom, List.not_mem_nil, false_iff]
    rintro ⟨i, k, _, h1, h2, _⟩; omega
  | d + 1, a => by
    unfold pairsFrom
    rw [List.mem_append, pairs_mem (d := d) (a := a + 1), pairRow_mem]
    constructor
    · rintro (⟨k, h1, h2, h3, h4, h5⟩ | ⟨i, k, h1, h2, h3, h4⟩)
      · exact ⟨a, k, h1, Nat.le_refl _, by omega, by omega, h4, h5⟩
      · exact ⟨i, k, h1, by omega, by omega, h4⟩
    · rintro ⟨i, k, h1, h2, h3, h4, h5, h6⟩
      by_cases e : i = a
      · subst e; exact .inl ⟨k, h1, Nat.zero_le _, by omega, h5, h6⟩
      · exact .inr ⟨i, k, h1, by omega, by omega, h4, h5, h6⟩

/-! ### What is asked -/
def sv (S : List Int) (r : Nat) : Int := (S[r]?).getD 0
def chkB (inn : Int) (S : List Int) (r : Nat) : Bool := !(decide (sv S r < 0) || (decide ((r : Int) < inn) && !decide (sv S r = r)))
def chkAll (inn : Int) (S : List Int) : Nat → Nat → Bool
  | _, 0 => true
  | r, d + 1 => chkB inn S r && chkAll inn S (r + 1) d
def okRow (T : Nat → Nat → Bool) (S : List Int) (a : Nat) : Nat → Nat → Bool
  | _, 0 => true
  | b, d + 1 => !(T a b && decide (sv S a = sv S b)) && okRow T S a (b + 1) d
def okAll (inn : Int) (T : Nat → Nat → Bool) (S : List Int) : Nat → Nat → Bool
  | _, 0 => true
  | a, d + 1 => chkB inn S a && (okRow T S a 0 a && okAll inn T S (a + 1) d)
theorem chkAll_iff {inn : Int} {S : List Int} : ∀ {d r : Nat}, chkAll inn S r d = true ↔ ∀ k, r ≤ k → k < r + d → chkB inn S k = true
  | 0, r => by
    simp only [chkAll, true_iff]
    intro k h1 h2; omega
  | d + 1, r => by
    simp only [chkAll, Bool.and_eq_true, chkAll_iff (d := d) (r := r + 1)]
    constructor
    · rintro ⟨h1, h2⟩ k h3 h4
      by_cases e : k = r
      · subst e; exact h1
      · exact h2 k (by omega) (by omega)
    · intro h
      exact ⟨h r (by omega) (by omega), fun k h1 h2 => h k (by omega) (by omega)⟩
theorem okRow_iff {T : Nat → Nat → Bool} {S : List Int} {a : Nat} : ∀ {d b : Nat}, okRow T S a b d = true ↔ ∀ k, b ≤ k → k < b + d → ¬ (T a k = true ∧ sv S a = sv S k)
  | 0, b => by
    simp only [okRow, true_iff]
    intro k h1 h2; omega
  | d + 1, b => by
    simp only [okRow, Bool.and_eq_true, okRow_iff (d := d) (b := b + 1)]
    constructor
    · rintro ⟨h1, h2⟩ k h3 h4
      by_cases e : k = b
      · subst e
        rintro ⟨h5, h6⟩
        rw [h5, decide_eq_true h6] at h1; cases h1
      · exact h2 k (by omega) (by omega)
    · intro h
      refine ⟨?_, fun k h1 h2 => h k (by omega) (by omega)⟩
      have := h b (by omega) (by omega)
      cases h1 : T a b with
      | false => rfl
      | true =>
        have : ¬ sv S a = sv S b := fun h2 => this ⟨h1, h2⟩
        simp [this]
theorem okAll_iff {inn : Int} {T : Nat → Nat → Bool} {S : List Int} : ∀ {d a : Nat}, okAll inn T S a d = true ↔ ∀ i, a ≤ i → i < a + d → chkB inn S i = true ∧ okRow T S i 0 i = true
  | 0, a => by
    simp only [okAll, true_iff]
    intro k h1 h2; omega
  | d + 1, a => by
    simp only [okAll, Bool.and_eq_true, okAll_iff (d := d) (a := a + 1)]
    constructor
    · rintro ⟨h1, h2, h3⟩ i h4 h5
      by_cases e : i = a
      · subst e; exact ⟨h1, h2⟩
      · exact h3 i (by omega) (by omega)
    · intro h
      exact ⟨(h a (by omega) (by omega)).1, (h a (by omega) (by omega)).2, fun k h1 h2 => h k (by omega) (by omega)⟩
theorem ok_same {inn : Int} {T : Nat → Nat → Bool} (hT : SymT T) {S : List Int} {R : Nat} : okAll inn T S 0 R = (chkAll inn S 0 R && !((pairsFrom R T 0 R).any fun z => decide (sv S z.1.toNat = sv S z.2.toNat))) := by
  rw [Bool.eq_iff_iff]
  simp only [Bool.and_eq_true, okAll_iff, chkAll_iff, Bool.not_eq_true', List.any_eq_false, decide_eq_true_eq, okRow_iff]
  constructor
  · intro h
    refine ⟨fun k h1 h2 => (h k h1 h2).1, fun z hz => ?_⟩
    obtain ⟨i, k, e, h1, h2, h3, h4, h5⟩ := pairs_mem.1 hz
    rw [e]
    have := (h k (Nat.zero_le _) (by omega)).2 i (Nat.zero_le _) (by omega)
    simp only [Int.toNat_natCast]
    intro he
    exact this ⟨by rw [hT]; exact h5, he.symm⟩
  · rintro ⟨h1, h2⟩ i h3 h4
    refine ⟨h1 i h3 h4, fun k h5 h6 ⟨h7, h8⟩ => ?_⟩
    have := h2 ((k : Int), (i : Int)) (pairs_mem.2 ⟨k, i, rfl, Nat.zero_le _, by omega, by omega, by omega, by rw [hT]; exact h7⟩)
    simp only [Int.toNat_natCast] at this
    exact this h8.symm
section
variable {p : Piece} (F : Fit p) {S : List Int} (hS : S.length = p.regs.toNat)
include F hS
theorem sv_get {r : Nat} (h : r < p.regs.toNat) : (S.map (CVal.int .i64))[r]? = some (.int .i64 (sv S r)) := by
  have : r < S.length := by omega
  simp [sv, this]
theorem oi_loop0 (c : CVal) : ∀ (d r : Nat), r + d = p.regs.toNat →
    LL f_i_SlotsOk 0 lc_i_SlotsOk_0 [] k_i_SlotsOk_0 (((), c, S.map (.int .i64), p.regs, (r : Int), ()), (p.lam, p.inn, p.regs, p.ins.map Ins.enc, ()), ()) =
      some (bif chkAll p.inn S r d then .out 0 (((), c, S.map (.int .i64), p.regs, p.regs, ()), (p.lam, p.inn, p.regs, p.ins.map Ins.enc, ()), ()) else .ret (.bool false, []))
  | 0, r, h => by
    have hr0 := F.r0
    have e : (r : Int) = p.regs := by omega
    rw [e]
    apply gl_i_SlotsOk_0
    unfold nl_i_SlotsOk_0
    simp [chkAll]
  | d + 1, r, h => by
    have hR := F.r
    have hr : r < p.regs.toNat := by omega
    have ih := oi_loop0 c d (r + 1) (by omega)
    rw [show (((r + 1 : Nat)) : Int) = (r : Int) + 1 by omega] at ih
    have hw := wrap_succ (i := r) (by omega)
    have hlt : decide ((r : Int) < p.regs) = true := decide_eq_true (by omega)
    have tr : ((r : Nat) : Int).toNat = r := by simp
    apply gl_i_SlotsOk_0
    unfold nl_i_SlotsOk_0
    simp only [hlt, br_true', ge0, tr, sv_get F hS hr, Option.bind_some, fits_int, cell_int, asInt_int, hw, chkAll, chkB]
    cases h1 : decide (sv S r < 0) with
    | true => simp
    | false =>
      cases h2 : decide ((r : Int) < p.inn) with
      | true =>
        cases h3 : decide (sv S r = (r : Int)) with
        | true => simp only [br_true', br_false', Option.bind_some, Bool.not_true, Bool.and_false, Bool.or_false, Bool.not_false, Bool.true_and]; exact ih
        | false => simp
      | false => simp only [br_true', br_false', Option.bind_some, Bool.false_and, Bool.or_false, Bool.not_false, Bool.true_and]; exact ih
theorem os_loop2 (T : Nat → Nat → Bool) {a : Nat} (ha : a < p.regs.toNat) : ∀ (d b : Nat), b + d = a →
    LL f_s_SlotsOk 2 lc_s_SlotsOk_2 [] k_s_SlotsOk_2 ((S.map (.int .i64), (), em p.regs.toNat p.regs.toNat T, (a : Int), (b : Int), ()), (p.lam, p.inn, p.regs, p.ins.map Ins.enc, ()), ()) =
      some (bif okRow T S a b d then .out 2 ((S.map (.int .i64), (), em p.regs.toNat p.regs.toNat T, (a : Int), (a : Int), ()), (p.lam, p.inn, p.regs, p.ins.map Ins.enc, ()), ()) else .ret (.bool false, []))
  | 0, b, h => by
    have e : b = a := by omega
    subst e
    apply gl_s_SlotsOk_2
    unfold nl_s_SlotsOk_2
    simp [okRow]
  | d + 1, b, h => by
    have hR := F.r
    have hb : b < a := by omega
    have ih := os_loop2 T ha d (b + 1) (by omega)
    rw [show (((b + 1 : Nat)) : Int) = (b : Int) + 1 by omega] at ih
    have hw := wrap_succ (i := b) (by omega)
    have hlt : decide ((b : Int) < (a : Int)) = true := decide_eq_true (by omega)
    have ta : ((a : Nat) : Int).toNat = a := by simp
    have tb : ((b : Nat) : Int).toNat = b := by simp
    apply gl_s_SlotsOk_2
    unfold nl_s_SlotsOk_2
    simp only [hlt, br_true', ge0, ta, tb, em_get ha, Option.bind_some, fits_sl, cell_sl, asSl_sl, rowL_get (show b < p.regs.toNat by omega), fits_bool, cell_bool, asBool_bool, sv_get F hS ha, sv_get F hS (show b < p.regs.toNat by omega), fits_int, cell_int, asInt_int, hw, okRow]
    cases h1 : T a b with
    | true =>
      cases h2 : decide (sv S a = sv S b) with
      | true => simp
      | false => simp only [br_true', br_false', Option.bind_some, Bool.and_false, Bool.not_false, Bool.true_and]; exact ih
    | false => simp only [br_false', Option.bind_some, Bool.false_and, Bool.not_false, Bool.true_and]; exact ih
theorem os_loop0 (T : Nat → Nat → Bool) : ∀ (d a : Nat), a + d = p.regs.toNat →
    LL f_s_SlotsOk 0 lc_s_SlotsOk_0 [] k_s_SlotsOk_0 ((S.map (.int .i64), (), em p.regs.toNat p.regs.toNat T, (a : Int), ()), (p.lam, p.inn, p.regs, p.ins.map Ins.enc, ()), ()) =
      some (bif okAll p.inn T S a d then .out 0 ((S.map (.int .i64), (), em p.regs.toNat p.regs.toNat T, p.regs, ()), (p.lam, p.inn, p.regs, p.ins.map Ins.enc, ()), ()) else .ret (.bool false, []))
  | 0, a, h => by
    have hr0 := F.r0
    have e : (a : Int) = p.regs := by omega
    rw [e]
    apply gl_s_SlotsOk_0
    unfold nl_s_SlotsOk_0
    simp [okAll]
  | d + 1, a, h => by
    have hR := F.r
    have ha : a < p.regs.toNat := by omega
    have ih := os_loop0 T d (a + 1) (by omega)
    rw [show (((a + 1 : Nat)) : Int) = (a : Int) + 1 by omega] at ih
    have h2 := os_loop2 F hS T ha a 0 (by omega)
    simp only [Int.cast_ofNat_Int] at h2
    have hw := wrap_succ (i := a) (by omega)
    have hlt : decide ((a : Int) < p.regs) = true := decide_eq_true (by omega)
    have ta : ((a : Nat) : Int).toNat = a := by simp
    have go : ((LL f_s_SlotsOk 2 lc_s_SlotsOk_2 [] k_s_SlotsOk_2 ((S.map (.int .i64), (), em p.regs.toNat p.regs.toNat T, (a : Int), (0 : Int), ()), (p.lam, p.inn, p.regs, p.ins.map Ins.enc, ()), ())).bind fun r =>
        loK r (fun r => some (LO.ret r)) fun j p =>
          br (j == 2) (LL f_s_SlotsOk 0 lc_s_SlotsOk_0 [] k_s_SlotsOk_0 ((p.fst.1, (), p.fst.snd.snd.1, IntKind.i64.wrap (p.fst.snd.snd.snd.1 + 1), ()), (p.snd.fst.1, p.snd.fst.snd.1, p.snd.fst.snd.snd.1, p.snd.fst.snd.snd.snd.1, ()), ()))
            (br (j == 1) (LL f_s_SlotsOk 0 lc_s_SlotsOk_0 [] k_s_SlotsOk_0 ((p.fst.1, (), p.fst.snd.snd.1, IntKind.i64.wrap (p.fst.snd.snd.snd.1 + 1), ()), (p.snd.fst.1, p.snd.fst.snd.1, p.snd.fst.snd.snd.1, p.snd.fst.snd.snd.snd.1, ()), ()))
              (some (LO.out j ((p.fst.1, (), p.fst.snd.snd.1, p.fst.snd.snd.snd.1, ()), (p.snd.fst.1, p.snd.fst.snd.1, p.snd.fst.snd.snd.1, p.snd.fst.snd.snd.snd.1, ()), ()))))) =
        some (bif (okRow T S a 0 a && okAll p.inn T S (a + 1) d) then .out 0 ((S.map (.int .i64), (), em p.regs.toNat p.regs.toNat T, p.regs, ()), (p.lam, p.inn, p.regs, p.ins.map Ins.enc, ()), ()) else .ret (.bool false, [])) := by
      rw [h2]
      cases okRow T S a 0 a with
      | false => rfl
      | true =>
        simp only [cond_true, Option.bind_some, loK_out, beq_self_eq_true, br_true', hw, Bool.true_and]
        exact ih
    apply gl_s_SlotsOk_0
    unfold nl_s_SlotsOk_0
    simp only [hlt, br_true', ge0, ta, sv_get F hS ha, Option.bind_some, fits_int, cell_int, asInt_int, okAll, chkB]
    cases h1 : decide (sv S a < 0) with
    | true => simp
    | false =>
      cases h2 : decide ((a : Int) < p.inn) with
      | true =>
        cases h3 : decide (sv S a = (a : Int)) with
        | true => simp only [br_true', br_false', Option.bind_some, Bool.not_true, Bool.and_false, Bool.or_false, Bool.not_false, Bool.true_and]; exact go
        | false => simp
      | false => simp only [br_true', br_false', Option.bind_some, Bool.false_and, Bool.or_false, Bool.not_false, Bool.true_and]; exact go
end
theorem SlotsOk_both {p : Piece} (hok : p.ok) {S : List Int} (hl : S.length ≤ 1048576) : ∃ b : Bool, CC f_i_SlotsOk [.v p.enc, .v (.sl (S.map (.int .i64)))] [] = some (.bool b, []) ∧ CC f_s_SlotsOk [.v p.enc, .v (.sl (S.map (.int .i64)))] [] = some (.bool b, []) := by
  have hP := pieceOk_i hok
  have hP2 := pieceOk_s hok
  cases hb : pieceB p with
  | false =>
    refine ⟨false, ?_, ?_⟩
    · rw [Piece.enc_def]
      apply go_i_SlotsOk
      unfold nf_i_SlotsOk
      simp only [Piece.enc_eta, hP, hb, Option.bind_some, asBool_bool, Bool.not_false, br_true']
    · rw [Piece.enc_def]
      apply go_s_SlotsOk
      unfold nf_s_SlotsOk
      simp only [Piece.enc_eta, hP2, hb, Option.bind_some, asBool_bool, Bool.not_false, br_true']
  | true =>
    have F := fit_of hok hb
    have hR := F.r
    have hr0 := F.r0
    by_cases hlen : (S.length : Int) = p.regs
    · have hS : S.length = p.regs.toNat := by omega
      obtain ⟨G, g1, g2⟩ := solve_law F
      have hC := clashes_law F G g1
      have hT := Table_law F G g2
      have hm : p.regs.toNat * p.regs.toNat ≤ 400 * 400 := Nat.mul_le_mul (by omega) (by omega)
      have hpl := pairs_len (R := p.regs.toNat) (T := clashT p G) (d := p.regs.toNat) (a := 0)
      have hCl : CC f_i_Clashes [.v p.enc] [] = some (.sl ((pairsFrom p.regs.toNat (clashT p G) 0 p.regs.toNat).map ep), []) := by
        have hloop := Pi_loop0 (R := p.regs.toNat) (by omega) (clashT p G) p.regs.toNat 0 [] (by omega) (by simp; omega)
        simp only [Int.cast_ofNat_Int, List.map_nil, List.nil_append] at hloop
        rw [Piece.enc_def]
        apply go_i_Clashes
        unfold nf_i_Clashes
        simp only [Piece.enc_eta, hP, hb, Option.bind_some, asBool_bool, Bool.not_true, br_false', hC, asSl_sl, em_len]
        rw [hloop]
        rfl
      have hcc := containsP_law (c := .func f_i_SlotsOk_1 [.fp (.sl (S.map (.int .i64))) 0]) (p := fun z => decide (sv S z.1.toNat = sv S z.2.toNat)) (ts := pairsFrom p.regs.toNat (clashT p G) 0 p.regs.toNat) (by omega) (fun z hz => by
        obtain ⟨i, k, e, h1, h2, h3, h4, h5⟩ := pairs_mem.1 hz
        subst e
        refine apC (cs := [ep ((i : Int), (k : Int))]) (by decide) rfl rfl rfl ?_
        show CC f_i_SlotsOk_1 [.v (ep ((i : Int), (k : Int))), .v (.fp (.sl (S.map (.int .i64))) 0)] [] = _
        have ti : ((i : Nat) : Int).toNat = i := by simp
        have tk : ((k : Nat) : Int).toNat = k := by simp
        unfold ep
        apply go_i_SlotsOk_1
        unfold nf_i_SlotsOk_1
        simp only [ge0, br_true', ti, tk, sv_get F hS (show i < p.regs.toNat by omega), sv_get F hS (show k < p.regs.toNat by omega), Option.bind_some, fits_int, cell_int, asInt_int])
      refine ⟨okAll p.inn (clashT p G) S 0 p.regs.toNat, ?_, ?_⟩
      · have h0 := oi_loop0 F hS (.fp (.sl (S.map (.int .i64))) 0) p.regs.toNat 0 (by omega)
        simp only [Int.cast_ofNat_Int] at h0
        rw [ok_same (sym_clashT p G)]
        rw [Piece.enc_def]
        apply go_i_SlotsOk
        unfold nf_i_SlotsOk
        simp only [Piece.enc_eta, hP, hb, Option.bind_some, asBool_bool, Bool.not_true, br_false', List.length_map, hlen, decide_true]
        rw [h0]
        cases chkAll p.inn S 0 p.regs.toNat with
        | false => rfl
        | true =>
          simp only [cond_true, Option.bind_some, loK_out, beq_self_eq_true, br_true', Piece.enc_eta, hCl, hcc, asBool_bool, Bool.true_and]
      · have h0 := os_loop0 F hS (clashT p G) p.regs.toNat 0 (by omega)
        simp only [Int.cast_ofNat_Int] at h0
        rw [Piece.enc_def]
        apply go_s_SlotsOk
        unfold nf_s_SlotsOk
        simp only [Piece.enc_eta, hP2, hb, Option.bind_some, asBool_bool, Bool.not_true, br_false', List.length_map, hlen, decide_true, hT, asSl_sl]
        rw [h0]
        cases okAll p.inn (clashT p G) S 0 p.regs.toNat <;> rfl
    · refine ⟨false, ?_, ?_⟩
      · rw [Piece.enc_def]
        apply go_i_SlotsOk
        unfold nf_i_SlotsOk
        simp only [Piece.enc_eta, hP, hb, Option.bind_some, asBool_bool, Bool.not_true, br_false', List.length_map, decide_eq_false hlen, Bool.not_false, br_true']
      · rw [Piece.enc_def]
        apply go_s_SlotsOk
        unfold nf_s_SlotsOk
        simp only [Piece.enc_eta, hP2, hb, Option.bind_some, asBool_bool, Bool.not_true, br_false', List.length_map, decide_eq_false hlen, Bool.not_false, br_true']
end Go.Proofs.Ytmjjaoffeajcbaa.Abs

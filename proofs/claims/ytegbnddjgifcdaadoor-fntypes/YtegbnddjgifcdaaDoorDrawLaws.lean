/- Draws: the cursor, and types. -/
import Derived.Test.YtegbnddjgifcdaaDoorTyOwn
import Derived.Test.YtegbnddjgifcdaaDoorTyLaws
set_option linter.unusedVariables false
set_option linter.unusedSimpArgs false
set_option maxRecDepth 100000
namespace Go.Proofs.YtegbnddjgifcdaaDoor.Abs
open Go Go.Proofs
open Classical

theorem and255 (x : Int) : ∃ n : Nat, n ≤ 255 ∧ bAnd .i64 x 255 = (n : Int) := by
  unfold bAnd
  have h1 : (BitVec.ofInt IntKind.i64.bits x &&& BitVec.ofInt IntKind.i64.bits 255).toNat ≤ 255 := by
    rw [BitVec.toNat_and]
    exact Nat.le_trans Nat.and_le_right (by decide)
  exact ⟨_, h1, by rw [wrap_i64 (by omega) (by omega)]⟩

/-- A cursor. -/
def cur (b : List UInt8) (i h : Int) : PB := .box [.v (.sl (bytesC b)), .v (.int .i64 i), .v (.int .i64 h)]
def curL (b : List UInt8) (i h : Int) : List CVal := [.sl (bytesC b), .int .i64 i, .int .i64 h]
/-- A call that draws hands back something so, and the cursor further on. -/
def Draws (b : List UInt8) (f : FuncId) (args : List AVal) (p : CVal → Prop) : Prop :=
  ∀ i h : Int, 0 ≤ i → i ≤ b.length → ∃ (c : CVal) (i' h' : Int), p c ∧ 0 ≤ i' ∧ i' ≤ b.length ∧ CC f (.lptr 0 0 :: args) [cur b i h] = some (c, [curL b i' h'])
theorem l1Byte_law {b : List UInt8} (hb : b.length ≤ 1048576) : Draws b f_s_l1Byte [] fun c => ∃ x : Nat, x ≤ 255 ∧ c = .int .i64 x := by
  intro i h h0 h1
  have hlen : (bytesC b).length = b.length := by simp [bytesC]
  by_cases hi : i < (b.length : Int)
  · have hlt : i.toNat < b.length := by omega
    have hget : (bytesC b)[i.toNat]? = some (.int .u8 (b[i.toNat].toNat)) := by simp [bytesC, hlt]
    have hw : IntKind.i64.wrap (i + 1) = i + 1 := by rw [wrap_i64] <;> omega
    obtain ⟨n, hn, e⟩ := and255 (IntKind.i64.wrap (bAnd .i64 (bXor .i64 ((IntKind.i64.wrap (IntKind.i64.wrap (h * 6364136223846793005) + 1442695040888963407)).fdiv 8589934592) ((IntKind.i64.wrap (IntKind.i64.wrap (h * 6364136223846793005) + 1442695040888963407)).fdiv 140737488355328)) 255 + IntKind.i64.wrap (b[i.toNat].toNat : Int)))
    refine ⟨_, i + 1, IntKind.i64.wrap (IntKind.i64.wrap (h * 6364136223846793005) + 1442695040888963407), ⟨n, hn, rfl⟩, by omega, by omega, ?_⟩
    apply go_s_l1Byte
    unfold nf_s_l1Byte
    have d1 : decide (i < ((bytesC b).length : Int)) = true := decide_eq_true (by rw [hlen]; exact hi)
    have d2 : decide ((0 : Int) ≤ i) = true := decide_eq_true h0
    simp only [d1, d2, hget, Bool.and_true, br_true', Option.bind_some, fits_int, cell_int, asInt_int, e, hw]
    rfl
  · obtain ⟨n, hn, e⟩ := and255 (bXor .i64 ((IntKind.i64.wrap (IntKind.i64.wrap (h * 6364136223846793005) + 1442695040888963407)).fdiv 8589934592) ((IntKind.i64.wrap (IntKind.i64.wrap (h * 6364136223846793005) + 1442695040888963407)).fdiv 140737488355328))
    refine ⟨_, i, IntKind.i64.wrap (IntKind.i64.wrap (h * 6364136223846793005) + 1442695040888963407), ⟨n, hn, rfl⟩, h0, h1, ?_⟩
    apply go_s_l1Byte
    unfold nf_s_l1Byte
    have d1 : decide (i < ((bytesC b).length : Int)) = false := decide_eq_false (by rw [hlen]; exact hi)
    simp only [d1, br_false', e]
    rfl
theorem l1Below_law {b : List UInt8} (hb : b.length ≤ 1048576) {n : Int} (h0 : 0 < n) (h1 : n ≤ 1048576) : Draws b f_s_l1Below [.v (.int .i64 n)] fun c => ∃ x : Nat, (x : Int) < n ∧ c = .int .i64 x := by
  intro i h hi0 hi1
  have d0 : ¬ n ≤ 0 := by omega
  have d3 : ¬ n = 0 := by omega
  obtain ⟨_, i1, g1, ⟨x1, hx1, rfl⟩, a1, b1, e1⟩ := l1Byte_law hb i h hi0 hi1
  by_cases h256 : n ≤ 256
  · refine ⟨_, i1, g1, ⟨x1 % n.toNat, ?_, rfl⟩, a1, b1, ?_⟩
    · have := Nat.mod_lt x1 (show 0 < n.toNat by omega)
      omega
    · apply go_s_l1Below
      unfold nf_s_l1Below
      have et : (x1 : Int).tmod n = ((x1 % n.toNat : Nat) : Int) := by
        rw [Int.tmod_eq_emod_of_nonneg (by omega)]
        rw [Int.natCast_emod, Int.toNat_of_nonneg (by omega)]
      unfold cur at e1
      simp only [d0, h256, d3, decide_false, decide_true, br_false', br_true', e1, Option.bind_some, List.getElem?_cons_zero, List.getElem?_cons_succ, curL, asInt_int, et]
  · obtain ⟨_, i2, g2, ⟨x2, hx2, rfl⟩, a2, b2, e2⟩ := l1Byte_law hb i1 g1 a1 b1
    obtain ⟨_, i3, g3, ⟨x3, hx3, rfl⟩, a3, b3, e3⟩ := l1Byte_law hb i2 g2 a2 b2
    have w1 : IntKind.i64.wrap ((x1 : Int) * 65536) = (x1 : Int) * 65536 := by rw [wrap_i64] <;> omega
    have w2 : IntKind.i64.wrap ((x2 : Int) * 256) = (x2 : Int) * 256 := by rw [wrap_i64] <;> omega
    have w3 : IntKind.i64.wrap ((x1 : Int) * 65536 + (x2 : Int) * 256) = (x1 : Int) * 65536 + (x2 : Int) * 256 := by rw [wrap_i64] <;> omega
    have w4 : IntKind.i64.wrap ((x1 : Int) * 65536 + (x2 : Int) * 256 + x3) = ((x1 * 65536 + x2 * 256 + x3 : Nat) : Int) := by rw [wrap_i64] <;> omega
    refine ⟨_, i3, g3, ⟨(x1 * 65536 + x2 * 256 + x3) % n.toNat, ?_, rfl⟩, a3, b3, ?_⟩
    · have := Nat.mod_lt (x1 * 65536 + x2 * 256 + x3) (show 0 < n.toNat by omega)
      omega
    · apply go_s_l1Below
      unfold nf_s_l1Below
      have et : ((x1 * 65536 + x2 * 256 + x3 : Nat) : Int).tmod n = (((x1 * 65536 + x2 * 256 + x3) % n.toNat : Nat) : Int) := by
        rw [Int.tmod_eq_emod_of_nonneg (by omega)]
        rw [Int.natCast_emod, Int.toNat_of_nonneg (by omega)]
      unfold cur at e1 e2 e3
      simp only [d0, h256, d3, decide_false, br_false', e1, e2, e3, Option.bind_some, List.getElem?_cons_zero, List.getElem?_cons_succ, curL, asInt_int, w1, w2, w3, w4, et]
theorem l1Int_law {b : List UInt8} (hb : b.length ≤ 1048576) {l : List Int} (hl : 0 < l.length) (hl2 : l.length ≤ 1048576) : Draws b f_s_l1Int [.v (.sl (l.map (.int .i64)))] fun c => ∃ x ∈ l, c = .int .i64 x := by
  intro i h hi0 hi1
  obtain ⟨_, i1, g1, ⟨x, hx, rfl⟩, a1, b1, e1⟩ := l1Below_law hb (n := l.length) (by omega) (by omega) i h hi0 hi1
  have hlt : x < l.length := by omega
  refine ⟨_, i1, g1, ⟨l[x], List.getElem_mem hlt, rfl⟩, a1, b1, ?_⟩
  apply go_s_l1Int
  unfold nf_s_l1Int
  have hget : (l.map (CVal.int .i64))[((x : Nat) : Int).toNat]? = some (.int .i64 l[x]) := by simp [hlt]
  have d2 : decide ((0 : Int) ≤ (x : Int)) = true := decide_eq_true (by omega)
  unfold cur at e1
  simp only [List.length_map, e1, Option.bind_some, List.getElem?_cons_zero, List.getElem?_cons_succ, curL, asIdx_int, d2, Bool.and_true, br_true', hget, fits_int, cell_int]
theorem l1Once_law {b : List UInt8} (hb : b.length ≤ 1048576) {n : Int} (h0 : 0 < n) (h1 : n ≤ 1048576) : Draws b f_s_l1Once [.v (.int .i64 n)] fun c => ∃ x : Bool, c = .bool x := by
  intro i h hi0 hi1
  obtain ⟨_, i1, g1, ⟨x, hx, rfl⟩, a1, b1, e1⟩ := l1Below_law hb h0 h1 i h hi0 hi1
  refine ⟨_, i1, g1, ⟨decide ((x : Int) = 0), rfl⟩, a1, b1, ?_⟩
  apply go_s_l1Once
  unfold nf_s_l1Once
  unfold cur at e1
  simp only [e1, Option.bind_some, List.getElem?_cons_zero, List.getElem?_cons_succ, curL, asInt_int]
end Go.Proofs.YtegbnddjgifcdaaDoor.Abs

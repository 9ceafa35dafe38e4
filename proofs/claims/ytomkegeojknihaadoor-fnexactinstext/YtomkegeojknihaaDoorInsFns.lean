/- Ins: what is made of it, and its size. -/
import Derived.Test.YtomkegeojknihaaDoorDataIns
import Derived.Test.YtomkegeojknihaaDoorV1Eqs
import Derived.Test.YtomkegeojknihaaDoorIntsFns
set_option linter.unusedVariables false
set_option linter.unusedSectionVars false
set_option linter.unusedSimpArgs false
namespace Go.Proofs.YtomkegeojknihaaDoor.Abs
open Go Go.Proofs

def SzIns (t : Ins) : Prop := ∀ l : Int, 0 ≤ l → l ≤ 1048576 → CC f_l_szIns [.v t.enc, .v (.int .i64 l)] [] = some (.int .i64 (left l t.sz), [])
theorem szIns_law : ∀ t : Ins, t.wt → SzIns t := fun t hw l h0 h1 => by
  have hw := (Ins.wt_def t).1 hw
  have hsz := Ins.sz_def t
  rw [Ins.enc_def]
  apply go_l_szIns
  unfold nf_l_szIns
  have c0 := szIntS_law (hw.2.2.2.2.2.1).1 (l) (by omega) (by omega)
  simp only [c0, Option.bind_some, asInt_int]
  by_cases g0 : l < ((t.l.length : Nat) : Int)
  · rw [show decide (left (l) t.l.length < 0) = true from decide_eq_true ((left_neg (by omega)).2 g0), br_true']
    have : left l t.sz = -1 := by unfold left; rw [if_pos (by omega)]
    rw [this]
  rw [show decide (left (l) t.l.length < 0) = false from decide_eq_false (fun hc => g0 ((left_neg (by omega)).1 hc)), br_false', left_ok g0]
  have : left l t.sz = (l - ((t.l.length : Nat) : Int)) := by unfold left; rw [if_neg (by omega)]; omega
  rw [this]
theorem toIns_law : ∀ t : Ins, t.ok → CC f_l_toIns [.v t.enc] [] = some (t.enc, []) := fun t hok => by
  have h0 := toIntS_law hok.l_len
  rw [Ins.enc_def]
  apply go_l_toIns
  unfold nf_l_toIns
  simp only [h0, Option.bind_some, isFlat_sl, Bool.and_true, br_true']
theorem eqIns_law : ∀ t : Ins, t.ok → CC f_l_eqIns [.v t.enc, .v t.enc] [] = some (.bool true, []) := fun t hok => by
  have h0 := eqIntS_law hok.l_len
  rw [Ins.enc_def]
  apply go_l_eqIns
  unfold nf_l_eqIns
  simp only [h0, Option.bind_some, decide_true, Bool.not_true, br_false', br_true', asBool_bool]
end Go.Proofs.YtomkegeojknihaaDoor.Abs

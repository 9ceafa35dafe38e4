/- A part. -/
import Derived.Test.YtegbnddjgifcdaaGreatDoorInLaws
import Derived.Lib.ItoaLen
set_option linter.unusedVariables false
set_option linter.unusedSectionVars false
set_option linter.unusedSimpArgs false
namespace Go.Proofs.YtegbnddjgifcdaaGreatDoor.Abs
open Go Go.Proofs
theorem digit_wrap (a:Int) (h0:0 ≤ a) (h1:a < 10):UInt8.ofNat (IntKind.u8.wrap (IntKind.i64.wrap ((48:Int) + a))).toNat=UInt8.ofNat (48 + a.toNat):=by
 have h:a=0∨a=1∨a=2∨a=3∨a=4∨a=5∨a=6∨a=7∨a=8∨a=9:=by omega
 rcases h with rfl | rfl | rfl | rfl | rfl | rfl | rfl | rfl | rfl | rfl<;>rfl
theorem decDigits_len (u:Nat) (h:u ≤ 9223372036854775808):(Lib.decDigits u).length ≤ 20:=by
 rw [Lib.decDigits_length];exact Lib.nDigits_le20 u (by omega)
theorem decDigits_step (u:Nat) (h:¬ u < 10):Lib.decDigits u=Lib.decDigits (u / 10) ++ [UInt8.ofNat (48 + u % 10)]:=by
 rw [Lib.decDigits,dif_neg h]
theorem l2Int_nat:∀ (k n:Nat),n < k→n ≤ 9223372036854775807→CC f_s_l2Int [.v (.int .i64 n)] []=some (.str (Lib.decDigits n),[])
 |0,n,h,_=>by omega
 |k + 1,n,h,hn=>by
  apply go_s_l2Int
  unfold nf_s_l2Int
  have h0:¬ (n:Int) < 0:=by omega
  rw [decide_eq_false h0,br_false']
  by_cases h10:n < 10
  ·rw [decide_eq_true (show (n:Int) < 10 by omega),br_true',digit_wrap n (by omega) (by omega),Lib.decDigits_one h10]
   rfl
  ·have ih:=l2Int_nat k (n / 10) (by omega) (by omega)
   have hw:IntKind.i64.wrap ((n:Int).tdiv 10)=((n / 10:Nat):Int):=by
    rw [show (n:Int).tdiv 10=((n / 10:Nat):Int) from rfl,wrap_i64]<;>omega
   have hm:(n:Int).tmod 10=((n % 10:Nat):Int):=rfl
   have hl:=decDigits_len (n / 10) (by omega)
   rw [decide_eq_false (show ¬ (n:Int) < 10 by omega),br_false',hw,ih]
   simp only [Option.bind_some,asStr_str]
   rw [decide_eq_true (show (Lib.decDigits (n / 10)).length + 1 ≤ 1152921504606846976 by omega),br_true',hm,digit_wrap _ (by omega) (by omega),decDigits_step n h10]
   rfl
theorem l2Int_law (n:Int) (h0 : -9223372036854775807 ≤ n) (h1:n ≤ 9223372036854775807):CC f_s_l2Int [.v (.int .i64 n)] []=some (.str (Lib.itoa n),[]):=by
 by_cases hn:n < 0
 ·have h:=l2Int_nat (n.natAbs + 1) n.natAbs (by omega) (by omega)
  have hw:IntKind.i64.wrap (0 - n)=(n.natAbs:Int):=by rw [wrap_i64]<;>omega
  have hl:=decDigits_len n.natAbs (by omega)
  apply go_s_l2Int
  unfold nf_s_l2Int
  rw [decide_eq_true hn,br_true',hw,h]
  simp only [Option.bind_some,asStr_str]
  rw [decide_eq_true (show 1 + (Lib.decDigits n.natAbs).length ≤ 1152921504606846976 by omega),br_true']
  unfold Lib.itoa
  rw [if_pos hn];rfl
 ·have h:=l2Int_nat (n.toNat + 1) n.toNat (by omega) (by omega)
  rw [Int.toNat_of_nonneg (by omega)] at h
  rw [h]
  unfold Lib.itoa
  rw [if_neg hn]
theorem itoa_len (n:Int) (h:i64 n):(Lib.itoa n).length ≤ 21:=by
 unfold i64 at h
 exact Lib.itoa_length_le n (by omega) (by omega)
end Go.Proofs.YtegbnddjgifcdaaGreatDoor.Abs

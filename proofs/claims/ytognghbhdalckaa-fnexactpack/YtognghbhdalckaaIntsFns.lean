/- A part. -/
import Derived.Test.YtognghbhdalckaaData
import Derived.Test.YtognghbhdalckaaK1Eqs
set_option linter.unusedVariables false
set_option linter.unusedSectionVars false
set_option linter.unusedSimpArgs false
namespace Go.Proofs.Ytognghbhdalckaa.Abs
open Go Go.Proofs
theorem szIntS_law {l:List Int} (hl:l.length ≤ maxLen) (n:Int) (h0:0 ≤ n) (h1:n ≤ 1048576):CC f_l_szIntS [.v (.sl (l.map (.int .i64))),.v (.int .i64 n)] []=some (.int .i64 (left n l.length),[]):=by
 have hw:IntKind.i64.wrap (n - ((l.map (CVal.int .i64)).length:Int))=n - (l.length:Int):=by
  unfold maxLen at hl
  rw [List.length_map,wrap_i64]<;>omega
 apply go_l_szIntS
 unfold nf_l_szIntS left
 rw [hw,br_decide]
 by_cases h:n < (l.length:Int)
 ·rw [if_pos h,if_pos (by omega)]
 ·rw [if_neg h,if_neg (by omega)]
theorem toIntS_loop:∀ (suf pre:List Int) (zs:List CVal),(pre ++ suf).length ≤ 1048576→zs.length=suf.length→(∀ z ∈ zs,z.isFlat=true)→
  LL f_l_toIntS 0 lc_l_toIntS_0 [] k_l_toIntS_0 (((pre ++ suf).map (.int .i64),(),(pre.length:Int),()),pre.map (.int .i64) ++ zs,()) =
   some (.out 0 (((pre ++ suf).map (.int .i64),(),((pre ++ suf).length:Int),()),(pre ++ suf).map (.int .i64),()))
 |[],pre,zs,hl,hz,hs=>by
  apply gl_l_toIntS_0
  unfold nl_l_toIntS_0
  rw [lt_end]
  have:zs=[]:=List.eq_nil_of_length_eq_zero (by simpa using hz)
  subst this
  simp
 |t :: suf,pre,[],hl,hz,hs=>by simp at hz
 |t :: suf,pre,z :: zs,hl,hz,hs=>by
  apply gl_l_toIntS_0
  unfold nl_l_toIntS_0
  have hz0:=hs z (by simp)
  have e1:(pre.map (CVal.int .i64) ++ z :: zs)[((pre.length:Nat):Int).toNat]? = some z:=by simp
  have e2:(pre.map (CVal.int .i64) ++ z :: zs).set ((pre.length:Nat):Int).toNat (.int .i64 t)=(pre ++ [t]).map (CVal.int .i64) ++ zs:=by
   simp [List.set_append]
  have e3:decide (((pre.length:Nat):Int).toNat < (pre.map (CVal.int .i64) ++ z :: zs).length)=true:=by simp
  have ih:=toIntS_loop suf (pre ++ [t]) zs (by simpa using hl) (by simpa using hz) (fun z hz=>hs z (by simp [hz]))
  simp only [List.append_assoc,List.singleton_append] at ih
  rw [lt_mid,nn_mid,get_mid,wrap_mid pre suf t hl,e1,e3]
  simp only [br_true',Option.bind_some,isFlat_int,fits_flat,fits_int,cell_int,Bool.and_true,hz0,asInt_int]
  rw [e2]
  exact ih
theorem toIntS_law {l:List Int} (hl:l.length ≤ 1048576):CC f_l_toIntS [.v (.sl (l.map (.int .i64)))] []=some (.sl (l.map (.int .i64)),[]):=by
 apply go_l_toIntS
 unfold nf_l_toIntS
 have hloop:=toIntS_loop l [] (List.replicate l.length (.int .i64 0)) (by simpa using hl) (by simp) (fun z hz=>by rw [List.eq_of_mem_replicate hz];rfl)
 simp only [List.nil_append,List.length_nil,List.map_nil,Int.cast_ofNat_Int] at hloop
 simp only [List.length_map,Int.toNat_natCast,hloop,decide_true,Bool.true_and,show decide ((l.length:Int) ≤ 1048576)=true by simpa using (by omega),br_true',Option.bind_some,loK_out]
 rfl
theorem eqIntS_loop:∀ (suf pre:List Int),(pre ++ suf).length ≤ 1048576→
  LL f_l_eqIntS 0 lc_l_eqIntS_0 [] k_l_eqIntS_0 (((pre ++ suf).map (.int .i64),(pre ++ suf).map (.int .i64),(pre.length:Int),()),()) =
   some (.out 0 (((pre ++ suf).map (.int .i64),(pre ++ suf).map (.int .i64),((pre ++ suf).length:Int),()),()))
 |[],pre,hl=>by
  apply gl_l_eqIntS_0
  unfold nl_l_eqIntS_0
  rw [lt_end]
  simp
 |t :: suf,pre,hl=>by
  apply gl_l_eqIntS_0
  unfold nl_l_eqIntS_0
  have ih:=eqIntS_loop suf (pre ++ [t]) (by simpa using hl)
  simp only [List.append_assoc,List.singleton_append] at ih
  rw [lt_mid,nn_mid,get_mid,wrap_mid pre suf t hl]
  simp only [br_true',Option.bind_some,isFlat_int,fits_flat,fits_int,cell_int,asInt_int,decide_true,Bool.not_true,br_false']
  exact ih
theorem eqIntS_law {l:List Int} (hl:l.length ≤ 1048576):CC f_l_eqIntS [.v (.sl (l.map (.int .i64))),.v (.sl (l.map (.int .i64)))] []=some (.bool true,[]):=by
 apply go_l_eqIntS
 unfold nf_l_eqIntS
 have hloop:=eqIntS_loop l [] (by simpa using hl)
 simp only [List.nil_append,List.length_nil,Int.cast_ofNat_Int] at hloop
 simp only [hloop,decide_true,Bool.not_true,br_false',Option.bind_some,loK_out]
 rfl
end Go.Proofs.Ytognghbhdalckaa.Abs

/- A part. -/
import Derived.Test.YtognghbhdalckaaWanted
import Derived.Test.YtognghbhdalckaaWantS
import Derived.Test.YtognghbhdalckaaIntSS
set_option linter.unusedVariables false
set_option linter.unusedSimpArgs false
set_option linter.unusedSectionVars false
set_option maxRecDepth 100000
namespace Go.Proofs.Ytognghbhdalckaa.Abs
open Go Go.Proofs
def thingsFrom (g:Nat→Bool):Nat→Nat→List Int
 |_,0=>[]
 |r,d + 1=>(if g r=true then [(r:Int)] else []) ++ thingsFrom g (r + 1) d
theorem things_len {g:Nat→Bool}:∀ {d r:Nat},(thingsFrom g r d).length ≤ d
 |0,_=>Nat.le_refl _
 |d + 1,r=>by
  have:=things_len (g:=g) (d:=d) (r:=r + 1)
  unfold thingsFrom
  rw [List.length_append]
  split<;>simp<;>omega
theorem things_mem {g:Nat→Bool} {x:Int}:∀ {d r:Nat},x ∈ thingsFrom g r d↔∃ k:Nat,x=(k:Int)∧r ≤ k∧k < r + d∧g k=true
 |0,r=>by
  simp only [thingsFrom,List.not_mem_nil,false_iff]
  rintro ⟨k,_,h1,h2,_⟩;omega
 |d + 1,r=>by
  unfold thingsFrom
  rw [List.mem_append,things_mem (d:=d) (r:=r + 1)]
  constructor
  ·rintro (h | ⟨k,h1,h2,h3,h4⟩)
   ·split at h
    ·rename_i hg
     simp at h
     exact ⟨r,h,Nat.le_refl _,by omega,hg⟩
    ·cases h
   ·exact ⟨k,h1,by omega,by omega,h4⟩
  ·rintro ⟨k,h1,h2,h3,h4⟩
   by_cases e:k=r
   ·subst e
    exact .inl (by rw [if_pos h4];simp [h1])
   ·exact .inr ⟨k,h1,by omega,by omega,h4⟩
theorem things_congr {g h:Nat→Bool}:∀ {d r:Nat},(∀ k,r ≤ k→k < r + d→g k=h k)→thingsFrom g r d=thingsFrom h r d
 |0,_,_=>rfl
 |d + 1,r,e=>by
  unfold thingsFrom
  rw [e r (by omega) (by omega),things_congr (d:=d) (r:=r + 1) fun k h1 h2=>e k (by omega) (by omega)]
theorem things_loop (R:Nat) (hR:R ≤ 1048576) (g:Nat→Bool):∀ (d r:Nat) (acc:List Int),r + d=R→acc.length ≤ r→
  LL f_i_things 0 lc_i_things_0 [] k_i_things_0 (((),rowL R g,(R:Int),(r:Int),()),acc.map (.int .i64),()) =
   some (.out 0 (((),rowL R g,(R:Int),(R:Int),()),(acc ++ thingsFrom g r d).map (.int .i64),()))
 |0,r,acc,h,ha=>by
  have e:r=R:=by omega
  subst e
  apply gl_i_things_0
  unfold nl_i_things_0
  simp [thingsFrom]
 |d + 1,r,acc,h,ha=>by
  have hr:r < R:=by omega
  have hw:=wrap_succ (i:=r) (by omega)
  have hlt:decide ((r:Int) < (R:Int))=true:=decide_eq_true (by omega)
  have tr:((r:Nat):Int).toNat=r:=by simp
  have b2:(decide ((acc.map (CVal.int .i64)).length + 1 ≤ 4294967296) && true && true)=true:=by
   rw [decide_eq_true (by rw [List.length_map];omega)];rfl
  apply gl_i_things_0
  unfold nl_i_things_0
  simp only [hlt,br_true',ge0,tr,rowL_get hr,Option.bind_some,fits_bool,cell_bool,asBool_bool,hw,b2,thingsFrom]
  cases hg:g r with
  |true=>
   have ih:=things_loop R hR g d (r + 1) (acc ++ [(r:Int)]) (by omega) (by simp;omega)
   rw [show (((r + 1:Nat)):Int)=(r:Int) + 1 by omega] at ih
   simp only [List.map_append,List.map_cons,List.map_nil,List.append_assoc] at ih
   simp only [br_true',if_true,List.map_append,List.map_cons,List.map_nil]
   exact ih
  |false=>
   have ih:=things_loop R hR g d (r + 1) acc (by omega) (by omega)
   rw [show (((r + 1:Nat)):Int)=(r:Int) + 1 by omega] at ih
   simp only [br_false',Bool.false_eq_true,if_false,List.nil_append]
   exact ih
theorem things_law {R:Nat} (hR:R ≤ 1048576) (g:Nat→Bool):CC f_i_things [.v (.sl (rowL R g))] []=some (ei (thingsFrom g 0 R),[]):=by
 have hloop:=things_loop R hR g R 0 [] (by omega) (Nat.le_refl _)
 simp only [Int.cast_ofNat_Int,List.map_nil,List.nil_append] at hloop
 apply go_i_things
 unfold nf_i_things
 simp only [rowL_len]
 rw [hloop]
 rfl
end Go.Proofs.Ytognghbhdalckaa.Abs

/- A part. -/
import Derived.Test.YtognghbhdalckaaData
import Derived.Test.YtognghbhdalckaaK1Eqs
set_option linter.unusedVariables false
set_option linter.unusedSimpArgs false
set_option maxRecDepth 100000
namespace Go.Proofs.Ytognghbhdalckaa.Abs
open Go Go.Proofs
def markIL:Nat→Int→List Int
 |0,_=>[]
 |n + 1,k=>k :: markIL n (k + 1)
@[simp] theorem markIL_len:∀ (n:Nat) (k:Int),(markIL n k).length=n
 |0,_=>rfl
 |n + 1,k=>by simp [markIL,markIL_len n]
theorem markIntS_loop:∀ (suf:List Int) (done:List CVal) (k:Int),done.length + suf.length ≤ 100000000→0 ≤ k→k + suf.length ≤ 1000000000→
  LL f_l_markIntS 0 lc_l_markIntS_0 [PSh.arr ⟨true,true,0⟩ false 1] k_l_markIntS_0 (((),k,(done.length:Int),()),done ++ suf.map (.int .i64),()) =
   some (.out 0 (((),k + suf.length,((done.length + suf.length:Nat):Int),()),done ++ (markIL suf.length k).map (.int .i64),()))
 |[],done,k,hl,h0,hb=>by
  apply gl_l_markIntS_0
  unfold nl_l_markIntS_0
  simp [markIL]
 |s :: suf,done,k,hl,h0,hb=>by
  simp only [List.length_cons] at hl hb
  apply gl_l_markIntS_0
  unfold nl_l_markIntS_0
  have w1:IntKind.i64.wrap (k + 1)=k + 1:=by rw [wrap_i64]<;>omega
  have w3:IntKind.i64.wrap ((done.length:Int) + 1)=((done ++ [CVal.int .i64 k]).length:Int):=by rw [wrap_i64 (by omega) (by omega)];simp
  have ih:=markIntS_loop suf (done ++ [.int .i64 k]) (k + 1) (by simp;omega) (by omega) (by omega)
  simp only [List.append_assoc,List.singleton_append] at ih
  have e0:((done.length:Nat):Int).toNat=done.length:=by simp
  rw [List.map_cons,lti_done]
  simp only [nn_mid,br_true',e0]
  rw [lt_done,get_done]
  simp only [Option.bind_some,Bool.and_true,br_true',fits_int,set_done,w1,w3]
  rw [ih]
  simp only [List.length_append,List.length_cons,List.length_nil,markIL,List.map_cons]
  have e5:k + 1 + (suf.length:Int)=k + ((suf.length + 1:Nat):Int):=by omega
  have e7:done.length + (0 + 1) + suf.length=done.length + (suf.length + 1):=by omega
  rw [e5,e7]
theorem markIntS_law {l:List Int} (hl:l.length ≤ 100000000) (k:Int) (h0:0 ≤ k) (hb:k + l.length ≤ 1000000000) :
  CC f_l_markIntS [.lref 0 0,.v (.int .i64 k)] [PB.arr ⟨true,true,0⟩ false 1 (l.map (.int .i64))]=some (.int .i64 (k + l.length),[(markIL l.length k).map (.int .i64)]):=by
 have hloop:=markIntS_loop l [] k (by simpa using hl) h0 hb
 simp only [List.nil_append,List.length_nil,Int.cast_ofNat_Int] at hloop
 apply go_l_markIntS
 unfold nf_l_markIntS
 rw [hloop]
 rfl
theorem heldIntS_loop:∀ (n:Nat) (done:List CVal) (k:Int),done.length + n ≤ 100000000→0 ≤ k→k + n ≤ 1000000000→
  ∃ q,LL f_l_heldIntS 0 lc_l_heldIntS_0 [] k_l_heldIntS_0 ((done ++ (markIL n k).map (.int .i64),k,(done.length:Int),()),()) =
   some (.out 0 ((q,k + n,((done.length + n:Nat):Int),()),()))
 |0,done,k,hl,h0,hb=>by
  refine ⟨_,gl_l_heldIntS_0 _ _ _ _ (by unfold nl_l_heldIntS_0;simp [markIL];rfl)⟩
 |n + 1,done,k,hl,h0,hb=>by
  have w1:IntKind.i64.wrap (k + 1)=k + 1:=by rw [wrap_i64]<;>omega
  have w3:IntKind.i64.wrap ((done.length:Int) + 1)=((done ++ [CVal.int .i64 k]).length:Int):=by rw [wrap_i64 (by omega) (by omega)];simp
  obtain ⟨q,ih⟩:=heldIntS_loop n (done ++ [.int .i64 k]) (k + 1) (by simp;omega) (by omega) (by omega)
  simp only [List.append_assoc,List.singleton_append] at ih
  have e0:((done.length:Nat):Int).toNat=done.length:=by simp
  refine ⟨q,gl_l_heldIntS_0 _ _ _ _ ?_⟩
  unfold nl_l_heldIntS_0
  rw [show (markIL (n + 1) k).map (CVal.int .i64)=.int .i64 k :: (markIL n (k + 1)).map (.int .i64) from rfl,lti_done]
  simp only [nn_mid,br_true',e0]
  rw [get_done]
  simp only [Option.bind_some,fits_int,cell_int,br_true',asInt_int,decide_true,Bool.not_true,br_false',w1,w3]
  rw [ih]
  simp only [List.length_append,List.length_cons,List.length_nil]
  have e5:k + 1 + (n:Int)=k + ((n + 1:Nat):Int):=by omega
  have e7:done.length + (0 + 1) + n=done.length + (n + 1):=by omega
  rw [e5,e7]
theorem heldIntS_law (n:Nat) (hl:n ≤ 100000000) (k:Int) (h0:0 ≤ k) (hb:k + n ≤ 1000000000) :
  CC f_l_heldIntS [.v (.sl ((markIL n k).map (.int .i64))),.v (.int .i64 k)] []=some (.int .i64 (k + n),[]):=by
 obtain ⟨q,hloop⟩:=heldIntS_loop n [] k (by simpa using hl) h0 hb
 simp only [List.nil_append,List.length_nil,Int.cast_ofNat_Int] at hloop
 apply go_l_heldIntS
 unfold nf_l_heldIntS
 rw [hloop]
 rfl
end Go.Proofs.Ytognghbhdalckaa.Abs

/- A part. -/
import Derived.Test.YtognghbhdalckaaData
import Derived.Test.YtognghbhdalckaaK1Eqs
set_option linter.unusedVariables false
set_option linter.unusedSectionVars false
set_option linter.unusedSimpArgs false
namespace Go.Proofs.Ytognghbhdalckaa.Abs
open Go Go.Proofs
def hasB (s:List UInt8) (b:Int):Bool:=s.any fun c=>decide (b=(c.toNat:Int))
def byteV (c:UInt8):CVal:=.int .u8 c.toNat
theorem bytesC_eq (s:List UInt8):bytesC s=s.map byteV:=rfl
theorem indexB_loop {b:Int}:∀ (suf pre:List UInt8),(pre ++ suf).length ≤ 1048576→
  ∃ r:LO k_slices_Index_byte_0.T,LL f_slices_Index_byte 0 lc_slices_Index_byte_0 [] k_slices_Index_byte_0 (((pre ++ suf).map byteV,b,((pre ++ suf).length:Int),(pre.length:Int),()),())=some r∧
   ((hasB suf b=true∧∃ i:Int,0 ≤ i∧r=.ret (.int .i64 i,[]))∨(hasB suf b=false∧∃ p,r=.out 0 p))
 |[],pre,hl=>by
  refine ⟨_,gl_slices_Index_byte_0 _ _ _ _ _ (by unfold nl_slices_Index_byte_0;rw [lt_end'];rfl),.inr ⟨rfl,_,rfl⟩⟩
 |c :: suf,pre,hl=>by
  obtain ⟨r,ih,hr⟩:=indexB_loop (b:=b) suf (pre ++ [c]) (by simpa using hl)
  simp only [List.append_assoc,List.singleton_append] at ih
  by_cases hb:b=(c.toNat:Int)
  ·refine ⟨.ret (.int .i64 pre.length,[]),gl_slices_Index_byte_0 _ _ _ _ _ ?_,.inl ⟨by simp [hasB,hb],_,by omega,rfl⟩⟩
   unfold nl_slices_Index_byte_0
   rw [lt_mid',nn_mid,get_mid]
   simp only [br_true',Option.bind_some,byteV,fits_int,cell_int,asInt_int,decide_eq_true hb]
  ·refine ⟨r,gl_slices_Index_byte_0 _ _ _ _ _ ?_,?_⟩
   ·unfold nl_slices_Index_byte_0
    rw [lt_mid',nn_mid,get_mid,wrap_mid pre suf c hl]
    simp only [br_true',Option.bind_some,byteV,fits_int,cell_int,asInt_int,decide_eq_false hb,br_false']
    exact ih
   ·have e:hasB (c :: suf) b=hasB suf b:=by simp [hasB,hb]
    rw [e];exact hr
theorem containsB_law {s:List UInt8} {b:Int} (hl:s.length ≤ 1048576):CC f_slices_Contains_byte [.v (.sl (bytesC s)),.v (.int .u8 b)] []=some (.bool (hasB s b),[]):=by
 obtain ⟨r,hloop,hr⟩:=indexB_loop (b:=b) s [] (by simpa using hl)
 simp only [List.nil_append,List.length_nil,Int.cast_ofNat_Int] at hloop
 have h:∃ i:Int,CC f_slices_Index_byte [.v (.sl (bytesC s)),.v (.int .u8 b)] []=some (.int .i64 i,[])∧decide (0 ≤ i)=hasB s b:=by
  rcases hr with ⟨h1,i,hi,rfl⟩ | ⟨h1,p,rfl⟩
  ·refine ⟨i,go_slices_Index_byte _ _ _ ?_,by rw [h1];exact decide_eq_true hi⟩
   unfold nf_slices_Index_byte
   rw [bytesC_eq,List.length_map,hloop];rfl
  ·refine ⟨-1,go_slices_Index_byte _ _ _ ?_,by rw [h1];rfl⟩
   unfold nf_slices_Index_byte
   rw [bytesC_eq,List.length_map,hloop];rfl
 obtain ⟨i,h,hi⟩:=h
 apply go_slices_Contains_byte
 unfold nf_slices_Contains_byte
 simp only [h,Option.bind_some,asInt_int,hi]
end Go.Proofs.Ytognghbhdalckaa.Abs

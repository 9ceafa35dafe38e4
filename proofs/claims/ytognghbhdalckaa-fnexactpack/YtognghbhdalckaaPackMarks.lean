/- A part. -/
import Derived.Test.YtognghbhdalckaaInsMarks
import Derived.Test.YtognghbhdalckaaPieceFns
set_option linter.unusedVariables false
set_option linter.unusedSimpArgs false
set_option linter.unusedSectionVars false
set_option maxRecDepth 100000
namespace Go.Proofs.Ytognghbhdalckaa.Abs
open Go Go.Proofs
theorem pT {R:Type} {b:Bool} {x y:Option R} {z:Option R} (h:b=true) (h2:x=z):br b x y=z:=by rw [h];exact h2
theorem pF {R:Type} {b:Bool} {x y:Option R} {z:Option R} (h:b=false) (h2:y=z):br b x y=z:=by rw [h];exact h2
theorem pB {α β:Type} {o:Option α} {a:α} {f:α→Option β} {z:Option β} (h:o=some a) (h2:f a=z):o.bind f=z:=by rw [h];exact h2
theorem pO {A R:Type} {kr:Ret→Option R} {k:Nat→A→Option R} {j:Nat} {p:A} {z:Option R} (h:k j p=z):loK (.out j p) kr k=z:=h
def mkIns:List Ins→Int→List Ins
 |[],_=>[]
 |s :: r,k=>.mk k (k + 1) (k + 1 + 1) (k + 1 + 1 + 1) (k + 1 + 1 + 1 + 1) (markIL s.l.length (k + 1 + 1 + 1 + 1 + 1)) (k + 1 + 1 + 1 + 1 + 1 + (s.l.length:Int)) :: mkIns r (k + 1 + 1 + 1 + 1 + 1 + (s.l.length:Int) + 1)
theorem markInsX_loop:∀ (suf:List Ins) (done:List CVal) (k:Int),done.length + suf.length ≤ 2000000→(∀ x ∈ suf,x.l.length ≤ 2000000)→0 ≤ k→k + insMarks suf ≤ 1000000000→
  LL f_l_markInsS 0 lc_l_markInsS_0 [PSh.arr ⟨true,true,0⟩ false 7] k_l_markInsS_0 (((),k,(done.length:Int),()),done ++ suf.map Ins.enc,()) =
   some (.out 0 (((),k + insMarks suf,((done.length + suf.length:Nat):Int),()),done ++ (mkIns suf k).map Ins.enc,()))
 |[],done,k,hl,hx,h0,hb=>by
  apply gl_l_markInsS_0
  unfold nl_l_markInsS_0
  simp [insMarks,mkIns]
 |s :: suf,done,k,hl,hx,h0,hb=>by
  simp only [List.length_cons] at hl
  rw [insMarks_cons] at hb
  have hs:=hx s (by simp)
  have w1:IntKind.i64.wrap (k + 1)=k + 1:=by rw [wrap_i64]<;>omega
  have w2:IntKind.i64.wrap (k + 1 + 1)=k + 1 + 1:=by rw [wrap_i64]<;>omega
  have w3:IntKind.i64.wrap (k + 1 + 1 + 1)=k + 1 + 1 + 1:=by rw [wrap_i64]<;>omega
  have w4:IntKind.i64.wrap (k + 1 + 1 + 1 + 1)=k + 1 + 1 + 1 + 1:=by rw [wrap_i64]<;>omega
  have w5:IntKind.i64.wrap (k + 1 + 1 + 1 + 1 + 1)=k + 1 + 1 + 1 + 1 + 1:=by rw [wrap_i64]<;>omega
  have w6:IntKind.i64.wrap (k + 1 + 1 + 1 + 1 + 1 + (s.l.length:Int) + 1)=k + 1 + 1 + 1 + 1 + 1 + (s.l.length:Int) + 1:=by rw [wrap_i64]<;>omega
  have hm:=markIntS_law (l:=s.l) (by omega) (k + 1 + 1 + 1 + 1 + 1) (by omega) (by omega)
  have w7:IntKind.i64.wrap ((done.length:Int) + 1)=(done.length:Int) + 1:=by rw [wrap_i64]<;>omega
  have ih:=markInsX_loop suf (done ++ [CVal.agg [.int .i64 k,.int .i64 (k + 1),.int .i64 (k + 1 + 1),.int .i64 (k + 1 + 1 + 1),.int .i64 (k + 1 + 1 + 1 + 1),.sl ((markIL s.l.length (k + 1 + 1 + 1 + 1 + 1)).map (.int .i64)),.int .i64 (k + 1 + 1 + 1 + 1 + 1 + (s.l.length:Int))]])
   (k + 1 + 1 + 1 + 1 + 1 + (s.l.length:Int) + 1) (by simp;omega) (fun x h=>hx x (by simp [h])) (by omega) (by omega)
  simp only [List.append_assoc,List.singleton_append,List.length_append,List.length_cons,List.length_nil] at ih
  rw [show ((done.length + (0 + 1):Nat):Int)=(done.length:Int) + 1 by omega] at ih
  have e0:((done.length:Nat):Int).toNat=done.length:=by simp
  apply gl_l_markInsS_0
  unfold nl_l_markInsS_0
  rw [List.map_cons,lti_done,Ins.enc_def]
  simp only [nn_mid,br_true',br_false',e0,lt_done,get_done,set_done,Bool.and_true,Option.bind_some,fits7,isAgg_agg,cells7,len7,sp0,sp1,sp2,sp3,sp4,sp6,w1,w2,w3,w4,w5,cell5,asSl_sl,all_fits_ints,hm,List.getElem?_cons_zero,put5,asInt_int,isFlat_int,w6,w7,decide_true,Bool.true_and,List.length_cons,List.length_nil,Nat.reduceAdd,Nat.reduceLeDiff]
  rw [ih]
  rw [insMarks_cons]
  have e5:k + 1 + 1 + 1 + 1 + 1 + (s.l.length:Int) + 1 + (insMarks suf:Int)=k + ((6 + s.l.length + insMarks suf:Nat):Int):=by omega
  have e7:done.length + (0 + 1) + suf.length=done.length + (suf.length + 1):=by omega
  rw [e5,e7]
  rfl
theorem markPiece_full {t:Piece} (hok:t.ok):CC f_l_markPiece [.agg [.v (.int .i64 t.lam),.v (.int .i64 t.inn),.v (.int .i64 t.regs),.lref 0 0],.v (.int .i64 1)] [PB.arr ⟨true,true,0⟩ false 7 (t.ins.map Ins.enc)] =
  some (.int .i64 (1 + insMarks t.ins),[(mkIns t.ins 1).map Ins.enc]):=by
 have hz:t.ins.length + Ins.szL t.ins ≤ 1048576:=by have:=hok.2;rw [Piece.sz_def] at this;exact this
 have hmi:=insMarks_le t.ins
 have hmp:=markInsX_loop t.ins [] 1 (by simp;omega) (fun x hx=>by have:=Ins.sz_mem hx;rw [Ins.sz_def] at this;omega) (by omega) (by omega)
 simp only [List.nil_append,List.length_nil,Int.cast_ofNat_Int] at hmp
 have m0:CC f_l_markInsS [.lref 0 0,.v (.int .i64 1)] [PB.arr ⟨true,true,0⟩ false 7 (t.ins.map Ins.enc)]=some (.int .i64 (1 + insMarks t.ins),[(mkIns t.ins 1).map Ins.enc]):=by
  apply go_l_markInsS
  unfold nf_l_markInsS
  rw [hmp]
  rfl
 apply go_l_markPiece
 unfold nf_l_markPiece
 rw [m0]
 rfl
theorem heldInsS_loop:∀ (suf:List Ins) (done:List CVal) (k:Int),done.length + suf.length ≤ 2000000→(∀ x ∈ suf,x.l.length ≤ 2000000)→0 ≤ k→k + insMarks suf ≤ 1000000000→
  ∃ q,LL f_l_heldInsS 0 lc_l_heldInsS_0 [] k_l_heldInsS_0 ((done ++ (mkIns suf k).map Ins.enc,k,(done.length:Int),()),()) =
   some (.out 0 ((q,k + insMarks suf,((done.length + suf.length:Nat):Int),()),()))
 |[],done,k,hl,hx,h0,hb=>by
  refine ⟨_,gl_l_heldInsS_0 _ _ _ _ (by unfold nl_l_heldInsS_0;simp [mkIns,insMarks];rfl)⟩
 |s :: suf,done,k,hl,hx,h0,hb=>by
  simp only [List.length_cons] at hl
  rw [insMarks_cons] at hb
  have hs:=hx s (by simp)
  have w1:IntKind.i64.wrap (k + 1)=k + 1:=by rw [wrap_i64]<;>omega
  have w2:IntKind.i64.wrap (k + 1 + 1)=k + 1 + 1:=by rw [wrap_i64]<;>omega
  have w3:IntKind.i64.wrap (k + 1 + 1 + 1)=k + 1 + 1 + 1:=by rw [wrap_i64]<;>omega
  have w4:IntKind.i64.wrap (k + 1 + 1 + 1 + 1)=k + 1 + 1 + 1 + 1:=by rw [wrap_i64]<;>omega
  have w5:IntKind.i64.wrap (k + 1 + 1 + 1 + 1 + 1)=k + 1 + 1 + 1 + 1 + 1:=by rw [wrap_i64]<;>omega
  have w6:IntKind.i64.wrap (k + 1 + 1 + 1 + 1 + 1 + (s.l.length:Int) + 1)=k + 1 + 1 + 1 + 1 + 1 + (s.l.length:Int) + 1:=by rw [wrap_i64]<;>omega
  have hh:=heldIntS_law s.l.length (by omega) (k + 1 + 1 + 1 + 1 + 1) (by omega) (by omega)
  generalize hE:(Ins.mk k (k + 1) (k + 1 + 1) (k + 1 + 1 + 1) (k + 1 + 1 + 1 + 1) (markIL s.l.length (k + 1 + 1 + 1 + 1 + 1)) (k + 1 + 1 + 1 + 1 + 1 + (s.l.length:Int)))=e
  have w7:IntKind.i64.wrap ((done.length:Int) + 1)=((done ++ [e.enc]).length:Int):=by rw [wrap_i64 (by omega) (by omega)];simp
  obtain ⟨q,ih⟩:=heldInsS_loop suf (done ++ [e.enc]) (k + 1 + 1 + 1 + 1 + 1 + (s.l.length:Int) + 1) (by simp;omega) (fun x h=>hx x (by simp [h])) (by omega) (by omega)
  have hl2:done ++ (mkIns (s :: suf) k).map Ins.enc=done ++ [e.enc] ++ (mkIns suf (k + 1 + 1 + 1 + 1 + 1 + (s.l.length:Int) + 1)).map Ins.enc:=by rw [← hE];simp [mkIns]
  have hg:(done ++ (mkIns (s :: suf) k).map Ins.enc)[((done.length:Nat):Int).toNat]? = some e.enc:=by rw [hl2];simp
  have c0:e.enc.cell 0=some (.int .i64 k):=by rw [← hE];rfl
  have c1:e.enc.cell 1=some (.int .i64 (k + 1)):=by rw [← hE];rfl
  have c2:e.enc.cell 2=some (.int .i64 (k + 1 + 1)):=by rw [← hE];rfl
  have c3:e.enc.cell 3=some (.int .i64 (k + 1 + 1 + 1)):=by rw [← hE];rfl
  have c4:e.enc.cell 4=some (.int .i64 (k + 1 + 1 + 1 + 1)):=by rw [← hE];rfl
  have c5:e.enc.cell 5=some (.sl ((markIL s.l.length (k + 1 + 1 + 1 + 1 + 1)).map (.int .i64))):=by rw [← hE];rfl
  have c6:e.enc.cell 6=some (.int .i64 (k + 1 + 1 + 1 + 1 + 1 + (s.l.length:Int))):=by rw [← hE];rfl
  have hn:((decide ((0:Int) ≤ (done.length:Int))) && true)=true:=by simp
  have hf:=Ins.enc_fits e
  refine ⟨q,gl_l_heldInsS_0 _ _ _ _ ?_⟩
  unfold nl_l_heldInsS_0
  rw [w1,w2,w3,w4,w5]
  refine pT (by rw [hl2];simp;omega) (pT hn (pB hg (pT hf (pB c0 (pB asInt_int (pF (by simp) ?_))))))
  refine pT hn (pB hg (pT hf (pB c1 (pB asInt_int (pF (by simp) ?_)))))
  refine pT hn (pB hg (pT hf (pB c2 (pB asInt_int (pF (by simp) ?_)))))
  refine pT hn (pB hg (pT hf (pB c3 (pB asInt_int (pF (by simp) ?_)))))
  refine pT hn (pB hg (pT hf (pB c4 (pB asInt_int (pF (by simp) ?_)))))
  refine pT hn (pB hg (pT hf (pB c5 (pB hh (pB asInt_int (pF (by simp;omega) ?_))))))
  refine pT hn (pB hg (pT hf (pB c6 (pB asInt_int (pB asInt_int (pF (by simp) (pB asInt_int ?_)))))))
  rw [w6,w7,hl2,ih,insMarks_cons]
  have e5:k + 1 + 1 + 1 + 1 + 1 + (s.l.length:Int) + 1 + (insMarks suf:Int)=k + ((6 + s.l.length + insMarks suf:Nat):Int):=by omega
  have e7:(done ++ [e.enc]).length + suf.length=done.length + (suf.length + 1):=by simp;omega
  rw [e5,e7]
  rfl
theorem heldPiece_full {t:Piece} (hok:t.ok) (a b c:Int):CC f_l_heldPiece [.v (.agg [.int .i64 a,.int .i64 b,.int .i64 c,.sl ((mkIns t.ins 1).map Ins.enc)]),.v (.int .i64 1)] []=some (.int .i64 (1 + insMarks t.ins),[]):=by
 have hz:t.ins.length + Ins.szL t.ins ≤ 1048576:=by have:=hok.2;rw [Piece.sz_def] at this;exact this
 have hmi:=insMarks_le t.ins
 obtain ⟨q,hmp⟩:=heldInsS_loop t.ins [] 1 (by simp;omega) (fun x hx=>by have:=Ins.sz_mem hx;rw [Ins.sz_def] at this;omega) (by omega) (by omega)
 simp only [List.nil_append,List.length_nil,Int.cast_ofNat_Int] at hmp
 have m0:CC f_l_heldInsS [.v (.sl ((mkIns t.ins 1).map Ins.enc)),.v (.int .i64 1)] []=some (.int .i64 (1 + insMarks t.ins),[]):=by
  apply go_l_heldInsS
  unfold nf_l_heldInsS
  rw [hmp]
  rfl
 apply go_l_heldPiece
 unfold nf_l_heldPiece
 refine pB m0 (pB asInt_int (pF (by simp;omega) rfl))
end Go.Proofs.Ytognghbhdalckaa.Abs

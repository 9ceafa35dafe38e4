/- A part. -/
import Derived.Test.YtognghbhdalckaaPackDefs
set_option linter.unusedVariables false
set_option linter.unusedSimpArgs false
set_option linter.unusedSectionVars false
set_option maxRecDepth 100000
namespace Go.Proofs.Ytognghbhdalckaa.Abs
open Go Go.Proofs
def encF (i:Ins):CVal:=.agg [.int .i64 i.op,.int .i64 i.d,.int .i64 i.x,.int .i64 i.y,.int .i64 i.n,.fsl (i.l.map (.int .i64)),.int .i64 i.to]
theorem toF_enc (i:Ins):i.enc.toF=encF i:=by rw [Ins.enc_def];rfl
theorem unF_encF (i:Ins):(encF i).unF=i.enc:=by rw [Ins.enc_def];rfl
theorem CloneIns_law {l:List Ins} (h:l.length ≤ 1048576):CC f_slices_Clone_Ins [.v (.sl (l.map Ins.enc))] []=some (.sl (l.map encF),[]):=by
 refine extW (p:=xClone29) (by decide) rfl ?_
 have e1:(l.map Ins.enc).all (CVal.fits true 7)=true:=by simp
 have e2:(l.map Ins.enc).map CVal.toF=l.map encF:=by rw [List.map_map];exact List.map_congr_left fun i _=>toF_enc i
 show br _ _ _=_
 rw [e2]
 exact pT e1 (pT (decide_eq_true (by rw [List.length_map];unfold lim;omega)) rfl)
theorem CloneInt_law {l:List Int} (h:l.length ≤ 1048576):CC f_slices_Clone_int [.v (.sl (l.map (.int .i64)))] []=some (.sl (l.map (.int .i64)),[]):=by
 refine extW (p:=xClone30) (by decide) rfl ?_
 have e1:(l.map (CVal.int .i64)).all (CVal.fitsF false [CK.int .i64])=true:=by simp [CVal.fitsF,okCells,CK.ok]
 show br _ _ _=_
 exact pT e1 (pT (decide_eq_true (by rw [List.length_map];unfold lim;omega)) rfl)
theorem clone_loop (a b c r0 r1 r2:Int) (x4:List CVal):∀ (suf pre:List Ins),(pre ++ suf).length ≤ 1048576→(∀ i ∈ suf,i.l.length ≤ 1048576)→
  LL f_i_clonePiece 0 lc_i_clonePiece_0 [] k_i_clonePiece_0 (((),(),(),((pre ++ suf).length:Int),(pre.length:Int),()),(a,b,c,(),()),pre.map Ins.enc ++ suf.map encF,(r0,r1,r2,(),()),x4,()) =
   some (.out 0 (((),(),(),((pre ++ suf).length:Int),((pre ++ suf).length:Int),()),(a,b,c,(),()),(pre ++ suf).map Ins.enc,(r0,r1,r2,(),()),x4,()))
 |[],pre,hl,h=>by
  apply gl_i_clonePiece_0
  unfold nl_i_clonePiece_0
  exact pF (by simp) (by simp)
 |i :: suf,pre,hl,h=>by
  have hi:=h i (by simp)
  have ih:=clone_loop a b c r0 r1 r2 x4 suf (pre ++ [i]) (by simpa using hl) (fun u hu=>h u (by simp [hu]))
  simp only [List.append_assoc,List.singleton_append] at ih
  have hg:(pre.map Ins.enc ++ (i :: suf).map encF)[((pre.length:Nat):Int).toNat]? = some (encF i):=by simp
  have hw:IntKind.i64.wrap ((pre.length:Int) + 1)=((pre ++ [i]).length:Int):=by simp at hl ⊢;rw [wrap_i64]<;>omega
  have hset:(pre.map Ins.enc ++ (i :: suf).map encF).set ((pre.length:Nat):Int).toNat i.enc=(pre ++ [i]).map Ins.enc ++ suf.map encF:=by
   simp
  have hc:=CloneInt_law hi
  have e1:decide ((pre.length:Int) < ((pre ++ i :: suf).length:Int))=true:=by simp;omega
  have e2:(decide ((0:Int) ≤ (pre.length:Int)) && true)=true:=by simp
  have e3:(decide (((pre.length:Nat):Int).toNat < (pre.map Ins.enc ++ (i :: suf).map encF).length) && true)=true:=by simp
  apply gl_i_clonePiece_0
  unfold nl_i_clonePiece_0
  refine pT e1 (pT e2 (pT e3 (pB hg (pB (a:=encF i) rfl (pT rfl ?_)))))
  rw [unF_encF]
  refine pT (Ins.enc_isAggN i) (pB (Ins.enc_cell0 i) (pB (Ins.enc_cell1 i) (pB (Ins.enc_cell2 i) (pB (Ins.enc_cell3 i) (pB (Ins.enc_cell4 i) (pB (Ins.enc_cell5 i) (pB (Ins.enc_cell6 i) (pB hc (pT rfl (pB rfl (pT e2 (pT e3 (pB hg (pT rfl ?_))))))))))))))
  have es:CVal.agg (splice (encF i).cells 5 [CVal.sl (i.l.map (.int .i64))])=i.enc:=by rw [Ins.enc_def];rfl
  rw [es,hset,hw]
  exact ih
theorem clonePiece_law {p:Piece} (hok:p.ok):CC f_i_clonePiece [.v p.enc] []=some (p.enc,[]):=by
 have hz:p.ins.length + Ins.szL p.ins ≤ 1048576:=by have:=hok.2;rw [Piece.sz_def] at this;exact this
 have h1:=CloneIns_law (l:=p.ins) (by omega)
 have hloop:=clone_loop p.lam p.inn p.regs 0 0 0 [] p.ins [] (by simp;omega) (fun i hi=>by have:=Ins.sz_mem hi;rw [Ins.sz_def] at this;omega)
 simp only [List.nil_append,List.length_nil,Int.cast_ofNat_Int,List.map_nil] at hloop
 rw [Piece.enc_def]
 apply go_i_clonePiece
 unfold nf_i_clonePiece
 refine pB h1 (pT rfl (pB rfl ?_))
 rw [List.length_map]
 exact pB hloop (pO (pT rfl rfl))
theorem copy_loop (p:Piece) (a b c r0 r1 r2:Int) (x2:List CVal):∀ (suf pre:List Ins),p.ins=pre ++ suf→(pre ++ suf).length ≤ 1048576→(∀ i ∈ suf,i.l.length ≤ 1048576)→
  LL f_s_l9CopyPiece 0 lc_s_l9CopyPiece_0 [] k_s_l9CopyPiece_0 ((.fp p.enc 0,(),(),(pre.length:Int),()),(a,b,c,(),()),x2,(r0,r1,r2,(),()),pre.map Ins.enc,()) =
   some (.out 0 ((.fp p.enc 0,(),(),((pre ++ suf).length:Int),()),(a,b,c,(),()),x2,(r0,r1,r2,(),()),(pre ++ suf).map Ins.enc,()))
 |[],pre,hp,hl,h=>by
  apply gl_s_l9CopyPiece_0
  unfold nl_s_l9CopyPiece_0
  refine pB (a:=(p.enc,0)) rfl (pB (a:=.sl (p.ins.map Ins.enc)) (by simp) (pB rfl (pF (by rw [hp];simp) (by simp))))
 |i :: suf,pre,hp,hl,h=>by
  have hi:=h i (by simp)
  have ih:=copy_loop p a b c r0 r1 r2 x2 suf (pre ++ [i]) (by simpa using hp) (by simpa using hl) (fun u hu=>h u (by simp [hu]))
  simp only [List.append_assoc,List.singleton_append] at ih
  have hg:(p.ins.map Ins.enc)[((pre.length:Nat):Int).toNat]? = some i.enc:=by rw [hp];simp
  have hw:IntKind.i64.wrap ((pre.length:Int) + 1)=((pre ++ [i]).length:Int):=by simp at hl ⊢;rw [wrap_i64]<;>omega
  have hc3:p.enc.cell 3=some (.sl (p.ins.map Ins.enc)):=Piece.enc_cell3 p
  have e1:(i.l.map (CVal.int .i64)).all (CVal.fitsF false [CK.int .i64])=true:=by simp [CVal.fitsF,okCells,CK.ok]
  have e3:pre.map Ins.enc ++ [i.enc]=(pre ++ [i]).map Ins.enc:=by simp
  apply gl_s_l9CopyPiece_0
  unfold nl_s_l9CopyPiece_0
  refine pB (a:=(p.enc,0)) rfl (pB hc3 (pB rfl (pT (by rw [hp];simp;omega) (pB (a:=(p.enc,0)) rfl (pB hc3 (pT (by simp) (pB rfl (pB hg (pT (Ins.enc_fits i) (pB (Ins.enc_sub i) (pT (Ins.enc_isAggN i) ?_)))))))))))
  refine pB (Ins.enc_cell0 i) (pB (Ins.enc_cell1 i) (pB (Ins.enc_cell2 i) (pB (Ins.enc_cell3 i) (pB (Ins.enc_cell4 i) (pB (Ins.enc_cell5 i) (pB (Ins.enc_cell6 i) (pB rfl (pT e1 (pT (decide_eq_true (by rw [List.length_map];omega)) ?_)))))))))
  refine pB asInt_int (pB asInt_int (pB asInt_int (pB asInt_int (pB asInt_int (pB asInt_int (pT (by simp at hl ⊢;omega) ?_))))))
  rw [← Ins.enc_def i,e3,hw]
  exact ih
theorem copyPiece_law {p:Piece} (hok:p.ok):CC f_s_l9CopyPiece [.v p.enc] []=some (p.enc,[]):=by
 have hz:p.ins.length + Ins.szL p.ins ≤ 1048576:=by have:=hok.2;rw [Piece.sz_def] at this;exact this
 have hloop:=copy_loop p 0 0 0 p.lam p.inn p.regs [] p.ins [] rfl (by simp;omega) (fun i hi=>by have:=Ins.sz_mem hi;rw [Ins.sz_def] at this;omega)
 simp only [List.nil_append,List.length_nil,Int.cast_ofNat_Int,List.map_nil] at hloop
 rw [Piece.enc_def] at hloop ⊢
 apply go_s_l9CopyPiece
 unfold nf_s_l9CopyPiece
 exact pB hloop (pO (pT rfl rfl))
end Go.Proofs.Ytognghbhdalckaa.Abs

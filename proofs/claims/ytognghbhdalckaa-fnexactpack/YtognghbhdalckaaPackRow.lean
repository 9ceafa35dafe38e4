/- A part. -/
import Derived.Test.YtognghbhdalckaaPackI2
import Derived.Test.YtognghbhdalckaaPackS2
set_option linter.unusedVariables false
set_option linter.unusedSimpArgs false
set_option linter.unusedSectionVars false
set_option maxRecDepth 100000
set_option maxHeartbeats 1000000
namespace Go.Proofs.Ytognghbhdalckaa.Abs
open Go Go.Proofs
theorem Pack_both {p:Piece} (hok:p.ok):∃ q:Piece,q.ok∧CC f_i_Pack [.v p.enc] []=some (q.enc,[])∧CC f_s_Pack [.v p.enc] []=some (q.enc,[]):=by
 have hP:=pieceOk_i hok
 have hP2:=pieceOk_s hok
 have hC:=clonePiece_law hok
 have hC2:=copyPiece_law hok
 have hz:p.ins.length + Ins.szL p.ins ≤ 1048576:=by have:=hok.2;rw [Piece.sz_def] at this;exact this
 have cl:∀ {z:Option Ret} {K:CVal→CVal→CVal→CVal→Option Ret},K (.int .i64 p.lam) (.int .i64 p.inn) (.int .i64 p.regs) (.sl (p.ins.map Ins.enc))=z→
   (p.enc.cell 0).bind (fun c=>(p.enc.cell 1).bind fun c1=>(p.enc.cell 2).bind fun c2=>(p.enc.cell 3).bind fun c3=>K c c1 c2 c3)=z:=by
  intro z K h
  exact pB (Piece.enc_cell0 p) (pB (Piece.enc_cell1 p) (pB (Piece.enc_cell2 p) (pB (Piece.enc_cell3 p) h)))
 cases hb:pieceB p with
 |false=>
  refine ⟨p,hok,?_,?_⟩
  ·rw [hb] at hP
   rw [Piece.enc_def] at hP hC ⊢
   apply go_i_Pack
   unfold nf_i_Pack
   rw [← Piece.enc_def] at hC
   refine pB hC (pT (Piece.enc_isAggN p) (cl (pB rfl (pB hP (pB rfl (pT rfl (pB asInt_int (pB asInt_int (pB asInt_int ?_)))))))))
   rfl
  ·rw [hb] at hP2
   rw [Piece.enc_def] at hP2 hC2 ⊢
   apply go_s_Pack
   unfold nf_s_Pack
   rw [← Piece.enc_def] at hC2
   refine pB hP2 (pB rfl (pT rfl (pB hC2 (pT (Piece.enc_isAggN p) (cl (pB rfl (pB asInt_int (pB asInt_int (pB asInt_int ?_)))))))))
   rfl
 |true=>
  have F:=fit_of hok hb
  obtain ⟨O,o1,o2,hI,hS⟩:=Slots_pack hok hb
  have hO:O.length ≤ 1048576:=by have:=F.r;omega
  have hq:=packP_ok o2 hok (by have:=F.i1;have:=F.r;omega)
  have hil:∀ i ∈ p.ins,i.l.length ≤ 1048576∧InR (O.length:Int) i:=fun i hi=>by
   refine ⟨by have:=Ins.sz_mem hi;rw [Ins.sz_def] at this;omega,?_⟩
   rw [o1]
   exact inR_of (F.ins i hi)
  have he:(packP O p).enc=.agg [.int .i64 p.lam,.int .i64 p.inn,.int .i64 (maxR p.inn O),.sl (p.ins.map fun i=>(packI O i).enc)]:=by
   rw [Piece.enc_def]
   simp [packP,List.map_map]
  refine ⟨packP O p,hq,?_,?_⟩
  ·have h0:=pack_max O 0 0 0 p.lam p.inn [] (p.ins.map Ins.enc) o2 hO O [] p.inn rfl
   have h2:=pack_ins O hO 0 0 0 p.lam p.inn (maxR p.inn O) [] p.ins [] (by simp;omega) hil
   simp only [List.nil_append,List.length_nil,Int.cast_ofNat_Int,List.map_nil] at h0 h2
   rw [hb] at hP
   rw [Piece.enc_def] at hP hC hI ⊢
   apply go_i_Pack
   unfold nf_i_Pack
   rw [← Piece.enc_def] at hC
   refine pB hC (pT (Piece.enc_isAggN p) (cl (pB rfl (pB hP (pB rfl (pF rfl (pB hI (pB rfl (pB rfl (pB rfl (pB asInt_int (pB asInt_int ?_))))))))))))
   rw [List.length_map]
   refine pB h0 (pO (pT rfl ?_))
   show Option.bind (LL f_i_Pack 2 lc_i_Pack_2 [] k_i_Pack_2 (((),(),O.map nt,((p.ins.map Ins.enc).length:Int),0,()),(0,0,0,(),()),[],(p.lam,p.inn,maxR p.inn O,(),()),p.ins.map Ins.enc,())) _=_
   rw [List.length_map]
   refine pB h2 (pO (pT rfl ?_))
   rw [he]
  ·have h0:=spack_max O 0 0 0 p.lam p.inn [] (p.ins.map Ins.enc) o2 hO O [] p.inn rfl
   have h2:=spack_ins O hO 0 0 0 p.lam p.inn (maxR p.inn O) [] p.ins [] (by simp;omega) hil
   simp only [List.nil_append,List.length_nil,Int.cast_ofNat_Int,List.map_nil] at h0 h2
   have hX:CC f_s_l11Pack [.v p.enc] []=some ((packP O p).enc,[]):=by
    rw [Piece.enc_def p] at hC2 hS ⊢
    apply go_s_l11Pack
    unfold nf_s_l11Pack
    rw [← Piece.enc_def] at hC2
    refine pB hS (pB hC2 (pT (Piece.enc_isAggN p) (cl (pB rfl (pB rfl (pB asInt_int (pB asInt_int ?_)))))))
    refine pB h0 (pO (pT rfl ?_))
    refine pB h2 (pO (pT rfl ?_))
    rw [he]
   have hq4:CVal.isAggN 4 (packP O p).enc=true:=Piece.enc_isAggN _
   rw [hb] at hP2
   rw [Piece.enc_def p] at hP2 hX ⊢
   apply go_s_Pack
   unfold nf_s_Pack
   refine pB hP2 (pB rfl (pF rfl (pB hX (pT hq4 ?_))))
   refine pB (Piece.enc_cell0 (packP O p)) (pB (Piece.enc_cell1 (packP O p)) (pB (Piece.enc_cell2 (packP O p)) (pB (Piece.enc_cell3 (packP O p)) ?_)))
   refine pB (asSl_sl) (pB asInt_int (pB asInt_int (pB asInt_int ?_)))
   rw [← Piece.enc_def]
theorem plain_insL:∀ l:List Ins,plainL (l.map Ins.enc)=true
 |[]=>rfl
 |i :: l=>by
  have h1:=plain_ints i.l
  have h2:=plain_insL l
  rw [List.map_cons,Ins.enc_def]
  simp only [plainL,CVal.plain,h1,h2,Bool.and_self]
theorem plain_piece (p:Piece):p.enc.plain=true:=by
 have h1:=plain_insL p.ins
 rw [Piece.enc_def]
 simp only [plainL,CVal.plain,h1,Bool.and_self]
theorem law_Pack {t:Piece} (hw:t.wt):CC f_l_FnExactPack [.v t.enc] []=some (.bool true,[]):=by
 have hs:=szPiece_law t hw 1048576 (by omega) (by omega)
 have e:=Piece.enc_def t
 by_cases hn:(1048576:Int) < (t.sz:Int)
 ·have h1:left 1048576 t.sz < 0:=(left_neg (by omega)).2 hn
  rw [e]
  apply go_l_FnExactPack
  unfold nf_l_FnExactPack
  simp only [← e,hs,Option.bind_some,asInt_int,h1,decide_true,br_true']
 ·have hok:t.ok:=⟨hw,by omega⟩
  have h1:¬ left 1048576 t.sz < 0:=fun h=>hn ((left_neg (by omega)).1 h)
  obtain ⟨q,hq,hI,hS⟩:=Pack_both hok
  have hT:=toPiece_law t hok
  have hE1:=eqPiece_law t hok
  have hE2:=eqPiece_law q hq
  have m1:=markPiece_full hok
  have m2:=markPiece_full hq
  have m3:=heldPiece_full hq q.lam q.inn q.regs
  have n1:¬ (1 + (insMarks t.ins:Int) < 0):=by omega
  have n2:¬ (1 + (insMarks q.ins:Int) < 0):=by omega
  have hae:CVal.agg [.int .i64 t.lam,.int .i64 t.inn,.int .i64 t.regs,.sl (t.ins.map Ins.enc)]=t.enc:=Piece.enc_eta t
  have haq:CVal.agg [.int .i64 q.lam,.int .i64 q.inn,.int .i64 q.regs,.sl (q.ins.map Ins.enc)]=q.enc:=Piece.enc_eta q
  have hpl:=plain_piece q
  rw [e]
  apply go_l_FnExactPack
  unfold nf_l_FnExactPack
  simp only [← e,hs,hT,hS,Option.bind_some,asInt_int,h1,decide_true,decide_false,br_true',br_false',Piece.enc_isAggN,Piece.enc_cell0,Piece.enc_cell1,Piece.enc_cell2,Piece.enc_cell3,asSl_sl,hae,haq,hI,hpl,Bool.not_true,hE1,hE2,scalar_bool,scalar_int,asBool_bool,m1,m2,m3,n1,n2,List.getElem?_cons_zero,isFlat_sl]
end Go.Proofs.Ytognghbhdalckaa.Abs

/- A part. -/
import Derived.Test.YtognghbhdalckaaDataPiece
import Derived.Test.YtognghbhdalckaaK1Eqs
import Derived.Test.YtognghbhdalckaaInsFns
set_option linter.unusedVariables false
set_option linter.unusedSectionVars false
set_option linter.unusedSimpArgs false
namespace Go.Proofs.Ytognghbhdalckaa.Abs
open Go Go.Proofs
def SzPiece (t:Piece):Prop:=∀ l:Int,0 ≤ l→l ≤ 1048576→CC f_l_szPiece [.v t.enc,.v (.int .i64 l)] []=some (.int .i64 (left l t.sz),[])
theorem szPiece_law:∀ t:Piece,t.wt→SzPiece t:=fun t hw l h0 h1=>by
 have hw:=(Piece.wt_def t).1 hw
 have hsz:=Piece.sz_def t
 rw [Piece.enc_def]
 apply go_l_szPiece
 unfold nf_l_szPiece
 have c0:=szInsS_law (hw.2.2.2).1 (fun u hu=>szIns_law u ((hw.2.2.2).2 u hu)) (l) (by omega) (by omega)
 simp only [c0,Option.bind_some,asInt_int]
 by_cases g0:l < (((t.ins.length + Ins.szL t.ins):Nat):Int)
 ·rw [show decide (left (l) (t.ins.length + Ins.szL t.ins) < 0)=true from decide_eq_true ((left_neg (by omega)).2 g0),br_true']
  have:left l t.sz = -1:=by unfold left;rw [if_pos (by omega)]
  rw [this]
 rw [show decide (left (l) (t.ins.length + Ins.szL t.ins) < 0)=false from decide_eq_false (fun hc=>g0 ((left_neg (by omega)).1 hc)),br_false',left_ok g0]
 have:left l t.sz=(l - (((t.ins.length + Ins.szL t.ins):Nat):Int)):=by unfold left;rw [if_neg (by omega)];omega
 rw [this]
theorem toPiece_law:∀ t:Piece,t.ok→CC f_l_toPiece [.v t.enc] []=some (t.enc,[]):=fun t hok=>by
 have h0:=toInsS_law hok.ins_len (fun u hu=>toIns_law u (hok.ins hu))
 rw [Piece.enc_def]
 apply go_l_toPiece
 unfold nf_l_toPiece
 simp only [h0,Option.bind_some,isFlat_sl,Bool.and_true,br_true',asSl_sl]
theorem eqPiece_law:∀ t:Piece,t.ok→CC f_l_eqPiece [.v t.enc,.v t.enc] []=some (.bool true,[]):=fun t hok=>by
 have h0:=eqInsS_law hok.ins_len (fun u hu=>eqIns_law u (hok.ins hu))
 rw [Piece.enc_def]
 apply go_l_eqPiece
 unfold nf_l_eqPiece
 simp only [h0,Option.bind_some,decide_true,Bool.not_true,br_false',br_true',asBool_bool]
end Go.Proofs.Ytognghbhdalckaa.Abs

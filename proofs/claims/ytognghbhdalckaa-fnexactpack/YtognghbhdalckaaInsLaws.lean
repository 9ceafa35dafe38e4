/- A part. -/
import Derived.Test.YtognghbhdalckaaBytesLaws
set_option linter.unusedVariables false
set_option linter.unusedSectionVars false
set_option linter.unusedSimpArgs false
namespace Go.Proofs.Ytognghbhdalckaa.Abs
open Go Go.Proofs
theorem opCases (op:Int):(op=1∨op=2∨op=3∨op=4∨op=5∨op=6∨op=7∨op=8∨op=9∨op=10∨op=11∨op=12∨op=13∨op=14∨op=15∨op=16∨op=17∨op=18)∨(¬ op=1∧¬ op=2∧¬ op=3∧¬ op=4∧¬ op=5∧¬ op=6∧¬ op=7∧¬ op=8∧¬ op=9∧¬ op=10∧¬ op=11∧¬ op=12∧¬ op=13∧¬ op=14∧¬ op=15∧¬ op=16∧¬ op=17∧¬ op=18):=by omega
def insForm (op:Int):List UInt8 × Bool:=
 if op=1 then ([68,78],true) else if op=2 then ([68,78],true) else if op=3 then ([68],true) else if op=4 then ([68,88],true) else if op=9 then ([68,88],true) else
 if op=10 then ([68,88],true) else if op=5 then ([68,88,89,78],true) else if op=6 then ([68,88,89],true) else if op=7 then ([68,88,89],true) else
 if op=8 then ([68,78,76],true) else if op=11 then ([88,84],true) else if op=12 then ([88,84],true) else if op=13 then ([84],true) else if op=14 then ([68,88,89,76],true) else
 if op=15 then ([88],true) else if op=16 then ([88],true) else if op=17 then ([68,84],true) else ([],decide (op=18))
theorem insForm_law (op:Int):CC f_i_insForm [.v (.int .i64 op)] []=some (.tup [.str (insForm op).1,.bool (insForm op).2],[]):=by
 apply go_i_insForm
 rcases opCases op with (rfl | rfl | rfl | rfl | rfl | rfl | rfl | rfl | rfl | rfl | rfl | rfl | rfl | rfl | rfl | rfl | rfl | rfl) | ⟨h1,h2,h3,h4,h5,h6,h7,h8,h9,h10,h11,h12,h13,h14,h15,h16,h17,h18⟩
 all_goals first | rfl | skip
 unfold nf_i_insForm insForm
 simp only [h1,h2,h3,h4,h5,h6,h7,h8,h9,h10,h11,h12,h13,h14,h15,h16,h17,h18,decide_false,br_false',if_false]
theorem insForm_len (op:Int):(insForm op).1.length ≤ 1048576:=by
 rcases opCases op with (rfl | rfl | rfl | rfl | rfl | rfl | rfl | rfl | rfl | rfl | rfl | rfl | rfl | rfl | rfl | rfl | rfl | rfl) | ⟨h1,h2,h3,h4,h5,h6,h7,h8,h9,h10,h11,h12,h13,h14,h15,h16,h17,h18⟩
 all_goals first | decide | skip
 unfold insForm
 simp only [h1,h2,h3,h4,h5,h6,h7,h8,h9,h10,h11,h12,h13,h14,h15,h16,h17,h18,if_false]
 decide
def hasPart (op b:Int):Bool:=hasB (insForm op).1 b
theorem hasPart_law (op b:Int):CC f_i_hasPart [.v (.int .i64 op),.v (.int .u8 b)] []=some (.bool (hasPart op b),[]):=by
 apply go_i_hasPart
 unfold nf_i_hasPart
 have:=insForm_len op
 have h2:(insForm op).1.length ≤ 4294967296:=by omega
 simp [insForm_law,h2,containsB_law this]
 rfl
def uses (op:Int):Bool × Bool × Bool × Bool:=
 if op=1 then (true,false,false,false) else if op=2 then (true,false,false,false) else if op=3 then (true,false,false,false) else if op=8 then (true,false,false,false) else
 if op=4 then (true,true,false,false) else if op=9 then (true,true,false,false) else if op=10 then (true,true,false,false) else
 if op=5 then (true,true,true,false) else if op=6 then (true,true,true,false) else if op=7 then (true,true,true,false) else if op=14 then (true,true,true,false) else
 if op=11 then (false,true,false,true) else if op=12 then (false,true,false,true) else if op=13 then (false,false,false,true) else
 if op=15 then (false,true,false,false) else if op=16 then (false,true,false,false) else if op=17 then (true,false,false,true) else (false,false,false,false)
theorem uses_law (op:Int):CC f_s_l9Uses [.v (.int .i64 op)] []=some (.agg [.bool (uses op).1,.bool (uses op).2.1,.bool (uses op).2.2.1,.bool (uses op).2.2.2],[]):=by
 apply go_s_l9Uses
 rcases opCases op with (rfl | rfl | rfl | rfl | rfl | rfl | rfl | rfl | rfl | rfl | rfl | rfl | rfl | rfl | rfl | rfl | rfl | rfl) | ⟨h1,h2,h3,h4,h5,h6,h7,h8,h9,h10,h11,h12,h13,h14,h15,h16,h17,h18⟩
 all_goals first | rfl | skip
 unfold nf_s_l9Uses uses
 simp only [h1,h2,h3,h4,h5,h6,h7,h8,h9,h10,h11,h12,h13,h14,h15,h16,h17,h18,decide_false,br_false',if_false]
theorem uses_D (op:Int):hasPart op 68=(uses op).1:=by
 rcases opCases op with (rfl | rfl | rfl | rfl | rfl | rfl | rfl | rfl | rfl | rfl | rfl | rfl | rfl | rfl | rfl | rfl | rfl | rfl) | ⟨h1,h2,h3,h4,h5,h6,h7,h8,h9,h10,h11,h12,h13,h14,h15,h16,h17,h18⟩
 all_goals first | decide | skip
 unfold hasPart insForm uses
 simp only [h1,h2,h3,h4,h5,h6,h7,h8,h9,h10,h11,h12,h13,h14,h15,h16,h17,h18,if_false]
 rfl
theorem uses_X (op:Int):hasPart op 88=(uses op).2.1:=by
 rcases opCases op with (rfl | rfl | rfl | rfl | rfl | rfl | rfl | rfl | rfl | rfl | rfl | rfl | rfl | rfl | rfl | rfl | rfl | rfl) | ⟨h1,h2,h3,h4,h5,h6,h7,h8,h9,h10,h11,h12,h13,h14,h15,h16,h17,h18⟩
 all_goals first | decide | skip
 unfold hasPart insForm uses
 simp only [h1,h2,h3,h4,h5,h6,h7,h8,h9,h10,h11,h12,h13,h14,h15,h16,h17,h18,if_false]
 rfl
theorem uses_Y (op:Int):hasPart op 89=(uses op).2.2.1:=by
 rcases opCases op with (rfl | rfl | rfl | rfl | rfl | rfl | rfl | rfl | rfl | rfl | rfl | rfl | rfl | rfl | rfl | rfl | rfl | rfl) | ⟨h1,h2,h3,h4,h5,h6,h7,h8,h9,h10,h11,h12,h13,h14,h15,h16,h17,h18⟩
 all_goals first | decide | skip
 unfold hasPart insForm uses
 simp only [h1,h2,h3,h4,h5,h6,h7,h8,h9,h10,h11,h12,h13,h14,h15,h16,h17,h18,if_false]
 rfl
theorem uses_T (op:Int):hasPart op 84=(uses op).2.2.2:=by
 rcases opCases op with (rfl | rfl | rfl | rfl | rfl | rfl | rfl | rfl | rfl | rfl | rfl | rfl | rfl | rfl | rfl | rfl | rfl | rfl) | ⟨h1,h2,h3,h4,h5,h6,h7,h8,h9,h10,h11,h12,h13,h14,h15,h16,h17,h18⟩
 all_goals first | decide | skip
 unfold hasPart insForm uses
 simp only [h1,h2,h3,h4,h5,h6,h7,h8,h9,h10,h11,h12,h13,h14,h15,h16,h17,h18,if_false]
 rfl
end Go.Proofs.Ytognghbhdalckaa.Abs

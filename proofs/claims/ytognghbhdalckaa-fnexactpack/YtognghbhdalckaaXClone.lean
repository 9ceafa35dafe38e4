/- A part. -/
import Derived.Test.YtognghbhdalckaaOmega
set_option linter.unusedVariables false
set_option linter.unusedSectionVars false
set_option linter.unusedSimpArgs false
namespace Go.Proofs.Ytognghbhdalckaa.Abs
open Go
variable [Glob]
theorem FnOk.slq {P:Program} {rm:Option Nat} {ow:Option (List TypeId)} {g:FuncId} {xs:List CVal} {ret:Ret} (h1:FnOk P rm ow g [.v (.slq false xs)] [] ret) (h2:xs=[]→FnOk P rm ow g [.v (.slq true [])] [] ret) :
  FnOk P rm ow g [.v (.sl xs)] [] ret:=by
 intro F w μ vs R ha
 obtain ⟨u,us,rfl,hu,_,hus⟩:=ha
 obtain ⟨base,cap,hv,hc,h⟩:=hu
 cases hb:base.isNone with
 |false=>exact h1 F w μ _ R ⟨u,us,rfl,⟨base,cap,hv,hc,h,hb⟩,by simp,hus⟩
 |true=>
  have hx:xs=[]:=by
   rcases h with h | ⟨b,o,sz,e,_⟩
   ·exact h
   ·rw [e] at hb;cases hb
  subst hx
  exact h2 rfl F w μ _ R ⟨u,us,rfl,⟨base,cap,hv,hc,.inl rfl,hb⟩,by simp,hus⟩
def cloneE (P:Program) (g:FuncId) (ts te:TypeId):Env where
 P:=P
 pm:=fun _ _=>.cls
 rm:=fun _=>none
 ow:=fun h=>cond (h == g) (some [ts]) none
 cl:=fun _=>false
 deep:=fun _ t=>t == te
 frz:=fun _=>none
 frzB:=fun _=>none
 ext:=fun _=>none
 prim:=fun _=>none
 fs:=fun _=>true
def cloneN:Ann where
 loop:=fun _ _=>none
 join:=fun _ _=>none
 reg:=fun _ _=>none
theorem cloneP {P:Program} {g:FuncId} {ts te:TypeId}:PrimOk (cloneE P g ts te):=⟨fun _=>rfl,fun g p h=>by cases h⟩
theorem clone_ok {P:Program} (hm:P.follows .mixedOrders=true) {g:FuncId} {ts te:TypeId} (hg:g ≠ apId) {xs:List CVal} {ret:Ret} (h1:(run (cloneE P g ts te) cloneN 1).1 g [.v (.slq false xs)] []=some ret)
  (h2:xs=[]→(run (cloneE P g ts te) cloneN 1).1 g [.v (.slq true [])] []=some ret):FnOk P none (some [ts]) g [.v (.sl xs)] [] ret:=by
 have hC:=(run_sound (N':=cloneN) hm (cloneP (P:=P) (g:=g) (ts:=ts) (te:=te)) 1).1.1
 have how:(cloneE P g ts te).ow g=some [ts]:=by simp [cloneE]
 have a1:=hC g [.v (.slq false xs)] [] ret hg h1
 rw [how] at a1
 refine FnOk.slq a1 fun hx=>?_
 have a2:=hC g [.v (.slq true [])] [] ret hg (h2 hx)
 rw [how] at a2
 exact a2
end Go.Proofs.Ytognghbhdalckaa.Abs

/- A part. -/
import Derived.Test.YtognghbhdalckaaMachA
import Derived.Test.YtognghbhdalckaaMachC
import Derived.LoopN
import Derived.Below
import GoSem.ClaimChange
set_option linter.unusedVariables false
set_option linter.unusedSectionVars false
set_option linter.unusedSimpArgs false
namespace Go.Proofs.Ytognghbhdalckaa.Abs
open Go
def Det {α:Type} (F:(R:Type)→(α→Option R)→Option R):Prop:=∃ o:Option α,∀ R K,F R K=o.bind K
def Det2 {α β:Type} (F:(R:Type)→(α→β→Option R)→Option R):Prop:=∃ o:Option (α × β),∀ R K,F R K=o.bind fun p=>K p.1 p.2
section
variable {α β γ:Type}
theorem Det.pure (x:α):Det fun R K=>K x:=⟨some x,fun _ _=>rfl⟩
theorem Det.none:Det (α:=α) fun R K=>Option.none:=⟨Option.none,fun _ _=>rfl⟩
theorem Det.br {b:Bool} {F G:(R:Type)→(α→Option R)→Option R} (h:Det F) (k:Det G):Det fun R K=>Abs.br b (F R K) (G R K):=by
 cases b
 ·exact k
 ·exact h
theorem Det.bind {x:Option γ} {F:γ→(R:Type)→(α→Option R)→Option R} (h:∀ c,Det (F c)):Det fun R K=>x.bind fun c=>F c R K:=by
 cases x with
 |none=>exact .none
 |some c=>exact h c
theorem Det.comp {G:(R:Type)→(γ→Option R)→Option R} {F:γ→(R:Type)→(α→Option R)→Option R} (g:Det G) (h:∀ c,Det (F c)):Det fun R K=>G R fun c=>F c R K:=by
 obtain ⟨o,ho⟩:=g
 cases o with
 |none=>exact ⟨Option.none,fun R K=>ho R _⟩
 |some c=>
  obtain ⟨o',ho'⟩:=h c
  exact ⟨o',fun R K=>(ho R _).trans (ho' R K)⟩
theorem Det.comp2 {δ:Type} {G:(R:Type)→(γ→δ→Option R)→Option R} {F:γ→δ→(R:Type)→(α→Option R)→Option R} (g:Det2 G) (h:∀ c d,Det (F c d)):Det fun R K=>G R fun c d=>F c d R K:=by
 obtain ⟨o,ho⟩:=g
 cases o with
 |none=>exact ⟨Option.none,fun R K=>ho R _⟩
 |some c=>
  obtain ⟨o',ho'⟩:=h c.1 c.2
  exact ⟨o',fun R K=>(ho R _).trans (ho' R K)⟩
theorem Det2.pure (x:α) (y:β):Det2 fun R K=>K x y:=⟨some (x,y),fun _ _=>rfl⟩
theorem Det2.none:Det2 (α:=α) (β:=β) fun R K=>Option.none:=⟨Option.none,fun _ _=>rfl⟩
theorem Det2.br {b:Bool} {F G:(R:Type)→(α→β→Option R)→Option R} (h:Det2 F) (k:Det2 G):Det2 fun R K=>Abs.br b (F R K) (G R K):=by
 cases b
 ·exact k
 ·exact h
theorem Det2.bind {x:Option γ} {F:γ→(R:Type)→(α→β→Option R)→Option R} (h:∀ c,Det2 (F c)):Det2 fun R K=>x.bind fun c=>F c R K:=by
 cases x with
 |none=>exact .none
 |some c=>exact h c
theorem Det2.comp {G:(R:Type)→(γ→Option R)→Option R} {F:γ→(R:Type)→(α→β→Option R)→Option R} (g:Det G) (h:∀ c,Det2 (F c)):Det2 fun R K=>G R fun c=>F c R K:=by
 obtain ⟨o,ho⟩:=g
 cases o with
 |none=>exact ⟨Option.none,fun R K=>ho R _⟩
 |some c=>
  obtain ⟨o',ho'⟩:=h c
  exact ⟨o',fun R K=>(ho R _).trans (ho' R K)⟩
theorem Det2.comp2 {δ:Type} {G:(R:Type)→(γ→δ→Option R)→Option R} {F:γ→δ→(R:Type)→(α→β→Option R)→Option R} (g:Det2 G) (h:∀ c d,Det2 (F c d)):Det2 fun R K=>G R fun c d=>F c d R K:=by
 obtain ⟨o,ho⟩:=g
 cases o with
 |none=>exact ⟨Option.none,fun R K=>ho R _⟩
 |some c=>
  obtain ⟨o',ho'⟩:=h c.1 c.2
  exact ⟨o',fun R K=>(ho R _).trans (ho' R K)⟩
end
def Det3 {α β γ:Type} (F:(R:Type)→(α→β→γ→Option R)→Option R):Prop:=∃ o:Option (α × β × γ),∀ R K,F R K=o.bind fun p=>K p.1 p.2.1 p.2.2
theorem Det3.pure {α β γ:Type} (x:α) (y:β) (z:γ):Det3 fun R K=>K x y z:=⟨some (x,y,z),fun _ _=>rfl⟩
theorem Det3.none {α β γ:Type}:Det3 (α:=α) (β:=β) (γ:=γ) fun R K=>Option.none:=⟨Option.none,fun _ _=>rfl⟩
theorem Det3.br {α β γ:Type} {b:Bool} {F G:(R:Type)→(α→β→γ→Option R)→Option R} (h:Det3 F) (k:Det3 G):Det3 fun R K=>Abs.br b (F R K) (G R K):=by
 cases b
 ·exact k
 ·exact h
theorem Det3.bind {α β γ δ:Type} {x:Option δ} {F:δ→(R:Type)→(α→β→γ→Option R)→Option R} (h:∀ c,Det3 (F c)):Det3 fun R K=>x.bind fun c=>F c R K:=by
 cases x with
 |none=>exact .none
 |some c=>exact h c
theorem Det3.comp2 {α β γ δ ε:Type} {G:(R:Type)→(δ→ε→Option R)→Option R} {F:δ→ε→(R:Type)→(α→β→γ→Option R)→Option R} (g:Det2 G) (h:∀ c d,Det3 (F c d)):Det3 fun R K=>G R fun c d=>F c d R K:=by
 obtain ⟨o,ho⟩:=g
 cases o with
 |none=>exact ⟨Option.none,fun R K=>ho R _⟩
 |some c=>
  obtain ⟨o',ho'⟩:=h c.1 c.2
  exact ⟨o',fun R K=>(ho R _).trans (ho' R K)⟩
theorem Det3.comp3 {α β γ δ ε ζ:Type} {G:(R:Type)→(δ→ε→ζ→Option R)→Option R} {F:δ→ε→ζ→(R:Type)→(α→β→γ→Option R)→Option R} (g:Det3 G) (h:∀ c d e,Det3 (F c d e)):Det3 fun R K=>G R fun c d e=>F c d e R K:=by
 obtain ⟨o,ho⟩:=g
 cases o with
 |none=>exact ⟨Option.none,fun R K=>ho R _⟩
 |some c=>
  obtain ⟨o',ho'⟩:=h c.1 c.2.1 c.2.2
  exact ⟨o',fun R K=>(ho R _).trans (ho' R K)⟩
theorem Det2.comp3 {α β δ ε ζ:Type} {G:(R:Type)→(δ→ε→ζ→Option R)→Option R} {F:δ→ε→ζ→(R:Type)→(α→β→Option R)→Option R} (g:Det3 G) (h:∀ c d e,Det2 (F c d e)):Det2 fun R K=>G R fun c d e=>F c d e R K:=by
 obtain ⟨o,ho⟩:=g
 cases o with
 |none=>exact ⟨Option.none,fun R K=>ho R _⟩
 |some c=>
  obtain ⟨o',ho'⟩:=h c.1 c.2.1 c.2.2
  exact ⟨o',fun R K=>(ho R _).trans (ho' R K)⟩
theorem Det3.comp {α β γ δ:Type} {G:(R:Type)→(δ→Option R)→Option R} {F:δ→(R:Type)→(α→β→γ→Option R)→Option R} (g:Det G) (h:∀ c,Det3 (F c)):Det3 fun R K=>G R fun c=>F c R K:=by
 obtain ⟨o,ho⟩:=g
 cases o with
 |none=>exact ⟨Option.none,fun R K=>ho R _⟩
 |some c=>
  obtain ⟨o',ho'⟩:=h c
  exact ⟨o',fun R K=>(ho R _).trans (ho' R K)⟩
variable {P:Program} {b:List Blk}
theorem wInt_det {k:IntKind} {x:AVal}:Det fun R K=>wInt k x K:=by
 cases x with
 |v c=>exact .bind fun n=>.pure n
 |_=>exact .none
theorem wIdx_det {x:AVal}:Det fun R K=>wIdx x K:=by
 cases x with
 |v c=>exact .bind fun n=>.pure n
 |_=>exact .none
theorem wBool_det {x:AVal}:Det fun R K=>wBool x K:=by
 cases x with
 |v c=>exact .bind fun n=>.pure n
 |_=>exact .none
theorem wStr_det {x:AVal}:Det fun R K=>wStr x K:=by
 cases x with
 |v c=>exact .bind fun n=>.pure n
 |_=>exact .none
theorem wSl_det {x:AVal}:Det fun R K=>wSl b x K:=by
 cases x with
 |v c=>exact .bind fun n=>.pure n
 |nl=>exact .pure _
 |lref i ver=>exact .bind fun n=>.pure n
 |lsub i ver sv idx off=>exact .bind fun n=>.pure n
 |_=>exact .none
theorem wTyp_det {k:CK} {d:CVal}:Det fun R K=>wTyp k d K:=by
 cases k with
 |int k=>exact .bind fun n=>.pure _
 |bool=>exact .bind fun n=>.pure _
 |str=>exact .bind fun n=>.pure _
 |any=>exact .br (.pure _) .none
 |sl e=>exact .none
theorem wTyp1_det {ks:List CK} {d:CVal}:Det fun R K=>wTyp1 ks d K:=by
 match ks with
 |[k]=>exact wTyp_det
 |[]=>exact .none
 |_ :: _ :: _=>exact .none
theorem explodeC_det {c:CVal}:∀ {n i:Nat},Det fun R K=>explodeC (R:=R) c i n K
 |0,i=>.pure _
 |n + 1,i=>.bind fun x=>explodeC_det.comp fun xs=>.pure _
theorem explodeL_det {α:Type} {l:List α}:∀ {n i:Nat},Det fun R K=>explodeL (R:=R) l i n K
 |0,i=>.pure _
 |n + 1,i=>.bind fun x=>explodeL_det.comp fun xs=>.pure _
theorem wCells_det {agg:Bool} {n:Nat} {x:AVal}:Det fun R K=>wCells (R:=R) agg n x K:=by
 unfold wCells
 refine .br ?_ ?_
 ·cases x with
  |agg cs=>exact .br (.pure _) .none
  |v c=>exact .br (explodeC_det.comp fun xs=>.pure _) .none
  |_=>exact .none
 ·cases x with
  |agg cs=>exact .none
  |tup cs=>exact .none
  |un=>exact .none
  |v c=>exact .br (.pure _) .none
  |_=>exact .br (.pure _) .none
theorem loadK_det {t:TypeId} {x:AVal}:Det fun R K=>loadK (R:=R) P t b x K:=by
 unfold loadK
 cases P.underlying t with
 |none=>exact .none
 |some d=>
  cases x with
  |lptr i off=>exact .bind fun cs=>.br (.br (.pure _) .none) (.bind fun _=>.pure _)
  |lel i ver idx off=>
   exact .bind fun xs=>.bind fun c=>.br (.br (.br (.bind fun d=>.br (.pure _) .none) (.bind fun d=>.comp wTyp1_det fun d=>.pure _)) (.br (.bind fun d=>.bind fun _=>.pure _) (.br (.bind fun d=>.br (.pure _) .none) .none))) (.br (.bind fun d=>.pure _) (.bind fun d=>.pure _))
  |lel2 i ver sv idx off idx2=>exact .br (.bind fun ys=>.bind fun d=>.comp wTyp1_det fun d=>.pure _) .none
  |v p=>exact .bind fun q=>.br (.bind fun d=>.pure _) (.bind fun d=>.pure _)
  |_=>exact .none
theorem takeCellK_det {k:CK} {x:AVal} {b:List Blk}:Det2 fun R K=>takeCellK (R:=R) P k x b K:=by
 have flat:∀ k:CK,Det2 fun R (K:CVal→List Blk→Option R)=>(match x with | .v c=>wTyp k c fun c=>K c b | _=>none:Option R):=by
  intro k
  cases x with
  |v c=>exact .comp wTyp_det fun c=>.pure _ _
  |_=>exact .none
 cases k with
 |sl e=>
  cases x with
  |nl=>exact .pure _ _
  |lref i ver=>exact .bind fun xs=>.br (.pure _ _) .none
  |_=>exact .none
 |int k=>exact flat _
 |bool=>exact flat _
 |str=>exact flat _
 |any=>exact flat _
theorem takeCellsK_det:∀ {ks:List CK} {xs:List AVal} {b:List Blk},Det2 fun R K=>takeCellsK (R:=R) P ks xs b K
 |[],[],b=>.pure _ _
 |[],_ :: _,b=>.none
 |_ :: _,[],b=>.none
 |k :: ks,x :: xs,b=>by
  have:Det2 fun R (K:List CVal→List Blk→Option R)=>takeCellK P k x b fun c b=>takeCellsK P ks xs b fun l b=>K (c :: l) b:=
   .comp2 (G:=fun R K=>takeCellK (R:=R) P k x b K) takeCellK_det fun c b=>.comp2 (G:=fun R K=>takeCellsK (R:=R) P ks xs b K) takeCellsK_det fun l b=>.pure _ _
  exact this
theorem takeK_det {t:TypeId} {x:AVal} {b:List Blk}:Det2 fun R K=>takeK (R:=R) P t x b K:=by
 unfold takeK
 exact .comp wCells_det fun cs=>.br (.comp2 (G:=fun R K=>takeCellsK (R:=R) P (cks P t) cs b K) takeCellsK_det fun l b=>.pure _ _) .none
theorem takeAllK_det {t:TypeId}:∀ {xs:List AVal} {b:List Blk},Det2 fun R K=>takeAllK (R:=R) P t xs b K
 |[],b=>.pure _ _
 |x :: xs,b=>by
  have:Det2 fun R (K:List CVal→List Blk→Option R)=>takeK P t x b fun c b=>takeAllK P t xs b fun l b=>K (c :: l) b:=
   .comp2 (G:=fun R K=>takeK (R:=R) P t x b K) takeK_det fun c b=>.comp2 (G:=fun R K=>takeAllK (R:=R) P t xs b K) takeAllK_det fun l b=>.pure _ _
  exact this
theorem putEl_det {agg:Bool} {n off:Nat} {c d:CVal}:Det fun R K=>putEl (R:=R) agg n c off d K:=.br (.br (.pure _) (.br (.pure _) .none)) .none
theorem storeK_det {t:TypeId} {x y:AVal}:Det fun R K=>storeK (R:=R) P t b x y K:=by
 unfold storeK
 cases P.underlying t with
 |none=>exact .none
 |some d=>
  cases x with
  |lptr i off=>exact .bind fun cs=>wCells_det.comp fun l=>.br (.pure _) .none
  |lel i ver idx off=>
   exact .br (.comp2 (G:=fun R K=>takeK (R:=R) P t y b K) takeK_det fun d b=>.bind fun xs=>.bind fun c=>putEl_det.comp fun c'=>.pure _)
    (.bind fun d=>.bind fun xs=>.bind fun c=>putEl_det.comp fun c'=>.pure _)
  |lel2 i ver sv idx off idx2=>
   exact .br (.comp2 (G:=fun R K=>takeK (R:=R) P t y b K) takeK_det fun d b=>.bind fun xs=>.bind fun c=>.bind fun s=>.bind fun ys=>.br (.bind fun e=>.br (.pure _) .none) .none) .none
  |_=>exact .none
theorem fieldK_det {t:TypeId} {x:AVal} {f:Nat}:Det fun R K=>fieldK (R:=R) P t x f K:=by
 unfold fieldK
 cases P.underlying t with
 |none=>exact .none
 |some d=>
  cases d with
  |struct fs=>
   simp only
   cases fs[f]? with
   |none=>exact .none
   |some fd=>
    refine .br .none ?_
    cases x with
    |lptr i off=>exact .pure _
    |lel i ver idx off=>exact .pure _
    |v p=>exact .bind fun q=>.pure _
    |_=>exact .none
  |_=>exact .none
theorem indexAddrK_det {t:TypeId} {x ix:AVal}:Det fun R K=>indexAddrK (R:=R) P t b x ix K:=by
 unfold indexAddrK
 cases P.underlying t with
 |none=>exact .none
 |some d=>
  cases d with
  |slice e=>
   refine wIdx_det.comp fun n=>.br ?_ .none
   cases x with
   |lref i ver=>exact .bind fun xs=>.br (.pure _) .none
   |lsub i ver sv idx off=>exact .br (.bind fun ys=>.br (.pure _) .none) .none
   |v c=>exact .bind fun xs=>.bind fun d=>.br (.pure _) .none
   |_=>exact .none
  |array len e=>
   refine wIdx_det.comp fun n=>.br ?_ .none
   cases x with
   |lptr i off=>exact .pure _
   |lel i ver idx off=>exact .pure _
   |v p=>exact .bind fun q=>.pure _
   |_=>exact .none
  |_=>exact .none
theorem indexK_det {t:TypeId} {x ix:AVal}:Det fun R K=>indexK (R:=R) P t x ix K:=by
 unfold indexK
 cases P.underlying t with
 |none=>exact .none
 |some d=>
  cases d with
  |string=>exact wIdx_det.comp fun n=>wStr_det.comp fun s=>.br (.bind fun c=>.pure _) .none
  |array len e=>
   refine wIdx_det.comp fun n=>.br ?_ .none
   cases x with
   |v c=>exact .br (.bind fun d=>.pure _) .none
   |_=>exact .none
  |_=>exact .none
theorem wOpt_det {x:Option AVal} {d:Int}:Det fun R K=>wOpt (R:=R) x d K:=by
 cases x with
 |none=>exact .pure _
 |some a=>exact wIdx_det
theorem sliceK_det {t:TypeId} {x:AVal} {lo hi mx:Option AVal}:Det2 fun R K=>sliceK (R:=R) P t b x lo hi mx K:=by
 unfold sliceK
 cases mx with
 |some _=>
  simp only
  cases P.underlying t with
  |none=>exact .none
  |some d=>
   cases d with
   |slice e=>
    refine .br ?_ .none
    cases x with
    |v c=>exact .bind fun _=>.comp wIdx_det fun m=>.comp wOpt_det fun h=>.comp wOpt_det fun l=>.br (.pure _ _) .none
    |_=>exact .none
   |_=>exact .none
 |none=>
  simp only
  cases P.underlying t with
  |none=>exact .none
  |some d=>
   cases d with
   |string=>exact .comp wStr_det fun s=>.comp wOpt_det fun h=>.comp wOpt_det fun l=>.br (.pure _ _) .none
   |slice e=>
    refine .br ?_ .none
    cases x with
    |v c=>exact .bind fun xs=>.comp wOpt_det fun h=>.comp wOpt_det fun l=>.br (.pure _ _) .none
    |nl=>exact .comp wOpt_det fun h=>.comp wOpt_det fun l=>.br (.pure _ _) .none
    |lref i ver=>
     refine .bind fun xs=>?_
     cases lo with
     |none=>exact .comp wOpt_det fun h=>.br (.pure _ _) .none
     |some _=>
      cases hi with
      |none=>exact .comp wOpt_det fun h=>.br (.pure _ _) .none
      |some _=>exact .none
    |_=>exact .none
   |_=>exact .none
theorem clearK_det {t:TypeId} {x:AVal}:Det fun R K=>clearK (R:=R) P t b x K:=by
 unfold clearK
 cases P.underlying t with
 |none=>exact .none
 |some d=>
  cases d with
  |slice e=>
   simp only
   cases x with
   |nl=>exact .pure _
   |ltail i ver lo=>
    refine .bind fun xs=>.bind fun z=>?_
    cases z with
    |v c=>exact .br (.pure _) .none
    |_=>exact .none
   |_=>exact .none
  |_=>exact .none
theorem wApp_det {D:TypeId→Bool} {fs:Bool} {e:TypeId} {x:AVal}:Det3 fun R K=>wApp (R:=R) D fs P e b x K:=by
 unfold wApp
 refine .br (.comp wSl_det fun ys=>.br (.pure _ _ _) .none) ?_
 cases x with
 |nl=>exact .pure _ _ _
 |lref j ver=>exact .bind fun ys=>.br (.br (.pure _ _ _) .none) (.br (.pure _ _ _) .none)
 |v c=>exact .bind fun ys=>.br (.br (.pure _ _ _) (.pure _ _ _)) .none
 |_=>exact .none
theorem appendK_det {D:TypeId→Bool} {fs:Bool} {ty ty2:TypeId} {s x:AVal}:Det2 fun R K=>appendK (R:=R) D fs P b ty ty2 s x K:=by
 unfold appendK
 cases P.underlying ty with
 |none=>exact .none
 |some d=>
  cases d with
  |slice e=>
   refine .br ?_ .none
   refine .comp3 wApp_det fun ys d b=>?_
   cases s with
   |nl=>exact .br (.pure _ _) .none
   |lref i ver=>exact .bind fun xs=>.br (.pure _ _) .none
   |_=>exact .none
  |_=>exact .none
theorem buildSliceK_det {D:TypeId→Bool} {t:TypeId} {len:Nat} {parts:List (Nat × AVal)}:Det2 fun R K=>buildSliceK (R:=R) D P t len parts b K:=by
 unfold buildSliceK
 cases P.underlying t with
 |none=>exact .none
 |some d=>
  cases d with
  |slice e=>
   refine .bind fun l=>.br ?_ .none
   cases len with
   |zero=>exact .pure _ _
   |succ n=>exact .br (.comp2 (G:=fun R K=>takeAllK (R:=R) P e l b K) takeAllK_det fun cs b=>.pure _ _) (.bind fun cs=>.br (.pure _ _) .none)
  |_=>exact .none
theorem fillK_det {fs:Array Field}:∀ {parts:List (Nat × AVal)} {cs:List AVal},Det fun R K=>fillK (R:=R) P fs parts cs K
 |[],cs=>.pure _
 |(i,x) :: r,cs=>by
  unfold fillK
  cases fs[i]? with
  |none=>exact .none
  |some f=>exact wCells_det.comp fun l=>.br fillK_det .none
theorem fillArrK_det {agg:Bool} {sz:Nat}:∀ {parts:List (Nat × AVal)} {cs:List AVal},Det fun R K=>fillArrK (R:=R) agg sz parts cs K
 |[],cs=>.pure _
 |(i,x) :: r,cs=>wCells_det.comp fun l=>.br fillArrK_det .none
theorem buildK_det {t:TypeId} {parts:List (Nat × AVal)}:Det fun R K=>buildK (R:=R) P t parts K:=by
 unfold buildK
 refine .bind fun z=>wCells_det.comp fun cs=>?_
 cases P.underlying t with
 |none=>exact .none
 |some d=>
  cases d with
  |struct fs=>exact .br (fillK_det.comp fun l=>.pure _) .none
  |array n e=>exact .br (fillArrK_det.comp fun l=>.pure _) .none
  |_=>exact .none
theorem makeSliceK_det {D:TypeId→Bool} {t:TypeId} {x y:AVal}:Det2 fun R K=>makeSliceK (R:=R) D P t x y b K:=by
 unfold makeSliceK
 cases P.underlying t with
 |none=>exact .none
 |some d=>
  cases d with
  |slice e=>exact .comp wIdx_det fun n=>.comp wIdx_det fun m=>.br (.bind fun z=>.comp wCells_det fun zs=>.br (.bind fun cs=>.pure _ _) (.bind fun c=>.br (.pure _ _) .none)) .none
  |_=>exact .none
theorem convertK_det {src dst:TypeId} {x:AVal}:Det2 fun R K=>convertK (R:=R) P src dst x b K:=by
 unfold convertK
 cases P.underlying src with
 |none=>exact .none
 |some d1=>
  cases P.underlying dst with
  |none=>cases d1<;>exact .none
  |some d2=>
   cases d1<;>cases d2<;>first
    |exact .none
    |exact .comp wInt_det fun n=>.pure _ _
    |exact .comp wStr_det fun s=>.pure _ _
    |skip
   ·rename_i e
    simp only
    cases P.underlying e with
    |none=>exact .none
    |some d3=>
     cases d3 with
     |int k=>
      cases k<;>first
       |exact .none
       |exact .comp wStr_det fun s=>.br (.pure _ _) .none
     |_=>exact .none
   ·rename_i e
    simp only
    cases P.underlying e with
    |none=>exact .none
    |some d3=>
     cases d3 with
     |int k=>
      cases k<;>first
       |exact .none
       |exact .comp wSl_det fun xs=>.bind fun s=>.pure _ _
     |_=>exact .none
theorem wAgg_det {x:AVal}:Det fun R K=>wAgg (R:=R) x K:=by
 cases x with
 |v c=>exact ⟨c.asAgg,fun _ _=>rfl⟩
 |_=>exact .none
theorem binK_det {op:BinOp} {xt yt:TypeId} {x y:AVal}:Det fun R K=>binK (R:=R) P op xt x y yt K:=by
 unfold binK
 cases P.underlying xt with
 |none=>exact .none
 |some d=>
  cases d with
  |int k=>exact .br (wInt_det.comp fun a=>wIdx_det.comp fun b=>.bind fun c=>.pure _) (wInt_det.comp fun a=>wInt_det.comp fun b=>.bind fun c=>.pure _)
  |string=>
   refine wStr_det.comp fun a=>wStr_det.comp fun b=>?_
   cases op with
   |add=>exact .br (.pure _) .none
   |eql=>exact .pure _
   |neq=>exact .pure _
   |lss=>exact .pure _
   |_=>exact .none
  |bool=>
   refine wBool_det.comp fun a=>wBool_det.comp fun b=>?_
   cases op with
   |eql=>exact .pure _
   |neq=>exact .pure _
   |_=>exact .none
  |struct fs=>
   refine .br .none (wAgg_det.comp fun a=>wAgg_det.comp fun b=>.bind fun z=>?_)
   cases op with
   |eql=>exact .pure _
   |neq=>exact .pure _
   |_=>exact .none
  |_=>exact .none
theorem eqK_det {op:BinOp} {xt:TypeId} {x y:AVal}:Det fun R K=>eqK (R:=R) P op xt x y K:=by
 unfold eqK
 cases P.underlying xt with
 |none=>exact .none
 |some d=>
  cases d with
  |interface ms=>
   cases y with
   |v c'=>
    cases x with
    |v c=>cases c'<;>cases c<;>first | exact .none | (cases op<;>first | exact .none | exact .pure _)
    |_=>cases c'<;>exact .none
   |_=>exact .none
  |slice e=>
   cases y with
   |nl=>
    cases x with
    |v c=>cases c<;>first | exact .none | (cases op<;>first | exact .none | exact .pure _)
    |_=>exact .none
   |_=>exact .none
  |_=>exact .none
theorem unK_det {op:UnOp} {xt:TypeId} {x:AVal}:Det fun R K=>unK (R:=R) P op xt x K:=by
 unfold unK
 cases op with
 |not=>exact wBool_det.comp fun b=>.pure _
 |neg=>exact .bind fun k=>wInt_det.comp fun n=>.pure _
 |_=>exact .none
theorem lenK_det {t:TypeId} {x:AVal}:Det fun R K=>lenK (R:=R) P t b x K:=by
 unfold lenK
 cases P.underlying t with
 |none=>exact .none
 |some d=>
  cases d with
  |string=>exact wStr_det.comp fun s=>.pure _
  |slice e=>exact wSl_det.comp fun s=>.pure _
  |array n e=>exact .pure _
  |_=>exact .none
theorem openCells_det:∀ {ks:List CK} {cs:List CVal} {b:List Blk},Det2 fun R K=>openCells (R:=R) P ks cs b K
 |[],[],b=>.pure _ _
 |[],_ :: _,b=>.none
 |k :: _,[],b=>by cases k<;>exact .none
 |k :: ks,c :: cs,b=>by
  have flat:Det2 fun R (K:List AVal→List Blk→Option R)=>openCells P ks cs b fun l b=>K (.v c :: l) b:=.comp2 (G:=fun R K=>openCells (R:=R) P ks cs b K) openCells_det fun l b=>.pure _ _
  cases k with
  |sl e=>
   have:Det2 fun R (K:List AVal→List Blk→Option R)=>c.asSl.bind fun xs=>br (decide (P.cellsOf e ≠ 0)) (openCells P ks cs (b ++ [⟨0,.arr ⟨true,false,0⟩ (P.cellsOf e) xs⟩]) fun l b'=>K (.lref b.length 0 :: l) b') none:=
    .bind fun xs=>.br (.comp2 (G:=fun R K=>openCells (R:=R) P ks cs (b ++ [⟨0,.arr ⟨true,false,0⟩ (P.cellsOf e) xs⟩]) K) openCells_det fun l b=>.pure _ _) .none
   exact this
  |int k=>exact flat
  |bool=>exact flat
  |str=>exact flat
  |any=>exact flat
theorem openK_det {t:TypeId} {c:CVal} {b:List Blk}:Det2 fun R K=>openK (R:=R) P t c b K:=by
 unfold openK
 exact .br (.br (.br (.comp explodeC_det fun cs=>.comp2 (G:=fun R K=>openCells (R:=R) P (cks P t) cs b K) openCells_det fun l b=>.pure _ _) .none)
  (.br (.comp2 (G:=fun R K=>openCells (R:=R) P (cks P t) [c] b K) openCells_det fun l b=>.pure _ _) .none)) .none
theorem openPCells_det:∀ {ks:List (Nat × CK)} {xs:List CVal} {b:List Blk},Det2 fun R K=>openPCells (R:=R) P ks xs b K
 |[],[],b=>.pure _ _
 |[],_ :: _,b=>.none
 |(0,k) :: ks,[],b=>.none
 |(1,k) :: ks,[],b=>.none
 |(n + 2,k) :: ks,[],b=>by
  have:∀ R (K:List AVal→List Blk→Option R),openPCells P ((n + 2,k) :: ks) [] b K=none:=fun R K=>by cases k<;>simp [openPCells]
  exact ⟨none,fun R K=>this R K⟩
 |(0,k) :: ks,c :: xs,b=>by
  have:Det2 fun R (K:List AVal→List Blk→Option R)=>openPCells P ks xs b fun l b=>K (.v c :: l) b:=
   .comp2 (G:=fun R K=>openPCells (R:=R) P ks xs b K) openPCells_det fun l b=>.pure _ _
  exact this
 |(1,k) :: ks,x :: xs,b=>by
  have:Det2 fun R (K:List AVal→List Blk→Option R)=>openCells P [k] [x] b fun a b=>openPCells P ks xs b fun l b=>K (a ++ l) b:=
   .comp2 (G:=fun R K=>openCells (R:=R) P [k] [x] b K) openCells_det fun c b=>.comp2 (G:=fun R K=>openPCells (R:=R) P ks xs b K) openPCells_det fun l b=>.pure _ _
  exact this
 |(n + 2,k) :: ks,c :: xs,b=>by
  cases k with
  |sl e=>
   have:Det2 fun R (K:List AVal→List Blk→Option R)=>c.asSl.bind fun ys=>Abs.br (decide (P.cellsOf e ≠ 0)) (openPCells P ks xs (b ++ [⟨0,.arr ⟨false,false,0⟩ (P.cellsOf e) ys⟩]) fun l b'=>K (.lref b.length 0 :: l) b') none:=
    .bind fun ys=>.br (.comp2 (G:=fun R K=>openPCells (R:=R) P ks xs (b ++ [⟨0,.arr ⟨false,false,0⟩ (P.cellsOf e) ys⟩]) K) openPCells_det fun l b=>.pure _ _) .none
   exact this
  |_=>exact ⟨none,fun R K=>by simp [openPCells]⟩
theorem openPK_det {t:TypeId} {c:CVal} {b:List Blk}:Det2 fun R K=>openPK (R:=R) P t c b K:=by
 unfold openPK
 split
 ·exact openK_det
 ·exact .bind fun q=>.br (.comp explodeC_det fun cs=>.comp2 (G:=fun R K=>openPCells (R:=R) P _ cs b K) openPCells_det fun l b=>.pure _ _) .none
 ·exact .br (.comp explodeC_det fun cs=>.comp2 (G:=fun R K=>openPCells (R:=R) P _ cs b K) openPCells_det fun l b=>.pure _ _) .none
 ·exact .comp2 (G:=fun R K=>openPCells (R:=R) P _ [c] b K) openPCells_det fun l b=>.pure _ _
theorem openAllK_det:∀ {ts:List TypeId} {cs:List CVal} {b:List Blk},Det2 fun R K=>openAllK (R:=R) P ts cs b K
 |[],[],b=>.pure _ _
 |[],_ :: _,b=>.none
 |_ :: _,[],b=>.none
 |t :: ts,c :: cs,b=>by
  have:Det2 fun R (K:List AVal→List Blk→Option R)=>openPK P t c b fun x b=>openAllK P ts cs b fun l b=>K (x :: l) b:=
   .comp2 (G:=fun R K=>openPK (R:=R) P t c b K) openPK_det fun x b=>.comp2 (G:=fun R K=>openAllK (R:=R) P ts cs b K) openAllK_det fun l b=>.pure _ _
  exact this
theorem openRK_det {ts:List TypeId} {c:CVal} {b:List Blk}:Det2 fun R K=>openRK (R:=R) P ts c b K:=by
 unfold openRK
 split
 ·exact openPK_det
 ·exact .bind fun cs=>.comp explodeL_det fun cs=>.comp2 (G:=fun R K=>openAllK (R:=R) P ts cs b K) openAllK_det fun l b=>.pure _ _
theorem promoCells_det {dp:Bool}:∀ {ks:List CK} {cs:List AVal} {b:List Blk},Det2 fun R K=>promoCells (R:=R) dp P ks cs b K
 |[],cs,b=>by
  have:Det2 fun R (K:List AVal→List Blk→Option R)=>K cs b:=.pure _ _
  exact this
 |k :: _,[],b=>by cases k<;>exact .pure _ _
 |k :: ks,x :: cs,b=>by
  have other:Det2 fun R (K:List AVal→List Blk→Option R)=>promoCells dp P ks cs b fun l b=>K (x :: l) b:=.comp2 (G:=fun R K=>promoCells (R:=R) dp P ks cs b K) promoCells_det fun l b=>.pure _ _
  cases k with
  |sl e=>
   cases x with
   |nl=>
    have:Det2 fun R (K:List AVal→List Blk→Option R)=>promoCells dp P ks cs (b ++ [⟨0,.arr ⟨dp,false,0⟩ (P.cellsOf e) []⟩]) fun l b'=>K (.lref b.length 0 :: l) b':=
     .comp2 (G:=fun R K=>promoCells (R:=R) dp P ks cs (b ++ [⟨0,.arr ⟨dp,false,0⟩ (P.cellsOf e) []⟩]) K) promoCells_det fun l b=>.pure _ _
    exact this
   |_=>exact other
  |int k=>exact other
  |bool=>exact other
  |str=>exact other
  |any=>exact other
theorem promo_det {E:Env} {g:FuncId}:∀ (args:List AVal) {j:Nat} {b:List Blk},Det2 fun R K=>promo (R:=R) E g j args b K
 |[],_,b=>.pure _ _
 |x :: r,j,b=>by
  have rest:Det2 fun R (K:List AVal→List Blk→Option R)=>promo E g (j + 1) r b fun l b=>K (x :: l) b:=.comp2 (promo_det r (j:=j + 1) (b:=b)) fun l b=>.pure _ _
  cases x with
  |nl=>
   exact .br (.bind fun t=>.comp2 (G:=fun R K=>promoCells (R:=R) (E.dp g j) E.P (cks E.P t) [.nl] b K) promoCells_det fun l b=>.comp2 (G:=fun R K=>promo (R:=R) E g (j + 1) r b K) (promo_det r) fun l' b=>.pure _ _) rest
  |agg cs=>
   exact .br (.bind fun t=>.comp2 (G:=fun R K=>promoCells (R:=R) (E.dp g j) E.P (cks E.P t) cs b K) promoCells_det fun l b=>.comp2 (G:=fun R K=>promo (R:=R) E g (j + 1) r b K) (promo_det r) fun l' b=>.pure _ _) rest
  |_=>exact rest
theorem focusK_det {agg:Bool} {n i ver sv idx off:Nat} {b:List Blk}:Det2 fun R K=>focusK (R:=R) agg n b i ver sv idx off K:=.bind fun xs=>.br (.bind fun c=>.bind fun d=>.bind fun ys=>.br (.pure _ _) .none) .none
theorem focusArgs_det {E:Env} {g:FuncId}:∀ (args:List AVal) {j:Nat} {b:List Blk},Det3 fun R K=>focusArgs (R:=R) E g j args b K
 |[],_,b=>.pure _ _ _
 |x :: r,j,b=>by
  have rest:Det3 fun R (K:List AVal→List (Nat × Nat)→List Blk→Option R)=>focusArgs E g (j + 1) r b fun l fs b=>K (x :: l) fs b:=.comp3 (focusArgs_det r (j:=j + 1) (b:=b)) fun l fs b=>.pure _ _ _
  cases x with
  |lsub i ver sv idx off=>
   refine .br (.bind fun t=>?_) rest
   cases E.P.underlying t with
   |none=>exact .none
   |some d=>
    cases d with
    |slice e=>
     exact .comp2 (G:=fun R K=>focusK (R:=R) (aggT E.P e) (E.P.cellsOf e) b i ver sv idx off K) focusK_det fun k b=>.comp3 (G:=fun R K=>focusArgs (R:=R) E g (j + 1) r b K) (focusArgs_det r) fun l fs b=>.pure _ _ _
    |_=>exact .none
  |_=>exact rest
theorem pushRefs_det {b:List Blk}:∀ {cs:List AVal} {ids:List (Nat × AM)},Det fun R K=>pushRefs (R:=R) b cs ids K
 |[],ids=>.pure _
 |x :: cs,ids=>by
  have rest:Det fun R (K:List (Nat × AM)→Option R)=>pushRefs b cs ids K:=pushRefs_det
  cases x with
  |lref i ver=>
   refine .br ?_ rest
   cases idxOf ids i with
   |none=>exact pushRefs_det
   |some _=>exact .none
  |_=>exact rest
theorem handPtr_det {h:Hand} {i:Nat}:Det2 fun R K=>handPtr (R:=R) h i K:=by
 unfold handPtr
 cases idxOf h.ids i with
 |none=>exact .bind fun cs=>.comp pushRefs_det fun ids=>.pure _ _
 |some j=>exact .pure _ _
theorem handCaps_det:∀ (caps:List AVal) {h:Hand},Det2 fun R K=>handCaps (R:=R) caps h K
 |[],h=>.pure _ _
 |x :: r,h=>by
  cases x with
  |v c=>
   have:Det2 fun R K=>handCaps (R:=R) r h fun l h=>K (.v c :: l) h:=.comp2 (handCaps_det r) fun l h=>.pure _ _
   exact this
  |lptr i off=>
   cases off with
   |zero=>
    have:Det2 fun R K=>handPtr (R:=R) h i fun a h=>handCaps r h fun l h=>K (a :: l) h:=
     .comp2 (G:=fun R K=>handPtr (R:=R) h i K) handPtr_det fun a h=>.comp2 (G:=fun R K=>handCaps (R:=R) r h K) (handCaps_det r) fun l h=>.pure _ _
    exact this
   |succ n=>exact .none
  |_=>exact .none
theorem handRef_det {am:AM} {i ver:Nat} {h:Hand}:Det2 fun R K=>handRef (R:=R) am i ver h K:=by
 unfold handRef
 refine .bind fun xs=>?_
 cases idxOf h.ids i with
 |none=>exact .pure _ _
 |some _=>exact .none
theorem handCells_det {am:AM}:∀ (cs:List AVal) {h:Hand},Det2 fun R K=>handCells (R:=R) am cs h K
 |[],h=>.pure _ _
 |x :: r,h=>by
  cases x with
  |v c=>
   have:Det2 fun R K=>handCells (R:=R) am r h fun l h=>K (.v c :: l) h:=.comp2 (handCells_det r) fun l h=>.pure _ _
   exact this
  |lref i ver=>
   have:Det2 fun R K=>handRef (R:=R) am i ver h fun a h=>handCells am r h fun l h=>K (a :: l) h:=
    .comp2 (G:=fun R K=>handRef (R:=R) am i ver h K) handRef_det fun a h=>.comp2 (G:=fun R K=>handCells (R:=R) am r h K) (handCells_det r) fun l h=>.pure _ _
   exact this
  |_=>exact .none
theorem handA_det {m:PM} {x:AVal} {h:Hand}:Det2 fun R K=>handA (R:=R) m x h K:=by
 cases x with
 |v c=>exact .pure _ _
 |nl=>cases m<;>exact .pure _ _
 |lref i ver=>
  cases m with
  |bor=>exact .bind fun xs=>.pure _ _
  |cls=>exact .bind fun xs=>.pure _ _
  |pass=>exact handRef_det
  |inp=>exact handRef_det
  |own=>exact handRef_det
  |nil=>exact handRef_det
 |lsub i ver sv idx off=>
  cases m with
  |bor=>exact .bind fun xs=>.pure _ _
  |_=>exact .none
 |lptr i off=>
  cases off with
  |zero=>exact handPtr_det
  |succ n=>exact .none
 |func g caps=>
  have:Det2 (α:=AVal) fun R K=>handCaps (R:=R) caps h fun l h=>K (.func g l) h:=.comp2 (handCaps_det caps) fun l h=>.pure _ _
  exact this
 |agg cs=>
  have cells:∀ am,Det2 (α:=AVal) fun R K=>handCells (R:=R) am cs h fun l h=>K (.agg l) h:=fun am=>.comp2 (handCells_det cs) fun l h=>.pure _ _
  cases m with
  |bor=>exact .bind fun l=>.pure _ _
  |inp=>exact cells .fix
  |own=>exact cells .gone
  |cls=>exact .bind fun l=>.pure _ _
  |pass=>exact .bind fun l=>.pure _ _
  |nil=>exact .bind fun l=>.pure _ _
 |_=>exact .none
theorem handAll_det {pm:Nat→PM}:∀ {args:List AVal} {j:Nat} {h:Hand},Det fun R K=>handAll (R:=R) pm j args h K
 |[],j,h=>.pure _
 |x :: r,j,h=>.comp2 handA_det fun a h=>handAll_det
theorem boxCells_det {ids:List (Nat × AM)}:∀ {cs:List AVal} {b:List Blk},Det2 fun R K=>boxCells (R:=R) ids cs b K
 |[],b=>.pure _ _
 |x :: r,b=>by
  have other:Det2 fun R (K:List AVal→List Blk→Option R)=>(closeA b x).bind fun c=>boxCells ids r (killA x b) fun l b=>K (.v c :: l) b:=
   .bind fun c=>.comp2 (G:=fun R K=>boxCells (R:=R) ids r (killA x b) K) boxCells_det fun l b=>.pure _ _
  cases x with
  |lref i ver=>
   unfold boxCells
   cases idxOf ids i with
   |some j=>exact .br (.comp2 (G:=fun R K=>boxCells (R:=R) ids r b K) boxCells_det fun l b=>.pure _ _) .none
   |none=>exact .bind fun xs=>.comp2 (G:=fun R K=>boxCells (R:=R) ids r (kill b i) K) boxCells_det fun l b=>.pure _ _
  |_=>exact other
theorem handBlks_det {ids0:List (Nat × AM)}:∀ {ids:List (Nat × AM)} {b:List Blk},Det2 fun R K=>handBlks (R:=R) ids0 ids b K
 |[],b=>.pure _ _
 |i :: r,b=>by
  unfold handBlks
  cases b[i.1]? with
  |none=>exact .none
  |some blk=>
   obtain ⟨ver,bd⟩:=blk
   cases bd with
   |arr m sz xs=>exact .br .none (.comp2 (G:=fun R K=>handBlks (R:=R) ids0 r b K) handBlks_det fun l b=>.pure _ _)
   |box cs=>exact .comp2 (G:=fun R K=>boxCells (R:=R) ids0 cs b K) boxCells_det fun xs b=>.comp2 (G:=fun R K=>handBlks (R:=R) ids0 r b K) handBlks_det fun l b=>.pure _ _
   |hole m sz xs c idx off k=>exact .none
   |dead=>exact .none
theorem backCells_det:∀ {o:List (Option Nat)} {l:List CVal} {b:List Blk},Det2 fun R K=>backCells (R:=R) o l b K
 |[],[],b=>.pure _ _
 |[],_ :: _,b=>.none
 |a :: _,[],b=>by cases a<;>exact .none
 |none :: o,c :: l,b=>by
  have:Det2 fun R (K:List AVal→List Blk→Option R)=>backCells o l b fun cs b=>K (.v c :: cs) b:=.comp2 (G:=fun R K=>backCells (R:=R) o l b K) backCells_det fun l b=>.pure _ _
  exact this
 |some sz :: o,c :: l,b=>by
  have:Det2 fun R (K:List AVal→List Blk→Option R)=>c.asSl.bind fun ys=>backCells o l (b ++ [⟨0,.arr ⟨true,false,0⟩ sz ys⟩]) fun cs b'=>K (.lref b.length 0 :: cs) b':=
   .bind fun ys=>.comp2 (G:=fun R K=>backCells (R:=R) o l (b ++ [⟨0,.arr ⟨true,false,0⟩ sz ys⟩]) K) backCells_det fun l b=>.pure _ _
  exact this
theorem backBlks_det:∀ {ids:List (Nat × AM)} {ps:List PSh} {ls:List (List CVal)} {b:List Blk},Det fun R K=>backBlks (R:=R) ids ps ls b K
 |[],[],ls,b=>by
  have:Det fun R (K:List Blk→Option R)=>K b:=.pure _
  exact this
 |[],_ :: _,ls,b=>.none
 |_ :: _,[],ls,b=>.none
 |_ :: _,.arr _ _ _ :: _,[],b=>.none
 |_ :: _,.box _ :: _,[],b=>.none
 |i :: r,.arr _ _ _ :: ps,l :: ls,b=>by
  unfold backBlks
  cases b[i.1]? with
  |none=>exact .none
  |some blk=>
   obtain ⟨ver,bd⟩:=blk
   cases bd with
   |arr m sz xs=>
    simp only
    cases i.2 with
    |back=>exact backBlks_det
    |fix=>exact backBlks_det
    |gone=>exact backBlks_det
   |_=>exact .none
 |i :: r,.box o :: ps,l :: ls,b=>by
  unfold backBlks
  cases b[i.1]? with
  |none=>exact .none
  |some blk=>
   obtain ⟨ver,bd⟩:=blk
   cases bd with
   |box cs=>exact explodeL_det.comp fun xs=>.comp2 (G:=fun R K=>backCells (R:=R) o xs b K) backCells_det fun cs b=>backBlks_det
   |_=>exact .none
theorem unfocusK_det {i k:Nat} {b:List Blk}:Det fun R K=>unfocusK (R:=R) b i k K:=by
 unfold unfocusK
 split
 ·exact .br (.pure _) .none
 ·exact .none
theorem unfocusAll_det:∀ {fs:List (Nat × Nat)} {b:List Blk},Det fun R K=>unfocusAll (R:=R) fs b K
 |[],b=>.pure _
 |p :: r,b=>by
  have:Det fun R (K:List Blk→Option R)=>unfocusAll r b fun b=>unfocusK b p.1 p.2 K:=.comp (G:=fun R K=>unfocusAll (R:=R) r b K) unfocusAll_det fun b=>unfocusK_det
  exact this
theorem backRK_det {E:Env} {g:FuncId} {ids:List (Nat × AM)} {c:CVal} {b:List Blk}:Det2 fun R K=>backRK (R:=R) E g ids c b K:=by
 unfold backRK
 cases E.ow g with
 |some ts=>exact openRK_det
 |none=>
  simp only
  cases E.rm g with
  |none=>exact .pure _ _
  |some j=>
   simp only
   cases ids[j]? with
   |none=>exact .none
   |some i=>exact .pure _ _
theorem callK_det {E:Env} {C:CallT} {g:FuncId} {args:List AVal}:Det2 fun R K=>callK (R:=R) E C g args b K:=by
 unfold callK
 exact .br .none <| .comp2 (promo_det args) fun args1 b1=>.comp3 (focusArgs_det args1) fun args2 fs b2=>.comp handAll_det fun h=>.comp2 handBlks_det fun pbs b3=>.br (.bind fun r=>.br .none (.comp explodeL_det fun ls=>.comp backBlks_det fun b4=>.comp unfocusAll_det fun b5=>backRK_det)) .none
theorem callV_det {E:Env} {C:CallT} {c:CVal} {args:List AVal}:Det2 fun R K=>callV (R:=R) E C c args b K:=by
 unfold callV
 cases allV args with
 |some cs=>exact .bind fun r=>.pure _ _
 |none=>
  cases c with
  |func g caps=>exact callK_det
  |_=>exact .none
theorem closeRK_det {agg:Bool} {x:AVal} {b:List Blk}:Det2 fun R K=>closeRK (R:=R) b agg x K:=by
 have other:∀ x:AVal,Det2 fun R (K:CVal→List Blk→Option R)=>(closeA b x).bind fun c=>K c (killA x b):=fun x=>.bind fun c=>.pure _ _
 cases x with
 |lptr i off=>
  cases off with
  |zero=>
   have:Det2 fun R (K:CVal→List Blk→Option R)=>(boxOf b i).bind fun cs=>(closeL b cs).bind fun xs=>br (agg || decide (cs.length=1)) (K (packFp agg xs) (kill (killL cs b) i)) none:=
    .bind fun cs=>.bind fun xs=>.br (.pure _ _) .none
   exact this
  |succ n=>exact other (.lptr i (n + 1))
 |v c=>exact other (.v c)
 |nl=>exact other .nl
 |lel i ver idx off=>exact other (.lel i ver idx off)
 |lref i ver=>exact other (.lref i ver)
 |lsub i ver sv idx off=>exact other (.lsub i ver sv idx off)
 |ltail i ver lo=>exact other (.ltail i ver lo)
 |lel2 i ver sv idx off idx2=>exact other (.lel2 i ver sv idx off idx2)
 |agg cs=>exact other (.agg cs)
 |func g cs=>exact other (.func g cs)
 |tup cs=>exact other (.tup cs)
 |un=>exact other .un
theorem closeCapsK_det:∀ {caps:List AVal} {ags:List Bool} {b:List Blk},Det2 fun R K=>closeCapsK (R:=R) b ags caps K
 |[],ags,b=>by
  have:Det2 fun R (K:List CVal→List Blk→Option R)=>K [] b:=.pure _ _
  cases ags<;>exact this
 |x :: r,[],b=>.none
 |x :: r,ag :: ags,b=>by
  have:Det2 fun R (K:List CVal→List Blk→Option R)=>closeRK b ag x fun c b=>closeCapsK b ags r fun cs b=>K (c :: cs) b:=
   .comp2 (G:=fun R K=>closeRK (R:=R) b ag x K) closeRK_det fun c b=>.comp2 (G:=fun R K=>closeCapsK (R:=R) b ags r K) closeCapsK_det fun cs b=>.pure _ _
  exact this
theorem Det2.of1 {α β:Type} {y:β} {F:(R:Type)→(α→Option R)→Option R} (h:Det F):Det2 fun R K=>F R fun x=>K x y:=.comp h fun x=>.pure _ _
theorem opK_det {E:Env} {C:CallT} {o:Oper} {t:List AVal}:Det2 fun R K=>opK (R:=R) E C o t b K:=by
 unfold opK
 cases o.op with
 |move x=>exact .pure _ _
 |assign x=>exact .pure _ _
 |pick c x y=>
  refine .comp wBool_det fun g=>?_
  have dflt:∀ (p r:AVal),Det2 fun R K=>br (R:=R) g (K p b) (K r b):=fun p r=>.br (.pure _ _) (.pure _ _)
  generalize evalA t x=p
  generalize evalA t y=r
  cases p with
  |v c=>
   cases r with
   |v c'=>exact .pure _ _
   |_=>exact dflt _ _
  |_=>exact dflt _ _
 |alloc e=>exact .bind fun z=>.comp wCells_det fun cs=>.pure _ _
 |box e x=>
  refine .comp wCells_det fun cs=>?_
  cases E.frzB o with
  |none=>exact .pure _ _
  |some ag=>exact .comp2 (G:=fun R K=>closeRK (R:=R) (b ++ [⟨0,.box cs⟩]) ag (.lptr b.length 0) K) closeRK_det fun c b=>.pure _ _
 |build ty ps=>exact .of1 buildK_det
 |buildSlice ty n ps=>exact buildSliceK_det
 |load ty x=>exact .of1 loadK_det
 |store ty x y=>exact .comp (G:=fun R K=>storeK (R:=R) E.P ty (cond (E.thw _) (thawA (evalA t y) b) b) (evalA t x) (evalA t y) K) storeK_det fun b=>.pure _ _
 |nilCheck x=>
  simp only
  cases evalA t x with
  |lptr i off=>exact .pure _ _
  |lel i ver idx off=>exact .pure _ _
  |lel2 i ver sv idx off idx2=>exact .pure _ _
  |v c=>exact .bind fun p=>.pure _ _
  |_=>exact .none
 |binOp op xt x y yt=>
  simp only
  cases hd:E.P.underlying xt with
  |none=>exact .of1 binK_det
  |some d=>
   cases d with
   |interface ms=>
    cases y with
    |const c=>exact .of1 eqK_det
    |_=>exact .none
   |slice e=>
    cases y with
    |const c=>exact .of1 eqK_det
    |_=>exact .none
   |_=>exact .of1 binK_det
 |unOp op xt x=>exact .of1 unK_det
 |convert s d x=>exact convertK_det
 |makeFunc fn first caps=>
  cases fn with
  |func g=>
   refine .br ?_ .none
   cases E.frz g with
   |some ags=>exact .comp2 (G:=fun R K=>closeCapsK (R:=R) b ags (caps.toList.map (evalA t)) K) closeCapsK_det fun cs b=>.pure _ _
   |none=>
    simp only
    cases allClosed (caps.toList.map (evalA t)) with
    |none=>exact .pure _ _
    |some cs=>exact .pure _ _
  |_=>exact .none
 |makeSlice ty n m=>exact makeSliceK_det
 |slice ty x lo hi mx=>exact sliceK_det
 |fieldAddr ty x f=>exact .of1 fieldK_det
 |indexAddr ty x ix=>exact .of1 indexAddrK_det
 |index ty x ix=>exact .of1 indexK_det
 |extract x i=>
  simp only
  cases evalA t x with
  |v c=>exact .bind fun cs=>.bind fun d=>.pure _ _
  |tup cs=>exact .bind fun d=>.pure _ _
  |_=>exact .none
 |call c=>
  simp only
  cases c.callee with
  |value f=>
   have gen:Det2 fun R (K:AVal→List Blk→Option R)=>(match evalA t f with
     |.v d=>callV (E.at o) C d (c.args.toList.map (evalA t)) b K
     |.func g caps=>callK (E.at o) C g (c.args.toList.map (evalA t) ++ caps) b K
     |_=>none:Option R):=by
    cases evalA t f with
    |v c'=>exact callV_det
    |func g caps=>exact callK_det
    |_=>exact .none
   cases f with
   |func g=>exact callK_det
   |_=>exact gen
  |invoke x m=>exact .none
  |builtin bi=>
   generalize c.args.toList=args
   generalize c.argTypes.toList=tys
   cases bi with
   |len=>
    match args,tys with
    |[x],ty :: _=>exact .of1 lenK_det
    |[],_=>exact .none
    |_ :: _ :: _,_=>exact .none
    |[_],[]=>exact .none
   |append=>
    match args,tys with
    |[x,y],[ty,ty2]=>exact appendK_det
    |[],_=>exact .none
    |[_],_=>exact .none
    |_ :: _ :: _ :: _,_=>exact .none
    |[_,_],[]=>exact .none
    |[_,_],[_]=>exact .none
    |[_,_],_ :: _ :: _ :: _=>exact .none
   |clear=>
    match args,tys with
    |[x],ty :: _=>exact .comp (G:=fun R K=>clearK (R:=R) E.P ty b (evalA t x) K) clearK_det fun b=>.pure _ _
    |[],_=>exact .none
    |_ :: _ :: _,_=>exact .none
    |[_],[]=>exact .none
   |max=>
    match args with
    |[x,y]=>exact .bind fun k=>.comp wInt_det fun m=>.comp wInt_det fun n=>.pure _ _
    |[]=>exact .none
    |[_]=>exact .none
    |_ :: _ :: _ :: _=>exact .none
   |min=>
    match args with
    |[x,y]=>exact .bind fun k=>.comp wInt_det fun m=>.comp wInt_det fun n=>.pure _ _
    |[]=>exact .none
    |[_]=>exact .none
    |_ :: _ :: _ :: _=>exact .none
   |_=>exact .none
 |_=>exact .none
end Go.Proofs.Ytognghbhdalckaa.Abs
namespace Go.Proofs.Ytognghbhdalckaa.Abs
open Go
section
variable {E:Env} {C:CallT} {o:Oper} {t t':List AVal} {b:List Blk} {R:Type}
theorem mapParts_congr {ps:Array (Nat × Operand)} (h:∀ x ∈ ps.map (·.2),evalA t x=evalA t' x):mapParts t ps=mapParts t' ps:=by
 unfold mapParts
 refine List.map_congr_left fun p hp=>?_
 rw [h p.2 (Array.mem_map.2 ⟨p,by simpa using hp,rfl⟩)]
theorem args_congr {c:Call} (h:∀ x ∈ c.operands,evalA t x=evalA t' x):c.args.toList.map (evalA t)=c.args.toList.map (evalA t'):=
 List.map_congr_left fun x hx=>h x (by simp [Call.operands];exact .inr (by simpa using hx))
theorem opK_congr (h:∀ x ∈ o.op.operands,evalA t x=evalA t' x) {K:AVal→List Blk→Option R}:opK E C o t b K=opK E C o t' b K:=by
 obtain ⟨dst,op,type,pos,after,guard⟩:=o
 unfold opK
 cases op<;>simp only [Op.operands] at h<;>simp only []
 case move x=>rw [h x (by simp)]
 case assign x=>rw [h x (by simp)]
 case pick c x y=>rw [h c (by simp),h x (by simp),h y (by simp)]
 case box e x=>rw [h x (by simp)]
 case build ty ps=>rw [mapParts_congr fun x hx=>h x (by simpa using hx)]
 case buildSlice ty n ps=>rw [mapParts_congr fun x hx=>h x (by simpa using hx)]
 case load ty x=>rw [h x (by simp)]
 case store ty x y=>rw [h x (by simp),h y (by simp)]
 case nilCheck x=>rw [h x (by simp)]
 case binOp op xt x y yt=>rw [h x (by simp),h y (by simp)]
 case unOp op xt x=>rw [h x (by simp)]
 case convert s d x=>rw [h x (by simp)]
 case makeFunc fn first caps=>
  have e:caps.toList.map (evalA t)=caps.toList.map (evalA t'):=List.map_congr_left fun x hx=>h x (by simp;exact .inr (by simpa using hx))
  cases fn<;>simp only [e]
 case makeSlice ty n m=>rw [h n (by simp),h m (by simp)]
 case slice ty x lo hi mx=>
  have e1:lo.map (evalA t)=lo.map (evalA t'):=by cases lo<;>simp;exact h _ (by simp)
  have e2:hi.map (evalA t)=hi.map (evalA t'):=by cases hi<;>simp;exact h _ (by simp)
  have e3:mx.map (evalA t)=mx.map (evalA t'):=by cases mx<;>simp;exact h _ (by simp)
  rw [h x (by simp),e1,e2,e3]
 case fieldAddr ty x f=>rw [h x (by simp)]
 case indexAddr ty x ix=>rw [h x (by simp),h ix (by simp)]
 case index ty x ix=>rw [h x (by simp),h ix (by simp)]
 case extract x i=>rw [h x (by simp)]
 case call c=>
  have e:=args_congr h
  have e':∀ x ∈ c.args.toList,evalA t x=evalA t' x:=fun x hx=>h x (by simp [Call.operands];exact .inr (by simpa using hx))
  cases hc:c.callee with
  |value f=>
   have hf:evalA t f=evalA t' f:=h f (by simp [Call.operands,hc])
   cases f<;>simp only [hf,e]
  |invoke x m=>rfl
  |builtin bi=>
   cases bi<;>simp only []
   case len=>
    split
    ·rename_i x ty rest hx hty
     rw [e' x (by rw [hx];simp)]
    ·rfl
   case append=>
    split
    ·rename_i x y ty ty2 hx hty
     rw [e' x (by rw [hx];simp),e' y (by rw [hx];simp)]
    ·rfl
   case clear=>
    split
    ·rename_i x ty rest hx hty
     rw [e' x (by rw [hx];simp)]
    ·rfl
   case max=>
    split
    ·rename_i x y hx
     rw [e' x (by rw [hx];simp),e' y (by rw [hx];simp)]
    ·rfl
   case min=>
    split
    ·rename_i x y hx
     rw [e' x (by rw [hx];simp),e' y (by rw [hx];simp)]
    ·rfl
theorem roOp_congr (h:∀ x ∈ o.op.operands,evalA t x=evalA t' x):roOp E o t=roOp E o t':=by
 obtain ⟨dst,op,type,pos,after,guard⟩:=o
 unfold roOp
 cases op<;>simp only [Op.operands] at h<;>simp only []
 case slice ty x lo hi mx=>rw [h x (by simp)]
 case call c=>
  have e:=args_congr h
  cases hc:c.callee with
  |value f=>
   have hf:evalA t f=evalA t' f:=h f (by simp [Call.operands,hc])
   cases f<;>simp only [hf,e]
  |invoke x m=>rfl
  |builtin bi=>cases bi<;>rfl
theorem blindOp_congr (h:∀ x ∈ o.op.operands,evalA t x=evalA t' x):blindOp E o t=blindOp E o t':=by
 obtain ⟨dst,op,type,pos,after,guard⟩:=o
 unfold blindOp
 cases op<;>simp only [Op.operands] at h<;>simp only []
 case load ty x=>rw [h x (by simp)]
 case convert s d x=>rw [h x (by simp)]
 case indexAddr ty x ix=>rw [h x (by simp)]
 case slice ty x lo hi mx=>rw [h x (by simp)]
 case call c=>
  have e:=args_congr h
  have e':∀ x ∈ c.args.toList,evalA t x=evalA t' x:=fun x hx=>h x (by simp [Call.operands];exact .inr (by simpa using hx))
  cases hc:c.callee with
  |value f=>
   have hf:evalA t f=evalA t' f:=h f (by simp [Call.operands,hc])
   cases f<;>simp only [hf,e]
  |invoke x m=>rfl
  |builtin bi=>
   cases bi<;>simp only []
   case len=>
    split
    ·rename_i x hx
     rw [e' x (by rw [hx];simp)]
    ·rfl
end
def Bl {ι α:Type} (pb:ι→List Blk) (F:ι→(R:Type)→(α→List Blk→Option R)→Option R):Prop:=∃ z:Option α,∀ i R K,F i R K=z.bind fun x=>K x (pb i)
section
variable {ι α γ:Type} {pb:ι→List Blk}
theorem Bl.pure (x:α):Bl pb fun i R K=>K x (pb i):=⟨some x,fun _ _ _=>rfl⟩
theorem Bl.none:Bl (α:=α) pb fun i R K=>Option.none:=⟨Option.none,fun _ _ _=>rfl⟩
theorem Bl.br {c:Bool} {F G:ι→(R:Type)→(α→List Blk→Option R)→Option R} (h:Bl pb F) (k:Bl pb G):Bl pb fun i R K=>Abs.br c (F i R K) (G i R K):=by
 cases c
 ·exact k
 ·exact h
theorem Bl.bind {x:Option γ} {F:γ→ι→(R:Type)→(α→List Blk→Option R)→Option R} (h:∀ c,Bl pb (F c)):Bl pb fun i R K=>x.bind fun c=>F c i R K:=by
 cases x with
 |none=>exact .none
 |some c=>exact h c
theorem Bl.comp {G:(R:Type)→(γ→Option R)→Option R} {F:γ→ι→(R:Type)→(α→List Blk→Option R)→Option R} (g:Det G) (h:∀ c,Bl pb (F c)):Bl pb fun i R K=>G R fun c=>F c i R K:=by
 obtain ⟨o,ho⟩:=g
 cases o with
 |none=>exact ⟨Option.none,fun i R K=>ho R _⟩
 |some c=>
  obtain ⟨o',ho'⟩:=h c
  exact ⟨o',fun i R K=>(ho R _).trans (ho' i R K)⟩
theorem Bl.of1 {G:(R:Type)→(α→Option R)→Option R} (g:Det G):Bl pb fun i R K=>G R fun x=>K x (pb i):=.comp g fun x=>.pure x
theorem sliceK_bl {P:Program} {t:TypeId} {x:AVal} {lo hi mx:Option AVal} (hx:closedV x=true):Bl pb fun i R K=>sliceK (R:=R) P t (pb i) x lo hi mx K:=by
 unfold sliceK
 cases mx with
 |some _=>
  simp only
  cases P.underlying t with
  |none=>exact .none
  |some d=>
   cases d with
   |slice e=>
    refine .br ?_ .none
    cases x with
    |v c=>exact .bind fun _=>.comp wIdx_det fun m=>.comp wOpt_det fun h=>.comp wOpt_det fun l=>.br (.pure _) .none
    |_=>exact .none
   |_=>exact .none
 |none=>
  simp only
  cases P.underlying t with
  |none=>exact .none
  |some d=>
   cases d with
   |string=>exact .comp wStr_det fun s=>.comp wOpt_det fun h=>.comp wOpt_det fun l=>.br (.pure _) .none
   |slice e=>
    refine .br ?_ .none
    cases x with
    |v c=>exact .bind fun xs=>.comp wOpt_det fun h=>.comp wOpt_det fun l=>.br (.pure _) .none
    |nl=>exact .comp wOpt_det fun h=>.comp wOpt_det fun l=>.br (.pure _) .none
    |_=>cases hx
   |_=>exact .none
theorem convertK_bl {P:Program} {src dst:TypeId} {x:AVal} (hs:∃ z:Option (List CVal),∀ i R (K:List CVal→Option R),wSl (pb i) x K=z.bind K) :
  Bl pb fun i R K=>convertK (R:=R) P src dst x (pb i) K:=by
 unfold convertK
 cases P.underlying src with
 |none=>exact .none
 |some d1=>
  cases P.underlying dst with
  |none=>cases d1<;>exact .none
  |some d2=>
   cases d1<;>cases d2<;>first
    |exact .none
    |exact .comp wInt_det fun n=>.pure _
    |exact .comp wStr_det fun s=>.pure _
    |skip
   ·rename_i e
    simp only
    cases P.underlying e with
    |none=>exact .none
    |some d3=>
     cases d3 with
     |int k=>
      cases k<;>first
       |exact .none
       |exact .comp wStr_det fun s=>.br (.pure _) .none
     |_=>exact .none
   ·rename_i e
    simp only
    cases P.underlying e with
    |none=>exact .none
    |some d3=>
     cases d3 with
     |int k=>
      cases k<;>first
       |exact .none
       |skip
      obtain ⟨z,hz⟩:=hs
      obtain ⟨z',hz'⟩:Bl pb fun i R K=>z.bind fun xs=>(bytesOfC xs).bind fun s=>K (AVal.v (.str s)) (pb i):=.bind fun xs=>.bind fun s=>.pure _
      exact ⟨z',fun i R K=>(hz i R _).trans (hz' i R K)⟩
     |_=>exact .none
theorem still_cells:∀ {cs:List AVal},cs.all closedV=true→∃ l:List CVal,∀ b,closeL b cs=some l∧killL cs b=b
 |[],_=>⟨[],fun b=>⟨rfl,rfl⟩⟩
 |x :: r,h=>by
  simp only [List.all_cons,Bool.and_eq_true] at h
  obtain ⟨l,hl⟩:=still_cells h.2
  cases x with
  |v c=>
   refine ⟨c :: l,fun b=>⟨?_,(hl b).2⟩⟩
   show (some c).bind _=_
   simp only [Option.bind_some,(hl b).1]
  |nl=>
   refine ⟨.sl [] :: l,fun b=>⟨?_,(hl b).2⟩⟩
   show (some (CVal.sl [])).bind _=_
   simp only [Option.bind_some,(hl b).1]
  |_=>simp [closedV] at h
theorem nl_gives {m:PM} (h:m.gives=false):m ≠ .nil:=by rintro rfl;cases h
theorem bor_gives {m:PM} (h:m=.bor):m.gives=false:=by rw [h];rfl
theorem agg_gives {m:PM} {cs:List AVal} (h:(decide (m=.bor) || (cs.all closedV && !m.gives))=true):m.gives=false:=by
 simp only [Bool.or_eq_true,Bool.and_eq_true,decide_eq_true_eq,Bool.not_eq_true'] at h
 rcases h with h | h
 ·exact bor_gives h
 ·exact h.2
theorem promo_pure {E:Env} {g:FuncId}:∀ {args:List AVal} {j:Nat} {b:List Blk} {R:Type} {K:List AVal→List Blk→Option R},pureArgs E g j args=true→promo E g j args b K=K args b
 |[],_,_,_,_,_=>rfl
 |x :: r,j,b,R,K,h=>by
  cases x with
  |v c=>simp only [promo];rw [promo_pure (by simpa [pureArgs] using h)]
  |nl=>
   simp only [pureArgs,Bool.and_eq_true,Bool.not_eq_true'] at h
   simp only [promo,PM.prom_of h.1,Abs.br]
   rw [promo_pure h.2]
  |lref i ver=>
   simp [pureArgs] at h
   simp only [promo];rw [promo_pure h.2]
  |lsub i ver sv idx off=>
   simp [pureArgs] at h
   simp only [promo];rw [promo_pure h.2]
  |agg cs=>
   simp only [pureArgs,Bool.and_eq_true] at h
   simp only [promo,PM.prom_of (agg_gives h.1),Abs.br];rw [promo_pure h.2]
  |_=>simp [pureArgs] at h
theorem focusArgs_pure {E:Env} {g:FuncId}:∀ {args:List AVal} {j:Nat} {b:List Blk} {R:Type} {K:List AVal→List (Nat × Nat)→List Blk→Option R},pureArgs E g j args=true→focusArgs E g j args b K=K args [] b
 |[],_,_,_,_,_=>rfl
 |x :: r,j,b,R,K,h=>by
  cases x with
  |v c=>simp only [focusArgs];rw [focusArgs_pure (by simpa [pureArgs] using h)]
  |nl=>
   simp only [pureArgs,Bool.and_eq_true] at h
   simp only [focusArgs];rw [focusArgs_pure h.2]
  |lref i ver=>
   simp only [pureArgs,Bool.and_eq_true] at h
   simp only [focusArgs];rw [focusArgs_pure h.2]
  |lsub i ver sv idx off=>
   simp only [pureArgs,Bool.and_eq_true,decide_eq_true_eq] at h
   simp only [focusArgs,h.1,reduceCtorEq,decide_false,Abs.br]
   rw [focusArgs_pure h.2]
  |agg cs=>
   simp only [pureArgs,Bool.and_eq_true] at h
   simp only [focusArgs];rw [focusArgs_pure h.2]
  |_=>simp [pureArgs] at h
theorem blind_pure {E:Env} {g:FuncId}:∀ {args:List AVal} {j:Nat},blindArgs E g j args=true→pureArgs E g j args=true
 |[],_,h=>h
 |x :: r,j,h=>by
  cases x with
  |v c=>simp [blindArgs] at h;simp [pureArgs,blind_pure h]
  |nl=>simp [blindArgs] at h;simp [pureArgs,h.1,blind_pure h.2]
  |agg cs=>
   simp only [blindArgs,Bool.and_eq_true] at h
   simp only [pureArgs,Bool.and_eq_true,Bool.or_eq_true]
   exact ⟨.inr h.1,blind_pure h.2⟩
  |_=>simp [blindArgs] at h
theorem handA_still {m:PM} {cs:List AVal} {h:Hand} {R:Type} {K:AVal→Hand→Option R} (hc:cs.all closedV=true) (hg:m.gives=false) {l:List CVal} (hl:∀ b,closeL b cs=some l∧killL cs b=b):handA m (.agg cs) h K=K (.v (.agg l)) h:=by
 cases m with
 |bor=>simp only [handA,(hl h.b).1,Option.bind_some]
 |cls=>simp only [handA,(hl h.b).1,(hl h.b).2,Option.bind_some]
 |pass=>cases hg
 |inp=>cases hg
 |own=>cases hg
 |nil=>cases hg
def Agree (n:Rg) (b b':List Blk):Prop:=∀ k,n.old k=true→b[k]? = b'[k]?
section
variable {n:Rg} {b b':List Blk} (h:Agree n b b')
include h
theorem arrOf_old {i ver:Nat} (hi:n.old i=true):arrOf b i ver=arrOf b' i ver:=by unfold arrOf;rw [h i hi]
theorem szOf_old {i:Nat} (hi:n.old i=true):szOf b i=szOf b' i:=by unfold szOf;rw [h i hi]
theorem mdOf_old {i:Nat} (hi:n.old i=true):mdOf b i=mdOf b' i:=by unfold mdOf;rw [h i hi]
theorem boxOf_old {i:Nat} (hi:n.old i=true):boxOf b i=boxOf b' i:=by unfold boxOf;rw [h i hi]
theorem subOf_old {i ver sv idx off:Nat} (hi:n.old i=true):subOf b i ver sv idx off=subOf b' i ver sv idx off:=by
 unfold subOf;rw [arrOf_old h hi,mdOf_old h hi]
mutual
theorem closeA_old:∀ {x:AVal},inOld n x=true→closeA b x=closeA b' x
 |.v _,_=>rfl
 |.nl,_=>rfl
 |.lptr _ _,_=>rfl
 |.lel _ _ _ _,_=>rfl
 |.lsub _ _ _ _ _,_=>rfl
 |.ltail _ _ _,_=>rfl
 |.lel2 _ _ _ _ _ _,_=>rfl
 |.un,_=>rfl
 |.lref i ver,hx=>by
  simp only [inOld] at hx
  simp only [closeA];rw [arrOf_old h hx]
 |.agg cs,hx=>by simp only [closeA];rw [closeL_old (by simpa [inOld] using hx)]
 |.func _ cs,hx=>by simp only [closeA];rw [closeL_old (by simpa [inOld] using hx)]
 |.tup cs,hx=>by simp only [closeA];rw [closeL_old (by simpa [inOld] using hx)]
theorem closeL_old:∀ {l:List AVal},inOldL n l=true→closeL b l=closeL b' l
 |[],_=>rfl
 |x :: r,hx=>by
  simp only [inOldL,Bool.and_eq_true] at hx
  simp only [closeL];rw [closeA_old hx.1,closeL_old hx.2]
end
theorem wSl_old {x:AVal} (hx:inOld n x=true) {R:Type} {K:List CVal→Option R}:wSl b x K=wSl b' x K:=by
 cases x with
 |lref i ver=>simp only [inOld] at hx;simp only [wSl];rw [arrOf_old h hx]
 |lsub i ver sv idx off=>simp only [inOld] at hx;simp only [wSl];rw [subOf_old h hx]
 |_=>rfl
theorem lenK_old {P:Program} {t:TypeId} {x:AVal} (hx:inOld n x=true) {R:Type} {K:AVal→Option R}:lenK P t b x K=lenK P t b' x K:=by
 unfold lenK
 cases P.underlying t with
 |none=>rfl
 |some d=>
  cases d with
  |slice e=>exact wSl_old h hx
  |_=>rfl
theorem loadK_old {P:Program} {t:TypeId} {x:AVal} (hx:inOld n x=true) {R:Type} {K:AVal→Option R}:loadK P t b x K=loadK P t b' x K:=by
 unfold loadK
 cases P.underlying t with
 |none=>rfl
 |some d=>
  cases x with
  |lptr i off=>simp only [inOld] at hx;simp only;rw [boxOf_old h hx]
  |lel i ver idx off=>simp only [inOld] at hx;simp only;rw [arrOf_old h hx,mdOf_old h hx]
  |lel2 i ver sv idx off idx2=>simp only [inOld] at hx;simp only;rw [subOf_old h hx]
  |_=>rfl
theorem indexAddrK_old {P:Program} {t:TypeId} {x ix:AVal} (hx:inOld n x=true) {R:Type} {K:AVal→Option R}:indexAddrK P t b x ix K=indexAddrK P t b' x ix K:=by
 unfold indexAddrK
 cases P.underlying t with
 |none=>rfl
 |some d=>
  cases d with
  |slice e=>
   cases x with
   |lref i ver=>simp only [inOld] at hx;simp only;rw [arrOf_old h hx,szOf_old h hx]
   |lsub i ver sv idx off=>simp only [inOld] at hx;simp only;rw [subOf_old h hx]
   |_=>rfl
  |array len e=>cases x<;>rfl
  |_=>rfl
end
def Rd (b b':List Blk) (args:List AVal):Prop:=b=b'∨∃ n,inOldL n args=true∧Agree n b b'
theorem Rd.tail {b b':List Blk} {x:AVal} {r:List AVal} (h:Rd b b' (x :: r)):Rd b b' r:=by
 rcases h with h | ⟨n,h1,h2⟩
 ·exact .inl h
 ·simp only [inOldL,Bool.and_eq_true] at h1
  exact .inr ⟨n,h1.2,h2⟩
theorem Rd.head {α:Type} {F:List Blk→AVal→α} (hF:∀ {n:Rg} {b b':List Blk} {x:AVal},Agree n b b'→inOld n x=true→F b x=F b' x) {b b':List Blk} {x:AVal} {r:List AVal} (h:Rd b b' (x :: r)):F b x=F b' x:=by
 rcases h with h | ⟨n,h1,h2⟩
 ·rw [h]
 ·simp only [inOldL,Bool.and_eq_true] at h1
  exact hF h2 h1.1
theorem inOldL_iff {n:Rg}:∀ {l:List AVal},inOldL n l=true↔∀ x ∈ l,inOld n x=true
 |[]=>by simp [inOldL]
 |x :: r=>by simp only [inOldL,Bool.and_eq_true,inOldL_iff,List.mem_cons,forall_eq_or_imp]
theorem Rd.of {b b':List Blk} {l l':List AVal} (h:Rd b b' l) (hl:∀ x ∈ l',x ∈ l∨(∃ c,x=.v c)∨∃ g cs,AVal.func g cs ∈ l∧x ∈ cs):Rd b b' l':=by
 rcases h with h | ⟨n,h1,h2⟩
 ·exact .inl h
 ·refine .inr ⟨n,inOldL_iff.2 fun x hx=>?_,h2⟩
  rcases hl x hx with h | ⟨c,rfl⟩ | ⟨g,cs,h,hc⟩
  ·exact inOldL_iff.1 h1 x h
  ·rfl
  ·have:=inOldL_iff.1 h1 _ h
   simp only [inOld] at this
   exact inOldL_iff.1 this x hc
theorem Rd.mem {b b':List Blk} {l:List AVal} {x:AVal} (h:Rd b b' l) (hx:x ∈ l):Rd b b' [x]:=h.of fun y hy=>by
 simp at hy;subst hy;exact .inl hx
theorem handAll_fam {E:Env} {g:FuncId} (i0:ι):∀ {args:List AVal} {j:Nat},pureArgs E g j args=true→(∀ i j,Rd (pb i) (pb j) args)→∃ z:Option (List AVal),∀ (i:ι) (l:List AVal) (ids:List (Nat × AM)) (R:Type) (K:Hand→Option R),
  handAll (E.pm g) j args ⟨l,ids,pb i⟩ K=z.bind fun m=>K ⟨l ++ m,ids,pb i⟩
 |[],_,_,_=>⟨some [],fun i l ids R K=>by simp [handAll]⟩
 |x :: r,j,h,hs=>by
  have hst:∀ i j,Rd (pb i) (pb j) r:=fun i j=>(hs i j).tail
  cases x with
  |v c=>
   obtain ⟨z,hz⟩:=handAll_fam i0 (show pureArgs E g (j + 1) r=true by simpa [pureArgs] using h) hst
   refine ⟨z.bind fun m=>some (.v c :: m),fun i l ids R K=>?_⟩
   simp only [handAll,handA]
   rw [hz]
   cases z<;>simp
  |nl=>
   simp only [pureArgs,Bool.and_eq_true,Bool.not_eq_true'] at h
   obtain ⟨z,hz⟩:=handAll_fam i0 h.2 hst
   refine ⟨z.bind fun m=>some (.v (.sl []) :: m),fun i l ids R K=>?_⟩
   simp only [handAll]
   rw [handA_nl (nl_gives h.1),hz]
   cases z<;>simp
  |lref k ver=>
   simp [pureArgs] at h
   obtain ⟨z,hz⟩:=handAll_fam i0 h.2 hst
   refine ⟨(arrOf (pb i0) k ver).bind fun xs=>z.bind fun m=>some (.v (.sl xs) :: m),fun i l ids R K=>?_⟩
   have e:arrOf (pb i) k ver=arrOf (pb i0) k ver:=Rd.head (F:=fun b x=>match x with | .lref k ver=>arrOf b k ver | _=>none) (x:=.lref k ver) (fun {n b b' x} ha hx=>by
    cases x with
    |lref k ver=>simp only [inOld] at hx;exact arrOf_old ha hx
    |_=>rfl) (hs i i0)
   simp only [handAll,handA,h.1,e]
   cases arrOf (pb i0) k ver with
   |none=>rfl
   |some xs=>
    simp only [Option.bind_some]
    rw [hz]
    cases z<;>simp
  |lsub k ver sv idx off=>
   simp [pureArgs] at h
   obtain ⟨z,hz⟩:=handAll_fam i0 h.2 hst
   refine ⟨(subOf (pb i0) k ver sv idx off).bind fun xs=>z.bind fun m=>some (.v (.sl xs) :: m),fun i l ids R K=>?_⟩
   have e:subOf (pb i) k ver sv idx off=subOf (pb i0) k ver sv idx off:=Rd.head (F:=fun b x=>match x with | .lsub k ver sv idx off=>subOf b k ver sv idx off | _=>none) (x:=.lsub k ver sv idx off) (fun {n b b' x} ha hx=>by
    cases x with
    |lsub k ver sv idx off=>simp only [inOld] at hx;exact subOf_old ha hx
    |_=>rfl) (hs i i0)
   simp only [handAll,handA,h.1,e]
   cases subOf (pb i0) k ver sv idx off with
   |none=>rfl
   |some xs=>
    simp only [Option.bind_some]
    rw [hz]
    cases z<;>simp
  |agg cs=>
   simp only [pureArgs,Bool.and_eq_true] at h
   obtain ⟨z,hz⟩:=handAll_fam i0 h.2 hst
   by_cases hb:E.pm g j=.bor
   ·refine ⟨(closeL (pb i0) cs).bind fun cl=>z.bind fun m=>some (.v (.agg cl) :: m),fun i l ids R K=>?_⟩
    have e:closeL (pb i) cs=closeL (pb i0) cs:=Rd.head (F:=fun b x=>match x with | .agg cs=>closeL b cs | _=>none) (x:=.agg cs) (fun {n b b' x} ha hx=>by
     cases x with
     |agg cs=>exact closeL_old ha (by simpa [inOld] using hx)
     |_=>rfl) (hs i i0)
    simp only [handAll,handA,hb,e]
    cases closeL (pb i0) cs with
    |none=>rfl
    |some cl=>
     simp only [Option.bind_some]
     rw [hz]
     cases z<;>simp
   ·have h1:=h.1
    simp only [hb,decide_false,Bool.false_or,Bool.and_eq_true,Bool.not_eq_true'] at h1
    obtain ⟨cl,hcl⟩:=still_cells h1.1
    refine ⟨z.bind fun m=>some (.v (.agg cl) :: m),fun i l ids R K=>?_⟩
    simp only [handAll]
    rw [handA_still h1.1 h1.2 hcl,hz]
    cases z<;>simp
  |_=>simp [pureArgs] at h
theorem handAll_blind {E:Env} {g:FuncId}:∀ {args:List AVal} {j:Nat},blindArgs E g j args=true→∃ m:List AVal,∀ (l:List AVal) (ids:List (Nat × AM)) (b:List Blk) (R:Type) (K:Hand→Option R),
  handAll (E.pm g) j args ⟨l,ids,b⟩ K=K ⟨l ++ m,ids,b⟩
 |[],_,_=>⟨[],fun l ids b R K=>by simp [handAll]⟩
 |x :: r,j,h=>by
  cases x with
  |v c=>
   obtain ⟨m,hm⟩:=handAll_blind (show blindArgs E g (j + 1) r=true by simpa [blindArgs] using h)
   refine ⟨.v c :: m,fun l ids b R K=>?_⟩
   simp only [handAll,handA]
   rw [hm];simp
  |nl=>
   simp [blindArgs] at h
   obtain ⟨m,hm⟩:=handAll_blind h.2
   refine ⟨.v (.sl []) :: m,fun l ids b R K=>?_⟩
   simp only [handAll]
   rw [handA_nl (nl_gives h.1),hm];simp
  |agg cs=>
   simp only [blindArgs,Bool.and_eq_true,Bool.not_eq_true'] at h
   obtain ⟨m,hm⟩:=handAll_blind h.2
   obtain ⟨cl,hcl⟩:=still_cells h.1.1
   refine ⟨.v (.agg cl) :: m,fun l ids b R K=>?_⟩
   simp only [handAll]
   rw [handA_still h.1.1 h.1.2 hcl,hm];simp
  |_=>simp [blindArgs] at h
def restV (E:Env) (C:CallT) (g:FuncId) (args m:List AVal):Option AVal:=
  (match E.prim g with | some p=>p m [] | none=>C g m []).bind fun r=>
    Abs.br (borrows E g 0 args && (!([]:List (Nat × AM)).isEmpty || !(match E.ow g with | some ts=>plainR E.P ts r.1 | none=>scalar r.1))) none
      (match E.rm g with
       | none=>some (AVal.v r.1)
       | some j=>none)
theorem rest_eq {E:Env} {C:CallT} {g:FuncId} {args m:List AVal} {b:List Blk} {R:Type} {K:AVal→List Blk→Option R} (how:E.ow g=none) :
  (handBlks (R:=R) [] [] b fun pbs b3=>
   Abs.br (([]:List (Nat × AM)).all fun i=>aliveAt b3 i.1)
    ((match E.prim g with | some p=>p m pbs | none=>C g m pbs).bind fun r=>
     Abs.br (borrows E g 0 args && (!([]:List (Nat × AM)).isEmpty || !(match E.ow g with | some ts=>plainR E.P ts r.1 | none=>scalar r.1))) none
      (explodeL r.2 0 ([]:List (Nat × AM)).length fun ls=>backBlks [] (pbs.map (PB.sh pbs)) ls b3 fun b4=>unfocusAll [] b4 fun b5=>backRK E g [] r.1 b5 K)) none)=(restV E C g args m).bind fun x=>K x b:=by
 unfold restV
 simp only [handBlks,List.all_nil,Abs.br]
 generalize (match E.prim g with | some p=>p m [] | none=>C g m []:Option Ret)=ret
 cases ret with
 |none=>rfl
 |some r=>
  simp only [Option.bind_some]
  generalize (borrows E g 0 args && (!([]:List (Nat × AM)).isEmpty || !(match E.ow g with | some ts=>plainR E.P ts r.1 | none=>scalar r.1)))=bo
  cases bo with
  |true=>rfl
  |false=>
   simp only [List.map_nil,List.length_nil,explodeL,backBlks,unfocusAll,backRK,how]
   cases E.rm g with
   |none=>rfl
   |some j=>rfl
theorem callK_fam {E:Env} {C:CallT} {g:FuncId} {args:List AVal} (i0:ι) (h:pureArgs E g 0 args=true) (hs:∀ i j,Rd (pb i) (pb j) args):Bl pb fun i R K=>callK (R:=R) E C g args (pb i) K:=by
 obtain ⟨z,hz⟩:=handAll_fam i0 h hs
 refine ⟨Abs.br (g == apId) none (z.bind fun m=>restV E C g args m),fun i R K=>?_⟩
 unfold callK
 cases g == apId with
 |true=>rfl
 |false=>
  simp only [Abs.br]
  rw [promo_pure h,focusArgs_pure h,hz]
  cases z with
  |none=>rfl
  |some m=>exact rest_eq (pureArgs_ow h)
theorem callK_blind {E:Env} {C:CallT} {g:FuncId} {args:List AVal} (h:blindArgs E g 0 args=true):∃ z:Option AVal,∀ b R (K:AVal→List Blk→Option R),callK (R:=R) E C g args b K=z.bind fun x=>K x b:=by
 obtain ⟨m,hm⟩:=handAll_blind h
 refine ⟨Abs.br (g == apId) none (restV E C g args m),fun b R K=>?_⟩
 unfold callK
 cases g == apId with
 |true=>rfl
 |false=>
  simp only [Abs.br]
  rw [promo_pure (blind_pure h),focusArgs_pure (blind_pure h),hm]
  exact rest_eq (pureArgs_ow (blind_pure h))
theorem promo_push {E:Env} {g:FuncId}:∀ {args:List AVal} {j:Nat} {b:List Blk} {R:Type} {K:List AVal→List Blk→Option R},pushArgs E g j args=true→promo E g j args b K=K args b
 |[],_,_,_,_,_=>rfl
 |x :: r,j,b,R,K,h=>by
  cases x with
  |v c=>simp only [promo];rw [promo_push (by simpa [pushArgs] using h)]
  |nl=>
   simp only [pushArgs,Bool.and_eq_true,Bool.not_eq_true'] at h
   simp only [promo,PM.prom_of h.1,Abs.br]
   rw [promo_push h.2]
  |agg cs=>
   simp only [pushArgs,Bool.and_eq_true,Bool.not_eq_true'] at h
   simp only [promo,PM.prom_of h.1.2,Abs.br];rw [promo_push h.2]
  |_=>simp [pushArgs] at h
theorem focusArgs_push {E:Env} {g:FuncId}:∀ {args:List AVal} {j:Nat} {b:List Blk} {R:Type} {K:List AVal→List (Nat × Nat)→List Blk→Option R},pushArgs E g j args=true→focusArgs E g j args b K=K args [] b
 |[],_,_,_,_,_=>rfl
 |x :: r,j,b,R,K,h=>by
  cases x with
  |v c=>simp only [focusArgs];rw [focusArgs_push (by simpa [pushArgs] using h)]
  |nl=>
   simp only [pushArgs,Bool.and_eq_true] at h
   simp only [focusArgs];rw [focusArgs_push h.2]
  |agg cs=>
   simp only [pushArgs,Bool.and_eq_true] at h
   simp only [focusArgs];rw [focusArgs_push h.2]
  |_=>simp [pushArgs] at h
theorem handAll_push {E:Env} {g:FuncId}:∀ {args:List AVal} {j:Nat},pushArgs E g j args=true→∃ m:List AVal,∀ (l:List AVal) (ids:List (Nat × AM)) (b:List Blk) (R:Type) (K:Hand→Option R),
  handAll (E.pm g) j args ⟨l,ids,b⟩ K=K ⟨l ++ m,ids,b⟩
 |[],_,_=>⟨[],fun l ids b R K=>by simp [handAll]⟩
 |x :: r,j,h=>by
  cases x with
  |v c=>
   obtain ⟨m,hm⟩:=handAll_push (show pushArgs E g (j + 1) r=true by simpa [pushArgs] using h)
   refine ⟨.v c :: m,fun l ids b R K=>?_⟩
   simp only [handAll,handA]
   rw [hm];simp
  |nl=>
   simp only [pushArgs,Bool.and_eq_true,Bool.not_eq_true'] at h
   obtain ⟨m,hm⟩:=handAll_push h.2
   refine ⟨.v (.sl []) :: m,fun l ids b R K=>?_⟩
   simp only [handAll]
   rw [handA_nl (nl_gives h.1),hm];simp
  |agg cs=>
   simp only [pushArgs,Bool.and_eq_true,Bool.not_eq_true'] at h
   obtain ⟨m,hm⟩:=handAll_push h.2
   obtain ⟨cl,hcl⟩:=still_cells h.1.1
   refine ⟨.v (.agg cl) :: m,fun l ids b R K=>?_⟩
   simp only [handAll]
   rw [handA_still h.1.1 h.1.2 hcl,hm];simp
  |_=>simp [pushArgs] at h
theorem callK_push {E:Env} {C:CallT} {g:FuncId} {args:List AVal} (h:pushArgs E g 0 args=true):∃ z:Option Ret,∀ b R (K:AVal→List Blk→Option R),callK (R:=R) E C g args b K=z.bind fun r=>backRK E g [] r.1 b K:=by
 obtain ⟨m,hm⟩:=handAll_push h
 refine ⟨Abs.br (g == apId) none ((match E.prim g with | some p=>p m [] | none=>C g m []).bind fun r=>
  Abs.br (borrows E g 0 args && (!([]:List (Nat × AM)).isEmpty || !(match E.ow g with | some ts=>plainR E.P ts r.1 | none=>scalar r.1))) none (some r)),fun b R K=>?_⟩
 unfold callK
 cases g == apId with
 |true=>rfl
 |false=>
  simp only [Abs.br]
  rw [promo_push h,focusArgs_push h,hm]
  simp only [handBlks,List.all_nil,Abs.br,List.nil_append]
  have fin:∀ ret:Option Ret,(ret.bind fun r=>Abs.br (borrows E g 0 args && (!([]:List (Nat × AM)).isEmpty || !(match E.ow g with | some ts=>plainR E.P ts r.1 | none=>scalar r.1))) none (backRK E g [] r.1 b K)) =
    (ret.bind fun r=>Abs.br (borrows E g 0 args && (!([]:List (Nat × AM)).isEmpty || !(match E.ow g with | some ts=>plainR E.P ts r.1 | none=>scalar r.1))) none (some r)).bind fun r=>backRK E g [] r.1 b K:=by
   intro ret
   cases ret with
   |none=>rfl
   |some r=>
    simp only [Option.bind_some]
    cases (borrows E g 0 args && (!([]:List (Nat × AM)).isEmpty || !(match E.ow g with | some ts=>plainR E.P ts r.1 | none=>scalar r.1)))<;>rfl
  exact fin _
section
variable {P:Program}
theorem openCells_ext {R:Type} {r:R}:∀ {ks:List CK} {cs:List CVal} {b:List Blk} {K:List AVal→List Blk→Option R},openCells P ks cs b K=some r→∃ l e,K l (b ++ e)=some r
 |[],[],b,K,h=>⟨[],[],by simpa [openCells] using h⟩
 |[],_ :: _,b,K,h=>by simp [openCells] at h
 |k :: _,[],b,K,h=>by cases k<;>simp [openCells] at h
 |k :: ks,c :: cs,b,K,h=>by
  have flat:(openCells P ks cs b fun l b=>K (.v c :: l) b)=some r→∃ l e,K l (b ++ e)=some r:=fun h=>by
   obtain ⟨l,e,h⟩:=openCells_ext h
   exact ⟨_,e,h⟩
  cases k with
  |sl e=>
   simp only [openCells,Option.bind_eq_some_iff] at h
   obtain ⟨xs,_,h⟩:=h
   cases hz:decide (P.cellsOf e ≠ 0) with
   |false=>rw [hz] at h;cases h
   |true=>
    rw [hz] at h
    obtain ⟨l,e,h⟩:=openCells_ext (show openCells P ks cs _ _=some r from h)
    exact ⟨_,_,by rw [List.append_assoc] at h;exact h⟩
  |int k=>exact flat h
  |bool=>exact flat h
  |str=>exact flat h
  |any=>exact flat h
theorem br_inv {R:Type} {c:Bool} {x:Option R} {r:R} (h:Abs.br c x none=some r):x=some r:=by
 cases c
 ·cases h
 ·exact h
theorem br_inv' {R:Type} {c:Bool} {x:Option R} {r:R} (h:Abs.br c none x=some r):x=some r:=by
 cases c
 ·exact h
 ·cases h
theorem explodeC_inv {R:Type} {r:R} {c:CVal}:∀ {n i:Nat} {K:List CVal→Option R},explodeC c i n K=some r→∃ l,K l=some r
 |0,i,K,h=>⟨[],h⟩
 |n + 1,i,K,h=>by
  simp only [explodeC,Option.bind_eq_some_iff] at h
  obtain ⟨x,_,h⟩:=h
  obtain ⟨l,h⟩:=explodeC_inv h
  exact ⟨_,h⟩
theorem explodeL_inv {R α:Type} {r:R} {c:List α}:∀ {n i:Nat} {K:List α→Option R},explodeL c i n K=some r→∃ l,K l=some r
 |0,i,K,h=>⟨[],h⟩
 |n + 1,i,K,h=>by
  simp only [explodeL,Option.bind_eq_some_iff] at h
  obtain ⟨x,_,h⟩:=h
  obtain ⟨l,h⟩:=explodeL_inv h
  exact ⟨_,h⟩
theorem openK_ext {R:Type} {r:R} {t:TypeId} {c:CVal} {b:List Blk} {K:AVal→List Blk→Option R} (h:openK P t c b K=some r):∃ x e,K x (b ++ e)=some r:=by
 unfold openK at h
 have h:=br_inv h
 cases ha:aggT P t with
 |true=>
  rw [ha] at h
  have h:=br_inv (show Abs.br _ _ none=some r from h)
  obtain ⟨l,h⟩:=explodeC_inv h
  obtain ⟨l',e,h⟩:=openCells_ext h
  exact ⟨_,e,h⟩
 |false=>
  rw [ha] at h
  have h:=br_inv (show Abs.br _ _ none=some r from h)
  obtain ⟨l',e,h⟩:=openCells_ext h
  exact ⟨_,e,h⟩
theorem openPCells_ext {R:Type} {r:R}:∀ {ks:List (Nat × CK)} {cs:List CVal} {b:List Blk} {K:List AVal→List Blk→Option R},openPCells P ks cs b K=some r→∃ l e,K l (b ++ e)=some r
 |[],[],b,K,h=>⟨[],[],by simpa [openPCells] using h⟩
 |[],_ :: _,b,K,h=>by simp [openPCells] at h
 |(0,k) :: ks,[],b,K,h=>by simp [openPCells] at h
 |(1,k) :: ks,[],b,K,h=>by simp [openPCells] at h
 |(n + 2,k) :: ks,[],b,K,h=>by cases k<;>simp [openPCells] at h
 |(0,k) :: ks,c :: cs,b,K,h=>by
  simp only [openPCells] at h
  obtain ⟨l,e,h⟩:=openPCells_ext h
  exact ⟨_,e,h⟩
 |(1,k) :: ks,c :: cs,b,K,h=>by
  simp only [openPCells] at h
  obtain ⟨a,e,h⟩:=openCells_ext h
  obtain ⟨l,e',h⟩:=openPCells_ext h
  exact ⟨_,e ++ e',by rw [← List.append_assoc];exact h⟩
 |(n + 2,k) :: ks,c :: cs,b,K,h=>by
  cases k with
  |sl e=>
   simp only [openPCells,Option.bind_eq_some_iff] at h
   obtain ⟨ys,_,h⟩:=h
   obtain ⟨l,e',h⟩:=openPCells_ext (br_inv h)
   exact ⟨_,_,by rw [List.append_assoc] at h;exact h⟩
  |_=>simp [openPCells] at h
theorem openPK_ext {R:Type} {r:R} {t:TypeId} {c:CVal} {b:List Blk} {K:AVal→List Blk→Option R} (h:openPK P t c b K=some r):∃ x e,K x (b ++ e)=some r:=by
 unfold openPK at h
 split at h
 ·exact openK_ext h
 ·simp only [Option.bind_eq_some_iff] at h
  obtain ⟨q,_,h⟩:=h
  have h:=br_inv h
  obtain ⟨l,h⟩:=explodeC_inv h
  obtain ⟨l',e,h⟩:=openPCells_ext h
  exact ⟨_,_,by rw [List.append_assoc] at h;exact h⟩
 ·have h:=br_inv h
  obtain ⟨l,h⟩:=explodeC_inv h
  obtain ⟨l',e,h⟩:=openPCells_ext h
  exact ⟨_,e,h⟩
 ·obtain ⟨l',e,h⟩:=openPCells_ext h
  exact ⟨_,e,h⟩
theorem openAllK_ext {R:Type} {r:R}:∀ {ts:List TypeId} {cs:List CVal} {b:List Blk} {K:List AVal→List Blk→Option R},openAllK P ts cs b K=some r→∃ l e,K l (b ++ e)=some r
 |[],[],b,K,h=>⟨[],[],by simpa [openAllK] using h⟩
 |[],_ :: _,b,K,h=>by simp [openAllK] at h
 |_ :: _,[],b,K,h=>by simp [openAllK] at h
 |t :: ts,c :: cs,b,K,h=>by
  simp only [openAllK] at h
  obtain ⟨x,e,h⟩:=openPK_ext h
  obtain ⟨l,e',h⟩:=openAllK_ext h
  exact ⟨_,e ++ e',by rw [← List.append_assoc];exact h⟩
theorem openRK_ext {R:Type} {r:R} {ts:List TypeId} {c:CVal} {b:List Blk} {K:AVal→List Blk→Option R} (h:openRK P ts c b K=some r):∃ x e,K x (b ++ e)=some r:=by
 unfold openRK at h
 split at h
 ·exact openPK_ext h
 ·simp only [Option.bind_eq_some_iff] at h
  obtain ⟨cs,_,h⟩:=h
  obtain ⟨l,h⟩:=explodeL_inv h
  obtain ⟨l',e,h⟩:=openAllK_ext h
  exact ⟨_,e,h⟩
end
theorem backRK_ext {E:Env} {g:FuncId} {c:CVal} {b:List Blk} {R:Type} {r:R} {K:AVal→List Blk→Option R} (h:backRK E g [] c b K=some r):∃ x e,K x (b ++ e)=some r:=by
 unfold backRK at h
 split at h
 ·exact openRK_ext h
 ·split at h
  ·exact ⟨_,[],by simpa using h⟩
  ·simp at h
theorem Agree.refl {n:Rg} (b:List Blk):Agree n b b:=fun _ _=>rfl
theorem Agree.trans {n:Rg} {a b c:List Blk} (x:Agree n a b) (y:Agree n b c):Agree n a c:=fun k hk=>(x k hk).trans (y k hk)
theorem Agree.app {n:Rg} {b e:List Blk} (h:n.n ≤ b.length):Agree n b (b ++ e):=fun k hk=>by rw [List.getElem?_append_left (by have:=Rg.old_lt hk;omega)]
theorem Agree.set {n:Rg} {b:List Blk} {i:Nat} {x:Blk} (h:n.old i=false):Agree n b (b.set i x):=fun k hk=>by rw [List.getElem?_set_ne (Rg.ne h hk)]
theorem kill_agree {n:Rg} {i:Nat} {b:List Blk} (h:n.old i=false):Agree n b (kill b i)∧(kill b i).length=b.length:=by
 unfold kill
 split
 ·exact ⟨.set h,by simp⟩
 ·exact ⟨.refl b,rfl⟩
mutual
theorem killA_agree {n:Rg}:∀ {x:AVal} {b:List Blk},inNew n x=true→Agree n b (killA x b)∧(killA x b).length=b.length
 |.lref i ver,b,h=>kill_agree (by simpa [inNew] using h)
 |.agg cs,b,h=>killL_agree (by simpa [inNew] using h)
 |.func _ cs,b,h=>killL_agree (by simpa [inNew] using h)
 |.tup cs,b,h=>killL_agree (by simpa [inNew] using h)
 |.v _,b,_=>⟨.refl b,rfl⟩
 |.nl,b,_=>⟨.refl b,rfl⟩
 |.un,b,_=>⟨.refl b,rfl⟩
 |.lptr _ _,b,_=>⟨.refl b,rfl⟩
 |.lel _ _ _ _,b,_=>⟨.refl b,rfl⟩
 |.lsub _ _ _ _ _,b,_=>⟨.refl b,rfl⟩
 |.ltail _ _ _,b,_=>⟨.refl b,rfl⟩
 |.lel2 _ _ _ _ _ _,b,_=>⟨.refl b,rfl⟩
theorem killL_agree {n:Rg}:∀ {l:List AVal} {b:List Blk},inNewL n l=true→Agree n b (killL l b)∧(killL l b).length=b.length
 |[],b,_=>⟨.refl b,rfl⟩
 |x :: r,b,h=>by
  simp only [inNewL,Bool.and_eq_true] at h
  obtain ⟨h1,h2⟩:=killA_agree (b:=b) h.1
  obtain ⟨h3,h4⟩:=killL_agree (b:=killA x b) h.2
  exact ⟨h1.trans h3,h4.trans h2⟩
end
section
variable {P:Program} {n:Rg} {R:Type} {r:R}
theorem takeCellsK_agree:∀ {ks:List CK} {xs:List AVal} {b:List Blk} {K:List CVal→List Blk→Option R},inNewL n xs=true→takeCellsK P ks xs b K=some r→∃ l b',K l b'=some r∧Agree n b b'∧b'.length=b.length
 |[],[],b,K,_,h=>⟨[],b,h,.refl b,rfl⟩
 |[],_ :: _,_,_,_,h=>by simp [takeCellsK] at h
 |_ :: _,[],_,_,_,h=>by simp [takeCellsK] at h
 |k :: ks,x :: xs,b,K,hx,h=>by
  simp only [inNewL,Bool.and_eq_true] at hx
  simp only [takeCellsK] at h
  have fin:∀ {c:CVal} {b1:List Blk},Agree n b b1→b1.length=b.length→(takeCellsK P ks xs b1 fun l b=>K (c :: l) b)=some r→∃ l b',K l b'=some r∧Agree n b b'∧b'.length=b.length:=by
   intro c b1 h1 h2 h
   obtain ⟨l,b',h,h3,h4⟩:=takeCellsK_agree hx.2 h
   exact ⟨_,b',h,h1.trans h3,h4.trans h2⟩
  have flat:∀ k:CK,k.flat=true→(takeCellK P k x b fun c b=>takeCellsK P ks xs b fun l b=>K (c :: l) b)=some r→∃ l b',K l b'=some r∧Agree n b b'∧b'.length=b.length:=by
   intro k hk h
   cases x with
   |v c=>
    have h:(wTyp k c fun c=>takeCellsK P ks xs b fun l b=>K (c :: l) b)=some r:=by
     cases k<;>first | (cases hk;done) | exact h
    obtain ⟨o,ho⟩:=wTyp_det (k:=k) (d:=c)
    rw [show wTyp k c (fun c=>takeCellsK P ks xs b fun l b=>K (c :: l) b)=_ from ho R _] at h
    obtain ⟨c',_,h⟩:=Option.bind_eq_some_iff.1 h
    exact fin (.refl b) rfl h
   |_=>cases k<;>first | (cases hk;done) | cases h
  cases k with
  |sl e=>
   cases x with
   |nl=>exact fin (.refl b) rfl h
   |lref i ver=>
    obtain ⟨ys,_,h⟩:=Option.bind_eq_some_iff.1 (show (arrOf b i ver).bind _=some r from h)
    have h:=br_inv h
    obtain ⟨h1,h2⟩:=kill_agree (n:=n) (i:=i) (b:=b) (by simpa [inNew] using hx.1)
    exact fin h1 h2 h
   |_=>cases h
  |int k=>exact flat _ rfl h
  |bool=>exact flat _ rfl h
  |str=>exact flat _ rfl h
  |any=>exact flat _ rfl h
theorem wCells_new {agg:Bool} {m:Nat} {x:AVal} {K:List AVal→Option R} (hx:inNew n x=true) (h:wCells agg m x K=some r):∃ cs,K cs=some r∧inNewL n cs=true:=by
 have vs:∀ l:List CVal,inNewL n (l.map .v)=true:=fun l=>by induction l with
  |nil=>rfl
  |cons a l ih=>simp [inNewL,inNew,ih]
 have one:inNewL n [x]=true:=by simp [inNewL,hx]
 cases agg with
 |true=>
  cases x with
  |agg cs=>exact ⟨cs,br_inv (show br (cs.length == m) (K cs) none=some r from h),by simpa [inNew] using hx⟩
  |v c=>
   obtain ⟨l,h⟩:=explodeC_inv (br_inv (show br (c.isAggN m) (explodeC c 0 m fun xs=>K (xs.map .v)) none=some r from h))
   exact ⟨_,h,vs l⟩
  |_=>cases h
 |false=>
  cases x with
  |agg cs=>cases h
  |tup cs=>cases h
  |un=>cases h
  |v c=>exact ⟨_,br_inv (show br (c.isFlat && m == 1) (K [.v c]) none=some r from h),one⟩
  |nl=>exact ⟨_,br_inv (show br (m == 1) (K [_]) none=some r from h),one⟩
  |lptr i off=>exact ⟨_,br_inv (show br (m == 1) (K [_]) none=some r from h),one⟩
  |lel i ver idx off=>exact ⟨_,br_inv (show br (m == 1) (K [_]) none=some r from h),one⟩
  |lref i ver=>exact ⟨_,br_inv (show br (m == 1) (K [_]) none=some r from h),one⟩
  |lsub i ver sv idx off=>exact ⟨_,br_inv (show br (m == 1) (K [_]) none=some r from h),one⟩
  |ltail i ver lo=>exact ⟨_,br_inv (show br (m == 1) (K [_]) none=some r from h),one⟩
  |lel2 i ver sv idx off idx2=>exact ⟨_,br_inv (show br (m == 1) (K [_]) none=some r from h),one⟩
  |func f cs=>exact ⟨_,br_inv (show br (m == 1) (K [_]) none=some r from h),one⟩
theorem takeAllK_agree {t:TypeId}:∀ {xs:List AVal} {b:List Blk} {K:List CVal→List Blk→Option R},inNewL n xs=true→takeAllK P t xs b K=some r→∃ l b',K l b'=some r∧Agree n b b'∧b'.length=b.length
 |[],b,K,_,h=>⟨[],b,h,.refl b,rfl⟩
 |x :: xs,b,K,hx,h=>by
  simp only [inNewL,Bool.and_eq_true] at hx
  simp only [takeAllK,takeK] at h
  obtain ⟨cs,h,hcs⟩:=wCells_new hx.1 h
  obtain ⟨l,b1,h,h1,h2⟩:=takeCellsK_agree hcs (br_inv h)
  obtain ⟨l2,b2,h,h3,h4⟩:=takeAllK_agree hx.2 h
  exact ⟨_,b2,h,h1.trans h3,h4.trans h2⟩
theorem partsInOrder_new:∀ {ps:List (Nat × AVal)} {i:Nat} {l:List AVal},partsInOrder i ps=some l→l=ps.map (·.2)
 |[],_,_,h=>by simp [partsInOrder] at h;subst h;rfl
 |(j,x) :: r,i,l,h=>by
  simp only [partsInOrder] at h
  obtain ⟨l',hl,h⟩:=Option.bind_eq_some_iff.1 (br_inv h)
  simp at h;subst h
  rw [partsInOrder_new hl];rfl
theorem buildSliceK_agree {D:TypeId→Bool} {t:TypeId} {len:Nat} {parts:List (Nat × AVal)} {b:List Blk} {K:AVal→List Blk→Option R} (hn:n.n ≤ b.length) (hp:inNewL n (parts.map (·.2))=true) (h:buildSliceK D P t len parts b K=some r) :
  ∃ x b',K x b'=some r∧Agree n b b':=by
 unfold buildSliceK at h
 split at h
 ·rename_i e he
  obtain ⟨l,hl,h⟩:=Option.bind_eq_some_iff.1 h
  have h:=br_inv h
  rw [← partsInOrder_new hl] at hp
  cases len with
  |zero=>exact ⟨_,b,h,.refl b⟩
  |succ m=>
   simp only at h
   cases hc:(flatT P e || (D e && l.all (ownA P e b))) with
   |true=>
    rw [hc] at h
    obtain ⟨cs,b1,h,h1,h2⟩:=takeAllK_agree hp (show takeAllK P e l b _=some r from h)
    exact ⟨_,_,h,h1.trans (.app (by omega))⟩
   |false=>
    rw [hc] at h
    obtain ⟨cs,_,h⟩:=Option.bind_eq_some_iff.1 (show (closeL b l).bind _=some r from h)
    obtain ⟨h1,h2⟩:=killL_agree (b:=b) hp
    exact ⟨_,_,br_inv h,h1.trans (.app (by omega))⟩
 ·cases h
end
theorem explodeL_inv1 {R α:Type} {r:R} {c:List α} {K:List α→Option R} (h:explodeL c 0 1 K=some r):∃ x,K [x]=some r:=by
 simp only [explodeL,Option.bind_eq_some_iff] at h
 obtain ⟨x,_,h⟩:=h
 exact ⟨x,h⟩
theorem callK_push1 {E:Env} {C:CallT} {g:FuncId} {n:Rg} {args:List AVal} (hp:push1 E n g args=true) {b:List Blk} (hn:n.n ≤ b.length) {R:Type} {r:R} {K:AVal→List Blk→Option R} (h:callK E C g args b K=some r):∃ x b',K x b'=some r∧Agree n b b':=by
 unfold push1 at hp
 split at hp
 ·rename_i i ver
  simp only [Bool.and_eq_true,Bool.not_eq_true',decide_eq_true_eq] at hp
  obtain ⟨hi,hm⟩:=hp
  unfold callK at h
  cases hg:(g == apId) with
  |true=>rw [hg] at h;cases h
  |false=>
   rw [hg] at h
   simp only [Abs.br,promo,focusArgs,handAll,handA,hm,handRef,idxOf,PM.am,List.length_nil,List.nil_append,Option.bind_eq_some_iff,handBlks] at h
   obtain ⟨xs,hxs,h⟩:=h
   split at h
   ·rename_i ver' m sz ys hb
    have h:=br_inv' h
    have h:=br_inv h
    obtain ⟨ret,_,h⟩:=Option.bind_eq_some_iff.1 h
    have h:=br_inv' h
    obtain ⟨l,h⟩:=explodeL_inv1 h
    simp only [List.map_cons,List.map_nil,PB.sh,backBlks,hb,unfocusAll] at h
    have hA:∀ bk:Blk,Agree n b (b.set i bk):=fun bk=>.set hi
    unfold backRK at h
    split at h
    ·obtain ⟨x,e,h⟩:=openRK_ext h
     exact ⟨x,_,h,(hA _).trans (.app (by simpa using hn))⟩
    ·split at h
     ·exact ⟨_,_,h,hA _⟩
     ·split at h
      ·exact ⟨_,_,h,hA _⟩
      ·cases h
   ·rename_i ver' cs hb
    unfold arrOf at hxs
    rw [hb] at hxs
    simp at hxs
   ·cases h
 ·cases hp
theorem promo_pushB {E:Env} {g:FuncId}:∀ {args:List AVal} {j:Nat} {b:List Blk} {R:Type} {K:List AVal→List Blk→Option R},pushB E g j args=true→promo E g j args b K=K args b
 |[],_,_,_,_,_=>rfl
 |x :: r,j,b,R,K,h=>by
  cases x with
  |v c=>simp only [promo];rw [promo_pushB (by simpa [pushB] using h)]
  |lref i ver=>
   simp only [pushB,Bool.and_eq_true] at h
   simp only [promo];rw [promo_pushB h.2]
  |_=>simp [pushB] at h
theorem focusArgs_pushB {E:Env} {g:FuncId}:∀ {args:List AVal} {j:Nat} {b:List Blk} {R:Type} {K:List AVal→List (Nat × Nat)→List Blk→Option R},pushB E g j args=true→focusArgs E g j args b K=K args [] b
 |[],_,_,_,_,_=>rfl
 |x :: r,j,b,R,K,h=>by
  cases x with
  |v c=>simp only [focusArgs];rw [focusArgs_pushB (by simpa [pushB] using h)]
  |lref i ver=>
   simp only [pushB,Bool.and_eq_true] at h
   simp only [focusArgs];rw [focusArgs_pushB h.2]
  |_=>simp [pushB] at h
theorem handAll_pushB {E:Env} {g:FuncId} {R:Type} {r:R}:∀ {args:List AVal} {j:Nat} {l:List AVal} {ids:List (Nat × AM)} {b:List Blk} {K:Hand→Option R},pushB E g j args=true→handAll (E.pm g) j args ⟨l,ids,b⟩ K=some r→∃ m,K ⟨m,ids,b⟩=some r
 |[],_,l,ids,b,K,_,h=>⟨l,by simpa [handAll] using h⟩
 |x :: args,j,l,ids,b,K,hp,h=>by
  cases x with
  |v c=>
   simp only [handAll,handA] at h
   exact handAll_pushB (by simpa [pushB] using hp) h
  |lref i ver=>
   simp only [pushB,Bool.and_eq_true,decide_eq_true_eq] at hp
   simp only [handAll,handA,hp.1,Option.bind_eq_some_iff] at h
   obtain ⟨xs,_,h⟩:=h
   exact handAll_pushB hp.2 h
  |_=>simp [pushB] at hp
theorem callK_pushB {E:Env} {C:CallT} {g:FuncId} {n:Rg} {args:List AVal} (hp:pushB E g 0 args=true) {b:List Blk} (hn:n.n ≤ b.length) {R:Type} {r:R} {K:AVal→List Blk→Option R} (h:callK E C g args b K=some r):∃ x b',K x b'=some r∧Agree n b b':=by
 unfold callK at h
 cases hg:(g == apId) with
 |true=>rw [hg] at h;cases h
 |false=>
  rw [hg] at h
  simp only [Abs.br] at h
  rw [promo_pushB hp,focusArgs_pushB hp] at h
  obtain ⟨m,h⟩:=handAll_pushB hp h
  simp only [handBlks,List.all_nil,Abs.br] at h
  obtain ⟨ret,_,h⟩:=Option.bind_eq_some_iff.1 h
  have h:=br_inv' h
  simp only [List.length_nil,explodeL,List.map_nil,backBlks,unfocusAll] at h
  obtain ⟨x,e,h⟩:=backRK_ext h
  exact ⟨x,_,h,.app hn⟩
theorem promo_pushX {E:Env} {n:Rg} {b0:List Blk} {g:FuncId}:∀ {args:List AVal} {j:Nat} {b:List Blk} {R:Type} {K:List AVal→List Blk→Option R},pushX E n b0 g j args=true→promo E g j args b K=K args b
 |[],_,_,_,_,_=>rfl
 |x :: r,j,b,R,K,h=>by
  cases x with
  |v c=>simp only [promo];rw [promo_pushX (by simpa [pushX] using h)]
  |nl=>
   simp only [pushX,Bool.and_eq_true,Bool.not_eq_true'] at h
   simp only [promo,PM.prom_of h.1,Abs.br];rw [promo_pushX h.2]
  |agg cs=>
   simp only [pushX,Bool.and_eq_true,Bool.not_eq_true'] at h
   simp only [promo,PM.prom_of h.1.2,Abs.br];rw [promo_pushX h.2]
  |lref i ver=>
   simp only [pushX,Bool.and_eq_true] at h
   simp only [promo];rw [promo_pushX h.2]
  |lptr i off=>
   cases off with
   |zero=>
    simp only [pushX,Bool.and_eq_true] at h
    simp only [promo];rw [promo_pushX h.2]
   |succ k=>simp [pushX] at h
  |_=>simp [pushX] at h
theorem focusArgs_pushX {E:Env} {n:Rg} {b0:List Blk} {g:FuncId}:∀ {args:List AVal} {j:Nat} {b:List Blk} {R:Type} {K:List AVal→List (Nat × Nat)→List Blk→Option R},pushX E n b0 g j args=true→focusArgs E g j args b K=K args [] b
 |[],_,_,_,_,_=>rfl
 |x :: r,j,b,R,K,h=>by
  cases x with
  |v c=>simp only [focusArgs];rw [focusArgs_pushX (by simpa [pushX] using h)]
  |nl=>
   simp only [pushX,Bool.and_eq_true] at h
   simp only [focusArgs];rw [focusArgs_pushX h.2]
  |agg cs=>
   simp only [pushX,Bool.and_eq_true] at h
   simp only [focusArgs];rw [focusArgs_pushX h.2]
  |lref i ver=>
   simp only [pushX,Bool.and_eq_true] at h
   simp only [focusArgs];rw [focusArgs_pushX h.2]
  |lptr i off=>
   cases off with
   |zero=>
    simp only [pushX,Bool.and_eq_true] at h
    simp only [focusArgs];rw [focusArgs_pushX h.2]
   |succ k=>simp [pushX] at h
  |_=>simp [pushX] at h
structure HX (n:Rg) (b0:List Blk) (h:Hand):Prop where
 ag:Agree n b0 h.b
 len:h.b.length=b0.length
 box:∀ i,flatBox b0 i=true→h.b[i]? = b0[i]?
 ids:∀ p ∈ h.ids,n.old p.1=false∧flatBox b0 p.1=true
theorem pushRefs_shut {b:List Blk} {R:Type} {K:List (Nat × AM)→Option R}:∀ {cs:List AVal} {ids:List (Nat × AM)},cs.all closedV=true→pushRefs b cs ids K=K ids
 |[],_,_=>rfl
 |x :: r,ids,h=>by
  simp only [List.all_cons,Bool.and_eq_true] at h
  cases x with
  |v c=>simp only [pushRefs];exact pushRefs_shut h.2
  |nl=>simp only [pushRefs];exact pushRefs_shut h.2
  |_=>cases h.1
theorem kill_box {b:List Blk} {i k ver vr:Nat} {cs:List AVal} {xs:List CVal} (h:b[k]? = some ⟨ver,.box cs⟩) (ha:arrOf b i vr=some xs):(kill b i)[k]? = b[k]?:=by
 have hne:i ≠ k:=by
  rintro rfl
  unfold arrOf at ha
  rw [h] at ha
  simp at ha
 unfold kill
 split
 ·rw [List.getElem?_set_ne hne]
 ·rfl
theorem killL_shut {b:List Blk}:∀ {cs:List AVal},cs.all closedV=true→killL cs b=b
 |[],_=>rfl
 |x :: r,h=>by
  simp only [List.all_cons,Bool.and_eq_true] at h
  cases x with
  |v c=>simp only [killL,killA];exact killL_shut h.2
  |nl=>simp only [killL,killA];exact killL_shut h.2
  |_=>cases h.1
theorem flatBox_spec {b:List Blk} {i:Nat} (h:flatBox b i=true):∃ ver cs,b[i]? = some ⟨ver,.box cs⟩∧cs.all closedV=true:=by
 unfold flatBox at h
 split at h
 ·rename_i ver cs hb
  exact ⟨ver,cs,hb,h⟩
 ·cases h
theorem handA_pushX {n:Rg} {b0:List Blk} {m:PM} {x:AVal} {h:Hand} {R:Type} {r:R} {K:AVal→Hand→Option R} (hx:HX n b0 h)
  (hp:(∃ c,x=.v c)∨(x=.nl∧m.gives=false)∨(∃ cs,x=.agg cs∧cs.all closedV=true∧m.gives=false)∨(∃ i ver,x=.lref i ver∧n.old i=false∧m=.cls)∨(∃ i,x=.lptr i 0∧n.old i=false∧flatBox b0 i=true))
  (hr:handA m x h K=some r):∃ a h',K a h'=some r∧HX n b0 h':=by
 rcases hp with ⟨c,rfl⟩ | ⟨rfl,hm⟩ | ⟨cs,rfl,hcs,hm⟩ | ⟨i,ver,rfl,hi,rfl⟩ | ⟨i,rfl,hi,hf⟩
 ·exact ⟨_,h,hr,hx⟩
 ·rw [handA_nl (nl_gives hm)] at hr
  exact ⟨_,h,hr,hx⟩
 ·cases m with
  |bor=>
   obtain ⟨l,_,hr⟩:=Option.bind_eq_some_iff.1 (show (closeL h.b cs).bind _=some r from hr)
   exact ⟨_,h,hr,hx⟩
  |cls=>
   obtain ⟨l,_,hr⟩:=Option.bind_eq_some_iff.1 (show (closeL h.b cs).bind _=some r from hr)
   rw [killL_shut hcs] at hr
   exact ⟨_,h,hr,hx⟩
  |_=>cases hm
 ·obtain ⟨xs,hxs,hr⟩:=Option.bind_eq_some_iff.1 (show (arrOf h.b i ver).bind _=some r from hr)
  obtain ⟨k1,k2⟩:=kill_agree (b:=h.b) hi
  refine ⟨_,_,hr,hx.ag.trans k1,k2.trans hx.len,fun k hk=>?_,hx.ids⟩
  obtain ⟨v,cs,hb,_⟩:=flatBox_spec hk
  have e:=hx.box k hk
  exact (kill_box (e.trans hb) hxs).trans e
 ·have hr:handPtr h i K=some r:=by cases m<;>exact hr
  unfold handPtr at hr
  split at hr
  ·exact ⟨_,h,hr,hx⟩
  ·obtain ⟨v,cs,hb,hcs⟩:=flatBox_spec hf
   obtain ⟨cs',hcs',hr⟩:=Option.bind_eq_some_iff.1 hr
   have e:=(hx.box i hf).trans hb
   have:cs'=cs:=by
    unfold boxOf at hcs'
    rw [e] at hcs'
    simpa using hcs'.symm
   subst this
   rw [pushRefs_shut hcs] at hr
   refine ⟨_,_,hr,hx.ag,hx.len,hx.box,fun p hp=>?_⟩
   rcases List.mem_append.1 hp with hp | hp
   ·exact hx.ids p hp
   ·simp at hp
    subst hp
    exact ⟨hi,hf⟩
theorem handAll_pushX {E:Env} {n:Rg} {b0:List Blk} {g:FuncId} {R:Type} {r:R}:∀ {args:List AVal} {j:Nat} {h:Hand} {K:Hand→Option R},pushX E n b0 g j args=true→HX n b0 h→handAll (E.pm g) j args h K=some r→∃ h',K h'=some r∧HX n b0 h'
 |[],_,h,K,_,hx,hr=>⟨h,hr,hx⟩
 |x :: args,j,h,K,hp,hx,hr=>by
  simp only [handAll] at hr
  have key:((∃ c,x=.v c)∨(x=.nl∧(E.pm g j).gives=false)∨(∃ cs,x=.agg cs∧cs.all closedV=true∧(E.pm g j).gives=false)∨(∃ i ver,x=.lref i ver∧n.old i=false∧E.pm g j=.cls)∨(∃ i,x=.lptr i 0∧n.old i=false∧flatBox b0 i=true))→pushX E n b0 g (j + 1) args=true→∃ h',K h'=some r∧HX n b0 h':=by
   intro hq hp2
   obtain ⟨a,h',hr',hx'⟩:=handA_pushX hx hq hr
   exact handAll_pushX (h:=⟨h'.args ++ [a],h'.ids,h'.b⟩) hp2 ⟨hx'.ag,hx'.len,hx'.box,hx'.ids⟩ hr'
  cases x with
  |v c=>exact key (.inl ⟨c,rfl⟩) (by simpa [pushX] using hp)
  |nl=>
   simp only [pushX,Bool.and_eq_true,Bool.not_eq_true'] at hp
   exact key (.inr (.inl ⟨rfl,hp.1⟩)) hp.2
  |agg cs=>
   simp only [pushX,Bool.and_eq_true,Bool.not_eq_true'] at hp
   exact key (.inr (.inr (.inl ⟨cs,rfl,hp.1.1,hp.1.2⟩))) hp.2
  |lref i ver=>
   simp only [pushX,Bool.and_eq_true,Bool.not_eq_true',decide_eq_true_eq] at hp
   exact key (.inr (.inr (.inr (.inl ⟨i,ver,rfl,hp.1.1,hp.1.2⟩)))) hp.2
  |lptr i off=>
   cases off with
   |zero=>
    simp only [pushX,Bool.and_eq_true,Bool.not_eq_true'] at hp
    exact key (.inr (.inr (.inr (.inr ⟨i,rfl,hp.1.1,hp.1.2⟩)))) hp.2
   |succ k=>simp [pushX] at hp
  |_=>simp [pushX] at hp
theorem boxCells_shut {ids:List (Nat × AM)} {R:Type} {r:R}:∀ {cs:List AVal} {b:List Blk} {K:List AVal→List Blk→Option R},cs.all closedV=true→boxCells ids cs b K=some r→∃ l,K l b=some r
 |[],b,K,_,h=>⟨[],h⟩
 |x :: cs,b,K,hc,h=>by
  simp only [List.all_cons,Bool.and_eq_true] at hc
  cases x with
  |v c=>
   obtain ⟨d,_,h⟩:=Option.bind_eq_some_iff.1 (show (closeA b (.v c)).bind _=some r from h)
   obtain ⟨l,h⟩:=boxCells_shut hc.2 h
   exact ⟨_,h⟩
  |nl=>
   obtain ⟨d,_,h⟩:=Option.bind_eq_some_iff.1 (show (closeA b .nl).bind _=some r from h)
   obtain ⟨l,h⟩:=boxCells_shut hc.2 h
   exact ⟨_,h⟩
  |_=>cases hc.1
theorem handBlks_pushX {ids0:List (Nat × AM)} {R:Type} {r:R}:∀ {ids:List (Nat × AM)} {b:List Blk} {K:List PB→List Blk→Option R},(∀ p ∈ ids,flatBox b p.1=true)→handBlks ids0 ids b K=some r→∃ pbs,K pbs b=some r
 |[],b,K,_,h=>⟨[],h⟩
 |p :: ids,b,K,hf,h=>by
  obtain ⟨v,cs,hb,hcs⟩:=flatBox_spec (hf p (by simp))
  simp only [handBlks,hb] at h
  obtain ⟨l,h⟩:=boxCells_shut hcs h
  obtain ⟨pbs,h⟩:=handBlks_pushX (fun q hq=>hf q (by simp [hq])) h
  exact ⟨_,h⟩
theorem backCells_agree {n:Rg} {R:Type} {r:R}:∀ {o:List (Option Nat)} {l:List CVal} {b:List Blk} {K:List AVal→List Blk→Option R},n.n ≤ b.length→backCells o l b K=some r→∃ cs b',K cs b'=some r∧Agree n b b'∧n.n ≤ b'.length
 |[],[],b,K,hn,h=>⟨[],b,h,.refl b,hn⟩
 |[],_ :: _,_,_,_,h=>by simp [backCells] at h
 |some sz :: o,[],_,_,_,h=>by simp [backCells] at h
 |none :: o,[],_,_,_,h=>by simp [backCells] at h
 |some sz :: o,c :: l,b,K,hn,h=>by
  simp only [backCells] at h
  obtain ⟨ys,_,h⟩:=Option.bind_eq_some_iff.1 h
  obtain ⟨cs,b',h,h1,h2⟩:=backCells_agree (n:=n) (by simp;omega) h
  exact ⟨_,b',h,(Agree.app hn).trans h1,h2⟩
 |none :: o,c :: l,b,K,hn,h=>by
  simp only [backCells] at h
  obtain ⟨cs,b',h,h1,h2⟩:=backCells_agree (n:=n) hn h
  exact ⟨_,b',h,h1,h2⟩
theorem backBlks_agree {n:Rg} {R:Type} {r:R}:∀ {ids:List (Nat × AM)} {ps:List PSh} {ls:List (List CVal)} {b:List Blk} {K:List Blk→Option R},n.n ≤ b.length→(∀ p ∈ ids,n.old p.1=false)→backBlks ids ps ls b K=some r→∃ b',K b'=some r∧Agree n b b'∧n.n ≤ b'.length
 |[],ps,ls,b,K,hn,hi,h=>by
  cases ps with
  |nil=>exact ⟨b,h,.refl b,hn⟩
  |cons _ _=>simp [backBlks] at h
 |i :: ids,[],ls,b,K,hn,hi,h=>by simp [backBlks] at h
 |i :: ids,p :: ps,[],b,K,hn,hi,h=>by cases p<;>simp [backBlks] at h
 |i :: ids,.arr m0 g0 s0 :: ps,l :: ls,b,K,hn,hi,h=>by
  have h0:=hi i (by simp)
  simp only [backBlks] at h
  split at h
  ·split at h
   all_goals
    obtain ⟨b',h,h1,h2⟩:=backBlks_agree (n:=n) (by simpa using hn) (fun p hp=>hi p (by simp [hp])) h
    exact ⟨b',h,(Agree.set h0).trans h1,h2⟩
  ·cases h
 |i :: ids,.box o :: ps,l :: ls,b,K,hn,hi,h=>by
  have h0:=hi i (by simp)
  simp only [backBlks] at h
  split at h
  ·obtain ⟨l',h⟩:=explodeL_inv h
   obtain ⟨cs,b1,h,k1,k2⟩:=backCells_agree (n:=n) hn h
   obtain ⟨b',h,h1,h2⟩:=backBlks_agree (n:=n) (by simpa using k2) (fun p hp=>hi p (by simp [hp])) h
   exact ⟨b',h,(k1.trans (Agree.set h0)).trans h1,h2⟩
  ·cases h
theorem callK_pushX {E:Env} {C:CallT} {g:FuncId} {n:Rg} {args:List AVal} {b:List Blk} (hp:pushX E n b g 0 args=true) (hn:n.n ≤ b.length) {R:Type} {r:R} {K:AVal→List Blk→Option R} (h:callK E C g args b K=some r):∃ x b',K x b'=some r∧Agree n b b':=by
 unfold callK at h
 cases hg:(g == apId) with
 |true=>rw [hg] at h;cases h
 |false=>
  rw [hg] at h
  simp only [Abs.br] at h
  rw [promo_pushX hp,focusArgs_pushX hp] at h
  obtain ⟨h',h,hx⟩:=handAll_pushX hp ⟨.refl b,rfl,fun _ _=>rfl,fun p hp=>by cases hp⟩ h
  have hfl:∀ p ∈ h'.ids,flatBox h'.b p.1=true:=by
   intro p hp
   have h1:=(hx.ids p hp).2
   have h2:=hx.box p.1 h1
   unfold flatBox at h1 ⊢
   rw [h2];exact h1
  obtain ⟨pbs,h⟩:=handBlks_pushX hfl h
  have h:=br_inv h
  obtain ⟨ret,_,h⟩:=Option.bind_eq_some_iff.1 h
  have h:=br_inv' h
  obtain ⟨ls,h⟩:=explodeL_inv h
  obtain ⟨b',h,h1,h2⟩:=backBlks_agree (n:=n) (by rw [hx.len];exact hn) (fun p hp=>(hx.ids p hp).1) h
  simp only [unfocusAll] at h
  unfold backRK at h
  split at h
  ·obtain ⟨x,e,h⟩:=openRK_ext h
   exact ⟨x,_,h,(hx.ag.trans h1).trans (.app h2)⟩
  ·split at h
   ·exact ⟨_,_,h,hx.ag.trans h1⟩
   ·split at h
    ·exact ⟨_,_,h,hx.ag.trans h1⟩
    ·cases h
theorem wApp_push {D:TypeId→Bool} {fs:Bool} {P:Program} {e:TypeId} {n:Rg} {b:List Blk} {y:AVal} (hy:(closedV y || inNew n y)=true) {R:Type} {r:R} {K:List CVal→Bool→List Blk→Option R} (h:wApp D fs P e b y K=some r):∃ ys d b',K ys d b'=some r∧Agree n b b'∧b'.length=b.length:=by
 unfold wApp at h
 cases hf:flatT P e with
 |true=>
  rw [hf] at h
  have h:(wSl b y fun ys=>br (ys.all (CVal.fitsF (aggT P e) (cks P e))) (K ys true b) none)=some r:=h
  unfold wSl at h
  split at h
  ·obtain ⟨ys,_,h⟩:=Option.bind_eq_some_iff.1 h
   exact ⟨ys,true,b,br_inv h,.refl b,rfl⟩
  ·exact ⟨[],true,b,br_inv h,.refl b,rfl⟩
  ·obtain ⟨ys,_,h⟩:=Option.bind_eq_some_iff.1 h
   exact ⟨ys,true,b,br_inv h,.refl b,rfl⟩
  ·obtain ⟨ys,_,h⟩:=Option.bind_eq_some_iff.1 h
   exact ⟨ys,true,b,br_inv h,.refl b,rfl⟩
  ·cases h
 |false=>
  rw [hf] at h
  simp only [Abs.br] at h
  split at h
  ·exact ⟨_,_,_,h,.refl b,rfl⟩
  ·rename_i j ver
   obtain ⟨ys,_,h⟩:=Option.bind_eq_some_iff.1 h
   have hj:n.old j=false:=by simpa [closedV,inNew] using hy
   obtain ⟨k1,k2⟩:=kill_agree (b:=b) hj
   cases hd:(mdOf b j).deep with
   |true=>rw [hd] at h;exact ⟨_,_,_,br_inv h,k1,k2⟩
   |false=>rw [hd] at h;exact ⟨_,_,_,br_inv h,.refl b,rfl⟩
  ·obtain ⟨ys,_,h⟩:=Option.bind_eq_some_iff.1 h
   have h:=br_inv h
   cases hD:(fs && D e) with
   |true=>rw [hD] at h;exact ⟨_,_,_,h,.refl b,rfl⟩
   |false=>rw [hD] at h;exact ⟨_,_,_,h,.refl b,rfl⟩
  ·cases h
theorem unq_new {n:Rg} {y:AVal} (h:(closedV y || inNew n y)=true):(closedV (unq y) || inNew n (unq y))=true:=by
 cases y with
 |v c=>cases c<;>rfl
 |_=>exact h
theorem unq_new' {n:Rg} {y:AVal} {fs:Bool} (h:(closedV y || inNew n y)=true):(closedV (cond fs (unq y) y) || inNew n (cond fs (unq y) y))=true:=by
 cases fs
 ·exact h
 ·exact unq_new h
theorem appendK_push {D:TypeId→Bool} {fs:Bool} {P:Program} {n:Rg} {b:List Blk} {ty ty2:TypeId} {x y:AVal} (hp:pushApp n [x,y]=true) (hn:n.n ≤ b.length) {R:Type} {r:R} {K:AVal→List Blk→Option R} (h:appendK D fs P b ty ty2 x y K=some r):∃ x b',K x b'=some r∧Agree n b b':=by
 unfold appendK at h
 split at h
 ·rename_i e he
  have h:=br_inv h
  cases x with
  |nl=>
   obtain ⟨ys,d,b',h,h1,h2⟩:=wApp_push (n:=n) (unq_new' (by simpa [pushApp] using hp)) h
   exact ⟨_,_,br_inv h,h1.trans (.app (by omega))⟩
  |lref i ver=>
   simp only [pushApp,Bool.and_eq_true,Bool.not_eq_true'] at hp
   obtain ⟨ys,d,b',h,h1,h2⟩:=wApp_push (unq_new' hp.2) h
   obtain ⟨xs,_,h⟩:=Option.bind_eq_some_iff.1 h
   exact ⟨_,_,br_inv h,h1.trans (.set hp.1)⟩
  |_=>simp [pushApp] at hp
 ·cases h
theorem ofCell_inNew {n:Rg} {v:Value} {a:AVal} (h:ofCell v=some a):inNew n a=true:=by
 unfold ofCell at h
 split at h<;>first | (cases h;rfl) | cases h
theorem ofCells_inNew {n:Rg}:∀ {l:List Value} {as:List AVal},ofCells l=some as→inNewL n as=true
 |[],_,h=>by cases h;rfl
 |v :: r,as,h=>by
  simp only [ofCells] at h
  obtain ⟨a,ha,h⟩:=Option.bind_eq_some_iff.1 h
  obtain ⟨l,hl,h⟩:=Option.bind_eq_some_iff.1 h
  cases h
  simp [inNewL,ofCell_inNew ha,ofCells_inNew hl]
theorem ofVal_inNew {n:Rg} {v:Value} {a:AVal} (h:ofVal v=some a):inNew n a=true:=by
 unfold ofVal at h
 split at h
 ·obtain ⟨l,hl,h⟩:=Option.bind_eq_some_iff.1 h
  cases h
  unfold mkAgg
  split
  ·rfl
  ·simp [inNew,ofCells_inNew hl]
 ·exact ofCell_inNew h
theorem zeroT_inNew {n:Rg} {P:Program} {e:TypeId} {z:AVal} (h:zeroT P e=some z):inNew n z=true:=by
 unfold zeroT at h
 obtain ⟨v,_,h⟩:=Option.bind_eq_some_iff.1 h
 exact ofVal_inNew h
theorem makeSliceK_agree {D:TypeId→Bool} {P:Program} {n:Rg} {b:List Blk} {ty:TypeId} {x y:AVal} (hn:n.n ≤ b.length) {R:Type} {r:R} {K:AVal→List Blk→Option R} (h:makeSliceK D P ty x y b K=some r):∃ z b',K z b'=some r∧Agree n b b':=by
 unfold makeSliceK at h
 split at h
 ·rename_i e he
  unfold wIdx at h
  split at h
  ·obtain ⟨p,_,h⟩:=Option.bind_eq_some_iff.1 h
   split at h
   ·obtain ⟨q,_,h⟩:=Option.bind_eq_some_iff.1 h
    have h:=br_inv h
    obtain ⟨z,hz,h⟩:=Option.bind_eq_some_iff.1 h
    obtain ⟨hd,hh⟩:=wCells_det (agg:=aggT P e) (n:=P.cellsOf e) (x:=z)
    have h:=(hh R _).symm.trans h
    cases hd with
    |none=>cases h
    |some zs=>
     simp only [Option.bind_some] at h
     cases hb:(flatT P e || D e) with
     |true=>
      rw [hb] at h
      simp only [br] at h
      obtain ⟨cs,_,h⟩:=Option.bind_eq_some_iff.1 h
      exact ⟨_,_,h,.app hn⟩
     |false=>
      rw [hb] at h
      simp only [br] at h
      obtain ⟨c,_,h⟩:=Option.bind_eq_some_iff.1 h
      have h:=br_inv h
      obtain ⟨k1,k2⟩:=killA_agree (n:=n) (b:=b) (zeroT_inNew hz)
      exact ⟨_,_,h,k1.trans (.app (by omega))⟩
   ·cases h
  ·cases h
 ·cases h
theorem opK_push {E:Env} {C:CallT} {n:Rg} {o:Oper} {t:List AVal} {b:List Blk} (hp:pushOp E n o t b=true) (hn:n.n ≤ b.length) {R:Type} {r:R} {K:AVal→List Blk→Option R} (h:opK E C o t b K=some r):∃ x b',K x b'=some r∧Agree n b b':=by
 unfold pushOp at hp
 split at hp
 ·rename_i ty len ps hc
  unfold opK at h
  simp only [hc] at h
  exact buildSliceK_agree hn hp h
 ·rename_i ty x y hc
  unfold opK at h
  simp only [hc] at h
  exact makeSliceK_agree hn h
 ·rename_i c hc
  split at hp
  ·rename_i g hg
   rcases (Bool.or_eq_true _ _).mp hp with hp | hp
   ·obtain ⟨z,hz⟩:=callK_push (E:=E.at o) (C:=C) hp
    unfold opK at h
    simp only [hc,hg] at h
    rw [hz] at h
    obtain ⟨r0,_,h⟩:=Option.bind_eq_some_iff.1 h
    obtain ⟨x,e,h⟩:=backRK_ext h
    exact ⟨x,_,h,.app hn⟩
   ·unfold opK at h
    simp only [hc,hg] at h
    rcases (Bool.or_eq_true _ _).mp hp with hp | hp
    ·exact callK_push1 (E:=E.at o) hp hn h
    ·rcases (Bool.or_eq_true _ _).mp hp with hp | hp
     ·exact callK_pushB (E:=E.at o) hp hn h
     ·exact callK_pushX (E:=E.at o) hp hn h
  ·rename_i hg
   unfold opK at h
   simp only [hc,hg] at h
   split at h
   ·rename_i x y ty ty2 h1 h2
    rw [h1] at hp
    exact appendK_push hp hn h
   ·cases h
  ·cases hp
 ·cases hp
theorem indexAddrK_place {P:Program} {t:TypeId} {x ix:AVal} {b b':List Blk} {R:Type} {K:AVal→Option R} (h:placeV x=true):indexAddrK P t b x ix K=indexAddrK P t b' x ix K:=by
 cases x with
 |v c=>rfl
 |lptr i off=>rfl
 |_=>cases h
theorem wSl_closed {x:AVal} {b b':List Blk} {R:Type} {K:List CVal→Option R} (h:closedV x=true):wSl b x K=wSl b' x K:=by
 cases x with
 |v c=>rfl
 |nl=>rfl
 |_=>cases h
theorem lenK_closed {P:Program} {t:TypeId} {x:AVal} {b b':List Blk} {R:Type} {K:AVal→Option R} (h:closedV x=true):lenK P t b x K=lenK P t b' x K:=by
 unfold lenK
 cases P.underlying t with
 |none=>rfl
 |some d=>
  cases d with
  |slice e=>exact wSl_closed h
  |_=>rfl
theorem opK_bl {E:Env} {C:CallT} {o:Oper} {t:List AVal} (hne:Nonempty ι) (h:(blindOp E o t=true)∨(roOp E o t=true∧∀ i j,Rd (pb i) (pb j) (o.op.operands.toList.map (evalA t)))) :
  Bl pb fun i R K=>opK (R:=R) E C o t (pb i) K:=by
 obtain ⟨i0⟩:=hne
 have same:∀ {α:Type} {G:List Blk→(R:Type)→(α→Option R)→Option R},(∀ b,Det (G b))→(∀ i j R K,G (pb i) R K=G (pb j) R K)→Bl pb fun i R K=>G (pb i) R fun x=>K x (pb i):=by
  intro α G hd hs
  obtain ⟨z,hz⟩:=hd (pb i0)
  exact ⟨z,fun i R K=>(hs i i0 R _).trans (hz R _)⟩
 obtain ⟨dst,op,type,pos,after,guard⟩:=o
 unfold opK
 cases op with
 |move x=>exact .pure _
 |assign x=>exact .pure _
 |pick c x y=>
  refine .comp wBool_det fun g=>?_
  have dflt:∀ (p r:AVal),Bl pb fun i R K=>Abs.br (R:=R) g (K p (pb i)) (K r (pb i)):=fun p r=>.br (.pure _) (.pure _)
  generalize evalA t x=p
  generalize evalA t y=r
  cases p with
  |v c=>
   cases r with
   |v c'=>exact .pure _
   |_=>exact dflt _ _
  |_=>exact dflt _ _
 |alloc e=>simp [blindOp,roOp] at h
 |box e x=>simp [blindOp,roOp] at h
 |build ty ps=>exact .of1 buildK_det
 |buildSlice ty n ps=>simp [blindOp,roOp] at h
 |load ty x=>
  refine same (G:=fun b R K=>loadK E.P ty b (evalA t x) K) (fun b=>loadK_det) fun i j R K=>?_
  rcases h with h | ⟨_,h⟩
  ·simp only [blindOp] at h
   split at h
   ·rename_i c hc;simp only [hc];rfl
   ·cases h
  ·exact Rd.head (F:=fun b x=>loadK E.P ty b x K) (fun ha hx=>loadK_old ha hx) ((h i j).mem (by simp [Op.operands]))
 |store ty x y=>simp [blindOp,roOp] at h
 |nilCheck x=>
  simp only
  cases evalA t x with
  |lptr i off=>exact .pure _
  |lel i ver idx off=>exact .pure _
  |lel2 i ver sv idx off idx2=>exact .pure _
  |v c=>exact .bind fun p=>.pure _
  |_=>exact .none
 |binOp op xt x y yt=>
  simp only
  cases hd:E.P.underlying xt with
  |none=>exact .of1 binK_det
  |some d=>
   cases d with
   |interface ms=>
    cases y with
    |const c=>exact .of1 eqK_det
    |_=>exact .none
   |slice e=>
    cases y with
    |const c=>exact .of1 eqK_det
    |_=>exact .none
   |_=>exact .of1 binK_det
 |unOp op xt x=>exact .of1 unK_det
 |convert s d x=>
  refine convertK_bl ?_
  rcases h with h | ⟨_,h⟩
  ·simp only [blindOp] at h
   obtain ⟨z,hz⟩:=wSl_det (b:=pb i0) (x:=evalA t x)
   exact ⟨z,fun i R K=>(wSl_closed h).trans (hz R K)⟩
  ·obtain ⟨z,hz⟩:=wSl_det (b:=pb i0) (x:=evalA t x)
   exact ⟨z,fun i R K=>(Rd.head (F:=fun b x=>wSl b x K) (fun ha hx=>wSl_old ha hx) ((h i i0).mem (by simp [Op.operands]))).trans (hz R K)⟩
 |makeFunc fn first caps=>
  cases fn with
  |func g=>
   refine .br ?_ .none
   have hk:E.frz g=none:=by
    rcases h with h | ⟨h,_⟩
    ·simpa [blindOp,keepsF] using h
    ·simpa [roOp,keepsF] using h
   rw [hk]
   simp only
   cases allClosed (caps.toList.map (evalA t)) with
   |none=>exact .pure _
   |some cs=>exact .pure _
  |_=>exact .none
 |makeSlice ty n m=>simp [blindOp,roOp] at h
 |slice ty x lo hi mx=>
  refine sliceK_bl ?_
  rcases h with h | ⟨h,_⟩
  ·simpa [blindOp] using h
  ·simpa [roOp] using h
 |fieldAddr ty x f=>exact .of1 fieldK_det
 |indexAddr ty x ix=>
  refine same (G:=fun b R K=>indexAddrK E.P ty b (evalA t x) (evalA t ix) K) (fun b=>indexAddrK_det) fun i j R K=>?_
  rcases h with h | ⟨_,h⟩
  ·exact indexAddrK_place (by simpa [blindOp] using h)
  ·exact Rd.head (F:=fun b x=>indexAddrK E.P ty b x (evalA t ix) K) (fun ha hx=>indexAddrK_old ha hx) ((h i j).mem (by simp [Op.operands]))
 |index ty x ix=>exact .of1 indexK_det
 |extract x i=>
  simp only
  cases evalA t x with
  |v c=>exact .bind fun cs=>.bind fun d=>.pure _
  |tup cs=>exact .bind fun d=>.pure _
  |_=>exact .none
 |call c=>
  have calls:∀ (E:Env) (g:FuncId) (args:List AVal),(blindArgs E g 0 args=true∨(pureArgs E g 0 args=true∧∀ i j,Rd (pb i) (pb j) args))→Bl pb fun i R K=>callK (R:=R) E C g args (pb i) K:=by
   intro E g args h
   rcases h with h | ⟨h,hs⟩
   ·obtain ⟨z,hz⟩:=callK_blind (C:=C) h
    exact ⟨z,fun i R K=>hz (pb i) R K⟩
   ·exact callK_fam i0 h hs
  have gen:∀ (E:Env) (f:Operand),((match evalA t f with
     |.v d=>blindV E d (c.args.toList.map (evalA t))
     |.func g caps=>blindArgs E g 0 (c.args.toList.map (evalA t) ++ caps)
     |_=>false)=true∨(match evalA t f with
     |.v d=>pureV E d (c.args.toList.map (evalA t))
     |.func g caps=>pureArgs E g 0 (c.args.toList.map (evalA t) ++ caps)
     |_=>false)=true∧∀ i j,Rd (pb i) (pb j) (evalA t f :: c.args.toList.map (evalA t)))→Bl pb fun i R K=>(match evalA t f with
     |.v d=>callV (R:=R) E C d (c.args.toList.map (evalA t)) (pb i) K
     |.func g caps=>callK E C g (c.args.toList.map (evalA t) ++ caps) (pb i) K
     |_=>none):=by
   intro E f h
   cases hf:evalA t f with
   |v c'=>
    rw [hf] at h
    simp only [callV]
    cases hall:allV (c.args.toList.map (evalA t)) with
    |some cs=>exact .bind fun r=>.pure _
    |none=>
     cases c' with
     |func g caps=>
      simp only [pureV,blindV,hall] at h
      refine calls E _ _ (h.imp id fun h=>⟨h.1,fun i j=>(h.2 i j).of fun x hx=>?_⟩)
      rcases List.mem_append.1 hx with hx | hx
      ·exact .inl (List.mem_cons_of_mem _ hx)
      ·obtain ⟨c',_,rfl⟩:=List.mem_map.1 hx
       exact .inr (.inl ⟨c',rfl⟩)
     |_=>exact .none
   |func g caps=>
    rw [hf] at h
    refine calls E _ _ (h.imp id fun h=>⟨h.1,fun i j=>(h.2 i j).of fun x hx=>?_⟩)
    rcases List.mem_append.1 hx with hx | hx
    ·exact .inl (List.mem_cons_of_mem _ hx)
    ·exact .inr (.inr ⟨g,caps,List.mem_cons_self,hx⟩)
   |_=>exact .none
  have hops:∀ f:Operand,c.callee=.value f→∀ i j,Rd (pb i) (pb j) ((Op.call c).operands.toList.map (evalA t))→Rd (pb i) (pb j) (evalA t f :: c.args.toList.map (evalA t)):=by
   intro f hf i j hr
   refine hr.of fun x hx=>.inl ?_
   simp only [Op.operands,Call.operands,hf]
   simpa using hx
  simp only [blindOp,roOp] at h
  simp only
  cases hc:c.callee with
  |value f=>
   rw [hc] at h
   cases f with
   |func g=>exact calls (E.at ⟨dst,.call c,type,pos,after,guard⟩) _ _ (h.imp id fun h=>⟨h.1,fun i j=>(hops _ hc i j (h.2 i j)).tail⟩)
   |tmp i=>exact gen (E.at ⟨dst,.call c,type,pos,after,guard⟩) (.tmp i) (h.imp id fun h=>⟨h.1,fun i j=>hops _ hc i j (h.2 i j)⟩)
   |const x=>exact gen (E.at ⟨dst,.call c,type,pos,after,guard⟩) (.const x) (h.imp id fun h=>⟨h.1,fun i j=>hops _ hc i j (h.2 i j)⟩)
   |global x=>exact gen (E.at ⟨dst,.call c,type,pos,after,guard⟩) (.global x) (h.imp id fun h=>⟨h.1,fun i j=>hops _ hc i j (h.2 i j)⟩)
  |invoke x m=>exact .none
  |builtin bi=>
   rw [hc] at h
   cases bi with
   |len=>
    simp only at h ⊢
    split
    ·rename_i x ty rest hx hty
     refine same (G:=fun b R K=>lenK E.P ty b (evalA t x) K) (fun b=>lenK_det) fun i j R K=>?_
     rcases h with h | ⟨_,h⟩
     ·rw [hx] at h;exact lenK_closed h
     ·exact Rd.head (F:=fun b x=>lenK E.P ty b x K) (fun ha hx=>lenK_old ha hx) ((h i j).mem (by simp [Op.operands,Call.operands,hx]))
    ·exact .none
   |append=>simp at h
   |clear=>simp at h
   |max=>
    simp only
    generalize c.args.toList=args
    match args with
    |[x,y]=>exact .bind fun k=>.comp wInt_det fun m=>.comp wInt_det fun n=>.pure _
    |[]=>exact .none
    |[_]=>exact .none
    |_ :: _ :: _ :: _=>exact .none
   |min=>
    simp only
    generalize c.args.toList=args
    match args with
    |[x,y]=>exact .bind fun k=>.comp wInt_det fun m=>.comp wInt_det fun n=>.pure _
    |[]=>exact .none
    |[_]=>exact .none
    |_ :: _ :: _ :: _=>exact .none
   |_=>exact .none
 |_=>exact .none
end
end Go.Proofs.Ytognghbhdalckaa.Abs
namespace Go.Proofs.Ytognghbhdalckaa.Abs
open Go
section
variable {E:Env} {C:CallT} {ops:Array Oper} {ro:Bool}
def opV (E:Env) (C:CallT) (o:Oper) (t:List AVal) (b:List Blk):Option (AVal × List Blk):=opK E C o t b fun x b=>some (x,b)
theorem opK_eq {o:Oper} {t:List AVal} {b:List Blk} {R:Type} {K:AVal→List Blk→Option R}:opK E C o t b K=(opV E C o t b).bind fun p=>K p.1 p.2:=by
 obtain ⟨z,hz⟩:=opK_det (E:=E) (C:=C) (o:=o) (t:=t) (b:=b)
 have h1:opK E C o t b K=z.bind fun p=>K p.1 p.2:=hz R K
 have h2:opV E C o t b=z.bind fun p=>some (p.1,p.2):=hz _ _
 rw [h1,h2]
 cases z<;>rfl
def want (ops:Array Oper) (o:Oper) (t:List AVal):Option Bool:=
 match o.guard with
 |none=>some true
 |some (j,w)=>
  match guardSlot ops j with
  |none=>none
  |some g=>
   match t.getD g .un with
   |.v (.bool p)=>some (p == w)
   |.tup []=>some false
   |_=>none
inductive Stp (E:Env) (C:CallT) (ro:Bool) (ops:Array Oper) (o:Oper) (t:List AVal) (b:List Blk):Bool→List AVal→List Blk→Prop where
 |ran (x:AVal) (b1:List Blk):want ops o t=some true→(ro=true→roOp E o t=true)→opV E C o t b=some (x,b1)→Stp E C ro ops o t b true (putA t o.dst x) b1
 |skip:want ops o t=some false→Stp E C ro ops o t b false (putA t o.dst skipped) b
theorem set_same {t:List AVal} {g:Nat} {x:AVal} (h:t.getD g .un=x) (hx:x ≠ .un):t.set g x=t:=by
 rw [List.getD_eq_getElem?_getD] at h
 cases ht:t[g]? with
 |none=>rw [ht] at h;exact (hx h.symm).elim
 |some y=>
  rw [ht] at h
  simp at h;subst h
  apply List.ext_getElem?
  intro j
  by_cases hj:g=j
  ·subst hj;rw [List.getElem?_set_self (List.getElem?_eq_some_iff.1 ht).1,ht]
  ·rw [List.getElem?_set_ne hj]
theorem stepK_inv {o:Oper} {t:List AVal} {b:List Blk} {R:Type} {r:R} {K:Bool→List AVal→List AVal→List Blk→Option R} (h:stepK E C ro ops o t b K=some r) :
  ∃ ran t' b',Stp E C ro ops o t b ran t' b'∧K ran t t' b'=some r:=by
 have go:∀ {b0:Bool},b0=(ro && !roOp E o t)→want ops o t=some true→br b0 none (opK E C o t b fun x b=>K true t (putA t o.dst x) b)=some r→∃ ran t' b',Stp E C ro ops o t b ran t' b'∧K ran t t' b'=some r:=by
  intro b0 hb hw h
  subst hb
  cases hro:(ro && !roOp E o t) with
  |true=>rw [hro] at h;cases h
  |false=>
   rw [hro] at h
   simp only [br] at h
   rw [opK_eq] at h
   cases hv:opV E C o t b with
   |none=>rw [hv] at h;cases h
   |some p=>
    rw [hv] at h
    exact ⟨true,_,_,.ran p.1 p.2 hw (fun e=>by rw [e] at hro;simpa using hro) hv,h⟩
 unfold stepK at h
 split at h
 ·rename_i hg
  exact go rfl (by simp [want,hg]) h
 ·rename_i j w hg
  split at h
  ·cases h
  ·rename_i g hgs
   split at h
   ·rename_i c hc
    cases c with
    |bool p=>
     simp only [CVal.asBool,Option.bind_some] at h
     have hs:t.set g (.v (.bool p))=t:=set_same hc (by simp)
     have hw:want ops o t=some (p == w):=by simp only [want,hg,hgs,hc]
     cases p<;>cases w<;>simp only [br] at h<;>rw [hs] at h
     ·exact go rfl hw h
     ·exact ⟨false,_,_,.skip hw,h⟩
     ·exact ⟨false,_,_,.skip hw,h⟩
     ·exact go rfl hw h
    |_=>simp [CVal.asBool] at h
   ·rename_i hc
    exact ⟨false,_,_,.skip (by simp only [want,hg,hgs,hc]),h⟩
   ·cases h
theorem stepK_run {o:Oper} {t t':List AVal} {b b':List Blk} {ran:Bool} (h:Stp E C ro ops o t b ran t' b') {R:Type} {K:Bool→List AVal→List AVal→List Blk→Option R} :
  stepK E C ro ops o t b K=K ran t t' b':=by
 have go:∀ {x:AVal} {b1:List Blk},(ro=true→roOp E o t=true)→opV E C o t b=some (x,b1)→
   br (ro && !roOp E o t) none (opK E C o t b fun x b=>K true t (putA t o.dst x) b)=K true t (putA t o.dst x) b1:=by
  intro x b1 hro hv
  have:(ro && !roOp E o t)=false:=by
   cases ro with
   |false=>rfl
   |true=>simp [hro rfl]
  rw [this]
  simp only [br]
  rw [opK_eq,hv]
  rfl
 unfold stepK
 cases h with
 |ran x b1 hw hro hv=>
  unfold want at hw
  split at hw
  ·rename_i hg
   simp only [hg]
   exact go hro hv
  ·rename_i j w hg
   simp only [hg]
   split at hw
   ·cases hw
   ·rename_i g hgs
    simp only [hgs]
    split at hw
    ·rename_i p hc
     have hs:t.set g (.v (.bool p))=t:=set_same hc (by simp)
     simp only [hc,CVal.asBool,Option.bind_some]
     cases p<;>cases w<;>simp at hw<;>simp only [br]<;>rw [hs]<;>exact go hro hv
    ·cases hw
    ·cases hw
 |skip hw=>
  unfold want at hw
  split at hw
  ·cases hw
  ·rename_i j w hg
   simp only [hg]
   split at hw
   ·cases hw
   ·rename_i g hgs
    simp only [hgs]
    split at hw
    ·rename_i p hc
     have hs:t.set g (.v (.bool p))=t:=set_same hc (by simp)
     simp only [hc,CVal.asBool,Option.bind_some]
     cases p<;>cases w<;>simp at hw<;>simp only [br]<;>rw [hs]
    ·rename_i hc
     simp only [hc]
    ·cases hw
theorem notIn_spec {d:Option Nat} {l:List Nat} (h:notIn d l=true):∀ i,d=some i→i ∉ l:=by
 intro i hi
 subst hi
 simpa [notIn] using h
theorem putA_get {t:List AVal} {d:Option Nat} {x:AVal} {i:Nat} (h:∀ j,d=some j→j ≠ i):(putA t d x)[i]? = t[i]?:=by
 cases d with
 |none=>rfl
 |some j=>exact List.getElem?_set_ne (h j rfl)
theorem evalA_put {o:Oper} {t:List AVal} {d:Option Nat} {v:AVal} (h:notIn d (o.looksAt ops)=true):∀ x ∈ o.op.operands,evalA (putA t d v) x=evalA t x:=by
 intro x hx
 cases x with
 |tmp i=>
  simp only [evalA,List.getD_eq_getElem?_getD]
  rw [putA_get fun j hj e=>notIn_spec h j hj (by
   subst e
   exact List.mem_append_left _ (List.mem_filterMap.2 ⟨.tmp j,by simpa using hx,rfl⟩))]
 |_=>rfl
theorem want_put {o:Oper} {t:List AVal} {d:Option Nat} {v:AVal} (h:notIn d (o.looksAt ops)=true):want ops o (putA t d v)=want ops o t:=by
 unfold want
 cases hg:o.guard with
 |none=>rfl
 |some gw=>
  obtain ⟨j,w⟩:=gw
  simp only
  cases hgs:guardSlot ops j with
  |none=>rfl
  |some g=>
   simp only
   have:(putA t d v).getD g .un=t.getD g .un:=by
    simp only [List.getD_eq_getElem?_getD]
    rw [putA_get fun i hi e=>notIn_spec h i hi (by
     subst e
     unfold guardSlot at hgs
     simp [Oper.looksAt,hg,hgs])]
   rw [this]
theorem putA_comm {t:List AVal} {d e:Option Nat} {x y:AVal} (h:notIn d e.toList=true):putA (putA t d x) e y=putA (putA t e y) d x:=by
 cases d with
 |none=>rfl
 |some i=>
  cases e with
  |none=>rfl
  |some j=>
   have hne:i ≠ j:=fun e=>notIn_spec h i rfl (by simp [e])
   simp only [putA]
   exact List.set_comm _ _ hne
theorem pushOp_congr {n:Rg} {o:Oper} {t t':List AVal} {b:List Blk} (h:∀ x ∈ o.op.operands,evalA t x=evalA t' x):pushOp E n o t b=pushOp E n o t' b:=by
 obtain ⟨dst,op,type,pos,after,guard⟩:=o
 unfold pushOp
 cases op<;>simp only [Op.operands] at h<;>simp only []
 case buildSlice ty len ps=>rw [mapParts_congr fun x hx=>h x (by simpa using hx)]
 case call c=>
  have e:=args_congr h
  cases hc:c.callee with
  |value f=>cases f<;>simp only [e]
  |builtin f=>simp only [e]
  |_=>rfl
theorem clsOf_congr {n:Rg} {o:Oper} {t t':List AVal} {b:List Blk} (h:∀ x ∈ o.op.operands,evalA t x=evalA t' x):clsOf E n o t b=clsOf E n o t' b:=by
 unfold clsOf
 rw [roOp_congr h,blindOp_congr h,pushOp_congr h,show o.op.operands.toList.map (evalA t)=o.op.operands.toList.map (evalA t') from List.map_congr_left fun x hx=>h x (by simpa using hx)]
theorem opV_blind {o:Oper} {t:List AVal} (h:blindOp E o t=true):∃ z:Option AVal,∀ b,opV E C o t b=z.map fun x=>(x,b):=by
 obtain ⟨z,hz⟩:=opK_bl (C:=C) (ι:=List Blk) (pb:=id) ⟨[]⟩ (.inl h)
 refine ⟨z,fun b=>?_⟩
 have:opV E C o t b=z.bind fun x=>some (x,b):=hz b _ fun x b=>some (x,b)
 rw [this]
 cases z<;>rfl
theorem opV_ro {o:Oper} {t:List AVal} {b b1:List Blk} {x:AVal} (h:roOp E o t=true) (hv:opV E C o t b=some (x,b1)):b1=b:=by
 obtain ⟨z,hz⟩:=opK_bl (C:=C) (ι:=Unit) (pb:=fun _=>b) ⟨()⟩ (.inr ⟨h,fun _ _=>.inl rfl⟩)
 have:opV E C o t b=z.bind fun x=>some (x,b):=hz () _ fun x b=>some (x,b)
 rw [this] at hv
 cases z with
 |none=>cases hv
 |some z=>simp at hv;exact hv.2.symm
theorem opV_old {n:Rg} {o:Oper} {t:List AVal} {b b0 b1:List Blk} {x:AVal} (h:roOp E o t=true) (hin:inOldL n (o.op.operands.toList.map (evalA t))=true) (ha:Agree n b b0) (hv:opV E C o t b=some (x,b1)):opV E C o t b0=some (x,b0):=by
 obtain ⟨z,hz⟩:=opK_bl (C:=C) (ι:=Bool) (pb:=fun i=>cond i b b0) ⟨true⟩ (.inr ⟨h,fun i j=>by
  cases i<;>cases j
  ·exact .inl rfl
  ·exact .inr ⟨n,hin,fun k hk=>(ha k hk).symm⟩
  ·exact .inr ⟨n,hin,ha⟩
  ·exact .inl rfl⟩)
 have h1:opV E C o t b=z.bind fun x=>some (x,b):=hz true _ fun x b=>some (x,b)
 have h2:opV E C o t b0=z.bind fun x=>some (x,b0):=hz false _ fun x b=>some (x,b)
 rw [h1] at hv
 cases z with
 |none=>cases hv
 |some z=>
  simp at hv
  rw [h2,hv.1];rfl
theorem opV_push {n:Rg} {o:Oper} {t:List AVal} {b b1:List Blk} {x:AVal} (h:pushOp E n o t b=true) (hn:n.n ≤ b.length) (hv:opV E C o t b=some (x,b1)):Agree n b b1:=by
 obtain ⟨y,b',he,ha⟩:=opK_push (C:=C) h hn hv
 simp at he
 rw [← he.2];exact ha
def cls (E:Env) (n:Rg) (o:Oper) (t:List AVal) (b:List Blk) (ran:Bool):Cls:=cond ran (clsOf E n o t b) .blind
theorem clsOf_blind {n:Rg} {o:Oper} {t:List AVal} {b:List Blk} (hc:clsOf E n o t b=.blind):blindOp E o t=true:=by
 unfold clsOf at hc
 cases h1:blindOp E o t with
 |true=>rfl
 |false=>
  rw [h1] at hc
  cases h2:roOp E o t<;>rw [h2] at hc<;>simp only [cond] at hc<;>split at hc<;>cases hc
theorem clsOf_ro {n:Rg} {o:Oper} {t:List AVal} {b:List Blk} (hc:clsOf E n o t b=.ro∨clsOf E n o t b=.old):roOp E o t=true:=by
 unfold clsOf at hc
 cases h1:blindOp E o t with
 |true=>rw [h1] at hc;simp at hc
 |false=>
  rw [h1] at hc
  cases h2:roOp E o t with
  |true=>rfl
  |false=>
   rw [h2] at hc
   simp only [cond] at hc
   rcases hc with hc | hc<;>split at hc<;>cases hc
theorem clsOf_old {n:Rg} {o:Oper} {t:List AVal} {b:List Blk} (hc:clsOf E n o t b=.old):inOldL n (o.op.operands.toList.map (evalA t))=true:=by
 have hr:=clsOf_ro (.inr hc)
 unfold clsOf at hc
 cases h1:blindOp E o t with
 |true=>rw [h1] at hc;simp at hc
 |false=>
  rw [h1,hr] at hc
  simp only [cond] at hc
  split at hc
  ·assumption
  ·cases hc
theorem clsOf_push {n:Rg} {o:Oper} {t:List AVal} {b:List Blk} (hc:clsOf E n o t b=.push):pushOp E n o t b=true:=by
 unfold clsOf at hc
 cases h1:blindOp E o t with
 |true=>rw [h1] at hc;simp at hc
 |false=>
  rw [h1] at hc
  cases h2:roOp E o t with
  |true=>rw [h2] at hc;simp only [cond] at hc;split at hc<;>cases hc
  |false=>
   rw [h2] at hc
   simp only [cond] at hc
   split at hc
   ·assumption
   ·cases hc
theorem clsOf_ind {n S:Rg} {o:Oper} {t:List AVal} {b b1 b2:List Blk} (hc:clsOf E n o t b=.blind∨clsOf E n o t b=.ro∨clsOf E n o t b=.old):clsOf E S o t b1=clsOf E S o t b2:=by
 have h:blindOp E o t=true∨roOp E o t=true:=by
  rcases hc with hc | hc
  ·exact .inl (clsOf_blind hc)
  ·exact .inr (clsOf_ro hc)
 unfold clsOf
 rcases h with h | h
 ·rw [h];rfl
 ·rw [h];rfl
theorem cls_ind {n S:Rg} {o:Oper} {t:List AVal} {b b1 b2:List Blk} {ran:Bool} (hc:cls E n o t b ran=.blind∨cls E n o t b ran=.ro∨cls E n o t b ran=.old):cls E S o t b1 ran=cls E S o t b2 ran:=by
 cases ran with
 |false=>rfl
 |true=>exact clsOf_ind hc
theorem Stp.spec {n:Rg} {o:Oper} {t t':List AVal} {b b':List Blk} {ran:Bool} (h:Stp E C ro ops o t b ran t' b'):∃ x,t'=putA t o.dst x∧
  (cls E n o t b ran=.blind→b'=b∧∀ b0,∀ t0,(∀ y ∈ o.op.operands,evalA t0 y=evalA t y)→want ops o t0=want ops o t→Stp E C ro ops o t0 b0 ran (putA t0 o.dst x) b0)∧
  (cls E n o t b ran=.ro∨cls E n o t b ran=.old→b'=b)∧
  (cls E n o t b ran=.old→∀ b0,∀ t0,Agree n b b0→(∀ y ∈ o.op.operands,evalA t0 y=evalA t y)→want ops o t0=want ops o t→Stp E C ro ops o t0 b0 ran (putA t0 o.dst x) b0)∧
  (cls E n o t b ran=.push→n.n ≤ b.length→Agree n b b')∧
  (∀ t0,(∀ y ∈ o.op.operands,evalA t0 y=evalA t y)→want ops o t0=want ops o t→Stp E C ro ops o t0 b ran (putA t0 o.dst x) b'):=by
 cases h with
 |ran x b1 hw hro hv=>
  refine ⟨x,rfl,fun hc=>?_,fun hc=>opV_ro (clsOf_ro hc) hv,fun hc b0 t0 ha he hw0=>?_,fun hc hn=>opV_push (clsOf_push hc) hn hv,fun t0 he hw0=>?_⟩
  ·obtain ⟨z,hz⟩:=opV_blind (C:=C) (clsOf_blind hc)
   rw [hz] at hv
   cases z with
   |none=>cases hv
   |some z=>
    simp at hv
    obtain ⟨rfl,rfl⟩:=hv
    refine ⟨rfl,fun b0 t0 he hw0=>.ran z b0 (hw0.trans hw) (fun e=>by rw [roOp_congr he];exact hro e) ?_⟩
    have:opV E C o t0 b0=opV E C o t b0:=opK_congr he
    rw [this,hz];rfl
  ·refine .ran x b0 (hw0.trans hw) (fun e=>by rw [roOp_congr he];exact hro e) ?_
   have:opV E C o t0 b0=opV E C o t b0:=opK_congr he
   rw [this]
   exact opV_old (clsOf_ro (.inr hc)) (clsOf_old hc) ha hv
  ·refine .ran x _ (hw0.trans hw) (fun e=>by rw [roOp_congr he];exact hro e) ?_
   have:opV E C o t0 b=opV E C o t b:=opK_congr he
   rw [this,hv]
 |skip hw=>exact ⟨skipped,rfl,fun _=>⟨rfl,fun b0 t0 _ hw0=>.skip (hw0.trans hw)⟩,fun _=>rfl,fun _ b0 t0 _ _ hw0=>.skip (hw0.trans hw),fun hc _=>(by cases hc),fun t0 _ hw0=>.skip (hw0.trans hw)⟩
theorem apart_symm {p o:Oper} (h:apart ops p o=true):apart ops o p=true:=by
 unfold apart at *
 simp only [Bool.and_eq_true] at *
 obtain ⟨⟨h1,h2⟩,h3⟩:=h
 refine ⟨⟨h2,h1⟩,?_⟩
 cases hd:o.dst with
 |none=>rfl
 |some d=>
  cases hp:p.dst with
  |none=>rfl
  |some e=>
   rw [hd,hp] at h3
   simp [notIn] at h3 ⊢
   exact fun e'=>h3 e'.symm
theorem ok_symm {c d:Cls} (h:c.ok d=true):d.ok c=true:=by cases c<;>cases d<;>first | rfl | cases h
theorem Agree.symm {n:Rg} {b b':List Blk} (h:Agree n b b'):Agree n b' b:=fun k hk=>(h k hk).symm
theorem swap {n:Rg} {p o:Oper} {t t1 t2:List AVal} {b b1 b2:List Blk} {rp rr:Bool} (hn:n.n ≤ b.length) (hn2:n.n ≤ b2.length) (hap:apart ops p o=true) (h1:Stp E C ro ops p t b rp t1 b1) (h2:Stp E C ro ops o t1 b1 rr t2 b2)
  (hok:(cls E n p t b rp).ok (cls E n o t1 b1 rr)=true) :
  ∃ t1' b1',Stp E C ro ops o t b rr t1' b1'∧Stp E C ro ops p t1' b1' rp t2 b2∧(∀ S,cls E S o t b rr=cls E S o t1 b1 rr)∧(∀ S,cls E S p t1' b1' rp=cls E S p t b rp)∧n.n ≤ b1'.length:=by
 unfold apart at hap
 simp only [Bool.and_eq_true] at hap
 obtain ⟨⟨ha1,ha2⟩,ha3⟩:=hap
 obtain ⟨x,rfl,hb1,hr1,ho1,hp1,hg1⟩:=h1.spec (n:=n)
 obtain ⟨y,rfl,hb2,hr2,ho2,hp2,hg2⟩:=h2.spec (n:=n)
 have eo:∀ v,∀ z ∈ o.op.operands,evalA t z=evalA (putA t p.dst v) z:=fun v z hz=>(evalA_put ha1 z hz).symm
 have ep:∀ v,∀ z ∈ p.op.operands,evalA (putA t o.dst v) z=evalA t z:=fun v z hz=>evalA_put ha2 z hz
 have wo:want ops o t=want ops o (putA t p.dst x):=(want_put ha1).symm
 have wp:want ops p (putA t o.dst y)=want ops p t:=want_put ha2
 have co:∀ (S:Rg) (b:List Blk),cls E S o t b rr=cls E S o (putA t p.dst x) b rr:=by
  intro S b
  unfold cls
  rw [clsOf_congr (eo x)]
 have cp:∀ (S:Rg) (b:List Blk),cls E S p (putA t o.dst y) b rp=cls E S p t b rp:=by
  intro S b
  unfold cls
  rw [clsOf_congr (ep y)]
 rw [putA_comm ha3]
 refine ⟨putA t o.dst y,?_⟩
 cases hcp:cls E n p t b rp with
 |blind=>
  obtain ⟨rfl,hbl⟩:=hb1 hcp
  exact ⟨b2,hg2 t (eo x) wo,hbl b2 _ (ep y) wp,fun S=>co S _,fun S=>(cp S _).trans (cls_ind (.inl hcp)),hn2⟩
 |ro=>
  have hbb:=hr1 (.inl hcp)
  subst hbb
  cases hco:cls E n o (putA t p.dst x) b1 rr with
  |blind=>
   obtain ⟨rfl,hbl⟩:=hb2 hco
   exact ⟨_,hg2 t (eo x) wo,hg1 _ (ep y) wp,fun S=>co S _,fun S=>cp S _,hn⟩
  |ro=>
   have hbb:=hr2 (.inl hco)
   subst hbb
   exact ⟨_,hg2 t (eo x) wo,hg1 _ (ep y) wp,fun S=>co S _,fun S=>cp S _,hn⟩
  |old=>
   have hbb:=hr2 (.inr hco)
   subst hbb
   exact ⟨_,hg2 t (eo x) wo,hg1 _ (ep y) wp,fun S=>co S _,fun S=>cp S _,hn⟩
  |push=>rw [hcp,hco] at hok;cases hok
  |rw=>rw [hcp,hco] at hok;cases hok
 |old=>
  have hbb:=hr1 (.inr hcp)
  subst hbb
  cases hco:cls E n o (putA t p.dst x) b1 rr with
  |blind=>
   obtain ⟨rfl,hbl⟩:=hb2 hco
   exact ⟨_,hg2 t (eo x) wo,hg1 _ (ep y) wp,fun S=>co S _,fun S=>cp S _,hn⟩
  |ro=>
   have hbb:=hr2 (.inl hco)
   subst hbb
   exact ⟨_,hg2 t (eo x) wo,hg1 _ (ep y) wp,fun S=>co S _,fun S=>cp S _,hn⟩
  |old=>
   have hbb:=hr2 (.inr hco)
   subst hbb
   exact ⟨_,hg2 t (eo x) wo,hg1 _ (ep y) wp,fun S=>co S _,fun S=>cp S _,hn⟩
  |push=>
   have hag:=hp2 hco hn
   exact ⟨_,hg2 t (eo x) wo,ho1 hcp _ _ hag (ep y) wp,fun S=>co S _,fun S=>(cp S _).trans (cls_ind (.inr (.inr hcp))),hn2⟩
  |rw=>rw [hcp,hco] at hok;cases hok
 |push=>
  have hag:=hp1 hcp hn
  cases hco:cls E n o (putA t p.dst x) b1 rr with
  |blind=>
   obtain ⟨rfl,hbl⟩:=hb2 hco
   exact ⟨b,hbl b t (eo x) wo,hg1 _ (ep y) wp,fun S=>(co S _).trans (cls_ind (.inl hco)),fun S=>cp S _,hn⟩
  |old=>
   have hbb:=hr2 (.inr hco)
   subst hbb
   exact ⟨b,ho2 hco b t hag.symm (eo x) wo,hg1 _ (ep y) wp,fun S=>(co S _).trans (cls_ind (.inr (.inr hco))),fun S=>cp S _,hn⟩
  |ro=>rw [hcp,hco] at hok;cases hok
  |push=>rw [hcp,hco] at hok;cases hok
  |rw=>rw [hcp,hco] at hok;cases hok
 |rw=>
  cases hco:cls E n o (putA t p.dst x) b1 rr with
  |blind=>
   obtain ⟨rfl,hbl⟩:=hb2 hco
   exact ⟨b,hbl b t (eo x) wo,hg1 _ (ep y) wp,fun S=>(co S _).trans (cls_ind (.inl hco)),fun S=>cp S _,hn⟩
  |ro=>rw [hcp,hco] at hok;cases hok
  |old=>rw [hcp,hco] at hok;cases hok
  |push=>rw [hcp,hco] at hok;cases hok
  |rw=>rw [hcp,hco] at hok;cases hok
theorem evD_perm {R:Type} {n:Nat} {ex:List Nat}:∀ {l:List Nat} {acc acc':List (Nat × Cl2)} {t:List AVal} {b:List Blk} {K:List AVal→List Blk→Option R},(∀ f:Nat × Cl2→Bool,acc.all f=acc'.all f)→
  evD E C ro ops n ex l acc t b K=evD E C ro ops n ex l acc' t b K
 |[],_,_,_,_,_,_=>rfl
 |i :: rest,acc,acc',t,b,K,h=>by
  simp only [evD]
  cases ops[i]? with
  |none=>rfl
  |some o=>
   simp only
   congr 2
   funext ran t1 t' b'
   rw [h,evD_perm (acc:=(i,cls2 E n ex o t1 b ran) :: acc) (acc':=(i,cls2 E n ex o t1 b ran) :: acc') fun f=>by simp only [List.all_cons,h]]
theorem evD_inv {R:Type} {n:Nat} {ex:List Nat} {r:R} {i:Nat} {rest:List Nat} {acc:List (Nat × Cl2)} {t:List AVal} {b:List Blk} {K:List AVal→List Blk→Option R} (h:evD E C ro ops n ex (i :: rest) acc t b K=some r) :
  ∃ o ran t' b',ops[i]? = some o∧n ≤ b'.length∧Stp E C ro ops o t b ran t' b'∧acc.all (fits ops i o (cls2 E n ex o t b ran))=true∧evD E C ro ops n ex rest ((i,cls2 E n ex o t b ran) :: acc) t' b' K=some r:=by
 simp only [evD] at h
 cases ho:ops[i]? with
 |none=>rw [ho] at h;cases h
 |some o=>
  rw [ho] at h
  obtain ⟨ran,t',b',hs,h⟩:=stepK_inv h
  cases ha:(acc.all (fits ops i o (cls2 E n ex o t b ran)) && decide (n ≤ b'.length)) with
  |false=>rw [ha] at h;cases h
  |true=>
   rw [ha] at h
   simp only [Bool.and_eq_true,decide_eq_true_eq] at ha
   exact ⟨o,ran,t',b',rfl,ha.2,hs,ha.1,h⟩
theorem evD_run {R:Type} {n i:Nat} {ex:List Nat} {rest:List Nat} {acc:List (Nat × Cl2)} {t t':List AVal} {b b':List Blk} {ran:Bool} {o:Oper} {K:List AVal→List Blk→Option R} (ho:ops[i]? = some o) (hn:n ≤ b'.length) (hs:Stp E C ro ops o t b ran t' b')
  (ha:acc.all (fits ops i o (cls2 E n ex o t b ran))=true):evD E C ro ops n ex (i :: rest) acc t b K=evD E C ro ops n ex rest ((i,cls2 E n ex o t b ran) :: acc) t' b' K:=by
 simp only [evD,ho]
 rw [stepK_run hs]
 show br (acc.all (fits ops i o (cls2 E n ex o t b ran)) && decide (n ≤ b'.length)) _ none=_
 rw [ha,show decide (n ≤ b'.length)=true by simpa using hn];rfl
theorem evD_front {R:Type} {r:R} {n i:Nat} {ex:List Nat} {post:List Nat}:∀ {pre:List Nat} {acc:List (Nat × Cl2)} {t:List AVal} {b:List Blk} {K:List AVal→List Blk→Option R},
  n ≤ b.length→evD E C ro ops n ex (pre ++ i :: post) acc t b K=some r→(∀ p ∈ pre,before ops ops.size i p=false)→evD E C ro ops n ex (i :: (pre ++ post)) acc t b K=some r
 |[],_,_,_,_,_,h,_=>h
 |p :: pre,acc,t,b,K,hn0,h,hb=>by
  obtain ⟨op,rp,t1,b1,hop,hn1,hs1,ha1,h⟩:=evD_inv h
  have ih:=evD_front hn1 h fun q hq=>hb q (by simp [hq])
  obtain ⟨oi,ri,t2,b2,hoi,hn2,hs2,ha2,h2⟩:=evD_inv ih
  simp only [List.all_cons,Bool.and_eq_true] at ha2
  obtain ⟨hpi,ha2⟩:=ha2
  have hbp:=hb p (by simp)
  simp only [fits,hbp,Bool.false_or,hop,Bool.and_eq_true] at hpi
  obtain ⟨hap,hok⟩:=hpi
  have hsw:∃ t1' b1',Stp E C ro ops oi t b ri t1' b1'∧Stp E C ro ops op t1' b1' rp t2 b2∧(∀ S,cls E S oi t b ri=cls E S oi t1 b1 ri)∧(∀ S,cls E S op t1' b1' rp=cls E S op t b rp)∧n ≤ b1'.length:=by
   rcases (Bool.or_eq_true _ _).mp hok with hok | hok
   ·exact swap (n:=⟨n,[]⟩) hn0 hn2 hap hs1 hs2 hok
   ·exact swap (n:=⟨n,ex⟩) hn0 hn2 hap hs1 hs2 hok
  obtain ⟨t1',b1',k1,k2,c1,c2,hn3⟩:=hsw
  have d1:cls2 E n ex oi t b ri=cls2 E n ex oi t1 b1 ri:=Prod.ext (c1 _) (c1 _)
  have d2:cls2 E n ex op t1' b1' rp=cls2 E n ex op t b rp:=Prod.ext (c2 _) (c2 _)
  rw [List.cons_append,evD_run hoi hn3 k1 (by rw [d1];exact ha2),evD_run hop hn2 k2 ?_]
  ·rw [← h2,d1,d2]
   exact evD_perm fun f=>by simp only [List.all_cons];cases f (p,cls2 E n ex op t b rp)<;>cases f (i,cls2 E n ex oi t1 b1 ri)<;>simp
  ·simp only [List.all_cons,Bool.and_eq_true]
   rw [d2]
   refine ⟨?_,ha1⟩
   rw [d1]
   have hok':((cls2 E n ex oi t1 b1 ri).1.ok (cls2 E n ex op t b rp).1 || (cls2 E n ex oi t1 b1 ri).2.ok (cls2 E n ex op t b rp).2)=true:=by
    rcases (Bool.or_eq_true _ _).mp hok with hok | hok
    ·rw [ok_symm hok];rfl
    ·rw [ok_symm hok,Bool.or_true]
   simp only [fits,hoi,apart_symm hap,hok',Bool.and_true,Bool.or_true]
end
end Go.Proofs.Ytognghbhdalckaa.Abs
namespace Go.Proofs.Ytognghbhdalckaa.Abs
open Go
variable [Glob]
section
variable {P:Program} {w:World} {F N M:Nat→Prop} {μ:List Hd} {b:List Blk} {R':Type} {r:R'}
structure Left (ops:Array Oper) (listed:Array Bool) (rem:List Nat):Prop where
 size:listed.size=ops.size
 mem:∀ i,i ∈ rem↔i < ops.size∧listed.getD i true=false
 nodup:rem.Nodup
 down:∀ (i:Nat) (o:Oper),ops[i]? = some o→listed.getD i false=true→∀ e ∈ o.after,Region.binds .any e=true→listed.getD e.on false=true
theorem before_listed {ops:Array Oper} {listed:Array Bool} {rem:List Nat} (L:Left ops listed rem):∀ (n:Nat) {i p:Nat} {o:Oper},ops[i]? = some o→
  (∀ e ∈ o.after,Region.binds .any e=true→listed.getD e.on false=true)→before ops n i p=true→listed.getD p false=true
 |0,_,_,_,_,_,h=>by simp [before] at h
 |n + 1,i,p,o,ho,hd,h=>by
  simp only [before,ho,List.any_eq_true,Bool.and_eq_true,Bool.or_eq_true,beq_iff_eq] at h
  obtain ⟨e,he,hb,h⟩:=h
  have hl:=hd e (by simpa using he) hb
  rcases h with h | h
  ·rw [← h];exact hl
  ·cases hoe:ops[e.on]? with
   |none=>
    cases n with
    |zero=>simp [before] at h
    |succ n=>simp [before,hoe] at h
   |some o'=>exact before_listed L n hoe (fun e' he' hb'=>L.down e.on o' hoe hl e' he' hb') h
theorem min_mem:∀ {l:List Nat},l ≠ []→∃ m ∈ l,∀ j ∈ l,m ≤ j
 |[],h=>absurd rfl h
 |[x],_=>⟨x,by simp,by simp⟩
 |x :: y :: r,_=>by
  obtain ⟨m,hm,hmin⟩:=min_mem (l:=y :: r) (by simp)
  by_cases h:x ≤ m
  ·refine ⟨x,by simp,fun j hj=>?_⟩
   rcases List.mem_cons.1 hj with e | e
   ·omega
   ·have:=hmin j e;omega
  ·refine ⟨m,List.mem_cons_of_mem _ hm,fun j hj=>?_⟩
   rcases List.mem_cons.1 hj with e | e
   ·omega
   ·exact hmin j e
theorem Left.ready {ops:Array Oper} {listed:Array Bool} {rem:List Nat} (L:Left ops listed rem) (ht:topo ops=true) (hr:Region.ready .any ops listed=[]):rem=[]:=by
 by_cases hne:rem=[]
 ·exact hne
 ·obtain ⟨m,hm,hmin⟩:=min_mem hne
  obtain ⟨hlt,hl⟩:=(L.mem m).1 hm
  have:m ∈ Region.ready .any ops listed:=by
   rw [mem_ready]
   refine ⟨hl,ops[m],Array.getElem?_eq_getElem hlt,fun e he hb=>?_⟩
   have h1:=List.all_eq_true.1 ht m (by simpa using hlt)
   simp only [Array.getElem?_eq_getElem hlt] at h1
   have h2:=List.all_eq_true.1 h1 e (by simpa using he)
   simp [hb] at h2
   have h3:e.on ∉ rem:=fun h=>by have:=hmin _ h;omega
   rw [L.mem] at h3
   have h4:e.on < ops.size:=by omega
   have h5:e.on < listed.size:=by rw [L.size];exact h4
   have h6:listed.getD e.on true=listed[e.on]:=by simp [Array.getD_eq_getD_getElem?,h5]
   have h7:listed.getD e.on false=listed[e.on]:=by simp [Array.getD_eq_getD_getElem?,h5]
   rw [h7]
   cases hv:listed[e.on] with
   |true=>rfl
   |false=>exact (h3 ⟨h4,by rw [h6,hv]⟩).elim
  rw [hr] at this;cases this
theorem Left.step {ops:Array Oper} {listed:Array Bool} {pre post:List Nat} {i:Nat} {o:Oper} (L:Left ops listed (pre ++ i :: post)) (ho:ops[i]? = some o)
  (hd:∀ e ∈ o.after,Region.binds .any e=true→listed.getD e.on false=true):Left ops (listed.setIfInBounds i true) (pre ++ post):=by
 have hi:i < listed.size:=by rw [L.size];exact (Array.getElem?_eq_some_iff.1 ho).1
 have hn:=L.nodup
 rw [List.nodup_append] at hn
 obtain ⟨n1,n2,n3⟩:=hn
 obtain ⟨n4,n5⟩:=List.nodup_cons.1 n2
 have hself:∀ d,(listed.setIfInBounds i true).getD i d=true:=fun d=>by simp [Array.getD_eq_getD_getElem?,hi]
 have keep:∀ j,listed.getD j false=true→(listed.setIfInBounds i true).getD j false=true:=by
  intro j hj
  by_cases e:i=j
  ·subst e;exact hself _
  ·rw [getD_set_ne _ e];exact hj
 refine ⟨by simp [L.size],fun j=>?_,?_,fun j o' ho' hj e he hb=>?_⟩
 ·have:=L.mem j
  simp only [List.mem_append,List.mem_cons] at this ⊢
  by_cases e:i=j
  ·subst e
   rw [hself]
   simp only [Bool.true_eq_false,and_false,iff_false,not_or]
   exact ⟨fun h=>n3 i h i (by simp) rfl,n4⟩
  ·rw [getD_set_ne _ e,← this]
   constructor
   ·rintro (h | h)
    ·exact .inl h
    ·exact .inr (.inr h)
   ·rintro (h | h | h)
    ·exact .inl h
    ·exact absurd h.symm e
    ·exact .inr h
 ·rw [List.nodup_append]
  exact ⟨n1,n5,fun a ha c hc=>n3 a ha c (List.mem_cons_of_mem _ hc)⟩
 ·by_cases e':i=j
  ·subst e'
   rw [ho] at ho';cases ho'
   exact keep _ (hd e he hb)
  ·rw [getD_set_ne _ e'] at hj
   exact keep _ (L.down j o' ho' hj e he hb)
theorem evD_any {E:Env} {C:CallT} {ro:Bool} {n:Nat} {ex:List Nat} (hC:COk E C) {ops:Array Oper} (htp:topo ops=true) {b0:List Blk} {a0:Act} {w0:World} {μ0:List Hd} {K:List AVal→List Blk→Option R'} {Q:Exit→Act→World→Prop}
  (hq:∀ t' b' a' w' μ',K t' b'=some r→(ro=true→b'=b0)→Now F w0 μ0 b0 w' μ' b'→TRel (Or F (Own μ' b')) w' μ' b' t' a'→Same ops.toList a0 a'→Q .normal a' w') :
  ∀ (fuel:Nat) {rem:List Nat} {acc:List (Nat × Cl2)} {listed:Array Bool} {t:List AVal} {b:List Blk} {a:Act} {w:World} {μ:List Hd},rem.length ≤ fuel→Left ops listed rem→
   Now F w0 μ0 b0 w μ b→TRel (Or F (Own μ b)) w μ b t a→Same ops.toList a0 a→(ro=true→b=b0)→evD E C ro ops n ex rem acc t b K=some r→n ≤ b.length→wpAny E.P .any ops Q fuel listed a w
 |0,rem,acc,listed,t,b,a,w,μ,hl,L,hn,ht,hs,hro,h,hnb=>by
  have:rem=[]:=List.length_eq_zero_iff.1 (by omega)
  subst this
  refine ⟨?_,hq t b a w μ h hro hn ht hs⟩
  rw [List.eq_nil_iff_forall_not_mem]
  intro j hj
  rw [mem_ready] at hj
  obtain ⟨h1,o,h2,_⟩:=hj
  have:=(L.mem j).2 ⟨(Array.getElem?_eq_some_iff.1 h2).1,h1⟩
  cases this
 |fuel + 1,rem,acc,listed,t,b,a,w,μ,hl,L,hn,ht,hs,hro,h,hnb=>by
  refine ⟨fun hr=>?_,fun i hi=>?_⟩
  ·have:=L.ready htp hr
   subst this
   exact hq t b a w μ h hro hn ht hs
  ·rw [mem_ready] at hi
   obtain ⟨h1,o,ho,hd⟩:=hi
   have hmem:i ∈ rem:=(L.mem i).2 ⟨(Array.getElem?_eq_some_iff.1 ho).1,h1⟩
   obtain ⟨pre,post,rfl⟩:=List.append_of_mem hmem
   have hfront:=evD_front hnb h fun p hp=>by
    cases hb:before ops ops.size i p with
    |false=>rfl
    |true=>
     have h2:=before_listed L _ ho hd hb
     have h3:=((L.mem p).1 (by simp [hp])).2
     rw [Array.getD_eq_getD_getElem?] at h2 h3
     cases hp':listed[p]? with
     |none=>rw [hp'] at h2;cases h2
     |some v=>rw [hp'] at h2 h3;simp at h2 h3;rw [h2] at h3;cases h3
   have hstep:=L.step ho hd
   simp only [evD,ho] at hfront
   have key:=stepK_sound hC ops hn.rel ht hfront Q (wpAny E.P .any ops Q fuel (listed.setIfInBounds i true)) fun ran t1 t' b' a' w' μ' hK hro' hn' ht' hs'=>by
    obtain ⟨hfn,hK⟩:=br_none hK
    simp only [Bool.and_eq_true,decide_eq_true_eq] at hfn
    refine evD_any hC htp hq fuel (by simp at hl ⊢;omega) hstep (hn.trans hn') ht' (hs.trans (hs'.mono fun o' ho'=>?_)) (fun e=>(hro' e).trans (hro e)) hK hfn.2
    simp at ho';subst ho'
    exact Array.mem_toList_iff.2 (Array.mem_of_getElem? ho)
   unfold wpOp
   simp only [ho]
   split
   ·rename_i hw
    rw [if_pos hw] at key
    exact .inl key
   ·rename_i hw
    rw [if_neg hw] at key
    exact key
theorem evD_sound {E:Env} {C:CallT} {ro:Bool} (hm:E.P.follows .mixedOrders=true) (hC:COk E C) {id:Nat} {ops:Array Oper} {ex:List Nat} (htp:topo ops=true) {t:List AVal} {b:List Blk} {a:Act} {w:World} {μ:List Hd} {K:List AVal→List Blk→Option R'}
  (R:Rel F w μ b) (ht:TRel (Or F (Own μ b)) w μ b t a) (h:evD E C ro ops b.length ex (List.range ops.size) [] t b K=some r) (Q:Exit→Act→World→Prop)
  (hq:∀ t' b' a' w' μ',K t' b'=some r→(ro=true→b'=b)→Now F w μ b w' μ' b'→TRel (Or F (Own μ' b')) w' μ' b' t' a'→Same ops.toList a a'→Q .normal a' w') :
  (Code.region id ops true).wp E.P Q a w:=by
 have hdrew:Now F w μ b { w with drawn:=w.drawn + 1 } μ b:=(Post.grow (x:=.un) (v:=undef) (w':={ w with drawn:=w.drawn + 1 }) R (Nat.le_refl _) (fun _ _=>rfl) rfl rfl rfl trivial).now
 refine wp_region_any hm (evD_any hC htp (b0:=b) (a0:=a) (w0:=w) (μ0:=μ) hq ops.size (by simp) ⟨by simp,fun i=>?_,List.nodup_range,fun i o ho hl=>?_⟩ hdrew (TRel.upd hdrew.upd ht) .refl (fun _=>rfl) h (Nat.le_refl _))
 ·simp only [List.mem_range]
  constructor
  ·intro hi;exact ⟨hi,by simp [Array.getD_eq_getD_getElem?,hi]⟩
  ·exact fun h=>h.1
 ·have hi:=(Array.getElem?_eq_some_iff.1 ho).1
  simp [Array.getD_eq_getD_getElem?,hi] at hl
end
end Go.Proofs.Ytognghbhdalckaa.Abs
namespace Go.Proofs.Ytognghbhdalckaa.Abs
open Go
variable [Glob]
section
variable {P:Program} {w:World} {F N M:Nat→Prop} {μ:List Hd} {b:List Blk} {R':Type} {r:R'}
theorem AsRel.mk':∀ {cs:List AVal} {vs:List Value},vs.length=cs.length→(∀ (i:Nat) (x:AVal) (v:Value),cs[i]? = some x→vs[i]? = some v→ARel N w μ b x v)→AsRel N w μ b false cs vs
 |[],vs,hl,_=>by
  have:vs=[]:=List.length_eq_zero_iff.1 hl
  subst this;rfl
 |x :: r,[],hl,_=>by simp at hl
 |x :: r,v :: vs,hl,h=>⟨v,vs,rfl,h 0 x v rfl rfl,by simp,AsRel.mk' (by simpa using hl) fun i y u hy hu=>h (i + 1) y u (by simpa using hy) (by simpa using hu)⟩
theorem wipe_get:∀ {l:List Oper} {t:List AVal} {i:Nat} {x:AVal},(l.foldl (fun t o=>putA t o.dst .un) t)[i]? = some x→x=.un∨(t[i]? = some x∧∀ o ∈ l,o.dst ≠ some i)
 |[],_,_,_,h=>.inr ⟨h,by simp⟩
 |o :: r,t,i,x,h=>by
  rw [List.foldl_cons] at h
  rcases wipe_get h with h | ⟨h,hn⟩
  ·exact .inl h
  ·cases hd:o.dst with
   |none=>
    rw [hd] at h
    exact .inr ⟨h,fun o' ho'=>by
     rcases List.mem_cons.1 ho' with e | e
     ·subst e;rw [hd];simp
     ·exact hn o' e⟩
   |some d=>
    rw [hd] at h
    simp only [putA] at h
    by_cases e:d=i
    ·subst e
     have hlt:d < t.length:=by
      have:=(List.getElem?_eq_some_iff.1 h).1
      simpa using this
     rw [List.getElem?_set_self hlt] at h
     exact .inl (Option.some.inj h).symm
    ·rw [List.getElem?_set_ne e] at h
     exact .inr ⟨h,fun o' ho'=>by
      rcases List.mem_cons.1 ho' with e' | e'
      ·subst e';rw [hd];simpa using e
      ·exact hn o' e'⟩
theorem wipe_len:∀ {l:List Oper} {t:List AVal},(l.foldl (fun t o=>putA t o.dst .un) t).length=t.length
 |[],_=>rfl
 |o :: r,t=>by
  rw [List.foldl_cons,wipe_len]
  cases o.dst<;>simp [putA]
theorem wipe_rel {w':World} {μ':List Hd} {ops:Array Oper} {t:List AVal} {a a':Act} (U:Upd F w μ b w' μ' b) (ht:TRel (Or F (Own μ b)) w μ b t a) (hs:Same ops.toList a a') (hd:a'.defers=[]) :
  TRel (Or F (Own μ' b)) w' μ' b (wipe ops t) a':=by
 have ht':=TRel.upd U ht
 refine ⟨AsRel.mk' ?_ ?_,hd⟩
 ·have:=AsRel.len ht.1
  unfold wipe
  rw [wipe_len]
  simp only [Array.length_toList] at this ⊢
  rw [hs.size];exact this
 ·intro i x v hx hv
  unfold wipe at hx
  rcases wipe_get hx with rfl | ⟨hx,hn⟩
  ·trivial
  ·obtain ⟨u,hu,hr⟩:=ht'.at hx
   have:=hs.at_ i hn
   rw [hu] at this
   rw [Array.getElem?_toList,this] at hv
   cases hv
   exact hr
theorem VR.closed {g:List (Nat × Hd)}:∀ {kd:Kd} {y:kd.T} {v:Value},kd.closed=true→VR N w g kd y v→ARel N w μ b (unV kd y) v
 |.int _,_,_,_,h=>h
 |.bool,_,_,_,h=>h
 |.str,_,_,_,h=>h
 |.sl,_,_,_,h=>h
 |.cv,_,_,_,h=>h
 |.fn _,_,_,_,h=>h
 |.clo _ _,_,_,hc,_=>by cases hc
 |.lp _,_,_,hc,_=>by cases hc
 |.lr _,_,_,hc,_=>by cases hc
 |.le _ _,_,_,hc,_=>by cases hc
 |.ls _ _,_,_,hc,_=>by cases hc
theorem SlotsR.closed {g:List (Nat × Hd)} {a:Act}:∀ {l:List (Nat × Kd)} {y:SsT l} {t:List AVal},l.all (fun k=>k.2.closed)=true→SlotsR N w g a l y→TRel N w μ b t a→TRel N w μ b (unSlots l y t) a
 |[],_,t,_,_,ht=>ht
 |(i,kd) :: r,y,t,hc,⟨⟨v,hv,h⟩,k⟩,ht=>by
  simp only [List.all_cons,Bool.and_eq_true] at hc
  exact SlotsR.closed (l:=r) (y:=y.2) hc.2 k (ht.set i fun v' hv'=>by rw [hv] at hv';cases hv';exact VR.closed hc.1 h)
theorem evReg_sound {E:Env} {N':Ann} {C:CallT} {f:FuncId} (hm:E.P.follows .mixedOrders=true) (hC:COk E C) {id:Nat} {ops:Array Oper} {draw:Bool} {s:St} {a:Act} {K:St→Option R'}
  (R:Rel F w μ s.b) (ht:TRel (Or F (Own μ s.b)) w μ s.b s.t a) (h:evReg E N' C f id ops draw s K=some r) (Q:Exit→Act→World→Prop)
  (hq:∀ s' a' w' μ',K s'=some r→Now F w μ s.b w' μ' s'.b→TRel (Or F (Own μ' s'.b)) w' μ' s'.b s'.t a'→a'.tmps.size=a.tmps.size→Q .normal a' w') :
  (Code.region id ops draw).wp E.P Q a w:=by
 unfold evReg at h
 split at h
 ·cases draw with
  |false=>
   exact wp_region_list (evOps_sound hC ops _ R ht h Q fun t' b' a' w' μ' hK _ hn ht' hs=>hq ⟨t',b'⟩ a' w' μ' hK hn ht' hs.size)
  |true=>
   obtain ⟨htp,h⟩:=br_none h
   exact evD_sound hm hC htp R ht h Q fun t' b' a' w' μ' hK _ hn ht' hs=>hq ⟨t',b'⟩ a' w' μ' hK hn ht' hs.size
 ·rename_i ks hks
  obtain ⟨hcl,h⟩:=br_none h
  obtain ⟨x,hx,h⟩:=bind_some' h
  have fin:∀ (t':List AVal) (b':List Blk) (a':Act) (w':World) (μ':List Hd),packSlots t' b' ks [] (fun x _=>some x)=some x→b'=s.b→Now F w μ s.b w' μ' b'→TRel (Or F (Own μ' b')) w' μ' b' t' a'→
    Same ops.toList a a'→Q .normal a' w':=by
   intro t' b' a' w' μ' hp hb hn ht' hs
   subst hb
   obtain ⟨y,m,g,hy,_,_,hsl⟩:=packSlots_sound (sz:=fun _=>0) (g:=[]) hn.rel ht' ⟨fun j=>by simp [Bind.find,gfind],fun j i h=>by simp [Bind.find] at h,fun j h=>by simp [Bind.find] at h,fun j j' i h=>by simp [Bind.find] at h⟩ hp
   simp at hy
   subst hy
   exact hq _ a' w' μ' h hn (SlotsR.closed hcl hsl (wipe_rel hn.upd ht hs ht'.2)) hs.size
  cases draw with
  |false=>exact wp_region_list (evOps_sound hC ops _ R ht hx Q fun t' b' a' w' μ' hK hro hn ht' hs=>fin t' b' a' w' μ' hK (hro rfl) hn ht' hs)
  |true=>
   obtain ⟨htp,hx⟩:=br_none hx
   exact evD_sound hm hC htp R ht hx Q fun t' b' a' w' μ' hK hro hn ht' hs=>fin t' b' a' w' μ' hK (hro rfl) hn ht' hs
def LoopOk (E:Env) (n:Nat) (f:FuncId) (c:Code) (np:List PSh) (ks:LK) (p:ks.T) (out:LO ks.T):Prop:=
 ∀ (fn:Func),E.P.funcs[f]? = some fn→fn.results.size=fn.resultTypes.size→∀ (F:Nat→Prop) (w:World) (μ:List Hd) (a:Act),a.tmps.size=fn.ntmps→
  Rel F w μ (unpack fn.ntmps ks p).b→TRel (Or F (Own μ (unpack fn.ntmps ks p).b)) w μ (unpack fn.ntmps ks p).b (unpack fn.ntmps ks p).t a→np.length ≤ (unpack fn.ntmps ks p).b.length→∀ Q:Exit→Act→World→Prop,
  (∀ j p' a' w' μ',out=.out j p'→NowL np.length F w μ (unpack fn.ntmps ks p).b w' μ' (unpack fn.ntmps ks p').b→TRel (Or F (Own μ' (unpack fn.ntmps ks p').b)) w' μ' (unpack fn.ntmps ks p').b (unpack fn.ntmps ks p').t a'→
   a'.tmps.size=fn.ntmps→Q (.exit j) a' w')→
  (∀ ret a' w',out=.ret ret→RetP E.P fn (E.rm f) (E.ow f) np F w μ (unpack fn.ntmps ks p).b ret a' w'→Q .ret a' w')→Code.rounds E.P c Q n a w
def LOk (E:Env) (n:Nat) (L:LoopT):Prop:=∀ f bid c np ks p out,L f bid c np ks p=some out→LoopOk E n f c np ks p out
def xe:X→Exit
 |.N=>.normal
 |.X j=>.exit j
theorem ev_sound {E:Env} {N':Ann} {C:CallT} {L:LoopT} {n:Nat} (hm:E.P.follows .mixedOrders=true) (hC:COk E C) (hL:LOk E n L) {f:FuncId} {fn:Func} (hf:E.P.funcs[f]? = some fn) (hres:fn.results.size=fn.resultTypes.size)
  {np:List PSh}:∀ (c:Code) {R':Type} {r:R'} {kr:Ret→Option R'} {bid:Nat} {k:X→St→Option R'} {s:St} {a:Act} {w:World} {μ:List Hd},Rel F w μ s.b→TRel (Or F (Own μ s.b)) w μ s.b s.t a→np.length ≤ s.b.length→a.tmps.size=fn.ntmps→
   ev E N' C L f fn.ntmps np (fun R=>finK (R:=R) E f fn np) c R' kr bid k s=some r→∀ Q:Exit→Act→World→Prop,
   (∀ e s' a' w' μ',k e s'=some r→NowL np.length F w μ s.b w' μ' s'.b→TRel (Or F (Own μ' s'.b)) w' μ' s'.b s'.t a'→a'.tmps.size=fn.ntmps→Q (xe e) a' w')→
   (∀ ret a' w',kr ret=some r→RetP E.P fn (E.rm f) (E.ow f) np F w μ s.b ret a' w'→Q .ret a' w')→c.wp E.P Q a w
 |.skip,_,r,kr,bid,k,s,a,w,μ,R,ht,hnp,hnt,h,Q,hk,hr=>wp_skip (hk .N s a w μ h (.refl R hnp) ht hnt)
 |.region id ops draw,_,r,kr,bid,k,s,a,w,μ,R,ht,hnp,hnt,h,Q,hk,hr=>
  evReg_sound hm hC R ht h Q fun s' a' w' μ' hK hn ht' hs=>hk .N s' a' w' μ' hK (hn.toL hnp) ht' (hs.trans hnt)
 |.seq x y,_,r,kr,bid,k,s,a,w,μ,R,ht,hnp,hnt,h,Q,hk,hr=>by
  refine wp_seq (ev_sound hm hC hL hf hres x R ht hnp hnt h _ ?_ ?_)
  ·intro e s' a' w' μ' hK hn ht' hs
   cases e with
   |N=>
    refine ev_sound hm hC hL hf hres y hn.rel ht' hn.len hs hK Q ?_ ?_
    ·intro e s'' a'' w'' μ'' hK' hn' ht'' hs'
     exact hk e s'' a'' w'' μ'' hK' (hn.trans hn') ht'' hs'
    ·intro ret a'' w'' hK' hp
     exact hr ret a'' w'' hK' (RetP.pre hn hp)
   |X j=>exact hk (.X j) s' a' w' μ' hK hn ht' hs
  ·intro ret a' w' hK hp
   exact hr ret a' w' hK hp
 |.cond c x y,_,r,kr,bid,k,s,a,w,μ,R,ht,hnp,hnt,h,Q,hk,hr=>by
  simp only [ev] at h
  obtain ⟨g,hg,h⟩:=wBool_sound (ht.eval c) h
  have hb:∀ g,(condSet c g s).b=s.b:=fun g=>by cases c<;>rfl
  have hset:TRel (Or F (Own μ s.b)) w μ s.b (condSet c g s).t a:=by
   cases c with
   |tmp i=>
    refine ht.set i fun v hv=>?_
    have e:a.eval (.tmp i)=.bool g:=hg
    simp only [Act.eval,Array.getD_eq_getD_getElem?,hv,Option.getD_some] at e
    exact e
   |_=>exact ht
  refine wp_cond_split hg (fun e=>?_) (fun e=>?_)
  ·subst e
   rcases br_some h with ⟨_,h⟩ | ⟨h0,_⟩
   ·exact ev_sound hm hC hL hf hres x (s:=condSet c true s) (by rw [hb];exact R) (by rw [hb];exact hset) (by rw [hb];exact hnp) hnt h Q (by rw [hb];exact hk) (by rw [hb];exact hr)
   ·cases h0
  ·subst e
   rcases br_some h with ⟨h0,_⟩ | ⟨_,h⟩
   ·cases h0
   ·exact ev_sound hm hC hL hf hres y (s:=condSet c false s) (by rw [hb];exact R) (by rw [hb];exact hset) (by rw [hb];exact hnp) hnt h Q (by rw [hb];exact hk) (by rw [hb];exact hr)
 |.block id c,_,r,kr,bid,k,s,a,w,μ,R,ht,hnp,hnt,h,Q,hk,hr=>by
  simp only [ev] at h
  split at h
  ·refine wp_block (ev_sound hm hC hL hf hres c R ht hnp hnt h _ ?_ ?_)
   ·intro e s' a' w' μ' hK hn ht' hs
    cases e with
    |N=>exact hk .N s' a' w' μ' hK hn ht' hs
    |X j=>
     simp only [xe,Exit.inBlock]
     rcases br_some hK with ⟨hj,hK⟩ | ⟨hj,hK⟩
     ·have:j=id:=by simpa using hj
      rw [if_pos this]
      exact hk .N s' a' w' μ' hK hn ht' hs
     ·have:¬ j=id:=by simpa using hj
      rw [if_neg this]
      exact hk (.X j) s' a' w' μ' hK hn ht' hs
   ·intro ret a' w' hK hp
    exact hr ret a' w' hK hp
  ·rename_i ks hks
   obtain ⟨o,ho,h⟩:=bind_some' h
   refine wp_block (ev_sound hm hC hL hf hres c R ht hnp hnt ho _ ?_ ?_)
   ·intro e s' a' w' μ' hK hn ht' hs
    cases e with
    |N=>
     obtain ⟨p,μ2,hK,hn2,ht2⟩:=packK_sound hn.rel ht' hn.len hK
     rw [hs] at hn2 ht2
     cases hK
     simp only [loK,beq_self_eq_true,br] at h
     exact hk .N _ a' w' μ2 h (hn.trans hn2) ht2 hs
    |X j=>
     obtain ⟨p,μ2,hK,hn2,ht2⟩:=packK_sound hn.rel ht' hn.len hK
     rw [hs] at hn2 ht2
     cases hK
     simp only [loK] at h
     simp only [xe,Exit.inBlock]
     rcases br_some h with ⟨hj,h⟩ | ⟨hj,h⟩
     ·have:j=id:=by simpa using hj
      rw [if_pos this]
      exact hk .N _ a' w' μ2 h (hn.trans hn2) ht2 hs
     ·have:¬ j=id:=by simpa using hj
      rw [if_neg this]
      exact hk (.X j) _ a' w' μ2 h (hn.trans hn2) ht2 hs
   ·intro ret a' w' hK hp
    cases hK
    exact hr ret a' w' h hp
 |.loop c,_,r,kr,bid,k,s,a,w,μ,R,ht,hnp,hnt,h,Q,hk,hr=>by
  simp only [ev] at h
  split at h
  ·cases h
  ·rename_i ks hks
   obtain ⟨p,μ2,h,hn,ht2⟩:=packK_sound R ht hnp h
   obtain ⟨out,ho,h⟩:=bind_some' h
   rw [hnt] at hn ht2
   refine wp_loop_rounds n (hL f bid c np ks p out ho fn hf hres F w μ2 a hnt hn.rel ht2 hn.len Q ?_ ?_)
   ·intro j p' a' w' μ' he hn' ht' hs
    subst he
    exact hk (.X j) _ a' w' μ' h (hn.trans hn') ht' hs
   ·intro ret a' w' he hp
    subst he
    exact hr ret a' w' h (RetP.pre hn hp)
 |.exit id,_,r,kr,bid,k,s,a,w,μ,R,ht,hnp,hnt,h,Q,hk,hr=>wp_exit (hk (.X id) s a w μ h (.refl R hnp) ht hnt)
 |.ret,_,r,kr,bid,k,s,a,w,μ,R,ht,hnp,hnt,h,Q,hk,hr=>by
  obtain ⟨ret,hK,hp⟩:=finK_sound R ht hnp hres h
  exact wp_ret (hr ret a w hK hp)
 |.scope _,_,_,_,_,_,_,_,_,_,_,_,_,_,h,_,_,_=>by simp [ev] at h
 |.label _,_,_,_,_,_,_,_,_,_,_,_,_,_,h,_,_,_=>by simp [ev] at h
 |.goto _,_,_,_,_,_,_,_,_,_,_,_,_,_,h,_,_,_=>by simp [ev] at h
end
end Go.Proofs.Ytognghbhdalckaa.Abs
namespace Go.Proofs.Ytognghbhdalckaa.Abs
open Go
variable [Glob]
section
variable {P:Program} {w:World} {F N M:Nat→Prop} {μ:List Hd} {b:List Blk} {R':Type} {r:R'}
theorem evF_calls {E:Env} {N':Ann} {C:CallT} {L:LoopT} {n:Nat} (hm:E.P.follows .mixedOrders=true) (hC:COk E C) (hL:LOk E n L) {g:FuncId} {args:List AVal} {pbs:List PB} {ret:Ret}
  (h:evF E N' C L g args pbs=some ret) {F:Nat→Prop} {w:World} {μ:List Hd} {vs:List Value} (R:Rel F w μ (pbs.map startBlk)) (ha:AsRel (Or F (Own μ (pbs.map startBlk))) w μ (pbs.map startBlk) false args vs) :
  (callFunc g vs.toArray).run E.P w=.ok (.enter g vs.toArray) w∧∀ post:Value→World→Prop,(∀ v w' μ' S,FnPost E.P (E.rm g) (E.ow g) F w μ pbs ret w' μ' S v→post v w')→
   ∀ next:Ending→World→Prop,(∀ v w',post v w'→next (.returned v) w')→Calls E.P g vs.toArray w next:=by
 unfold evF at h
 split at h
 ·cases h
 rename_i fn hf
 split at h
 ·cases h
 rename_i c hb
 rcases br_some h with ⟨_,h⟩ | ⟨h0,h⟩
 ·cases h
 simp only [Bool.or_eq_false_iff,Bool.not_eq_false',decide_eq_true_eq] at h0
 obtain ⟨⟨hname,hlen⟩,hres⟩:=h0
 have hvl:=ha.len
 have hcall:(callFunc g vs.toArray).run E.P w=.ok (.enter g vs.toArray) w:=by
  have hne:¬ fn.name = "runtime.NumGoroutine":=by simpa using hname
  simp [callFunc,program,Sem.run,hf,hne,hb]
 refine ⟨hcall,fun post hpost next hnext=>calls_of_wp hf hb ?_⟩
 have hn:∀ v w',(∃ μ' S,FnPost E.P (E.rm g) (E.ow g) F w μ pbs ret w' μ' S v)→next (.returned v) w':=fun v w' ⟨μ',S,h⟩=>hnext v w' (hpost v w' μ' S h)
 have fin:∀ (a':Act) (w':World),RetP E.P fn (E.rm g) (E.ow g) (pbs.map (PB.sh pbs)) F w μ (pbs.map startBlk) ret a' w'→a'.defers=[]∧∃ v,(results fn a'.tmps).run E.P w'=.ok v w'∧next (.returned v) w':=by
  intro a' w' ⟨hd,v,μ',S,hr,hl,hlen,hnd,hres,hv⟩
  have hl':(pbs.map (PB.sh pbs)).length=pbs.length:=by simp
  have shAt:∀ {j:Nat} {m:Md} {sz:Nat},(pbs.map (PB.sh pbs))[j]? = some (.arr m false sz)→∃ xs,pbs[j]? = some (.arr m false sz xs):=by
   intro j m sz hj
   rw [List.getElem?_map] at hj
   cases hp:pbs[j]? with
   |none=>simp [hp] at hj
   |some p=>
    cases p with
    |arr m' g' sz' xs=>
     simp [hp,PB.sh] at hj
     obtain ⟨rfl,rfl,rfl⟩:=hj
     exact ⟨xs,rfl⟩
    |box cs=>simp [hp,PB.sh] at hj
  refine ⟨hd,v,hr,hn v w' ⟨μ',S,hl.rel,by rw [hlen,hl'],fun j x hx=>hl.box j x ?_ hx,?_,hl.own,hnd,hres,hl.fr,?_⟩⟩
  ·have:=(List.getElem?_eq_some_iff.1 hx).1
   rw [R.len] at this
   simpa using this
  ·intro j m sz xs h hp hf hm
   have hj:j < pbs.length:=(List.getElem?_eq_some_iff.1 hp).1
   obtain ⟨blk',h',_,hm',he,_⟩:=hl.fix j (startBlk (.arr m false sz xs)) h (by simpa using hj) (by simp [hp]) hm (.inl hf)
   exact ⟨h',hm',he⟩
  ·revert hv
   cases E.ow g with
   |some ts=>exact fun hv=>hv
   |none=>
    rintro ⟨hS,hv⟩
    refine ⟨hS,?_⟩
    revert hv
    cases E.rm g with
    |none=>exact fun hv=>hv
    |some j=>
     rintro ⟨h,m,sz,h1,h2,h3⟩
     obtain ⟨xs,hp⟩:=shAt h2
     exact ⟨h,m,sz,xs,h1,hp,h3⟩
 refine ev_sound (n:=n) (s:=⟨args ++ List.replicate (fn.ntmps - args.length) .un,pbs.map startBlk⟩) hm hC hL hf hres c R ⟨?_,rfl⟩ (by simp) ?_ h _ ?_ ?_
 ·have h1:=ha.append (unrel (N:=Or F (Own μ (pbs.map startBlk))) (w:=w) (μ:=μ) (b:=pbs.map startBlk) (List.replicate (fn.ntmps - vs.length) undef))
  simp only [List.length_replicate] at h1
  rw [← hvl]
  simpa using h1
 ·simp;omega
 ·intro e s' a' w' μ' hK hnl ht' hs
  cases e with
  |X j=>cases hK
  |N=>
   obtain ⟨ret',hK,hp⟩:=finK_sound hnl.rel ht' hnl.len hres hK
   cases hK
   exact fin a' w' (RetP.pre hnl hp)
 ·intro ret' a' w' hK hp
  cases hK
  exact fin a' w' hp
theorem evF_sound {E:Env} {N':Ann} {C:CallT} {L:LoopT} {n:Nat} (hm:E.P.follows .mixedOrders=true) (hC:COk E C) (hL:LOk E n L) {g:FuncId} {args:List AVal} {pbs:List PB} {ret:Ret}
  (h:evF E N' C L g args pbs=some ret):FnOk E.P (E.rm g) (E.ow g) g args pbs ret:=by
 intro F w μ vs R ha o a next Q hex hn
 obtain ⟨hcall,hc⟩:=evF_calls hm hC hL h R ha
 unfold Oper.wp
 rw [hex,hcall,Oper.upon_enter]
 exact hc (fun v w'=>∃ μ' S,FnPost E.P (E.rm g) (E.ow g) F w μ pbs ret w' μ' S v) (fun v w' μ' S h=>⟨μ',S,h⟩) _ fun v w' h=>hn v w' h
theorem evL_sound {E:Env} {N':Ann} {C:CallT} {L:LoopT} {n:Nat} (hm:E.P.follows .mixedOrders=true) (hC:COk E C) (hL:LOk E n L) {f:FuncId} {bid:Nat} {c:Code} {np:List PSh} {ks:LK} {p:ks.T} {out:LO ks.T}
  (h:evL E N' C L f bid c np ks p=some out):LoopOk E (n + 1) f c np ks p out:=by
 intro fn hf hres F w μ a hnt R ht hnp Q hout hret
 unfold evL at h
 rw [hf] at h
 simp only at h
 rw [rounds_succ]
 refine ev_sound hm hC hL hf hres c R ht hnp hnt h _ ?_ ?_
 ·intro e s' a' w' μ' hK hn ht' hs
  cases e with
  |N=>
   obtain ⟨p',μ2,hK,hn2,ht2⟩:=packK_sound hn.rel ht' hn.len hK
   rw [hs] at hn2 ht2
   refine hL f bid c np ks p' out hK fn hf hres F w' μ2 a' hs hn2.rel ht2 hn2.len Q ?_ ?_
   ·intro j p'' a'' w'' μ'' he hn3 ht3 hs3
    exact hout j p'' a'' w'' μ'' he ((hn.trans hn2).trans hn3) ht3 hs3
   ·intro ret a'' w'' he hp
    exact hret ret a'' w'' he (RetP.pre (hn.trans hn2) hp)
  |X j=>
   obtain ⟨p',μ2,hK,hn2,ht2⟩:=packK_sound hn.rel ht' hn.len hK
   rw [hs] at hn2 ht2
   cases hK
   exact hout j p' a' w' μ2 rfl (hn.trans hn2) ht2 hs
 ·intro ret a' w' hK hp
  cases hK
  exact hret ret a' w' rfl hp
def PrimOk (E:Env):Prop:=(∀ g,E.prim g=none)∧∀ g p,E.ext g=some p→∀ args pbs ret,p args pbs=some ret→FnOk E.P (E.rm g) (E.ow g) g args pbs ret
theorem run_sound {E:Env} {N':Ann} (hm:E.P.follows .mixedOrders=true) (hp:PrimOk E):∀ n,COk E (run E N' n).1∧LOk E n (run E N' n).2
 |0=>by
  refine ⟨⟨fun g args pbs ret hg h=>?_,fun c cs ret h=>by cases h⟩,fun f bid c np ks p out h=>by cases h⟩
  rw [hp.1 g] at h
  cases h
 |n + 1=>by
  obtain ⟨hC,hL⟩:=run_sound hm hp n
  refine ⟨⟨fun g args pbs ret hg h=>?_,fun c cs ret h=>?_⟩,fun f bid c np ks p out h=>evL_sound hm hC hL h⟩
  ·rw [hp.1 g] at h
   simp only [run] at h
   rw [show (g == apId)=false by simpa using hg] at h
   simp only [cond] at h
   split at h
   ·rename_i p hx;exact hp.2 g p hx args pbs ret h
   ·exact evF_sound hm hC hL h
  ·simp only [run] at h
   rw [show (apId == apId)=true by simp] at h
   simp only [cond] at h
   cases c with
   |func g caps=>
    simp only [applyV,allV_map,Option.bind_some] at h
    rcases br_some h with ⟨_,h⟩ | ⟨h0,h⟩
    ·cases h
    simp only [Bool.or_eq_false_iff] at h0
    have hg:g ≠ apId:=by simpa using h0.1.1
    have hrm:E.rm g=none:=by simpa using h0.1.2
    have how:E.ow g=none:=by simpa using h0.2
    refine ⟨g,caps,hg,rfl,hrm,how,?_⟩
    have:=hC.1 g ((cs ++ caps).map .v) [] ret hg h
    rw [hrm,how] at this
    exact this
   |_=>cases h
theorem top_calls {E:Env} {N':Ann} (hm:E.P.follows .mixedOrders=true) (hp:PrimOk E) {n:Nat} {g:FuncId} {cs:List CVal} {c:CVal} {vs:List Value} {w:World} (hrm:E.rm g=none) (how:E.ow g=none)
  (hgl:(∀ x,Glob.ids x→x < w.heap.size)∧Glob.ok w) (hg:g ≠ apId) (hx:E.ext g=none) (h:(run E N' (n + 1)).1 g (cs.map .v) []=some (c,[])) (ha:CsRel (fun _=>False) w false cs vs) (next:Ending→World→Prop)
  (hn:∀ v w',CRel (fun _=>False) w' c v→RowKit.Below w.heap.size w w'→next (.returned v) w'):Calls E.P g vs.toArray w next:=by
 obtain ⟨hC,hL⟩:=run_sound (N':=N') hm hp n
 have hno:∀ x,¬ Own ([]:List Hd) ([]:List Blk) x:=by
  rintro x ⟨i,blk,h,hb,_⟩
  simp at hb
 have R:Rel (fun _=>False) w ([]:List Hd) (([]:List PB).map startBlk):=
  ⟨rfl,fun i blk h hb=>by simp at hb,fun i j blk blk' h h' x hb=>by simp at hb,fun x hx=>(hno x hx).elim,⟨fun x hx=>hx.elim,hgl.1,hgl.2⟩,fun x hx=>(hno x hx).elim⟩
 have ha':AsRel (Or (fun _=>False) (Own ([]:List Hd) (([]:List PB).map startBlk))) w [] (([]:List PB).map startBlk) false (cs.map .v) vs:=
  AsRel.ofC (CsRel.keep (Keep.sub fun x hx=>by rcases hx with hx | hx;exact hx;exact (hno x hx).elim) ha)
 simp only [run] at h
 rw [show (g == apId)=false by simpa using hg] at h
 simp only [cond,hx] at h
 obtain ⟨_,hc⟩:=evF_calls hm hC hL h R ha'
 refine hc (fun v w'=>CRel (fun _=>False) w' c v∧RowKit.Below w.heap.size w w') (fun v w' μ' S p=>?_) next fun v w' h=>hn v w' h.1 h.2
 have hv:=p.val
 rw [how,hrm] at hv
 obtain ⟨rfl,hv⟩:=hv
 refine ⟨CRel.keep (Keep.sub fun x hx=>hx.elim) hv,p.fr.os,p.fr.tape,p.fr.output,p.fr.size,fun k hk=>p.fr.block k hk fun h=>hno k h⟩
end
end Go.Proofs.Ytognghbhdalckaa.Abs
namespace Go.Proofs.Ytognghbhdalckaa.Abs
open Go
variable [Glob]
def Cat {α:Type} (p:α→List CVal→Prop):List α→List CVal→Prop
 |[],cs=>cs=[]
 |f :: r,cs=>∃ a b,cs=a ++ b∧p f a∧Cat p r b
def WT (P:Program):Nat→TypeId→List CVal→Prop
 |0,_,_=>False
 |n + 1,t,cs=>
  match P.underlying t with
  |some .bool=>∃ b,cs=[.bool b]
  |some (.int k)=>∃ i,cs=[.int k i]∧(Lit.int k i).wf=true
  |some .string=>∃ s,cs=[.str s]∧s.length ≤ maxLen
  |some (.pointer e)=>cs=[.nilp]∨∃ c,cs=[.fp c 0]∧c.fits (aggT P e) (P.cellsOf e)=true∧WT P n e c.cells
  |some (.slice e)=>∃ xs,cs=[.sl xs]∧xs.length ≤ maxLen∧∀ x ∈ xs,x.fits (aggT P e) (P.cellsOf e)=true∧WT P n e x.cells
  |some (.struct fs)=>Cat (fun f=>WT P n f.type) fs.toList cs
  |some (.array len e)=>Cat (fun _=>WT P n e) (List.range len) cs
  |_=>False
def tile (P:Program):List Field→Nat→Nat→Bool
 |[],o,n=>o == n
 |f :: r,o,n=>f.offset == o && tile P r (o + P.cellsOf f.type) n
def goodT (P:Program) (good:List TypeId) (t:TypeId):Bool:=
 match P.underlying t with
 |some .bool=>P.cellsOf t == 1
 |some (.int _)=>P.cellsOf t == 1
 |some .string=>P.cellsOf t == 1
 |some (.pointer e)=>good.contains e && decide (P.cellsOf e ≠ 0) && P.cellsOf t == 1
 |some (.slice e)=>good.contains e && decide (P.cellsOf e ≠ 0) && P.cellsOf t == 1
 |some (.struct fs)=>fs.toList.all (fun f=>good.contains f.type) && tile P fs.toList 0 (P.cellsOf t)
 |some (.array n e)=>good.contains e && P.cellsOf t == n * P.cellsOf e
 |_=>false
section
variable {P:Program} {w:World} {N:Nat→Prop} {H:Type} {enc:TypeId × Value→H}
theorem mapM_some {α β:Type} {f:α→Option β}:∀ {l:List α} {ys:List β},l.mapM f=some ys→ys.length=l.length∧∀ (i:Nat) (x:α),l[i]? = some x→∃ y,ys[i]? = some y∧f x=some y
 |[],ys,h=>by simp at h;subst h;simp
 |x :: r,ys,h=>by
  rw [List.mapM_cons] at h
  simp only [Option.bind_eq_bind,Option.bind_eq_some_iff] at h
  obtain ⟨y,hy,zs,hz,h⟩:=h
  simp at h;subst h
  obtain ⟨h1,h2⟩:=mapM_some hz
  refine ⟨by simp [h1],fun i x' hi=>?_⟩
  cases i with
  |zero=>simp at hi;subst hi;exact ⟨y,rfl,hy⟩
  |succ i=>simpa using h2 i x' (by simpa using hi)
theorem cells_some {a:Addr} {n:Nat} {cs:List Value} (h:w.cells? 0 a n=some cs):cs.length=n∧∀ j,j < n→w.cell? (a.add j)=cs[j]?:=by
 unfold World.cells? at h
 simp only [Nat.zero_le,if_true] at h
 obtain ⟨h1,h2⟩:=mapM_some h
 simp at h1
 refine ⟨h1,fun j hj=>?_⟩
 obtain ⟨y,hy,hc⟩:=h2 j j (by simp [hj])
 rw [hy,hc]
theorem spot_none {a:Addr} {v:Value} (h:w.cell? a=some v):a=pl a.block a.off:=by
 unfold World.cell? at h
 split at h
 ·split at h
  ·cases h
  ·rename_i hs
   cases a with
   |mk b o s=>
    cases s with
    |none=>rfl
    |some _=>simp at hs
 ·cases h
theorem WT.flatOne:∀ {n:Nat} {e:TypeId} {ccs:List CVal},WT P n e ccs→aggT P e=false→∃ c,ccs=[c]∧c.isFlat=true
 |0,_,_,h,_=>h.elim
 |n + 1,e,ccs,h,ha=>by
  unfold WT at h
  split at h
  ·obtain ⟨b,rfl⟩:=h;exact ⟨_,rfl,rfl⟩
  ·obtain ⟨b,rfl,_⟩:=h;exact ⟨_,rfl,rfl⟩
  ·obtain ⟨b,rfl,_⟩:=h;exact ⟨_,rfl,rfl⟩
  ·rcases h with rfl | ⟨c,rfl,_⟩<;>exact ⟨_,rfl,rfl⟩
  ·obtain ⟨b,rfl,_,_⟩:=h;exact ⟨_,rfl,rfl⟩
  ·rename_i fs hf;simp [aggT,hf] at ha
  ·rename_i k e' hf;simp [aggT,hf] at ha
  ·exact h.elim
theorem one_of_cells {n:Nat} {e:TypeId} {ccs:List CVal} {cs:List Value} (hr:CsRel N w true ccs cs) (hl:cs.length=P.cellsOf e) (hw:WT P n e ccs) :
  ∃ c u,c.fits (aggT P e) (P.cellsOf e)=true∧c.cells=ccs∧CRel N w c u∧u.cells=cs.toArray∧noTup c=true:=by
 have hlen:=hr.len
 cases ha:aggT P e with
 |true=>exact ⟨.agg ccs,.agg cs.toArray,by simp [CVal.fits,CVal.isAggN];omega,rfl,⟨cs,rfl,hr⟩,rfl,rfl⟩
 |false=>
  obtain ⟨c,rfl,hcf⟩:=hw.flatOne ha
  obtain ⟨u,us,rfl,hu,hf,hus⟩:=hr
  have:us=[]:=hus
  subst this
  have hfl:=hf rfl
  have h1:P.cellsOf e=1:=by rw [← hl];rfl
  refine ⟨c,u,by simp [CVal.fits,hcf,h1],?_,hu,by rw [cells_flat hfl],?_⟩
  ·cases c<;>first | rfl | cases hcf
  ·cases c<;>first | rfl | cases hcf
theorem add_zero' (a:Addr):a.add 0=a:=by cases a;rfl
theorem at_addr {n:Nat} {e:TypeId} {a:Addr} {cs:List Value} {ccs:List CVal} (hc:w.cells? 0 a (P.cellsOf e)=some cs) (h0:P.cellsOf e ≠ 0) (hr:CsRel N w true ccs cs) (hw:WT P n e ccs) :
  ∃ c u,c.fits (aggT P e) (P.cellsOf e)=true∧c.cells=ccs∧CRel N w c u∧noTup c=true∧u.cells.size=P.cellsOf e∧a=pl a.block a.off∧a.block < w.heap.size∧
   ∀ j,j < P.cellsOf e→w.cell? (pl a.block (a.off + j))=u.cells[j]?:=by
 obtain ⟨hl,hcell⟩:=cells_some hc
 obtain ⟨c,u,h1,h2,h3,h4,h5⟩:=one_of_cells hr hl hw
 have hz:=hcell 0 (by omega)
 rw [add_zero'] at hz
 have hlt:0 < cs.length:=by omega
 rw [List.getElem?_eq_getElem hlt] at hz
 have ha:=spot_none hz
 refine ⟨c,u,h1,h2,h3,h5,by rw [h4];simpa using hl,ha,?_,fun j hj=>?_⟩
 ·rw [ha] at hz;exact cell_lt hz
 ·have:=hcell j hj
  rw [ha,pl_add] at this
  simp only [pl] at this ⊢
  rw [this,h4];simp
theorem elems_of {n:Nat} {e:TypeId} {a:Addr}:∀ (m k:Nat),(∀ i,k ≤ i→i < k + m→∃ c u,c.fits (aggT P e) (P.cellsOf e)=true∧WT P n e c.cells∧CRel N w c u∧noTup c=true∧u.cells.size=P.cellsOf e∧
   ∀ j,j < P.cellsOf e→w.cell? (pl a.block (a.off + i * P.cellsOf e + j))=u.cells[j]?)→
  ∃ xs:List CVal,xs.length=m∧ElRel N w (P.cellsOf e) a.block (a.off + k * P.cellsOf e) xs∧∀ x ∈ xs,x.fits (aggT P e) (P.cellsOf e)=true∧WT P n e x.cells
 |0,k,_=>⟨[],rfl,trivial,by simp⟩
 |m + 1,k,h=>by
  obtain ⟨c,u,h1,h2,h3,h4,h5,h6⟩:=h k (Nat.le_refl _) (by omega)
  obtain ⟨xs,hl,hel,hall⟩:=elems_of m (k + 1) fun i hi hi'=>h i (by omega) (by omega)
  refine ⟨c :: xs,by simp [hl],⟨⟨u,h4,h3,h5,h6⟩,?_⟩,?_⟩
  ·rw [show a.off + k * P.cellsOf e + P.cellsOf e=a.off + (k + 1) * P.cellsOf e by rw [Nat.add_mul];omega]
   exact hel
  ·intro x hx
   rcases List.mem_cons.1 hx with e | e
   ·subst e;exact ⟨h1,h2⟩
   ·exact hall x e
theorem cat_fields {n:Nat} {cs:List Value}:∀ (fs:List Field) (o:Nat),tile P fs o cs.length=true→
  (∀ f ∈ fs,∃ ccs,CsRel N w true ccs ((cs.drop f.offset).take (P.cellsOf f.type))∧WT P n f.type ccs)→∃ ccs,CsRel N w true ccs (cs.drop o)∧Cat (fun f=>WT P n f.type) fs ccs
 |[],o,ht,_=>by
  simp [tile] at ht
  exact ⟨[],by rw [ht];simp [CsRel],rfl⟩
 |f :: r,o,ht,h=>by
  simp only [tile,Bool.and_eq_true,beq_iff_eq] at ht
  obtain ⟨rfl,ht⟩:=ht
  obtain ⟨x,hx,hwx⟩:=h f (by simp)
  obtain ⟨y,hy,hcy⟩:=cat_fields r _ ht fun g hg=>h g (by simp [hg])
  refine ⟨x ++ y,?_,x,y,rfl,hwx,hcy⟩
  have:=hx.append hy
  rw [← List.drop_drop,List.take_append_drop] at this
  exact this
theorem cat_elems {n:Nat} {e:TypeId} {cs:List Value}:∀ (m k:Nat),(k + m) * P.cellsOf e=cs.length→
  (∀ i,k ≤ i→i < k + m→∃ ccs,CsRel N w true ccs ((cs.drop (i * P.cellsOf e)).take (P.cellsOf e))∧WT P n e ccs)→∃ ccs,CsRel N w true ccs (cs.drop (k * P.cellsOf e))∧Cat (fun _=>WT P n e) (List.range' k m) ccs
 |0,k,hl,_=>⟨[],by rw [Nat.add_zero] at hl;rw [hl];simp [CsRel],rfl⟩
 |m + 1,k,hl,h=>by
  obtain ⟨x,hx,hwx⟩:=h k (Nat.le_refl _) (by omega)
  obtain ⟨y,hy,hcy⟩:=cat_elems m (k + 1) (by rw [← hl];congr 1;omega) fun i hi hi'=>h i (by omega) (by omega)
  refine ⟨x ++ y,?_,x,y,rfl,hwx,by simpa [List.range'_succ] using hcy⟩
  have:=hx.append hy
  rw [Nat.add_mul,Nat.one_mul,← List.drop_drop,List.take_append_drop] at this
  exact this
theorem trod_wt {good:List TypeId} (hg:good.all (goodT P good)=true):∀ (fuel:Nat) {t:TypeId} {cs:List Value} {d:DataW H} {ps:List MemPlace},good.contains t=true→
  DataW.trod enc P w 0 (fun _=>true) true fuel t cs=some (d,ps)→∃ ccs,CsRel (fun _=>False) w true ccs cs∧WT P fuel t ccs
 |0,_,_,_,_,_,h=>by simp [DataW.trod] at h
 |fuel + 1,t,cs,d,ps,ht,h=>by
  have hgt:=List.all_eq_true.1 hg t (by simpa using ht)
  have one:∀ {v:Value} {c:CVal},CRel (fun _=>False) w c v→flat v=true→CsRel (fun _=>False) w true [c] [v]:=fun hc hf=>⟨_,[],rfl,hc,fun _=>hf,rfl⟩
  unfold goodT at hgt
  unfold DataW.trod at h
  unfold WT
  split at h
  ·
   rename_i b hu
   simp only [hu]
   exact ⟨[.bool b],one rfl rfl,b,rfl⟩
  ·
   rename_i k k' n hu
   simp only [hu]
   split at h
   ·rename_i hk
    obtain ⟨rfl,hwf⟩:=hk
    exact ⟨[.int _ n],one rfl rfl,n,rfl,hwf⟩
   ·cases h
  ·rename_i k k' b hu
   rw [hu] at hgt;cases hgt
  ·
   rename_i x hu
   simp only [hu]
   split at h
   ·rename_i hx
    exact ⟨[.str x.data.toList],one (by show _=_;simp) rfl,_,rfl,by rw [Array.length_toList];exact hx⟩
   ·cases h
  ·
   rename_i e hu
   simp only [hu]
   exact ⟨[.nilp],one rfl rfl,.inl rfl⟩
  ·
   rename_i e a hu
   simp only [hu] at hgt ⊢
   simp only [Bool.and_eq_true,decide_eq_true_eq] at hgt
   obtain ⟨⟨hge,h0⟩,_⟩:=hgt
   cases hc:w.cells? 0 a (P.cellsOf e) with
   |none=>rw [hc] at h;cases h
   |some cs'=>
    rw [hc] at h
    simp only [Option.bind_some] at h
    cases ht':DataW.trod enc P w 0 (fun _=>true) true fuel e cs' with
    |none=>rw [ht'] at h;cases h
    |some y=>
     obtain ⟨ccs,hr,hw⟩:=trod_wt hg fuel hge ht'
     obtain ⟨c,u,h1,h2,h3,h4,h5,h6,h7,h8⟩:=at_addr hc h0 hr hw
     refine ⟨[.fp c 0],one ⟨a.block,a.off,u,by rw [Nat.add_zero,← h6],fun h=>h,h7,h4,h3,fun j hj=>h8 j (by omega)⟩ rfl,.inr ⟨c,rfl,h1,by rw [h2];exact hw⟩⟩
  ·
   rename_i e hu
   simp only [hu]
   exact ⟨[.sl []],one ⟨none,0,rfl,Nat.le_refl _,.inl rfl⟩ rfl,[],rfl,by simp [maxLen],by simp⟩
  ·
   rename_i e a len cap hu
   simp only [hu] at hgt ⊢
   simp only [Bool.and_eq_true,decide_eq_true_eq] at hgt
   obtain ⟨⟨hge,h0⟩,_⟩:=hgt
   split at h
   ·rename_i hcap
    obtain ⟨_,hlc,hcm⟩:=hcap
    simp only [Option.bind_eq_some_iff] at h
    obtain ⟨elems,hel,h⟩:=h
    obtain ⟨hl1,hl2⟩:=mapM_some hel
    have raw:∀ i,i < len→∃ cs' y,w.cells? 0 (a.add (i * P.cellsOf e)) (P.cellsOf e)=some cs'∧DataW.trod enc P w 0 (fun _=>true) true fuel e cs'=some y:=by
     intro i hi
     obtain ⟨y,_,hy⟩:=hl2 i i (by simp [hi])
     obtain ⟨cs',hc,ht'⟩:=Option.bind_eq_some_iff.1 hy
     exact ⟨cs',y,hc,ht'⟩
    by_cases hz:len=0
    ·exact ⟨[.sl []],one ⟨some a,cap,by rw [hz];rfl,by simp,.inl rfl⟩ rfl,[],rfl,by simp [maxLen],by simp⟩
    ·obtain ⟨cs0,y0,hc0,ht0⟩:=raw 0 (by omega)
     rw [Nat.zero_mul,add_zero'] at hc0
     obtain ⟨ccs0,hr0,hw0⟩:=trod_wt hg fuel hge ht0
     obtain ⟨_,_,_,_,_,_,_,ha,hlt,_⟩:=at_addr hc0 h0 hr0 hw0
     have each:∀ i,i < len→∃ c u,c.fits (aggT P e) (P.cellsOf e)=true∧WT P fuel e c.cells∧CRel (fun _=>False) w c u∧noTup c=true∧u.cells.size=P.cellsOf e∧
       ∀ j,j < P.cellsOf e→w.cell? (pl a.block (a.off + i * P.cellsOf e + j))=u.cells[j]?:=by
      intro i hi
      obtain ⟨cs',y,hc,ht'⟩:=raw i hi
      obtain ⟨ccs,hr,hw⟩:=trod_wt hg fuel hge ht'
      obtain ⟨c,u,h1,h2,h3,h4,h5,h6,h7,h8⟩:=at_addr hc h0 hr hw
      refine ⟨c,u,h1,by rw [h2];exact hw,h3,h4,h5,?_⟩
      rw [ha,pl_add] at h8
      exact h8
     obtain ⟨xs,hxl,hxe,hxa⟩:=elems_of (n:=fuel) (e:=e) (a:=a) len 0 fun i _ hi=>each i (by omega)
     rw [Nat.zero_mul,Nat.add_zero] at hxe
     exact ⟨[.sl xs],one ⟨some a,cap,by rw [hxl],by omega,.inr ⟨a.block,a.off,P.cellsOf e,by rw [← ha],fun h=>h,hlt,hxe⟩⟩ rfl,xs,rfl,by omega,hxa⟩
   ·cases h
  ·
   rename_i cs _ _ fs hu
   simp only [hu] at hgt ⊢
   simp only [Bool.and_eq_true] at hgt
   obtain ⟨hgf,htile⟩:=hgt
   split at h
   ·rename_i hlen
    cases hm:fs.toList.mapM (fun f=>DataW.trod enc P w 0 (fun _=>true) true fuel f.type ((cs.drop f.offset).take (P.cellsOf f.type))) with
    |none=>rw [hm] at h;cases h
    |some ys=>
     obtain ⟨_,hl2⟩:=mapM_some hm
     have:=cat_fields (w:=w) (N:=fun _=>False) (n:=fuel) (cs:=cs) fs.toList 0 (by rw [hlen];exact htile) fun f hf=>by
      obtain ⟨i,hi⟩:=List.mem_iff_getElem?.1 hf
      obtain ⟨y,_,hy⟩:=hl2 i f hi
      exact trod_wt hg fuel (List.all_eq_true.1 hgf f hf) hy
     simpa using this
   ·cases h
  ·
   rename_i cs _ _ n e hu
   simp only [hu] at hgt ⊢
   simp only [Bool.and_eq_true,beq_iff_eq] at hgt
   obtain ⟨hge,hsz⟩:=hgt
   split at h
   ·rename_i hlen
    cases hm:(List.range n).mapM (fun i=>DataW.trod enc P w 0 (fun _=>true) true fuel e ((cs.drop (i * P.cellsOf e)).take (P.cellsOf e))) with
    |none=>rw [hm] at h;cases h
    |some ys=>
     obtain ⟨_,hl2⟩:=mapM_some hm
     have:=cat_elems (P:=P) (w:=w) (N:=fun _=>False) (n:=fuel) (e:=e) (cs:=cs) n 0 (by rw [Nat.zero_add,hlen,hsz]) fun i _ hi=>by
      obtain ⟨y,_,hy⟩:=hl2 i i (List.getElem?_range (by omega))
      exact trod_wt hg fuel hge hy
     rw [Nat.zero_mul] at this
     rw [List.range_eq_range']
     exact this
   ·cases h
  all_goals (rename_i hu;first | (rw [hu] at hgt;cases hgt) | skip)
  all_goals cases h
end
end Go.Proofs.Ytognghbhdalckaa.Abs
namespace Go.Proofs.Ytognghbhdalckaa.Abs
open Go
def Evt (p:Nat→Prop):Prop:=∃ b,∀ n,b ≤ n→p n
theorem Evt.and {p q:Nat→Prop} (h:Evt p) (k:Evt q):Evt fun n=>p n∧q n:=by
 obtain ⟨b,h⟩:=h
 obtain ⟨c,k⟩:=k
 exact ⟨max b c,fun n hn=>⟨h n (by omega),k n (by omega)⟩⟩
theorem Evt.mono {p q:Nat→Prop} (h:Evt p) (k:∀ n,p n→q n):Evt q:=by
 obtain ⟨b,h⟩:=h
 exact ⟨b,fun n hn=>k n (h n hn)⟩
theorem Evt.of {p:Nat→Prop} (k:∀ n,p n):Evt p:=⟨0,fun n _=>k n⟩
theorem Evt.next {p q:Nat→Prop} (h:Evt p) (k:∀ n,p n→q (n + 1)):Evt q:=by
 obtain ⟨b,h⟩:=h
 refine ⟨b + 1,fun n hn=>?_⟩
 obtain ⟨m,rfl⟩:∃ m,n=m + 1:=⟨n - 1,by omega⟩
 exact k m (h m (by omega))
theorem Evt.all {α:Type} {p:α→Nat→Prop}:∀ {l:List α},(∀ x ∈ l,Evt (p x))→Evt fun n=>∀ x ∈ l,p x n
 |[],_=>.of fun n x hx=>by cases hx
 |x :: r,h=>by
  have h1:=h x (by simp)
  have h2:=Evt.all (l:=r) fun y hy=>h y (by simp [hy])
  refine (h1.and h2).mono fun n hh y hy=>?_
  rcases List.mem_cons.1 hy with e | e
  ·subst e;exact hh.1
  ·exact hh.2 y e
theorem wrap_i64 {n:Int} (h : -9223372036854775808 ≤ n) (h':n < 9223372036854775808):IntKind.i64.wrap n=n:=by
 simp only [IntKind.wrap,IntKind.signed,IntKind.bits]
 simp
 omega
@[simp] theorem br_true' {R:Type} {x y:Option R}:br true x y=x:=rfl
@[simp] theorem br_false' {R:Type} {x y:Option R}:br false x y=y:=rfl
@[simp] theorem loK_ret {A R:Type} {r:Ret} {kr:Ret→Option R} {k:Nat→A→Option R}:loK (.ret r) kr k=kr r:=rfl
@[simp] theorem loK_out {A R:Type} {j:Nat} {p:A} {kr:Ret→Option R} {k:Nat→A→Option R}:loK (.out j p) kr k=k j p:=rfl
@[simp] theorem asInt_int {k:IntKind} {n:Int}:CVal.asInt k (.int k n)=some n:=by simp [CVal.asInt]
@[simp] theorem asNil_nili:CVal.asNil .nili=some true:=rfl
@[simp] theorem asNil_iface {t:Nat} {c:CVal}:CVal.asNil (.iface t c)=some false:=rfl
@[simp] theorem asBool_bool {b:Bool}:CVal.asBool (.bool b)=some b:=rfl
@[simp] theorem asStr_str {s:List UInt8}:CVal.asStr (.str s)=some s:=rfl
@[simp] theorem asSl_sl {s:List CVal}:CVal.asSl (.sl s)=some s:=rfl
@[simp] theorem fits_agg {n:Nat} {cs:List CVal}:CVal.fits true n (.agg cs)=(cs.length == n):=rfl
@[simp] theorem isAggN_agg {n:Nat} {cs:List CVal}:CVal.isAggN n (.agg cs)=(cs.length == n):=rfl
@[simp] theorem isAgg_agg {cs:List CVal}:CVal.isAgg (.agg cs)=true:=rfl
@[simp] theorem cells_agg {cs:List CVal}:CVal.cells (.agg cs)=cs:=rfl
@[simp] theorem cell_agg {cs:List CVal} {i:Nat}:CVal.cell (.agg cs) i=cs[i]?:=rfl
@[simp] theorem isFlat_sl {xs:List CVal}:CVal.isFlat (.sl xs)=true:=rfl
theorem sub_agg {n:Nat} {cs:List CVal} (h:cs.length=n):CVal.sub (.agg cs) 0 n=some (.agg cs):=by
 simp [CVal.sub,CVal.isAggN,h,br]
end Go.Proofs.Ytognghbhdalckaa.Abs
namespace Go.Proofs.Ytognghbhdalckaa.Abs
open Go
def Ap {R:Type} (X:Nat→Option R) (Y:Option R):Prop:=∀ r,Y=some r→Evt fun n=>X n=some r
section
variable {R α β:Type}
theorem Ap.const (Y:Option R):Ap (fun _=>Y) Y:=fun r h=>.of fun _=>h
theorem Ap.none (X:Nat→Option R):Ap X Option.none:=fun r h=>by cases h
theorem Ap.bind {X:Nat→Option α} {Y:Option α} {K:Nat→α→Option R} {K':α→Option R} (h:Ap X Y) (k:∀ a,Ap (fun n=>K n a) (K' a)):Ap (fun n=>(X n).bind (K n)) (Y.bind K'):=by
 intro r hr
 cases Y with
 |none=>cases hr
 |some y=>
  refine ((h y rfl).and (k y r hr)).mono fun n ⟨h1,h2⟩=>?_
  show (X n).bind (K n)=_
  rw [h1]
  exact h2
theorem Ap.bind' {Y:Option α} {K:Nat→α→Option R} {K':α→Option R} (k:∀ a,Ap (fun n=>K n a) (K' a)):Ap (fun n=>Y.bind (K n)) (Y.bind K'):=.bind (.const Y) k
theorem Ap.br {b:Bool} {X X':Nat→Option R} {Y Y':Option R} (h:Ap X Y) (k:Ap X' Y'):Ap (fun n=>Abs.br b (X n) (X' n)) (Abs.br b Y Y'):=by
 cases b
 ·exact k
 ·exact h
theorem Det.ap {F:(R:Type)→(α→Option R)→Option R} (d:Det F) {K:Nat→α→Option R} {K':α→Option R} (k:∀ a,Ap (fun n=>K n a) (K' a)):Ap (fun n=>F R (K n)) (F R K'):=by
 obtain ⟨o,ho⟩:=d
 simp only [ho]
 exact .bind' k
theorem Det2.ap {F:(R:Type)→(α→β→Option R)→Option R} (d:Det2 F) {K:Nat→α→β→Option R} {K':α→β→Option R} (k:∀ a b,Ap (fun n=>K n a b) (K' a b)):Ap (fun n=>F R (K n)) (F R K'):=by
 obtain ⟨o,ho⟩:=d
 simp only [ho]
 exact .bind' fun p=>k p.1 p.2
end
theorem Det3.ap {R α β γ:Type} {F:(R:Type)→(α→β→γ→Option R)→Option R} (d:Det3 F) {K:Nat→α→β→γ→Option R} {K':α→β→γ→Option R} (k:∀ a b c,Ap (fun n=>K n a b c) (K' a b c)):Ap (fun n=>F R (K n)) (F R K'):=by
 obtain ⟨o,ho⟩:=d
 simp only [ho]
 exact .bind' fun p=>k p.1 p.2.1 p.2.2
section
variable {R:Type} {E:Env} {N:Ann} {C:Nat→CallT} {C':CallT} {L:Nat→LoopT} {L':LoopT} {f:FuncId}
variable (hC:∀ g args pbs,Ap (fun n=>C n g args pbs) (C' g args pbs)) (hL:∀ f bid c np ks p,Ap (fun n=>L n f bid c np ks p) (L' f bid c np ks p))
include hC
theorem callK_ap {g:FuncId} {args:List AVal} {b:List Blk} {K:Nat→AVal→List Blk→Option R} {K':AVal→List Blk→Option R} (k:∀ x b,Ap (fun n=>K n x b) (K' x b)) :
  Ap (fun n=>callK E (C n) g args b (K n)) (callK E C' g args b K'):=by
 unfold callK
 refine .br (.none _) ?_
 refine Det2.ap (F:=fun R K=>promo (R:=R) E g 0 args b K) (promo_det args) fun args1 b1=>?_
 refine Det3.ap (F:=fun R K=>focusArgs (R:=R) E g 0 args1 b1 K) (focusArgs_det args1) fun args2 fs b2=>?_
 refine Det.ap (F:=fun R K=>handAll (R:=R) (E.pm g) 0 args2 ⟨[],[],b2⟩ K) handAll_det fun h=>?_
 refine Det2.ap (F:=fun R K=>handBlks (R:=R) h.ids h.ids h.b K) handBlks_det fun pbs b3=>?_
 refine .br (.bind ?_ fun r=>.br (.none _) ?_) (.none _)
 ·cases E.prim g with
  |none=>exact hC g h.args pbs
  |some p=>exact .const _
 ·refine Det.ap (F:=fun R K=>explodeL (R:=R) r.2 0 h.ids.length K) explodeL_det fun ls=>?_
  refine Det.ap (F:=fun R K=>backBlks (R:=R) h.ids (pbs.map (PB.sh pbs)) ls b3 K) backBlks_det fun b4=>?_
  refine Det.ap (F:=fun R K=>unfocusAll (R:=R) fs b4 K) unfocusAll_det fun b5=>?_
  exact Det2.ap (F:=fun R K=>backRK (R:=R) E g h.ids r.1 b5 K) backRK_det k
theorem opK_ap {o:Oper} {t:List AVal} {b:List Blk} {K:Nat→AVal→List Blk→Option R} {K':AVal→List Blk→Option R} (k:∀ x b,Ap (fun n=>K n x b) (K' x b)) :
  Ap (fun n=>opK E (C n) o t b (K n)) (opK E C' o t b K'):=by
 by_cases hc:∃ c,o.op=.call c
 ·obtain ⟨c,hc⟩:=hc
  by_cases hv:∃ f,c.callee=.value f
  ·obtain ⟨fo,hv⟩:=hv
   have gen:∀ f:Operand,Ap (fun n=>(match evalA t f with
     |.v d=>callV (E.at o) (C n) d (c.args.toList.map (evalA t)) b (K n)
     |.func g caps=>callK (E.at o) (C n) g (c.args.toList.map (evalA t) ++ caps) b (K n)
     |_=>Option.none)) (match evalA t f with
     |.v d=>callV (E.at o) C' d (c.args.toList.map (evalA t)) b K'
     |.func g caps=>callK (E.at o) C' g (c.args.toList.map (evalA t) ++ caps) b K'
     |_=>Option.none):=by
    intro f
    cases evalA t f with
    |v c'=>
     unfold callV
     cases allV (c.args.toList.map (evalA t)) with
     |some cs=>exact .bind (hC _ _ _) fun r=>k _ _
     |none=>
      cases c' with
      |func g caps=>exact callK_ap hC k
      |_=>exact .none _
    |func g caps=>exact callK_ap hC k
    |_=>exact .none _
   unfold opK
   simp only [hc,hv]
   cases fo with
   |func g=>exact callK_ap hC k
   |tmp i=>exact gen (.tmp i)
   |const x=>exact gen (.const x)
   |global x=>exact gen (.global x)
  ·have e:∀ n (K:AVal→List Blk→Option R),opK E (C n) o t b K=opK E C' o t b K:=by
    intro n K
    unfold opK
    simp only [hc]
    split<;>first | rfl | (rename_i h;exact (hv ⟨_,h⟩).elim)
   simp only [e]
   exact Det2.ap (F:=fun R K=>opK (R:=R) E C' o t b K) opK_det k
 ·have e:∀ n (K:AVal→List Blk→Option R),opK E (C n) o t b K=opK E C' o t b K:=by
   intro n K
   unfold opK
   split<;>first | rfl | (rename_i h;exact (hc ⟨_,h⟩).elim)
  simp only [e]
  exact Det2.ap (F:=fun R K=>opK (R:=R) E C' o t b K) opK_det k
theorem stepK_ap {ro:Bool} {ops:Array Oper} {o:Oper} {t:List AVal} {b:List Blk} {K:Nat→Bool→List AVal→List AVal→List Blk→Option R} {K':Bool→List AVal→List AVal→List Blk→Option R}
  (k:∀ r t t' b,Ap (fun n=>K n r t t' b) (K' r t t' b)):Ap (fun n=>stepK E (C n) ro ops o t b (K n)) (stepK E C' ro ops o t b K'):=by
 unfold stepK
 cases o.guard with
 |none=>exact .br (.none _) (opK_ap hC fun x b=>k _ _ _ _)
 |some jw=>
  obtain ⟨j,want⟩:=jw
  simp only
  cases guardSlot ops j with
  |none=>exact .none _
  |some g=>
   simp only
   generalize t.getD g .un=y
   have tupc:∀ cs,Ap (fun n=>match AVal.tup cs with
     |.v c=>c.asBool.bind fun p=>
       br p
        (br want
         (br (ro && !roOp E o (t.set g (.v (.bool true)))) Option.none
          (opK E (C n) o (t.set g (.v (.bool true))) b fun x b=>K n true (t.set g (.v (.bool true))) (putA (t.set g (.v (.bool true))) o.dst x) b))
         (K n false (t.set g (.v (.bool true))) (putA (t.set g (.v (.bool true))) o.dst skipped) b))
        (br want (K n false (t.set g (.v (.bool false))) (putA (t.set g (.v (.bool false))) o.dst skipped) b)
         (br (ro && !roOp E o (t.set g (.v (.bool false)))) Option.none
          (opK E (C n) o (t.set g (.v (.bool false))) b fun x b=>K n true (t.set g (.v (.bool false))) (putA (t.set g (.v (.bool false))) o.dst x) b)))
     |.tup []=>K n false t (putA t o.dst skipped) b
     |_=>Option.none) (match AVal.tup cs with
     |.v c=>c.asBool.bind fun p=>
       br p
        (br want
         (br (ro && !roOp E o (t.set g (.v (.bool true)))) Option.none
          (opK E C' o (t.set g (.v (.bool true))) b fun x b=>K' true (t.set g (.v (.bool true))) (putA (t.set g (.v (.bool true))) o.dst x) b))
         (K' false (t.set g (.v (.bool true))) (putA (t.set g (.v (.bool true))) o.dst skipped) b))
        (br want (K' false (t.set g (.v (.bool false))) (putA (t.set g (.v (.bool false))) o.dst skipped) b)
         (br (ro && !roOp E o (t.set g (.v (.bool false)))) Option.none
          (opK E C' o (t.set g (.v (.bool false))) b fun x b=>K' true (t.set g (.v (.bool false))) (putA (t.set g (.v (.bool false))) o.dst x) b)))
     |.tup []=>K' false t (putA t o.dst skipped) b
     |_=>Option.none):=by
    intro cs
    cases cs with
    |nil=>exact k _ _ _ _
    |cons=>exact .none _
   cases y with
   |v c=>
    exact .bind' fun p=>.br (.br (.br (.none _) (opK_ap hC fun x b=>k _ _ _ _)) (k _ _ _ _)) (.br (k _ _ _ _) (.br (.none _) (opK_ap hC fun x b=>k _ _ _ _)))
   |tup cs=>exact tupc cs
   |_=>exact .none _
theorem evOps_ap {ro:Bool} {ops:Array Oper}:∀ {l:List Oper} {t:List AVal} {b:List Blk} {K:Nat→List AVal→List Blk→Option R} {K':List AVal→List Blk→Option R},
  (∀ t b,Ap (fun n=>K n t b) (K' t b))→Ap (fun n=>evOps E (C n) ro ops l t b (K n)) (evOps E C' ro ops l t b K')
 |[],t,b,K,K',k=>k t b
 |o :: r,t,b,K,K',k=>by
  unfold evOps
  exact stepK_ap hC (K:=fun n _ _ t b=>evOps E (C n) ro ops r t b (K n)) (K':=fun _ _ t b=>evOps E C' ro ops r t b K') fun _ _ t b=>evOps_ap k
theorem evD_ap {ro:Bool} {ops:Array Oper} {m:Nat} {ex:List Nat}:∀ {l:List Nat} {acc:List (Nat × Cl2)} {t:List AVal} {b:List Blk} {K:Nat→List AVal→List Blk→Option R} {K':List AVal→List Blk→Option R},
  (∀ t b,Ap (fun n=>K n t b) (K' t b))→Ap (fun n=>evD E (C n) ro ops m ex l acc t b (K n)) (evD E C' ro ops m ex l acc t b K')
 |[],acc,t,b,K,K',k=>k t b
 |i :: r,acc,t,b,K,K',k=>by
  unfold evD
  cases ops[i]? with
  |none=>exact .none _
  |some o=>
   exact stepK_ap hC (K:=fun n ran t1 t' b'=>Abs.br (acc.all (fits ops i o (cls2 E m ex o t1 b ran)) && decide (m ≤ b'.length)) (evD E (C n) ro ops m ex r ((i,cls2 E m ex o t1 b ran) :: acc) t' b' (K n)) Option.none)
    (K':=fun ran t1 t' b'=>Abs.br (acc.all (fits ops i o (cls2 E m ex o t1 b ran)) && decide (m ≤ b'.length)) (evD E C' ro ops m ex r ((i,cls2 E m ex o t1 b ran) :: acc) t' b' K') Option.none)
    fun ran t1 t' b'=>.br (evD_ap k) (.none _)
theorem evReg_ap {id:Nat} {ops:Array Oper} {draw:Bool} {s:St} {K:Nat→St→Option R} {K':St→Option R} (k:∀ s,Ap (fun n=>K n s) (K' s)) :
  Ap (fun n=>evReg E N (C n) f id ops draw s (K n)) (evReg E N C' f id ops draw s K'):=by
 unfold evReg
 cases N.reg f id with
 |none=>
  cases draw with
  |false=>exact evOps_ap hC (K:=fun n t b=>K n ⟨t,b⟩) (K':=fun t b=>K' ⟨t,b⟩) fun t b=>k _
  |true=>exact .br (evD_ap hC (K:=fun n t b=>K n ⟨t,b⟩) (K':=fun t b=>K' ⟨t,b⟩) fun t b=>k _) (.none _)
 |some ks=>
  refine .br (.bind ?_ fun x=>k _) (.none _)
  cases draw with
  |false=>exact evOps_ap hC (K:=fun n t b=>packSlots t b ks [] fun x _=>some x) (K':=fun t b=>packSlots t b ks [] fun x _=>some x) fun t b=>.const _
  |true=>exact .br (evD_ap hC (K:=fun n t b=>packSlots t b ks [] fun x _=>some x) (K':=fun t b=>packSlots t b ks [] fun x _=>some x) fun t b=>.const _) (.none _)
theorem packCaps_ap {α:Type}:∀ {l:List (Option Nat)} {cs:List AVal} {m:Bind} {K:Nat→CapsT l→Bind→Option α} {K':CapsT l→Bind→Option α},(∀ p m,Ap (fun n=>K n p m) (K' p m))→
  Ap (fun n=>packCaps l cs m (K n)) (packCaps l cs m K')
 |[],[],m,K,K',k=>k _ _
 |[],_ :: _,m,K,K',k=>.none _
 |some j :: r,[],m,K,K',k=>.none _
 |none :: r,[],m,K,K',k=>.none _
 |some j :: r,x :: cs,m,K,K',k=>by
  cases x with
  |lptr i off=>
   cases off with
   |zero=>
    simp only [packCaps]
    cases m.find j with
    |none=>exact .br (.none _) (packCaps_ap (l:=r) k)
    |some o=>
     cases o with
     |none=>exact .none _
     |some i'=>exact .br (packCaps_ap (l:=r) k) (.none _)
   |succ=>exact .none _
  |_=>exact .none _
 |none :: r,x :: cs,m,K,K',k=>by
  cases x with
  |v c=>exact packCaps_ap (l:=r) (K:=fun n y m=>K n (c,y) m) (K':=fun y m=>K' (c,y) m) fun y m=>k _ _
  |_=>exact .none _
theorem packV_ap {α:Type} {b:List Blk} {kd:Kd} {x:AVal} {m:Bind} {K:Nat→kd.T→Bind→Option α} {K':kd.T→Bind→Option α} (k:∀ p m,Ap (fun n=>K n p m) (K' p m)) :
  Ap (fun n=>packV b kd x m (K n)) (packV b kd x m K'):=by
 unfold packV
 cases kd with
 |int kk=>exact wInt_det.ap (R:=α) (K:=fun n x=>K n x m) (K':=fun x=>K' x m) fun a=>k _ _
 |bool=>exact wBool_det.ap (R:=α) (K:=fun n x=>K n x m) (K':=fun x=>K' x m) fun a=>k _ _
 |str=>exact wStr_det.ap (R:=α) (K:=fun n x=>K n x m) (K':=fun x=>K' x m) fun a=>k _ _
 |sl=>
  cases x with
  |v c=>exact .bind' fun s=>k _ _
  |nl=>exact k _ _
  |_=>exact .none _
 |cv=>
  cases x with
  |v c=>exact k _ _
  |_=>exact .none _
 |fn g=>
  cases x with
  |v c=>
   cases c with
   |func g' caps=>
    cases caps with
    |nil=>exact .br (k _ _) (.none _)
    |cons=>exact .none _
   |_=>exact .none _
  |_=>exact .none _
 |clo g l=>
  cases x with
  |func g' cs=>exact .br (packCaps_ap hC k) (.none _)
  |_=>exact .none _
 |lp j=>
  cases x with
  |lptr i off=>
   cases off with
   |zero=>
    simp only
    cases m.find j with
    |none=>exact .br (.none _) (k _ _)
    |some o=>
     cases o with
     |none=>exact .none _
     |some i'=>exact .br (k _ _) (.none _)
   |succ=>exact .none _
  |_=>exact .none _
 |lr j=>
  cases x with
  |lref i ver=>
   refine .bind' fun _=>?_
   cases m.find j with
   |none=>exact .br (.none _) (k _ _)
   |some o=>
    cases o with
    |none=>exact .none _
    |some i'=>exact .br (k _ _) (.none _)
  |nl=>
   simp only
   cases m.find j with
   |none=>exact k _ _
   |some o=>exact .none _
  |_=>exact .none _
 |le j o=>
  cases x with
  |lel i ver idx off=>
   refine .br (.bind' fun _=>?_) (.none _)
   cases m.find j with
   |none=>exact .br (.none _) (k _ _)
   |some o=>
    cases o with
    |none=>exact .none _
    |some i'=>exact .br (k _ _) (.none _)
  |_=>exact .none _
 |ls j o=>
  cases x with
  |lsub i ver sv idx off=>
   refine .br (.bind' fun _=>?_) (.none _)
   cases m.find j with
   |none=>exact .br (.none _) (k _ _)
   |some o=>
    cases o with
    |none=>exact .none _
    |some i'=>exact .br (k _ _) (.none _)
  |_=>exact .none _
theorem packSlots_ap {α:Type} {t:List AVal} {b:List Blk}:∀ {l:List (Nat × Kd)} {m:Bind} {K:Nat→SsT l→Bind→Option α} {K':SsT l→Bind→Option α},(∀ p m,Ap (fun n=>K n p m) (K' p m))→
  Ap (fun n=>packSlots t b l m (K n)) (packSlots t b l m K')
 |[],m,K,K',k=>k _ _
 |(i,kd) :: r,m,K,K',k=>packV_ap hC (K:=fun n x m=>packSlots t b r m fun xs m=>K n (x,xs) m) (K':=fun x m=>packSlots t b r m fun xs m=>K' (x,xs) m) fun x m=>
   packSlots_ap (K:=fun n xs m=>K n (x,xs) m) (K':=fun xs m=>K' (x,xs) m) fun xs m=>k _ _
theorem packCells_ap {α:Type} {b:List Blk}:∀ {l:List Kd} {cs:List AVal} {m:Bind} {K:Nat→KsT l→Bind→Option α} {K':KsT l→Bind→Option α},(∀ p m,Ap (fun n=>K n p m) (K' p m))→
  Ap (fun n=>packCells b l cs m (K n)) (packCells b l cs m K')
 |[],[],m,K,K',k=>k _ _
 |[],_ :: _,m,K,K',k=>.none _
 |_ :: _,[],m,K,K',k=>.none _
 |kd :: r,x :: cs,m,K,K',k=>packV_ap hC (K:=fun n x m=>packCells b r cs m fun xs m=>K n (x,xs) m) (K':=fun x m=>packCells b r cs m fun xs m=>K' (x,xs) m) fun x m=>
   packCells_ap (K:=fun n xs m=>K n (x,xs) m) (K':=fun xs m=>K' (x,xs) m) fun xs m=>k _ _
theorem packBlks_ap {α:Type} {b:List Blk}:∀ {l:List BK} {j:Nat} {m:Bind} {K:Nat→BsT l→Bind→Option α} {K':BsT l→Bind→Option α},(∀ p m,Ap (fun n=>K n p m) (K' p m))→
  Ap (fun n=>packBlks b l j m (K n)) (packBlks b l j m K')
 |[],j,m,K,K',k=>k _ _
 |.gone :: r,j,m,K,K',k=>by
  unfold packBlks
  cases m.find j with
  |none=>exact packBlks_ap (K:=fun n ys m=>K n ((),ys) m) (K':=fun ys m=>K' ((),ys) m) fun ys m=>k _ _
  |some o=>
   cases o with
   |none=>exact .none _
   |some i=>exact packBlks_ap (K:=fun n ys m=>K n ((),ys) m) (K':=fun ys m=>K' ((),ys) m) fun ys m=>k _ _
 |.arr d f sz :: r,j,m,K,K',k=>by
  unfold packBlks
  cases m.find j with
  |none=>exact .none _
  |some o=>
   cases o with
   |none=>exact .br (.none _) <| packBlks_ap (K:=fun n ys m=>K n ([],ys) m) (K':=fun ys m=>K' ([],ys) m) fun ys m=>k _ _
   |some i=>exact .bind' fun xs=>.br (packBlks_ap (K:=fun n ys m=>K n (xs,ys) m) (K':=fun ys m=>K' (xs,ys) m) fun ys m=>k _ _) (.none _)
 |.box ks :: r,j,m,K,K',k=>by
  unfold packBlks
  cases m.find j with
  |none=>exact .none _
  |some o=>
   cases o with
   |none=>exact .none _
   |some i=>exact .bind' fun cs=>packCells_ap hC (K:=fun n x m=>packBlks b r (j + 1) m fun ys m=>K n (x,ys) m) (K':=fun x m=>packBlks b r (j + 1) m fun ys m=>K' (x,ys) m) fun x m=>
     packBlks_ap (K:=fun n ys m=>K n (x,ys) m) (K':=fun ys m=>K' (x,ys) m) fun ys m=>k _ _
theorem packK_ap {α:Type} {np:Nat} {ks:LK} {s:St} {K:Nat→ks.T→Option α} {K':ks.T→Option α} (k:∀ p,Ap (fun n=>K n p) (K' p)) :
  Ap (fun n=>packK np ks s (K n)) (packK np ks s K'):=by
 unfold packK
 refine .br ?_ (.none _)
 exact packSlots_ap hC (K:=fun n x m=>packBlks s.b ks.blks 0 m fun y m=>Abs.br (m.all fun p=>decide (p.1 < ks.blks.length)) (K n (x,y)) Option.none)
  (K':=fun x m=>packBlks s.b ks.blks 0 m fun y m=>Abs.br (m.all fun p=>decide (p.1 < ks.blks.length)) (K' (x,y)) Option.none) fun x m=>
  packBlks_ap hC (K:=fun n y m=>Abs.br (m.all fun p=>decide (p.1 < ks.blks.length)) (K n (x,y)) Option.none) (K':=fun y m=>Abs.br (m.all fun p=>decide (p.1 < ks.blks.length)) (K' (x,y)) Option.none)
   fun y m=>.br (k _) (.none _)
include hL
theorem ev_ap {nt:Nat} {np:List PSh} {fin:(R:Type)→St→(Ret→Option R)→Option R}:∀ (c:Code) {R:Type} {kr:Ret→Option R} {bid:Nat} {s:St} {k:Nat→X→St→Option R} {k':X→St→Option R},
  (∀ e s,Ap (fun n=>k n e s) (k' e s))→Ap (fun n=>ev E N (C n) (L n) f nt np fin c R kr bid (k n) s) (ev E N C' L' f nt np fin c R kr bid k' s)
 |.skip,_,kr,bid,s,k,k',hk=>hk _ _
 |.region id ops draw,_,kr,bid,s,k,k',hk=>evReg_ap hC (K:=fun n s=>k n .N s) (K':=fun s=>k' .N s) fun s=>hk _ _
 |.seq a b,R,kr,bid,s,k,k',hk=>ev_ap a (k:=fun n e s=>match e with | .N=>ev E N (C n) (L n) f nt np fin b R kr bid (k n) s | .X j=>k n (.X j) s)
   (k':=fun e s=>match e with | .N=>ev E N C' L' f nt np fin b R kr bid k' s | .X j=>k' (.X j) s) fun e s=>by
    cases e with
    |N=>exact ev_ap b hk
    |X j=>exact hk _ _
 |.cond c a b,R,kr,bid,s,k,k',hk=>wBool_det.ap (R:=R) (K:=fun n g=>Abs.br g (ev E N (C n) (L n) f nt np fin a R kr bid (k n) (condSet c true s)) (ev E N (C n) (L n) f nt np fin b R kr bid (k n) (condSet c false s)))
   (K':=fun g=>Abs.br g (ev E N C' L' f nt np fin a R kr bid k' (condSet c true s)) (ev E N C' L' f nt np fin b R kr bid k' (condSet c false s))) fun g=>.br (ev_ap a hk) (ev_ap b hk)
 |.block id c,R,kr,bid,s,k,k',hk=>by
  unfold ev
  cases N.join f id with
  |none=>
   exact ev_ap c (k:=fun n e s=>match e with | .N=>k n .N s | .X j=>Abs.br (j == id) (k n .N s) (k n (.X j) s))
    (k':=fun e s=>match e with | .N=>k' .N s | .X j=>Abs.br (j == id) (k' .N s) (k' (.X j) s)) fun e s=>by
     cases e with
     |N=>exact hk _ _
     |X j=>exact .br (hk _ _) (hk _ _)
  |some ks=>
   refine .bind (ev_ap c (R:=LO ks.T) (k:=fun n e s=>match e with
    |.N=>packK np.length ks s fun p=>some (.out id p)
    |.X j=>packK np.length ks s fun p=>some (.out j p)) (k':=fun e s=>match e with
    |.N=>packK np.length ks s fun p=>some (.out id p)
    |.X j=>packK np.length ks s fun p=>some (.out j p)) fun e s=>.const _) fun o=>?_
   cases o with
   |ret r=>exact .const _
   |out j p=>exact .br (hk _ _) (hk _ _)
 |.loop c,R,kr,bid,s,k,k',hk=>by
  unfold ev
  cases N.loop f bid with
  |none=>exact .none _
  |some ks=>
   refine packK_ap hC (K:=fun n p=>(L n f bid c np ks p).bind fun o=>loK o kr fun j p=>k n (.X j) (unpack nt ks p)) (K':=fun p=>(L' f bid c np ks p).bind fun o=>loK o kr fun j p=>k' (.X j) (unpack nt ks p)) fun p=>?_
   refine .bind (hL _ _ _ _ _ _) fun o=>?_
   cases o with
   |ret r=>exact .const _
   |out j p=>exact hk _ _
 |.exit id,_,kr,bid,s,k,k',hk=>hk _ _
 |.ret,_,kr,bid,s,k,k',hk=>.const _
 |.rangeFunc ..,_,kr,bid,s,k,k',hk=>.none _
 |.scope ..,_,kr,bid,s,k,k',hk=>.none _
 |.label ..,_,kr,bid,s,k,k',hk=>.none _
 |.goto ..,_,kr,bid,s,k,k',hk=>.none _
 |.refuse ..,_,kr,bid,s,k,k',hk=>.none _
theorem evF_ap {args:List AVal} {pbs:List PB}:Ap (fun n=>evF E N (C n) (L n) f args pbs) (evF E N C' L' f args pbs):=by
 unfold evF
 cases E.P.funcs[f]? with
 |none=>exact .none _
 |some fn=>
  simp only
  cases fn.body with
  |none=>exact .none _
  |some c=>
   refine .br (.none _) ?_
   exact ev_ap hC hL c (k:=fun n e s=>match e with | .N=>finK E f fn (pbs.map (PB.sh pbs)) s some | .X _=>Option.none) (k':=fun e s=>match e with | .N=>finK E f fn (pbs.map (PB.sh pbs)) s some | .X _=>Option.none)
    fun e s=>.const _
theorem evL_ap {bid:Nat} {c:Code} {np:List PSh} {ks:LK} {p:ks.T}:Ap (fun n=>evL E N (C n) (L n) f bid c np ks p) (evL E N C' L' f bid c np ks p):=by
 unfold evL
 cases E.P.funcs[f]? with
 |none=>exact .none _
 |some fn=>
  refine ev_ap hC hL c (k:=fun n e s=>match e with
    |.N=>packK np.length ks s fun p=>L n f bid c np ks p
    |.X j=>packK np.length ks s fun p=>some (.out j p)) (k':=fun e s=>match e with
    |.N=>packK np.length ks s fun p=>L' f bid c np ks p
    |.X j=>packK np.length ks s fun p=>some (.out j p)) fun e s=>?_
  cases e with
  |N=>exact packK_ap hC (K:=fun n p=>L n f bid c np ks p) (K':=fun p=>L' f bid c np ks p) fun p=>hL _ _ _ _ _ _
  |X j=>exact .const _
end
section
variable (E:Env) (N:Ann)
open Classical in
noncomputable def Cw:CallT:=fun g args pbs=>if h:∃ r,Evt fun n=>(run E N n).1 g args pbs=some r then some h.choose else none
open Classical in
noncomputable def Lw:LoopT:=fun f bid c np ks p=>if h:∃ r,Evt fun n=>(run E N n).2 f bid c np ks p=some r then some h.choose else none
variable {E N}
theorem Evt.uniq {α:Type} {X:Nat→Option α} {r r':α} (h:Evt fun n=>X n=some r) (k:Evt fun n=>X n=some r'):r=r':=by
 obtain ⟨b,h⟩:=h.and k
 obtain ⟨h1,h2⟩:=h b (Nat.le_refl _)
 rw [h1] at h2
 exact Option.some.inj h2
theorem Cw_evt {g:FuncId} {args:List AVal} {pbs:List PB} {r:Ret} (h:Cw E N g args pbs=some r):Evt fun n=>(run E N n).1 g args pbs=some r:=by
 unfold Cw at h
 split at h
 ·rename_i hh
  cases h
  exact hh.choose_spec
 ·cases h
theorem Cw_of {g:FuncId} {args:List AVal} {pbs:List PB} {r:Ret} (h:Evt fun n=>(run E N n).1 g args pbs=some r):Cw E N g args pbs=some r:=by
 have hh:∃ r,Evt fun n=>(run E N n).1 g args pbs=some r:=⟨r,h⟩
 unfold Cw
 rw [dif_pos hh]
 exact congrArg some (hh.choose_spec.uniq h)
theorem Lw_evt {f:FuncId} {bid:Nat} {c:Code} {np:List PSh} {ks:LK} {p:ks.T} {r:LO ks.T} (h:Lw E N f bid c np ks p=some r):Evt fun n=>(run E N n).2 f bid c np ks p=some r:=by
 unfold Lw at h
 split at h
 ·rename_i hh
  cases h
  exact hh.choose_spec
 ·cases h
theorem Lw_of {f:FuncId} {bid:Nat} {c:Code} {np:List PSh} {ks:LK} {p:ks.T} {r:LO ks.T} (h:Evt fun n=>(run E N n).2 f bid c np ks p=some r):Lw E N f bid c np ks p=some r:=by
 have hh:∃ r,Evt fun n=>(run E N n).2 f bid c np ks p=some r:=⟨r,h⟩
 unfold Lw
 rw [dif_pos hh]
 exact congrArg some (hh.choose_spec.uniq h)
theorem Cw_ap (g:FuncId) (args:List AVal) (pbs:List PB):Ap (fun n=>(run E N n).1 g args pbs) (Cw E N g args pbs):=fun r h=>Cw_evt h
theorem Lw_ap (f:FuncId) (bid:Nat) (c:Code) (np:List PSh) (ks:LK) (p:ks.T):Ap (fun n=>(run E N n).2 f bid c np ks p) (Lw E N f bid c np ks p):=fun r h=>Lw_evt h
theorem fnW {g:FuncId} {args:List AVal} {pbs:List PB} {r:Ret} (hg:g ≠ apId) (hx:E.ext g=none) (h:evF E N (Cw E N) (Lw E N) g args pbs=some r):Cw E N g args pbs=some r:=
 Cw_of ((evF_ap Cw_ap Lw_ap r h).next fun n h=>by
  have e:(run E N (n + 1)).1 g args pbs=evF E N (run E N n).1 (run E N n).2 g args pbs:=by
   simp only [run]
   rw [show (g == apId)=false by simpa using hg]
   simp only [cond,hx]
  rw [e]
  exact h)
theorem extW {g:FuncId} {args:List AVal} {pbs:List PB} {r:Ret} {p:List AVal→List PB→Option Ret} (hg:g ≠ apId) (hx:E.ext g=some p) (h:p args pbs=some r):Cw E N g args pbs=some r:=
 Cw_of ⟨1,fun n hn=>by
  obtain ⟨m,rfl⟩:∃ m,n=m + 1:=⟨n - 1,by omega⟩
  have e:(run E N (m + 1)).1 g args pbs=p args pbs:=by
   simp only [run]
   rw [show (g == apId)=false by simpa using hg]
   simp only [cond,hx]
  rw [e]
  exact h⟩
theorem apW {g:FuncId} {caps cs:List CVal} {r:Ret} (hg:g ≠ apId) (hrm:E.rm g=none) (how:E.ow g=none) (hp:E.prim g=none) (h:Cw E N g ((cs ++ caps).map .v) []=some r):Cw E N apId (.v (.func g caps) :: cs.map .v) []=some r:=
 Cw_of ((Cw_evt h).next fun n h=>by
  have e:(run E N (n + 1)).1 apId (.v (.func g caps) :: cs.map .v) []=applyV E (run E N n).1 (.v (.func g caps) :: cs.map .v) []:=by
   simp only [run]
   rw [show (apId == apId)=true by simp]
   rfl
  rw [e]
  simp only [applyV,allV_map,Option.bind_some,hp,hrm,how]
  rw [show (g == apId)=false by simpa using hg]
  exact h)
theorem loopW {f:FuncId} {bid:Nat} {c:Code} {np:List PSh} {ks:LK} {p:ks.T} {r:LO ks.T} (h:evL E N (Cw E N) (Lw E N) f bid c np ks p=some r):Lw E N f bid c np ks p=some r:=
 Lw_of ((evL_ap Cw_ap Lw_ap r h).next fun n h=>h)
theorem Cw_run {g:FuncId} {args:List AVal} {pbs:List PB} {r:Ret} (h:Cw E N g args pbs=some r):∃ n,(run E N (n + 1)).1 g args pbs=some r:=by
 obtain ⟨b,hb⟩:=Cw_evt h
 exact ⟨b,hb (b + 1) (by omega)⟩
end
end Go.Proofs.Ytognghbhdalckaa.Abs
namespace Go.Proofs.Ytognghbhdalckaa.Abs
open Go
variable [Glob]
end Go.Proofs.Ytognghbhdalckaa.Abs

/- Texts for the law FnExactSameTy. -/
import Derived.Test.YtlgonbonnjkekaaTop
import Derived.Test.YtlgonbonnjkekaaProg
namespace Go.Proofs.Ytlgonbonnjkekaa.Abs
open Go Go.Proofs
@[reducible] def k14_0 : LK := ⟨[(2, .lp 0), (3, .lp 1), (5, .int .i64)], [.box [.int .i64, .int .i64, .sl], .box [.int .i64, .int .i64, .sl]]⟩
@[reducible] def k27_0 : LK := ⟨[(0, .sl), (1, .int .i64), (5, .int .i64)], []⟩
@[reducible] def k28_0 : LK := ⟨[(0, .sl), (3, .lr 0), (4, .int .i64)], [.arr 3]⟩
@[reducible] def k29_0 : LK := ⟨[(1, .sl), (2, .fn 16), (15, .sl), (16, .int .i64), (17, .int .i64)], []⟩
@[reducible] def k30_0 : LK := ⟨[(0, .sl), (1, .sl), (5, .int .i64)], []⟩
noncomputable def E : Env := { P := Try.prog, pm := fun _ _ => .cls, rm := fun _ => none, prim := fun _ => none }
def N : Ann := { loop := fun f b => match f, b with
  | 14, 0 => some k14_0
  | 27, 0 => some k27_0
  | 28, 0 => some k28_0
  | 29, 0 => some k29_0
  | 30, 0 => some k30_0
  | _, _ => none, join := fun _ _ => none, reg := fun f b => match f, b with
  | 14, 1 => some [(26, .bool)]
  | 16, 1 => some [(4, .bool)]
  | _, _ => none }
end Go.Proofs.Ytlgonbonnjkekaa.Abs

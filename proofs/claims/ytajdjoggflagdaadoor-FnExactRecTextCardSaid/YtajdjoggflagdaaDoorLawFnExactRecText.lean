/- The walk of the law FnExactRecText: the program's text of a record is the reference's. -/
import Derived.Test.YtajdjoggflagdaaDoorRTp
import Derived.Test.YtajdjoggflagdaaDoorPrLawXR
import Derived.Test.YtajdjoggflagdaaDoorOpen
namespace Go.Proofs.YtajdjoggflagdaaDoor.T
open Go.RowKit Go.Proofs.YtajdjoggflagdaaDoorW.PrintWords Go.Proofs.YtajdjoggflagdaaDoor.Pr
theorem PureFnExactRecText (k tx p s o n pv nx : Int) : laws_FnExactRecText.f 8 k tx p s o n pv nx = some true := by
  unfold laws_FnExactRecText.f laws_toRec.f
  simp only [Option.bind_some]
  rw [spec_RecText_k k tx p s o n pv nx 3]
  simp only [Option.bind_some]
  rw [impl_RecText_k k tx p s o n pv nx 0]
  simp only [Option.bind_some, if_true]
theorem FnExactRecText_walk (k tx p s o n pv nx : Int) (w : World) (htab : Lib.TabIs Tryd.prog w "internal/strconv.uint64pow10" .u64 Lib.pow10Tab) (_g : I64 k ∧ I64 tx ∧ I64 p ∧ I64 s ∧ I64 o ∧ I64 n ∧ I64 pv ∧ I64 nx) :
    Calls Tryd.prog 6 #[.agg #[.int .i64 k, .int .i64 tx, .int .i64 p, .int .i64 s, .int .i64 o, .int .i64 n, .int .i64 pv, .int .i64 nx]] w fun e w' => e = .returned (.bool true) ∧ Below w.heap.size w w' :=
  laws_FnExactRecText.calls 8 k tx p s o n pv nx true w htab (PureFnExactRecText k tx p s o n pv nx) ⟨rfl⟩
end Go.Proofs.YtajdjoggflagdaaDoor.T

/-
  What the row asks of its function and of the program around it holds; no condition.
-/
import Derived.Test.YtlpapgmbknkmaaaGreatBridge
import Derived.Test.YtlpapgmbknkmaaaGreatRows
set_option linter.unusedSimpArgs false
set_option linter.unusedVariables false
set_option maxRecDepth 100000
set_option maxHeartbeats 2000000
namespace Go.Proofs.YtlpapgmbknkmaaaGreat
open Go Go.Proofs Go.Eng Go.RowKit Go.ChangeShapes Go.WideShapes
theorem t_closed : joinedFacts Tryz.prog 6 Tryz.f6 Rows.fnExactRouterCallSpec Rows.fnExactRouterCallRow = true := by kernel_rfl
end Go.Proofs.YtlpapgmbknkmaaaGreat

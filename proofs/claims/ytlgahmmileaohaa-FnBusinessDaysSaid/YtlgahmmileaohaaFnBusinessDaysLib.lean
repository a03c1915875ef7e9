/-
  What the helpers of the laws do: sizes, copies, comparisons.
-/
import Derived.Test.YtlgahmmileaohaaFnBusinessDaysFun
set_option maxHeartbeats 4000000
set_option linter.unusedVariables false
set_option linter.unusedSimpArgs false
set_option maxRecDepth 100000
namespace Go.Ln
open Go

end Go.Ln

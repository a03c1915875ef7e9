/-
  What the helpers of the laws do: sizes, copies, comparisons.
-/
import Derived.Test.YtgcnameabpnpaaaDoorFnEventsFun
set_option maxHeartbeats 4000000
set_option linter.unusedVariables false
set_option linter.unusedSimpArgs false
set_option maxRecDepth 100000
namespace Go.Ln
open Go
def sm_Event (x : Event) : Prop:=smI x.Day ∧ smI x.Party ∧ smS x.Action ∧ smI x.Amount
def sm_l1Cur (x : l1Cur) : Prop:=(smL smI) x.f_code ∧ smI x.f_at ∧ smI x.f_seed
end Go.Ln

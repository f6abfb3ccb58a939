/- The two CountSquares functions. -/
import Derived.Test.YtlohmpgbjgidpacWMore
import Derived.Test.YtlohmpgbjgidpacPx15
import Derived.Test.YtlohmpgbjgidpacQBase
import Derived.Test.YtlohmpgbjgidpacQPerm
import Derived.Test.YtlohmpgbjgidpacQMaps
import Derived.Test.YtlohmpgbjgidpacQReach
import Derived.Test.YtlohmpgbjgidpacQTrans
import Derived.Test.YtlohmpgbjgidpacQSurfOk
namespace Go.Proofs.Ytlohmpgbjgidpac.Q
open Go.RowKit Go.Proofs.Ytlohmpgbjgidpac.P Go.Proofs.YtlohmpgbjgidpacW.PrintWords Go.Proofs.YtlohmpgbjgidpacW.PrintLast
set_option linter.unusedVariables false
set_option linter.unusedSimpArgs false

def countB (r u : List Int) : Int := if transB r u = true then (r.length : Int) else 0
theorem impl_CountSquares_ev (r u : List Int) : Ev (fun k => impl_CountSquares.f k r u) (countB r u) := by
  refine Ev.same (fun k => by rw [impl_CountSquares.f]) (Ev.bind (impl_SurfaceOk_ev r u) ?_)
  unfold countB
  cases transB r u with
  | true => exact Ev.now _
  | false => exact Ev.now _

end Go.Proofs.Ytlohmpgbjgidpac.Q

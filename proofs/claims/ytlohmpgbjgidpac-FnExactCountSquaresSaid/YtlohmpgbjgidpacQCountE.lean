/- The reference's CountSquares. -/
import Derived.Test.YtlohmpgbjgidpacWMore
import Derived.Test.YtlohmpgbjgidpacPx9
import Derived.Test.YtlohmpgbjgidpacQBase
import Derived.Test.YtlohmpgbjgidpacQPerm
import Derived.Test.YtlohmpgbjgidpacQMaps
import Derived.Test.YtlohmpgbjgidpacQReach
import Derived.Test.YtlohmpgbjgidpacQTrans
import Derived.Test.YtlohmpgbjgidpacQSurfOk
import Derived.Test.YtlohmpgbjgidpacQCount
namespace Go.Proofs.Ytlohmpgbjgidpac.Q
open Go.RowKit Go.Proofs.Ytlohmpgbjgidpac.P Go.Proofs.YtlohmpgbjgidpacW.PrintWords Go.Proofs.YtlohmpgbjgidpacW.PrintLast
set_option linter.unusedVariables false
set_option linter.unusedSimpArgs false

theorem spec_CountSquares_ev (r u : List Int) (hr : r.length < 9223372036854775807) (hu : u.length < 9223372036854775807) : Ev (fun k => spec_CountSquares.f k r u) (countB r u) := by
  refine Ev.same (fun k => by rw [spec_CountSquares.f]) (Ev.bind (spec_SurfaceOk_ev r u hr hu) ?_)
  unfold countB
  cases transB r u with
  | true => exact Ev.now _
  | false => exact Ev.now _

end Go.Proofs.Ytlohmpgbjgidpac.Q

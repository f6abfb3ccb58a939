/- The law of CountSquares holds for every surface: the program's answer is the reference's, and the argument stays as it is. -/
import Derived.Test.YtlohmpgbjgidpacWMore
import Derived.Test.YtlohmpgbjgidpacPx18
import Derived.Test.YtlohmpgbjgidpacQBase
import Derived.Test.YtlohmpgbjgidpacQLists
import Derived.Test.YtlohmpgbjgidpacQSurf
import Derived.Test.YtlohmpgbjgidpacQSurfOk
import Derived.Test.YtlohmpgbjgidpacQCount
import Derived.Test.YtlohmpgbjgidpacQCountE
namespace Go.Proofs.Ytlohmpgbjgidpac.Pure
open Go.RowKit Go.Proofs.Ytlohmpgbjgidpac.P Go.Proofs.YtlohmpgbjgidpacW.PrintWords Go.Proofs.YtlohmpgbjgidpacW.PrintLast Go.Proofs.Ytlohmpgbjgidpac.Q
set_option linter.unusedVariables false
set_option linter.unusedSimpArgs false

theorem FnExactCountSquares : laws_FnExactCountSquares.Pure := by
  intro r u hr _ hu _
  have hm : maxLen ≤ 9223372036854775807 := by decide
  refine Ev.out ?_
  refine Ev.same (fun k => by rw [laws_FnExactCountSquares.f]) ?_
  by_cases h : (1048576 : Int) < (r.length : Int) + (u.length : Int)
  · refine Ev.plain (szS_big r u _ (by omega) (by omega) (by omega) (by omega) h) ?_
    exact Ev.pos (by omega) (Ev.now _)
  refine Ev.plain (szS_small r u _ (by omega) (by omega)) ?_
  refine Ev.neg (by omega) ?_
  refine Ev.bind (toSurface_ev r u (by omega) (by omega)) ?_
  refine Ev.bind (spec_CountSquares_ev r u (by omega) (by omega)) ?_
  refine Ev.bind (toSurface_ev r u (by omega) (by omega)) ?_
  refine Ev.bind (impl_CountSquares_ev r u) ?_
  refine Ev.pos rfl ?_
  refine Ev.bind (toSurface_ev r u (by omega) (by omega)) ?_
  refine Ev.bind (eqSurface_self r u (by omega) (by omega)) ?_
  exact Ev.pos rfl (Ev.now _)

end Go.Proofs.Ytlohmpgbjgidpac.Pure

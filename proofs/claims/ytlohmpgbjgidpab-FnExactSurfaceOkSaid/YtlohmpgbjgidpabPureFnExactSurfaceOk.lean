/- The law of SurfaceOk holds for every surface: the program's answer is the reference's, and the argument stays as it is. -/
import Derived.Test.YtlohmpgbjgidpabWMore
import Derived.Test.YtlohmpgbjgidpabPx117
import Derived.Test.YtlohmpgbjgidpabQBase
import Derived.Test.YtlohmpgbjgidpabQLists
import Derived.Test.YtlohmpgbjgidpabQSurf
import Derived.Test.YtlohmpgbjgidpabQSurfOk
namespace Go.Proofs.Ytlohmpgbjgidpab.Pure
open Go.RowKit Go.Proofs.Ytlohmpgbjgidpab.P Go.Proofs.YtlohmpgbjgidpabW.PrintWords Go.Proofs.YtlohmpgbjgidpabW.PrintLast Go.Proofs.Ytlohmpgbjgidpab.Q
set_option linter.unusedVariables false
set_option linter.unusedSimpArgs false

theorem FnExactSurfaceOk : laws_FnExactSurfaceOk.Pure := by
  intro r u hr _ hu _
  have hm : maxLen ≤ 9223372036854775807 := by decide
  refine Ev.out ?_
  refine Ev.same (fun k => by rw [laws_FnExactSurfaceOk.f]) ?_
  by_cases h : (1048576 : Int) < (r.length : Int) + (u.length : Int)
  · refine Ev.plain (szS_big r u _ (by omega) (by omega) (by omega) (by omega) h) ?_
    exact Ev.pos (by omega) (Ev.now _)
  refine Ev.plain (szS_small r u _ (by omega) (by omega)) ?_
  refine Ev.neg (by omega) ?_
  refine Ev.bind (toSurface_ev r u (by omega) (by omega)) ?_
  refine Ev.bind (spec_SurfaceOk_ev r u (by omega) (by omega)) ?_
  refine Ev.bind (toSurface_ev r u (by omega) (by omega)) ?_
  refine Ev.bind (impl_SurfaceOk_ev r u) ?_
  refine Ev.neg (by simp) ?_
  refine Ev.bind (toSurface_ev r u (by omega) (by omega)) ?_
  refine Ev.bind (eqSurface_self r u (by omega) (by omega)) ?_
  exact Ev.pos rfl (Ev.now _)

end Go.Proofs.Ytlohmpgbjgidpab.Pure

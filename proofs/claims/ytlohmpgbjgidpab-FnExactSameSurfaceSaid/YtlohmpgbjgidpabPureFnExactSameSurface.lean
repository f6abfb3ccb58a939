/- The law of SameSurface holds for all surfaces: the program's answer is the reference's, and the arguments stay as they are. -/
import Derived.Test.YtlohmpgbjgidpabWMore
import Derived.Test.YtlohmpgbjgidpabPx30
import Derived.Test.YtlohmpgbjgidpabQBase
import Derived.Test.YtlohmpgbjgidpabQLists
import Derived.Test.YtlohmpgbjgidpabQSame
import Derived.Test.YtlohmpgbjgidpabQSurf
import Derived.Test.YtlohmpgbjgidpabQSurfSame
namespace Go.Proofs.Ytlohmpgbjgidpab.Pure
open Go.RowKit Go.Proofs.Ytlohmpgbjgidpab.P Go.Proofs.YtlohmpgbjgidpabW.PrintWords Go.Proofs.YtlohmpgbjgidpabW.PrintLast Go.Proofs.Ytlohmpgbjgidpab.Q
set_option linter.unusedVariables false
set_option linter.unusedSimpArgs false

theorem FnExactSameSurface : laws_FnExactSameSurface.Pure := by
  intro r u r' u' hr _ hu _ hr' _ hu' _
  have hm : maxLen ≤ 9223372036854775807 := by decide
  refine Ev.out ?_
  refine Ev.same (fun k => by rw [laws_FnExactSameSurface.f]) ?_
  by_cases h : (1048576 : Int) < (r.length : Int) + (u.length : Int)
  · refine Ev.plain (szS_big r u _ (by omega) (by omega) (by omega) (by omega) h) ?_
    exact Ev.pos (by omega) (Ev.now _)
  refine Ev.plain (szS_small r u _ (by omega) (by omega)) ?_
  refine Ev.neg (by omega) ?_
  by_cases h' : (1048576 : Int) - (r.length : Int) - (u.length : Int) < (r'.length : Int) + (u'.length : Int)
  · refine Ev.plain (szS_big r' u' _ (by omega) (by omega) (by omega) (by omega) h') ?_
    exact Ev.pos (by omega) (Ev.now _)
  refine Ev.plain (szS_small r' u' _ (by omega) (by omega)) ?_
  refine Ev.neg (by omega) ?_
  refine Ev.bind (toSurface_ev r u (by omega) (by omega)) (Ev.bind (toSurface_ev r' u' (by omega) (by omega)) ?_)
  refine Ev.bind (spec_SameSurface_ev r u r' u' (by omega) (by omega)) ?_
  refine Ev.bind (toSurface_ev r u (by omega) (by omega)) (Ev.bind (toSurface_ev r' u' (by omega) (by omega)) ?_)
  refine Ev.bind (impl_SameSurface_ev r u r' u' (by omega) (by omega)) ?_
  refine Ev.neg (by simp) ?_
  refine Ev.bind (toSurface_ev r u (by omega) (by omega)) (Ev.bind (eqSurface_self r u (by omega) (by omega)) (Ev.pos rfl ?_))
  refine Ev.bind (toSurface_ev r' u' (by omega) (by omega)) (Ev.bind (eqSurface_self r' u' (by omega) (by omega)) (Ev.pos rfl ?_))
  exact Ev.now _

end Go.Proofs.Ytlohmpgbjgidpab.Pure

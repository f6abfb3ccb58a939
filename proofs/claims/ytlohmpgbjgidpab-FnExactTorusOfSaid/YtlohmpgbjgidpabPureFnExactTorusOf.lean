/- The law of TorusOf holds for all numbers: the program's surface is the reference's, in new memory that is shared with no other call's. -/
import Derived.Test.YtlohmpgbjgidpabWMore
import Derived.Test.YtlohmpgbjgidpabPx20
import Derived.Test.YtlohmpgbjgidpabQBase
import Derived.Test.YtlohmpgbjgidpabQLists
import Derived.Test.YtlohmpgbjgidpabQSurf
import Derived.Test.YtlohmpgbjgidpabQSurfMark
import Derived.Test.YtlohmpgbjgidpabQTorus
namespace Go.Proofs.Ytlohmpgbjgidpab.Pure
open Go.RowKit Go.Proofs.Ytlohmpgbjgidpab.P Go.Proofs.YtlohmpgbjgidpabW.PrintWords Go.Proofs.YtlohmpgbjgidpabW.PrintLast Go.Proofs.Ytlohmpgbjgidpab.Q
set_option linter.unusedVariables false
set_option linter.unusedSimpArgs false

theorem FnExactTorusOf : laws_FnExactTorusOf.Pure := by
  intro a b _ _
  have hl := torusB_length a b
  refine Ev.out ?_
  refine Ev.same (fun k => by rw [laws_FnExactTorusOf.f]) ?_
  refine Ev.bind (spec_TorusOf_ev a b) (Ev.bind (impl_TorusOf_ev a b) ?_)
  refine Ev.bind (eqSurface_self _ _ (by omega) (by omega)) (Ev.pos rfl ?_)
  refine Ev.step (fun k => by rw [laws_FnExactTorusOf.j0]) (Ev.neg (by simp) ?_)
  refine Ev.bind (markSurface_ev _ _ hl.1 hl.2) ?_
  refine Ev.bind (heldSurface_ev _ _ hl.1 hl.2) ?_
  refine Ev.neg (by omega) (Ev.pos rfl ?_)
  refine Ev.bind (impl_TorusOf_ev a b) ?_
  refine Ev.bind (eqSurface_self _ _ (by omega) (by omega)) (Ev.pos rfl ?_)
  refine Ev.step (fun k => by rw [laws_FnExactTorusOf.j1]) (Ev.neg (by simp) ?_)
  refine Ev.bind (heldSurface_ev _ _ hl.1 hl.2) ?_
  exact Ev.neg (by omega) (Ev.pos rfl (Ev.now _))

end Go.Proofs.Ytlohmpgbjgidpab.Pure

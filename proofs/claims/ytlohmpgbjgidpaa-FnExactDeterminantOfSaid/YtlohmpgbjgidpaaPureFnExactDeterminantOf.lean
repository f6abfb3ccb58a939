/- The law of DeterminantOf holds for every matrix: the program's answer is the reference's. -/
import Derived.Test.YtlohmpgbjgidpaaWMore
import Derived.Test.YtlohmpgbjgidpaaPx20
import Derived.Test.YtlohmpgbjgidpaaQBase
import Derived.Test.YtlohmpgbjgidpaaQSmall
namespace Go.Proofs.Ytlohmpgbjgidpaa.Pure
open Go.RowKit Go.Proofs.Ytlohmpgbjgidpaa.P Go.Proofs.YtlohmpgbjgidpaaW.PrintWords Go.Proofs.YtlohmpgbjgidpaaW.PrintLast Go.Proofs.Ytlohmpgbjgidpaa.Q
set_option linter.unusedVariables false
set_option linter.unusedSimpArgs false

theorem FnExactDeterminantOf : laws_FnExactDeterminantOf.Pure := by
  intro a b c d _ _ _ _
  refine Ev.out ?_
  refine Ev.same (fun k => by rw [laws_FnExactDeterminantOf.f]) ?_
  refine Ev.plain (a := (a, b, c, d)) rfl ?_
  refine Ev.bind (spec_Det_ev a b c d) ?_
  refine Ev.plain (a := (a, b, c, d)) rfl ?_
  refine Ev.bind (impl_Det_ev a b c d) ?_
  exact Ev.pos rfl (Ev.now _)

end Go.Proofs.Ytlohmpgbjgidpaa.Pure

/- The law of TimesMatrix holds for all matrices: the program's answer is the reference's. -/
import Derived.Test.YtlohmpgbjgidpaaWMore
import Derived.Test.YtlohmpgbjgidpaaPx78
import Derived.Test.YtlohmpgbjgidpaaPx79
import Derived.Test.YtlohmpgbjgidpaaPx80
import Derived.Test.YtlohmpgbjgidpaaQBase
import Derived.Test.YtlohmpgbjgidpaaQSmall
import Derived.Test.YtlohmpgbjgidpaaQTimes
namespace Go.Proofs.Ytlohmpgbjgidpaa.Pure
open Go.RowKit Go.Proofs.Ytlohmpgbjgidpaa.P Go.Proofs.YtlohmpgbjgidpaaW.PrintWords Go.Proofs.YtlohmpgbjgidpaaW.PrintLast Go.Proofs.Ytlohmpgbjgidpaa.Q
set_option linter.unusedVariables false
set_option linter.unusedSimpArgs false

theorem FnExactTimesMatrix : laws_FnExactTimesMatrix.Pure := by
  intro a b c d e f g h _ _ _ _ _ _ _ _
  refine Ev.out ?_
  refine Ev.same (fun k => by rw [laws_FnExactTimesMatrix.f]) ?_
  refine Ev.plain (a := (a, b, c, d)) rfl ?_
  refine Ev.plain (a := (e, f, g, h)) rfl ?_
  refine Ev.bind (spec_Times_ev a b c d e f g h) ?_
  refine Ev.plain (a := (a, b, c, d)) rfl ?_
  refine Ev.plain (a := (e, f, g, h)) rfl ?_
  refine Ev.bind (impl_Times_ev a b c d e f g h) ?_
  refine Ev.plain (a := true) (by simp [laws_eqMatrix.f]) ?_
  exact Ev.pos rfl (Ev.neg (by simp) (Ev.now _))

end Go.Proofs.Ytlohmpgbjgidpaa.Pure

/- The law of InverseWord holds for every string: the program's answer is the reference's. -/
import Derived.Test.YtlohmpgbjgidpaaWMore
import Derived.Test.YtlohmpgbjgidpaaPx73
import Derived.Test.YtlohmpgbjgidpaaQBase
import Derived.Test.YtlohmpgbjgidpaaQText
import Derived.Test.YtlohmpgbjgidpaaQInverse
namespace Go.Proofs.Ytlohmpgbjgidpaa.Pure
open Go.RowKit Go.Proofs.Ytlohmpgbjgidpaa.P Go.Proofs.YtlohmpgbjgidpaaW.PrintWords Go.Proofs.YtlohmpgbjgidpaaW.PrintLast Go.Proofs.Ytlohmpgbjgidpaa.Q
set_option linter.unusedVariables false
set_option linter.unusedSimpArgs false

theorem FnExactInverseWord : laws_FnExactInverseWord.Pure := by
  intro s hs
  refine Ev.out ?_
  refine Ev.same (fun k => by rw [laws_FnExactInverseWord.f]) ?_
  by_cases h : (s.size : Int) > 1048576
  · exact Ev.pos h (Ev.now _)
  refine Ev.neg h ?_
  refine Ev.bind (spec_InverseWord_ev s (by omega)) ?_
  refine Ev.bind (impl_InverseWord_ev s (by omega)) ?_
  exact Ev.pos rfl (Ev.now _)

end Go.Proofs.Ytlohmpgbjgidpaa.Pure

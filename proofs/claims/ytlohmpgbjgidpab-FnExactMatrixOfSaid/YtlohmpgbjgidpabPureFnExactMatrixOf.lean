/- The law of MatrixOf holds for every string: the program's answer is the reference's. -/
import Derived.Test.YtlohmpgbjgidpabWMore
import Derived.Test.YtlohmpgbjgidpabPx50
import Derived.Test.YtlohmpgbjgidpabPx51
import Derived.Test.YtlohmpgbjgidpabQBase
import Derived.Test.YtlohmpgbjgidpabQBytes
import Derived.Test.YtlohmpgbjgidpabQWord
import Derived.Test.YtlohmpgbjgidpabQMatr
namespace Go.Proofs.Ytlohmpgbjgidpab.Pure
open Go.RowKit Go.Proofs.Ytlohmpgbjgidpab.P Go.Proofs.YtlohmpgbjgidpabW.PrintWords Go.Proofs.YtlohmpgbjgidpabW.PrintLast Go.Proofs.Ytlohmpgbjgidpab.Q
set_option linter.unusedVariables false
set_option linter.unusedSimpArgs false

theorem FnExactMatrixOf : laws_FnExactMatrixOf.Pure := by
  intro s hs
  refine Ev.out ?_
  refine Ev.same (fun k => by rw [laws_FnExactMatrixOf.f]) ?_
  by_cases h : (s.size : Int) > 1048576
  · exact Ev.pos h (Ev.now _)
  refine Ev.neg h ?_
  refine Ev.bind (spec_MatrixOf_ev s (by omega)) ?_
  refine Ev.bind (impl_MatrixOf_ev s (by omega)) ?_
  refine Ev.plain (a := true) (by simp [laws_eqMatrix.f]) ?_
  exact Ev.pos rfl (Ev.neg (by simp) (Ev.now _))

end Go.Proofs.Ytlohmpgbjgidpab.Pure

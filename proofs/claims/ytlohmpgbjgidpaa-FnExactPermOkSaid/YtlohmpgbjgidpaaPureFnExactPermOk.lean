/- The law of PermOk holds for every list: the program's answer is the reference's, and the argument stays as it is. -/
import Derived.Test.YtlohmpgbjgidpaaWMore
import Derived.Test.YtlohmpgbjgidpaaPx65
import Derived.Test.YtlohmpgbjgidpaaQBase
import Derived.Test.YtlohmpgbjgidpaaQLists
import Derived.Test.YtlohmpgbjgidpaaQPerm
namespace Go.Proofs.Ytlohmpgbjgidpaa.Pure
open Go.RowKit Go.Proofs.Ytlohmpgbjgidpaa.P Go.Proofs.YtlohmpgbjgidpaaW.PrintWords Go.Proofs.YtlohmpgbjgidpaaW.PrintLast Go.Proofs.Ytlohmpgbjgidpaa.Q
set_option linter.unusedVariables false
set_option linter.unusedSimpArgs false

theorem FnExactPermOk : laws_FnExactPermOk.Pure := by
  intro l _ _ _
  refine Ev.out ?_
  refine Ev.same (fun k => by rw [laws_FnExactPermOk.f]) ?_
  by_cases h : (l.length : Int) > 1048576
  · exact Ev.pos h (Ev.now _)
  refine Ev.neg h ?_
  refine Ev.bind (toIntS_ev l (by omega)) ?_
  refine Ev.bind (spec_PermOk_ev l (by omega)) ?_
  refine Ev.bind (toIntS_ev l (by omega)) ?_
  refine Ev.plain (impl_PermOk_some l) ?_
  refine Ev.neg (by simp) ?_
  refine Ev.bind (toIntS_ev l (by omega)) ?_
  refine Ev.bind (eqIntS_self l (by omega)) ?_
  exact Ev.pos rfl (Ev.now _)

end Go.Proofs.Ytlohmpgbjgidpaa.Pure

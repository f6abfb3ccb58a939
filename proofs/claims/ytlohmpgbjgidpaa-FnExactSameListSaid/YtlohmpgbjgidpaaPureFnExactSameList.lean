/- The law of SameList holds for all lists of whole numbers: the program's answer is the reference's, and the arguments stay as they are. -/
import Derived.Test.YtlohmpgbjgidpaaWMore
import Derived.Test.YtlohmpgbjgidpaaPx64
import Derived.Test.YtlohmpgbjgidpaaQBase
import Derived.Test.YtlohmpgbjgidpaaQLists
import Derived.Test.YtlohmpgbjgidpaaQSame
namespace Go.Proofs.Ytlohmpgbjgidpaa.Pure
open Go.RowKit Go.Proofs.Ytlohmpgbjgidpaa.P Go.Proofs.YtlohmpgbjgidpaaW.PrintWords Go.Proofs.YtlohmpgbjgidpaaW.PrintLast Go.Proofs.Ytlohmpgbjgidpaa.Q
set_option linter.unusedVariables false
set_option linter.unusedSimpArgs false

theorem FnExactSameList : laws_FnExactSameList.Pure := by
  intro l0 l1 m0 n0 _ m1 n1 _
  refine Ev.out ?_
  refine Ev.same (fun k => by rw [laws_FnExactSameList.f]) ?_
  by_cases h0 : (l0.length : Int) > 1048576
  · exact Ev.pos h0 (Ev.now _)
  refine Ev.neg h0 ?_
  by_cases h1 : (l1.length : Int) > 1048576
  · exact Ev.pos h1 (Ev.now _)
  refine Ev.neg h1 ?_
  refine Ev.bind (toIntS_ev l0 (by omega)) ?_
  refine Ev.bind (toIntS_ev l1 (by omega)) ?_
  refine Ev.bind (spec_SameList_ev l0 l1 (by omega)) ?_
  refine Ev.bind (toIntS_ev l0 (by omega)) ?_
  refine Ev.bind (toIntS_ev l1 (by omega)) ?_
  refine Ev.bind (impl_SameList_ev l0 l1 (by omega)) ?_
  refine Ev.neg (by simp) ?_
  refine Ev.bind (toIntS_ev l0 (by omega)) ?_
  refine Ev.bind (eqIntS_self l0 (by omega)) ?_
  refine Ev.pos rfl ?_
  refine Ev.bind (toIntS_ev l1 (by omega)) ?_
  refine Ev.bind (eqIntS_self l1 (by omega)) ?_
  refine Ev.pos rfl ?_
  exact Ev.now _

end Go.Proofs.Ytlohmpgbjgidpaa.Pure

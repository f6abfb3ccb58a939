/- The law of SplitAny holds for all strings: the program's pieces are the reference's, in new memory that is shared with no other call's. -/
import Derived.Test.YtlohmpgbjgidpabWMore
import Derived.Test.YtlohmpgbjgidpabPx10
import Derived.Test.YtlohmpgbjgidpabQBase
import Derived.Test.YtlohmpgbjgidpabQBytes
import Derived.Test.YtlohmpgbjgidpabQSplit
import Derived.Test.YtlohmpgbjgidpabQStrs
namespace Go.Proofs.Ytlohmpgbjgidpab.Pure
open Go.RowKit Go.Proofs.Ytlohmpgbjgidpab.P Go.Proofs.YtlohmpgbjgidpabW.PrintWords Go.Proofs.YtlohmpgbjgidpabW.PrintLast Go.Proofs.Ytlohmpgbjgidpab.Q
set_option linter.unusedVariables false
set_option linter.unusedSimpArgs false

theorem FnExactSplitAny : laws_FnExactSplitAny.Pure := by
  intro s b _ _
  refine Ev.out ?_
  refine Ev.same (fun k => by rw [laws_FnExactSplitAny.f]) ?_
  by_cases h : (s.size : Int) > 1048576
  · exact Ev.pos h (Ev.now _)
  refine Ev.neg h ?_
  by_cases h' : (b.size : Int) > 1048576
  · exact Ev.pos h' (Ev.now _)
  refine Ev.neg h' ?_
  have hl := splitB_length s b
  refine Ev.bind (spec_SplitAny_ev s b (by omega) (by omega)) (Ev.bind (impl_SplitAny_ev s b (by omega) (by omega)) ?_)
  refine Ev.bind (eqStringS_self _ (by omega)) (Ev.pos rfl ?_)
  refine Ev.bind (markStringS_ev _ (by omega)) ?_
  refine Ev.bind (heldStringS_ev _ (by omega)) ?_
  refine Ev.neg (by omega) (Ev.pos rfl ?_)
  refine Ev.bind (impl_SplitAny_ev s b (by omega) (by omega)) ?_
  refine Ev.bind (eqStringS_self _ (by omega)) (Ev.pos rfl ?_)
  refine Ev.bind (heldStringS_ev _ (by omega)) ?_
  exact Ev.neg (by omega) (Ev.pos rfl (Ev.now _))

end Go.Proofs.Ytlohmpgbjgidpab.Pure

/- The law of IsTransitive holds for all lists: the program's answer is the reference's, and the arguments stay as they are. -/
import Derived.Test.YtlohmpgbjgidpabWMore
import Derived.Test.YtlohmpgbjgidpabPx37
import Derived.Test.YtlohmpgbjgidpabQBase
import Derived.Test.YtlohmpgbjgidpabQLists
import Derived.Test.YtlohmpgbjgidpabQPerm
import Derived.Test.YtlohmpgbjgidpabQTrans
namespace Go.Proofs.Ytlohmpgbjgidpab.Pure
open Go.RowKit Go.Proofs.Ytlohmpgbjgidpab.P Go.Proofs.YtlohmpgbjgidpabW.PrintWords Go.Proofs.YtlohmpgbjgidpabW.PrintLast Go.Proofs.Ytlohmpgbjgidpab.Q
set_option linter.unusedVariables false
set_option linter.unusedSimpArgs false

theorem FnExactIsTransitive : laws_FnExactIsTransitive.Pure := by
  intro l m _ _ _ _ _ _
  refine Ev.out ?_
  refine Ev.same (fun k => by rw [laws_FnExactIsTransitive.f]) ?_
  by_cases h : (l.length : Int) > 1048576
  · exact Ev.pos h (Ev.now _)
  refine Ev.neg h ?_
  by_cases h' : (m.length : Int) > 1048576
  · exact Ev.pos h' (Ev.now _)
  refine Ev.neg h' ?_
  refine Ev.bind (toIntS_ev l (by omega)) (Ev.bind (toIntS_ev m (by omega)) ?_)
  refine Ev.bind (spec_IsTransitive_ev l m (by omega) (by omega)) ?_
  refine Ev.bind (toIntS_ev l (by omega)) (Ev.bind (toIntS_ev m (by omega)) ?_)
  refine Ev.bind (impl_IsTransitive_ev l m) ?_
  refine Ev.neg (by simp) ?_
  refine Ev.bind (toIntS_ev l (by omega)) (Ev.bind (eqIntS_self l (by omega)) (Ev.pos rfl ?_))
  refine Ev.bind (toIntS_ev m (by omega)) (Ev.bind (eqIntS_self m (by omega)) (Ev.pos rfl ?_))
  exact Ev.now _

end Go.Proofs.Ytlohmpgbjgidpab.Pure

/- The law of IdentityPerm holds for every number: the program's result is the reference's, in new memory that is shared with no other call's. -/
import Derived.Test.YtlohmpgbjgidpaaWMore
import Derived.Test.YtlohmpgbjgidpaaPx70
import Derived.Test.YtlohmpgbjgidpaaQBase
import Derived.Test.YtlohmpgbjgidpaaQLists
import Derived.Test.YtlohmpgbjgidpaaQPerm
import Derived.Test.YtlohmpgbjgidpaaQIdent
namespace Go.Proofs.Ytlohmpgbjgidpaa.Pure
open Go.RowKit Go.Proofs.Ytlohmpgbjgidpaa.P Go.Proofs.YtlohmpgbjgidpaaW.PrintWords Go.Proofs.YtlohmpgbjgidpaaW.PrintLast Go.Proofs.Ytlohmpgbjgidpaa.Q
set_option linter.unusedVariables false
set_option linter.unusedSimpArgs false

theorem FnExactIdentityPerm : laws_FnExactIdentityPerm.Pure := by
  intro a _
  have hl := identB_length a
  refine Ev.out ?_
  refine Ev.same (fun k => by rw [laws_FnExactIdentityPerm.f]) ?_
  refine Ev.bind (spec_IdentityPerm_ev a) ?_
  refine Ev.bind (impl_IdentityPerm_ev a) ?_
  refine Ev.bind (eqIntS_self _ (by omega)) ?_
  refine Ev.pos rfl ?_
  refine Ev.bind (markIntS_ev _ 1 (by omega) (w64 (by omega) (by omega))) ?_
  refine Ev.bind (heldIntS_ev _ 1 (by omega) (w64 (by omega) (by omega))) ?_
  have hw : wrap64 (1 + ((identB a).length : Int)) = 1 + ((identB a).length : Int) := w64 (by omega) (by omega)
  rw [hw]
  refine Ev.neg (by omega) (Ev.pos rfl ?_)
  refine Ev.bind (impl_IdentityPerm_ev a) ?_
  refine Ev.bind (eqIntS_self _ (by omega)) ?_
  refine Ev.pos rfl ?_
  refine Ev.bind (heldIntS_ev _ 1 (by omega) (w64 (by omega) (by omega))) ?_
  rw [hw]
  exact Ev.neg (by omega) (Ev.pos rfl (Ev.now _))

end Go.Proofs.Ytlohmpgbjgidpaa.Pure

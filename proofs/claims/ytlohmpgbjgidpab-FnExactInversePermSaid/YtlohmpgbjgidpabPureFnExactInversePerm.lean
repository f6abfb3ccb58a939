/- The law of InversePerm holds for every list: the program's result is the reference's, in new memory, and the argument stays as it is. -/
import Derived.Test.YtlohmpgbjgidpabWMore
import Derived.Test.YtlohmpgbjgidpabPx41
import Derived.Test.YtlohmpgbjgidpabQBase
import Derived.Test.YtlohmpgbjgidpabQLists
import Derived.Test.YtlohmpgbjgidpabQPerm
import Derived.Test.YtlohmpgbjgidpabQInvP
namespace Go.Proofs.Ytlohmpgbjgidpab.Pure
open Go.RowKit Go.Proofs.Ytlohmpgbjgidpab.P Go.Proofs.YtlohmpgbjgidpabW.PrintWords Go.Proofs.YtlohmpgbjgidpabW.PrintLast Go.Proofs.Ytlohmpgbjgidpab.Q
set_option linter.unusedVariables false
set_option linter.unusedSimpArgs false

theorem FnExactInversePerm : laws_FnExactInversePerm.Pure := by
  intro l _ _ _
  refine Ev.out ?_
  refine Ev.same (fun k => by rw [laws_FnExactInversePerm.f]) ?_
  by_cases h : (l.length : Int) > 1048576
  · exact Ev.pos h (Ev.now _)
  have hl := invB_length l
  have hw : ∀ n : Nat, n ≤ 1048576 → wrap64 (1 + (n : Int)) = 1 + (n : Int) := fun n hn => w64 (by omega) (by omega)
  refine Ev.neg h ?_
  refine Ev.bind (toIntS_ev l (by omega)) ?_
  refine Ev.bind (spec_InversePerm_ev l (by omega)) ?_
  refine Ev.bind (toIntS_ev l (by omega)) ?_
  refine Ev.bind (impl_InversePerm_ev l) ?_
  refine Ev.bind (eqIntS_self _ (by omega)) ?_
  refine Ev.pos rfl ?_
  refine Ev.bind (toIntS_ev l (by omega)) ?_
  refine Ev.bind (eqIntS_self l (by omega)) ?_
  refine Ev.pos rfl ?_
  refine Ev.bind (markIntS_ev _ 1 (by omega) (w64 (by omega) (by omega))) ?_
  refine Ev.neg (by rw [hw _ (by omega)]; omega) ?_
  refine Ev.bind (eqIntS_self _ (by omega)) ?_
  refine Ev.step (fun k => by rw [laws_FnExactInversePerm.j0]) (Ev.neg (by simp) ?_)
  refine Ev.bind (markIntS_ev _ 1 (by omega) (w64 (by omega) (by omega))) ?_
  refine Ev.bind (heldIntS_ev _ 1 (by omega) (w64 (by omega) (by omega))) ?_
  refine Ev.neg (by rw [hw _ (by omega)]; omega) (Ev.pos rfl ?_)
  refine Ev.bind (toIntS_ev l (by omega)) ?_
  refine Ev.bind (impl_InversePerm_ev l) ?_
  refine Ev.bind (eqIntS_self _ (by omega)) ?_
  refine Ev.pos rfl ?_
  refine Ev.bind (heldIntS_ev _ 1 (by omega) (w64 (by omega) (by omega))) ?_
  exact Ev.neg (by rw [hw _ (by omega)]; omega) (Ev.pos rfl (Ev.now _))

end Go.Proofs.Ytlohmpgbjgidpab.Pure

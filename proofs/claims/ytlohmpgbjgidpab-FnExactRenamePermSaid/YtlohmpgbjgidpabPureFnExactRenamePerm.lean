/- The law of RenamePerm holds for all lists: the program's result is the reference's, in new memory, and the arguments stay as they are. -/
import Derived.Test.YtlohmpgbjgidpabWMore
import Derived.Test.YtlohmpgbjgidpabPx98
import Derived.Test.YtlohmpgbjgidpabQBase
import Derived.Test.YtlohmpgbjgidpabQLists
import Derived.Test.YtlohmpgbjgidpabQPerm
import Derived.Test.YtlohmpgbjgidpabQRenP
namespace Go.Proofs.Ytlohmpgbjgidpab.Pure
open Go.RowKit Go.Proofs.Ytlohmpgbjgidpab.P Go.Proofs.YtlohmpgbjgidpabW.PrintWords Go.Proofs.YtlohmpgbjgidpabW.PrintLast Go.Proofs.Ytlohmpgbjgidpab.Q
set_option linter.unusedVariables false
set_option linter.unusedSimpArgs false

theorem FnExactRenamePerm : laws_FnExactRenamePerm.Pure := by
  intro l m _ _ _ _ _ _
  refine Ev.out ?_
  refine Ev.same (fun k => by rw [laws_FnExactRenamePerm.f]) ?_
  by_cases h : (l.length : Int) > 1048576
  · exact Ev.pos h (Ev.now _)
  refine Ev.neg h ?_
  by_cases h' : (m.length : Int) > 1048576
  · exact Ev.pos h' (Ev.now _)
  refine Ev.neg h' ?_
  have hl := renB_length l m
  have hw : ∀ n : Nat, n ≤ 2097152 → wrap64 (1 + (n : Int)) = 1 + (n : Int) := fun n hn => w64 (by omega) (by omega)
  refine Ev.bind (toIntS_ev l (by omega)) (Ev.bind (toIntS_ev m (by omega)) ?_)
  refine Ev.bind (spec_RenamePerm_ev l m (by omega) (by omega)) ?_
  refine Ev.bind (toIntS_ev l (by omega)) (Ev.bind (toIntS_ev m (by omega)) ?_)
  refine Ev.bind (impl_RenamePerm_ev l m) ?_
  refine Ev.bind (eqIntS_self _ (by omega)) (Ev.pos rfl ?_)
  refine Ev.bind (toIntS_ev l (by omega)) (Ev.bind (eqIntS_self l (by omega)) (Ev.pos rfl ?_))
  refine Ev.bind (toIntS_ev m (by omega)) (Ev.bind (eqIntS_self m (by omega)) (Ev.pos rfl ?_))
  refine Ev.bind (markIntS_ev _ 1 (by omega) (w64 (by omega) (by omega))) ?_
  refine Ev.bind (markIntS_ev m (wrap64 (1 + (l.length : Int))) (by omega) (by rw [hw _ (by omega)]; exact w64 (by omega) (by omega))) ?_
  refine Ev.neg (by rw [hw _ (by omega), w64 (by omega) (by omega)]; omega) ?_
  refine Ev.bind (eqIntS_self _ (by omega)) ?_
  refine Ev.step (fun k => by rw [laws_FnExactRenamePerm.j0]) (Ev.neg (by simp) ?_)
  refine Ev.bind (markIntS_ev _ 1 (by omega) (w64 (by omega) (by omega))) ?_
  refine Ev.bind (heldIntS_ev _ 1 (by omega) (w64 (by omega) (by omega))) ?_
  refine Ev.neg (by rw [hw _ (by omega)]; omega) (Ev.pos rfl ?_)
  refine Ev.bind (toIntS_ev l (by omega)) (Ev.bind (toIntS_ev m (by omega)) ?_)
  refine Ev.bind (impl_RenamePerm_ev l m) ?_
  refine Ev.bind (eqIntS_self _ (by omega)) (Ev.pos rfl ?_)
  refine Ev.bind (heldIntS_ev _ 1 (by omega) (w64 (by omega) (by omega))) ?_
  exact Ev.neg (by rw [hw _ (by omega)]; omega) (Ev.pos rfl (Ev.now _))

end Go.Proofs.Ytlohmpgbjgidpab.Pure

/- Marks of a surface's two lists. -/
import Derived.Test.YtlohmpgbjgidpabWMore
import Derived.Test.YtlohmpgbjgidpabPx17
import Derived.Test.YtlohmpgbjgidpabPx19
import Derived.Test.YtlohmpgbjgidpabQBase
import Derived.Test.YtlohmpgbjgidpabQLists
namespace Go.Proofs.Ytlohmpgbjgidpab.Q
open Go.RowKit Go.Proofs.Ytlohmpgbjgidpab.P Go.Proofs.YtlohmpgbjgidpabW.PrintWords Go.Proofs.YtlohmpgbjgidpabW.PrintLast
set_option linter.unusedVariables false
set_option linter.unusedSimpArgs false

theorem w1 (n : Nat) (h : n ≤ 1048576) : wrap64 (1 + (n : Int)) = 1 + (n : Int) := w64 (by omega) (by omega)
theorem markSurface_ev (r u : List Int) (hr : r.length ≤ 24) (hu : u.length ≤ 24) : Ev (fun k => laws_markSurface.f k r u 1) (1 + (r.length : Int) + (u.length : Int), marks r.length 1, marks u.length (1 + (r.length : Int))) := by
  refine Ev.same (fun k => by rw [laws_markSurface.f]) ?_
  refine Ev.bind (markIntS_ev r 1 (by omega) (w64 (by omega) (by omega))) ?_
  rw [w1 _ (by omega)]
  refine Ev.bind (markIntS_ev u (1 + (r.length : Int)) (by omega) (w64 (by omega) (by omega))) ?_
  rw [w64 (by omega) (by omega)]
  exact Ev.now _
theorem heldSurface_ev (n m : Nat) (hn : n ≤ 24) (hm : m ≤ 24) : Ev (fun k => laws_heldSurface.f k (marks n 1) (marks m (1 + (n : Int))) 1) (1 + (n : Int) + (m : Int)) := by
  refine Ev.same (fun k => by rw [laws_heldSurface.f]) ?_
  refine Ev.bind (heldIntS_ev n 1 (by omega) (w64 (by omega) (by omega))) ?_
  rw [w1 _ (by omega)]
  refine Ev.neg (by omega) ?_
  refine Ev.bind (heldIntS_ev m (1 + (n : Int)) (by omega) (w64 (by omega) (by omega))) ?_
  rw [w64 (by omega) (by omega)]
  exact Ev.neg (by omega) (Ev.now _)

end Go.Proofs.Ytlohmpgbjgidpab.Q

/- The two SameSurface functions. -/
import Derived.Test.YtlohmpgbjgidpabWMore
import Derived.Test.YtlohmpgbjgidpabPx24
import Derived.Test.YtlohmpgbjgidpabPx29
import Derived.Test.YtlohmpgbjgidpabQBase
import Derived.Test.YtlohmpgbjgidpabQLists
import Derived.Test.YtlohmpgbjgidpabQSame
namespace Go.Proofs.Ytlohmpgbjgidpab.Q
open Go.RowKit Go.Proofs.Ytlohmpgbjgidpab.P Go.Proofs.YtlohmpgbjgidpabW.PrintWords Go.Proofs.YtlohmpgbjgidpabW.PrintLast
set_option linter.unusedVariables false
set_option linter.unusedSimpArgs false

def sameB (r u r' u' : List Int) : Bool := decide (r = r') && decide (u = u')
theorem spec_SameSurface_ev (r u r' u' : List Int) (hr : r.length < 9223372036854775807) (hu : u.length < 9223372036854775807) : Ev (fun k => spec_SameSurface.f k r u r' u') (sameB r u r' u') := by
  refine Ev.same (fun k => by rw [spec_SameSurface.f]) (Ev.bind (spec_SameList_ev r r' hr) ?_)
  unfold sameB
  by_cases e : r = r'
  · rw [decide_eq_true e, Bool.true_and]
    exact Ev.pos rfl (Ev.bind (spec_SameList_ev u u' hu) (Ev.now _))
  · rw [decide_eq_false e, Bool.false_and]
    exact Ev.neg (by simp) (Ev.now _)
theorem impl_SameSurface_ev (r u r' u' : List Int) (hr : r.length < 9223372036854775807) (hu : u.length < 9223372036854775807) : Ev (fun k => impl_SameSurface.f k r u r' u') (sameB r u r' u') := by
  refine Ev.same (fun k => by rw [impl_SameSurface.f]) (Ev.bind (impl_SameList_ev r r' hr) ?_)
  unfold sameB
  by_cases e : r = r'
  · rw [decide_eq_true e, Bool.true_and]
    exact Ev.pos rfl (Ev.bind (impl_SameList_ev u u' hu) (Ev.now _))
  · rw [decide_eq_false e, Bool.false_and]
    exact Ev.neg (by simp) (Ev.now _)

end Go.Proofs.Ytlohmpgbjgidpab.Q

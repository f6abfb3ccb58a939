/- Products of matrices of small numbers. -/
import Derived.Test.YtlohmpgbjgidpaaWMore
import Derived.Test.YtlohmpgbjgidpaaPx75
import Derived.Test.YtlohmpgbjgidpaaPx77
import Derived.Test.YtlohmpgbjgidpaaQBase
import Derived.Test.YtlohmpgbjgidpaaQSmall
namespace Go.Proofs.Ytlohmpgbjgidpaa.Q
open Go.RowKit Go.Proofs.Ytlohmpgbjgidpaa.P Go.Proofs.YtlohmpgbjgidpaaW.PrintWords Go.Proofs.YtlohmpgbjgidpaaW.PrintLast
set_option linter.unusedVariables false
set_option linter.unusedSimpArgs false

def timesV (a b c d e f g h : Int) : Int × Int × Int × Int × Bool := if smallB [a, b, c, d] = true ∧ smallB [e, f, g, h] = true then (wrap64 (wrap64 (a * e) + wrap64 (b * g)), wrap64 (wrap64 (a * f) + wrap64 (b * h)), wrap64 (wrap64 (c * e) + wrap64 (d * g)), wrap64 (wrap64 (c * f) + wrap64 (d * h)), true) else (0, 0, 0, 0, false)
theorem spec_Times_ev (a b c d e f g h : Int) : Ev (fun k => spec_TimesMatrix.f k a b c d e f g h) (timesV a b c d e f g h) := by
  refine Ev.same (fun k => by rw [spec_TimesMatrix.f]) (Ev.bind (spec_small_ev a b c d) ?_)
  unfold timesV
  cases smallB [a, b, c, d] with
  | false => exact Ev.now _
  | true =>
    refine Ev.pos rfl (Ev.bind (spec_small_ev e f g h) ?_)
    cases smallB [e, f, g, h] with
    | false => exact Ev.now _
    | true => exact Ev.now _
theorem impl_Times_ev (a b c d e f g h : Int) : Ev (fun k => impl_TimesMatrix.f k a b c d e f g h) (timesV a b c d e f g h) := by
  refine Ev.same (fun k => by rw [impl_TimesMatrix.f]) (Ev.bind (impl_small_ev a b c d) ?_)
  unfold timesV
  cases smallB [a, b, c, d] with
  | false => exact Ev.now _
  | true =>
    refine Ev.pos rfl (Ev.bind (impl_small_ev e f g h) ?_)
    cases smallB [e, f, g, h] with
    | false => exact Ev.now _
    | true => exact Ev.now _

end Go.Proofs.Ytlohmpgbjgidpaa.Q

/- The two SurfaceOk functions. -/
import Derived.Test.YtlohmpgbjgidpacWMore
import Derived.Test.YtlohmpgbjgidpacPx14
import Derived.Test.YtlohmpgbjgidpacPx8
import Derived.Test.YtlohmpgbjgidpacQBase
import Derived.Test.YtlohmpgbjgidpacQLists
import Derived.Test.YtlohmpgbjgidpacQPerm
import Derived.Test.YtlohmpgbjgidpacQMaps
import Derived.Test.YtlohmpgbjgidpacQReach
import Derived.Test.YtlohmpgbjgidpacQTrans
namespace Go.Proofs.Ytlohmpgbjgidpac.Q
open Go.RowKit Go.Proofs.Ytlohmpgbjgidpac.P Go.Proofs.YtlohmpgbjgidpacW.PrintWords Go.Proofs.YtlohmpgbjgidpacW.PrintLast
set_option linter.unusedVariables false
set_option linter.unusedSimpArgs false

theorem spec_SurfaceOk_ev (r u : List Int) (hr : r.length < 9223372036854775807) (hu : u.length < 9223372036854775807) : Ev (fun k => spec_SurfaceOk.f k r u) (transB r u) :=
  Ev.same (fun k => by rw [spec_SurfaceOk.f]) (Ev.bind (spec_IsTransitive_ev r u hr hu) (Ev.now _))
theorem impl_SurfaceOk_ev (r u : List Int) : Ev (fun k => impl_SurfaceOk.f k r u) (transB r u) :=
  Ev.same (fun k => by rw [impl_SurfaceOk.f]) (Ev.bind (impl_IsTransitive_ev r u) (Ev.now _))
/-- What is known of a valid surface. -/
structure IsSurf (r u : List Int) : Prop where
  right : IsPerm r
  up : IsPerm u
  same : r.length = u.length
  pos : 0 < r.length
  le : r.length ≤ 24
  all : (reachL r u 0).length = r.length
theorem transB_iff (r u : List Int) : transB r u = true ↔ IsSurf r u := by
  unfold transB
  simp only [Bool.and_eq_true, decide_eq_true_eq, permB_iff]
  exact ⟨fun ⟨⟨a, b⟩, ⟨_, d⟩, e, f, g⟩ => ⟨b, d, e, f, a, g⟩, fun ⟨a, b, c, d, e, f⟩ => ⟨⟨e, a⟩, ⟨by omega, b⟩, c, d, f⟩⟩

end Go.Proofs.Ytlohmpgbjgidpac.Q

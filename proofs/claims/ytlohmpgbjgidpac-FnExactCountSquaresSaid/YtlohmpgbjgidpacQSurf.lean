/- Surfaces: two lists; sizes, copies, comparisons. -/
import Derived.Test.YtlohmpgbjgidpacWMore
import Derived.Test.YtlohmpgbjgidpacPx1
import Derived.Test.YtlohmpgbjgidpacPx11
import Derived.Test.YtlohmpgbjgidpacPx17
import Derived.Test.YtlohmpgbjgidpacPx2
import Derived.Test.YtlohmpgbjgidpacQBase
import Derived.Test.YtlohmpgbjgidpacQLists
import Derived.Test.YtlohmpgbjgidpacQPerm
import Derived.Test.YtlohmpgbjgidpacQTrans
namespace Go.Proofs.Ytlohmpgbjgidpac.Q
open Go.RowKit Go.Proofs.Ytlohmpgbjgidpac.P Go.Proofs.YtlohmpgbjgidpacW.PrintWords Go.Proofs.YtlohmpgbjgidpacW.PrintLast
set_option linter.unusedVariables false
set_option linter.unusedSimpArgs false

theorem sz_some (l : List Int) (a : Int) (h0 : 0 ≤ a) (h1 : a ≤ 1048576) (hn : l.length ≤ 9223372036854775807) : laws_szIntS.f l a = some (if a < (l.length : Int) then -1 else a - (l.length : Int)) := by
  rw [laws_szIntS.f, w64 (by omega) (by omega)]
  by_cases c : a < (l.length : Int)
  · rw [if_pos (by omega), if_pos c]
  · rw [if_neg (by omega), if_neg c]
/-- The two lists are within what is left of the bound. -/
theorem szS_big (r u : List Int) (a : Int) (h0 : 0 ≤ a) (h1 : a ≤ 1048576) (hr : r.length ≤ 9223372036854775807) (hu : u.length ≤ 9223372036854775807) (h : a < (r.length : Int) + (u.length : Int)) : laws_szSurface.f r u a = some (-1) := by
  rw [laws_szSurface.f, sz_some r a h0 h1 hr]
  by_cases c : a < (r.length : Int)
  · rw [if_pos c, Option.bind_some, if_pos (by omega)]
  · rw [if_neg c, Option.bind_some, if_neg (by omega), sz_some u _ (by omega) (by omega) hu, if_pos (by omega), Option.bind_some, if_pos (by omega)]
theorem szS_small (r u : List Int) (a : Int) (h1 : a ≤ 1048576) (h : (r.length : Int) + (u.length : Int) ≤ a) : laws_szSurface.f r u a = some (a - (r.length : Int) - (u.length : Int)) := by
  rw [laws_szSurface.f, sz_some r a (by omega) h1 (by omega), if_neg (by omega), Option.bind_some, if_neg (by omega), sz_some u _ (by omega) (by omega) (by omega), if_neg (by omega), Option.bind_some, if_neg (by omega)]
theorem toSurface_ev (r u : List Int) (hr : r.length ≤ 35184372088832) (hu : u.length ≤ 35184372088832) : Ev (fun k => laws_toSurface.f k r u) (r, u) :=
  Ev.same (fun k => by rw [laws_toSurface.f]) (Ev.bind (toIntS_ev r hr) (Ev.bind (toIntS_ev u hu) (Ev.now (r, u))))
theorem eqSurface_self (r u : List Int) (hr : r.length < 9223372036854775807) (hu : u.length < 9223372036854775807) : Ev (fun k => laws_eqSurface.f k r u r u) true :=
  Ev.same (fun k => by rw [laws_eqSurface.f]) (Ev.bind (eqIntS_self r hr) (Ev.pos rfl (Ev.bind (eqIntS_self u hu) (Ev.pos rfl (Ev.now _)))))

end Go.Proofs.Ytlohmpgbjgidpac.Q

/- The two InversePerm functions. -/
import Derived.Test.YtlohmpgbjgidpabWMore
import Derived.Test.YtlohmpgbjgidpabPx38
import Derived.Test.YtlohmpgbjgidpabPx39
import Derived.Test.YtlohmpgbjgidpabPx40
import Derived.Test.YtlohmpgbjgidpabQBase
import Derived.Test.YtlohmpgbjgidpabQLists
import Derived.Test.YtlohmpgbjgidpabQPerm
import Derived.Test.YtlohmpgbjgidpabQMaps
import Derived.Test.YtlohmpgbjgidpabQFill
namespace Go.Proofs.Ytlohmpgbjgidpab.Q
open Go.RowKit Go.Proofs.Ytlohmpgbjgidpab.P Go.Proofs.YtlohmpgbjgidpabW.PrintWords Go.Proofs.YtlohmpgbjgidpabW.PrintLast
set_option linter.unusedVariables false
set_option linter.unusedSimpArgs false

theorem spec_inv2_loop (p : List Int) (hp : IsPerm p) (hn : p.length ≤ 24) : ∀ (d i : Nat), i + d = p.length →
    Ev (fun k => spec_l02Inverse.l0 k (fillAt p (fun i => (i : Int)) i) p (p.length : Int) i) (invL p) := by
  intro d
  induction d with
  | zero =>
    intro i h
    refine Ev.step (fun k => by rw [spec_l02Inverse.l0]) (Ev.neg (by omega) ?_)
    rw [show i = p.length by omega, fill_inv hp]
    exact Ev.now _
  | succ d ih =>
    intro i h
    have a := hp.get_lo (i := i) (by omega)
    have b := hp.get_hi (i := i) (by omega)
    refine Ev.step (fun k => by rw [spec_l02Inverse.l0]) ?_
    rw [rdg (by omega), w64n (by omega)]
    rw [fillAt_length, fillAt_set hp (fun i => (i : Int)) (by omega)]
    refine Ev.pos (by omega) (Ev.pos (by omega) (Ev.pos (by omega) (Ev.pos (by omega) (Ev.pos (by omega) ?_))))
    exact ih (i + 1) (by omega)
theorem spec_l02Inverse_ev (p : List Int) (hp : IsPerm p) (hn : p.length ≤ 24) : Ev (fun k => spec_l02Inverse.f k p) (invL p) := by
  refine Ev.same (fun k => by rw [spec_l02Inverse.f]) (Ev.pos (by omega) (Ev.pos (by omega) ?_))
  have := spec_inv2_loop p hp hn p.length 0 (by omega)
  rw [fillAt_zero] at this
  simpa using this
/-- What InversePerm returns. -/
def invB (p : List Int) : List Int := if permB p = true then invL p else []
theorem spec_InversePerm_ev (p : List Int) (hl : p.length < 9223372036854775807) : Ev (fun k => spec_InversePerm.f k p) (invB p) := by
  refine Ev.same (fun k => by rw [spec_InversePerm.f]) (Ev.bind (spec_PermOk_ev p hl) ?_)
  unfold invB
  by_cases h : permB p = true
  · have h' := (permB_iff p).1 h
    rw [if_pos h]
    exact Ev.pos h (Ev.bind (spec_l02Inverse_ev p h'.2 h'.1) (Ev.now _))
  · rw [if_neg h]
    exact Ev.neg h (Ev.now _)
theorem impl_inv2_loop (p : List Int) (hp : IsPerm p) (hn : p.length ≤ 24) : ∀ (d i : Nat), i + d = p.length →
    Ev (fun k => impl_InversePerm.l0 k (fillAt p (fun i => (i : Int)) i) p (p.length : Int) i) (invL p) := by
  intro d
  induction d with
  | zero =>
    intro i h
    refine Ev.step (fun k => by rw [impl_InversePerm.l0]) (Ev.neg (by omega) ?_)
    rw [show i = p.length by omega, fill_inv hp]
    exact Ev.now _
  | succ d ih =>
    intro i h
    have a := hp.get_lo (i := i) (by omega)
    have b := hp.get_hi (i := i) (by omega)
    refine Ev.step (fun k => by rw [impl_InversePerm.l0]) ?_
    rw [rdg (by omega), w64n (by omega)]
    rw [fillAt_length, fillAt_set hp (fun i => (i : Int)) (by omega)]
    refine Ev.pos (by omega) (Ev.pos (by omega) (Ev.pos (by omega) (Ev.pos (by omega) (Ev.pos (by omega) ?_))))
    exact ih (i + 1) (by omega)
theorem impl_InversePerm_ev (p : List Int) : Ev (fun k => impl_InversePerm.f k p) (invB p) := by
  refine Ev.same (fun k => by rw [impl_InversePerm.f]) (Ev.plain (impl_PermOk_some p) ?_)
  unfold invB
  by_cases h : permB p = true
  · have h' := (permB_iff p).1 h
    rw [if_pos h]
    refine Ev.pos h (Ev.pos (by omega) (Ev.pos (by omega) ?_))
    have := impl_inv2_loop p h'.2 h'.1 p.length 0 (by omega)
    rw [fillAt_zero] at this
    simpa using this
  · rw [if_neg h]
    exact Ev.neg h (Ev.now _)
theorem invB_length (p : List Int) : (invB p).length ≤ 24 := by
  unfold invB
  split
  · rename_i h
    rw [invL_length]; exact ((permB_iff p).1 h).1
  · simp

end Go.Proofs.Ytlohmpgbjgidpab.Q

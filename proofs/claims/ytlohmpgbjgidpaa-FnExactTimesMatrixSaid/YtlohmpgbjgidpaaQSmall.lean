/- Matrices of small whole numbers. -/
import Derived.Test.YtlohmpgbjgidpaaWMore
import Derived.Test.YtlohmpgbjgidpaaPx15
import Derived.Test.YtlohmpgbjgidpaaPx16
import Derived.Test.YtlohmpgbjgidpaaPx18
import Derived.Test.YtlohmpgbjgidpaaPx19
import Derived.Test.YtlohmpgbjgidpaaPx5
import Derived.Test.YtlohmpgbjgidpaaQBase
namespace Go.Proofs.Ytlohmpgbjgidpaa.Q
open Go.RowKit Go.Proofs.Ytlohmpgbjgidpaa.P Go.Proofs.YtlohmpgbjgidpaaW.PrintWords Go.Proofs.YtlohmpgbjgidpaaW.PrintLast
set_option linter.unusedVariables false
set_option linter.unusedSimpArgs false

def smallB (l : List Int) : Bool := l.all fun x => decide (-1000000000 ≤ x) && decide (x ≤ 1000000000)
theorem spec_small_loop (l : List Int) (hn : l.length < 9223372036854775807) : ∀ (d i : Nat), i + d = l.length → Ev (fun k => spec_l05Small.l0 k l (l.length : Int) i) (smallB (l.drop i)) := by
  intro d
  induction d with
  | zero =>
    intro i h
    refine Ev.step (fun k => by rw [spec_l05Small.l0]) (Ev.neg (by omega) ?_)
    rw [List.drop_of_length_le (by omega)]
    exact Ev.now _
  | succ d ih =>
    intro i h
    refine Ev.step (fun k => by rw [spec_l05Small.l0]) (Ev.pos (by omega) (Ev.pos (by omega) (Ev.pos (by omega) ?_)))
    have hi := ih (i + 1) (by omega)
    rw [rdg (by omega), w64n (by omega), List.drop_eq_getElem_cons (by omega), smallB, List.all_cons, ← smallB]
    generalize l[i] = x
    unfold spec_l01In.f
    by_cases a1 : x ≥ -1000000000
    · simp only [if_pos a1, Option.bind_some]
      rw [decide_eq_true (show -1000000000 ≤ x from a1), Bool.true_and]
      by_cases a2 : x ≤ 1000000000
      · rw [decide_eq_true a2, Bool.true_and]
        exact Ev.pos rfl hi
      · rw [decide_eq_false a2, Bool.false_and]
        exact Ev.neg (by simp) (Ev.now _)
    · simp only [if_neg a1, Option.bind_some]
      rw [decide_eq_false (show ¬ -1000000000 ≤ x from a1), Bool.false_and, Bool.false_and]
      exact Ev.neg (by simp) (Ev.now _)
theorem impl_small_loop (l : List Int) (hn : l.length < 9223372036854775807) : ∀ (d i : Nat), i + d = l.length → Ev (fun k => impl_smallMatrix.l0 k l (l.length : Int) i) (smallB (l.drop i)) := by
  intro d
  induction d with
  | zero =>
    intro i h
    refine Ev.step (fun k => by rw [impl_smallMatrix.l0]) (Ev.neg (by omega) ?_)
    rw [List.drop_of_length_le (by omega)]
    exact Ev.now _
  | succ d ih =>
    intro i h
    refine Ev.step (fun k => by rw [impl_smallMatrix.l0]) (Ev.pos (by omega) (Ev.pos (by omega) (Ev.pos (by omega) ?_)))
    have hi := ih (i + 1) (by omega)
    rw [rdg (by omega), w64n (by omega), List.drop_eq_getElem_cons (by omega), smallB, List.all_cons, ← smallB]
    generalize l[i] = x
    by_cases a1 : x < -1000000000
    · refine Ev.pos a1 ?_
      rw [decide_eq_false (show ¬ -1000000000 ≤ x by omega), Bool.false_and, Bool.false_and]
      exact Ev.now _
    · refine Ev.neg a1 ?_
      rw [decide_eq_true (show -1000000000 ≤ x by omega), Bool.true_and]
      by_cases a2 : x > 1000000000
      · refine Ev.pos a2 ?_
        rw [decide_eq_false (show ¬ x ≤ 1000000000 by omega), Bool.false_and]
        exact Ev.now _
      · refine Ev.neg a2 ?_
        rw [decide_eq_true (show x ≤ 1000000000 by omega), Bool.true_and]
        exact hi
theorem spec_small_ev (a b c d : Int) : Ev (fun k => spec_l05Small.f k a b c d) (smallB [a, b, c, d]) := by
  refine Ev.same (fun k => by rw [spec_l05Small.f]) (Ev.plain rfl ?_)
  exact spec_small_loop [a, b, c, d] (by simp) 4 0 rfl
theorem impl_small_ev (a b c d : Int) : Ev (fun k => impl_smallMatrix.f k a b c d) (smallB [a, b, c, d]) := by
  refine Ev.same (fun k => by rw [impl_smallMatrix.f]) (Ev.plain rfl ?_)
  exact impl_small_loop [a, b, c, d] (by simp) 4 0 rfl
def detV (a b c d : Int) : Int := if smallB [a, b, c, d] = true then wrap64 (wrap64 (a * d) - wrap64 (b * c)) else 0
theorem spec_Det_ev (a b c d : Int) : Ev (fun k => spec_DeterminantOf.f k a b c d) (detV a b c d) := by
  refine Ev.same (fun k => by rw [spec_DeterminantOf.f]) (Ev.bind (spec_small_ev a b c d) ?_)
  unfold detV
  cases smallB [a, b, c, d] with
  | true => exact Ev.now _
  | false => exact Ev.now _
theorem impl_Det_ev (a b c d : Int) : Ev (fun k => impl_DeterminantOf.f k a b c d) (detV a b c d) := by
  refine Ev.same (fun k => by rw [impl_DeterminantOf.f]) (Ev.bind (impl_small_ev a b c d) ?_)
  unfold detV
  cases smallB [a, b, c, d] with
  | true => exact Ev.now _
  | false => exact Ev.now _

end Go.Proofs.Ytlohmpgbjgidpaa.Q

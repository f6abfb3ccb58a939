/- The two SameList functions tell whether two lists are equal. -/
import Derived.Test.YtlohmpgbjgidpabWMore
import Derived.Test.YtlohmpgbjgidpabPx23
import Derived.Test.YtlohmpgbjgidpabPx27
import Derived.Test.YtlohmpgbjgidpabPx28
import Derived.Test.YtlohmpgbjgidpabQBase
import Derived.Test.YtlohmpgbjgidpabQLists
namespace Go.Proofs.Ytlohmpgbjgidpab.Q
open Go.RowKit Go.Proofs.Ytlohmpgbjgidpab.P Go.Proofs.YtlohmpgbjgidpabW.PrintWords Go.Proofs.YtlohmpgbjgidpabW.PrintLast
set_option linter.unusedVariables false
set_option linter.unusedSimpArgs false

theorem spec_SameList_loop (xs ys : List Int) (hl : xs.length = ys.length) (hn : xs.length < 9223372036854775807) : ∀ (d : Nat) (i : Nat), i + d = xs.length →
    Ev (fun k => spec_SameList.l0 k ys xs (xs.length : Int) i) (decide (xs.drop i = ys.drop i)) := by
  intro d
  induction d with
  | zero =>
    intro i h
    refine Ev.step (fun k => by rw [spec_SameList.l0]) ?_
    repeat (first | refine Ev.pos (by omega) ?_ | refine Ev.neg (by omega) ?_)
    rw [List.drop_of_length_le (by omega), List.drop_of_length_le (by omega)]
    exact Ev.now _
  | succ d ih =>
    intro i h
    refine Ev.step (fun k => by rw [spec_SameList.l0]) ?_
    repeat (first | refine Ev.pos (by omega) ?_ | refine Ev.neg (by omega) ?_)
    rw [rdg (by omega), rdg (by omega), List.drop_eq_getElem_cons (l := xs) (i := i) (by omega), List.drop_eq_getElem_cons (l := ys) (i := i) (by omega)]
    by_cases e : xs[i] = ys[i]
    · refine Ev.pos e ?_
      rw [w64n (by omega), decide_eq_decide.2 (show _ ↔ xs.drop (i + 1) = ys.drop (i + 1) from ⟨fun h => (List.cons.inj h).2, fun h => by rw [e, h]⟩)]
      exact ih (i + 1) (by omega)
    · refine Ev.neg e ?_
      rw [decide_eq_false fun h => e (List.cons.inj h).1]
      exact Ev.now _
theorem spec_SameList_ev (xs ys : List Int) (hn : xs.length < 9223372036854775807) : Ev (fun k => spec_SameList.f k xs ys) (decide (xs = ys)) := by
  refine Ev.same (fun k => by rw [spec_SameList.f]) ?_
  by_cases h : xs.length = ys.length
  · refine Ev.pos (by omega) ?_
    simpa using spec_SameList_loop xs ys h hn xs.length 0 (by omega)
  · refine Ev.neg (by omega) ?_
    rw [decide_eq_false fun e => h (by rw [e])]
    exact Ev.now _
theorem slices_Equal_loop (xs ys : List Int) (hl : xs.length = ys.length) (hn : xs.length < 9223372036854775807) : ∀ (d : Nat) (i : Nat), i + d = xs.length →
    Ev (fun k => slices_Equal_int_int.l0 k xs ys (xs.length : Int) i) (decide (xs.drop i = ys.drop i)) := by
  intro d
  induction d with
  | zero =>
    intro i h
    refine Ev.step (fun k => by rw [slices_Equal_int_int.l0]) ?_
    repeat (first | refine Ev.pos (by omega) ?_ | refine Ev.neg (by omega) ?_)
    rw [List.drop_of_length_le (by omega), List.drop_of_length_le (by omega)]
    exact Ev.now _
  | succ d ih =>
    intro i h
    refine Ev.step (fun k => by rw [slices_Equal_int_int.l0]) ?_
    repeat (first | refine Ev.pos (by omega) ?_ | refine Ev.neg (by omega) ?_)
    rw [rdg (by omega), rdg (by omega), List.drop_eq_getElem_cons (l := xs) (i := i) (by omega), List.drop_eq_getElem_cons (l := ys) (i := i) (by omega)]
    by_cases e : xs[i] = ys[i]
    · refine Ev.pos e ?_
      rw [w64n (by omega), decide_eq_decide.2 (show _ ↔ xs.drop (i + 1) = ys.drop (i + 1) from ⟨fun h => (List.cons.inj h).2, fun h => by rw [e, h]⟩)]
      exact ih (i + 1) (by omega)
    · refine Ev.neg e ?_
      rw [decide_eq_false fun h => e (List.cons.inj h).1]
      exact Ev.now _
theorem slices_Equal_ev (xs ys : List Int) (hn : xs.length < 9223372036854775807) : Ev (fun k => slices_Equal_int_int.f k xs ys) (decide (xs = ys)) := by
  refine Ev.same (fun k => by rw [slices_Equal_int_int.f]) ?_
  by_cases h : xs.length = ys.length
  · refine Ev.pos (by omega) ?_
    simpa using slices_Equal_loop xs ys h hn xs.length 0 (by omega)
  · refine Ev.neg (by omega) ?_
    rw [decide_eq_false fun e => h (by rw [e])]
    exact Ev.now _
theorem impl_SameList_ev (xs ys : List Int) (hn : xs.length < 9223372036854775807) : Ev (fun k => impl_SameList.f k xs ys) (decide (xs = ys)) := by
  refine Ev.same (fun k => by rw [impl_SameList.f]) ?_
  exact Ev.bind (slices_Equal_ev xs ys hn) (Ev.now _)

end Go.Proofs.Ytlohmpgbjgidpab.Q

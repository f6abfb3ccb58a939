/- The two WordOk functions. -/
import Derived.Test.YtlohmpgbjgidpabWMore
import Derived.Test.YtlohmpgbjgidpabPx42
import Derived.Test.YtlohmpgbjgidpabPx46
import Derived.Test.YtlohmpgbjgidpabQBase
import Derived.Test.YtlohmpgbjgidpabQBytes
namespace Go.Proofs.Ytlohmpgbjgidpab.Q
open Go.RowKit Go.Proofs.Ytlohmpgbjgidpab.P Go.Proofs.YtlohmpgbjgidpabW.PrintWords Go.Proofs.YtlohmpgbjgidpabW.PrintLast
set_option linter.unusedVariables false
set_option linter.unusedSimpArgs false

def letterP (_ : Nat) (c : Int) : Bool := decide (c = 84) || (decide (c = 116) || (decide (c = 83) || decide (c = 115)))
def wordOkB (s : ByteArray) : Bool := decide (s.size ≤ 40) && allFrom letterP s 0
theorem spec_WordOk_loop (s : ByteArray) (hn : s.size < 9223372036854775807) : ∀ (d i : Nat), i + d = s.size →
    Ev (fun k => spec_WordOk.l0 k s i) (allFrom letterP s i) := by
  intro d
  induction d with
  | zero =>
    intro i h
    refine Ev.step (fun k => by rw [spec_WordOk.l0]) ?_
    refine Ev.neg (by omega) ?_
    rw [allFrom_end _ _ _ (by omega)]
    exact Ev.now _
  | succ d ih =>
    intro i h
    refine Ev.step (fun k => by rw [spec_WordOk.l0]) ?_
    refine Ev.pos (by omega) (Ev.pos (by omega) ?_)
    rw [allFrom_step _ _ _ (by omega), w64n (by omega)]
    generalize bt s (i : Int) = c
    have hi := ih (i + 1) (by omega)
    by_cases h0 : letterP i c = true
    · rw [h0, Bool.true_and]
      simp only [letterP, Bool.or_eq_true, decide_eq_true_eq] at h0
      by_cases a1 : c = 84
      · exact Ev.pos a1 hi
      refine Ev.neg a1 ?_
      by_cases a2 : c = 116
      · exact Ev.pos a2 hi
      refine Ev.neg a2 ?_
      by_cases a3 : c = 83
      · exact Ev.pos a3 hi
      refine Ev.neg a3 (Ev.pos (by omega) hi)
    · rw [show letterP i c = false by simpa using h0, Bool.false_and]
      simp only [letterP, Bool.or_eq_true, decide_eq_true_eq] at h0
      refine Ev.neg (by omega) (Ev.neg (by omega) (Ev.neg (by omega) (Ev.neg (by omega) (Ev.now _))))
theorem spec_WordOk_ev (s : ByteArray) (hn : s.size < 9223372036854775807) : Ev (fun k => spec_WordOk.f k s) (wordOkB s) := by
  refine Ev.same (fun k => by rw [spec_WordOk.f]) ?_
  by_cases h : (s.size : Int) > 40
  · refine Ev.pos h ?_
    rw [wordOkB, decide_eq_false (show ¬ s.size ≤ 40 by omega), Bool.false_and]
    exact Ev.now _
  · refine Ev.neg h ?_
    rw [wordOkB, decide_eq_true (show s.size ≤ 40 by omega), Bool.true_and]
    exact spec_WordOk_loop s hn s.size 0 (by omega)
theorem index_letter : ∀ n : Nat, n < 256 → decide (Lib.indexByte [84, 116, 83, 115] n.toUInt8 < 0) = !letterP 0 (n : Int) := by decide +kernel
theorem impl_WordOk_loop (s : ByteArray) (hn : s.size < 9223372036854775807) : ∀ (d i : Nat), i + d = s.size →
    Ev (fun k => impl_WordOk.l0 k s i) (allFrom letterP s i && decide (s.size ≤ 40)) := by
  intro d
  induction d with
  | zero =>
    intro i h
    refine Ev.step (fun k => by rw [impl_WordOk.l0]) ?_
    refine Ev.neg (by omega) ?_
    rw [allFrom_end _ _ _ (by omega), Bool.true_and, show decide ((s.size : Int) ≤ 40) = decide (s.size ≤ 40) from decide_eq_decide.2 (by omega)]
    exact Ev.now _
  | succ d ih =>
    intro i h
    refine Ev.step (fun k => by rw [impl_WordOk.l0]) ?_
    refine Ev.pos (by omega) (Ev.pos (by omega) ?_)
    rw [allFrom_step _ _ _ (by omega), w64n (by omega)]
    have hb := bt_range s (i : Int)
    generalize bt s (i : Int) = c at *
    have hi := ih (i + 1) (by omega)
    refine Ev.plain (a := Lib.indexByte [84, 116, 83, 115] c.toNat.toUInt8) rfl ?_
    have hd := index_letter c.toNat (by omega)
    rw [show ((c.toNat : Nat) : Int) = c by omega] at hd
    by_cases h0 : letterP i c = true
    · rw [h0, Bool.true_and]
      rw [show letterP 0 c = true from h0, Bool.not_true] at hd
      exact Ev.neg (of_decide_eq_false hd) hi
    · have h1 : letterP i c = false := by simpa using h0
      rw [h1, Bool.false_and, Bool.false_and]
      rw [show letterP 0 c = false from h1, Bool.not_false] at hd
      exact Ev.pos (of_decide_eq_true hd) (Ev.now _)
theorem impl_WordOk_ev (s : ByteArray) (hn : s.size < 9223372036854775807) : Ev (fun k => impl_WordOk.f k s) (wordOkB s) := by
  rw [wordOkB, Bool.and_comm]
  exact Ev.same (fun k => by rw [impl_WordOk.f]; rfl) (impl_WordOk_loop s hn s.size 0 (by omega))

end Go.Proofs.Ytlohmpgbjgidpab.Q

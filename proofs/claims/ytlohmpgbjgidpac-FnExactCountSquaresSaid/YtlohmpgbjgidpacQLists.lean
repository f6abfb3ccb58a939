/- What the printed functions on lists of numbers come to: copies, comparisons, marks. -/
import Derived.Test.YtlohmpgbjgidpacWMore
import Derived.Test.YtlohmpgbjgidpacPx10
import Derived.Test.YtlohmpgbjgidpacPx16
import Derived.Test.YtlohmpgbjgidpacPx22
import Derived.Test.YtlohmpgbjgidpacPx24
import Derived.Test.YtlohmpgbjgidpacQBase
namespace Go.Proofs.Ytlohmpgbjgidpac.Q
open Go.RowKit Go.Proofs.Ytlohmpgbjgidpac.P Go.Proofs.YtlohmpgbjgidpacW.PrintWords Go.Proofs.YtlohmpgbjgidpacW.PrintLast
set_option linter.unusedVariables false
set_option linter.unusedSimpArgs false

theorem toIntS_loop (xs : List Int) (hn : xs.length < 9223372036854775807) : ∀ (d : Nat) (i : Nat) (ys : List Int), i + d = xs.length → ys.length = xs.length →
    Ev (fun k => laws_toIntS.l0 k xs ys i) (ys.take i ++ xs.drop i) := by
  intro d
  induction d with
  | zero =>
    intro i ys h hl
    refine Ev.step (fun k => by rw [laws_toIntS.l0]) ?_
    repeat (first | refine Ev.pos (by omega) ?_ | refine Ev.neg (by omega) ?_)
    rw [List.take_of_length_le (by omega), List.drop_of_length_le (by omega), List.append_nil]
    exact Ev.now _
  | succ d ih =>
    intro i ys h hl
    refine Ev.step (fun k => by rw [laws_toIntS.l0]) ?_
    repeat (first | refine Ev.pos (by omega) ?_ | refine Ev.neg (by omega) ?_)
    rw [w64n (by omega), rdg (by omega), Int.toNat_natCast]
    have := ih (i + 1) (ys.set i xs[i]) (by omega) (by simpa using hl)
    rw [List.take_succ_eq_append_getElem (by simp; omega), List.getElem_set_self, List.take_set_of_le (by omega), List.append_assoc, List.singleton_append, ← List.drop_eq_getElem_cons (by omega)] at this
    exact this
theorem toIntS_ev (xs : List Int) (hn : xs.length ≤ 35184372088832) : Ev (fun k => laws_toIntS.f k xs) xs := by
  refine Ev.same (fun k => by rw [laws_toIntS.f]) ?_
  repeat (first | refine Ev.pos (by omega) ?_ | refine Ev.neg (by omega) ?_)
  have := toIntS_loop xs (by omega) xs.length 0 (List.replicate xs.length 0) (by omega) (by simp)
  simpa using this
theorem eqIntS_loop (xs ys : List Int) (hl : xs.length = ys.length) (hn : xs.length < 9223372036854775807) : ∀ (d : Nat) (i : Nat), i + d = xs.length →
    Ev (fun k => laws_eqIntS.l0 k xs ys i) (decide (xs.drop i = ys.drop i)) := by
  intro d
  induction d with
  | zero =>
    intro i h
    refine Ev.step (fun k => by rw [laws_eqIntS.l0]) ?_
    repeat (first | refine Ev.pos (by omega) ?_ | refine Ev.neg (by omega) ?_)
    rw [List.drop_of_length_le (by omega), List.drop_of_length_le (by omega)]
    exact Ev.now _
  | succ d ih =>
    intro i h
    refine Ev.step (fun k => by rw [laws_eqIntS.l0]) ?_
    repeat (first | refine Ev.pos (by omega) ?_ | refine Ev.neg (by omega) ?_)
    rw [rdg (by omega), rdg (by omega), List.drop_eq_getElem_cons (l := xs) (i := i) (by omega), List.drop_eq_getElem_cons (l := ys) (i := i) (by omega)]
    by_cases e : xs[i] = ys[i]
    · refine Ev.pos e ?_
      rw [w64n (by omega), decide_eq_decide.2 (show _ ↔ xs.drop (i + 1) = ys.drop (i + 1) from ⟨fun h => (List.cons.inj h).2, fun h => by rw [e, h]⟩)]
      exact ih (i + 1) (by omega)
    · refine Ev.neg e ?_
      rw [decide_eq_false fun h => e (List.cons.inj h).1]
      exact Ev.now _
theorem eqIntS_ev (xs ys : List Int) (hn : xs.length < 9223372036854775807) : Ev (fun k => laws_eqIntS.f k xs ys) (decide (xs = ys)) := by
  refine Ev.same (fun k => by rw [laws_eqIntS.f]) ?_
  by_cases h : xs.length = ys.length
  · refine Ev.pos (by omega) ?_
    simpa using eqIntS_loop xs ys h hn xs.length 0 (by omega)
  · refine Ev.neg (by omega) ?_
    have : decide (xs = ys) = false := decide_eq_false fun e => h (by rw [e])
    rw [this]
    exact Ev.now _
theorem eqIntS_self (xs : List Int) (hn : xs.length < 9223372036854775807) : Ev (fun k => laws_eqIntS.f k xs xs) true := by
  simpa using eqIntS_ev xs xs hn
/-- The marks of a list: numbers one behind the other. -/
def marks (n : Nat) (a : Int) : List Int := (List.range n).map fun (j : Nat) => wrap64 (a + (j : Int))
theorem wrap_add (a b : Int) : wrap64 (wrap64 a + b) = wrap64 (a + b) := by unfold wrap64; omega
theorem marks_length (n : Nat) (a : Int) : (marks n a).length = n := by simp [marks]
theorem marks_succ (n : Nat) (a : Int) : marks (n + 1) a = marks n a ++ [wrap64 (a + (n : Int))] := by simp [marks, List.range_succ]
theorem marks_get (n : Nat) (a : Int) (i : Nat) (h : i < n) : (marks n a)[i]'(by simpa [marks] using h) = wrap64 (a + (i : Int)) := by simp [marks]
theorem markIntS_loop (hk : Int) : ∀ (d : Nat) (i : Nat) (ys : List Int), i + d = ys.length → ys.length < 9223372036854775807 → wrap64 hk = hk →
    Ev (fun k => laws_markIntS.l0 k ys (wrap64 (hk + (i : Int))) i) (wrap64 (hk + (ys.length : Int)), ys.take i ++ (marks ys.length hk).drop i) := by
  intro d
  induction d with
  | zero =>
    intro i ys h hn hw
    refine Ev.step (fun k => by rw [laws_markIntS.l0]) ?_
    repeat (first | refine Ev.pos (by omega) ?_ | refine Ev.neg (by omega) ?_)
    rw [List.take_of_length_le (by omega), List.drop_of_length_le (by rw [marks_length]; omega), List.append_nil, show i = ys.length by omega]
    exact Ev.now _
  | succ d ih =>
    intro i ys h hn hw
    refine Ev.step (fun k => by rw [laws_markIntS.l0]) ?_
    repeat (first | refine Ev.pos (by omega) ?_ | refine Ev.neg (by omega) ?_)
    rw [w64n (by omega), Int.toNat_natCast, wrap_add]
    have := ih (i + 1) (ys.set i (wrap64 (hk + (i : Int)))) (by simpa using by omega) (by simpa using hn) hw
    rw [List.length_set, List.take_succ_eq_append_getElem (by simp; omega), List.getElem_set_self, List.take_set_of_le (by omega), List.append_assoc, List.singleton_append,
      ← marks_get ys.length hk i (by omega), ← List.drop_eq_getElem_cons (by rw [marks_length]; omega)] at this
    rw [show hk + (i : Int) + 1 = hk + ((i + 1 : Nat) : Int) by omega]
    rw [← marks_get ys.length hk i (by omega)]
    exact this
theorem markIntS_ev (xs : List Int) (a : Int) (hn : xs.length < 9223372036854775807) (hw : wrap64 a = a) : Ev (fun k => laws_markIntS.f k xs a) (wrap64 (a + (xs.length : Int)), marks xs.length a) := by
  refine Ev.same (fun k => by rw [laws_markIntS.f]) ?_
  have := markIntS_loop a xs.length 0 xs (by omega) hn hw
  simpa [hw] using this
theorem heldIntS_loop (n : Nat) (a : Int) (hn : n < 9223372036854775807) : ∀ (d : Nat) (i : Nat), i + d = n →
    Ev (fun k => laws_heldIntS.l0 k (marks n a) (wrap64 (a + (i : Int))) i) (wrap64 (a + (n : Int))) := by
  intro d
  induction d with
  | zero =>
    intro i h
    refine Ev.step (fun k => by rw [laws_heldIntS.l0]) ?_
    have := marks_length n a
    repeat (first | refine Ev.pos (by omega) ?_ | refine Ev.neg (by omega) ?_)
    rw [show i = n by omega]
    exact Ev.now _
  | succ d ih =>
    intro i h
    refine Ev.step (fun k => by rw [laws_heldIntS.l0]) ?_
    have := marks_length n a
    repeat (first | refine Ev.pos (by omega) ?_ | refine Ev.neg (by omega) ?_)
    rw [rdg (by omega), marks_get n a i (by omega)]
    refine Ev.pos rfl ?_
    rw [w64n (by omega), wrap_add, show a + (i : Int) + 1 = a + ((i + 1 : Nat) : Int) by omega]
    exact ih (i + 1) (by omega)
theorem heldIntS_ev (n : Nat) (a : Int) (hn : n < 9223372036854775807) (hw : wrap64 a = a) : Ev (fun k => laws_heldIntS.f k (marks n a) a) (wrap64 (a + (n : Int))) := by
  refine Ev.same (fun k => by rw [laws_heldIntS.f]) ?_
  have := heldIntS_loop n a hn n 0 (by omega)
  simpa [hw] using this

end Go.Proofs.Ytlohmpgbjgidpac.Q

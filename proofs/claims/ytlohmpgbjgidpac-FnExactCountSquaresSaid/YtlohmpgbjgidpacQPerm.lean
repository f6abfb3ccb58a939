/- Permutations: the two PermOk functions tell whether a list of at most 24 numbers is a permutation. -/
import Derived.Test.YtlohmpgbjgidpacWMore
import Derived.Test.YtlohmpgbjgidpacPx12
import Derived.Test.YtlohmpgbjgidpacPx3
import Derived.Test.YtlohmpgbjgidpacPx4
import Derived.Test.YtlohmpgbjgidpacPx5
import Derived.Test.YtlohmpgbjgidpacQBase
namespace Go.Proofs.Ytlohmpgbjgidpac.Q
open Go.RowKit Go.Proofs.Ytlohmpgbjgidpac.P Go.Proofs.YtlohmpgbjgidpacW.PrintWords Go.Proofs.YtlohmpgbjgidpacW.PrintLast
set_option linter.unusedVariables false
set_option linter.unusedSimpArgs false

def permFrom (n : Nat) : List Int → List Int → Bool
  | [], _ => true
  | x :: r, pre => (decide (0 ≤ x) && decide (x < (n : Int))) && (!(pre.contains x) && permFrom n r (pre ++ [x]))
def permB (l : List Int) : Bool := decide (l.length ≤ 24) && permFrom l.length l []
/-- A permutation of the numbers from 0 up to its length. -/
structure IsPerm (l : List Int) : Prop where
  lo : ∀ x ∈ l, 0 ≤ x
  hi : ∀ x ∈ l, x < (l.length : Int)
  nodup : l.Nodup
theorem permFrom_iff (n : Nat) : ∀ (r pre : List Int), permFrom n r pre = true ↔ (∀ x ∈ r, 0 ≤ x ∧ x < (n : Int)) ∧ (∀ x ∈ r, x ∉ pre) ∧ r.Nodup
  | [], pre => by simp [permFrom]
  | x :: r, pre => by
    rw [permFrom, Bool.and_eq_true, Bool.and_eq_true, Bool.and_eq_true, permFrom_iff n r (pre ++ [x])]
    simp only [decide_eq_true_eq, Bool.not_eq_true', List.mem_cons, forall_eq_or_imp, List.nodup_cons, List.mem_append, List.mem_singleton, not_or, List.contains_eq_mem, decide_eq_false_iff_not]
    constructor
    · rintro ⟨⟨h1, h2⟩, h3, h4, h5, h6⟩
      exact ⟨⟨⟨h1, h2⟩, h4⟩, ⟨h3, fun y hy => (h5 y hy).1⟩, fun hx => (h5 x hx).2.1 rfl, h6⟩
    · rintro ⟨⟨⟨h1, h2⟩, h4⟩, ⟨h3, h5⟩, h6, h7⟩
      exact ⟨⟨h1, h2⟩, h3, h4, fun y hy => ⟨h5 y hy, fun e => h6 (e ▸ hy), fun h => by cases h⟩, h7⟩
theorem permB_iff (l : List Int) : permB l = true ↔ l.length ≤ 24 ∧ IsPerm l := by
  rw [permB, Bool.and_eq_true, decide_eq_true_eq, permFrom_iff]
  exact ⟨fun ⟨a, b, _, d⟩ => ⟨a, fun x hx => (b x hx).1, fun x hx => (b x hx).2, d⟩, fun ⟨a, b⟩ => ⟨a, fun x hx => ⟨b.lo x hx, b.hi x hx⟩, (fun _ _ h => by cases h), b.nodup⟩⟩
theorem spec_has_loop (l : List Int) (x : Int) (hn : l.length < 9223372036854775807) : ∀ (d i : Nat), i + d = l.length → Ev (fun k => spec_l02Has.l0 k x l (l.length : Int) i) ((l.drop i).contains x) := by
  intro d
  induction d with
  | zero =>
    intro i h
    refine Ev.step (fun k => by rw [spec_l02Has.l0]) (Ev.neg (by omega) ?_)
    rw [List.drop_of_length_le (by omega)]
    exact Ev.now _
  | succ d ih =>
    intro i h
    refine Ev.step (fun k => by rw [spec_l02Has.l0]) (Ev.pos (by omega) (Ev.pos (by omega) (Ev.pos (by omega) ?_)))
    have hi := ih (i + 1) (by omega)
    rw [rdg (by omega), w64n (by omega), List.drop_eq_getElem_cons (by omega), List.contains_cons]
    by_cases e : l[i] = x
    · refine Ev.pos e ?_
      rw [show (x == l[i]) = true by simp [e], Bool.true_or]
      exact Ev.now _
    · refine Ev.neg e ?_
      rw [show (x == l[i]) = false by simpa using fun h => e h.symm, Bool.false_or]
      exact hi
theorem spec_has_ev (l : List Int) (x : Int) (hn : l.length < 9223372036854775807) : Ev (fun k => spec_l02Has.f k l x) (l.contains x) :=
  Ev.same (fun k => by rw [spec_l02Has.f]; rfl) (spec_has_loop l x hn l.length 0 (by omega))
theorem in_some (a lo hi : Int) : spec_l01In.f a lo hi = some (decide (lo ≤ a) && decide (a ≤ hi)) := by
  unfold spec_l01In.f
  by_cases h : a ≥ lo
  · rw [if_pos h, decide_eq_true (show lo ≤ a from h), Bool.true_and]
  · rw [if_neg h, decide_eq_false (show ¬ lo ≤ a from h), Bool.false_and]
theorem spec_perm_loop (l : List Int) (hn : l.length < 9223372036854775807) : ∀ (d i : Nat), i + d = l.length → Ev (fun k => spec_PermOk.l0 k l l (l.length : Int) i) (permFrom l.length (l.drop i) (l.take i)) := by
  intro d
  induction d with
  | zero =>
    intro i h
    refine Ev.step (fun k => by rw [spec_PermOk.l0]) (Ev.neg (by omega) ?_)
    rw [List.drop_of_length_le (by omega)]
    exact Ev.now _
  | succ d ih =>
    intro i h
    refine Ev.step (fun k => by rw [spec_PermOk.l0]) (Ev.pos (by omega) (Ev.pos (by omega) (Ev.pos (by omega) ?_)))
    have hi := ih (i + 1) (by omega)
    rw [rdg (by omega), w64n (by omega), List.drop_eq_getElem_cons (by omega), permFrom, ← List.take_succ_eq_append_getElem (by omega), w64 (by omega) (by omega)]
    refine Ev.plain (in_some _ _ _) ?_
    have e : (decide (0 ≤ l[i]) && decide (l[i] ≤ (l.length : Int) - 1)) = (decide (0 ≤ l[i]) && decide (l[i] < (l.length : Int))) := by
      rw [show decide (l[i] ≤ (l.length : Int) - 1) = decide (l[i] < (l.length : Int)) from decide_eq_decide.2 (by omega)]
    rw [e]
    by_cases c : (decide (0 ≤ l[i]) && decide (l[i] < (l.length : Int))) = true
    · refine Ev.pos c (Ev.pos (by omega) ?_)
      rw [c, Bool.true_and, Int.toNat_natCast]
      refine Ev.bind (spec_has_ev _ _ (by rw [List.length_take]; omega)) ?_
      by_cases b : (l.take i).contains l[i] = true
      · refine Ev.pos b ?_
        rw [b, Bool.not_true, Bool.false_and]
        exact Ev.now _
      · refine Ev.neg b ?_
        rw [show (l.take i).contains l[i] = false by simpa using b, Bool.not_false, Bool.true_and]
        exact hi
    · refine Ev.neg c ?_
      rw [show (decide (0 ≤ l[i]) && decide (l[i] < (l.length : Int))) = false by simpa using c, Bool.false_and]
      exact Ev.now _
theorem spec_PermOk_ev (l : List Int) (hn : l.length < 9223372036854775807) : Ev (fun k => spec_PermOk.f k l) (permB l) := by
  refine Ev.same (fun k => by rw [spec_PermOk.f]) ?_
  by_cases h : (l.length : Int) > 24
  · refine Ev.pos h ?_
    rw [permB, decide_eq_false (show ¬ l.length ≤ 24 by omega), Bool.false_and]
    exact Ev.now _
  · refine Ev.neg h ?_
    rw [permB, decide_eq_true (show l.length ≤ 24 by omega), Bool.true_and]
    exact spec_perm_loop l hn l.length 0 (by omega)
theorem permOkL_from (n : Nat) (hn : n ≤ 24) : ∀ (r pre : List Int) (seen : List Bool), seen.length = 24 → (∀ x : Int, 0 ≤ x → x < 24 → rdOf false seen x = pre.contains x) → permOkL r n seen = permFrom n r pre
  | [], pre, seen, hl, hs => rfl
  | x :: r, pre, seen, hl, hs => by
    rw [permOkL, permFrom]
    by_cases h1 : x < 0
    · rw [if_pos h1, decide_eq_false (show ¬ 0 ≤ x by omega), Bool.false_and, Bool.false_and]
    rw [if_neg h1, decide_eq_true (show 0 ≤ x by omega), Bool.true_and]
    by_cases h2 : (n : Int) ≤ x
    · rw [if_pos h2, decide_eq_false (show ¬ x < (n : Int) by omega), Bool.false_and]
    rw [if_neg h2, decide_eq_true (show x < (n : Int) by omega), Bool.true_and, hs x (by omega) (by omega)]
    by_cases h3 : pre.contains x = true
    · rw [if_pos h3, h3, Bool.not_true, Bool.false_and]
    rw [if_neg h3, show pre.contains x = false by simpa using h3, Bool.not_false, Bool.true_and]
    refine permOkL_from n hn r _ _ (by rw [List.length_set, hl]) fun y hy0 hy1 => ?_
    have := hs y hy0 hy1
    simp only [rdOf] at this ⊢
    by_cases e : y = x
    · subst e
      have hlt : y.toNat < seen.length := by omega
      simp [List.getD, hlt]
    · have hne : x.toNat ≠ y.toNat := by omega
      have h4 : (pre ++ [x]).contains y = pre.contains y := by
        simp [e]
      rw [h4, ← this]
      simp [List.getD, List.getElem?_set_ne hne]
theorem rd_false (n : Nat) (x : Int) : rdOf false (List.replicate n false) x = false := by
  simp only [rdOf, List.getD, List.getElem?_replicate]
  split <;> rfl
theorem impl_PermOk_some (l : List Int) : impl_PermOk.f l = some (permB l) := by
  rw [impl_PermOk.f, permB]
  by_cases h : (l.length : Int) > 24
  · rw [if_pos h, decide_eq_false (show ¬ l.length ≤ 24 by omega), Bool.false_and]
  · rw [if_neg h, decide_eq_true (show l.length ≤ 24 by omega), Bool.true_and, permOkL_from l.length (by omega) l [] _ (by simp)]
    intro x h0 h1
    rw [rd_false]
    rfl

end Go.Proofs.Ytlohmpgbjgidpac.Q

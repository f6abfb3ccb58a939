/- The law of RenameSurface holds for every surface and list: the program's surface is the reference's, in new memory, and the arguments stay as they are. -/
import Derived.Test.YtlohmpgbjgidpacWMore
import Derived.Test.YtlohmpgbjgidpacPx1
import Derived.Test.YtlohmpgbjgidpacPx10
import Derived.Test.YtlohmpgbjgidpacPx11
import Derived.Test.YtlohmpgbjgidpacPx12
import Derived.Test.YtlohmpgbjgidpacPx13
import Derived.Test.YtlohmpgbjgidpacPx14
import Derived.Test.YtlohmpgbjgidpacPx16
import Derived.Test.YtlohmpgbjgidpacPx17
import Derived.Test.YtlohmpgbjgidpacPx2
import Derived.Test.YtlohmpgbjgidpacPx22
import Derived.Test.YtlohmpgbjgidpacPx24
import Derived.Test.YtlohmpgbjgidpacPx3
import Derived.Test.YtlohmpgbjgidpacPx37
import Derived.Test.YtlohmpgbjgidpacPx4
import Derived.Test.YtlohmpgbjgidpacPx5
import Derived.Test.YtlohmpgbjgidpacPx6
import Derived.Test.YtlohmpgbjgidpacPx69
import Derived.Test.YtlohmpgbjgidpacPx7
import Derived.Test.YtlohmpgbjgidpacPx71
import Derived.Test.YtlohmpgbjgidpacPx72
import Derived.Test.YtlohmpgbjgidpacPx73
import Derived.Test.YtlohmpgbjgidpacPx74
import Derived.Test.YtlohmpgbjgidpacPx75
import Derived.Test.YtlohmpgbjgidpacPx76
import Derived.Test.YtlohmpgbjgidpacPx8
set_option linter.unusedVariables false
set_option linter.unusedSimpArgs false

namespace Go.Proofs.Ytlohmpgbjgidpac.Q
open Go.RowKit Go.Proofs.Ytlohmpgbjgidpac.P Go.Proofs.YtlohmpgbjgidpacW.PrintWords Go.Proofs.YtlohmpgbjgidpacW.PrintLast
/- Small lemmas on the printed functions' words: numbers of 64 bits, elements of lists, rounds. -/
theorem w64 {x : Int} (h : -9223372036854775808 ≤ x) (h' : x ≤ 9223372036854775807) : wrap64 x = x := by
 unfold wrap64; omega
theorem w64n {i : Nat} (h : i < 9223372036854775807) : wrap64 ((i : Int) + 1) = ((i + 1 : Nat) : Int) := by
 rw [w64 (by omega) (by omega)]; omega
theorem rdg {xs : List Int} {i : Nat} (h : i < xs.length) : rd xs (i : Int) = xs[i] := by simp [rd, h]
/-- From a round on. -/
theorem Ev.from {α : Type} {g : Nat → Option α} {r : α} {K : Nat} (h : ∀ k, K ≤ k → g k = some r) : Ev g r := ⟨K, h⟩
theorem Ev.succ {α : Type} {g f : Nat → Option α} {r : α} (h : ∀ k, g (k + 1) = f k) (hf : Ev f r) : Ev g r := Ev.step h hf
theorem Ev.plain {α β : Type} {x : Option α} {f : Nat → α → Option β} {a : α} {r : β} (h : x = some a) (k : Ev (fun n => f n a) r) : Ev (fun n => x.bind (f n)) r := by
 subst h; exact k
theorem Ev.pos {α : Type} {c : Prop} [Decidable c] {g f : Nat → Option α} {r : α} (h : c) (hg : Ev g r) : Ev (fun k => if c then g k else f k) r := by
 simp only [if_pos h]; exact hg
theorem Ev.neg {α : Type} {c : Prop} [Decidable c] {g f : Nat → Option α} {r : α} (h : ¬ c) (hf : Ev f r) : Ev (fun k => if c then g k else f k) r := by
 simp only [if_neg h]; exact hf
theorem Ev.out {α : Type} {g : Nat → Option α} {r : α} (h : Ev g r) : ∃ k, g k = some r := h.rounds
theorem Ev.same {α : Type} {g f : Nat → Option α} {r : α} (h : ∀ k, g k = f k) (hf : Ev f r) : Ev g r := Ev.congr h hf

end Go.Proofs.Ytlohmpgbjgidpac.Q
namespace Go.Proofs.Ytlohmpgbjgidpac.Q
open Go.RowKit Go.Proofs.Ytlohmpgbjgidpac.P Go.Proofs.YtlohmpgbjgidpacW.PrintWords Go.Proofs.YtlohmpgbjgidpacW.PrintLast
/- What the printed functions on lists of numbers come to: copies, comparisons, marks. -/
theorem toIntS_loop (xs : List Int) (hn : xs.length < 9223372036854775807) : ∀ (d : Nat) (i : Nat) (ys : List Int), i + d = xs.length → ys.length = xs.length →
  Ev (fun k => laws_toIntS.l0 k xs ys i) (ys.take i ++ xs.drop i) := by
 intro d
 induction d with
 | zero =>
  intro i ys h hl
  refine Ev.step (fun k => by rw [laws_toIntS.l0]) ?_
  repeat (first | refine Ev.pos (by omega) ?_ | refine Ev.neg (by omega) ?_)
  rw [List.take_of_length_le (by omega), List.drop_of_length_le (by omega), List.append_nil]
  exact Ev.now _
 | succ d ih =>
  intro i ys h hl
  refine Ev.step (fun k => by rw [laws_toIntS.l0]) ?_
  repeat (first | refine Ev.pos (by omega) ?_ | refine Ev.neg (by omega) ?_)
  rw [w64n (by omega), rdg (by omega), Int.toNat_natCast]
  have := ih (i + 1) (ys.set i xs[i]) (by omega) (by simpa using hl)
  rw [List.take_succ_eq_append_getElem (by simp; omega), List.getElem_set_self, List.take_set_of_le (by omega), List.append_assoc, List.singleton_append, ← List.drop_eq_getElem_cons (by omega)] at this
  exact this
theorem toIntS_ev (xs : List Int) (hn : xs.length ≤ 35184372088832) : Ev (fun k => laws_toIntS.f k xs) xs := by
 refine Ev.same (fun k => by rw [laws_toIntS.f]) ?_
 repeat (first | refine Ev.pos (by omega) ?_ | refine Ev.neg (by omega) ?_)
 have := toIntS_loop xs (by omega) xs.length 0 (List.replicate xs.length 0) (by omega) (by simp)
 simpa using this
theorem eqIntS_loop (xs ys : List Int) (hl : xs.length = ys.length) (hn : xs.length < 9223372036854775807) : ∀ (d : Nat) (i : Nat), i + d = xs.length →
  Ev (fun k => laws_eqIntS.l0 k xs ys i) (decide (xs.drop i = ys.drop i)) := by
 intro d
 induction d with
 | zero =>
  intro i h
  refine Ev.step (fun k => by rw [laws_eqIntS.l0]) ?_
  repeat (first | refine Ev.pos (by omega) ?_ | refine Ev.neg (by omega) ?_)
  rw [List.drop_of_length_le (by omega), List.drop_of_length_le (by omega)]
  exact Ev.now _
 | succ d ih =>
  intro i h
  refine Ev.step (fun k => by rw [laws_eqIntS.l0]) ?_
  repeat (first | refine Ev.pos (by omega) ?_ | refine Ev.neg (by omega) ?_)
  rw [rdg (by omega), rdg (by omega), List.drop_eq_getElem_cons (l := xs) (i := i) (by omega), List.drop_eq_getElem_cons (l := ys) (i := i) (by omega)]
  by_cases e : xs[i] = ys[i]
  ·refine Ev.pos e ?_
   rw [w64n (by omega), decide_eq_decide.2 (show _ ↔ xs.drop (i + 1) = ys.drop (i + 1) from ⟨fun h => (List.cons.inj h).2, fun h => by rw [e, h]⟩)]
   exact ih (i + 1) (by omega)
  ·refine Ev.neg e ?_
   rw [decide_eq_false fun h => e (List.cons.inj h).1]
   exact Ev.now _
theorem eqIntS_ev (xs ys : List Int) (hn : xs.length < 9223372036854775807) : Ev (fun k => laws_eqIntS.f k xs ys) (decide (xs = ys)) := by
 refine Ev.same (fun k => by rw [laws_eqIntS.f]) ?_
 by_cases h : xs.length = ys.length
 ·refine Ev.pos (by omega) ?_
  simpa using eqIntS_loop xs ys h hn xs.length 0 (by omega)
 ·refine Ev.neg (by omega) ?_
  have : decide (xs = ys) = false := decide_eq_false fun e => h (by rw [e])
  rw [this]
  exact Ev.now _
theorem eqIntS_self (xs : List Int) (hn : xs.length < 9223372036854775807) : Ev (fun k => laws_eqIntS.f k xs xs) true := by
 simpa using eqIntS_ev xs xs hn
/-- The marks of a list: numbers one behind the other. -/
def marks (n : Nat) (a : Int) : List Int := (List.range n).map fun (j : Nat) => wrap64 (a + (j : Int))
theorem wrap_add (a b : Int) : wrap64 (wrap64 a + b) = wrap64 (a + b) := by unfold wrap64; omega
theorem marks_length (n : Nat) (a : Int) : (marks n a).length = n := by simp [marks]
theorem marks_get (n : Nat) (a : Int) (i : Nat) (h : i < n) : (marks n a)[i]'(by simpa [marks] using h) = wrap64 (a + (i : Int)) := by simp [marks]
theorem markIntS_loop (hk : Int) : ∀ (d : Nat) (i : Nat) (ys : List Int), i + d = ys.length → ys.length < 9223372036854775807 → wrap64 hk = hk →
  Ev (fun k => laws_markIntS.l0 k ys (wrap64 (hk + (i : Int))) i) (wrap64 (hk + (ys.length : Int)), ys.take i ++ (marks ys.length hk).drop i) := by
 intro d
 induction d with
 | zero =>
  intro i ys h hn hw
  refine Ev.step (fun k => by rw [laws_markIntS.l0]) ?_
  repeat (first | refine Ev.pos (by omega) ?_ | refine Ev.neg (by omega) ?_)
  rw [List.take_of_length_le (by omega), List.drop_of_length_le (by rw [marks_length]; omega), List.append_nil, show i = ys.length by omega]
  exact Ev.now _
 | succ d ih =>
  intro i ys h hn hw
  refine Ev.step (fun k => by rw [laws_markIntS.l0]) ?_
  repeat (first | refine Ev.pos (by omega) ?_ | refine Ev.neg (by omega) ?_)
  rw [w64n (by omega), Int.toNat_natCast, wrap_add]
  have := ih (i + 1) (ys.set i (wrap64 (hk + (i : Int)))) (by simpa using by omega) (by simpa using hn) hw
  rw [List.length_set, List.take_succ_eq_append_getElem (by simp; omega), List.getElem_set_self, List.take_set_of_le (by omega), List.append_assoc, List.singleton_append,
   ← marks_get ys.length hk i (by omega), ← List.drop_eq_getElem_cons (by rw [marks_length]; omega)] at this
  rw [show hk + (i : Int) + 1 = hk + ((i + 1 : Nat) : Int) by omega]
  rw [← marks_get ys.length hk i (by omega)]
  exact this
theorem markIntS_ev (xs : List Int) (a : Int) (hn : xs.length < 9223372036854775807) (hw : wrap64 a = a) : Ev (fun k => laws_markIntS.f k xs a) (wrap64 (a + (xs.length : Int)), marks xs.length a) := by
 refine Ev.same (fun k => by rw [laws_markIntS.f]) ?_
 have := markIntS_loop a xs.length 0 xs (by omega) hn hw
 simpa [hw] using this
theorem heldIntS_loop (n : Nat) (a : Int) (hn : n < 9223372036854775807) : ∀ (d : Nat) (i : Nat), i + d = n →
  Ev (fun k => laws_heldIntS.l0 k (marks n a) (wrap64 (a + (i : Int))) i) (wrap64 (a + (n : Int))) := by
 intro d
 induction d with
 | zero =>
  intro i h
  refine Ev.step (fun k => by rw [laws_heldIntS.l0]) ?_
  have := marks_length n a
  repeat (first | refine Ev.pos (by omega) ?_ | refine Ev.neg (by omega) ?_)
  rw [show i = n by omega]
  exact Ev.now _
 | succ d ih =>
  intro i h
  refine Ev.step (fun k => by rw [laws_heldIntS.l0]) ?_
  have := marks_length n a
  repeat (first | refine Ev.pos (by omega) ?_ | refine Ev.neg (by omega) ?_)
  rw [rdg (by omega), marks_get n a i (by omega)]
  refine Ev.pos rfl ?_
  rw [w64n (by omega), wrap_add, show a + (i : Int) + 1 = a + ((i + 1 : Nat) : Int) by omega]
  exact ih (i + 1) (by omega)
theorem heldIntS_ev (n : Nat) (a : Int) (hn : n < 9223372036854775807) (hw : wrap64 a = a) : Ev (fun k => laws_heldIntS.f k (marks n a) a) (wrap64 (a + (n : Int))) := by
 refine Ev.same (fun k => by rw [laws_heldIntS.f]) ?_
 have := heldIntS_loop n a hn n 0 (by omega)
 simpa [hw] using this

end Go.Proofs.Ytlohmpgbjgidpac.Q
namespace Go.Proofs.Ytlohmpgbjgidpac.Q
open Go.RowKit Go.Proofs.Ytlohmpgbjgidpac.P Go.Proofs.YtlohmpgbjgidpacW.PrintWords Go.Proofs.YtlohmpgbjgidpacW.PrintLast
/- Permutations: the two PermOk functions tell whether a list of at most 24 numbers is a permutation. -/
def permFrom (n : Nat) : List Int → List Int → Bool
 | [], _ => true
 | x :: r, pre => (decide (0 ≤ x) && decide (x < (n : Int))) && (!(pre.contains x) && permFrom n r (pre ++ [x]))
def permB (l : List Int) : Bool := decide (l.length ≤ 24) && permFrom l.length l []
/-- A permutation of the numbers from 0 up to its length. -/
structure IsPerm (l : List Int) : Prop where
 lo : ∀ x ∈ l, 0 ≤ x
 hi : ∀ x ∈ l, x < (l.length : Int)
 nodup : l.Nodup
theorem permFrom_iff (n : Nat) : ∀ (r pre : List Int), permFrom n r pre = true ↔ (∀ x ∈ r, 0 ≤ x ∧ x < (n : Int)) ∧ (∀ x ∈ r, x ∉ pre) ∧ r.Nodup
 | [], pre => by simp [permFrom]
 | x :: r, pre => by
  rw [permFrom, Bool.and_eq_true, Bool.and_eq_true, Bool.and_eq_true, permFrom_iff n r (pre ++ [x])]
  simp only [decide_eq_true_eq, Bool.not_eq_true', List.mem_cons, forall_eq_or_imp, List.nodup_cons, List.mem_append, List.mem_singleton, not_or, List.contains_eq_mem, decide_eq_false_iff_not]
  constructor
  ·rintro ⟨⟨h1, h2⟩, h3, h4, h5, h6⟩
   exact ⟨⟨⟨h1, h2⟩, h4⟩, ⟨h3, fun y hy => (h5 y hy).1⟩, fun hx => (h5 x hx).2.1 rfl, h6⟩
  ·rintro ⟨⟨⟨h1, h2⟩, h4⟩, ⟨h3, h5⟩, h6, h7⟩
   exact ⟨⟨h1, h2⟩, h3, h4, fun y hy => ⟨h5 y hy, fun e => h6 (e ▸ hy), fun h => by cases h⟩, h7⟩
theorem permB_iff (l : List Int) : permB l = true ↔ l.length ≤ 24 ∧ IsPerm l := by
 rw [permB, Bool.and_eq_true, decide_eq_true_eq, permFrom_iff]
 exact ⟨fun ⟨a, b, _, d⟩ => ⟨a, fun x hx => (b x hx).1, fun x hx => (b x hx).2, d⟩, fun ⟨a, b⟩ => ⟨a, fun x hx => ⟨b.lo x hx, b.hi x hx⟩, (fun _ _ h => by cases h), b.nodup⟩⟩
theorem spec_has_loop (l : List Int) (x : Int) (hn : l.length < 9223372036854775807) : ∀ (d i : Nat), i + d = l.length → Ev (fun k => spec_l02Has.l0 k x l (l.length : Int) i) ((l.drop i).contains x) := by
 intro d
 induction d with
 | zero =>
  intro i h
  refine Ev.step (fun k => by rw [spec_l02Has.l0]) (Ev.neg (by omega) ?_)
  rw [List.drop_of_length_le (by omega)]
  exact Ev.now _
 | succ d ih =>
  intro i h
  refine Ev.step (fun k => by rw [spec_l02Has.l0]) (Ev.pos (by omega) (Ev.pos (by omega) (Ev.pos (by omega) ?_)))
  have hi := ih (i + 1) (by omega)
  rw [rdg (by omega), w64n (by omega), List.drop_eq_getElem_cons (by omega), List.contains_cons]
  by_cases e : l[i] = x
  ·refine Ev.pos e ?_
   rw [show (x == l[i]) = true by simp [e], Bool.true_or]
   exact Ev.now _
  ·refine Ev.neg e ?_
   rw [show (x == l[i]) = false by simpa using fun h => e h.symm, Bool.false_or]
   exact hi
theorem spec_has_ev (l : List Int) (x : Int) (hn : l.length < 9223372036854775807) : Ev (fun k => spec_l02Has.f k l x) (l.contains x) :=
 Ev.same (fun k => by rw [spec_l02Has.f]; rfl) (spec_has_loop l x hn l.length 0 (by omega))
theorem in_some (a lo hi : Int) : spec_l01In.f a lo hi = some (decide (lo ≤ a) && decide (a ≤ hi)) := by
 unfold spec_l01In.f
 by_cases h : a ≥ lo
 ·rw [if_pos h, decide_eq_true (show lo ≤ a from h), Bool.true_and]
 ·rw [if_neg h, decide_eq_false (show ¬ lo ≤ a from h), Bool.false_and]
theorem spec_perm_loop (l : List Int) (hn : l.length < 9223372036854775807) : ∀ (d i : Nat), i + d = l.length → Ev (fun k => spec_PermOk.l0 k l l (l.length : Int) i) (permFrom l.length (l.drop i) (l.take i)) := by
 intro d
 induction d with
 | zero =>
  intro i h
  refine Ev.step (fun k => by rw [spec_PermOk.l0]) (Ev.neg (by omega) ?_)
  rw [List.drop_of_length_le (by omega)]
  exact Ev.now _
 | succ d ih =>
  intro i h
  refine Ev.step (fun k => by rw [spec_PermOk.l0]) (Ev.pos (by omega) (Ev.pos (by omega) (Ev.pos (by omega) ?_)))
  have hi := ih (i + 1) (by omega)
  rw [rdg (by omega), w64n (by omega), List.drop_eq_getElem_cons (by omega), permFrom, ← List.take_succ_eq_append_getElem (by omega), w64 (by omega) (by omega)]
  refine Ev.plain (in_some _ _ _) ?_
  have e : (decide (0 ≤ l[i]) && decide (l[i] ≤ (l.length : Int) - 1)) = (decide (0 ≤ l[i]) && decide (l[i] < (l.length : Int))) := by
   rw [show decide (l[i] ≤ (l.length : Int) - 1) = decide (l[i] < (l.length : Int)) from decide_eq_decide.2 (by omega)]
  rw [e]
  by_cases c : (decide (0 ≤ l[i]) && decide (l[i] < (l.length : Int))) = true
  ·refine Ev.pos c (Ev.pos (by omega) ?_)
   rw [c, Bool.true_and, Int.toNat_natCast]
   refine Ev.bind (spec_has_ev _ _ (by rw [List.length_take]; omega)) ?_
   by_cases b : (l.take i).contains l[i] = true
   ·refine Ev.pos b ?_
    rw [b, Bool.not_true, Bool.false_and]
    exact Ev.now _
   ·refine Ev.neg b ?_
    rw [show (l.take i).contains l[i] = false by simpa using b, Bool.not_false, Bool.true_and]
    exact hi
  ·refine Ev.neg c ?_
   rw [show (decide (0 ≤ l[i]) && decide (l[i] < (l.length : Int))) = false by simpa using c, Bool.false_and]
   exact Ev.now _
theorem spec_PermOk_ev (l : List Int) (hn : l.length < 9223372036854775807) : Ev (fun k => spec_PermOk.f k l) (permB l) := by
 refine Ev.same (fun k => by rw [spec_PermOk.f]) ?_
 by_cases h : (l.length : Int) > 24
 ·refine Ev.pos h ?_
  rw [permB, decide_eq_false (show ¬ l.length ≤ 24 by omega), Bool.false_and]
  exact Ev.now _
 ·refine Ev.neg h ?_
  rw [permB, decide_eq_true (show l.length ≤ 24 by omega), Bool.true_and]
  exact spec_perm_loop l hn l.length 0 (by omega)
theorem permOkL_from (n : Nat) (hn : n ≤ 24) : ∀ (r pre : List Int) (seen : List Bool), seen.length = 24 → (∀ x : Int, 0 ≤ x → x < 24 → rdOf false seen x = pre.contains x) → permOkL r n seen = permFrom n r pre
 | [], pre, seen, hl, hs => rfl
 | x :: r, pre, seen, hl, hs => by
  rw [permOkL, permFrom]
  by_cases h1 : x < 0
  ·rw [if_pos h1, decide_eq_false (show ¬ 0 ≤ x by omega), Bool.false_and, Bool.false_and]
  rw [if_neg h1, decide_eq_true (show 0 ≤ x by omega), Bool.true_and]
  by_cases h2 : (n : Int) ≤ x
  ·rw [if_pos h2, decide_eq_false (show ¬ x < (n : Int) by omega), Bool.false_and]
  rw [if_neg h2, decide_eq_true (show x < (n : Int) by omega), Bool.true_and, hs x (by omega) (by omega)]
  by_cases h3 : pre.contains x = true
  ·rw [if_pos h3, h3, Bool.not_true, Bool.false_and]
  rw [if_neg h3, show pre.contains x = false by simpa using h3, Bool.not_false, Bool.true_and]
  refine permOkL_from n hn r _ _ (by rw [List.length_set, hl]) fun y hy0 hy1 => ?_
  have := hs y hy0 hy1
  simp only [rdOf] at this ⊢
  by_cases e : y = x
  ·subst e
   have hlt : y.toNat < seen.length := by omega
   simp [List.getD, hlt]
  ·have hne : x.toNat ≠ y.toNat := by omega
   have h4 : (pre ++ [x]).contains y = pre.contains y := by
    simp [e]
   rw [h4, ← this]
   simp [List.getD, List.getElem?_set_ne hne]
theorem rd_false (n : Nat) (x : Int) : rdOf false (List.replicate n false) x = false := by
 simp only [rdOf, List.getD, List.getElem?_replicate]
 split <;> rfl
theorem impl_PermOk_some (l : List Int) : impl_PermOk.f l = some (permB l) := by
 rw [impl_PermOk.f, permB]
 by_cases h : (l.length : Int) > 24
 ·rw [if_pos h, decide_eq_false (show ¬ l.length ≤ 24 by omega), Bool.false_and]
 ·rw [if_neg h, decide_eq_true (show l.length ≤ 24 by omega), Bool.true_and, permOkL_from l.length (by omega) l [] _ (by simp)]
  intro x h0 h1
  rw [rd_false]
  rfl

end Go.Proofs.Ytlohmpgbjgidpac.Q
namespace Go.Proofs.Ytlohmpgbjgidpac.Q
open Go.RowKit Go.Proofs.Ytlohmpgbjgidpac.P Go.Proofs.YtlohmpgbjgidpacW.PrintWords Go.Proofs.YtlohmpgbjgidpacW.PrintLast
/- Permutations: every number below the length is met; inverse, product, renaming as lists. -/
theorem pig : ∀ (n : Nat) (l : List Int), l.Nodup → (∀ x ∈ l, 0 ≤ x ∧ x < (n : Int)) → l.length ≤ n
 | 0, l, _, h => by
  cases l with
  | nil => simp
  | cons x r => have := h x (by simp); omega
 | n + 1, l, hd, h => by
  by_cases hm : (n : Int) ∈ l
  ·have := pig n (l.erase (n : Int)) (hd.erase _) (fun x hx => by
    have h1 := (hd.mem_erase_iff).1 hx
    have h2 := h x h1.2
    have h3 := h1.1
    omega)
   rw [List.length_erase_of_mem hm] at this
   omega
  ·have := pig n l hd (fun x hx => by
    have h2 := h x hx
    have : x ≠ (n : Int) := fun e => hm (e ▸ hx)
    omega)
   omega
theorem IsPerm.mem {p : List Int} (h : IsPerm p) {j : Int} (h0 : 0 ≤ j) (h1 : j < (p.length : Int)) : j ∈ p := by
 apply Classical.byContradiction
 intro hn
 have := pig p.length (j :: p) (List.nodup_cons.2 ⟨hn, h.nodup⟩) (fun x hx => by
  rcases List.mem_cons.1 hx with e | e
  ·subst e; exact ⟨h0, h1⟩
  ·exact ⟨h.lo x e, h.hi x e⟩)
 simp only [List.length_cons] at this
 omega
theorem IsPerm.get_lo {p : List Int} (h : IsPerm p) {i : Nat} (hi : i < p.length) : 0 ≤ p[i] := h.lo _ (List.getElem_mem hi)
theorem IsPerm.get_hi {p : List Int} (h : IsPerm p) {i : Nat} (hi : i < p.length) : p[i] < (p.length : Int) := h.hi _ (List.getElem_mem hi)
theorem IsPerm.inj {p : List Int} (h : IsPerm p) {i j : Nat} (hi : i < p.length) (hj : j < p.length) (e : p[i] = p[j]) : i = j := by
 have H := List.pairwise_iff_getElem.1 h.nodup
 rcases Nat.lt_trichotomy i j with hlt | he | hgt
 ·exact absurd e (H i j hi hj hlt)
 ·exact he
 ·exact absurd e.symm (H j i hj hi hgt)
/-- The place of a number in a list. -/
def posOf (p : List Int) (j : Int) : Nat := p.idxOf j
theorem posOf_lt {p : List Int} {j : Int} (h : j ∈ p) : posOf p j < p.length := List.idxOf_lt_length_iff.2 h
theorem posOf_get {p : List Int} {j : Int} (h : j ∈ p) : p[posOf p j]'(posOf_lt h) = j := by
 unfold posOf; exact List.getElem_idxOf (posOf_lt h)
theorem IsPerm.posOf_at {p : List Int} (h : IsPerm p) {i : Nat} (hi : i < p.length) : posOf p p[i] = i :=
 h.inj (posOf_lt (List.getElem_mem hi)) hi (posOf_get (List.getElem_mem hi))
/-- The inverse. -/
def invL (p : List Int) : List Int := (List.range p.length).map fun (j : Nat) => (posOf p (j : Int) : Int)
/-- The product: first p, then q. -/
def thenL (p q : List Int) : List Int := p.map (rd q ·)
/-- The renamed permutation. -/
def renL (p q : List Int) : List Int := thenL (invL q) (thenL p q)
theorem invL_length (p : List Int) : (invL p).length = p.length := by simp [invL]
theorem thenL_length (p q : List Int) : (thenL p q).length = p.length := by simp [thenL]
theorem renL_length (p q : List Int) : (renL p q).length = q.length := by simp [renL, thenL, invL]
theorem invL_get (p : List Int) {j : Nat} (h : j < p.length) : (invL p)[j]'(by rw [invL_length]; exact h) = (posOf p (j : Int) : Int) := by simp [invL]
theorem thenL_get (p q : List Int) {j : Nat} (h : j < p.length) : (thenL p q)[j]'(by rw [thenL_length]; exact h) = rd q p[j] := by simp [thenL]
theorem rd_of {q : List Int} {x : Int} (h0 : 0 ≤ x) (h1 : x < (q.length : Int)) : rd q x = q[x.toNat]'(by omega) := by
 obtain ⟨n, rfl⟩ := Int.eq_ofNat_of_zero_le h0
 rw [rdg (by omega)]
 simp
theorem nodup_of_inj {l : List Int} (h : ∀ (i j : Nat) (hi : i < l.length) (hj : j < l.length), l[i] = l[j] → i = j) : l.Nodup := by
 refine List.pairwise_iff_getElem.2 fun i j hi hj hlt e => ?_
 have := h i j hi hj e
 omega
theorem IsPerm.mk' {l : List Int} (hb : ∀ (i : Nat) (hi : i < l.length), 0 ≤ l[i] ∧ l[i] < (l.length : Int)) (h : ∀ (i j : Nat) (hi : i < l.length) (hj : j < l.length), l[i] = l[j] → i = j) : IsPerm l where
 lo := fun x hx => by obtain ⟨i, hi, rfl⟩ := List.getElem_of_mem hx; exact (hb i hi).1
 hi := fun x hx => by obtain ⟨i, hi, rfl⟩ := List.getElem_of_mem hx; exact (hb i hi).2
 nodup := nodup_of_inj h
theorem IsPerm.then {p q : List Int} (h : IsPerm p) (hq : IsPerm q) (hl : p.length = q.length) : IsPerm (thenL p q) := by
 refine IsPerm.mk' (fun i hi => ?_) (fun i j hi hj e => ?_)
 ·rw [thenL_length] at hi
  rw [thenL_get p q hi, thenL_length]
  have a := h.get_lo hi
  have b := h.get_hi hi
  rw [rd_of a (by omega)]
  have := hq.get_lo (i := p[i].toNat) (by omega)
  have := hq.get_hi (i := p[i].toNat) (by omega)
  omega
 ·rw [thenL_length] at hi hj
  rw [thenL_get p q hi, thenL_get p q hj] at e
  have a := h.get_lo hi
  have b := h.get_hi hi
  have c := h.get_lo hj
  have d := h.get_hi hj
  rw [rd_of a (by omega), rd_of c (by omega)] at e
  have := hq.inj (by omega) (by omega) e
  exact h.inj hi hj (by omega)

end Go.Proofs.Ytlohmpgbjgidpac.Q
namespace Go.Proofs.Ytlohmpgbjgidpac.Q
open Go.RowKit Go.Proofs.Ytlohmpgbjgidpac.P Go.Proofs.YtlohmpgbjgidpacW.PrintWords Go.Proofs.YtlohmpgbjgidpacW.PrintLast
/- What is met from a square by two permutations: the reference's list, and the program's. -/
def addNew (out : List Int) (x : Int) : List Int := if out.contains x = true then out else out ++ [x]
def reachF (p q : List Int) : Nat → List Int → Nat → List Int
 | 0, out, _ => out
 | d + 1, out, a => if a < out.length then reachF p q d (addNew (addNew out (rd p (rd out (a : Int)))) (rd q (rd out (a : Int)))) (a + 1) else out
theorem wr1 : wrap64 (0 + 1) = 1 := w64 (by omega) (by omega)
theorem wr2 : wrap64 (1 + 1) = 2 := w64 (by omega) (by omega)
/-- The squares in the order in which they are met. -/
def reachL (p q : List Int) (s : Int) : List Int := reachF p q (p.length + 1) [s] 0
/-- A list of different numbers below n. -/
structure Few (n : Nat) (out : List Int) : Prop where
 lo : ∀ x ∈ out, 0 ≤ x
 hi : ∀ x ∈ out, x < (n : Int)
 nodup : out.Nodup
theorem Few.len {n : Nat} {out : List Int} (h : Few n out) : out.length ≤ n := pig n out h.nodup fun x hx => ⟨h.lo x hx, h.hi x hx⟩
theorem mem_addNew {out : List Int} {x y : Int} : y ∈ addNew out x ↔ y ∈ out ∨ y = x := by
 unfold addNew
 split
 ·rename_i h
  constructor
  ·exact .inl
  ·rintro (h' | rfl)
   ·exact h'
   ·simpa using h
 ·simp
theorem Few.add {n : Nat} {out : List Int} (h : Few n out) {x : Int} (h0 : 0 ≤ x) (h1 : x < (n : Int)) : Few n (addNew out x) where
 lo := fun y hy => (mem_addNew.1 hy).elim (h.lo y) fun e => by rw [e]; exact h0
 hi := fun y hy => (mem_addNew.1 hy).elim (h.hi y) fun e => by rw [e]; exact h1
 nodup := by
  unfold addNew
  split
  ·exact h.nodup
  ·rename_i h'
   rw [List.nodup_append]
   refine ⟨h.nodup, by simp, ?_⟩
   intro a ha b hb e
   simp only [List.mem_singleton] at hb
   subst hb; subst e
   exact h' (by simpa using ha)
theorem addNew_length (out : List Int) (x : Int) : out.length ≤ (addNew out x).length := by
 unfold addNew
 split
 ·omega
 ·simp
theorem rd_perm {p : List Int} (hp : IsPerm p) {x : Int} (h0 : 0 ≤ x) (h1 : x < (p.length : Int)) : 0 ≤ rd p x ∧ rd p x < (p.length : Int) := by
 rw [rd_of h0 h1]
 exact ⟨hp.get_lo _, hp.get_hi _⟩
theorem rd_mem {out : List Int} {a : Nat} (h : a < out.length) : rd out (a : Int) ∈ out := by rw [rdg h]; exact List.getElem_mem h
theorem few_one {n : Nat} {s : Int} (h0 : 0 ≤ s) (h1 : s < (n : Int)) : Few n [s] := ⟨by simpa using h0, by simpa using h1, by simp⟩
theorem spec_reach_loop (p q : List Int) (hp : IsPerm p) (hq : IsPerm q) (hl : p.length = q.length) (hn : p.length ≤ 24) : ∀ (d a : Nat) (out : List Int), p.length + 1 ≤ a + d → a ≤ out.length → Few p.length out →
  Ev (fun k => spec_l02Reach.l0 k p q out (a : Int)) (reachF p q d out a) := by
 intro d
 induction d with
 | zero => intro a out h ha hf; have := hf.len; omega
 | succ d ih =>
  intro a out h ha hf
  have len := hf.len
  refine Ev.step (fun k => by rw [spec_l02Reach.l0]) ?_
  rw [reachF]
  by_cases c : a < out.length
  ·rw [if_pos c]
   have m := rd_mem c
   have x0 := hf.lo _ m
   have x1 := hf.hi _ m
   have bp := rd_perm hp x0 x1
   have bq := rd_perm hq x0 (by omega)
   have f1 := hf.add bp.1 bp.2
   have f2 := f1.add bq.1 (by omega)
   have l1 := addNew_length out (rd p (rd out (a : Int)))
   have l2 := addNew_length (addNew out (rd p (rd out (a : Int)))) (rd q (rd out (a : Int)))
   have n1 := f1.len
   have n2 := f2.len
   have next := ih (a + 1) _ (by omega) (by omega) f2
   refine Ev.pos (by omega) (Ev.pos (by omega) (Ev.pos x0 (Ev.pos x1 (Ev.pos (by omega) (Ev.plain rfl ?_)))))
   generalize rd p (rd out (a : Int)) = x at *
   generalize rd q (rd out (a : Int)) = y at *
   have r0 : rd [x, y] 0 = x := rfl
   have r1 : rd [x, y] 1 = y := rfl
   have tail : ∀ o : List Int, o.length ≤ 24 → addNew o y = addNew (addNew out x) y → Ev (fun k => spec_l02Reach.l1 k p q o (a : Int) [x, y] 2 1) (reachF p q d (addNew (addNew out x) y) (a + 1)) := by
    intro o ho e
    refine Ev.step (fun k => by rw [spec_l02Reach.l1]) (Ev.pos (by omega) (Ev.pos (by omega) (Ev.pos (by simp) ?_)))
    rw [r1]
    refine Ev.bind (spec_has_ev o y (by omega)) ?_
    by_cases b : o.contains y = true
    ·refine Ev.pos b (Ev.step (fun k => by rw [spec_l02Reach.l1]) (Ev.neg (by rw [wr2]; omega) ?_))
     rw [w64n (by omega)]
     rw [addNew, if_pos b] at e
     rw [e]; exact next
    ·refine Ev.neg b (Ev.pos (by omega) (Ev.step (fun k => by rw [spec_l02Reach.l1]) (Ev.neg (by rw [wr2]; omega) ?_)))
     rw [w64n (by omega)]
     rw [addNew, if_neg b] at e
     rw [e]; exact next
   refine Ev.step (fun k => by rw [spec_l02Reach.l1]) (Ev.pos (by simp) (Ev.pos (by omega) (Ev.pos (by simp) ?_)))
   rw [r0, wr1]
   refine Ev.bind (spec_has_ev out x (by omega)) ?_
   by_cases b : out.contains x = true
   ·refine Ev.pos b ?_
    exact tail out (by omega) (by rw [show addNew out x = out by rw [addNew, if_pos b]])
   ·refine Ev.neg b (Ev.pos (by omega) ?_)
    have e : addNew out x = out ++ [x] := by rw [addNew, if_neg b]
    rw [← e]
    exact tail _ (by omega) rfl
  ·rw [if_neg c]
   exact Ev.neg (by omega) (Ev.now _)
theorem spec_l02Reach_ev (p q : List Int) (hp : IsPerm p) (hq : IsPerm q) (hl : p.length = q.length) (hn : p.length ≤ 24) {s : Int} (h0 : 0 ≤ s) (h1 : s < (p.length : Int)) : Ev (fun k => spec_l02Reach.f k p q s) (reachL p q s) :=
 Ev.same (fun k => by rw [spec_l02Reach.f]; rfl) (spec_reach_loop p q hp hq hl hn (p.length + 1) 0 [s] (by omega) (by simp) (few_one h0 h1))

end Go.Proofs.Ytlohmpgbjgidpac.Q
namespace Go.Proofs.Ytlohmpgbjgidpac.Q
open Go.RowKit Go.Proofs.Ytlohmpgbjgidpac.P Go.Proofs.YtlohmpgbjgidpacW.PrintWords Go.Proofs.YtlohmpgbjgidpacW.PrintLast
/- The two IsTransitive functions tell whether every square is met from the first one. -/
theorem seen_set {seen : List Bool} {out : List Int} {n : Nat} (hl : seen.length = n) (hs : ∀ x : Int, 0 ≤ x → x < (n : Int) → rdOf false seen x = out.contains x) {y : Int} (h0 : 0 ≤ y) (h1 : y < (n : Int)) :
  ∀ x : Int, 0 ≤ x → x < (n : Int) → rdOf false (seen.set y.toNat true) x = (out ++ [y]).contains x := by
 intro x x0 x1
 have := hs x x0 x1
 simp only [rdOf] at this ⊢
 by_cases e : x = y
 ·subst e
  have hlt : x.toNat < seen.length := by omega
  simp [List.getD, hlt]
 ·have hne : y.toNat ≠ x.toNat := by omega
  have h4 : (out ++ [y]).contains x = out.contains x := by simp [e]
  rw [h4, ← this]
  simp [List.getD, List.getElem?_set_ne hne]
theorem impl_trans_loop (p q : List Int) (hp : IsPerm p) (hq : IsPerm q) (hl : p.length = q.length) (hn : p.length ≤ 24) : ∀ (d a : Nat) (out : List Int) (seen : List Bool), p.length + 1 ≤ a + d → a ≤ out.length → Few p.length out →
  seen.length = p.length → (∀ x : Int, 0 ≤ x → x < (p.length : Int) → rdOf false seen x = out.contains x) →
  Ev (fun k => impl_IsTransitive.l0 k p q seen out (a : Int)) (decide ((reachF p q d out a).length = p.length)) := by
 intro d
 induction d with
 | zero => intro a out seen h ha hf; have := hf.len; omega
 | succ d ih =>
  intro a out seen h ha hf sl hs
  have len := hf.len
  refine Ev.step (fun k => by rw [impl_IsTransitive.l0]) ?_
  rw [reachF]
  by_cases c : a < out.length
  ·rw [if_pos c]
   have m := rd_mem c
   have x0 := hf.lo _ m
   have x1 := hf.hi _ m
   have bp := rd_perm hp x0 x1
   have bq := rd_perm hq x0 (by omega)
   have f1 := hf.add bp.1 bp.2
   have f2 := f1.add bq.1 (by omega)
   have l1 := addNew_length out (rd p (rd out (a : Int)))
   have l2 := addNew_length (addNew out (rd p (rd out (a : Int)))) (rd q (rd out (a : Int)))
   have n1 := f1.len
   have n2 := f2.len
   have next := fun s => ih (a + 1) _ s (by omega) (by omega) f2
   refine Ev.pos (by omega) (Ev.pos (by omega) (Ev.pos x0 (Ev.pos x1 (Ev.pos (by omega) (Ev.plain rfl ?_)))))
   rw [← hl] at bq
   generalize rd p (rd out (a : Int)) = x at *
   generalize rd q (rd out (a : Int)) = y at *
   have r0 : rd [x, y] 0 = x := rfl
   have r1 : rd [x, y] 1 = y := rfl
   have tail : ∀ (o : List Int) (s : List Bool), o.length ≤ 24 → addNew o y = addNew (addNew out x) y → s.length = p.length → (∀ x : Int, 0 ≤ x → x < (p.length : Int) → rdOf false s x = o.contains x) →
     Ev (fun k => impl_IsTransitive.l1 k p q s o (a : Int) [x, y] 2 1) (decide ((reachF p q d (addNew (addNew out x) y) (a + 1)).length = p.length)) := by
    intro o s ho e hsl hso
    refine Ev.step (fun k => by rw [impl_IsTransitive.l1]) (Ev.pos (by omega) (Ev.pos (by omega) (Ev.pos (by simp) ?_)))
    rw [r1]
    refine Ev.pos (by omega) (Ev.pos (by omega) ?_)
    rw [hso y bq.1 bq.2]
    by_cases b : o.contains y = true
    ·refine Ev.pos b (Ev.step (fun k => by rw [impl_IsTransitive.l1]) (Ev.neg (by rw [wr2]; omega) ?_))
     rw [w64n (by omega)]
     rw [addNew, if_pos b] at e
     rw [← e] at next
     rw [← e]
     exact next s hsl hso
    ·refine Ev.neg b (Ev.pos (by omega) (Ev.step (fun k => by rw [impl_IsTransitive.l1]) (Ev.neg (by rw [wr2]; omega) ?_)))
     rw [w64n (by omega)]
     rw [addNew, if_neg b] at e
     rw [← e] at next
     rw [← e]
     exact next _ (by rw [List.length_set, hsl]) (seen_set hsl hso bq.1 bq.2)
   refine Ev.step (fun k => by rw [impl_IsTransitive.l1]) (Ev.pos (by simp) (Ev.pos (by omega) (Ev.pos (by simp) ?_)))
   rw [r0, wr1]
   refine Ev.pos (by omega) (Ev.pos (by omega) ?_)
   rw [hs x bp.1 bp.2]
   by_cases b : out.contains x = true
   ·refine Ev.pos b ?_
    exact tail out seen (by omega) (by rw [show addNew out x = out by rw [addNew, if_pos b]]) sl hs
   ·refine Ev.neg b (Ev.pos (by omega) ?_)
    have e : addNew out x = out ++ [x] := by rw [addNew, if_neg b]
    have ss := seen_set sl hs bp.1 bp.2
    rw [← e] at ss ⊢
    exact tail _ _ (by omega) rfl (by rw [List.length_set, sl]) ss
  ·rw [if_neg c]
   refine Ev.neg (by omega) ?_
   rw [show ((out.length : Int) == (p.length : Int)) = decide (out.length = p.length) by rw [Bool.eq_iff_iff]; simp; omega]
   exact Ev.now _
/-- What IsTransitive returns. -/
def transB (p q : List Int) : Bool := permB p && (permB q && (decide (p.length = q.length) && (decide (0 < p.length) && decide ((reachL p q 0).length = p.length))))
theorem spec_IsTransitive_ev (p q : List Int) (hp : p.length < 9223372036854775807) (hq : q.length < 9223372036854775807) : Ev (fun k => spec_IsTransitive.f k p q) (transB p q) := by
 refine Ev.same (fun k => by rw [spec_IsTransitive.f]) (Ev.bind (spec_PermOk_ev p hp) ?_)
 unfold transB
 by_cases h : permB p = true
 ·refine Ev.pos h (Ev.bind (spec_PermOk_ev q hq) ?_)
  rw [h, Bool.true_and]
  by_cases h' : permB q = true
  ·rw [h', Bool.true_and]
   refine Ev.pos rfl ?_
   by_cases e : p.length = q.length
   ·rw [decide_eq_true e, Bool.true_and]
    refine Ev.pos (by omega) ?_
    by_cases z : 0 < p.length
    ·rw [decide_eq_true z, Bool.true_and]
     have a := (permB_iff p).1 h
     have b := (permB_iff q).1 h'
     refine Ev.pos (by omega) (Ev.bind (spec_l02Reach_ev p q a.2 b.2 e a.1 (s := 0) (by omega) (by omega)) ?_)
     rw [show (((reachL p q 0).length : Int) == (p.length : Int)) = decide ((reachL p q 0).length = p.length) by rw [Bool.eq_iff_iff]; simp; omega]
     exact Ev.now _
    ·rw [decide_eq_false z, Bool.false_and]
     exact Ev.neg (by omega) (Ev.now _)
   ·rw [decide_eq_false e, Bool.false_and]
    exact Ev.neg (by omega) (Ev.now _)
  ·rw [show permB q = false by simpa using h', Bool.false_and]
   exact Ev.neg (by simp) (Ev.now _)
 ·rw [show permB p = false by simpa using h, Bool.false_and]
  exact Ev.neg (by simp) (Ev.now _)
theorem impl_IsTransitive_ev (p q : List Int) : Ev (fun k => impl_IsTransitive.f k p q) (transB p q) := by
 have no : Ev (fun k => impl_IsTransitive.j0 k p q true) false := Ev.step (fun k => by rw [impl_IsTransitive.j0]) (Ev.pos rfl (Ev.now _))
 refine Ev.same (fun k => by rw [impl_IsTransitive.f]) (Ev.plain (impl_PermOk_some p) ?_)
 unfold transB
 by_cases h : permB p = true
 ·refine Ev.pos h (Ev.plain (impl_PermOk_some q) ?_)
  rw [h, Bool.true_and]
  by_cases h' : permB q = true
  ·rw [h', Bool.true_and]
   refine Ev.pos rfl ?_
   by_cases e : p.length = q.length
   ·rw [decide_eq_true e, Bool.true_and]
    refine Ev.pos (by omega) ?_
    by_cases z : 0 < p.length
    ·rw [decide_eq_true z, Bool.true_and, show ((p.length : Int) == 0) = false by rw [beq_eq_false_iff_ne]; omega]
     have a := (permB_iff p).1 h
     have b := (permB_iff q).1 h'
     refine Ev.step (fun k => by rw [impl_IsTransitive.j0]) (Ev.neg (by simp) (Ev.pos (by omega) (Ev.pos (by omega) (Ev.plain rfl ?_))))
     refine Ev.pos (by simp; omega) ?_
     refine impl_trans_loop p q a.2 b.2 e a.1 (p.length + 1) 0 [0] _ (by omega) (by simp) (few_one (by omega) (by omega)) (by simp) ?_
     have := seen_set (seen := List.replicate p.length false) (out := []) (n := p.length) (by simp) (fun x _ _ => by rw [rd_false]; rfl) (y := 0) (by omega) (by omega)
     simpa using this
    ·rw [decide_eq_false z, Bool.false_and, show ((p.length : Int) == 0) = true by rw [beq_iff_eq]; omega]
     exact no
   ·rw [decide_eq_false e, Bool.false_and]
    exact Ev.neg (by omega) no
  ·rw [show permB q = false by simpa using h', Bool.false_and]
   exact Ev.neg (by simp) no
 ·rw [show permB p = false by simpa using h, Bool.false_and]
  exact Ev.neg (by simp) no

end Go.Proofs.Ytlohmpgbjgidpac.Q
namespace Go.Proofs.Ytlohmpgbjgidpac.Q
open Go.RowKit Go.Proofs.Ytlohmpgbjgidpac.P Go.Proofs.YtlohmpgbjgidpacW.PrintWords Go.Proofs.YtlohmpgbjgidpacW.PrintLast
/- Surfaces: two lists; sizes, copies, comparisons. -/
theorem sz_some (l : List Int) (a : Int) (h0 : 0 ≤ a) (h1 : a ≤ 1048576) (hn : l.length ≤ 9223372036854775807) : laws_szIntS.f l a = some (if a < (l.length : Int) then -1 else a - (l.length : Int)) := by
 rw [laws_szIntS.f, w64 (by omega) (by omega)]
 by_cases c : a < (l.length : Int)
 ·rw [if_pos (by omega), if_pos c]
 ·rw [if_neg (by omega), if_neg c]
/-- The two lists are within what is left of the bound. -/
theorem szS_big (r u : List Int) (a : Int) (h0 : 0 ≤ a) (h1 : a ≤ 1048576) (hr : r.length ≤ 9223372036854775807) (hu : u.length ≤ 9223372036854775807) (h : a < (r.length : Int) + (u.length : Int)) : laws_szSurface.f r u a = some (-1) := by
 rw [laws_szSurface.f, sz_some r a h0 h1 hr]
 by_cases c : a < (r.length : Int)
 ·rw [if_pos c, Option.bind_some, if_pos (by omega)]
 ·rw [if_neg c, Option.bind_some, if_neg (by omega), sz_some u _ (by omega) (by omega) hu, if_pos (by omega), Option.bind_some, if_pos (by omega)]
theorem szS_small (r u : List Int) (a : Int) (h1 : a ≤ 1048576) (h : (r.length : Int) + (u.length : Int) ≤ a) : laws_szSurface.f r u a = some (a - (r.length : Int) - (u.length : Int)) := by
 rw [laws_szSurface.f, sz_some r a (by omega) h1 (by omega), if_neg (by omega), Option.bind_some, if_neg (by omega), sz_some u _ (by omega) (by omega) (by omega), if_neg (by omega), Option.bind_some, if_neg (by omega)]
theorem toSurface_ev (r u : List Int) (hr : r.length ≤ 35184372088832) (hu : u.length ≤ 35184372088832) : Ev (fun k => laws_toSurface.f k r u) (r, u) :=
 Ev.same (fun k => by rw [laws_toSurface.f]) (Ev.bind (toIntS_ev r hr) (Ev.bind (toIntS_ev u hu) (Ev.now (r, u))))
theorem eqSurface_self (r u : List Int) (hr : r.length < 9223372036854775807) (hu : u.length < 9223372036854775807) : Ev (fun k => laws_eqSurface.f k r u r u) true :=
 Ev.same (fun k => by rw [laws_eqSurface.f]) (Ev.bind (eqIntS_self r hr) (Ev.pos rfl (Ev.bind (eqIntS_self u hu) (Ev.pos rfl (Ev.now _)))))

end Go.Proofs.Ytlohmpgbjgidpac.Q
namespace Go.Proofs.Ytlohmpgbjgidpac.Q
open Go.RowKit Go.Proofs.Ytlohmpgbjgidpac.P Go.Proofs.YtlohmpgbjgidpacW.PrintWords Go.Proofs.YtlohmpgbjgidpacW.PrintLast
/- Marks of a surface's two lists. -/
theorem w1 (n : Nat) (h : n ≤ 1048576) : wrap64 (1 + (n : Int)) = 1 + (n : Int) := w64 (by omega) (by omega)
theorem markSurface_ev (r u : List Int) (hr : r.length ≤ 24) (hu : u.length ≤ 24) : Ev (fun k => laws_markSurface.f k r u 1) (1 + (r.length : Int) + (u.length : Int), marks r.length 1, marks u.length (1 + (r.length : Int))) := by
 refine Ev.same (fun k => by rw [laws_markSurface.f]) ?_
 refine Ev.bind (markIntS_ev r 1 (by omega) (w64 (by omega) (by omega))) ?_
 rw [w1 _ (by omega)]
 refine Ev.bind (markIntS_ev u (1 + (r.length : Int)) (by omega) (w64 (by omega) (by omega))) ?_
 rw [w64 (by omega) (by omega)]
 exact Ev.now _
theorem heldSurface_ev (n m : Nat) (hn : n ≤ 24) (hm : m ≤ 24) : Ev (fun k => laws_heldSurface.f k (marks n 1) (marks m (1 + (n : Int))) 1) (1 + (n : Int) + (m : Int)) := by
 refine Ev.same (fun k => by rw [laws_heldSurface.f]) ?_
 refine Ev.bind (heldIntS_ev n 1 (by omega) (w64 (by omega) (by omega))) ?_
 rw [w1 _ (by omega)]
 refine Ev.neg (by omega) ?_
 refine Ev.bind (heldIntS_ev m (1 + (n : Int)) (by omega) (w64 (by omega) (by omega))) ?_
 rw [w64 (by omega) (by omega)]
 exact Ev.neg (by omega) (Ev.now _)
theorem markSurface_any (r u : List Int) (h : (r.length : Int) + (u.length : Int) ≤ 1048576) : Ev (fun k => laws_markSurface.f k r u 1) (1 + (r.length : Int) + (u.length : Int), marks r.length 1, marks u.length (1 + (r.length : Int))) := by
 refine Ev.same (fun k => by rw [laws_markSurface.f]) ?_
 refine Ev.bind (markIntS_ev r 1 (by omega) (w64 (by omega) (by omega))) ?_
 rw [w1 _ (by omega)]
 refine Ev.bind (markIntS_ev u (1 + (r.length : Int)) (by omega) (w64 (by omega) (by omega))) ?_
 rw [w64 (by omega) (by omega)]
 exact Ev.now _

end Go.Proofs.Ytlohmpgbjgidpac.Q
namespace Go.Proofs.Ytlohmpgbjgidpac.Q
open Go.RowKit Go.Proofs.Ytlohmpgbjgidpac.P Go.Proofs.YtlohmpgbjgidpacW.PrintWords Go.Proofs.YtlohmpgbjgidpacW.PrintLast
/- The two SurfaceOk functions. -/
theorem spec_SurfaceOk_ev (r u : List Int) (hr : r.length < 9223372036854775807) (hu : u.length < 9223372036854775807) : Ev (fun k => spec_SurfaceOk.f k r u) (transB r u) :=
 Ev.same (fun k => by rw [spec_SurfaceOk.f]) (Ev.bind (spec_IsTransitive_ev r u hr hu) (Ev.now _))
theorem impl_SurfaceOk_ev (r u : List Int) : Ev (fun k => impl_SurfaceOk.f k r u) (transB r u) :=
 Ev.same (fun k => by rw [impl_SurfaceOk.f]) (Ev.bind (impl_IsTransitive_ev r u) (Ev.now _))
/-- What is known of a valid surface. -/
structure IsSurf (r u : List Int) : Prop where
 right : IsPerm r
 up : IsPerm u
 same : r.length = u.length
 pos : 0 < r.length
 le : r.length ≤ 24
 all : (reachL r u 0).length = r.length
theorem transB_iff (r u : List Int) : transB r u = true ↔ IsSurf r u := by
 unfold transB
 simp only [Bool.and_eq_true, decide_eq_true_eq, permB_iff]
 exact ⟨fun ⟨⟨a, b⟩, ⟨_, d⟩, e, f, g⟩ => ⟨b, d, e, f, a, g⟩, fun ⟨a, b, c, d, e, f⟩ => ⟨⟨e, a⟩, ⟨by omega, b⟩, c, d, f⟩⟩

end Go.Proofs.Ytlohmpgbjgidpac.Q
namespace Go.Proofs.Ytlohmpgbjgidpac.Q
open Go.RowKit Go.Proofs.Ytlohmpgbjgidpac.P Go.Proofs.YtlohmpgbjgidpacW.PrintWords Go.Proofs.YtlohmpgbjgidpacW.PrintLast
/- What RenameSurface returns. -/
def renSB (r u q : List Int) : List Int × List Int × Bool := if transB r u = true ∧ permB q = true ∧ q.length = r.length then (renL r q, renL u q, true) else ([], [], false)
theorem renSB_length (r u q : List Int) : (renSB r u q).1.length ≤ 24 ∧ (renSB r u q).2.1.length ≤ 24 := by
 unfold renSB
 split
 ·rename_i h
  simp only [renL_length]
  have := ((permB_iff q).1 h.2.1).1
  omega
 ·simp

end Go.Proofs.Ytlohmpgbjgidpac.Q
namespace Go.Proofs.Ytlohmpgbjgidpac.Q
open Go.RowKit Go.Proofs.Ytlohmpgbjgidpac.P Go.Proofs.YtlohmpgbjgidpacW.PrintWords Go.Proofs.YtlohmpgbjgidpacW.PrintLast
/- A list that is filled place by place along a permutation. -/
def fillAt (q : List Int) (g : Nat → Int) (i : Nat) : List Int := (List.range q.length).map fun (j : Nat) => if posOf q (j : Int) < i then g (posOf q (j : Int)) else 0
theorem fillAt_length (q : List Int) (g : Nat → Int) (i : Nat) : (fillAt q g i).length = q.length := by simp [fillAt]
theorem fillAt_get (q : List Int) (g : Nat → Int) (i : Nat) {j : Nat} (h : j < q.length) : (fillAt q g i)[j]'(by rw [fillAt_length]; exact h) = if posOf q (j : Int) < i then g (posOf q (j : Int)) else 0 := by simp [fillAt]
theorem fillAt_zero (q : List Int) (g : Nat → Int) : fillAt q g 0 = List.replicate q.length 0 := by
 apply List.ext_getElem (by rw [fillAt_length, List.length_replicate])
 intro j h1 h2
 rw [fillAt_length] at h1
 rw [fillAt_get q g 0 h1]
 simp
theorem fillAt_set {q : List Int} (hq : IsPerm q) (g : Nat → Int) {i : Nat} (hi : i < q.length) : (fillAt q g i).set (q[i]).toNat (g i) = fillAt q g (i + 1) := by
 apply List.ext_getElem (by rw [List.length_set, fillAt_length, fillAt_length])
 intro j h1 h2
 rw [fillAt_length] at h2
 rw [fillAt_get q g (i + 1) h2, List.getElem_set]
 have m := hq.mem (j := (j : Int)) (by omega) (by omega)
 have a := posOf_get m
 have l0 := hq.get_lo hi
 split
 ·rename_i e
  have e2 : (j : Int) = q[i] := by omega
  rw [e2, hq.posOf_at hi]
  simp
 ·rename_i e
  rw [fillAt_get q g i h2]
  have hne : posOf q (j : Int) ≠ i := by
   intro e2
   simp only [e2] at a
   omega
  by_cases c : posOf q (j : Int) < i
  ·rw [if_pos c, if_pos (by omega)]
  ·rw [if_neg c, if_neg (by omega)]
theorem fill_ren {p q : List Int} (hq : IsPerm q) (hl : p.length = q.length) : fillAt q (fun i => rd q (rd p (i : Int))) q.length = renL p q := by
 apply List.ext_getElem (by rw [fillAt_length, renL_length])
 intro j h1 h2
 rw [renL_length] at h2
 rw [fillAt_get q _ _ h2]
 have m := hq.mem (j := (j : Int)) (by omega) (by omega)
 have lt := posOf_lt m
 rw [if_pos lt]
 show _ = (thenL (invL q) (thenL p q))[j]'(by rw [thenL_length, invL_length]; exact h2)
 rw [thenL_get _ _ (by rw [invL_length]; exact h2), invL_get q h2, rdg (xs := thenL p q) (by rw [thenL_length]; omega), thenL_get p q (by omega), rdg (xs := p) (by omega)]

end Go.Proofs.Ytlohmpgbjgidpac.Q
namespace Go.Proofs.Ytlohmpgbjgidpac.Q
open Go.RowKit Go.Proofs.Ytlohmpgbjgidpac.P Go.Proofs.YtlohmpgbjgidpacW.PrintWords Go.Proofs.YtlohmpgbjgidpacW.PrintLast
/- The two RenamePerm functions. -/
theorem spec_ren_loop (p q : List Int) (hp : IsPerm p) (hq : IsPerm q) (hl : p.length = q.length) (hn : p.length ≤ 24) : ∀ (d i : Nat), i + d = p.length →
  Ev (fun k => spec_l02Rename.l0 k q (fillAt q (fun i => rd q (rd p (i : Int))) i) p (p.length : Int) i) (renL p q) := by
 intro d
 induction d with
 | zero =>
  intro i h
  refine Ev.step (fun k => by rw [spec_l02Rename.l0]) (Ev.neg (by omega) ?_)
  rw [show i = q.length by omega, fill_ren hq hl]
  exact Ev.now _
 | succ d ih =>
  intro i h
  have a := hp.get_lo (i := i) (by omega)
  have b := hp.get_hi (i := i) (by omega)
  have a' := hq.get_lo (i := i) (by omega)
  have b' := hq.get_hi (i := i) (by omega)
  refine Ev.step (fun k => by rw [spec_l02Rename.l0]) ?_
  have s := fillAt_set hq (fun i => rd q (rd p (i : Int))) (i := i) (by omega)
  rw [rdg (xs := p) (by omega)] at s
  rw [rdg (xs := p) (by omega), rdg (xs := q) (i := i) (by omega), w64n (by omega), fillAt_length, s]
  refine Ev.pos (by omega) (Ev.pos (by omega) (Ev.pos (by omega) (Ev.pos (by omega) (Ev.pos (by omega) (Ev.pos (by omega) (Ev.pos (by omega) (Ev.pos (by omega) ?_)))))))
  exact ih (i + 1) (by omega)
theorem spec_l02Rename_ev (p q : List Int) (hp : IsPerm p) (hq : IsPerm q) (hl : p.length = q.length) (hn : p.length ≤ 24) : Ev (fun k => spec_l02Rename.f k p q) (renL p q) := by
 refine Ev.same (fun k => by rw [spec_l02Rename.f]) (Ev.pos (by omega) (Ev.pos (by omega) ?_))
 have := spec_ren_loop p q hp hq hl hn p.length 0 (by omega)
 rw [fillAt_zero, ← hl] at this
 simpa using this
/-- What RenamePerm returns. -/
def renB (p q : List Int) : List Int := if permB p = true ∧ permB q = true ∧ p.length = q.length then renL p q else []
theorem impl_ren_loop (p q : List Int) (hp : IsPerm p) (hq : IsPerm q) (hl : p.length = q.length) (hn : p.length ≤ 24) : ∀ (d i : Nat), i + d = p.length →
  Ev (fun k => impl_RenamePerm.l0 k q (fillAt q (fun i => rd q (rd p (i : Int))) i) p (p.length : Int) i) (renL p q) := by
 intro d
 induction d with
 | zero =>
  intro i h
  refine Ev.step (fun k => by rw [impl_RenamePerm.l0]) (Ev.neg (by omega) ?_)
  rw [show i = q.length by omega, fill_ren hq hl]
  exact Ev.now _
 | succ d ih =>
  intro i h
  have a := hp.get_lo (i := i) (by omega)
  have b := hp.get_hi (i := i) (by omega)
  have a' := hq.get_lo (i := i) (by omega)
  have b' := hq.get_hi (i := i) (by omega)
  refine Ev.step (fun k => by rw [impl_RenamePerm.l0]) ?_
  have s := fillAt_set hq (fun i => rd q (rd p (i : Int))) (i := i) (by omega)
  rw [rdg (xs := p) (by omega)] at s
  rw [rdg (xs := p) (by omega), rdg (xs := q) (i := i) (by omega), w64n (by omega), fillAt_length, s]
  refine Ev.pos (by omega) (Ev.pos (by omega) (Ev.pos (by omega) (Ev.pos (by omega) (Ev.pos (by omega) (Ev.pos (by omega) (Ev.pos (by omega) (Ev.pos (by omega) ?_)))))))
  exact ih (i + 1) (by omega)
theorem impl_RenamePerm_ev (p q : List Int) : Ev (fun k => impl_RenamePerm.f k p q) (renB p q) := by
 have no : Ev (fun k => impl_RenamePerm.j0 k p q true) [] := Ev.step (fun k => by rw [impl_RenamePerm.j0]) (Ev.pos rfl (Ev.now _))
 refine Ev.same (fun k => by rw [impl_RenamePerm.f]) (Ev.plain (impl_PermOk_some p) ?_)
 unfold renB
 by_cases h : permB p = true
 ·refine Ev.pos h (Ev.plain (impl_PermOk_some q) ?_)
  by_cases h' : permB q = true
  ·refine Ev.pos h' ?_
   by_cases e : p.length = q.length
   ·rw [if_pos ⟨h, h', e⟩, show ((p.length : Int) != (q.length : Int)) = false by simp [e]]
    have hp := (permB_iff p).1 h
    refine Ev.step (fun k => by rw [impl_RenamePerm.j0]) (Ev.neg (by simp) (Ev.pos (by omega) (Ev.pos (by omega) ?_)))
    have := impl_ren_loop p q hp.2 ((permB_iff q).1 h').2 e hp.1 p.length 0 (by omega)
    rw [fillAt_zero, ← e] at this
    simpa using this
   ·rw [if_neg (fun z => e z.2.2), show ((p.length : Int) != (q.length : Int)) = true by simp; omega]
    exact no
  ·rw [if_neg (fun z => h' z.2.1)]
   exact Ev.neg h' no
 ·rw [if_neg (fun z => h z.1)]
  exact Ev.neg h no

end Go.Proofs.Ytlohmpgbjgidpac.Q
namespace Go.Proofs.Ytlohmpgbjgidpac.Q
open Go.RowKit Go.Proofs.Ytlohmpgbjgidpac.P Go.Proofs.YtlohmpgbjgidpacW.PrintWords Go.Proofs.YtlohmpgbjgidpacW.PrintLast
/- The reference's renaming. -/
theorem spec_l03Rename_ev {r u q : List Int} (h : IsSurf r u) (hq : IsPerm q) (hl : q.length = r.length) : Ev (fun k => spec_l03Rename.f k r u q) (renL r q, renL u q) := by
 have := h.same
 have := h.le
 refine Ev.same (fun k => by rw [spec_l03Rename.f]) (Ev.bind (spec_l02Rename_ev r q h.right hq hl.symm h.le) ?_)
 exact Ev.bind (spec_l02Rename_ev u q h.up hq (by omega) (by omega)) (Ev.now (renL r q, renL u q))
theorem spec_RenameSurface_ev (r u q : List Int) (hr : r.length < 9223372036854775807) (hu : u.length < 9223372036854775807) (hq : q.length < 9223372036854775807) : Ev (fun k => spec_RenameSurface.f k r u q) (renSB r u q) := by
 refine Ev.same (fun k => by rw [spec_RenameSurface.f]) (Ev.bind (spec_SurfaceOk_ev r u hr hu) ?_)
 unfold renSB
 by_cases h : transB r u = true
 ·refine Ev.pos h (Ev.bind (spec_PermOk_ev q hq) ?_)
  by_cases h' : permB q = true
  ·refine Ev.pos h' ?_
   by_cases e : q.length = r.length
   ·rw [if_pos ⟨h, h', e⟩]
    exact Ev.pos (by omega) (Ev.bind (spec_l03Rename_ev ((transB_iff r u).1 h) ((permB_iff q).1 h').2 e) (Ev.now _))
   ·rw [if_neg (fun z => e z.2.2)]
    exact Ev.neg (by omega) (Ev.now _)
  ·rw [if_neg (fun z => h' z.2.1)]
   exact Ev.neg h' (Ev.now _)
 ·rw [if_neg (fun z => h z.1)]
  exact Ev.neg h (Ev.now _)

end Go.Proofs.Ytlohmpgbjgidpac.Q
namespace Go.Proofs.Ytlohmpgbjgidpac.Q
open Go.RowKit Go.Proofs.Ytlohmpgbjgidpac.P Go.Proofs.YtlohmpgbjgidpacW.PrintWords Go.Proofs.YtlohmpgbjgidpacW.PrintLast
/- What the four moves make of a valid surface. -/
theorem IsSurf.permR {r u : List Int} (h : IsSurf r u) : permB r = true := (permB_iff r).2 ⟨h.le, h.right⟩
theorem IsSurf.permU {r u : List Int} (h : IsSurf r u) : permB u = true := (permB_iff u).2 ⟨by have := h.same; have := h.le; omega, h.up⟩

end Go.Proofs.Ytlohmpgbjgidpac.Q
namespace Go.Proofs.Ytlohmpgbjgidpac.Q
open Go.RowKit Go.Proofs.Ytlohmpgbjgidpac.P Go.Proofs.YtlohmpgbjgidpacW.PrintWords Go.Proofs.YtlohmpgbjgidpacW.PrintLast
/- The program's renaming. -/
theorem impl_RenameSurface_ev (r u q : List Int) : Ev (fun k => impl_RenameSurface.f k r u q) (renSB r u q) := by
 have no : Ev (fun k => impl_RenameSurface.j0 k q true r u) ([], [], false) := Ev.step (fun k => by rw [impl_RenameSurface.j0]) (Ev.pos rfl (Ev.now _))
 refine Ev.same (fun k => by rw [impl_RenameSurface.f]) (Ev.bind (impl_SurfaceOk_ev r u) ?_)
 unfold renSB
 by_cases h : transB r u = true
 ·refine Ev.pos h (Ev.plain (impl_PermOk_some q) ?_)
  by_cases h' : permB q = true
  ·refine Ev.pos h' ?_
   by_cases e : q.length = r.length
   ·rw [if_pos ⟨h, h', e⟩, show ((q.length : Int) != (r.length : Int)) = false by simp [e]]
    have s := (transB_iff r u).1 h
    have := s.same
    refine Ev.step (fun k => by rw [impl_RenameSurface.j0]) (Ev.neg (by simp) (Ev.bind (impl_RenamePerm_ev r q) ?_))
    rw [renB, if_pos ⟨s.permR, h', by omega⟩]
    refine Ev.bind (impl_RenamePerm_ev u q) ?_
    rw [renB, if_pos ⟨s.permU, h', by omega⟩]
    exact Ev.now _
   ·rw [if_neg (fun z => e z.2.2), show ((q.length : Int) != (r.length : Int)) = true by simp; omega]
    exact no
  ·rw [if_neg (fun z => h' z.2.1)]
   exact Ev.neg h' no
 ·rw [if_neg (fun z => h z.1)]
  exact Ev.neg h no

end Go.Proofs.Ytlohmpgbjgidpac.Q
namespace Go.Proofs.Ytlohmpgbjgidpac.Pure
open Go.RowKit Go.Proofs.Ytlohmpgbjgidpac.P Go.Proofs.YtlohmpgbjgidpacW.PrintWords Go.Proofs.YtlohmpgbjgidpacW.PrintLast Go.Proofs.Ytlohmpgbjgidpac.Q

theorem FnExactRenameSurface : laws_FnExactRenameSurface.Pure := by
 intro r u q hr _ hu _ hq _ _
 have hm : maxLen ≤ 9223372036854775807 := by decide
 refine Ev.out ?_
 refine Ev.same (fun k => by rw [laws_FnExactRenameSurface.f]) ?_
 by_cases hb : (q.length : Int) > 1048576
 ·exact Ev.pos hb (Ev.now _)
 refine Ev.neg hb ?_
 by_cases h : (1048576 : Int) < (r.length : Int) + (u.length : Int)
 ·refine Ev.plain (szS_big r u _ (by omega) (by omega) (by omega) (by omega) h) ?_
  exact Ev.pos (by omega) (Ev.now _)
 refine Ev.plain (szS_small r u _ (by omega) (by omega)) ?_
 refine Ev.neg (by omega) ?_
 have hl := renSB_length r u q
 refine Ev.bind (toSurface_ev r u (by omega) (by omega)) (Ev.bind (toIntS_ev q (by omega)) ?_)
 refine Ev.bind (spec_RenameSurface_ev r u q (by omega) (by omega) (by omega)) ?_
 refine Ev.bind (toSurface_ev r u (by omega) (by omega)) (Ev.bind (toIntS_ev q (by omega)) ?_)
 refine Ev.bind (impl_RenameSurface_ev r u q) ?_
 refine Ev.bind (eqSurface_self _ _ (by omega) (by omega)) (Ev.pos rfl ?_)
 refine Ev.step (fun k => by rw [laws_FnExactRenameSurface.j0]) (Ev.neg (by simp) ?_)
 refine Ev.bind (toSurface_ev r u (by omega) (by omega)) ?_
 refine Ev.bind (eqSurface_self r u (by omega) (by omega)) (Ev.pos rfl ?_)
 refine Ev.bind (toIntS_ev q (by omega)) (Ev.bind (eqIntS_self q (by omega)) (Ev.pos rfl ?_))
 refine Ev.bind (markSurface_any r u (by omega)) ?_
 refine Ev.bind (markIntS_ev q (1 + (r.length : Int) + (u.length : Int)) (by omega) (w64 (by omega) (by omega))) ?_
 refine Ev.neg (by rw [w64 (by omega) (by omega)]; omega) ?_
 refine Ev.bind (eqSurface_self _ _ (by omega) (by omega)) (Ev.pos rfl ?_)
 refine Ev.step (fun k => by rw [laws_FnExactRenameSurface.j1]) (Ev.neg (by simp) ?_)
 refine Ev.bind (markSurface_ev _ _ hl.1 hl.2) ?_
 refine Ev.bind (heldSurface_ev _ _ hl.1 hl.2) ?_
 refine Ev.neg (by omega) (Ev.pos rfl ?_)
 refine Ev.bind (toSurface_ev r u (by omega) (by omega)) (Ev.bind (toIntS_ev q (by omega)) ?_)
 refine Ev.bind (impl_RenameSurface_ev r u q) ?_
 refine Ev.bind (eqSurface_self _ _ (by omega) (by omega)) (Ev.pos rfl ?_)
 refine Ev.step (fun k => by rw [laws_FnExactRenameSurface.j2]) (Ev.neg (by simp) ?_)
 refine Ev.bind (heldSurface_ev _ _ hl.1 hl.2) ?_
 exact Ev.neg (by omega) (Ev.pos rfl (Ev.now _))

end Go.Proofs.Ytlohmpgbjgidpac.Pure
